/- Part 3 of the proof: lemmas on walks and the walks of the functions, in their order. -/
import Derived.Test.YtkcgkignhpepkaaGreatDoorZ2
import Derived.Scope
import Derived.OpenShut
import Derived.TacticsIn
set_option linter.unusedSimpArgs false
set_option linter.unusedVariables false
set_option linter.unusedSectionVars false
set_option linter.constructorNameAsVariable false
/- The statement 'for .. range f'. -/
namespace Hs
open Go Go.RowKit
section
variable {P : Program} {α β : Type}
theorem SatC.frag {X : Ctx} {C : Cfg} {st : St} {a : Act} {w : World} (h : SatC P X C st a w) {HR H : List (Nat × Ob)} (hHR : ∀ l ob, get HR l = some ob → ∃ ob1, get st.heap l = some ob1 ∧ ObImp P ob1 ob) (hH : ∀ l ob, get H l = some ob → ∃ ob1, get st.heap l = some ob1 ∧ ObImp P ob1 ob) : Frag P X.G C w HR H := by
 have inH : ∀ l ob, get (HR ++ H) l = some ob → ∃ ob1, get st.heap l = some ob1 ∧ ObImp P ob1 ob := fun l ob hl => by
  rw [c8] at hl
  cases hg : get HR l with
  | some ob' => rw [hg] at hl; simp at hl; subst hl; exact hHR l ob' hg
  | none => rw [hg] at hl; exact hH l ob (by simpa using hl)
 refine ⟨fun l ob hl => ?_, fun l l' b R R' ob ob' h1 h2 => ?_, fun l ob b R o' hl => ?_, h.dLt, fun b q k hb => ?_, h.gl⟩
 ·obtain ⟨ob1, k1, k2, k3⟩ := inH l ob hl
  obtain ⟨b, f1, _, f3⟩ := h.heap l ob1 k1
  exact ⟨b, by rw [← k2]; exact f1, k3 _ _ _ _ f3⟩
 ·obtain ⟨p1, f1, _⟩ := inH l ob h1
  obtain ⟨p2, f2, _⟩ := inH l' ob' h2
  exact h.inj l l' b R R' p1 p2 f1 f2
 ·obtain ⟨p1, f1, _⟩ := inH l ob hl
  exact h.dObj l p1 b R o' f1
 ·obtain ⟨_, g2, g3, g4⟩ := h.own b q k hb
  refine ⟨g2, g3, fun l ob R hl => ?_⟩
  obtain ⟨p1, f1, _⟩ := inH l ob hl
  exact g4 l p1 R f1
theorem SatC.turn {X : Ctx} {C : Cfg} {st : St} {a : Act} {w : World} {lam l : Nat} {r3 : Loop} (r4 : Loop) (s3 : SatC P X C st a w) (g3 : get st.heap lam = some (.loop r3)) (hR : lam ∉ X.R) (k2 : C.ρ lam = some (l, .loop)) : w.heap[l]? = some (.loop r3) ∧ SatC P X C ⟨st.env, (lam, .loop r4) :: st.heap⟩ a (w.putObj l (.loop r4)) := by
 obtain ⟨b, e1, e2, e3⟩ := s3.heap lam _ g3
 have k1 : w.heap[l]? = some (.loop r3) := by
  rw [k2] at e1
  simp at e1
  rw [e1.1];exact e3
 refine ⟨k1, ?_⟩
 have hlt := C8 k1
 have hcell : ∀ b o, (w.putObj l (.loop r4)).cell? ⟨b, o, none⟩ = w.cell? ⟨b, o, none⟩ := fun b o => by
  by_cases e : b = l
  ·subst e
   simp only [World.cell?, World.putObj_heap_same hlt, k1]
  ·simp only [World.cell?, World.putObj_heap_other e]
 have hty : TyKeep w (w.putObj l (.loop r4)) := fun b c E hb => ⟨c, by
  have : b ≠ l := fun e => by subst e; rw [k1] at hb; cases hb
  rw [World.putObj_heap_other this]; exact hb⟩
 have st1 : ∀ (ls : List Nat) keep, Stays C C w (w.putObj l (.loop r4)) ls keep := fun ls keep =>
  ⟨fun b o hD => ⟨hD, hcell b o⟩, fun _ _ => rfl, fun b q k hb _ => ⟨hb, World.putObj_heap_other fun e => by
   subst e
   exact (s3.own b q k hb).2.2.2 lam _ _ g3 k2⟩, hty⟩
 refine s3.write (w' := w.putObj l (.loop r4)) (ob' := .loop r4) g3 hR k2 rfl ⟨rfl, rfl, rfl, by simp, fun b' hb => World.putObj_heap_other hb, hty⟩ st.env rfl rfl (fun b1 q k hb => ⟨q, hb⟩) (fun i v hv => ?_) (fun l' ob1 _ _ => st1 _ _) (World.putObj_heap_same hlt) (st1 _ _)
 obtain ⟨y, h1, h2⟩ := s3.env i v hv
 exact ⟨y, h1, h2.mono (st1 _ _)⟩
theorem SatC.marked {X : Ctx} {C : Cfg} {st : St} {a : Act} {w : World} (h : SatC P X C st a w) : SatC P X C st { a with defers := { target := .collected w.heap.size, args := #[] } :: a.defers } (w.alloc (.deferred (some []))) := by
 have g := Grew.alloc w (.deferred (some []))
 have h1 := h.grew g (CGrew.refl C w _ fun b q k hb hge => absurd (h.own b q k hb).2.1 (Nat.not_lt.2 hge))
 exact { h1 with
  size := h1.size
  defers := by
   refine ⟨List.nodup_cons.2 ⟨fun hm => ?_, h1.defers.1⟩, fun d hd => ?_⟩
   ·obtain ⟨D, e1, _, e3, _⟩ := h.defers.2 _ hm
    simp at e1
    have := C8 e3
    omega
   ·rcases List.mem_cons.1 hd with rfl | hd
    ·refine ⟨w.heap.size, rfl, .inl h.framed.size, World.alloc_heap_new w _, ?_⟩
     cases hc : C.own w.heap.size with
     | none => rfl
     | some q => exact absurd (h.own _ q.1 q.2 hc).2.1 (Nat.lt_irrefl _)
    ·exact h1.defers.2 d hd
  env := h1.env }
def bb4 (env : List (Nat × PV)) (heap : List (Nat × Ob)) (lam : Nat) (L R : List Nat) : Bool :=
 env.all (fun q => !q.2.labs.contains lam) && heap.all (fun q => q.1 != lam && !q.2.labs.contains lam) && !L.contains lam && !R.contains lam
theorem aS1 {env : List (Nat × PV)} {heap : List (Nat × Ob)} {lam : Nat} {L R : List Nat} (h : bb4 env heap lam L R = true) : Fresh ⟨env, heap⟩ lam ∧ get heap lam = none ∧ lam ∉ L ∧ lam ∉ R := by
 unfold bb4 at h
 simp only [Bool.and_eq_true, List.all_eq_true, Bool.not_eq_true', List.contains_eq_mem, decide_eq_false_iff_not, bne_iff_ne, ne_eq] at h
 obtain ⟨⟨⟨h1, h2⟩, h3⟩, h4⟩ := h
 refine ⟨⟨fun i v hv => h1 _ (D1 hv), fun l ob hl _ => (h2 _ (D1 hl)).2⟩, ?_, h3, h4⟩
 cases hg : get heap lam with
 | none => rfl
 | some ob => exact absurd rfl (h2 _ (D1 hg)).1
inductive KeepE (L : List Nat) (env : List (Nat × PV)) : List (Nat × PV) → Prop
 | nil : KeepE L env []
 | cons {i : Nat} {v : PV} {r : List (Nat × PV)} (h : get env i = some v) (k : aR2 v = true) (l : v.labs.all (fun x => L.contains x) = true) (t : KeepE L env r) : KeepE L env ((i, v) :: r)
theorem KeepE.at {L : List Nat} {env r : List (Nat × PV)} (h : KeepE L env r) : ∀ i v, get r i = some v → get env i = some v ∧ aR2 v = true ∧ ∀ l ∈ v.labs, l ∈ L := by
 induction h with
 | nil => intro i v h; cases h
 | cons h k l _ ih =>
  intro i v hv
  rw [f8] at hv
  split at hv
  ·rename_i e
   simp at hv
   subst e hv;exact ⟨h, k, fun x hx => by simpa using List.all_eq_true.1 l x hx⟩
  ·exact ih i v hv
theorem Tri.overFunc {X : Ctx} {env : List (Nat × PV)} {heap : List (Nat × Ob)} {g : Operand} {ps : Array Tmp} {assign body : Code} {Q : Exit → St → Prop} (lam : Nat) (L' L : List Nat) (env' : List (Nat × PV)) {f : FuncId} {vf : PV} {captured : List PV} {HR H : List (Nat × Ob)} {items : List α} {enc : α → List PV} {out : α → Option β} {jc : β → Code} {Ht : β → List (Nat × Ob)}
  (hc : IterC P X.G f captured lam L' HR H items enc out jc Ht)
  (hlen : ∀ x ∈ items, (enc x).length = ps.size)
  (hr : ∀ x ∈ items, ∀ r w0 M ρ0 D0 l, Tri P ⟨w0, X.n, M, X.G, L, e9 HR, ρ0, D0, some l⟩ assign ⟨ps.toList.zip (enc x) ++ env', HR ++ (lam, .loop r) :: H⟩ (ah0 (fun st => get st.heap lam = some (.loop r) ∧
   Tri P ⟨w0, X.n, M, X.G, L, e9 HR, ρ0, D0, some l⟩ body ⟨st.env, (lam, .loop (busy r)) :: st.heap⟩ fun e st => get st.heap lam = some (.loop (busy r)) ∧ bc2 ((out x).map jc) e ∧ OutH P st.heap (match out x with | none => H | some z => Ht z)) fun _ _ => False))
  (hdone : items.findSome? out = none → Q .normal ⟨env, H ++ heap⟩)
  (hstop : ∀ z, items.findSome? out = some z → Tri P X (jc z) ⟨env, Ht z ++ heap⟩ Q)
  (hro : X.ro = none := by rfl) (hg : b9 X.G env g = some vf := by rfl) (hfv : fnV (strip vf) = some (f, [], captured) := by rfl) (he : j8 P f = true := by kernel_rfl)
  (hHR : OutH P heap HR := by repeat (first | exact OutH.nil | refine OutH.cons rfl (ObImp.refl _) ?_)) (hH : InH P X.R heap H := by repeat (first | exact InH.nil | refine InH.cons rfl rfl (ObImp.refl _) ?_))
  (hfr : bb4 env heap lam X.L X.R = true := by rfl) (henv : KeepE L' env env' := by repeat (first | exact KeepE.nil | refine KeepE.cons rfl rfl rfl ?_)) (hlam : L'.contains lam = true := by rfl)
  (hps : ps.toList.Nodup := by decide) (hps2 : (ps.toList.all fun p => decide (p < X.n)) = true := by rfl)
  (hchk : ∀ r z, af9 HR ((lam, .loop r) :: H) (J5 lam r H Ht jc z) (bv z.isNone) L [] = true := by intro r z; cases z <;> rfl)
  (hHs : ∀ z, (e9 (Ht z)).contains lam = false := by intro z; rfl) : Tri P X (.rangeFunc g ps assign body) ⟨env, heap⟩ Q := by
 intro C a w hs
 rw [hro]
 obtain ⟨f1, f2, f3, f4⟩ := aS1 hfr
 refine wpIn_rangeFunc fun fn _ => ?_
 obtain ⟨rc, hrc⟩ : ∃ rc : Loop, rc = { state := .ready, pending := none, fn, tmps := a.tmps, params := ps, assign, body, defers := w.heap.size } := ⟨_, rfl⟩
 have hs1 := hs.marked
 have hs2 := hs1.new (ob := .loop rc) (o := .loop rc) f1 f3 (World.alloc_heap_new _ _)
 obtain ⟨l, hl⟩ : ∃ l, l = (w.alloc (.deferred (some []))).heap.size := ⟨_, rfl⟩
 rw [← hl] at hs2
 obtain ⟨C2, hC2⟩ : ∃ C2, C2 = C.at lam l (Ob.loop rc).root := ⟨_, rfl⟩
 rw [← hC2] at hs2
 have hρ2 : C2.ρ lam = some (l, .loop) := by rw [hC2]; simp [Cfg.at, Ob.root]
 obtain ⟨a', ha'⟩ : ∃ a' : Act, a' = { a with defers := { target := .collected w.heap.size, args := #[] } :: a.defers } := ⟨_, rfl⟩
 rw [← ha'] at hs2
 obtain ⟨w1, hw1⟩ : ∃ w1, w1 = (w.alloc (.deferred (some []))).alloc (.loop rc) := ⟨_, rfl⟩
 rw [← hw1] at hs2
 obtain ⟨xs, ys, e1, e2, e3⟩ := aj0 (hs2.eval (o := g) hg) hfv
 have exs : xs = #[] := by
  have := e2.length
  simp at this
  exact Array.eq_empty_of_size_eq_zero this.symm
 subst exs
 have hmem : ∀ l' ob, get H l' = some ob → l' ≠ lam := fun l' ob hl' e => by
  subst e
  obtain ⟨_, ob1, k1, _⟩ := hH.at _ _ hl'
  rw [f2] at k1
  cases k1
 have hlt : ∀ l' ob, get heap l' = some ob → get ((lam, Ob.loop rc) :: heap) l' = some ob := fun l' ob hl' => by
  rw [f8, if_neg]
  ·exact hl'
  ·intro e
   rw [e, f2] at hl'
   cases hl'
 have F : Frag P X.G C2 w1 HR ((lam, .loop rc) :: H) := hs2.frag (fun l' ob hl' => let ⟨ob1, k1, k2⟩ := hHR.at l' ob hl'; ⟨ob1, hlt _ _ k1, k2⟩) (fun l' ob hl' => by
  rw [f8] at hl'
  split at hl'
  ·rename_i e
   simp at hl'
   subst e hl';exact ⟨_, by simp [get], ObImp.refl _⟩
  ·obtain ⟨_, ob1, k1, k2⟩ := hH.at l' ob hl'
   exact ⟨ob1, hlt _ _ k1, k2⟩)
 have hcall := hc l rc C2 w1 (#[.func (.yield l) #[] #[]] ++ ys) F (by
  have := VFs.cons (P := P) (C := C2) (w := w1) (v := .fn (.yield l) [] []) (x := .func (.yield l) #[] #[]) (VR.fn .nil .nil) rfl e3
  simpa using this) (fun X' q0 _ qG qρ qD qL x hx => YC.of_tri (X1 := X) (C1 := C2) (w1 := w1) (L := L) (env' := env') q0 qρ qD qG hs2 (by rw [qL]; simpa using hlam) hρ2 (by rw [hrc]) (by rw [hrc]) (by rw [hrc, ha']) (fun i v hv => by
   obtain ⟨k1, k2, k3⟩ := henv.at i v hv
   exact ⟨k1, k2, fun x hx => by rw [qL]; exact k3 x hx⟩) (by rw [hrc]; exact hps) (fun p hp => by
    rw [hrc] at hp
    simpa using List.all_eq_true.1 hps2 p hp) (by rw [hrc]; exact hlen x hx) (hchk rc) (fun w0 M ρ0 D0 => by
     have := hr x hx rc w0 M ρ0 D0 l
     rw [hrc] at this ⊢
     exact this))
 refine ⟨l, [{ target := .collected w.heap.size, args := #[] }], w1, { target := .fn (.func f) ys, args := #[.func (.yield l) #[] #[]] }, w1, f, #[.func (.yield l) #[] #[]] ++ ys, w1, ?_, ?_, fun _ _ => trivial, ?_, fun h => by simp [rf, Fence.wide] at h, ?_⟩
 ·rw [hw1, hrc, hl]
  have := run_enterLoop_outer (P := P) (w := w) fn a.tmps ps assign body
  rw [show (rf none).round = none from rfl, this]
  simp
 ·have e1' : a.eval g = .func (.func f) #[] ys := by
   rw [← e1, ha']; rfl
  simp only [resolve, e1']
  simp [go_sem]
 ·simp [invoke, go_sem, J9 he]
 refine (callsIn_wide (n := 0 - 1)).2 (hcall.mono fun e w3 ⟨y, C3, hy, A⟩ => ?_);subst hy
 have hs3 := hs2.called A (fun l' ob hl' => by
  rw [f8] at hl'
  split at hl'
  ·rename_i e
   exact ⟨by rw [e]; exact f4, Ob.loop rc, by rw [e]; simp [get]⟩
  ·obtain ⟨k0, ob1, k1, _⟩ := hH.at l' ob hl'
   exact ⟨k0, ob1, hlt _ _ k1⟩) (fun l' hl' => by cases hl')
 have hρ3 : C3.ρ lam = some (l, .loop) := (A.rho lam (by simp)).trans hρ2
 have hle : ∀ (H' : List (Nat × Ob)) (r3 r4 : Loop), (∀ l' ob, get H' l' = some ob → l' ≠ lam) → St.Le ⟨env, H' ++ heap⟩ ⟨env, (lam, .loop r4) :: ((lam, .loop r3) :: H' ++ (lam, .loop rc) :: heap)⟩ := fun H' r3 r4 hn => ⟨fun _ _ h => h, fun l' ob hl' => by
  have hne : l' ≠ lam := fun e => by
   simp only [c8] at hl'
   cases hg : get H' l' with
   | some o => exact hn l' o hg e
   | none => rw [hg, e, f2] at hl'; cases hl'
  simp only [List.cons_append, f8, if_neg hne, c8] at hl' ⊢
  exact hl'⟩
 show rangePost _ _ _ _ _ _ _ _
 unfold rangePost
 cases hz : items.findSome? out with
 | none =>
  rw [hz] at hs3
  obtain ⟨k1, k2⟩ := hs3.turn (lam := lam) (r3 := rc) { rc with state := .exhausted } (by simp [J5, get]) f4 hρ3
  refine ⟨none, _, by have := run_endLoop (P := P) k1 (by rw [hrc]; simp); rw [show rc.pending = none by rw [hrc]] at this; exact this, _, C3, hdone hz, ?_⟩
  have := k2.less (hle H rc _ hmem)
  rw [ha', show rc.pending = none by rw [hrc]] at this
  exact this
 | some z =>
  rw [hz] at hs3
  obtain ⟨k1, k2⟩ := hs3.turn (lam := lam) (r3 := aE3 rc (jc z)) { aE3 rc (jc z) with state := .exhausted } (by simp [J5, get]) f4 hρ3
  refine ⟨some (jc z), _, by have := run_endLoop (P := P) k1 (by simp [aE3]); exact this, ?_⟩
  have hn : ∀ l' ob, get (Ht z) l' = some ob → l' ≠ lam := fun l' ob hl' e => by
   have := m4 hl'
   have h2 := hHs z
   rw [e] at this
   simp only [List.contains_eq_mem, decide_eq_false_iff_not] at h2
   exact h2 this
  have hs5 := k2.less (hle (Ht z) _ _ hn)
  have := hstop z hz C3 _ _ hs5
  rw [hro] at this
  rw [ha'] at this
  exact this
end
section
variable {P : Program} {X : Ctx} {st : St} {ops : Array Oper} {env : List (Nat × PV)} {heap : List (Nat × Ob)} {dr : Bool} {s0 : St} {K : St → Prop} {dn : List Item} {rest : List Oper} {d : Nat} {ty : TypeId} {pos : String} {after : Array Edge} {g : Bool}
theorem aK9 {x y : Operand} {t E l n : Nat} {k : IntKind} {i : Int} (S : Seat P) [hS : Sl P t E] (h : Ev X st.env g x (.arr l E 0 n) := by first | (focus (apply Ev.mk; exact rfl; (repeat constructor); done)) | (focus (apply Ev.gd; exact rfl; (repeat constructor); done)) | (focus (apply Ev.left; exact rfl; (repeat constructor); done)) | (focus (apply Ev.left2; exact rfl; (repeat constructor); done))) (hi : Ev X st.env g y (iv k i) := by first | (focus (apply Ev.mk; exact rfl; (repeat constructor); done)) | (focus (apply Ev.gd; exact rfl; (repeat constructor); done)) | (focus (apply Ev.left; exact rfl; (repeat constructor); done)) | (focus (apply Ev.left2; exact rfl; (repeat constructor); done))) (h0 : 0 ≤ i := by first | decide | omega) (hn : i < n := by first | decide | omega) :
  ValG P X st (.indexAddr t x y) g (.ptr l [i.toNat] E) { reads := c9 [x, y] } :=
 ValG.pure S (.cons h (.cons hi .nil)) (by
  obtain ⟨h1, h2⟩ := hS.spec
  have hlt : i.toNat < n := by omega
  simp [y7, ad1, h1, h2, J7, h0, hn])
theorem aZ0 (S : Seat P) {t E : TypeId} {B : Nat} [hE : El P t E B] {x y : Operand} {n : Nat} {k k' : IntKind} {z : PV} [hz : Zr S E z] (l : Nat) (hfit : n * B ≤ 281474976710656) (h63 : n ≤ 9223372036854775807)
  (c : WalkR P X ops dr s0 K (dn ++ [⟨⟨some d, .makeSlice t x y, ty, pos, after, none⟩, { v := .arr l E 0 n, heap := [(l, .row E (List.replicate n z))] }, { reads := c9 [x, y], news := [l], labs := [l] }⟩]) ⟨(d, .arr l E 0 n) :: env, (l, .row E (List.replicate n z)) :: heap⟩ rest)
  (hx : b9 X.G env x = some (iv k n) := by rfl) (hy : b9 X.G env y = some (iv k' n) := by rfl) (hlz : z.labs = [] := by rfl) (hd : lb d X.n = true := by rfl) :
  WalkR P X ops dr s0 K dn ⟨env, heap⟩ (⟨some d, .makeSlice t x y, ty, pos, after, none⟩ :: rest) := bn1 S l hx hy hz.ok hlz hd hfit h63 c
theorem by3 (S : Seat P) {t t' E : TypeId} [hS : Sl P t E] {x y : Operand} {l n : Nat} {v : PV} {vs : List PV} {ps : List Pu}
  (c : WalkR P X ops dr s0 K (dn ++ [⟨⟨some d, .call ⟨.builtin .copy, #[x, y], #[t, t']⟩, ty, pos, after, none⟩, { v := iv .i64 n, heap := [(l, .row E (ps.map .pu))] }, { reads := c9 [x, y], hreads := [l] }⟩]) ⟨(d, iv .i64 n) :: env, (l, .row E (ps.map .pu)) :: heap⟩ rest)
  (hlE : Nat.ble (E + 1) P.types.size = true := by kernel_rfl) (hx : b9 X.G env x = some (.arr l E 0 n) := by rfl) (hl : get heap l = some (.row E vs) := by rfl) (hR : X.R.contains l = false := by rfl) (hy : b9 X.G env y = some v := by rfl) (hv : Elems E v ps := by repeat constructor) (hvn : vs.length = n := by simp) (hpn : ps.length = n := by rfl) (hd : lb d X.n = true := by rfl) :
  WalkR P X ops dr s0 K dn ⟨env, heap⟩ (⟨some d, .call ⟨.builtin .copy, #[x, y], #[t, t']⟩, ty, pos, after, none⟩ :: rest) := bn3 S hlE hx hl hR hy hv hvn hpn hd c
theorem ah5 (S : Seat P) {x y : Operand} {T T' E : TypeId} {l i : Nat} {vs : List PV} {r u u0 : PV} [hO : Okt P T T'] [hty : TyV P T u] [h1 : Sz P T] [h2 : Sz P T'] (hg : vs[i]? = some u0)
  (t : WalkR P X ops dr s0 K (dn ++ [⟨⟨none, .store T x y, ty, pos, after, none⟩, { v := .tup [], heap := [(l, .row E (vs.set i u))] }, { reads := c9 [x, y], hreads := [l], labs := (Ob.row E (vs.set i u)).labs }⟩]) ⟨env, (l, .row E (vs.set i u)) :: heap⟩ rest)
  (hx : b9 X.G env x = some (.ptr l [i] T') := by rfl) (hy : b9 X.G env y = some r := by rfl) (hs : Str r u := by repeat constructor) (hl : get heap l = some (.row E vs) := by rfl) (hR : X.R.contains l = false := by rfl) :
  WalkR P X ops dr s0 K dn ⟨env, heap⟩ (⟨none, .store T x y, ty, pos, after, none⟩ :: rest) :=
 ap8 S (p := [i]) (u0 := u0) t hx hy hs hl hR (by simp [Ob.get, hg, D9]) (by simp [Ob.set, hg, aA1])
theorem NoLab.row {α : Type} {E : TypeId} {l : List α} {f : α → Pu} : NoLab (.row E (l.map fun a => .pu (f a))) := ⟨by
 show PV.labsL (l.map fun a => PV.pu (f a)) = []
 induction l with
 | nil => rfl
 | cons a l ih => simp only [List.map_cons, PV.labsL, PV.labs, List.nil_append]; exact ih⟩
theorem Tri.freeze {c : Code} {Q : Exit → St → Prop} {lo l E : Nat} {ps : List Pu} {env' : List (Nat × PV)} {heap' : List (Nat × Ob)} (hl : get heap l = some (.row E (ps.map .pu))) (hlo : lo = 0 ∨ (lo ≤ X.w0.heap.size ∧ ∀ b, ¬ X.M b)) (h : Tri P X c ⟨env', heap'⟩ Q)
  (h1 : FrzE lo l E ps env env' := by repeat (first | exact FrzE.nil | refine FrzE.cons rfl rfl rfl ?_)) (h2 : FrzH lo l E ps heap heap' := by repeat (first | exact FrzH.nil | refine FrzH.cons rfl rfl rfl ?_)) (hR : X.R.contains l = false := by rfl) : Tri P X c ⟨env, heap⟩ Q :=
 Tri.ghost (Ghost.freeze hlo hl (by simpa using hR) (Frozen.of h1 h2)) h
theorem Tri.cutW {σ : Type} {x y : Code} {Q : Exit → St → Prop} (t : σ → St) (h : Tri P X x st (ah0 (fun s => ∃ a, WkE s.env (t a).env ∧ WkH s.heap (t a).heap) Q)) (k : ∀ a, Tri P X y (t a) Q) : Tri P X x st (ah0 (fun s => Tri P X y s Q) Q) := h.mono fun e s hs => by
 cases e with
 | normal => obtain ⟨a, h1, h2⟩ := hs; exact Tri.ghost (Ghost.wk h1 h2) (k a)
 | _ => exact hs
end
section
variable {P : Program} {X : Ctx} {st : St}
def noGo (Q : Exit → St → Prop) : Exit → St → Prop
 | .goto _, _ => False
 | e, s => Q e s
theorem Tri.scope {c : Code} {Q : Exit → St → Prop} (h : Tri P X c st (noGo Q)) (hro : X.ro = none := by rfl) : Tri P X (.scope c) st Q := fun C a w hs => by
 have h1 := h C a w hs
 rw [hro] at h1 ⊢
 refine wpIn_wide.2 (wp_scope_straight (wpIn_wide.1 (wpIn_mono (F := Fence.wide) h1 fun e a' w' hq => ?_)))
 obtain ⟨s, C', q, hs'⟩ := hq
 cases e with
 | goto l => exact q.elim
 | _ => exact ⟨s, C', q, hs'⟩
inductive LabsOk (L : List Nat) : List (Nat × Ob) → Prop
 | nil : LabsOk L []
 | cons {l : Nat} {ob : Ob} {r : List (Nat × Ob)} (h : L.contains l = true) (k : (ob.labs.all fun x => L.contains x) = true) (t : LabsOk L r) : LabsOk L ((l, ob) :: r)
theorem bY4 {L : List Nat} {ob : Ob} [h : NoLab ob] : (ob.labs.all fun x => L.contains x) = true := by rw [h.ok]; rfl
theorem LabsOk.at {L : List Nat} {H : List (Nat × Ob)} (h : LabsOk L H) : ∀ l ob, get H l = some ob → l ∈ L ∧ ∀ l' ∈ ob.labs, l' ∈ L := by
 induction h with
 | nil => intro l ob h; cases h
 | cons h k _ ih =>
  intro l ob hl
  rw [f8] at hl
  split at hl
  ·rename_i e
   simp at hl
   subst e hl;exact ⟨by simpa using h, fun l' hl' => by simpa using List.all_eq_true.1 k l' hl'⟩
  ·exact ih l ob hl
theorem HCall.of_triE {G : List (Nat × TypeId × Pu)} (hT : j3 P = true) {f : FuncId} {fn : Func} {c : Code} (n : Nat) (L : List Nat) (hf : P.funcs[f]? = some fn) (hb : fn.body = some c) {args : List PV} {HR H H' : List (Nat × Ob)} {v : PV} {news : List Nat} (hn : n = args.length + (fn.ntmps - args.length))
  (h1 : HR.all (fun q => B1 q.2) = true) (h2 : A8 HR H' = true) (h3 : (v.labs.all fun l => (L ++ news).contains l) = true) (h4 : LabsOk (L ++ news) H') (h5 : ((e9 H).all fun l => (e9 H').contains l) = true)
  (h : ∀ w0 M ρ0 D0, Tri P ⟨w0, n, M, G, L, e9 HR, ρ0, D0, none⟩ c ⟨L9 0 args, HR ++ H⟩ fun e st => (e = .normal ∨ e = .ret) ∧ (∃ u, res P st fn.results.toList = some u ∧ VImp P u v) ∧ OutH P st.heap H') : HCall P G f args HR H v H' news := by
 refine HCall.of_tri hT hf hb (L := L) (n := n) hn (fun l ob hl => List.all_eq_true.1 h1 _ (D1 hl)) (fun l ob hl => m6 h2 hl) (fun l hl => by simpa using List.all_eq_true.1 h3 l hl) (fun l ob hl => ?_) (fun l ob hl => ?_) ?_
 ·obtain ⟨k1, k2⟩ := h4.at l ob hl
  exact ⟨by simpa using k1, fun l' hl' => by simpa using k2 l' hl'⟩
 ·have := List.all_eq_true.1 h5 l (m4 hl)
  exact k8 (by simpa [e9] using this)
 ·rintro ⟨w0, n', M, G', L', R, ρ0, D0, ro⟩ hn hG hL hR hro
  simp only at hn hG hL hR hro
  subst hn hG hL hR hro
  exact (h w0 M ρ0 D0).mono fun e st ⟨he, hu, ho⟩ => ⟨he, st, Ghost.refl _, hu, ho.at⟩
theorem cd0 {T : TypeId} {k : IntKind} {a b : Int} (h : a = b) : ObImp P (.var T (iv k a)) (.var T (iv k b)) := by rw [h]; exact ObImp.refl _
theorem v_sl {lo : Nat} {g : Bool} (S : Seat P) {T E : TypeId} [hS : Sl P T E] {z : PV} [hz : Zr S E z] {n : Nat} {parts : Array (Nat × Operand)} {vs : List PV} {ps : List Pu}
  (h : EvL X st.env g (parts.toList.map (·.2)) vs := by repeat (first | exact EvL.nil | (apply EvL.cons; (first | (focus (apply Ev.mk; exact rfl; (repeat constructor); done)) | (focus (apply Ev.gd; exact rfl; (repeat constructor); done)) | (focus (apply Ev.left; exact rfl; (repeat constructor); done))))))
  (hps : ToPus vs ps := by repeat constructor) (hty : TyVs P E ps := by repeat (first | exact TyVs.nil | refine TyVs.cons inferInstance ?_)) (hn : n = ps.length := by rfl) (hi : parts.toList.map (·.1) = List.range ps.length := by rfl) (hfit : Nat.ble (n * P.cellsOf E) 16777216 = true := by kernel_rfl) (hlo : lo ≤ X.w0.heap.size := by first | exact Nat.zero_le _ | exact Nat.le_refl _) :
  ValG P X st (.buildSlice T n parts) g (.xs lo E ps) { reads := c9 (parts.toList.map (·.2)) } := ⟨fun hg st' ha C a w hs o ho hd => by
 obtain ⟨raw, h1, h2⟩ := h.raw hg
 have h1' : evalL X.G st'.env (parts.toList.map (·.2)) = some raw := by
  rw [u6 (env := st.env) fun t ht => ha.env t ht];exact h1
 obtain ⟨dst, op, type, pos, after, guard⟩ := o
 simp only at ho
 subst ho
 exact S7 S hs rfl (by simpa [Op.operands] using h1') (by rw [h2]; exact hps) hd hlo (ao9 S hty.all hn hi hfit)⟩
end
section
variable {P : Program} {X : Ctx} {st : St} {g : Bool} {lo : Nat}
theorem PRs.parts {D : Nat → Nat → Prop} {w : World} {s : Nat} {E : TypeId} : ∀ {l : Nat} {n : Nat} {ps : List Pu} {x : List Value}, l ≤ n → PRs P D w (List.replicate n (s, E)) ps x →
  PRs P D w (List.replicate l (s, E)) (ps.take l) (x.take (l * s)) ∧ PRs P D w (List.replicate (n - l) (s, E)) (ps.drop l) (x.drop (l * s))
 | 0, n, ps, x, _, h => by simpa using ⟨PRs.nil, h⟩
 | l + 1, 0, _, _, hl, _ => by omega
 | l + 1, n + 1, _, _, hl, .cons (p := p) (ps := ps) (x := x) (y := y) hp hs ht h => by
  obtain ⟨h1, h2⟩ := PRs.parts (l := l) (by omega) h
  have e : (l + 1) * s = x.length + l * s := by rw [Nat.succ_mul, hs]; omega
  constructor
  ·rw [List.replicate_succ, List.take_succ_cons, e, List.take_length_add_append]
   exact .cons hp hs ht h1
  ·rw [List.drop_succ_cons, e, List.drop_length_add_append, show n + 1 - (l + 1) = n - l by omega]
   exact h2
theorem PR.sub {D : Nat → Nat → Prop} {w : World} {E : TypeId} {ps : List Pu} {a : Option Addr} {n cap : Nat} (h : PR P D w (.sl lo E ps) [.slice a n cap]) {l r : Nat} (h1 : l ≤ r) (h2 : r ≤ ps.length) :
  n = ps.length ∧ ((ps = [] → l = 0 ∧ r = 0) ∧ ps.length ≤ cap ∨ ps = []) ∧ PR P D w (.sl 0 E ((ps.take r).drop l)) [.slice (if cap = l then a else a.map (·.add (l * P.cellsOf E))) (r - l) (cap - l)] := by
 obtain ⟨e1, x, hx, hxl, hc⟩ := h.cells
 refine ⟨e1, ?_, ?_⟩
 ·by_cases h0 : ps = []
  ·exact .inr h0
  ·exact .inl ⟨fun e => absurd e h0, by obtain ⟨_, _, _, h3, _⟩ := hc h0; omega⟩
 ·have hlen : ((ps.take r).drop l).length = r - l := by simp; omega
  by_cases h0 : r - l = 0
  ·have e : (ps.take r).drop l = [] := List.length_eq_zero_iff.1 (by omega)
   rw [e, h0];exact .sl0
  ·have hne : ps ≠ [] := fun e => by subst e; simp at h2; omega
   obtain ⟨b, o, rfl, hcap, hcell⟩ := hc hne
   rw [if_neg (by omega)]
   have ha : (⟨b, o, none⟩ : Addr).add (l * P.cellsOf E) = ⟨b, o + l * P.cellsOf E, none⟩ := by unfold Addr.add; split <;> simp_all
   have hp1 := (hx.parts (l := r) (by omega)).1
   have hp2 := (hp1.parts (l := l) h1).2
   simp only [Option.map_some, ha]
   rw [← hlen];refine .sl (fun e => h0 (by rw [← hlen, e]; rfl)) (by omega) (by rw [hlen]; exact hp2) (fun j v hj => ?_) (.inl rfl)
   rw [List.getElem?_drop, List.getElem?_take] at hj
   split at hj
   ·obtain ⟨k1, k2⟩ := hcell _ _ hj
    have ha2 : (⟨b, o, none⟩ : Addr).add (l * P.cellsOf E + j) = ⟨b, o + l * P.cellsOf E + j, none⟩ := by unfold Addr.add; split <;> simp_all <;> omega
    rw [ha2] at k1
    exact ⟨k1, by rw [Nat.add_assoc]; exact k2⟩
   ·cases hj
theorem VW.sl_inv {C : Cfg} {w : World} {E : TypeId} {ps : List Pu} {x : Value} (h : VW P C w (.pu (.sl lo E ps)) x) : ∃ a n cap, x = .slice a n cap ∧ PR P C.D w (.sl lo E ps) [.slice a n cap] := by
 have := h.cell rfl (fun _ => by simp)
 have := this.pu_inv
 cases this with
 | sl0 => exact ⟨_, _, _, rfl, .sl0⟩
 | sl h1 h2 h3 h4 h5 => exact ⟨_, _, _, rfl, .sl h1 h2 h3 h4 h5⟩
theorem bo5 {w : World} {t E : TypeId} {a : Option Addr} {n cap l r : Nat} {lv hv : Option Value} (ht : P.underlying t = some (.slice E)) (hE : ∃ i, P.info? E = some i) (h1 : l ≤ r) (h2 : r ≤ cap)
  (hl : lv = none ∧ l = 0 ∨ lv = some (.int .i64 l)) (hr : hv = none ∧ r = n ∨ hv = some (.int .i64 r)) :
  (Instr.sliceAt t (.slice a n cap) lv hv none).run P w = .ok (.slice (if cap = l then a else a.map (·.add (l * P.cellsOf E))) (r - l) (cap - l)) w := by
 obtain ⟨i, hi⟩ := hE
 have hb : (Instr.sliceBounds true n cap lv hv none).run P w = .ok (l, r, cap) w := by
  rcases hl with ⟨rfl, rfl⟩ | rfl <;> rcases hr with ⟨rfl, rfl⟩ | rfl <;>
   simp [Instr.sliceBounds, Instr.sliceBound, asIntOf, h1, h2] <;> omega
 have e : P.cellsOf E = i.size := E8 hi
 simp [Instr.sliceAt, Instr.slice, run_underlying ht, Go.sizeOf, typeInfo, hi, hb, e]
theorem bJ7 {t E : TypeId} (hS : Sl P t E) (hT : j3 P = true) : ∃ i, P.info? E = some i := by
 obtain ⟨h1, h2⟩ := hS.spec
 obtain ⟨i, d, h3, _⟩ := U1 hT (aM0 hT h1 h2)
 exact ⟨i, h3⟩
theorem bI7 {x : Operand} {lw hw : Option Operand} {t E : TypeId} {ps : List Pu} {l r : Nat} (S : Seat P) [hS : Sl P t E] (h : Ev X st.env g x (.pu (.sl lo E ps)))
  (hl : lw = none ∧ l = 0 ∨ ∃ y, lw = some y ∧ Ev X st.env g y (iv .i64 l)) (hr : hw = none ∧ r = ps.length ∨ ∃ y, hw = some y ∧ Ev X st.env g y (iv .i64 r)) (h1 : l ≤ r) (h2 : r ≤ ps.length) :
  ValG P X st (.slice t x lw hw none) g (.pu (.sl 0 E ((ps.take r).drop l))) { reads := c9 (x :: (lw.toList ++ hw.toList)) } :=
 ⟨fun hg st' ha C a w hs o ho hd => by
  have hx : VW P C w (.pu (.sl lo E ps)) (a.eval x) := by
   obtain ⟨q, e1, e2⟩ := h hg
   rw [← d5 (env := st.env) (env' := st'.env) fun t e => ha.env t (f0 (by rw [e]; simp))] at e1
   exact e2 ▸ hs.eval e1
  have hl' : lw.map a.eval = none ∧ l = 0 ∨ lw.map a.eval = some (.int .i64 l) := by
   rcases hl with ⟨rfl, rfl⟩ | ⟨y, rfl, hy⟩
   ·exact .inl ⟨rfl, rfl⟩
   ·obtain ⟨q, e1, e2⟩ := hy hg
    rw [← d5 (env := st.env) (env' := st'.env) fun t e => ha.env t (f0 (by rw [e]; simp))] at e1
    have := e2 ▸ hs.eval e1
    exact .inr (by simp [this.leaf_inv.1])
  have hr' : hw.map a.eval = none ∧ r = ps.length ∨ hw.map a.eval = some (.int .i64 r) := by
   rcases hr with ⟨rfl, rfl⟩ | ⟨y, rfl, hy⟩
   ·exact .inl ⟨rfl, rfl⟩
   ·obtain ⟨q, e1, e2⟩ := hy hg
    rw [← d5 (env := st.env) (env' := st'.env) fun t e => ha.env t (f0 (by rw [e]; simp))] at e1
    have := e2 ▸ hs.eval e1
    exact .inr (by simp [this.leaf_inv.1])
  obtain ⟨ad, n, cap, e1, e2⟩ := hx.sl_inv
  obtain ⟨rfl, e3, e4⟩ := e2.sub h1 h2
  have hcap : r ≤ cap := by
   rcases e3 with ⟨_, h⟩ | h
   ·omega
   ·subst h; simp at h2; omega
  refine m5 (w' := w) (C' := C) (y := .slice (if cap = l then ad else ad.map (·.add (l * P.cellsOf E))) (r - l) (cap - l)) ?_ (hs.upd_put (t6 hd) (.one (.pu e4) rfl) none True) (Tr.refl _ _ _ _) (fun L d hL => by simp at hL)
  obtain ⟨dst, op, type, pos, after, guard⟩ := o
  simp only at ho
  subst ho
  have := bo5 (w := w) (a := ad) (n := ps.length) hS.spec.2 (bJ7 hS S.hT) h1 hcap hl' hr'
  simp [execOp, e1, this]⟩
theorem bm3 {x y : Operand} {t E : TypeId} {ps : List Pu} {r : Nat} (S : Seat P) [hS : Sl P t E] (h2 : r ≤ ps.length) (h : Ev X st.env g x (.pu (.sl lo E ps)) := by first | (focus (apply Ev.mk; exact rfl; (repeat constructor); done)) | (focus (apply Ev.gd; exact rfl; (repeat constructor); done)) | (focus (apply Ev.left; exact rfl; (repeat constructor); done)) | (focus (apply Ev.left2; exact rfl; (repeat constructor); done))) (hr : Ev X st.env g y (iv .i64 r) := by first | (focus (apply Ev.mk; exact rfl; (repeat constructor); done)) | (focus (apply Ev.gd; exact rfl; (repeat constructor); done)) | (focus (apply Ev.left; exact rfl; (repeat constructor); done)) | (focus (apply Ev.left2; exact rfl; (repeat constructor); done))) :
  ValG P X st (.slice t x none (some y) none) g (.pu (.sl 0 E (ps.take r))) { reads := c9 [x, y] } := by
 have := bI7 (l := 0) (r := r) (lw := none) (hw := some y) (t := t) S h (.inl ⟨rfl, rfl⟩) (.inr ⟨y, rfl, hr⟩) (Nat.zero_le _) h2
 rwa [List.drop_zero] at this
end
section
variable {P : Program}
section
variable {H : Type} (P)
mutual
inductive HT : TypeId → DataW H → Pu → Prop
 | bool {T : TypeId} {b : Bool} (h : P.underlying T = some .bool) : HT T (.lit (.bool b)) (.leaf (.bool b))
 | int {T : TypeId} {k : IntKind} {n : Int} (h : P.underlying T = some (.int k)) (hw : (Lit.int k n).wf = true) : HT T (.lit (.int k n)) (.leaf (.int k n))
 | str {T : TypeId} {s : ByteArray} (h : P.underlying T = some .string) : HT T (.lit (.string s.data.toList)) (.leaf (.string s))
 | nil {T E : TypeId} (h : P.underlying T = some (.slice E)) : HT T .nil (.sl 0 E [])
 | sl {T E : TypeId} {ds sp : List (DataW H)} {ps : List Pu} (h : P.underlying T = some (.slice E)) (hl : HTs (List.replicate ps.length E) ds ps) : HT T (.slice ds sp) (.sl 0 E ps)
 | agg {T : TypeId} {cs : List (Nat × TypeId)} {ds : List (DataW H)} {ps : List Pu} (hc : f7 P T = some cs) (h : HTs (cs.map (·.2)) ds ps) : HT T (.agg ds) (.agg T ps)
inductive HTs : List TypeId → List (DataW H) → List Pu → Prop
 | nil : HTs [] [] []
 | cons {T : TypeId} {Ts : List TypeId} {d : DataW H} {ds : List (DataW H)} {p : Pu} {ps : List Pu} (h : HT T d p) (t : HTs Ts ds ps) : HTs (T :: Ts) (d :: ds) (p :: ps)
end
end
section
variable {H : Type}
end
section
variable {H : Type}
end
theorem HCall.moreG {G G' : List (Nat × TypeId × Pu)} {f : FuncId} {args : List PV} {HR H : List (Nat × Ob)} {v : PV} {H' : List (Nat × Ob)} {news : List Nat} (h : HCall P G f args HR H v H' news) (hG : ∀ g T p, get G g = some (T, p) → get G' g = some (T, p)) :
  HCall P G' f args HR H v H' news := fun C w xs F hx => h C w xs ⟨F.heap, F.inj, F.dObj, F.dLt, F.own, fun g T p hg => F.gl g T p (hG g T p hg)⟩ hx
end
section
variable {P : Program}
variable {n : Nat} {ds : List Deferred} {env : List (Nat × Value)} {w : World}
variable {Q : Exit → List (Nat × Value) → World → Prop} {x y c : Code}
variable {ops : Array Oper} {K : List (Nat × Value) → World → Prop} {rest : List Oper} {o : Oper} {w' : World}
section
variable {dst : Option Nat} {ty : TypeId} {pos : String} {af : Array Edge} {g : Option (Nat × Bool)} {a : Act}
end
section
variable {P : Program} {n : Nat} {ds : List Deferred} {ops : Array Oper} {K : List (Nat × Value) → World → Prop} {rest : List Oper} {env : List (Nat × Value)} {w : World} {dst d : Nat} {ty : TypeId} {pos : String} {af : Array Edge}
end
theorem bJ6 {C : Cfg} {w : World} {i lo : Nat} {E : TypeId} {ps : List Pu} {x : Value} (h : VT P C w i (.pu (.sl lo E ps)) x) : PR P C.D w (.sl lo E ps) [x] := by
 cases h with
 | one h hs =>
  generalize hz : x.cells.toList = z at h
  cases h with
  | pu h =>
   have : ∃ s, z = [s] := by cases h <;> exact ⟨_, rfl⟩
   obtain ⟨s, rfl⟩ := this
   have : x = s := by cases x <;> simp_all [Value.cells, d7, PV.isAgg]
   rw [this];exact h
end
section
variable {P : Program}
end
section
variable {P : Program} {lo lo' : Nat}
section
variable {X : Ctx} {ops : Array Oper} {env : List (Nat × PV)} {heap : List (Nat × Ob)} {dr : Bool} {s0 : St} {K : St → Prop} {dn : List Item} {rest : List Oper} {d : Nat} {ty : TypeId} {pos : String} {after : Array Edge}
end
end
section
variable {P : Program}
end
section
variable {P : Program}
theorem ac0 {C : Cfg} {b : Nat} : ¬ I8 C [] b := by
 rintro (⟨l, ob, R, h, _⟩ | ⟨l, p, k, ob, _, h⟩) <;> cases h
theorem SatC.frag0 {X : Ctx} {C : Cfg} {st : St} {a : Act} {w : World} (h : SatC P X C st a w) : Frag P X.G C w [] [] :=
 ⟨fun l ob hl => (by cases hl), fun l l' b R R' ob ob' hl => (by cases hl), fun l ob b R o hl => (by cases hl), h.dLt, fun b q k hb => ⟨(h.own b q k hb).2.1, (h.own b q k hb).2.2.1, fun l ob R hl => (by cases hl)⟩, h.gl⟩
end
section
section
variable {P : Program} {n : Nat} {ds : List Deferred} {ops : Array Oper} {K : List (Nat × Value) → World → Prop} {rest : List Oper} {env : List (Nat × Value)} {w : World} {dst d : Nat} {ty : TypeId} {pos : String} {af : Array Edge} {g : Option (Nat × Bool)} {o : Oper}
end
section
variable {P : Program}
end
section
variable {P : Program}
end
section
variable {P : Program}
end
section
variable {P : Program}
end
section
variable {P : Program}
theorem After.grew {C C' : Cfg} {w w' : World} {v : PV} {y : Value} {news : List Nat} {H' : List (Nat × Ob)} (h : After P C w [] news C' w' H' v y) : Grew w w' := ⟨h.os, h.tape, h.output, h.size, fun b hb => h.block b hb ac0⟩
end
end
section
variable {P : Program}
theorem PR.sl_val {D : Nat → Nat → Prop} {w : World} {lo : Nat} {E : TypeId} {ps : List Pu} {x : Value} (h : PR P D w (.sl lo E ps) [x]) : ∃ a cap, x = .slice a ps.length cap ∧ (a = none → ps = []) := by
 generalize hz : ([x] : List Value) = z at h
 cases h with
 | sl0 => simp at hz; exact ⟨_, _, hz, fun _ => rfl⟩
 | sl hn hcap h hx hlo => simp at hz; exact ⟨_, _, hz, fun e => by cases e⟩
def aH8 (P : Program) (T : TypeId) : Bool := match P.underlying T with
 | some (.slice _) => true
 | _ => false
theorem aH7 {T : TypeId} (h : aH8 P T = true) : ∃ E, P.underlying T = some (.slice E) := by
 unfold aH8 at h
 split at h
 ·exact ⟨_, by assumption⟩
 ·cases h
theorem Tri.nilEq {X : Ctx} (hro : X.ro = none) {st : St} {Q : Exit → St → Prop} {id s d1 d2 lo : Nat} {T E r ty1 ty2 : TypeId} {pos1 pos2 : String} {af1 af2 : Array Edge} {ps : List Pu} (h : ∀ b, (b = true → ps = []) → Q .normal ⟨(d2, bv b) :: (d1, .pu (.sl lo E ps)) :: st.env, st.heap⟩)
  (hs : get st.env s = some (.pu (.sl lo E ps)) := by rfl) (hu0 : aH8 P T = true := by kernel_rfl) (h1 : lb d1 X.n = true := by rfl) (h2 : lb d2 X.n = true := by rfl) :
  Tri P X (.region id #[⟨some d1, .move (.tmp s), ty1, pos1, af1, none⟩, ⟨some d2, .binOp .eql T (.tmp d1) (.const (.slice none 0 0)) r, ty2, pos2, af2, none⟩] false) st Q := fun C a w hs0 => by
 rw [hro]
 obtain ⟨E', hu⟩ := aH7 hu0
 obtain ⟨x, hx, hv⟩ := hs0.env s _ hs
 have hp := bJ6 hv
 obtain ⟨ad, cap, rfl, hnil⟩ := hp.sl_val
 have hv1 : VT P C w d1 (.pu (.sl lo E ps)) (.slice ad ps.length cap) := .one (.pu hp) rfl
 have hd1 := F6 h1
 have hd2 := F6 h2
 refine wpIn_region_list (wpListIn_plain rfl fun K' hK => N5 rfl ?_)
 unfold Oper.wp
 have e1 : a.eval (.tmp s) = .slice ad ps.length cap := by simp [Act.eval, Array.getD_eq_getD_getElem?, hx]
 rw [show (execOp a.eval ⟨some d1, .move (.tmp s), ty1, pos1, af1, none⟩).run P w = .ok (.value (.slice ad ps.length cap)) w by simp [execOp, e1], Oper.upon_value];refine hK _ _ (wpListIn_plain rfl fun K2 hK2 => N5 rfl ?_)
 unfold Oper.wp
 have e2 : (a.put (some d1) (.slice ad ps.length cap)).eval (.tmp d1) = .slice ad ps.length cap := by
  simp [Act.eval, Act.put, Array.getD_eq_getD_getElem?, hs0.size, hd1]
 have e3 : (execOp (a.put (some d1) (.slice ad ps.length cap)).eval ⟨some d2, .binOp .eql T (.tmp d1) (.const (.slice none 0 0)) r, ty2, pos2, af2, none⟩).run P w = .ok (.value (.bool ad.isNone)) w := by
  simp only [execOp, e2]
  simp only [Act.eval]
  have hg : (eqGuard .eql T (.tmp d1) (.const (.slice none 0 0)) (.slice ad ps.length cap) (.slice none 0 0)).run P w = .ok () w := by
   simp [eqGuard]
  have hb : (binOp .eql T (.slice ad ps.length cap) (.slice none 0 0)).run P w = .ok (.bool ad.isNone) w := by
   have key : ∀ d, (Op.equalIn (d + 1) T (.slice ad ps.length cap) (.slice none 0 0)).run P w = .ok ad.isNone w := fun d => by
    cases ad <;> simp [Op.equalIn, run_underlying hu]
   have := key 9999
   simp only [binOp, Op.equal, Op.maxDepth, Sem.run_bind]
   rw [this]
   rfl
  simp only [Sem.run_bind, hg, Result.andThen_ok, hb]
  rfl
 rw [e3, Oper.upon_value];refine hK2 _ _ (wpListIn_nil ⟨_, C, h ad.isNone (fun e => hnil (by simpa using e)), ?_⟩);exact (hs0.put hd1 hv1).put hd2 ((show VW P C w (bv ad.isNone) (.bool ad.isNone) from VW.bv_mk).vt d2)
structure Owned (P : Program) (C' : Cfg) (w w' : World) (lo : Nat) (E : TypeId) (ps : List Pu) (y : Value) : Prop where
 ex : (∃ ad, y = .slice ad ps.length ps.length) ∨ ∃ b cap c, y = .slice (some ⟨b, 0, none⟩) ps.length cap ∧ w.heap.size ≤ b ∧ w'.heap[b]? = some (.cells c E (0, 0)) ∧ c.size = cap * P.cellsOf E ∧ lo ≤ b ∧ ∀ o, C'.D b o → o < ps.length * P.cellsOf E
def OCall (P : Program) (G : List (Nat × TypeId × Pu)) (f : FuncId) (args : List PV) (lo : Nat) (E : TypeId) (ps : List Pu) : Prop :=
 ∀ C w (xs : Array Value), Frag P G C w [] [] → VFs P C w args xs.toList → Calls P f xs w fun e w' => ∃ y C', e = .returned y ∧ After P C w [] [] C' w' [] (.pu (.sl lo E ps)) y ∧ Owned P C' w w' lo E ps y
theorem OCall.of_tri {G : List (Nat × TypeId × Pu)} {f : FuncId} {fn : Func} {c : Code} (n : Nat) (rv : Nat) (hf : P.funcs[f]? = some fn) (hb : fn.body = some c) (hr : fn.results = #[.tmp rv]) {args : List PV} {lo : Nat} {E : TypeId} {ps : List Pu}
  (hn : n = args.length + (fn.ntmps - args.length)) (h : ∀ w0 M ρ0 D0, Tri P ⟨w0, n, M, G, [], [], ρ0, D0, none⟩ c ⟨L9 0 args, []⟩ fun e st => (e = .normal ∨ e = .ret) ∧ (get st.env rv = some (.ow lo E ps) ∨ get st.env rv = some .nilc ∧ ps = [])) : OCall P G f args lo E ps := fun C w xs F hxs => by
 have hlen : xs.size = args.length := by rw [hxs.length]; simp
 obtain ⟨C0, hsat⟩ : ∃ C0, SatC P ⟨w, n, I8 C [], G, [], [], C.ρ, C.D, none⟩ C0 ⟨L9 0 args, []⟩ { tmps := xs ++ Array.replicate (fn.ntmps - xs.size) undef, defers := [] } w := by
  refine F.sat rfl rfl rfl rfl rfl rfl (fun l ob hl => by cases hl) (by simp [hn, hlen]) rfl fun i u hu => ?_
  obtain ⟨_, h2⟩ := am3 hu
  simp only [Nat.sub_zero] at h2
  obtain ⟨x, h3, h4, h5⟩ := hxs.at i u h2
  refine ⟨x, ?_, h4, h5⟩
  have hi : i < xs.size := by
   rw [hlen];exact (List.getElem?_eq_some_iff.1 h2).1
  rw [Array.getElem?_append_left hi, ← Array.getElem?_toList];exact h3
 refine callsIn_wide (n := 0) |>.1 (callsIn_of_wp_marks hf hb trivial (wpIn_mono (h w (I8 C []) C.ρ C.D C0 _ w hsat) fun e a' w' ⟨st', C1, ⟨he, hq⟩, hs1⟩ => ?_) rfl)
 suffices hS : ∀ w', SatC P ⟨w, n, I8 C [], G, [], [], C.ρ, C.D, none⟩ C1 st' { a' with defers := [] } w' → ∃ y, (results fn a'.tmps).run P w' = .ok y w' ∧ ∃ y' C', Ending.returned y = .returned y' ∧ After P C w [] [] C' w' [] (.pu (.sl lo E ps)) y' ∧ Owned P C' w w' lo E ps y' by
  have hL := V3 (R := fun e w' => ∃ y C', e = .returned y ∧ After P C w [] [] C' w' [] (.pu (.sl lo E ps)) y ∧ Owned P C' w w' lo E ps y) _ rfl hs1 hS
  rcases he with rfl | rfl <;> exact hL
 intro w' hs
 obtain ⟨x, hx, hp, ho⟩ : ∃ x, a'.tmps[rv]? = some x ∧ PR P C1.D w' (.sl lo E ps) [x] ∧ ((∃ ad, x = .slice ad ps.length ps.length) ∨ ∃ b cap c, x = .slice (some ⟨b, 0, none⟩) ps.length cap ∧ w.heap.size ≤ b ∧ w'.heap[b]? = some (.cells c E (0, 0)) ∧ c.size = cap * P.cellsOf E ∧ lo ≤ b ∧ ∀ o, C1.D b o → o < ps.length * P.cellsOf E) := by
  rcases hq with hq | ⟨hq, rfl⟩
  ·obtain ⟨x, hx, hv⟩ := hs.env rv _ hq
   have hv' : VR P C1 w' (some (.slot rv)) (.ow lo E ps) [x] := by
    cases hv with
    | one hv h2 =>
     generalize hz : x.cells.toList = z at hv
     have : ∃ s, z = [s] := by cases hv <;> exact ⟨_, rfl⟩
     obtain ⟨s, rfl⟩ := this
     have : x = s := by cases x <;> simp_all [Value.cells, d7, PV.isAgg]
     rw [this];exact hv
   refine ⟨x, hx, ?_⟩
   rcases av3 hv' with ⟨ad, rfl, hp⟩ | ⟨b, cap, c, rfl, hp, hb, hc, hsz, hl⟩
   ·exact ⟨hp, .inl ⟨_, rfl⟩⟩
   ·obtain ⟨k1, _, k3, _⟩ := hs.own b _ _ hb
    exact ⟨hp, .inr ⟨b, cap, c, rfl, k1.resolve_right ac0, hc, hsz, hl, k3⟩⟩
  ·obtain ⟨x, hx, hv⟩ := hs.env rv _ hq
   have : x = .slice none 0 0 := by
    cases hv with
    | one hv h2 =>
     generalize hz : x.cells.toList = z at hv
     cases hv
     cases x <;> simp_all [Value.cells, d7, PV.isAgg]
   subst this;exact ⟨_, hx, .sl0, .inl ⟨none, rfl⟩⟩
 refine ⟨x, ?_, x, { D := C1.D, ρ := C.ρ, own := open Classical in fun b => if b < w.heap.size then C.own b else none }, rfl, ?_, ⟨ho⟩⟩
 ·simp only [results, hr]
  simp [hx]
 ·refine ⟨hs.framed.os, hs.framed.tape, hs.framed.output, hs.framed.size, fun b hb hM => hs.framed.block b hb hM, hs.framed.ty, fun b o hD => hs.keep b o hD, fun _ _ => rfl, fun b o hD => hs.kin.dOld b o hD, fun b o hD => hs.kin.dNew b o hD, hs.dLt, fun b h1 _ => by simp only [if_pos h1], fun b q k hb => ?_,
   fun l ob hl => (by cases hl), fun l l' b R R' ob ob' hl => (by cases hl), fun l ob b R o hl => (by cases hl), fun l ob hl => (by cases hl), .one (.pu ?_) ?_⟩
  ·simp only at hb
   split at hb
   ·rename_i h1
    exact .inl ⟨h1, ac0⟩
   ·cases hb
  ·rcases ho with ⟨ad, rfl⟩ | ⟨b, cap, c, rfl, _⟩ <;> exact hp
  ·rcases ho with ⟨ad, rfl⟩ | ⟨b, cap, c, rfl, _⟩ <;> rfl
theorem bb8 {X : Ctx} {C : Cfg} {st : St} {o : Oper} {a : Act} {w : World} (h : SatC P X C st a w) {fo : Operand} {as : Array Operand} {ts : Array TypeId} {f : FuncId} {raw args : List PV} {vf : PV} {lo : Nat} {E : TypeId} {ps : List Pu} {d : Nat}
  (hop : o.op = .call ⟨.value fo, as, ts⟩) (hfo : b9 X.G st.env fo = some vf) (hfv : fnV (strip vf) = some (f, [], [])) (he : j8 P f = true) (hraw : evalL X.G st.env as.toList = some raw) (hnt : (raw.map strip).any j1 = false)
  (himp : VImps P (raw.map strip) args) (hnt' : args.any j1 = false) (hc : OCall P X.G f args lo E ps) (hd : o.dst = some d) (hdn : d < X.n) : Exec P X C st o a w { v := .ow lo E ps } := by
 intro K Q hK
 obtain ⟨xs, ys, e1, e2, e3⟩ := aj0 (h.eval hfo) hfv
 have har := (h.evalL hraw).vfs (M5 hnt)
 have hvf : VFs P C w args (xs.toList ++ as.toList.map a.eval ++ ys.toList) := (VFs.append (VFs.append e2 har) e3).imp (by simpa using himp) (M5 hnt')
 have hcall := hc C w (xs ++ as.map a.eval ++ ys) h.frag0 (by simpa using hvf)
 unfold Oper.wp
 have hrun : (execOp a.eval o).run P w = .ok (.enter f (xs ++ as.map a.eval ++ ys)) w := by
  obtain ⟨dst, op, type, pos, after, guard⟩ := o
  simp only at hop
  subst hop
  simp [execOp, resolve, e1, Deferred.ofValue, invoke, J9 he]
 rw [hrun, Oper.upon_enter]
 refine hcall.mono fun e w' ⟨y, C', hy, A, O⟩ => ?_
 subst hy
 have hg := A.grew
 have hown : ∀ b q k, C.own b = some (q, k) → b < w.heap.size := fun b q k hb => (h.own b q k hb).2.1
 rcases O.ex with ⟨ad, rfl⟩ | ⟨b, cap, c, rfl, k1, k2, k3, k4, k5⟩
 ·have cg : CGrew C { D := C'.D, ρ := C.ρ, own := C.own } w w' := ⟨A.D, fun b o hD => (A.dNew b o hD).elim .inl fun hd => hd.elim (fun hd => .inr ⟨hd, A.dLt b o hD⟩) fun hm => (ac0 hm).elim, rfl, fun _ _ => rfl, fun b q k hb hge => absurd (hown b q k hb) (Nat.not_lt.2 hge)⟩
  have hs := h.grew hg cg
  refine hK { D := C'.D, ρ := C.ρ, own := C.own } (.slice ad ps.length ps.length) w' ?_ (h.tr_grew (C' := { D := C'.D, ρ := C.ρ, own := C.own }) hg rfl _) (fun L d hL => by simp at hL);rw [hd]
  have hv : VT P { D := C'.D, ρ := C.ρ, own := C.own } w' d (.ow lo E ps) (.slice ad ps.length ps.length) := .one (.owx ?_) rfl
  ·exact hs.put hdn hv
  cases A.val with
  | one hv _ =>
   generalize hz : (Value.slice ad ps.length ps.length).cells.toList = z at hv
   cases hv with
   | pu hv => subst hz; exact hv
 ·have hb' : b < w'.heap.size := C8 k2
  have cg : CGrew C { D := C'.D, ρ := C.ρ, own := open Classical in fun b' => if b' = b then some (.slot d, ps.length * P.cellsOf E) else C.own b' } w w' := by
   refine ⟨A.D, fun b o hD => (A.dNew b o hD).elim .inl fun hd => hd.elim (fun hd => .inr ⟨hd, A.dLt b o hD⟩) fun hm => (ac0 hm).elim, rfl, fun b' hlt => ?_, fun b' q k hb hge => ?_⟩
   ·simp only
    rw [if_neg (by omega)]
   ·simp only at hb
    split at hb
    ·rename_i e
     subst e
     simp at hb
     obtain ⟨rfl, rfl⟩ := hb
     exact ⟨hb', k5⟩
    ·exact absurd (hown b' q k hb) (Nat.not_lt.2 hge)
  have hs := h.grew hg cg
  refine hK { D := C'.D, ρ := C.ρ, own := open Classical in fun b' => if b' = b then some (.slot d, ps.length * P.cellsOf E) else C.own b' } (.slice (some ⟨b, 0, none⟩) ps.length cap) w' ?_ (h.tr_grew (C' := { D := C'.D, ρ := C.ρ, own := open Classical in fun b' => if b' = b then some (.slot d, ps.length * P.cellsOf E) else C.own b' }) hg rfl _) (fun L d hL => by simp at hL);rw [hd]
  have hv : VT P { D := C'.D, ρ := C.ρ, own := open Classical in fun b' => if b' = b then some (.slot d, ps.length * P.cellsOf E) else C.own b' } w' d (.ow lo E ps) (.slice (some ⟨b, 0, none⟩) ps.length cap) := .one (.ow (c := c) ?_ (if_pos rfl) k2 k3 k4) rfl
  ·exact hs.put hdn hv
  cases A.val with
  | one hv _ =>
   generalize hz : (Value.slice (some ⟨b, 0, none⟩) ps.length cap).cells.toList = z at hv
   cases hv with
   | pu hv => subst hz; exact hv
section
variable {X : Ctx} {ops : Array Oper} {env : List (Nat × PV)} {heap : List (Nat × Ob)} {dr : Bool} {s0 : St} {K : St → Prop} {dn : List Item} {rest : List Oper} {d : Nat} {ty : TypeId} {pos : String} {after : Array Edge}
theorem aG7 {fo : Operand} {as : Array Operand} {ts : Array TypeId} {f : FuncId} {vf r : PV} {vs args : List PV} {lo : Nat} {E : TypeId} {ps : List Pu} (hc : OCall P X.G f args lo E ps)
  (c : WalkR P X ops dr s0 K (dn ++ [⟨⟨some d, .call ⟨.value fo, as, ts⟩, ty, pos, after, none⟩, { v := .ow lo E ps }, { reads := c9 (fo :: as.toList), labs := [] }⟩]) ⟨(d, .ow lo E ps) :: env, heap⟩ rest)
  (hfo : b9 X.G env fo = some r := by rfl) (hs : Str r vf := by repeat constructor) (hfv : fnV vf = some (f, [], []) := by rfl)
  (h : EvL X env true as.toList vs := by repeat (first | exact EvL.nil | (apply EvL.cons; (first | (focus (apply Ev.mk; exact rfl; (repeat constructor); done))))))
  (himp : VImps P vs args := by repeat (first | exact VImps.nil | (apply VImps.cons; first | exact VImp.refl _ | exact LowI.imp | (focus (apply d4; apply b4 <;> omega)) | (focus (apply ToPu.imp; (repeat constructor); done)))))
  (he : j8 P f = true := by kernel_rfl) (hn : vs.any j1 = false := by rfl) (hn' : args.any j1 = false := by rfl) (hd : lb d X.n = true := by rfl) :
  WalkR P X ops dr s0 K dn ⟨env, heap⟩ (⟨some d, .call ⟨.value fo, as, ts⟩, ty, pos, after, none⟩ :: rest) := by
 obtain ⟨raw, h1, h2⟩ := h.raw rfl
 refine WalkR.cons ⟨fun l h => by simp [PV.labs] at h, fun L h => by simp at h, fun st' ha _ C a w hs' _ => ?_⟩ c
 have hfo' : b9 X.G st'.env fo = some r := by
  rw [d5 (env := env) fun t e => ha.env t (f0 (by rw [e]; simp))];exact hfo
 have hr : evalL X.G st'.env as.toList = some raw := by
  rw [u6 (env := env) fun t ht => ha.env t (by
   unfold c9 at *
   rw [List.filterMap_cons]
   split
   ·exact ht
   ·exact List.mem_cons_of_mem _ ht)]
  exact h1
 exact .of ((Guard.none rfl).wanted hs') (bb8 hs' rfl hfo' (by rw [hs.eq]; exact hfv) he hr (by rw [h2]; exact hn) (by rw [h2]; exact himp) hn' hc rfl (F6 hd))
theorem by4 {s : Nat} {y : Operand} {tt E : TypeId} {B lo : Nat} {v : PV} {ps ys : List Pu} [hE : El P tt E B] (hfit : (ps.length + ys.length) * B ≤ 70368744177664)
  (t : WalkR P X ops dr s0 K (dn ++ [⟨⟨some d, .call ⟨.builtin .append, #[.tmp s, y], #[tt, tt]⟩, ty, pos, after, none⟩, { v := .ow lo E (ps ++ ys), env := [(s, .pu (.sl lo E ps))] }, { reads := s :: c9 [y] }⟩]) ⟨(d, .ow lo E (ps ++ ys)) :: (s, .pu (.sl lo E ps)) :: env, heap⟩ rest)
  (hs : get env s = some (.ow lo E ps) := by rfl) (hy : b9 X.G env y = some v := by rfl) (hv : Elems E v ys := by repeat constructor) (hd : lb d X.n = true := by rfl) (hlo : lo ≤ X.w0.heap.size := by first | exact Nat.zero_le _ | exact Nat.le_refl _) :
  WalkR P X ops dr s0 K dn ⟨env, heap⟩ (⟨some d, .call ⟨.builtin .append, #[.tmp s, y], #[tt, tt]⟩, ty, pos, after, none⟩ :: rest) := by
 refine WalkR.cons ⟨fun l h => by simp [PV.labs] at h, fun L h => by simp at h, fun st' ha _ C a w hs' _ => ?_⟩ t
 have hy' : b9 X.G st'.env y = some v := by
  rw [d5 (env := env) fun t e => ha.env t (by rw [e]; simp [c9])];exact hy
 have hs1 : get st'.env s = some (.ow lo E ps) := (ha.env s (by simp)).trans hs
 obtain ⟨x, hx, _⟩ := hs'.env s _ hs1
 exact .of ((Guard.none rfl).wanted hs') (S8 hs' rfl hE.spec.1 hs1 ⟨x, hx, hx⟩ hy' hv.eq rfl (F6 hd) (by rw [hE.spec.2]; exact hfit) hlo)
end
end
section
section
variable {P : Program} {X : Ctx} {ops : Array Oper} {dr : Bool} {s0 : St} {K : St → Prop} {dn : List Item} {rest : List Oper} {d : Nat} {ty : TypeId} {pos : String} {after : Array Edge} {env : List (Nat × PV)} {heap : List (Nat × Ob)}
end
end
section
variable {P : Program} {lo : Nat}
section
variable {X : Ctx} {ops : Array Oper} {dr : Bool} {s0 : St} {K : St → Prop} {dn : List Item} {rest : List Oper} {d : Nat} {ty : TypeId} {pos : String} {after : Array Edge} {env : List (Nat × PV)} {heap : List (Nat × Ob)}
end
end
section
variable {P : Program} {X : Ctx} {lo lo' : Nat}
inductive FlAt (P : Program) (D : Nat → Nat → Prop) (w : World) (E : TypeId) (ps : List Pu) : Option Nat → Value → Prop
 | nil (h : ps = []) : FlAt P D w E ps none (.slice none 0 0)
 | row {b cap : Nat} {c : Array Value} {y z : List Value} (h : PRs P D w (List.replicate ps.length (P.cellsOf E, E)) ps y) (hn : ps.length ≤ cap) (hb : w.heap[b]? = some (.cells c E (0, 0)))
   (hy : c.toList = y ++ z) (hc : c.size = cap * P.cellsOf E) : FlAt P D w E ps (some b) (.slice (some ⟨b, 0, none⟩) ps.length cap)
theorem aj1 {C : Cfg} {w : World} {q : Place} {E : TypeId} {ps : List Pu} {x : Value} (h : VR P C w (some q) (.fl E ps) [x]) : ∃ k, FlAt P C.D w E ps k x ∧ ∀ b, k = some b → C.own b = some (q, 0) := by
 generalize hz : ([x] : List Value) = z at h
 cases h with
 | flx => simp at hz; subst hz; exact ⟨none, .nil rfl, by simp⟩
 | fl h hn ho hb hy hc => simp at hz; subst hz; exact ⟨_, .row h hn hb hy hc, fun b hb => by simp at hb; subst hb; exact ho⟩
theorem FlAt.val {C : Cfg} {w : World} {E : TypeId} {ps : List Pu} {k : Option Nat} {y : Value} (h : FlAt P C.D w E ps k y) {q : Place} (ho : ∀ b, k = some b → C.own b = some (q, 0)) : VR P C w (some q) (.fl E ps) [y] := by
 cases h with
 | nil h => subst h; exact .flx
 | row h hn hb hy hc => exact .fl h hn (ho _ rfl) hb hy hc
theorem FlAt.slice {D : Nat → Nat → Prop} {w : World} {E : TypeId} {ps : List Pu} {k : Option Nat} {y : Value} (h : FlAt P D w E ps k y) : ∃ a cap, y = .slice a ps.length cap := by
 cases h with
 | nil h => subst h; exact ⟨_, _, rfl⟩
 | row h hn hb hy hc => exact ⟨_, _, rfl⟩
theorem FlAt.mono {D D' : Nat → Nat → Prop} {w w' : World} {E : TypeId} {ps : List Pu} {k : Option Nat} {y : Value} (h : FlAt P D w E ps k y) (hD : ∀ b o, D b o → D' b o ∧ w'.cell? ⟨b, o, none⟩ = w.cell? ⟨b, o, none⟩) (hK : TyKeep w w') (hb : ∀ b, k = some b → w'.heap[b]? = w.heap[b]?) : FlAt P D' w' E ps k y := by
 cases h with
 | nil h => exact .nil h
 | row h hn h1 hy hc => exact .row (h.mono hD hK) hn ((hb _ rfl).trans h1) hy hc
def ak2 (P : Program) (D : Nat → Nat → Prop) (w : World) (E : TypeId) (k : Option Nat) (ps' : List Pu) (y : Value) (w' : World) : Prop :=
 ∃ b, FlAt P D w' E ps' (some b) y ∧ (k = some b ∧ Chg b w w' ∨ w.heap.size ≤ b ∧ Grew w w')
theorem af4 {C : Cfg} {w : World} (ls : List Nat) (keep : Place → Prop) : Stays C C w w ls keep := ⟨fun _ _ hD => ⟨hD, rfl⟩, fun _ _ => rfl, fun _ _ _ hb _ => ⟨hb, rfl⟩, TyKeep.refl w⟩
theorem SatC.flObj {C : Cfg} {st : St} {a : Act} {w : World} (h : SatC P X C st a w) {l t : Nat} {path : List Nat} {ob ob' : Ob} {E : TypeId} {ps : List Pu} (hl : get st.heap l = some ob) (hR : l ∉ X.R) (hg : ob.get path = some (.fl E ps))
  (hset : ob.set path (.hd E ps.length) = some ob') (hbor : ak3 P C a w t (.obj l path)) :
  ∃ k x, a.tmps[t]? = some x ∧ FlAt P C.D w E ps k x ∧ (∀ b, k = some b → C.own b = some (.obj l path, 0)) ∧
   ∀ {ps' : List Pu} {y : Value} {w' : World} {d : Nat}, d < X.n → ak2 P C.D w E k ps' y w' →
    ∃ C', SatC P X C' ⟨(d, .fl E ps') :: st.env, (l, ob') :: st.heap⟩ (a.put (some d) y) w' ∧ C'.ρ = C.ρ ∧ ∀ l' ob2 b R, get st.heap l' = some ob2 → C.ρ l' = some (b, R) → w'.heap[b]? = w.heap[b]? := by
 obtain ⟨bl, R, T, off, x, hρ, hs, hbx, hcx⟩ := hbor
 obtain ⟨bl', e0, hN, hor⟩ := h.heap l ob hl
 rw [e0] at hρ
 simp at hρ
 obtain ⟨rfl, rfl⟩ := hρ
 obtain ⟨u', c0, E0, pre, mid, post, g1, g2, g3, g4, g5, g6, g7, g8⟩ := OR.at hor hs hg
 rw [hg] at g5
 simp at g5
 subst g5
 have hmid : mid = [x] := by
  have hT : f7 P T = none := by simpa [tyV] using g6
  obtain ⟨z, rfl, _⟩ := g4.length_one g6 hT
  rw [m8 g1, ← Array.getElem?_toList, g2, ← g3, List.getElem?_append_right (Nat.le_refl _)] at hcx
  simp at hcx
  rw [hcx]
 subst hmid
 obtain ⟨k, hf, ho⟩ := aj1 g4
 have hth : tyV P T (.hd E ps.length) = true := by simpa [tyV] using g6
 have hhd : ∀ (C' : Cfg) (w' : World), VR P C' w' (some (.obj l path)) (.hd E ps.length) [x] := fun C' w' => by
  obtain ⟨a0, cap, rfl⟩ := hf.slice
  exact .hd
 refine ⟨k, x, hbx, hf, ho, fun {ps' y w' d} hd ⟨b, hb, hcase⟩ => ?_⟩
 have hy : y.cells.toList = [y] ∧ d7 y = false := by
  obtain ⟨a0, cap, rfl⟩ := hb.slice
  exact ⟨rfl, rfl⟩
 rcases hcase with ⟨hk, hchg⟩ | ⟨hge, hgrew⟩
 ·have hob := ho b hk
  obtain ⟨_, hlt, hkD, hno⟩ := h.own b _ _ hob
  have hnD : ∀ o, ¬ C.D b o := fun o hD => Nat.not_lt_zero o (hkD o hD)
  have hcell : ∀ b' o, C.D b' o → C.D b' o ∧ w'.cell? ⟨b', o, none⟩ = w.cell? ⟨b', o, none⟩ := fun b' o hD => ⟨hD, by
   have hne : b' ≠ b := fun e => by subst e; exact hnD o hD
   simp only [World.cell?, hchg.block b' (h.dLt b' o hD) hne]⟩
  let C' : Cfg := { D := C.D, ρ := C.ρ, own := fun b' => if b' = b then some (.slot d, 0) else C.own b' }
  have hne : bl' ≠ b := fun e => by subst e; exact hno l ob _ hl e0
  have cown : COwn C C' b w w' := ⟨hcell, fun _ _ hD => .inl hD, rfl, fun b' _ hne => by simp [C', hne], fun q k' hq o hD => (hnD o hD).elim, fun b' q k' hq hge' => by
   by_cases e : b' = b
   ·subst e; omega
   ·simp [C', e] at hq
    have := (h.own b' _ _ hq).2.1
    omega⟩
  have h2 := h.chg hob hchg cown st.env ((l, ob') :: st.heap) (fun i u hu => .inl ⟨hu, fun hk => by simp [Keeps] at hk⟩) (fun l' ob2 hl' => by
   rw [f8] at hl'
   split at hl'
   ·rename_i e
    subst e
    simp at hl'; subst hl'
    refine .inr ⟨ob, hl, Ob.set_root hset, fun b' hb' => ?_⟩
    obtain rfl : bl' = b' := by rw [Ob.set_root hset, e0] at hb'; simp at hb'; exact hb'
    obtain ⟨ob3, k1, k2⟩ := g8 (C' := C') (w' := w') (c' := c0) (u' := .hd E ps.length) ⟨hcell, fun _ _ => rfl, fun b1 q n hb1 hkk => by
     have hq : b1 ≠ b := fun e => by
      subst e
      rw [hob] at hb1
      simp at hb1
      exact hkk.2 [] (by rw [← hb1.1]; simp)
     have hlt := (h.own b1 q n hb1).2.1
     exact ⟨(cown.own b1 hlt hq).trans hb1, hchg.block b1 hlt hq⟩, hchg.ty⟩ ((hchg.block bl' hor.lt hne).trans g1) g2 (hhd _ _) rfl hth
    rw [hset] at k1
    simp at k1
    subst k1;exact k2
   ·rename_i e
    exact .inl ⟨hl', fun hk => by obtain ⟨r, lo, E, ps, e', _⟩ := hk; simp at e'; exact e e'.1.symm⟩)
  refine ⟨C', h2.put hd (.one (by rw [hy.1]; exact FlAt.val (C := C') hb fun b' hb' => by simp at hb'; subst hb'; simp [C']) hy.2), rfl, fun l' ob2 b1 R hl' hb1 => hchg.block b1 (h.block_lt hl' hb1) fun e => ?_⟩
  subst e;exact hno l' ob2 R hl' hb1
 ·obtain ⟨ob2, k1, k2⟩ := g8 (C' := C) (w' := w) (c' := c0) (u' := .hd E ps.length) (af4 _ _) g1 g2 (hhd _ _) rfl hth
  rw [hset] at k1
  simp at k1
  subst k1
  have h2 : SatC P X C ⟨st.env, (l, ob') :: st.heap⟩ a w := h.write hl hR e0 (Ob.set_root hset) ⟨rfl, rfl, rfl, rfl, fun _ _ => rfl, TyKeep.refl w⟩ st.env rfl rfl (fun _ q _ hq => ⟨q, hq⟩) h.env (fun _ _ _ _ => af4 _ _) k2 (af4 _ _)
  let C' : Cfg := { D := C.D, ρ := C.ρ, own := fun b' => if b' = b then some (.slot d, 0) else C.own b' }
  have hbl : b < w'.heap.size := by
   cases hb with
   | row _ _ h1 _ _ => exact C8 h1
  have cg : CGrew C C' w w' := ⟨fun _ _ h => h, fun _ _ h => .inl h, rfl, fun b' hlt => by
   have : b' ≠ b := by omega
   simp [C', this], fun b' q k' hq hge' => by
   by_cases e : b' = b
   ·subst e
    exact ⟨hbl, fun o hD => absurd (h.dLt b' o hD) (Nat.not_lt.2 hge')⟩
   ·simp [C', e] at hq
    have := (h.own b' _ _ hq).2.1
    omega⟩
  refine ⟨C', (h2.grew hgrew cg).put hd (.one (by rw [hy.1]; exact FlAt.val (C := C') hb fun b' hb' => by simp at hb'; subst hb'; simp [C']) hy.2), rfl, fun l' ob2 b1 R hl' hb1 => hgrew.block b1 (h.block_lt hl' hb1)⟩
theorem aE7 {D : Nat → Nat → Prop} {w : World} {t ty E : TypeId} (he : ElemOk P t E) {ps ys : List Pu} {k : Option Nat} {x : Value} {a1 : Option Addr} {n1 c1 : Nat} (hf : FlAt P D w E ps k x) (hkD : ∀ b, k = some b → ∀ o, ¬ D b o) (hlt : ∀ b o, D b o → b < w.heap.size)
  (hy : PR P D w (.sl lo' E ys) [.slice a1 n1 c1]) (hys : ys ≠ []) (hfit : (ps.length + ys.length) * P.bytesOf E ≤ 70368744177664) :
  ∃ y w', (Builtin.append_ #[t, t] ty #[x, .slice a1 n1 c1]).run P w = .ok y w' ∧ ak2 P D w E k (ps ++ ys) y w' := by
 obtain ⟨i, z, hi, hz, hzs⟩ := he.zero
 obtain ⟨rfl, yx, y1, y2, y3⟩ := hy.cells
 have hsz := E8 hi
 have hbs := G7 hi
 have hb0 : 1 ≤ P.bytesOf E := Nat.one_le_iff_ne_zero.2 he.bytes
 have hlen' : (ps ++ ys).length = ps.length + ys.length := by simp
 obtain ⟨b1, o1, rfl, hc1, y3⟩ := y3 hys
 have hpos : 0 < ys.length := List.length_pos_iff.2 hys
 have hlen : ps.length + ys.length ≤ 70368744177664 := Nat.le_trans (Nat.le_mul_of_pos_right _ hb0) hfit
 have hnews : ∀ j v, yx[j]? = some v → w.cell? ((⟨b1, o1, none⟩ : Addr).add j) = some v := fun j v hj => (y3 j v hj).1
 have new : ∀ (px : List Value) (cap0 : Nat), PRs P D w (List.replicate ps.length (P.cellsOf E, E)) ps px →
   (Builtin.append_ #[t, t] ty #[x, .slice (some ⟨b1, o1, none⟩) ys.length c1]).run P w = .ok (.slice (some ⟨w.heap.size, 0, none⟩) (ps.length + ys.length) cap0) (w.drew.alloc (.cells (px.toArray ++ yx.toArray ++ Builtin.zeroCells z.cells (cap0 - (ps.length + ys.length))) E)) → ps.length + ys.length ≤ cap0 →
   ∃ y w', (Builtin.append_ #[t, t] ty #[x, .slice (some ⟨b1, o1, none⟩) ys.length c1]).run P w = .ok y w' ∧ ak2 P D w E k (ps ++ ys) y w' := fun px cap0 p1 hrun hcap => by
  have p2 : px.length = ps.length * P.cellsOf E := by rw [p1.length.1]; simp
  have hg := B5 w (.cells (px.toArray ++ yx.toArray ++ Builtin.zeroCells z.cells (cap0 - (ps.length + ys.length))) E)
  have hblk := alloc_heap_new w.drew (.cells (px.toArray ++ yx.toArray ++ Builtin.zeroCells z.cells (cap0 - (ps.length + ys.length))) E)
  have hmono : ∀ b o, D b o → D b o ∧ (w.drew.alloc (.cells (px.toArray ++ yx.toArray ++ Builtin.zeroCells z.cells (cap0 - (ps.length + ys.length))) E)).cell? ⟨b, o, none⟩ = w.cell? ⟨b, o, none⟩ := fun b o hD => ⟨hD, hg.cell (hlt b o hD)⟩
  have hall := (PRs.mono hmono hg.ty p1).append (PRs.mono hmono hg.ty y1)
  rw [List.replicate_append_replicate, ← hlen'] at hall
  refine ⟨_, _, hrun, w.heap.size, ?_, .inr ⟨Nat.le_refl _, hg⟩⟩
  rw [← hlen'];refine .row (y := px ++ yx) (z := (Builtin.zeroCells z.cells (cap0 - (ps.length + ys.length))).toList) hall (by rw [hlen']; exact hcap) (by rw [hlen']; exact hblk) (by simp) ?_
  simp [p2, y2, size_zeroCells, hzs, hsz]
  have : cap0 * i.size = (ps.length + ys.length + (cap0 - (ps.length + ys.length))) * i.size := by congr 1; omega
  rw [this, Nat.add_mul, Nat.add_mul]
 cases hf with
 | nil hps =>
  subst hps;refine new [] _ .nil ?_ (grownCap_ge w (0 + ys.length) 0 E)
  have := run_append_nil (P := P) w t ty E i z he.slice hi hz ⟨b1, o1, none⟩ ys.length c1 yx (by rw [y2, hsz]) hnews hpos (by simp at hlen; omega) (by simp at hfit; rw [← hbs]; omega)
  simpa using this
 | @row b cap c px zx p1 hn hblk hcy hcs =>
  have p2 : px.length = ps.length * P.cellsOf E := by rw [p1.length.1]; simp
  have hcell : ∀ j v, px[j]? = some v → w.cell? ⟨b, j, none⟩ = some v := fun j v hj => by
   rw [m8 hblk, ← Array.getElem?_toList, hcy, List.getElem?_append_left (List.getElem?_eq_some_iff.1 hj).1];exact hj
  by_cases hroom : ps.length + ys.length ≤ cap
  ·have hfitc : ps.length * i.size + yx.length ≤ c.size := by
    rw [y2, hcs, hsz, ← Nat.add_mul];exact Nat.mul_le_mul_right _ hroom
   have hrun := run_append_room (P := P) w t ty E i he.slice hi b ps.length cap c hblk ⟨b1, o1, none⟩ ys.length c1 yx (by rw [y2, hsz]) hnews (fun u hu => y1.one u hu) hroom hfitc
   let c' : Array Value := (c.toList.take (ps.length * i.size) ++ yx ++ c.toList.drop (ps.length * i.size + yx.length)).toArray
   have hblk' : (w.setRow b c').heap[b]? = some (.cells c' E (0, 0)) := setRow_heap w b c c' E (0, 0) hblk
   have hg : Chg b w (w.setRow b c') := ⟨rfl, rfl, rfl, by rw [F8]; exact Nat.le_refl _, fun b' _ hne => x0 w b c' hne, S3 w b c'⟩
   have hmono : ∀ b' o, D b' o → D b' o ∧ (w.setRow b c').cell? ⟨b', o, none⟩ = w.cell? ⟨b', o, none⟩ := fun b' o hD => ⟨hD, by
    have hne : b' ≠ b := fun e => by subst e; exact hkD b' rfl o hD
    simp only [World.cell?, x0 w b c' hne]⟩
   have hall := (PRs.mono hmono hg.ty p1).append (PRs.mono hmono hg.ty y1)
   rw [List.replicate_append_replicate, ← hlen'] at hall
   have htk : c.toList.take (ps.length * i.size) = px := by rw [hcy, ← hsz, ← p2]; simp
   refine ⟨_, _, hrun, b, ?_, .inl ⟨rfl, hg⟩⟩
   rw [← hlen'];refine .row (c := c') (y := px ++ yx) (z := c.toList.drop (ps.length * i.size + yx.length)) hall (by rw [hlen']; exact hroom) hblk' (by simp only [c', htk]) ?_
   show (c.toList.take (ps.length * i.size) ++ yx ++ c.toList.drop (ps.length * i.size + yx.length)).length = _
   rw [List.length_append, List.length_append, htk, List.length_drop, Array.length_toList (xs := c), ← hcs, p2, hsz]
   omega
  ·have hfits : Builtin.nextslicecap (ps.length + ys.length) cap * i.bytes ≤ 281474976710656 := growslice_fits (by omega) (by rw [← hbs]; omega)
   exact new px _ p1 (run_append_grow (P := P) w t ty E i z he.slice hi hz ⟨b, 0, none⟩ ps.length cap px (by rw [p2, hsz]) (fun j v hj => by rw [Addr.add_lit]; simpa using hcell j v hj) ⟨b1, o1, none⟩ ys.length c1 yx (by rw [y2, hsz]) hnews (by omega) (by push_cast; omega) hfits) (grownCap_ge w _ _ _)
theorem SatC.flD {C : Cfg} {st : St} {a : Act} {w : World} (h : SatC P X C st a w) {k : Option Nat} {q : Place} (ho : ∀ b, k = some b → C.own b = some (q, 0)) : ∀ b, k = some b → ∀ o, ¬ C.D b o := fun b hb o hD => Nat.not_lt_zero o ((h.own b _ _ (ho b hb)).2.2.1 o hD)
theorem bb9 {C : Cfg} {st : St} {o : Oper} {a : Act} {w : World} (h : SatC P X C st a w) {b : Nat} {y : Operand} {t E : TypeId} {v : PV} {ps ys : List Pu} {l d : Nat} {path : List Nat} {ob ob' : Ob} (hop : o.op = .call ⟨.builtin .append, #[.tmp b, y], #[t, t]⟩) (he : ElemOk P t E)
  (hl : get st.heap l = some ob) (hR : l ∉ X.R) (hg : ob.get path = some (.fl E ps)) (hset : ob.set path (.hd E ps.length) = some ob') (hbor : ak3 P C a w b (.obj l path)) (hy : b9 X.G st.env y = some v) (hv : I1 E (strip v) = some ys) (hys : ys ≠ []) (hd : o.dst = some d) (hdn : d < X.n)
  (hfit : (ps.length + ys.length) * P.bytesOf E ≤ 70368744177664) :
  Exec P X C st o a w { v := .fl E (ps ++ ys), heap := [(l, ob')] } := by
 obtain ⟨k, x, hbx, hf, ho, hN⟩ := h.flObj hl hR hg hset hbor
 have hbe : a.eval (.tmp b) = x := by simp [Act.eval, Array.getD_eq_getD_getElem?, hbx]
 obtain ⟨a1, n1, c1, e1, p1⟩ := O8 (h.eval hy) hv
 obtain ⟨r, w', f1, f2⟩ := aE7 (ty := o.type) he hf (h.flD ho) h.dLt p1 hys hfit
 obtain ⟨C', k1, k2, k3⟩ := hN hdn f2
 refine m5 (C' := C') (w' := w') (y := r) (B4 hop (by rw [hbe, e1]; exact f1)) (by rw [hd]; exact k1) ⟨fun _ _ _ => by rw [k2], fun l' ob2 b1 R hl' _ hb1 => k3 l' ob2 b1 R hl' hb1⟩ (fun L d hL => by simp at hL)
theorem SatC.flGet {C : Cfg} {st : St} {a : Act} {w : World} (h : SatC P X C st a w) {l t : Nat} {path : List Nat} {ob : Ob} {E : TypeId} {ps : List Pu} (hl : get st.heap l = some ob) (hg : ob.get path = some (.fl E ps)) (hbor : ak3 P C a w t (.obj l path)) :
  ∃ k x, a.tmps[t]? = some x ∧ FlAt P C.D w E ps k x ∧ ∀ b, k = some b → C.own b = some (.obj l path, 0) := by
 obtain ⟨bl, R, T, off, x, hρ, hs, hbx, hcx⟩ := hbor
 obtain ⟨bl', e0, hN, hor⟩ := h.heap l ob hl
 rw [e0] at hρ
 simp at hρ
 obtain ⟨rfl, rfl⟩ := hρ
 obtain ⟨u', c0, E0, pre, mid, post, g1, g2, g3, g4, g5, g6, g7, g8⟩ := OR.at hor hs hg
 rw [hg] at g5
 simp at g5
 subst g5
 have hmid : mid = [x] := by
  have hT : f7 P T = none := by simpa [tyV] using g6
  obtain ⟨z, rfl, _⟩ := g4.length_one g6 hT
  rw [m8 g1, ← Array.getElem?_toList, g2, ← g3, List.getElem?_append_right (Nat.le_refl _)] at hcx
  simp at hcx
  rw [hcx]
 subst hmid
 obtain ⟨k, hf, ho⟩ := aj1 g4
 exact ⟨k, x, hbx, hf, ho⟩
def Cfg.lend (C : Cfg) (k : Option Nat) (m : Nat) : Cfg := { D := fun b o => C.D b o ∨ (k = some b ∧ o < m), ρ := C.ρ, own := open Classical in fun b => if k = some b then none else C.own b }
theorem I4 {C : Cfg} {w : World} {k : Option Nat} {m l : Nat} {path : List Nat} (ho : ∀ b, k = some b → C.own b = some (.obj l path, 0)) (ls : List Nat) (keep : Place → Prop) (hk : ∀ q, keep q → q ≠ .obj l path) : Stays C (C.lend k m) w w ls keep :=
 ⟨fun b o hD => ⟨.inl hD, rfl⟩, fun _ _ => rfl, fun b q n hb hq => by
  have hne : k ≠ some b := fun e => by
   rw [ho b e] at hb
   simp at hb
   exact hk q hq hb.1.symm
  exact ⟨by simp [Cfg.lend, hne, hb], rfl⟩, TyKeep.refl w⟩
theorem FlAt.lent {C : Cfg} {w : World} {E : TypeId} {ps : List Pu} {k : Option Nat} {x : Value} (h : FlAt P C.D w E ps k x) : PR P (C.lend k (ps.length * P.cellsOf E)).D w (.sl 0 E ps) [x] := by
 cases h with
 | nil h => subst h; exact .sl0
 | @row b cap c y z h hn hb hy hc =>
  by_cases hps : ps = []
  ·subst hps; exact .sl0
  ·have hyl : y.length = ps.length * P.cellsOf E := by rw [h.length.1]; simp
   refine .sl hps hn (PRs.mono (fun b o hD => ⟨.inl hD, rfl⟩) (TyKeep.refl w) h) (fun j v hj => ?_) (.inl rfl)
   have hjl := (List.getElem?_eq_some_iff.1 hj).1
   refine ⟨?_, .inr ⟨rfl, by rw [← hyl]; omega⟩⟩
   rw [Nat.zero_add, m8 hb, ← Array.getElem?_toList, hy, List.getElem?_append_left hjl];exact hj
theorem SatC.lendOwn {C : Cfg} {st : St} {a : Act} {w : World} (h : SatC P X C st a w) {k : Option Nat} {m : Nat} {l : Nat} {path : List Nat} (ho : ∀ b, k = some b → C.own b = some (.obj l path, 0)) : (∀ b o, (C.lend k m).D b o → b < w.heap.size) ∧
  (∀ b q n, (C.lend k m).own b = some (q, n) → C.own b = some (q, n) ∧ ∀ o, (C.lend k m).D b o → o < n) ∧ ∀ l' ob b R o, get st.heap l' = some ob → C.ρ l' = some (b, R) → ¬ (C.lend k m).D b o := by
 refine ⟨fun b o hD => ?_, fun b q n hb => ?_, fun l' ob b R o hl hρ hD => ?_⟩
 ·rcases hD with hD | ⟨e, _⟩
  ·exact h.dLt b o hD
  ·exact (h.own b _ _ (ho b e)).2.1
 ·simp only [Cfg.lend] at hb
  split at hb
  ·cases hb
  ·rename_i e
   refine ⟨hb, fun o hD => ?_⟩
   rcases hD with hD | ⟨e', _⟩
   ·exact (h.own b q n hb).2.2.1 o hD
   ·exact absurd e' e
 ·rcases hD with hD | ⟨e, _⟩
  ·exact h.dObj l' ob b R o hl hρ hD
  ·exact (h.own b _ _ (ho b e)).2.2.2 l' ob R hl hρ
theorem bs4 {C : Cfg} {st : St} {o : Oper} {a : Act} {w : World} (h : SatC P X C st a w) {fo y : Operand} {b : Nat} {ts : Array TypeId} {f : FuncId} {vf u : PV} {HR : List (Nat × Ob)} {v0 : Value} {l : Nat} {path : List Nat} {ob : Ob} {E : TypeId} {ps : List Pu}
  (hop : o.op = .call ⟨.value fo, #[.tmp b, y], ts⟩) (hfo : b9 X.G st.env fo = some vf) (hfv : fnV (strip vf) = some (f, [], [])) (he : j8 P f = true) (hy : b9 X.G st.env y = some u) (hnt : j1 (strip u) = false)
  (hl : get st.heap l = some ob) (hg : ob.get path = some (.fl E ps)) (hbor : ak3 P C a w b (.obj l path)) (hHR : ∀ l' ob', get HR l' = some ob' → l' ≠ l ∧ get st.heap l' = some ob')
  (hc : HCall P X.G f [.pu (.sl 0 E ps), strip u] HR [] (.pu (.leaf v0)) [] []) (hd : C5 X.n o.dst = true) : Exec P X C st o a w { v := .pu (.leaf v0) } := by
 intro K Q hK
 obtain ⟨xs, ys, e1, e2, e3⟩ := aj0 (h.eval hfo) hfv
 obtain rfl : xs = #[] := Array.eq_empty_of_size_eq_zero (by simpa using e2.length.symm)
 obtain rfl : ys = #[] := Array.eq_empty_of_size_eq_zero (by simpa using e3.length.symm)
 obtain ⟨k, x, hbx, hf, ho⟩ := h.flGet hl hg hbor
 obtain ⟨d1, d2, d3⟩ := h.lendOwn (m := ps.length * P.cellsOf E) ho
 have hbe : a.eval (.tmp b) = x := by simp [Act.eval, Array.getD_eq_getD_getElem?, hbx]
 have hxc : x.cells.toList = [x] ∧ d7 x = false := by
  obtain ⟨a0, cap, rfl⟩ := hf.slice
  exact ⟨rfl, rfl⟩
 have har : VFs P C w [strip u] [a.eval y] := by
  have : ARs P C w a [y] [strip u] := .cons (h.eval hy) .nil
  simpa using this.vfs (M5 (by simp [hnt]))
 have hvf : VFs P (C.lend k (ps.length * P.cellsOf E)) w [.pu (.sl 0 E ps), strip u] [x, a.eval y] := .cons (by rw [hxc.1]; exact .pu hf.lent) hxc.2 (har.mono (I4 ho _ _ fun q hq => hq.elim))
 have fr : Frag P X.G (C.lend k (ps.length * P.cellsOf E)) w HR [] := by
  refine ⟨fun l' ob' hl' => ?_, fun l1 l2 b1 R R' o1 o2 h1 h2 => ?_, fun l' ob' b1 R o' hl' hρ => ?_, d1, fun b1 q n hb1 => ?_, h.gl.mono (I4 ho _ _ fun q hq => hq.elim)⟩
  ·obtain ⟨hne, k1⟩ := hHR l' ob' (by simpa using hl')
   obtain ⟨b1, f1, _, f3⟩ := h.heap l' ob' k1
   exact ⟨b1, f1, f3.mono (I4 ho _ _ fun q hq e => by
    obtain ⟨r, lo, E, ps, rfl, _⟩ := hq
    simp at e
    exact hne e.1) rfl⟩
  ·exact h.inj l1 l2 b1 R R' o1 o2 (hHR l1 o1 (by simpa using h1)).2 (hHR l2 o2 (by simpa using h2)).2
  ·exact d3 l' ob' b1 R o' (hHR l' ob' (by simpa using hl')).2 hρ
  ·obtain ⟨k1, k2⟩ := d2 b1 q n hb1
   exact ⟨(h.own b1 q n k1).2.1, k2, fun l' ob' R hl' => (h.own b1 q n k1).2.2.2 l' ob' R (hHR l' ob' (by simpa using hl')).2⟩
 have hcall := hc (C.lend k (ps.length * P.cellsOf E)) w #[x, a.eval y] fr (by simpa using hvf)
 unfold Oper.wp
 have hrun : (execOp a.eval o).run P w = .ok (.enter f #[x, a.eval y]) w := by
  obtain ⟨dst, op, type, pos, after, guard⟩ := o
  simp only at hop
  subst hop
  simp [execOp, resolve, e1, Deferred.ofValue, invoke, J9 he, hbe]
 rw [hrun, Oper.upon_enter]
 refine hcall.mono fun e w' ⟨r, C', hr, A⟩ => ?_
 subst hr
 have hgr := A.grew
 have hs := h.grew hgr (CGrew.refl C w w' fun b1 q n hb1 hge => absurd (h.own b1 q n hb1).2.1 (Nat.not_lt.2 hge))
 obtain ⟨rfl, hfl⟩ := A.val.leaf_inv
 refine hK C r w' ?_ (h.tr_grew hgr rfl _) (fun L d hL => by simp at hL)
 cases hdst : o.dst with
 | none => exact hs
 | some d => exact hs.put (t6 hd d hdst) ((VW.leaf hfl).vt d)
theorem Ghost.unfl {env : List (Nat × PV)} {heap : List (Nat × Ob)} {l : Nat} {path : List Nat} {ob ob' : Ob} {E : TypeId} {ps : List Pu} {T : TypeId} {off : Nat} (hl : get heap l = some ob) (hR : l ∉ X.R) (hg : ob.get path = some (.fl E ps)) (hs : M3 P ob.root path = some (T, off)) (hset : ob.set path (.pu (.sl 0 E ps)) = some ob') :
  Ghost P X ⟨env, heap⟩ ⟨env, (l, ob') :: heap⟩ := fun C a w h => by
 obtain ⟨bl, e0, hN, hor⟩ := h.heap l ob hl
 obtain ⟨u', c0, E0, pre, mid, post, g1, g2, g3, g4, g5, g6, g7, g8⟩ := OR.at hor hs hg
 rw [hg] at g5
 simp at g5
 subst g5
 obtain ⟨x, rfl⟩ : ∃ x, mid = [x] := by
  have hT : f7 P T = none := by simpa [tyV] using g6
  obtain ⟨z, rfl, _⟩ := g4.length_one g6 hT
  exact ⟨z, rfl⟩
 obtain ⟨k, hf, ho⟩ := aj1 g4
 obtain ⟨d1, d2, d3⟩ := h.lendOwn (m := ps.length * P.cellsOf E) ho
 have hth : tyV P T (.pu (.sl 0 E ps)) = true := by simpa [tyV, tyP] using g6
 obtain ⟨ob3, k1, k2⟩ := g8 (C' := C.lend k (ps.length * P.cellsOf E)) (w' := w) (c' := c0) (u' := .pu (.sl 0 E ps)) (I4 ho _ _ fun q hq e => hq.2 [] (by rw [e]; simp)) g1 g2 (.pu hf.lent) rfl hth
 rw [hset] at k1
 simp at k1
 subst k1
 have hr := Ob.set_root hset
 have key : ∀ l' ob2, get ((l, ob') :: heap) l' = some ob2 → ∃ ob1, get heap l' = some ob1 ∧ ob1.root = ob2.root := fun l' ob2 hl' => by
  rw [f8] at hl'
  split at hl'
  ·rename_i e
   simp at hl'
   subst e hl';exact ⟨ob, hl, hr.symm⟩
  ·exact ⟨ob2, hl', rfl⟩
 refine ⟨C.lend k (ps.length * P.cellsOf E), h.size, h.defers.mono fun D _ hD hoD => ⟨rfl, ?_⟩, h.framed, fun i u hu => ?_, fun l' ob2 hl' => ?_, fun l1 l2 b R R' o1 o2 h1 h2 => ?_, fun l' ob2 b R o hl' hρ => ?_, d1, fun b q n hb => ?_, h.gl.mono (I4 ho _ _ fun q hq => hq.elim),
  ⟨h.kin.rho, fun b o h0 => .inl (h.kin.dOld b o h0), fun b o hD => ?_⟩, h.keep⟩
 ·simp only [Cfg.lend]
  split
  ·rfl
  ·exact hoD
 ·obtain ⟨y, h1, h2⟩ := h.env i u hu
  exact ⟨y, h1, h2.mono (I4 ho _ _ fun q hq e => by subst e; simp [Keeps] at hq)⟩
 ·rw [f8] at hl'
  split at hl'
  ·rename_i e
   simp at hl'
   subst e hl';exact ⟨bl, by rw [hr]; exact e0, hN, k2⟩
  ·rename_i e
   obtain ⟨b1, f1, f2, f3⟩ := h.heap l' ob2 hl'
   exact ⟨b1, f1, f2, f3.mono (I4 ho _ _ fun q hq e' => by
    obtain ⟨r, lo, E, ps, rfl, _⟩ := hq
    simp at e'
    exact e e'.1) rfl⟩
 ·obtain ⟨p1, q1, _⟩ := key l1 o1 h1
  obtain ⟨p2, q2, _⟩ := key l2 o2 h2
  exact h.inj l1 l2 b R R' p1 p2 q1 q2
 ·obtain ⟨p1, q1, _⟩ := key l' ob2 hl'
  exact d3 l' p1 b R o q1 hρ
 ·obtain ⟨k1, k2⟩ := d2 b q n hb
  obtain ⟨r1, r2, _, r4⟩ := h.own b q n k1
  refine ⟨r1, r2, k2, fun l' ob2 R hl' => ?_⟩
  obtain ⟨p1, q1, _⟩ := key l' ob2 hl'
  exact r4 l' p1 R q1
 ·rcases hD with hD | ⟨e, _⟩
  ·exact h.kin.dNew b o hD
  ·exact .inr (h.own b _ _ (ho b e)).1
theorem SatC.storeFl {C : Cfg} {st : St} {a : Act} {w w' : World} (h : SatC P X C st a w) {l b : Nat} {ob : Ob} (hl : get st.heap l = some ob) (hR : l ∉ X.R) (hb : C.ρ l = some (b, ob.root))
  {path : List Nat} {T : TypeId} {off : Nat} (hs : M3 P ob.root path = some (T, off)) {u0 : PV} (hg : ob.get path = some u0) {s : Nat} {E1 : TypeId} {ps : List Pu} (hss : get st.env s = some (.fl E1 ps)) {y : Value} (hy : a.tmps[s]? = some y)
  (hx : P.cellsOf T = 1) (ht : (f7 P T).isNone = true)
  (g : ButBlock b w w') (hw : ∀ (c : Array Value) E, w.heap[b]? = some (.cells c E (0, 0)) → ∃ c' : Array Value, w'.heap[b]? = some (.cells c' E (0, 0)) ∧
   ∀ pre mid post, c.toList = pre ++ (mid ++ post) → pre.length = off → mid.length = 1 → c'.toList = pre ++ ([y] ++ post)) :
  ∃ ob' C', ob.set path (.fl E1 ps) = some ob' ∧ SatC P X C' ⟨(s, .hd E1 ps.length) :: st.env, (l, ob') :: st.heap⟩ a w' ∧ C'.ρ = C.ρ := by
 obtain ⟨b0, e0, hN, hor⟩ := h.heap l ob hl
 obtain rfl : b0 = b := by rw [e0] at hb; simpa using hb
 obtain ⟨u1, c, E, pre, mid, post, g1, g2, g3, g4, g5, g6, g7, g8⟩ := OR.at hor hs hg
 obtain ⟨c', k1, k2⟩ := hw c E g1
 obtain ⟨y', hy', hvt⟩ := h.env s _ hss
 obtain rfl : y' = y := by rw [hy] at hy'; exact (Option.some.inj hy').symm
 cases hvt with
 | one hv hsh =>
 have hcell : y'.cells.toList = [y'] := by
  cases y' <;> simp_all [d7, PV.isAgg, Value.cells]
 rw [hcell] at hv
 obtain ⟨k, hf, ho⟩ := aj1 hv
 have hsl : VR P C w' (some (.slot s)) (.hd E1 ps.length) [y'] := by
  obtain ⟨a0, cap, rfl⟩ := hf.slice
  exact .hd
 have hne : ∀ b1, k = some b1 → b1 ≠ b0 := fun b1 e1 e => by subst e; exact (h.own _ _ _ (ho b1 e1)).2.2.2 l ob _ hl hb
 let C' : Cfg := { C with own := open Classical in fun b' => if k = some b' then some (.obj l path, 0) else C.own b' }
 have st0 := h.staysBut hl hb g
 have st1 : ∀ (ls : List Nat) (keep : Place → Prop), (∀ q, keep q → q ≠ .slot s) → Stays C C' w w' ls keep := fun ls keep hk => by
  refine ⟨(st0 [] (fun _ => False)).D, fun _ _ => rfl, fun b2 q n hb2 hq => ?_, g.ty⟩
  have : k ≠ some b2 := fun e => by
   rw [ho b2 e] at hb2
   simp at hb2
   exact hk q hq hb2.1.symm
  exact ⟨by simp [C', this, hb2], ((st0 [] (fun _ => True)).own b2 q n hb2 trivial).2⟩
 have hnew : VR P C' w' (some (.obj l path)) (.fl E1 ps) [y'] := FlAt.val (C := C') (hf.mono (st0 [] (fun _ => False)).D g.ty fun b1 e1 => g.block b1 (hne b1 e1)) fun b1 e1 => by simp [C', e1]
 obtain ⟨ob', f1, f2⟩ := g8 (C' := C') (w' := w') (u' := .fl E1 ps) (mid' := [y']) (c' := c')
  (st1 _ _ fun q hq e => by obtain ⟨⟨r, lo, E, es, rfl, _⟩, _⟩ := hq; cases e) k1 (k2 pre mid post g2 g3 (by rw [g7, hx])) hnew (by rw [g7, hx]; rfl) (by simpa [tyV] using ht)
 refine ⟨ob', C', f1, h.write hl hR hb (Ob.set_root f1) g _ rfl rfl (fun b2 q n hq => ?_) (fun i v hv2 => ?_) (fun l' ob1 _ _ => st1 _ _ fun q hq e => by obtain ⟨r, lo, E, es, rfl, _⟩ := hq; cases e) f2 (st1 _ _ fun q hq => hq.elim), rfl⟩
 ·simp only [C'] at hq
  split at hq
  ·rename_i e
   simp at hq
   exact ⟨.slot s, by rw [ho b2 e]; simp [hq.2]⟩
  ·exact ⟨q, hq⟩
 ·rw [f8] at hv2
  split at hv2
  ·rename_i e
   subst e
   simp at hv2
   subst hv2
   refine ⟨_, hy, .one ?_ hsh⟩
   obtain ⟨a0, cap, rfl⟩ := hf.slice
   exact .hd
  ·rename_i e
   obtain ⟨z, h1, h2⟩ := h.env i v hv2
   refine ⟨z, h1, h2.mono (st1 _ _ fun q hq e' => ?_)⟩
   subst e'
   simp [Keeps] at hq
   exact e hq.1.symm
theorem aL7 (hT : j3 P = true) {C : Cfg} {st : St} {a : Act} {w : World} (h : SatC P X C st a w) {l : Nat} {path : List Nat} {T T' : TypeId} {x : Value} {ob : Ob} {u0 : PV} (hv : VW P C w (.ptr l path T') x)
  (hok : okT P T T' = true) (hl : get st.heap l = some ob) (hR : l ∉ X.R) (hg : ob.get path = some u0) {s : Nat} {E1 : TypeId} {ps : List Pu} (hss : get st.env s = some (.fl E1 ps)) {y : Value} (hy : a.tmps[s]? = some y)
  (h1 : P.cellsOf T = 1 ∧ P.cellsOf T' = 1) (ht : (f7 P T').isNone = true) :
  ∃ w' ob' C', (Instr.storeAt T x y).run P w = .ok () w' ∧ ob.set path (.fl E1 ps) = some ob' ∧ SatC P X C' ⟨(s, .hd E1 ps.length) :: st.env, (l, ob') :: st.heap⟩ a w' ∧ C'.ρ = C.ρ ∧ ∀ b R, C.ρ l = some (b, R) → ButBlock b w w' := by
 obtain ⟨b, off, R, rfl, hρ, hs⟩ := N1 hv
 obtain ⟨e0, e2, e3, _, _⟩ := v9 hok
 obtain ⟨b', e1, _, hor⟩ := h.heap l ob hl
 rw [e1] at hρ
 simp at hρ
 obtain ⟨rfl, rfl⟩ := hρ
 obtain ⟨u', c, E, pre, mid, post, g1, g2, g3, g4, g5, g6, g7, _⟩ := OR.at hor hs hg
 obtain ⟨y', hy', hvt⟩ := h.env s _ hss
 obtain rfl : y' = y := by rw [hy] at hy'; exact (Option.some.inj hy').symm
 have hycell : y'.cells.toList = [y'] ∧ y'.oneCell' = true := by
  cases hvt with
  | one hv hsh =>
   have h1 := hv.one
   cases y' <;> simp_all [d7, PV.isAgg, Value.cells]
 have hys : y'.cells.size = P.cellsOf T := by rw [← Array.length_toList, hycell.1, h1.1]; rfl
 have hcl : c.size = pre.length + (mid.length + post.length) := by rw [← Array.length_toList, g2]; simp
 have hrun := U2 hT e2 (off := off) g1 hys (by rw [hycell.1]; simp [hycell.2]) (by rw [hys, h1.1, hcl, g7, h1.2, g3]; omega)
 let c' : Array Value := (c.toList.take off ++ y'.cells.toList ++ c.toList.drop (off + y'.cells.size)).toArray
 obtain ⟨ob', C', f1, f2, f3⟩ := h.storeFl hl hR e1 hs hg hss hy h1.2 ht (I2 w b' c') (fun c2 E2 hc2 => by
  rw [g1] at hc2
  simp at hc2
  obtain ⟨rfl, rfl⟩ := hc2
  refine ⟨c', setRow_heap w b' c c' E (0, 0) g1, fun pre' mid' post' q1 q2 q3 => ?_⟩
  have := ak6 (x := y'.cells.toList) q1 (by rw [q3, hycell.1]; rfl)
  rw [q2, Array.length_toList] at this
  rw [← hycell.1]
  exact this)
 refine ⟨w.setRow b' c', ob', C', by simp only [Instr.storeAt, Instr.sureAddr, Sem.run_bind, Sem.run_pure, Result.andThen_ok, hrun, c'], f1, f2, f3, fun b R hbR => ?_⟩
 rw [e1] at hbR
 simp at hbR
 rw [← hbR.1];exact I2 w b' c'
theorem aJ0 (S : Seat P) {C : Cfg} {st : St} {o : Oper} {a : Act} {w : World} (h : SatC P X C st a w) {x : Operand} {s : Nat} {T T' : TypeId} {l : Nat} {path : List Nat} {ob ob' : Ob} {u0 : PV} {E : TypeId} {ps : List Pu} (hop : o.op = .store T x (.tmp s)) (hx : b9 X.G st.env x = some (.ptr l path T'))
  (hs : get st.env s = some (.fl E ps)) (hok : okT P T T' = true) (hl : get st.heap l = some ob) (hR : l ∉ X.R) (hg : ob.get path = some u0) (hd : o.dst = none) (hc : (f7 P T').isNone = true) (h1 : P.cellsOf T = 1 ∧ P.cellsOf T' = 1)
  (hset : ob.set path (.fl E ps) = some ob') : Exec P X C st o a w { v := .tup [], env := [(s, .hd E ps.length)], heap := [(l, ob')] } := by
 obtain ⟨y, hy, _⟩ := h.env s _ hs
 obtain ⟨w', ob2, C', e1, e2, e3, e4, e5⟩ := aL7 S.hT h (h.eval hx) hok hl hR hg hs hy h1 hc
 rw [hset] at e2
 simp at e2
 subst e2;refine ad3 (C' := C') (w' := w') ?_ (by rw [hd]; exact e3) (as2 h hl e4 e5 _ rfl) (fun L d hL => by simp at hL)
 obtain ⟨dst, op, type, pos, after, guard⟩ := o
 simp only at hop
 subst hop
 simp [execOp, Act.eval, Array.getD_eq_getD_getElem?, hy]
 simp [Act.eval] at e1
 rw [e1]
 rfl
def cb6 (P : Program) (f : FuncId) (E : TypeId) : Prop :=
 ∀ (D : Nat → Nat → Prop) (w : World) (k : Option Nat) (x : Value) (ps : List Pu) (i lo : Nat) (p : Pu) (a1 : Option Addr) (c1 : Nat), FlAt P D w E ps k x → (∀ b, k = some b → ∀ o, ¬ D b o) → (∀ b o, D b o → b < w.heap.size) → PR P D w (.sl lo E [p]) [.slice a1 1 c1] → lo ≠ 0 → i ≤ ps.length → ps.length ≤ 1000 →
  Calls P f #[x, .int .i64 i, .slice a1 1 c1] w fun e w' => ∃ y, e = .returned y ∧ ak2 P D w E k (ps.take i ++ [p] ++ ps.drop i) y w'
theorem bF1 {C : Cfg} {st : St} {o : Oper} {a : Act} {w : World} (h : SatC P X C st a w) {fo y1 y2 : Operand} {b : Nat} {ts : Array TypeId} {f : FuncId} {vf : PV} {l d i : Nat} {path : List Nat} {ob ob' : Ob} {E : TypeId} {ps : List Pu} {p : Pu}
  (hop : o.op = .call ⟨.value fo, #[.tmp b, y1, y2], ts⟩) (hfo : b9 X.G st.env fo = some vf) (hfv : fnV (strip vf) = some (f, [], [])) (he : j8 P f = true) (hy1 : b9 X.G st.env y1 = some (iv .i64 i)) (hy2 : b9 X.G st.env y2 = some (.xs lo E [p])) (hlo : lo ≠ 0)
  (hl : get st.heap l = some ob) (hR : l ∉ X.R) (hg : ob.get path = some (.fl E ps)) (hset : ob.set path (.hd E ps.length) = some ob') (hbor : ak3 P C a w b (.obj l path)) (hi : i ≤ ps.length) (hlen : ps.length ≤ 1000)
  (hc : cb6 P f E) (hd : o.dst = some d) (hdn : d < X.n) : Exec P X C st o a w { v := .fl E (ps.take i ++ [p] ++ ps.drop i), heap := [(l, ob')] } := by
 intro K Q hK
 obtain ⟨xs, ys, e1, e2, e3⟩ := aj0 (h.eval hfo) hfv
 obtain rfl : xs = #[] := Array.eq_empty_of_size_eq_zero (by simpa using e2.length.symm)
 obtain rfl : ys = #[] := Array.eq_empty_of_size_eq_zero (by simpa using e3.length.symm)
 obtain ⟨k, x, hbx, hf, ho, hN⟩ := h.flObj hl hR hg hset hbor
 have hbe : a.eval (.tmp b) = x := by simp [Act.eval, Array.getD_eq_getD_getElem?, hbx]
 have hi1 : a.eval y1 = .int .i64 i := (h.eval hy1).iv_inv
 obtain ⟨a1, e4, p1⟩ := ag5 (h.eval hy2)
 have hcall := hc C.D w k x ps i _ p a1 1 hf (h.flD ho) h.dLt p1 hlo hi hlen
 unfold Oper.wp
 have hrun : (execOp a.eval o).run P w = .ok (.enter f #[x, .int .i64 i, .slice a1 1 1]) w := by
  obtain ⟨dst, op, type, pos, after, guard⟩ := o
  simp only at hop
  subst hop
  simp [execOp, resolve, e1, Deferred.ofValue, invoke, J9 he, hbe, hi1, e4]
 rw [hrun, Oper.upon_enter]
 refine hcall.mono fun e w' ⟨r, hr, A⟩ => ?_
 subst hr
 obtain ⟨C', k1, k2, k3⟩ := hN hdn A
 exact hK C' r w' (by rw [hd]; exact k1) ⟨fun _ _ _ => by rw [k2], fun l' ob2 b1 R hl' _ hb1 => k3 l' ob2 b1 R hl' hb1⟩ (fun L d hL => by simp at hL)
section
variable {ops : Array Oper} {dr : Bool} {s0 : St} {K : St → Prop} {dn : List Item} {rest : List Oper} {d : Nat} {ty : TypeId} {pos : String} {after : Array Edge} {env : List (Nat × PV)} {heap : List (Nat × Ob)}
theorem bK8 (l : Nat) (p : List Nat) {b : Nat} {y : Operand} {tt E : TypeId} {B : Nat} {v : PV} {ps ys : List Pu} {ob ob' : Ob} [hE : El P tt E B] (hfit : (ps.length + ys.length) * B ≤ 70368744177664)
  (t : WalkR P X ops dr s0 K (dn ++ [⟨⟨some d, .call ⟨.builtin .append, #[.tmp b, y], #[tt, tt]⟩, ty, pos, after, none⟩, { v := .fl E (ps ++ ys), heap := [(l, ob')] }, { reads := b :: c9 [y], hreads := [l], bors := [(b, .obj l p)], labs := ob'.labs }⟩]) ⟨(d, .fl E (ps ++ ys)) :: env, (l, ob') :: heap⟩ rest)
  (hl : get heap l = some ob := by rfl) (hR : X.R.contains l = false := by rfl) (hget : ob.get p = some (.fl E ps) := by rfl) (hset : ob.set p (.hd E ps.length) = some ob' := by rfl) (hy : b9 X.G env y = some v := by rfl) (hv : Elems E v ys := by repeat constructor) (hys : ys ≠ [] := by simp) (hd : lb d X.n = true := by rfl) :
  WalkR P X ops dr s0 K dn ⟨env, heap⟩ (⟨some d, .call ⟨.builtin .append, #[.tmp b, y], #[tt, tt]⟩, ty, pos, after, none⟩ :: rest) := by
 refine WalkR.cons ⟨fun l h => by simpa [PV.labs] using h, fun L h => by simp at h, fun st' ha _ C a w hs hb => ?_⟩ t
 have hy' : b9 X.G st'.env y = some v := by
  rw [d5 (env := env) fun t e => ha.env t (by rw [e]; simp [c9])];exact hy
 exact .of ((Guard.none rfl).wanted hs) (bb9 hs rfl hE.spec.1 ((ha.heap l (by simp)).trans hl) (aP2 hR) hget hset (hb (b, .obj l p) (by simp)) hy' hv.eq hys rfl (F6 hd) (by rw [hE.spec.2]; exact hfit))
theorem aB5 (S : Seat P) {x : Operand} {s : Nat} {T T' : TypeId} {l : Nat} {p : List Nat} {ob ob' : Ob} {u0 : PV} {E : TypeId} {ps : List Pu} [hO : Okt P T T'] [hc : Sc P T] [hc' : Sc P T']
  (t : WalkR P X ops dr s0 K (dn ++ [⟨⟨none, .store T x (.tmp s), ty, pos, after, none⟩, { v := .tup [], env := [(s, .hd E ps.length)], heap := [(l, ob')] }, { reads := c9 [x, .tmp s], hreads := [l], labs := ob'.labs }⟩]) ⟨(s, .hd E ps.length) :: env, (l, ob') :: heap⟩ rest)
  (hx : b9 X.G env x = some (.ptr l p T') := by rfl) (hsv : get env s = some (.fl E ps) := by rfl) (hl : get heap l = some ob := by rfl) (hR : X.R.contains l = false := by rfl) (hget : ob.get p = some u0 := by rfl) (hset : ob.set p (.fl E ps) = some ob' := by rfl) :
  WalkR P X ops dr s0 K dn ⟨env, heap⟩ (⟨none, .store T x (.tmp s), ty, pos, after, none⟩ :: rest) := by
 refine WalkR.cons ⟨fun l h => by simpa [PV.labs, PV.labsL] using h, fun L h => by simp at h, fun st' ha _ C a w hs _ => ?_⟩ t
 have hx' : b9 X.G st'.env x = some (.ptr l p T') := by
  rw [d5 (env := env) fun t e => ha.env t (f0 (by rw [e]; simp))];exact hx
 exact .of ((Guard.none rfl).wanted hs) (aJ0 S hs rfl hx' ((ha.env s (f0 (by simp))).trans hsv) hO.ok ((ha.heap l (by simp)).trans hl) (aP2 hR) hget rfl hc'.spec.2.1 ⟨hc.spec.2.2, hc'.spec.2.2⟩ hset)
theorem bX3 (l : Nat) (p : List Nat) {fo y : Operand} {b : Nat} {ts : Array TypeId} {f : FuncId} {vf r u r2 : PV} {HR : List (Nat × Ob)} {v0 : Value} {ob : Ob} {E : TypeId} {ps : List Pu} (hc : HCall P X.G f [.pu (.sl 0 E ps), u] HR [] (.pu (.leaf v0)) [] [])
  (c : WalkR P X ops dr s0 K (dn ++ [⟨⟨some d, .call ⟨.value fo, #[.tmp b, y], ts⟩, ty, pos, after, none⟩, { v := .pu (.leaf v0) }, { reads := c9 [fo, .tmp b, y], hreads := l :: e9 HR, bors := [(b, .obj l p)] }⟩]) ⟨(d, .pu (.leaf v0)) :: env, heap⟩ rest)
  (hfo : b9 X.G env fo = some r := by rfl) (hs : Str r vf := by repeat constructor) (hfv : fnV vf = some (f, [], []) := by rfl) (hy : b9 X.G env y = some r2 := by rfl) (hs2 : Str r2 u := by repeat constructor) (hnt : j1 u = false := by rfl)
  (hl : get heap l = some ob := by rfl) (hget : ob.get p = some (.fl E ps) := by rfl) (hHR : ∀ l' ob', get HR l' = some ob' → l' ≠ l ∧ get heap l' = some ob') (he : j8 P f = true := by kernel_rfl) (hd : lb d X.n = true := by rfl) :
  WalkR P X ops dr s0 K dn ⟨env, heap⟩ (⟨some d, .call ⟨.value fo, #[.tmp b, y], ts⟩, ty, pos, after, none⟩ :: rest) := by
 refine WalkR.cons ⟨fun l h => by simp [PV.labs] at h, fun L h => by simp at h, fun st' ha _ C a w hs' hb => ?_⟩ c
 have hfo' : b9 X.G st'.env fo = some r := by
  rw [d5 (env := env) fun t e => ha.env t (f0 (by rw [e]; simp))];exact hfo
 have hy' : b9 X.G st'.env y = some r2 := by
  rw [d5 (env := env) fun t e => ha.env t (f0 (by rw [e]; simp))];exact hy
 exact .of ((Guard.none rfl).wanted hs') (bs4 hs' rfl hfo' (by rw [hs.eq]; exact hfv) he hy' (by rw [hs2.eq]; exact hnt) ((ha.heap l (by simp)).trans hl) hget (hb (b, .obj l p) (by simp)) (fun l' ob' h => let ⟨h1, h2⟩ := hHR l' ob' h; ⟨h1, (ha.heap l' (List.mem_cons_of_mem _ (m4 h))).trans h2⟩) (by rw [hs2.eq]; exact hc) (by simp [C5, F6 hd]))
theorem cc4 (l : Nat) (p : List Nat) {fo y1 y2 : Operand} {b : Nat} {ts : Array TypeId} {f : FuncId} {vf r : PV} {i : Nat} {ob ob' : Ob} {E : TypeId} {ps : List Pu} {q : Pu} (hc : cb6 P f E) (hi : i ≤ ps.length) (hlen : ps.length ≤ 1000) (hlo : lo ≠ 0)
  (c : WalkR P X ops dr s0 K (dn ++ [⟨⟨some d, .call ⟨.value fo, #[.tmp b, y1, y2], ts⟩, ty, pos, after, none⟩, { v := .fl E (ps.take i ++ [q] ++ ps.drop i), heap := [(l, ob')] }, { reads := c9 [fo, .tmp b, y1, y2], hreads := [l], bors := [(b, .obj l p)], labs := ob'.labs }⟩]) ⟨(d, .fl E (ps.take i ++ [q] ++ ps.drop i)) :: env, (l, ob') :: heap⟩ rest)
  (hfo : b9 X.G env fo = some r := by rfl) (hs : Str r vf := by repeat constructor) (hfv : fnV vf = some (f, [], []) := by rfl) (hy1 : b9 X.G env y1 = some (iv .i64 i) := by rfl) (hy2 : b9 X.G env y2 = some (.xs lo E [q]) := by rfl)
  (hl : get heap l = some ob := by rfl) (hR : X.R.contains l = false := by rfl) (hget : ob.get p = some (.fl E ps) := by rfl) (hset : ob.set p (.hd E ps.length) = some ob' := by rfl) (he : j8 P f = true := by kernel_rfl) (hd : lb d X.n = true := by rfl) :
  WalkR P X ops dr s0 K dn ⟨env, heap⟩ (⟨some d, .call ⟨.value fo, #[.tmp b, y1, y2], ts⟩, ty, pos, after, none⟩ :: rest) := by
 refine WalkR.cons ⟨fun l h => by simpa [PV.labs] using h, fun L h => by simp at h, fun st' ha _ C a w hs' hb => ?_⟩ c
 have hfo' : b9 X.G st'.env fo = some r := by
  rw [d5 (env := env) fun t e => ha.env t (f0 (by rw [e]; simp))];exact hfo
 have hy1' : b9 X.G st'.env y1 = some (iv .i64 i) := by
  rw [d5 (env := env) fun t e => ha.env t (f0 (by rw [e]; simp))];exact hy1
 have hy2' : b9 X.G st'.env y2 = some (.xs lo E [q]) := by
  rw [d5 (env := env) fun t e => ha.env t (f0 (by rw [e]; simp))];exact hy2
 exact .of ((Guard.none rfl).wanted hs') (bF1 hs' rfl hfo' (by rw [hs.eq]; exact hfv) he hy1' hy2' hlo ((ha.heap l (by simp)).trans hl) (aP2 hR) hget hset (hb (b, .obj l p) (by simp)) hi hlen hc rfl (F6 hd))
theorem hr1 {n l : Nat} {ob : Ob} {heap : List (Nat × Ob)} (h : get heap n = some ob) (hne : n ≠ l) : ∀ l' ob', get [(n, ob)] l' = some ob' → l' ≠ l ∧ get heap l' = some ob' := fun l' ob' h' => by
 rw [f8] at h'
 split at h'
 ·rename_i e
  simp at h'
  subst e h';exact ⟨hne, h⟩
 ·cases h'
theorem bV7 {x : Operand} {t E : TypeId} {n : Nat} {g : Bool} {st : St} (S : Seat P) [hS : Sl P t E] (hx : Ev X st.env g x (.hd E n) := by first | (focus (apply Ev.mk; exact rfl; (repeat constructor); done)) | (focus (apply Ev.gd; exact rfl; (repeat constructor); done)) | (focus (apply Ev.left; exact rfl; (repeat constructor); done)) | (focus (apply Ev.left2; exact rfl; (repeat constructor); done))) : ValG P X st (.call ⟨.builtin .len, #[x], #[t]⟩) g (iv .i64 n) { reads := c9 [x] } :=
 ValG.pure S (.cons hx .nil) (by simp [y7, aQ6, hS.spec.2])
theorem Tri.unfl (l : Nat) (p : List Nat) {c : Code} {Q : Exit → St → Prop} {ob ob' : Ob} {E : TypeId} {ps : List Pu} {T : TypeId} {off : Nat} (h : Tri P X c ⟨env, (l, ob') :: heap⟩ Q) (hs : M3 P ob.root p = some (T, off)) (hl : get heap l = some ob := by rfl) (hR : X.R.contains l = false := by rfl) (hget : ob.get p = some (.fl E ps) := by rfl) (hset : ob.set p (.pu (.sl 0 E ps)) = some ob' := by rfl) : Tri P X c ⟨env, heap⟩ Q :=
 Tri.ghost (Ghost.unfl hl (by simpa using hR) hget hs hset) h
end
theorem FCall.of_triP {G : List (Nat × TypeId × Pu)} (hT : j3 P = true) {f : FuncId} {fn : Func} {c : Code} (n : Nat) (hf : P.funcs[f]? = some fn) (hb : fn.body = some c) {args : List PV} {v : PV} (hn : n = args.length + (fn.ntmps - args.length)) (hv : v.labs = []) {g : Nat} {T : TypeId} {p : Pu} (hg : get G g = some (T, p)) (hc : P.cellsOf T ≠ 0)
  (h : ∀ w0 M ρ0 D0, w0.heap.size ≠ 0 → Tri P ⟨w0, n, M, G, [], [], ρ0, D0, none⟩ c ⟨L9 0 args, []⟩ fun e st => (e = .normal ∨ e = .ret) ∧ ∃ u, res P st fn.results.toList = some u ∧ VImp P u v) : FCall P G f args v := by
 intro C w xs F hx
 have hpos : w.heap.size ≠ 0 := by
  have h1 := F.gl g T p hg
  generalize hz : ([Value.pointer (some ⟨g, 0, none⟩)] : List Value) = z at h1
  cases h1 with
  | @pp _ _ _ b o x h1 ht hl hx =>
   simp at hz
   obtain ⟨rfl, rfl⟩ := hz
   obtain ⟨u, hu⟩ : ∃ u, x[0]? = some u := ⟨_, List.getElem?_eq_getElem (by omega)⟩
   have := F.dLt _ _ (hx 0 u hu).2
   omega
 refine HCall.of_triW hT hf hb (L := []) (n := n) hn (fun l ob h => by cases h) (fun l ob h => by cases h) (fun l hl => absurd hl (al6 hv)) (fun l ob h => by cases h) (fun l ob h => by cases h) ?_ F hx
 rintro ⟨w0, n', M, G', L, R, ρ0, D0, ro⟩ hw hM hn hG hL hR hro
 simp only at hw hM hn hG hL hR hro
 subst hw hn hG hL hR hro
 exact (h w0 M ρ0 D0 hpos).mono fun e st ⟨he, u, hu, hi⟩ => ⟨he, st, Ghost.refl _, ⟨u, hu, hi⟩, fun l ob h => by cases h⟩
end
end Hs
