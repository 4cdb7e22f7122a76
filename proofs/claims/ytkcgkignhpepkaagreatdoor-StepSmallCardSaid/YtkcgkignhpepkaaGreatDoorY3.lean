/- Part 3 of the proof: lemmas on walks and the walks of the functions, in their order. -/
import Derived.Test.YtkcgkignhpepkaaGreatDoorY2
import Derived.Scope
import Derived.OpenShut
import Derived.TacticsIn
set_option linter.unusedSimpArgs false
set_option linter.unusedVariables false
set_option linter.unusedSectionVars false
set_option linter.constructorNameAsVariable false
/- The statement 'for .. range f'. -/
namespace Hs
open Go Go.RowKit
section
variable {P : Program} {α β : Type}
theorem SatC.frag {X : Ctx} {C : Cfg} {st : St} {a : Act} {w : World} (h : SatC P X C st a w) {HR H : List (Nat × Ob)} (hHR : ∀ l ob, get HR l = some ob → ∃ ob1, get st.heap l = some ob1 ∧ ObImp P ob1 ob) (hH : ∀ l ob, get H l = some ob → ∃ ob1, get st.heap l = some ob1 ∧ ObImp P ob1 ob) : Frag P X.G C w HR H := by
 have inH : ∀ l ob, get (HR ++ H) l = some ob → ∃ ob1, get st.heap l = some ob1 ∧ ObImp P ob1 ob := fun l ob hl => by
  rw [d8] at hl
  cases hg : get HR l with
  | some ob' => rw [hg] at hl; simp at hl; subst hl; exact hHR l ob' hg
  | none => rw [hg] at hl; exact hH l ob (by simpa using hl)
 refine ⟨fun l ob hl => ?_, fun l l' b R R' ob ob' h1 h2 => ?_, fun l ob b R o' hl => ?_, h.dLt, fun b q k hb => ?_, h.gl⟩
 ·obtain ⟨ob1, k1, k2, k3⟩ := inH l ob hl
  obtain ⟨b, f1, _, f3⟩ := h.heap l ob1 k1
  exact ⟨b, by rw [← k2]; exact f1, k3 _ _ _ _ f3⟩
 ·obtain ⟨p1, f1, _⟩ := inH l ob h1
  obtain ⟨p2, f2, _⟩ := inH l' ob' h2
  exact h.inj l l' b R R' p1 p2 f1 f2
 ·obtain ⟨p1, f1, _⟩ := inH l ob hl
  exact h.dObj l p1 b R o' f1
 ·obtain ⟨_, g2, g3, g4⟩ := h.own b q k hb
  refine ⟨g2, g3, fun l ob R hl => ?_⟩
  obtain ⟨p1, f1, _⟩ := inH l ob hl
  exact g4 l p1 R f1
theorem SatC.turn {X : Ctx} {C : Cfg} {st : St} {a : Act} {w : World} {lam l : Nat} {r3 : Loop} (r4 : Loop) (s3 : SatC P X C st a w) (g3 : get st.heap lam = some (.loop r3)) (hR : lam ∉ X.R) (k2 : C.ρ lam = some (l, .loop)) : w.heap[l]? = some (.loop r3) ∧ SatC P X C ⟨st.env, (lam, .loop r4) :: st.heap⟩ a (w.putObj l (.loop r4)) := by
 obtain ⟨b, e1, e2, e3⟩ := s3.heap lam _ g3
 have k1 : w.heap[l]? = some (.loop r3) := by
  rw [k2] at e1
  simp at e1
  rw [e1.1];exact e3
 refine ⟨k1, ?_⟩
 have hlt := y8 k1
 have hcell : ∀ b o, (w.putObj l (.loop r4)).cell? ⟨b, o, none⟩ = w.cell? ⟨b, o, none⟩ := fun b o => by
  by_cases e : b = l
  ·subst e
   simp only [World.cell?, World.putObj_heap_same hlt, k1]
  ·simp only [World.cell?, World.putObj_heap_other e]
 have hty : TyKeep w (w.putObj l (.loop r4)) := fun b c E hb => ⟨c, by
  have : b ≠ l := fun e => by subst e; rw [k1] at hb; cases hb
  rw [World.putObj_heap_other this]; exact hb⟩
 have st1 : ∀ (ls : List Nat) keep, Stays C C w (w.putObj l (.loop r4)) ls keep := fun ls keep =>
  ⟨fun b o hD => ⟨hD, hcell b o⟩, fun _ _ => rfl, fun b q k hb _ => ⟨hb, World.putObj_heap_other fun e => by
   subst e
   exact (s3.own b q k hb).2.2.2 lam _ _ g3 k2⟩, hty⟩
 refine s3.write (w' := w.putObj l (.loop r4)) (ob' := .loop r4) g3 hR k2 rfl ⟨rfl, rfl, rfl, by simp, fun b' hb => World.putObj_heap_other hb, hty⟩ st.env rfl rfl (fun b1 q k hb => ⟨q, hb⟩) (fun i v hv => ?_) (fun l' ob1 _ _ => st1 _ _) (World.putObj_heap_same hlt) (st1 _ _)
 obtain ⟨y, h1, h2⟩ := s3.env i v hv
 exact ⟨y, h1, h2.mono (st1 _ _)⟩
theorem SatC.marked {X : Ctx} {C : Cfg} {st : St} {a : Act} {w : World} (h : SatC P X C st a w) : SatC P X C st { a with defers := { target := .collected w.heap.size, args := #[] } :: a.defers } (w.alloc (.deferred (some []))) := by
 have g := Grew.alloc w (.deferred (some []))
 have h1 := h.grew g (CGrew.refl C w _ fun b q k hb hge => absurd (h.own b q k hb).2.1 (Nat.not_lt.2 hge))
 exact { h1 with
  size := h1.size
  defers := by
   refine ⟨List.nodup_cons.2 ⟨fun hm => ?_, h1.defers.1⟩, fun d hd => ?_⟩
   ·obtain ⟨D, e1, _, e3, _⟩ := h.defers.2 _ hm
    simp at e1
    have := y8 e3
    omega
   ·rcases List.mem_cons.1 hd with rfl | hd
    ·refine ⟨w.heap.size, rfl, .inl h.framed.size, World.alloc_heap_new w _, ?_⟩
     cases hc : C.own w.heap.size with
     | none => rfl
     | some q => exact absurd (h.own _ q.1 q.2 hc).2.1 (Nat.lt_irrefl _)
    ·exact h1.defers.2 d hd
  env := h1.env }
def bn8 (env : List (Nat × PV)) (heap : List (Nat × Ob)) (lam : Nat) (L R : List Nat) : Bool :=
 env.all (fun q => !q.2.labs.contains lam) && heap.all (fun q => q.1 != lam && !q.2.labs.contains lam) && !L.contains lam && !R.contains lam
theorem bg3 {env : List (Nat × PV)} {heap : List (Nat × Ob)} {lam : Nat} {L R : List Nat} (h : bn8 env heap lam L R = true) : Fresh ⟨env, heap⟩ lam ∧ get heap lam = none ∧ lam ∉ L ∧ lam ∉ R := by
 unfold bn8 at h
 simp only [Bool.and_eq_true, List.all_eq_true, Bool.not_eq_true', List.contains_eq_mem, decide_eq_false_iff_not, bne_iff_ne, ne_eq] at h
 obtain ⟨⟨⟨h1, h2⟩, h3⟩, h4⟩ := h
 refine ⟨⟨fun i v hv => h1 _ (y9 hv), fun l ob hl _ => (h2 _ (y9 hl)).2⟩, ?_, h3, h4⟩
 cases hg : get heap lam with
 | none => rfl
 | some ob => exact absurd rfl (h2 _ (y9 hg)).1
inductive KeepE (L : List Nat) (env : List (Nat × PV)) : List (Nat × PV) → Prop
 | nil : KeepE L env []
 | cons {i : Nat} {v : PV} {r : List (Nat × PV)} (h : get env i = some v) (k : bf6 v = true) (l : v.labs.all (fun x => L.contains x) = true) (t : KeepE L env r) : KeepE L env ((i, v) :: r)
theorem KeepE.at {L : List Nat} {env r : List (Nat × PV)} (h : KeepE L env r) : ∀ i v, get r i = some v → get env i = some v ∧ bf6 v = true ∧ ∀ l ∈ v.labs, l ∈ L := by
 induction h with
 | nil => intro i v h; cases h
 | cons h k l _ ih =>
  intro i v hv
  rw [m1] at hv
  split at hv
  ·rename_i e
   simp at hv
   subst e hv;exact ⟨h, k, fun x hx => by simpa using List.all_eq_true.1 l x hx⟩
  ·exact ih i v hv
theorem Tri.overFunc {X : Ctx} {env : List (Nat × PV)} {heap : List (Nat × Ob)} {g : Operand} {ps : Array Tmp} {assign body : Code} {Q : Exit → St → Prop} (lam : Nat) (L' L : List Nat) (env' : List (Nat × PV)) {f : FuncId} {vf : PV} {captured : List PV} {HR H : List (Nat × Ob)} {items : List α} {enc : α → List PV} {out : α → Option β} {jc : β → Code} {Ht : β → List (Nat × Ob)}
  (hc : IterC P X.G f captured lam L' HR H items enc out jc Ht)
  (hlen : ∀ x ∈ items, (enc x).length = ps.size)
  (hr : ∀ x ∈ items, ∀ r w0 M ρ0 D0 l, Tri P ⟨w0, X.n, M, X.G, L, j4 HR, ρ0, D0, some l⟩ assign ⟨ps.toList.zip (enc x) ++ env', HR ++ (lam, .loop r) :: H⟩ (ar3 (fun st => get st.heap lam = some (.loop r) ∧
   Tri P ⟨w0, X.n, M, X.G, L, j4 HR, ρ0, D0, some l⟩ body ⟨st.env, (lam, .loop (busy r)) :: st.heap⟩ fun e st => get st.heap lam = some (.loop (busy r)) ∧ bo7 ((out x).map jc) e ∧ OutH P st.heap (match out x with | none => H | some z => Ht z)) fun _ _ => False))
  (hdone : items.findSome? out = none → Q .normal ⟨env, H ++ heap⟩)
  (hstop : ∀ z, items.findSome? out = some z → Tri P X (jc z) ⟨env, Ht z ++ heap⟩ Q)
  (hro : X.ro = none := by rfl) (hg : d6 X.G env g = some vf := by rfl) (hfv : fnV (strip vf) = some (f, [], captured) := by rfl) (he : n9 P f = true := by kernel_rfl)
  (hHR : OutH P heap HR := by repeat (first | exact OutH.nil | refine OutH.cons rfl (ObImp.refl _) ?_)) (hH : InH P X.R heap H := by repeat (first | exact InH.nil | refine InH.cons rfl rfl (ObImp.refl _) ?_))
  (hfr : bn8 env heap lam X.L X.R = true := by rfl) (henv : KeepE L' env env' := by repeat (first | exact KeepE.nil | refine KeepE.cons rfl rfl rfl ?_)) (hlam : L'.contains lam = true := by rfl)
  (hps : ps.toList.Nodup := by decide) (hps2 : (ps.toList.all fun p => decide (p < X.n)) = true := by rfl)
  (hchk : ∀ r z, ap0 HR ((lam, .loop r) :: H) (O5 lam r H Ht jc z) (bv z.isNone) L [] = true := by intro r z; cases z <;> rfl)
  (hHs : ∀ z, (j4 (Ht z)).contains lam = false := by intro z; rfl) : Tri P X (.rangeFunc g ps assign body) ⟨env, heap⟩ Q := by
 intro C a w hs
 rw [hro]
 obtain ⟨f1, f2, f3, f4⟩ := bg3 hfr
 refine wpIn_rangeFunc fun fn _ => ?_
 obtain ⟨rc, hrc⟩ : ∃ rc : Loop, rc = { state := .ready, pending := none, fn, tmps := a.tmps, params := ps, assign, body, defers := w.heap.size } := ⟨_, rfl⟩
 have hs1 := hs.marked
 have hs2 := hs1.new (ob := .loop rc) (o := .loop rc) f1 f3 (World.alloc_heap_new _ _)
 obtain ⟨l, hl⟩ : ∃ l, l = (w.alloc (.deferred (some []))).heap.size := ⟨_, rfl⟩
 rw [← hl] at hs2
 obtain ⟨C2, hC2⟩ : ∃ C2, C2 = C.at lam l (Ob.loop rc).root := ⟨_, rfl⟩
 rw [← hC2] at hs2
 have hρ2 : C2.ρ lam = some (l, .loop) := by rw [hC2]; simp [Cfg.at, Ob.root]
 obtain ⟨a', ha'⟩ : ∃ a' : Act, a' = { a with defers := { target := .collected w.heap.size, args := #[] } :: a.defers } := ⟨_, rfl⟩
 rw [← ha'] at hs2
 obtain ⟨w1, hw1⟩ : ∃ w1, w1 = (w.alloc (.deferred (some []))).alloc (.loop rc) := ⟨_, rfl⟩
 rw [← hw1] at hs2
 obtain ⟨xs, ys, e1, e2, e3⟩ := aW7 (hs2.eval (o := g) hg) hfv
 have exs : xs = #[] := by
  have := e2.length
  simp at this
  exact Array.eq_empty_of_size_eq_zero this.symm
 subst exs
 have hmem : ∀ l' ob, get H l' = some ob → l' ≠ lam := fun l' ob hl' e => by
  subst e
  obtain ⟨_, ob1, k1, _⟩ := hH.at _ _ hl'
  rw [f2] at k1
  cases k1
 have hlt : ∀ l' ob, get heap l' = some ob → get ((lam, Ob.loop rc) :: heap) l' = some ob := fun l' ob hl' => by
  rw [m1, if_neg]
  ·exact hl'
  ·intro e
   rw [e, f2] at hl'
   cases hl'
 have F : Frag P X.G C2 w1 HR ((lam, .loop rc) :: H) := hs2.frag (fun l' ob hl' => let ⟨ob1, k1, k2⟩ := hHR.at l' ob hl'; ⟨ob1, hlt _ _ k1, k2⟩) (fun l' ob hl' => by
  rw [m1] at hl'
  split at hl'
  ·rename_i e
   simp at hl'
   subst e hl';exact ⟨_, by simp [get], ObImp.refl _⟩
  ·obtain ⟨_, ob1, k1, k2⟩ := hH.at l' ob hl'
   exact ⟨ob1, hlt _ _ k1, k2⟩)
 have hcall := hc l rc C2 w1 (#[.func (.yield l) #[] #[]] ++ ys) F (by
  have := VFs.cons (P := P) (C := C2) (w := w1) (v := .fn (.yield l) [] []) (x := .func (.yield l) #[] #[]) (VR.fn .nil .nil) rfl e3
  simpa using this) (fun X' q0 _ qG qρ qD qL x hx => YC.of_tri (X1 := X) (C1 := C2) (w1 := w1) (L := L) (env' := env') q0 qρ qD qG hs2 (by rw [qL]; simpa using hlam) hρ2 (by rw [hrc]) (by rw [hrc]) (by rw [hrc, ha']) (fun i v hv => by
   obtain ⟨k1, k2, k3⟩ := henv.at i v hv
   exact ⟨k1, k2, fun x hx => by rw [qL]; exact k3 x hx⟩) (by rw [hrc]; exact hps) (fun p hp => by
    rw [hrc] at hp
    simpa using List.all_eq_true.1 hps2 p hp) (by rw [hrc]; exact hlen x hx) (hchk rc) (fun w0 M ρ0 D0 => by
     have := hr x hx rc w0 M ρ0 D0 l
     rw [hrc] at this ⊢
     exact this))
 refine ⟨l, [{ target := .collected w.heap.size, args := #[] }], w1, { target := .fn (.func f) ys, args := #[.func (.yield l) #[] #[]] }, w1, f, #[.func (.yield l) #[] #[]] ++ ys, w1, ?_, ?_, fun _ _ => trivial, ?_, fun h => by simp [rf, Fence.wide] at h, ?_⟩
 ·rw [hw1, hrc, hl]
  have := run_enterLoop_outer (P := P) (w := w) fn a.tmps ps assign body
  rw [show (rf none).round = none from rfl, this]
  simp
 ·have e1' : a.eval g = .func (.func f) #[] ys := by
   rw [← e1, ha']; rfl
  simp only [resolve, e1']
  simp [go_sem]
 ·simp [invoke, go_sem, P3 he]
 refine (callsIn_wide (n := 0 - 1)).2 (hcall.mono fun e w3 ⟨y, C3, hy, A⟩ => ?_);subst hy
 have hs3 := hs2.called A (fun l' ob hl' => by
  rw [m1] at hl'
  split at hl'
  ·rename_i e
   exact ⟨by rw [e]; exact f4, Ob.loop rc, by rw [e]; simp [get]⟩
  ·obtain ⟨k0, ob1, k1, _⟩ := hH.at l' ob hl'
   exact ⟨k0, ob1, hlt _ _ k1⟩) (fun l' hl' => by cases hl')
 have hρ3 : C3.ρ lam = some (l, .loop) := (A.rho lam (by simp)).trans hρ2
 have hle : ∀ (H' : List (Nat × Ob)) (r3 r4 : Loop), (∀ l' ob, get H' l' = some ob → l' ≠ lam) → St.Le ⟨env, H' ++ heap⟩ ⟨env, (lam, .loop r4) :: ((lam, .loop r3) :: H' ++ (lam, .loop rc) :: heap)⟩ := fun H' r3 r4 hn => ⟨fun _ _ h => h, fun l' ob hl' => by
  have hne : l' ≠ lam := fun e => by
   simp only [d8] at hl'
   cases hg : get H' l' with
   | some o => exact hn l' o hg e
   | none => rw [hg, e, f2] at hl'; cases hl'
  simp only [List.cons_append, m1, if_neg hne, d8] at hl' ⊢
  exact hl'⟩
 show rangePost _ _ _ _ _ _ _ _
 unfold rangePost
 cases hz : items.findSome? out with
 | none =>
  rw [hz] at hs3
  obtain ⟨k1, k2⟩ := hs3.turn (lam := lam) (r3 := rc) { rc with state := .exhausted } (by simp [O5, get]) f4 hρ3
  refine ⟨none, _, by have := run_endLoop (P := P) k1 (by rw [hrc]; simp); rw [show rc.pending = none by rw [hrc]] at this; exact this, _, C3, hdone hz, ?_⟩
  have := k2.less (hle H rc _ hmem)
  rw [ha', show rc.pending = none by rw [hrc]] at this
  exact this
 | some z =>
  rw [hz] at hs3
  obtain ⟨k1, k2⟩ := hs3.turn (lam := lam) (r3 := aS8 rc (jc z)) { aS8 rc (jc z) with state := .exhausted } (by simp [O5, get]) f4 hρ3
  refine ⟨some (jc z), _, by have := run_endLoop (P := P) k1 (by simp [aS8]); exact this, ?_⟩
  have hn : ∀ l' ob, get (Ht z) l' = some ob → l' ≠ lam := fun l' ob hl' e => by
   have := o9 hl'
   have h2 := hHs z
   rw [e] at this
   simp only [List.contains_eq_mem, decide_eq_false_iff_not] at h2
   exact h2 this
  have hs5 := k2.less (hle (Ht z) _ _ hn)
  have := hstop z hz C3 _ _ hs5
  rw [hro] at this
  rw [ha'] at this
  exact this
end
section
variable {P : Program} {X : Ctx} {st : St} {ops : Array Oper} {env : List (Nat × PV)} {heap : List (Nat × Ob)} {dr : Bool} {s0 : St} {K : St → Prop} {dn : List Item} {rest : List Oper} {d : Nat} {ty : TypeId} {pos : String} {after : Array Edge} {g : Bool}
theorem bG5 {x y : Operand} {t E l n : Nat} {k : IntKind} {i : Int} (S : Seat P) [hS : Sl P t E] (h : Ev X st.env g x (.arr l E 0 n) := by first | (focus (apply Ev.mk; exact rfl; (repeat constructor); done)) | (focus (apply Ev.gd; exact rfl; (repeat constructor); done)) | (focus (apply Ev.left; exact rfl; (repeat constructor); done)) | (focus (apply Ev.left2; exact rfl; (repeat constructor); done))) (hi : Ev X st.env g y (iv k i) := by first | (focus (apply Ev.mk; exact rfl; (repeat constructor); done)) | (focus (apply Ev.gd; exact rfl; (repeat constructor); done)) | (focus (apply Ev.left; exact rfl; (repeat constructor); done)) | (focus (apply Ev.left2; exact rfl; (repeat constructor); done))) (h0 : 0 ≤ i := by first | decide | omega) (hn : i < n := by first | decide | omega) :
  ValG P X st (.indexAddr t x y) g (.ptr l [i.toNat] E) { reads := f0 [x, y] } :=
 ValG.pure S (.cons h (.cons hi .nil)) (by
  obtain ⟨h1, h2⟩ := hS.spec
  have hlt : i.toNat < n := by omega
  simp [D8, am1, h1, h2, O9, h0, hn])
theorem bl9 (S : Seat P) {t E : TypeId} {B : Nat} [hE : El P t E B] {x y : Operand} {n : Nat} {k k' : IntKind} {z : PV} [hz : Zr S E z] (l : Nat) (hfit : n * B ≤ 281474976710656) (h63 : n ≤ 9223372036854775807)
  (c : WalkR P X ops dr s0 K (dn ++ [⟨⟨some d, .makeSlice t x y, ty, pos, after, none⟩, { v := .arr l E 0 n, heap := [(l, .row E (List.replicate n z))] }, { reads := f0 [x, y], news := [l], labs := [l] }⟩]) ⟨(d, .arr l E 0 n) :: env, (l, .row E (List.replicate n z)) :: heap⟩ rest)
  (hx : d6 X.G env x = some (iv k n) := by rfl) (hy : d6 X.G env y = some (iv k' n) := by rfl) (hlz : z.labs = [] := by rfl) (hd : lb d X.n = true := by rfl) :
  WalkR P X ops dr s0 K dn ⟨env, heap⟩ (⟨some d, .makeSlice t x y, ty, pos, after, none⟩ :: rest) := bz0 S l hx hy hz.ok hlz hd hfit h63 c
theorem bI3 (S : Seat P) {t t' E : TypeId} [hS : Sl P t E] {x y : Operand} {l n : Nat} {v : PV} {vs : List PV} {ps : List Pu}
  (c : WalkR P X ops dr s0 K (dn ++ [⟨⟨some d, .call ⟨.builtin .copy, #[x, y], #[t, t']⟩, ty, pos, after, none⟩, { v := iv .i64 n, heap := [(l, .row E (ps.map .pu))] }, { reads := f0 [x, y], hreads := [l] }⟩]) ⟨(d, iv .i64 n) :: env, (l, .row E (ps.map .pu)) :: heap⟩ rest)
  (hlE : Nat.ble (E + 1) P.types.size = true := by kernel_rfl) (hx : d6 X.G env x = some (.arr l E 0 n) := by rfl) (hl : get heap l = some (.row E vs) := by rfl) (hR : X.R.contains l = false := by rfl) (hy : d6 X.G env y = some v := by rfl) (hv : Elems E v ps := by repeat constructor) (hvn : vs.length = n := by simp) (hpn : ps.length = n := by rfl) (hd : lb d X.n = true := by rfl) :
  WalkR P X ops dr s0 K dn ⟨env, heap⟩ (⟨some d, .call ⟨.builtin .copy, #[x, y], #[t, t']⟩, ty, pos, after, none⟩ :: rest) := bz2 S hlE hx hl hR hy hv hvn hpn hd c
theorem aH3 (S : Seat P) {x y : Operand} {T T' E : TypeId} {l i : Nat} {vs : List PV} {r u u0 : PV} [hO : Okt P T T'] [hty : TyV P T u] [h1 : Sz P T] [h2 : Sz P T'] (hg : vs[i]? = some u0)
  (t : WalkR P X ops dr s0 K (dn ++ [⟨⟨none, .store T x y, ty, pos, after, none⟩, { v := .tup [], heap := [(l, .row E (vs.set i u))] }, { reads := f0 [x, y], hreads := [l], labs := (Ob.row E (vs.set i u)).labs }⟩]) ⟨env, (l, .row E (vs.set i u)) :: heap⟩ rest)
  (hx : d6 X.G env x = some (.ptr l [i] T') := by rfl) (hy : d6 X.G env y = some r := by rfl) (hs : Str r u := by repeat constructor) (hl : get heap l = some (.row E vs) := by rfl) (hR : X.R.contains l = false := by rfl) :
  WalkR P X ops dr s0 K dn ⟨env, heap⟩ (⟨none, .store T x y, ty, pos, after, none⟩ :: rest) :=
 aU7 S (p := [i]) (u0 := u0) t hx hy hs hl hR (by simp [Ob.get, hg, H6]) (by simp [Ob.set, hg, aU4])
theorem NoLab.row {α : Type} {E : TypeId} {l : List α} {f : α → Pu} : NoLab (.row E (l.map fun a => .pu (f a))) := ⟨by
 show PV.labsL (l.map fun a => PV.pu (f a)) = []
 induction l with
 | nil => rfl
 | cons a l ih => simp only [List.map_cons, PV.labsL, PV.labs, List.nil_append]; exact ih⟩
theorem Tri.freeze {c : Code} {Q : Exit → St → Prop} {lo l E : Nat} {ps : List Pu} {env' : List (Nat × PV)} {heap' : List (Nat × Ob)} (hl : get heap l = some (.row E (ps.map .pu))) (hlo : lo = 0 ∨ (lo ≤ X.w0.heap.size ∧ ∀ b, ¬ X.M b)) (h : Tri P X c ⟨env', heap'⟩ Q)
  (h1 : FrzE lo l E ps env env' := by repeat (first | exact FrzE.nil | refine FrzE.cons rfl rfl rfl ?_)) (h2 : FrzH lo l E ps heap heap' := by repeat (first | exact FrzH.nil | refine FrzH.cons rfl rfl rfl ?_)) (hR : X.R.contains l = false := by rfl) : Tri P X c ⟨env, heap⟩ Q :=
 Tri.ghost (Ghost.freeze hlo hl (by simpa using hR) (Frozen.of h1 h2)) h
theorem Tri.cutW {σ : Type} {x y : Code} {Q : Exit → St → Prop} (t : σ → St) (h : Tri P X x st (ar3 (fun s => ∃ a, WkE s.env (t a).env ∧ WkH s.heap (t a).heap) Q)) (k : ∀ a, Tri P X y (t a) Q) : Tri P X x st (ar3 (fun s => Tri P X y s Q) Q) := h.mono fun e s hs => by
 cases e with
 | normal => obtain ⟨a, h1, h2⟩ := hs; exact Tri.ghost (Ghost.wk h1 h2) (k a)
 | _ => exact hs
end
section
variable {P : Program} {X : Ctx} {st : St}
def noGo (Q : Exit → St → Prop) : Exit → St → Prop
 | .goto _, _ => False
 | e, s => Q e s
theorem Tri.scope {c : Code} {Q : Exit → St → Prop} (h : Tri P X c st (noGo Q)) (hro : X.ro = none := by rfl) : Tri P X (.scope c) st Q := fun C a w hs => by
 have h1 := h C a w hs
 rw [hro] at h1 ⊢
 refine wpIn_wide.2 (wp_scope_straight (wpIn_wide.1 (wpIn_mono (F := Fence.wide) h1 fun e a' w' hq => ?_)))
 obtain ⟨s, C', q, hs'⟩ := hq
 cases e with
 | goto l => exact q.elim
 | _ => exact ⟨s, C', q, hs'⟩
inductive LabsOk (L : List Nat) : List (Nat × Ob) → Prop
 | nil : LabsOk L []
 | cons {l : Nat} {ob : Ob} {r : List (Nat × Ob)} (h : L.contains l = true) (k : (ob.labs.all fun x => L.contains x) = true) (t : LabsOk L r) : LabsOk L ((l, ob) :: r)
theorem cf0 {L : List Nat} {ob : Ob} [h : NoLab ob] : (ob.labs.all fun x => L.contains x) = true := by rw [h.ok]; rfl
theorem LabsOk.at {L : List Nat} {H : List (Nat × Ob)} (h : LabsOk L H) : ∀ l ob, get H l = some ob → l ∈ L ∧ ∀ l' ∈ ob.labs, l' ∈ L := by
 induction h with
 | nil => intro l ob h; cases h
 | cons h k _ ih =>
  intro l ob hl
  rw [m1] at hl
  split at hl
  ·rename_i e
   simp at hl
   subst e hl;exact ⟨by simpa using h, fun l' hl' => by simpa using List.all_eq_true.1 k l' hl'⟩
  ·exact ih l ob hl
theorem HCall.of_triE {G : List (Nat × TypeId × Pu)} (hT : k9 P = true) {f : FuncId} {fn : Func} {c : Code} (n : Nat) (L : List Nat) (hf : P.funcs[f]? = some fn) (hb : fn.body = some c) {args : List PV} {HR H H' : List (Nat × Ob)} {v : PV} {news : List Nat} (hn : n = args.length + (fn.ntmps - args.length))
  (h1 : HR.all (fun q => B2 q.2) = true) (h2 : E9 HR H' = true) (h3 : (v.labs.all fun l => (L ++ news).contains l) = true) (h4 : LabsOk (L ++ news) H') (h5 : ((j4 H).all fun l => (j4 H').contains l) = true)
  (h : ∀ w0 M ρ0 D0, Tri P ⟨w0, n, M, G, L, j4 HR, ρ0, D0, none⟩ c ⟨T5 0 args, HR ++ H⟩ fun e st => (e = .normal ∨ e = .ret) ∧ (∃ u, res P st fn.results.toList = some u ∧ VImp P u v) ∧ OutH P st.heap H') : HCall P G f args HR H v H' news := by
 refine HCall.of_tri hT hf hb (L := L) (n := n) hn (fun l ob hl => List.all_eq_true.1 h1 _ (y9 hl)) (fun l ob hl => r6 h2 hl) (fun l hl => by simpa using List.all_eq_true.1 h3 l hl) (fun l ob hl => ?_) (fun l ob hl => ?_) ?_
 ·obtain ⟨k1, k2⟩ := h4.at l ob hl
  exact ⟨by simpa using k1, fun l' hl' => by simpa using k2 l' hl'⟩
 ·have := List.all_eq_true.1 h5 l (o9 hl)
  exact n7 (by simpa [j4] using this)
 ·rintro ⟨w0, n', M, G', L', R, ρ0, D0, ro⟩ hn hG hL hR hro
  simp only at hn hG hL hR hro
  subst hn hG hL hR hro
  exact (h w0 M ρ0 D0).mono fun e st ⟨he, hu, ho⟩ => ⟨he, st, Ghost.refl _, hu, ho.at⟩
theorem ci6 {T : TypeId} {k : IntKind} {a b : Int} (h : a = b) : ObImp P (.var T (iv k a)) (.var T (iv k b)) := by rw [h]; exact ObImp.refl _
theorem by3 {lo : Nat} {g : Bool} (S : Seat P) {T E : TypeId} [hS : Sl P T E] {z : PV} [hz : Zr S E z] {n : Nat} {parts : Array (Nat × Operand)} {vs : List PV} {ps : List Pu}
  (h : EvL X st.env g (parts.toList.map (·.2)) vs := by repeat (first | exact EvL.nil | (apply EvL.cons; (first | (focus (apply Ev.mk; exact rfl; (repeat constructor); done)) | (focus (apply Ev.gd; exact rfl; (repeat constructor); done)) | (focus (apply Ev.left; exact rfl; (repeat constructor); done))))))
  (hps : ToPus vs ps := by repeat constructor) (hty : TyVs P E ps := by repeat (first | exact TyVs.nil | refine TyVs.cons inferInstance ?_)) (hn : n = ps.length := by rfl) (hi : parts.toList.map (·.1) = List.range ps.length := by rfl) (hfit : Nat.ble (n * P.cellsOf E) 16777216 = true := by kernel_rfl) (hlo : lo ≤ X.w0.heap.size := by first | exact Nat.zero_le _ | exact Nat.le_refl _) :
  ValG P X st (.buildSlice T n parts) g (.xs lo E ps) { reads := f0 (parts.toList.map (·.2)) } := ⟨fun hg st' ha C a w hs o ho hd => by
 obtain ⟨raw, h1, h2⟩ := h.raw hg
 have h1' : evalL X.G st'.env (parts.toList.map (·.2)) = some raw := by
  rw [A3 (env := st.env) fun t ht => ha.env t ht];exact h1
 obtain ⟨dst, op, type, pos, after, guard⟩ := o
 simp only at ho
 subst ho
 exact ac8 S hs rfl (by simpa [Op.operands] using h1') (by rw [h2]; exact hps) hd hlo (aB2 S hty.all hn hi hfit)⟩
end
section
variable {P : Program} {X : Ctx} {st : St} {g : Bool} {lo : Nat}
theorem PRs.parts {D : Nat → Nat → Prop} {w : World} {s : Nat} {E : TypeId} : ∀ {l : Nat} {n : Nat} {ps : List Pu} {x : List Value}, l ≤ n → PRs P D w (List.replicate n (s, E)) ps x →
  PRs P D w (List.replicate l (s, E)) (ps.take l) (x.take (l * s)) ∧ PRs P D w (List.replicate (n - l) (s, E)) (ps.drop l) (x.drop (l * s))
 | 0, n, ps, x, _, h => by simpa using ⟨PRs.nil, h⟩
 | l + 1, 0, _, _, hl, _ => by omega
 | l + 1, n + 1, _, _, hl, .cons (p := p) (ps := ps) (x := x) (y := y) hp hs ht h => by
  obtain ⟨h1, h2⟩ := PRs.parts (l := l) (by omega) h
  have e : (l + 1) * s = x.length + l * s := by rw [Nat.succ_mul, hs]; omega
  constructor
  ·rw [List.replicate_succ, List.take_succ_cons, e, List.take_length_add_append]
   exact .cons hp hs ht h1
  ·rw [List.drop_succ_cons, e, List.drop_length_add_append, show n + 1 - (l + 1) = n - l by omega]
   exact h2
theorem PR.sub {D : Nat → Nat → Prop} {w : World} {E : TypeId} {ps : List Pu} {a : Option Addr} {n cap : Nat} (h : PR P D w (.sl lo E ps) [.slice a n cap]) {l r : Nat} (h1 : l ≤ r) (h2 : r ≤ ps.length) :
  n = ps.length ∧ ((ps = [] → l = 0 ∧ r = 0) ∧ ps.length ≤ cap ∨ ps = []) ∧ PR P D w (.sl 0 E ((ps.take r).drop l)) [.slice (if cap = l then a else a.map (·.add (l * P.cellsOf E))) (r - l) (cap - l)] := by
 obtain ⟨e1, x, hx, hxl, hc⟩ := h.cells
 refine ⟨e1, ?_, ?_⟩
 ·by_cases h0 : ps = []
  ·exact .inr h0
  ·exact .inl ⟨fun e => absurd e h0, by obtain ⟨_, _, _, h3, _⟩ := hc h0; omega⟩
 ·have hlen : ((ps.take r).drop l).length = r - l := by simp; omega
  by_cases h0 : r - l = 0
  ·have e : (ps.take r).drop l = [] := List.length_eq_zero_iff.1 (by omega)
   rw [e, h0];exact .sl0
  ·have hne : ps ≠ [] := fun e => by subst e; simp at h2; omega
   obtain ⟨b, o, rfl, hcap, hcell⟩ := hc hne
   rw [if_neg (by omega)]
   have ha : (⟨b, o, none⟩ : Addr).add (l * P.cellsOf E) = ⟨b, o + l * P.cellsOf E, none⟩ := by unfold Addr.add; split <;> simp_all
   have hp1 := (hx.parts (l := r) (by omega)).1
   have hp2 := (hp1.parts (l := l) h1).2
   simp only [Option.map_some, ha]
   rw [← hlen];refine .sl (fun e => h0 (by rw [← hlen, e]; rfl)) (by omega) (by rw [hlen]; exact hp2) (fun j v hj => ?_) (.inl rfl)
   rw [List.getElem?_drop, List.getElem?_take] at hj
   split at hj
   ·obtain ⟨k1, k2⟩ := hcell _ _ hj
    have ha2 : (⟨b, o, none⟩ : Addr).add (l * P.cellsOf E + j) = ⟨b, o + l * P.cellsOf E + j, none⟩ := by unfold Addr.add; split <;> simp_all <;> omega
    rw [ha2] at k1
    exact ⟨k1, by rw [Nat.add_assoc]; exact k2⟩
   ·cases hj
theorem VW.sl_inv {C : Cfg} {w : World} {E : TypeId} {ps : List Pu} {x : Value} (h : VW P C w (.pu (.sl lo E ps)) x) : ∃ a n cap, x = .slice a n cap ∧ PR P C.D w (.sl lo E ps) [.slice a n cap] := by
 have := h.cell rfl (fun _ => by simp)
 have := this.pu_inv
 cases this with
 | sl0 => exact ⟨_, _, _, rfl, .sl0⟩
 | sl h1 h2 h3 h4 h5 => exact ⟨_, _, _, rfl, .sl h1 h2 h3 h4 h5⟩
theorem aP7 {w : World} {t E : TypeId} {a : Option Addr} {n cap l r : Nat} {lv hv : Option Value} (ht : P.underlying t = some (.slice E)) (hE : ∃ i, P.info? E = some i) (h1 : l ≤ r) (h2 : r ≤ cap)
  (hl : lv = none ∧ l = 0 ∨ lv = some (.int .i64 l)) (hr : hv = none ∧ r = n ∨ hv = some (.int .i64 r)) :
  (Instr.sliceAt t (.slice a n cap) lv hv none).run P w = .ok (.slice (if cap = l then a else a.map (·.add (l * P.cellsOf E))) (r - l) (cap - l)) w := by
 obtain ⟨i, hi⟩ := hE
 have hb : (Instr.sliceBounds true n cap lv hv none).run P w = .ok (l, r, cap) w := by
  rcases hl with ⟨rfl, rfl⟩ | rfl <;> rcases hr with ⟨rfl, rfl⟩ | rfl <;>
   simp [Instr.sliceBounds, Instr.sliceBound, asIntOf, h1, h2] <;> omega
 have e : P.cellsOf E = i.size := L2 hi
 simp [Instr.sliceAt, Instr.slice, run_underlying ht, Go.sizeOf, typeInfo, hi, hb, e]
theorem br1 {t E : TypeId} (hS : Sl P t E) (hT : k9 P = true) : ∃ i, P.info? E = some i := by
 obtain ⟨h1, h2⟩ := hS.spec
 obtain ⟨i, d, h3, _⟩ := ad8 hT (ba7 hT h1 h2)
 exact ⟨i, h3⟩
theorem bq6 {x : Operand} {lw hw : Option Operand} {t E : TypeId} {ps : List Pu} {l r : Nat} (S : Seat P) [hS : Sl P t E] (h : Ev X st.env g x (.pu (.sl lo E ps)))
  (hl : lw = none ∧ l = 0 ∨ ∃ y, lw = some y ∧ Ev X st.env g y (iv .i64 l)) (hr : hw = none ∧ r = ps.length ∨ ∃ y, hw = some y ∧ Ev X st.env g y (iv .i64 r)) (h1 : l ≤ r) (h2 : r ≤ ps.length) :
  ValG P X st (.slice t x lw hw none) g (.pu (.sl 0 E ((ps.take r).drop l))) { reads := f0 (x :: (lw.toList ++ hw.toList)) } :=
 ⟨fun hg st' ha C a w hs o ho hd => by
  have hx : VW P C w (.pu (.sl lo E ps)) (a.eval x) := by
   obtain ⟨q, e1, e2⟩ := h hg
   rw [← d9 (env := st.env) (env' := st'.env) fun t e => ha.env t (j2 (by rw [e]; simp))] at e1
   exact e2 ▸ hs.eval e1
  have hl' : lw.map a.eval = none ∧ l = 0 ∨ lw.map a.eval = some (.int .i64 l) := by
   rcases hl with ⟨rfl, rfl⟩ | ⟨y, rfl, hy⟩
   ·exact .inl ⟨rfl, rfl⟩
   ·obtain ⟨q, e1, e2⟩ := hy hg
    rw [← d9 (env := st.env) (env' := st'.env) fun t e => ha.env t (j2 (by rw [e]; simp))] at e1
    have := e2 ▸ hs.eval e1
    exact .inr (by simp [this.leaf_inv.1])
  have hr' : hw.map a.eval = none ∧ r = ps.length ∨ hw.map a.eval = some (.int .i64 r) := by
   rcases hr with ⟨rfl, rfl⟩ | ⟨y, rfl, hy⟩
   ·exact .inl ⟨rfl, rfl⟩
   ·obtain ⟨q, e1, e2⟩ := hy hg
    rw [← d9 (env := st.env) (env' := st'.env) fun t e => ha.env t (j2 (by rw [e]; simp))] at e1
    have := e2 ▸ hs.eval e1
    exact .inr (by simp [this.leaf_inv.1])
  obtain ⟨ad, n, cap, e1, e2⟩ := hx.sl_inv
  obtain ⟨rfl, e3, e4⟩ := e2.sub h1 h2
  have hcap : r ≤ cap := by
   rcases e3 with ⟨_, h⟩ | h
   ·omega
   ·subst h; simp at h2; omega
  refine o7 (w' := w) (C' := C) (y := .slice (if cap = l then ad else ad.map (·.add (l * P.cellsOf E))) (r - l) (cap - l)) ?_ (hs.upd_put (u9 hd) (.one (.pu e4) rfl) none True) (Tr.refl _ _ _ _) (fun L d hL => by simp at hL)
  obtain ⟨dst, op, type, pos, after, guard⟩ := o
  simp only at ho
  subst ho
  have := aP7 (w := w) (a := ad) (n := ps.length) hS.spec.2 (br1 hS S.hT) h1 hcap hl' hr'
  simp [execOp, e1, this]⟩
theorem ab5 {x y : Operand} {t E : TypeId} {ps : List Pu} {r : Nat} (S : Seat P) [hS : Sl P t E] (h2 : r ≤ ps.length) (h : Ev X st.env g x (.pu (.sl lo E ps)) := by first | (focus (apply Ev.mk; exact rfl; (repeat constructor); done)) | (focus (apply Ev.gd; exact rfl; (repeat constructor); done)) | (focus (apply Ev.left; exact rfl; (repeat constructor); done)) | (focus (apply Ev.left2; exact rfl; (repeat constructor); done))) (hr : Ev X st.env g y (iv .i64 r) := by first | (focus (apply Ev.mk; exact rfl; (repeat constructor); done)) | (focus (apply Ev.gd; exact rfl; (repeat constructor); done)) | (focus (apply Ev.left; exact rfl; (repeat constructor); done)) | (focus (apply Ev.left2; exact rfl; (repeat constructor); done))) :
  ValG P X st (.slice t x none (some y) none) g (.pu (.sl 0 E (ps.take r))) { reads := f0 [x, y] } := by
 have := bq6 (l := 0) (r := r) (lw := none) (hw := some y) (t := t) S h (.inl ⟨rfl, rfl⟩) (.inr ⟨y, rfl, hr⟩) (Nat.zero_le _) h2
 rwa [List.drop_zero] at this
theorem ah6 {x y : Operand} {t E : TypeId} {ps : List Pu} {l : Nat} (S : Seat P) [hS : Sl P t E] (h1 : l ≤ ps.length) (h : Ev X st.env g x (.pu (.sl lo E ps)) := by first | (focus (apply Ev.mk; exact rfl; (repeat constructor); done)) | (focus (apply Ev.gd; exact rfl; (repeat constructor); done)) | (focus (apply Ev.left; exact rfl; (repeat constructor); done)) | (focus (apply Ev.left2; exact rfl; (repeat constructor); done))) (hl : Ev X st.env g y (iv .i64 l) := by first | (focus (apply Ev.mk; exact rfl; (repeat constructor); done)) | (focus (apply Ev.gd; exact rfl; (repeat constructor); done)) | (focus (apply Ev.left; exact rfl; (repeat constructor); done)) | (focus (apply Ev.left2; exact rfl; (repeat constructor); done))) :
  ValG P X st (.slice t x (some y) none none) g (.pu (.sl 0 E (ps.drop l))) { reads := f0 [x, y] } := by
 have := bq6 (l := l) (r := ps.length) (lw := some y) (hw := none) (t := t) S h (.inr ⟨y, rfl, hl⟩) (.inl ⟨rfl, rfl⟩) h1 (Nat.le_refl _)
 rwa [List.take_length] at this
theorem cc7 {x y z : Operand} {ts : Array TypeId} {k : IntKind} {a b c : Int} (hx : d6 X.G st.env x = some (iv k a) := by rfl) (hy : d6 X.G st.env y = some (iv k b) := by rfl) (hz : d6 X.G st.env z = some (iv k c) := by rfl) :
  ValG P X st (.call ⟨.builtin .max, #[x, y, z], ts⟩) g (iv k (max (max a b) c)) { reads := f0 [x, y, z] } :=
 ⟨fun _ st' ha C q w hs o ho hd => by
  have hx' : d6 X.G st'.env x = some (iv k a) := by
   rw [d9 (env := st.env) fun t e => ha.env t (j2 (by rw [e]; simp))];exact hx
  have hy' : d6 X.G st'.env y = some (iv k b) := by
   rw [d9 (env := st.env) fun t e => ha.env t (j2 (by rw [e]; simp))];exact hy
  have hz' : d6 X.G st'.env z = some (iv k c) := by
   rw [d9 (env := st.env) fun t e => ha.env t (j2 (by rw [e]; simp))];exact hz
  have ex := (hs.eval hx').leaf_inv.1
  have ey := (hs.eval hy').leaf_inv.1
  have ez := (hs.eval hz').leaf_inv.1
  refine o7 (w' := w) (C' := C) (y := .int k (max (max a b) c)) ?_ (hs.upd_put (u9 hd) VW.iv_mk none True) (Tr.refl _ _ _ _) (fun L d hL => by simp at hL)
  obtain ⟨dst, op, type, pos, after, guard⟩ := o
  simp only at ho
  subst ho
  have e : max (max a b) c = if (if a < b then b else a) < c then c else (if a < b then b else a) := by split <;> split at * <;> omega
  rw [e]
  simp [execOp, resolve, invoke, builtin, ex, ey, ez, Builtin.max_, Builtin.max2]⟩
theorem ar1 {x y : Operand} {t E : TypeId} {ps : List Pu} {k : IntKind} {i : Int} (S : Seat P) [hS : Sl P t E] (p : Pu) (hp : g = true → 0 ≤ i ∧ ps[i.toNat]? = some p) (h : Ev X st.env g x (.pu (.sl lo E ps)) := by first | (focus (apply Ev.mk; exact rfl; (repeat constructor); done)) | (focus (apply Ev.gd; exact rfl; (repeat constructor); done)) | (focus (apply Ev.left; exact rfl; (repeat constructor); done)) | (focus (apply Ev.left2; exact rfl; (repeat constructor); done))) (hi : Ev X st.env g y (iv k i) := by first | (focus (apply Ev.mk; exact rfl; (repeat constructor); done)) | (focus (apply Ev.gd; exact rfl; (repeat constructor); done)) | (focus (apply Ev.left; exact rfl; (repeat constructor); done)) | (focus (apply Ev.left2; exact rfl; (repeat constructor); done))) :
  ValG P X st (.indexAddr t x y) g (.pp E (.pu p)) { reads := f0 [x, y] } := ⟨fun hg => (g9 S h hi (hp hg).1 (hp hg).2).exec hg⟩
end
section
variable {P : Program}
section
variable {H : Type} (P)
end
section
variable {H : Type}
end
section
variable {H : Type}
end
theorem HCall.moreG {G G' : List (Nat × TypeId × Pu)} {f : FuncId} {args : List PV} {HR H : List (Nat × Ob)} {v : PV} {H' : List (Nat × Ob)} {news : List Nat} (h : HCall P G f args HR H v H' news) (hG : ∀ g T p, get G g = some (T, p) → get G' g = some (T, p)) :
  HCall P G' f args HR H v H' news := fun C w xs F hx => h C w xs ⟨F.heap, F.inj, F.dObj, F.dLt, F.own, fun g T p hg => F.gl g T p (hG g T p hg)⟩ hx
end
section
variable {P : Program}
structure Kn (n : Nat) (ds : List Deferred) (env : List (Nat × Value)) (a : Act) : Prop where
 size : a.tmps.size = n
 defers : a.defers = ds
 env : ∀ i v, get env i = some v → a.tmps[i]? = some v
def evR (env : List (Nat × Value)) : Operand → Option Value
 | .tmp t => get env t
 | .const v => some v
 | .func f => some (.func (.func f) #[] #[])
 | _ => none
variable {n : Nat} {ds : List Deferred} {env : List (Nat × Value)} {w : World}
theorem Kn.eval {a : Act} (h : Kn n ds env a) {o : Operand} {v : Value} (hv : evR env o = some v) : a.eval o = v := by
 cases o with
 | tmp t => simp only [Act.eval, Array.getD_eq_getD_getElem?, h.env t v hv, Option.getD_some]
 | const x => simp [evR] at hv; exact hv
 | func f => simp [evR] at hv; exact hv
 | global g => simp [evR] at hv
theorem Kn.put {a : Act} (h : Kn n ds env a) {d : Nat} (hd : d < n) (v : Value) : Kn n ds ((d, v) :: env) (a.put (some d) v) :=
 ⟨by simpa [Act.put] using h.size, by simpa [Act.put] using h.defers, fun i u hu => by
  rw [m1] at hu
  split at hu
  ·rename_i e
   subst e
   simp at hu
   subst hu
   simp [Act.put, h.size, hd]
  ·rename_i e
   simp only [Act.put]
   rw [Array.getElem?_setIfInBounds_ne (fun e' => e e'.symm)]
   exact h.env i u hu⟩
theorem Kn.less {a : Act} {env' : List (Nat × Value)} (h : Kn n ds env a) (k : ∀ i v, get env' i = some v → get env i = some v) : Kn n ds env' a := ⟨h.size, h.defers, fun i v hv => h.env i v (k i v hv)⟩
def RTri (P : Program) (n : Nat) (ds : List Deferred) (c : Code) (env : List (Nat × Value)) (w : World) (Q : Exit → List (Nat × Value) → World → Prop) : Prop :=
 ∀ a, Kn n ds env a → c.wpIn (rf none) 0 P (fun e a' w' => ∃ env', Kn n ds env' a' ∧ Q e env' w') a w
def RL (P : Program) (n : Nat) (ds : List Deferred) (ops : Array Oper) (Q : List (Nat × Value) → World → Prop) (l : List Oper) (env : List (Nat × Value)) (w : World) : Prop :=
 ∀ (R : Exit → Act → World → Prop), (∀ a' w' env', Kn n ds env' a' → Q env' w' → R .normal a' w') → ∀ a, Kn n ds env a → wpListIn (rf none) 0 P ops R l a w
variable {Q : Exit → List (Nat × Value) → World → Prop} {x y c : Code}
theorem RTri.less {env' : List (Nat × Value)} (h : RTri P n ds c env' w Q) (k : ∀ i v, get env' i = some v → get env i = some v) : RTri P n ds c env w Q := fun a ha => h a (ha.less k)
def ca5 (K : List (Nat × Value) → World → Prop) (Q : Exit → List (Nat × Value) → World → Prop) : Exit → List (Nat × Value) → World → Prop
 | .normal, s, w => K s w
 | e, s, w => Q e s w
theorem RTri.seq (h : RTri P n ds x env w (ca5 (fun s w => RTri P n ds y s w Q) Q)) : RTri P n ds (.seq x y) env w Q := fun a ha => by
 refine wpIn_seq (wpIn_mono (h a ha) fun e a' w' ⟨s, hs, q⟩ => ?_)
 cases e with
 | normal => exact q a' hs
 | _ => exact ⟨s, hs, q⟩
theorem RTri.skip (h : Q .normal env w) : RTri P n ds .skip env w Q := fun _ ha => wpIn_skip ⟨env, ha, h⟩
theorem RTri.exit {id : Nat} (h : Q (.exit id) env w) : RTri P n ds (.exit id) env w Q := fun _ ha => wpIn_exit ⟨env, ha, h⟩
theorem RTri.cond {o : Operand} {b : Bool} (hc : evR env o = some (.bool b)) (hx : b = true → RTri P n ds x env w Q) (hy : b = false → RTri P n ds y env w Q) : RTri P n ds (.cond o x y) env w Q :=
 fun a ha => wpIn_cond_split (ha.eval hc) (fun hb => hx hb a ha) fun hb => hy hb a ha
def bQ9 (id : Nat) (Q : Exit → List (Nat × Value) → World → Prop) : Exit → List (Nat × Value) → World → Prop
 | .exit id', s, w => if id' = id then Q .normal s w else Q (.exit id') s w
 | e, s, w => Q e s w
theorem RTri.block {id : Nat} (h : RTri P n ds c env w (bQ9 id Q)) : RTri P n ds (.block id c) env w Q := fun a ha => by
 refine wpIn_block (wpIn_mono (h a ha) fun e a' w' ⟨s, hs, q⟩ => ?_)
 cases e with
 | exit id' =>
  simp only [bQ9, Exit.inBlock] at q ⊢
  split <;> rename_i e
  ·rw [if_pos e] at q; exact ⟨s, hs, q⟩
  ·rw [if_neg e] at q; exact ⟨s, hs, q⟩
 | _ => exact ⟨s, hs, q⟩
theorem RTri.loop {σ : Type} (I : σ → List (Nat × Value) → World → Prop) (μ : σ → Nat) (s0 : σ) (h0 : I s0 env w)
  (h : ∀ s env w, I s env w → RTri P n ds c env w (ca5 (fun env' w' => ∃ s', μ s' < μ s ∧ I s' env' w') Q)) : RTri P n ds (.loop c) env w Q := fun a ha => by
 have hl : ∀ a w, (∃ m s env, μ s = m ∧ I s env w ∧ Kn n ds env a) → ∃ m, (∃ s env, μ s = m ∧ I s env w ∧ Kn n ds env a) ∧ ∀ k, (∃ s env, μ s = k ∧ I s env w ∧ Kn n ds env a) → m ≤ k := fun a w hh => cb3 hh
 refine wpIn_loop (fun a w => ∃ s env, I s env w ∧ Kn n ds env a) (fun a w => open Classical in if hh : ∃ m s env, μ s = m ∧ I s env w ∧ Kn n ds env a then (hl a w hh).choose else 0) ⟨s0, env, h0, ha⟩ ?_
 rintro a w ⟨s1, env1, hs1, ha1⟩
 have hh : ∃ m s env, μ s = m ∧ I s env w ∧ Kn n ds env a := ⟨_, s1, env1, rfl, hs1, ha1⟩
 obtain ⟨⟨s, env2, hm, hs, ha2⟩, _⟩ := (hl a w hh).choose_spec
 refine wpIn_mono (h s env2 w hs a ha2) fun e a' w' ⟨env', hk, q⟩ => ?_
 cases e with
 | normal =>
  obtain ⟨s', hlt, hI⟩ := q
  refine ⟨⟨s', env', hI, hk⟩, ?_⟩
  have hh' : ∃ m s env, μ s = m ∧ I s env w' ∧ Kn n ds env a' := ⟨_, s', env', rfl, hI, hk⟩
  have h1 := (hl a' w' hh').choose_spec.2 (μ s') ⟨s', env', rfl, hI, hk⟩
  simp only [dif_pos hh, dif_pos hh']
  omega
 | _ => exact ⟨env', hk, q⟩
theorem RTri.region {id : Nat} {ops : Array Oper} (h : RL P n ds ops (Q .normal) ops.toList env w) : RTri P n ds (.region id ops false) env w Q :=
 fun a ha => wpIn_region_list (h _ (fun _ _ _ hk q => ⟨_, hk, q⟩) a ha)
variable {ops : Array Oper} {K : List (Nat × Value) → World → Prop} {rest : List Oper} {o : Oper} {w' : World}
theorem RL.nil (h : K env w) : RL P n ds ops K [] env w := fun _ hR a ha => wpListIn_nil (hR a w env ha h)
theorem RL.op {d : Nat} (v : Value) (w' : World) (hg : o.guard = none) (hnd : R5 o.op = false) (hd : o.dst = some d) (hlt : d < n) (h : ∀ a, Kn n ds env a → (execOp a.eval o).run P w = .ok (.value v) w')
  (k : RL P n ds ops K rest ((d, v) :: env) w') : RL P n ds ops K (o :: rest) env w := fun R hR a ha =>
 wpListIn_plain hg fun K' hK => D2 hnd (by
  unfold Oper.wp
  rw [h a ha, Oper.upon_value, hd]
  exact hK _ _ (k R hR _ (ha.put hlt v)))
theorem RL.st (w' : World) (hg : o.guard = none) (hnd : R5 o.op = false) (hd : o.dst = none) (h : ∀ a, Kn n ds env a → (execOp a.eval o).run P w = .ok .skip w')
  (k : RL P n ds ops K rest env w') : RL P n ds ops K (o :: rest) env w := fun R hR a ha =>
 wpListIn_plain hg fun K' hK => D2 hnd (by
  unfold Oper.wp
  rw [h a ha, Oper.upon_skip, hd]
  exact hK _ _ (k R hR _ (by simpa [Act.put] using ha)))
theorem RL.call {d f : Nat} (hg : o.guard = none) (hnd : R5 o.op = false) (hd : o.dst = some d) (hlt : d < n) (args : Array Value) (h : ∀ a, Kn n ds env a → (execOp a.eval o).run P w = .ok (.enter f args) w)
  (k : Calls P f args w fun e w' => ∃ v, e = .returned v ∧ RL P n ds ops K rest ((d, v) :: env) w') : RL P n ds ops K (o :: rest) env w := fun R hR a ha =>
 wpListIn_plain hg fun K' hK => D2 hnd (by
  unfold Oper.wp
  rw [h a ha, Oper.upon_enter]
  refine k.mono fun e w' ⟨v, he, hk⟩ => ?_
  subst he
  simp only [hd]
  exact hK _ _ (hk R hR _ (ha.put hlt v)))
section
variable {dst : Option Nat} {ty : TypeId} {pos : String} {af : Array Edge} {g : Option (Nat × Bool)} {a : Act}
theorem bF4 {o : Operand} {v : Value} (hv : evR env o = some v) (ha : Kn n ds env a) : (execOp a.eval ⟨dst, .move o, ty, pos, af, g⟩).run P w = .ok (.value v) w := by simp [execOp, ha.eval hv]
theorem aZ1 {o : Operand} {v : Value} (hv : evR env o = some v) (ha : Kn n ds env a) : (execOp a.eval ⟨dst, .assign o, ty, pos, af, g⟩).run P w = .ok (.value v) w := by simp [execOp, ha.eval hv]
def bo2 (P : Program) (s : TypeId) (f off : Nat) : Bool :=
 match P.underlying s with
 | some (.struct fs) => match fs[f]? with
  | some fd => fd.offset == off && P.cellsOf fd.type != 0 && decide (fd.type < P.types.size)
  | none => false
 | _ => false
theorem bS2 (hT : k9 P = true) {s : TypeId} {f b k off : Nat} {o : Operand} (hv : evR env o = some (.pointer (some ⟨b, k, none⟩))) (hf : bo2 P s f off = true) (ha : Kn n ds env a) :
  (execOp a.eval ⟨dst, .fieldAddr s o f, ty, pos, af, g⟩).run P w = .ok (.value (.pointer (some ⟨b, k + off, none⟩))) w := by
 unfold bo2 at hf
 split at hf
 ·rename_i fs hu
  split at hf
  ·rename_i fd hfd
   simp only [Bool.and_eq_true, beq_iff_eq, bne_iff_ne, ne_eq, decide_eq_true_eq] at hf
   obtain ⟨⟨rfl, h2⟩, h3⟩ := hf
   simp [execOp, ha.eval hv, Instr.fieldAt, Instr.sureAddr, run_underlying hu, hfd, fieldPlace, z0 hT h3, h2, ab2]
  ·cases hf
 ·cases hf
theorem bS0 (hT : k9 P = true) {T : TypeId} {b k : Nat} {o : Operand} {v : Value} (hv : evR env o = some (.pointer (some ⟨b, k, none⟩))) (hlt : T < P.types.size) (hc : (l7 P T).isNone = true) (hx : w.cell? ⟨b, k, none⟩ = some v) (ha : Kn n ds env a) :
  (execOp a.eval ⟨dst, .load T o, ty, pos, af, g⟩).run P w = .ok (.value v) w := by
 simp [execOp, ha.eval hv, Instr.loadAt, Instr.sureAddr, loadVar, U8 hT hlt, Option.isNone_iff_eq_none.1 hc, run_load, hx]
theorem bq4 (hT : k9 P = true) {T : TypeId} {b k : Nat} {o : Operand} {l : List Value} (hv : evR env o = some (.pointer (some ⟨b, k, none⟩))) (hlt : T < P.types.size) (hc : (l7 P T).isSome = true) (hl : l.length = P.cellsOf T)
  (hx : ∀ j v, l[j]? = some v → w.cell? ⟨b, k + j, none⟩ = some v) (ha : Kn n ds env a) :
  (execOp a.eval ⟨dst, .load T o, ty, pos, af, g⟩).run P w = .ok (.value (.agg l.toArray)) w := by
 have := run_loadCells_list (P := P) w ⟨b, k, none⟩ l (fun j v hj => by rw [Addr.add_lit]; exact hx j v hj)
 simp [execOp, ha.eval hv, Instr.loadAt, Instr.sureAddr, loadVar, U8 hT hlt, hc, z0 hT hlt, ← hl, this]
theorem bq3 (hT : k9 P = true) {T : TypeId} {b k : Nat} {o p : Operand} {v : Value} {c : Array Value} {E : TypeId} (hv : evR env o = some (.pointer (some ⟨b, k, none⟩))) (hp : evR env p = some v) (hlt : T < P.types.size)
  (hb : w.heap[b]? = some (.cells c E (0, 0))) (hs : v.cells.size = P.cellsOf T) (h1 : ∀ u ∈ v.cells.toList, u.oneCell' = true) (hfit : k + v.cells.size ≤ c.size) (ha : Kn n ds env a) :
  (execOp a.eval ⟨dst, .store T o p, ty, pos, af, g⟩).run P w = .ok .skip (w.setRow b (c.toList.take k ++ v.cells.toList ++ c.toList.drop (k + v.cells.size)).toArray) := by
 simp [execOp, ha.eval hv, ha.eval hp, Instr.storeAt, Instr.sureAddr, ae0 hT hlt hb hs h1 hfit]
theorem ch6 {t E : TypeId} {b : Option Addr} {m cap : Nat} {o : Operand} (hv : evR env o = some (.slice b m cap)) (hu : P.underlying t = some (.slice E)) (ha : Kn n ds env a) :
  (execOp a.eval ⟨dst, .call ⟨.builtin .len, #[o], #[t]⟩, ty, pos, af, g⟩).run P w = .ok (.value (.int .i64 m)) w := by
 simp [execOp, resolve, invoke, builtin, ha.eval hv, Builtin.len_, run_underlying hu, goInt]
theorem bS1 (hT : k9 P = true) {t E : TypeId} {b k m cap i : Nat} {o p : Operand} (hv : evR env o = some (.slice (some ⟨b, k, none⟩) m cap)) (hp : evR env p = some (.int .i64 i)) (hu : P.underlying t = some (.slice E)) (hlt : E < P.types.size) (hi : i < m) (ha : Kn n ds env a) :
  (execOp a.eval ⟨dst, .indexAddr t o p, ty, pos, af, g⟩).run P w = .ok (.value (.pointer (some ⟨b, k + i * P.cellsOf E, none⟩))) w := by
 simp [execOp, ha.eval hv, ha.eval hp, Instr.indexAt, asIntOf, run_underlying hu, hi, z0 hT hlt, ab2]
theorem ch7 {T : TypeId} {o : Operand} {v : Value} (hv : evR env o = some v) (ha : Kn n ds env a) :
  (execOp a.eval ⟨dst, .box T o, ty, pos, af, g⟩).run P w = .ok (.value (.pointer (some ⟨w.heap.size, 0, none⟩))) (w.alloc (.cells v.cells T)) := by
 simp [execOp, ha.eval hv, Instr.box, newVar, newRow]
theorem ca0 (hT : k9 P = true) {op : BinOp} {t : TypeId} {k : IntKind} {i j : Int} {p q : Operand} {r : TypeId} {u : Value} (hp : evR env p = some (.int k i)) (hq : evR env q = some (.int k j)) (h : M2 P op t (iv k i) (iv k j) = some (.pu (.leaf u))) (ha : Kn n ds env a) :
  (execOp a.eval ⟨dst, .binOp op t p q r, ty, pos, af, g⟩).run P w = .ok (.value u) w := by
 obtain ⟨z, h1, h2⟩ := aY0 hT (C := ⟨fun _ _ => False, fun _ => none, fun _ => none⟩) (w := w) p q h (VW.leaf rfl) (VW.leaf rfl)
 obtain ⟨rfl, _⟩ := h2.leaf_inv
 simp only [execOp, ha.eval hp, ha.eval hq]
 rw [Sem.run_bind, h1]
 rfl
theorem bS3 {T : TypeId} {parts : Array (Nat × Operand)} {ps : Array (Nat × Value)} {v : Value} (hp : parts.map (fun x => (x.1, evR env x.2)) = ps.map fun x => (x.1, some x.2)) (h : ∀ w : World, (Instr.build T ps).run P w = .ok v w) (ha : Kn n ds env a) :
  (execOp a.eval ⟨dst, .build T parts, ty, pos, af, g⟩).run P w = .ok (.value v) w := by
 have e : parts.map (fun x => (x.1, a.eval x.2)) = ps := by
  refine Array.ext (by simpa using congrArg Array.size hp) fun i h1 h2 => ?_
  have := congrArg (fun z => z[i]?) hp
  simp at h1
  simp [h1, h2] at this
  simp
  refine Prod.ext this.1 (ha.eval this.2)
 simp only [execOp]
 rw [show (parts.map fun x => match x with | (i, x) => (i, a.eval x)) = ps from e]
 simp [h]
end
section
variable {P : Program} {n : Nat} {ds : List Deferred} {ops : Array Oper} {K : List (Nat × Value) → World → Prop} {rest : List Oper} {env : List (Nat × Value)} {w : World} {dst d : Nat} {ty : TypeId} {pos : String} {af : Array Edge}
theorem A1 {o : Operand} {v : Value} (hv : evR env o = some v) (hd : d < n) (k : RL P n ds ops K rest ((d, v) :: env) w) : RL P n ds ops K (⟨some d, .move o, ty, pos, af, none⟩ :: rest) env w := RL.op _ _ rfl rfl rfl hd (fun _ ha => bF4 hv ha) k
theorem W0 {o : Operand} {v : Value} (hv : evR env o = some v) (hd : d < n) (k : RL P n ds ops K rest ((d, v) :: env) w) : RL P n ds ops K (⟨some d, .assign o, ty, pos, af, none⟩ :: rest) env w := RL.op _ _ rfl rfl rfl hd (fun _ ha => aZ1 hv ha) k
theorem bK5 (hT : k9 P = true) {t r : TypeId} {i j : Nat} {p q : Operand} (hp : evR env p = some (.int .i64 i)) (hq : evR env q = some (.int .i64 j)) (hd : d < n) (k : RL P n ds ops K rest ((d, .bool (decide (i < j))) :: env) w) : RL P n ds ops K (⟨some d, .binOp .lss t p q r, ty, pos, af, none⟩ :: rest) env w :=
 RL.op _ _ rfl rfl rfl hd (fun _ ha => ca0 hT hp hq (by simp [M2, ap3]) ha) k
theorem bc6 (hT : k9 P = true) {t r : TypeId} {i : Nat} {p : Operand} (hp : evR env p = some (.int .i64 i)) (hi : i < 1099511627776) (hd : d < n) (k : RL P n ds ops K rest ((d, .int .i64 (i + 1 : Nat)) :: env) w) : RL P n ds ops K (⟨some d, .binOp .add t p (.const (.int .i64 1)) r, ty, pos, af, none⟩ :: rest) env w :=
 RL.op _ _ rfl rfl rfl hd (fun _ ha => ca0 hT hp rfl (by simp [M2, ap3]; rw [b7 (by omega) (by omega)]) ha) k
theorem I3 (hT : k9 P = true) {s : TypeId} {f b k off : Nat} {o : Operand} (hv : evR env o = some (.pointer (some ⟨b, k, none⟩))) (hf : bo2 P s f off = true) (hd : d < n) (kk : RL P n ds ops K rest ((d, .pointer (some ⟨b, k + off, none⟩)) :: env) w) :
  RL P n ds ops K (⟨some d, .fieldAddr s o f, ty, pos, af, none⟩ :: rest) env w := RL.op _ _ rfl rfl rfl hd (fun _ ha => bS2 hT hv hf ha) kk
theorem R4 (hT : k9 P = true) {T : TypeId} {b k : Nat} {o : Operand} {v : Value} (hx : w.cell? ⟨b, k, none⟩ = some v) (hv : evR env o = some (.pointer (some ⟨b, k, none⟩))) (hlt : (decide (T < P.types.size) && (l7 P T).isNone) = true) (hd : d < n) (kk : RL P n ds ops K rest ((d, v) :: env) w) :
  RL P n ds ops K (⟨some d, .load T o, ty, pos, af, none⟩ :: rest) env w := by
 simp only [Bool.and_eq_true, decide_eq_true_eq] at hlt
 exact RL.op _ _ rfl rfl rfl hd (fun _ ha => bS0 hT hv hlt.1 hlt.2 hx ha) kk
theorem al3 (hT : k9 P = true) {T : TypeId} {b k : Nat} {o : Operand} {l : List Value} (hx : ∀ j v, l[j]? = some v → w.cell? ⟨b, k + j, none⟩ = some v) (hl : l.length = P.cellsOf T) (hv : evR env o = some (.pointer (some ⟨b, k, none⟩))) (hlt : (decide (T < P.types.size) && (l7 P T).isSome) = true) (hd : d < n)
  (kk : RL P n ds ops K rest ((d, .agg l.toArray) :: env) w) : RL P n ds ops K (⟨some d, .load T o, ty, pos, af, none⟩ :: rest) env w := by
 simp only [Bool.and_eq_true, decide_eq_true_eq] at hlt
 exact RL.op _ _ rfl rfl rfl hd (fun _ ha => bq4 hT hv hlt.1 hlt.2 hl hx ha) kk
theorem bc5 {t E : TypeId} {b : Option Addr} {m cap : Nat} {o : Operand} (hv : evR env o = some (.slice b m cap)) (hu : P.underlying t = some (.slice E)) (hd : d < n) (kk : RL P n ds ops K rest ((d, .int .i64 m) :: env) w) :
  RL P n ds ops K (⟨some d, .call ⟨.builtin .len, #[o], #[t]⟩, ty, pos, af, none⟩ :: rest) env w := RL.op _ _ rfl rfl rfl hd (fun _ ha => ch6 hv hu ha) kk
theorem U0 (hT : k9 P = true) {t E : TypeId} {b m cap i sz : Nat} {o p : Operand} (hi : i < m) (hv : evR env o = some (.slice (some ⟨b, 0, none⟩) m cap)) (hp : evR env p = some (.int .i64 i)) (hu : P.underlying t = some (.slice E)) (hlt : (decide (E < P.types.size) && P.cellsOf E == sz) = true) (hd : d < n)
  (kk : RL P n ds ops K rest ((d, .pointer (some ⟨b, i * sz, none⟩)) :: env) w) : RL P n ds ops K (⟨some d, .indexAddr t o p, ty, pos, af, none⟩ :: rest) env w := by
 simp only [Bool.and_eq_true, decide_eq_true_eq, beq_iff_eq] at hlt
 have h := fun a (ha : Kn n ds env a) => bS1 (dst := some d) (ty := ty) (pos := pos) (af := af) (g := none) hT (w := w) hv hp hu hlt.1 hi ha
 rw [hlt.2, Nat.zero_add] at h
 exact RL.op _ _ rfl rfl rfl hd h kk
theorem bK6 {T : TypeId} {o : Operand} {v : Value} (hv : evR env o = some v) (hd : d < n) (kk : RL P n ds ops K rest ((d, .pointer (some ⟨w.heap.size, 0, none⟩)) :: env) (w.alloc (.cells v.cells T))) :
  RL P n ds ops K (⟨some d, .box T o, ty, pos, af, none⟩ :: rest) env w := RL.op _ _ rfl rfl rfl hd (fun _ ha => ch7 hv ha) kk
theorem aV5 (hT : k9 P = true) {T : TypeId} {b i sz : Nat} {o p : Operand} {l : List Value} {c : Array Value} {E : TypeId} (hb : w.heap[b]? = some (.cells c E (0, 0))) (hfit : (i + 1) * sz ≤ c.size) (hs : l.length = sz) (h1 : l.all Value.oneCell' = true) (hv : evR env o = some (.pointer (some ⟨b, i * sz, none⟩))) (hp : evR env p = some (.agg l.toArray)) (hlt : (decide (T < P.types.size) && P.cellsOf T == sz) = true)
  (kk : RL P n ds ops K rest env (w.setRow b (c.toList.take (i * sz) ++ l ++ c.toList.drop (i * sz + sz)).toArray)) : RL P n ds ops K (⟨none, .store T o p, ty, pos, af, none⟩ :: rest) env w := by
 simp only [Bool.and_eq_true, decide_eq_true_eq, beq_iff_eq] at hlt
 rw [Nat.succ_mul] at hfit
 have h := fun a (ha : Kn n ds env a) => bq3 (dst := none) (ty := ty) (pos := pos) (af := af) (g := none) hT (w := w) hv hp hlt.1 hb (by rw [hlt.2, ← hs]; simp [Value.cells]) (by simpa [Value.cells, List.all_eq_true] using h1) (by simp only [Value.cells, List.size_toArray, hs]; omega) ha
 simp only [Value.cells, List.size_toArray, hs] at h
 exact RL.st _ rfl rfl rfl h kk
theorem aV6 {T : TypeId} {parts : Array (Nat × Operand)} {ps : Array (Nat × Value)} {v : Value} (h : ∀ w : World, (Instr.build T ps).run P w = .ok v w) (hp : parts.map (fun x => (x.1, evR env x.2)) = ps.map fun x => (x.1, some x.2)) (hd : d < n) (kk : RL P n ds ops K rest ((d, v) :: env) w) :
  RL P n ds ops K (⟨some d, .build T parts, ty, pos, af, none⟩ :: rest) env w := RL.op _ _ rfl rfl rfl hd (fun _ ha => bS3 hp h ha) kk
end
theorem av2 {f : FuncId} {fo : Operand} {os : Array Operand} {ts : Array TypeId} {dst : Option Nat} {ty : TypeId} {pos : String} {af : Array Edge} {g : Option (Nat × Bool)} {n : Nat} {ds : List Deferred} {env : List (Nat × Value)} {a : Act} {w : World} {x : Operand} {v : Value} {P : Program} (he : n9 P f = true) (hf : fo = .func f) (has : os = #[x]) (hv : evR env x = some v) (ha : Kn n ds env a) :
  (execOp a.eval ⟨dst, .call ⟨.value fo, os, ts⟩, ty, pos, af, g⟩).run P w = .ok (.enter f #[v]) w := by
 subst hf has
 simp [execOp, resolve, Act.eval, Deferred.ofValue, invoke, P3 he]
 simpa [Act.eval] using ha.eval hv
def subE : List (Nat × Value) → List (Nat × Value) → Prop
 | [], _ => True
 | x :: r, env => get env x.1 = some x.2 ∧ subE r env
theorem subE.get : ∀ {l env : List (Nat × Value)}, subE l env → ∀ i v, Hs.get l i = some v → Hs.get env i = some v
 | [], _, _, i, v, h => by cases h
 | x :: r, env, ⟨h1, h2⟩, i, v, h => by
  obtain ⟨j, u⟩ := x
  rw [m1] at h
  split at h
  ·rename_i e; subst e; rw [← h]; exact h1
  ·exact h2.get i v h
theorem RTri.use {n : Nat} {ds : List Deferred} {env : List (Nat × Value)} {w : World} {c : Code} {a : Act} {R : Exit → Act → World → Prop} (Q : Exit → List (Nat × Value) → World → Prop) (h : RTri P n ds c env w Q) (ha : Kn n ds env a) (k : ∀ e a' w' env', Kn n ds env' a' → Q e env' w' → R e a' w') : c.wpIn (rf none) 0 P R a w :=
 wpIn_mono (h a ha) fun e a' w' ⟨env', h1, h2⟩ => k e a' w' env' h1 h2
theorem Kn.of {n : Nat} {a : Act} {l : List (Nat × Value)} (hn : a.tmps.size = n) (h : ∀ x ∈ l, a.tmps[x.1]? = some x.2) : Kn n a.defers l a := ⟨hn, rfl, fun _ _ hv => h _ (y9 hv)⟩
theorem aU2 {C : Cfg} {w : World} {i lo : Nat} {E : TypeId} {ps : List Pu} {x : Value} (h : VT P C w i (.pu (.sl lo E ps)) x) : PR P C.D w (.sl lo E ps) [x] := by
 cases h with
 | one h hs =>
  generalize hz : x.cells.toList = z at h
  cases h with
  | pu h =>
   have : ∃ s, z = [s] := by cases h <;> exact ⟨_, rfl⟩
   obtain ⟨s, rfl⟩ := this
   have : x = s := by cases x <;> simp_all [Value.cells, j1, PV.isAgg]
   rw [this];exact h
end
section
variable {P : Program}
structure Keep (m hi : Nat) (w w' : World) : Prop where
 os : w'.os = w.os
 tape : w'.tape = w.tape
 output : w'.output = w.output
 size : w.heap.size ≤ w'.heap.size
 block : ∀ b : Nat, b < w.heap.size → ¬ (m ≤ b ∧ b < hi) → w'.heap[b]? = w.heap[b]?
 other : ∀ (b : Nat) (o : Obj), w.heap[b]? = some o → (∀ c E f, o ≠ Obj.cells c E f) → w'.heap[b]? = some o
 ty : TyKeep w w'
theorem Keep.refl (m hi : Nat) (w : World) : Keep m hi w w := ⟨rfl, rfl, rfl, Nat.le_refl _, fun _ _ _ => rfl, fun _ _ h _ => h, TyKeep.refl _⟩
theorem Keep.trans {m hi : Nat} {a b c : World} (h : Keep m hi a b) (k : Keep m hi b c) : Keep m hi a c :=
 ⟨k.os.trans h.os, k.tape.trans h.tape, k.output.trans h.output, Nat.le_trans h.size k.size, fun i hi1 hi2 => (k.block i (Nat.lt_of_lt_of_le hi1 h.size) hi2).trans (h.block i hi1 hi2),
  fun i o ho hc => k.other i o (h.other i o ho hc) hc, h.ty.trans k.ty⟩
theorem Keep.of_grew {m hi : Nat} {w w' : World} (g : Grew w w') : Keep m hi w w' := ⟨g.os, g.tape, g.output, g.size, fun b hb _ => g.block b hb, fun b _ ho _ => (g.block b (y8 ho)).trans ho, g.ty⟩
theorem Keep.setRow {m hi b : Nat} {w : World} {c c' : Array Value} {E : TypeId} {f : Nat × Nat} (hb : w.heap[b]? = some (.cells c E f)) (h1 : m ≤ b) (h2 : b < hi) : Keep m hi w (w.setRow b c') :=
 ⟨rfl, rfl, rfl, Nat.le_of_eq (aa4 w b c').symm, fun i _ hn => J8 w b c' fun e => by subst e; exact hn ⟨h1, h2⟩, fun i _ ho hc => by
  rw [J8 w b c' fun e => by subst e; rw [hb] at ho; cases ho; exact hc _ _ _ rfl]
  exact ho, ak8 w b c'⟩
def ae5 (st : St) : Bool :=
 st.env.all (fun x => match x.2 with
  | .ptr _ _ _ | .pu _ => true
  | _ => false) && st.heap.all fun x => B2 x.2 && x.2.labs.isEmpty
def bL0 (ks : List Nat) (env : List (Nat × PV)) : Bool :=
 env.all (fun x => match x.2 with
  | .ptr l _ _ => ks.contains l
  | _ => false)
theorem bU4 {ks : List Nat} {env : List (Nat × PV)} (h : bL0 ks env = true) {i : Nat} {v : PV} (hv : get env i = some v) : ∃ l p T, v = .ptr l p T ∧ l ∈ ks := by
 simp only [bL0, List.all_eq_true] at h
 have := h _ (y9 hv)
 cases v <;> simp at this
 exact ⟨_, _, _, rfl, this⟩
theorem bA9 {st : St} (h : ae5 st = true) {i : Nat} {v : PV} (hv : get st.env i = some v) : ∀ lo E ps, v ≠ oww lo E ps := by
 simp only [ae5, Bool.and_eq_true, List.all_eq_true] at h
 have := h.1 _ (y9 hv)
 rintro lo E ps rfl
 cases lo <;> simp [oww] at this
theorem aJ2 {st : St} (h : ae5 st = true) {l : Nat} {ob : Ob} (hl : get st.heap l = some ob) : B2 ob = true ∧ ob.labs = [] := by
 simp only [ae5, Bool.and_eq_true, List.all_eq_true] at h
 have := h.2 _ (y9 hl)
 simpa using this
def Ctx.re (X : Ctx) (st : St) (C : Cfg) (w : World) (ds : List Deferred) : Ctx :=
 ⟨w, X.n, fun b => ∃ d ∈ ds, d = { target := .collected b, args := #[] }, X.G, j4 st.heap, j4 st.heap, C.ρ, C.D, X.ro⟩
def Cfg.bare (C : Cfg) : Cfg := { C with own := fun _ => none }
theorem aq2 {C : Cfg} {w : World} (ls : List Nat) (keep : Place → Prop) (hk : ∀ q, ¬ keep q) : Stays C C.bare w w ls keep :=
 ⟨fun _ _ h => ⟨h, rfl⟩, fun _ _ => rfl, fun _ q _ _ hq => (hk q hq).elim, TyKeep.refl _⟩
theorem SatC.restart {X : Ctx} {C : Cfg} {st : St} {a : Act} {w : World} (h : SatC P X C st a w) (hp : ae5 st = true) : SatC P (X.re st C w a.defers) C.bare st a w where
 size := h.size
 defers := ⟨h.defers.1, fun d hd => by
  obtain ⟨D, h1, _, h3, _⟩ := h.defers.2 d hd
  exact ⟨D, h1, .inr ⟨d, hd, h1⟩, h3, rfl⟩⟩
 framed := ⟨rfl, rfl, rfl, Nat.le_refl _, fun _ _ _ => rfl, TyKeep.refl _⟩
 env i v hv := by
  obtain ⟨x, h1, h2⟩ := h.env i v hv
  exact ⟨x, h1, h2.mono (aq2 _ _ fun q hq => by
   simp only [Keeps] at hq
   obtain ⟨_, lo, E, ps, e⟩ := hq
   exact bA9 hp hv lo E ps e)⟩
 heap l ob hl := by
  obtain ⟨b, h1, _, h3⟩ := h.heap l ob hl
  refine ⟨b, h1, .inl (o9 hl), h3.mono (aq2 _ _ fun q hq => ?_) rfl⟩
  exact aj0 (aJ2 hp hl).1 hq
 inj := h.inj
 dObj := h.dObj
 dLt := h.dLt
 own b q k hb := by cases hb
 gl := h.gl.mono (aq2 _ _ fun q hq => hq)
 kin := ⟨fun _ _ => rfl, fun _ _ h => h, fun _ _ h => .inl h⟩
 keep _ _ _ := rfl
theorem SatC.spoilt {X : Ctx} {C C5 : Cfg} {st s : St} {a a1 a' : Act} {w w1 w' : World} {hi : Nat} (h : SatC P X C st a w) (hp : ae5 st = true) (h5 : SatC P (X.re st C w a.defers) C5 s a1 w1)
  {env0 : List (Nat × PV)} (he : bL0 (j4 st.heap) env0 = true) (hs : ∀ i v, get env0 i = some v → get s.env i = some v) (K : Keep w.heap.size hi w1 w') (hsz : a'.tmps.size = X.n) (ha : ∀ i v, get env0 i = some v → a'.tmps[i]? = a1.tmps[i]?) (hd : a'.defers = a1.defers) : SatC P X C.bare ⟨env0, st.heap⟩ a' w' := by
 have hM : ∀ b, (∃ d ∈ a.defers, d = { target := .collected b, args := #[] }) → (X.w0.heap.size ≤ b ∨ X.M b) ∧ w.heap[b]? = some (.deferred (some [])) := fun b ⟨d, hd, e⟩ => by
  obtain ⟨D, h1, h2, h3, _⟩ := h.defers.2 d hd
  rw [h1] at e
  simp at e
  subst e;exact ⟨h2, h3⟩
 have hblk : ∀ b, b < w.heap.size → (∀ x, w.heap[b]? ≠ some (.deferred x)) → w'.heap[b]? = w.heap[b]? := fun b hb hno => by
  have h1 := h5.framed.block b hb fun hm => hno _ (hM b hm).2
  exact (K.block b (Nat.lt_of_lt_of_le hb h5.framed.size) (by omega)).trans h1
 have hty : TyKeep w w' := h5.framed.ty.trans K.ty
 have hcell : ∀ b o, C.D b o → w'.cell? ⟨b, o, none⟩ = w.cell? ⟨b, o, none⟩ := fun b o hD => by
  have h1 := h5.keep b o hD
  have hb := h.dLt b o hD
  have h2 := K.block b (Nat.lt_of_lt_of_le hb h5.framed.size) (by omega)
  refine Eq.trans ?_ h1
  simp only [World.cell?, h2]
 have stays : ∀ (ls : List Nat) (keep : Place → Prop), (∀ q, ¬ keep q) → Stays C C.bare w w' ls keep := fun ls keep hk => ⟨fun b o hD => ⟨hD, hcell b o hD⟩, fun _ _ => rfl, fun b q k _ hq => (hk q hq).elim, hty⟩
 refine ⟨hsz, ⟨by rw [hd]; exact h5.defers.1, fun d hdm => ?_⟩, ⟨?_, ?_, ?_, ?_, fun b hb hm => ?_, h.framed.ty.trans hty⟩, fun i v hv => ?_, fun l ob hl => ?_, h.inj, h.dObj, fun b o hD => ?_, fun b q k hb => absurd (show (none : Option (Place × Nat)) = some (q, k) from hb) (by simp), h.gl.mono (stays _ _ fun q hq => hq), ⟨h.kin.rho, h.kin.dOld, h.kin.dNew⟩, fun b o hD => (hcell b o (h.kin.dOld b o hD)).trans (h.keep b o hD)⟩
 ·rw [hd] at hdm
  obtain ⟨D, h1, h2, h3, _⟩ := h5.defers.2 d hdm
  refine ⟨D, h1, ?_, K.other D _ h3 (fun _ _ _ e => by cases e), rfl⟩
  rcases h2 with h2 | h2
  ·exact .inl (Nat.le_trans h.framed.size h2)
  ·exact (hM D h2).1
 ·exact K.os.trans (h5.framed.os.trans h.framed.os)
 ·exact K.tape.trans (h5.framed.tape.trans h.framed.tape)
 ·exact K.output.trans (h5.framed.output.trans h.framed.output)
 ·exact Nat.le_trans h.framed.size (Nat.le_trans h5.framed.size K.size)
 ·have hbw : b < w.heap.size := Nat.lt_of_lt_of_le hb h.framed.size
  have h1 := h5.framed.block b hbw fun hm' => by
   rcases (hM b hm').1 with h2 | h2
   ·omega
   ·exact hm h2
  exact ((K.block b (Nat.lt_of_lt_of_le hbw h5.framed.size) (by omega)).trans h1).trans (h.framed.block b hb hm)
 ·obtain ⟨l, p, T, rfl, hk⟩ := bU4 he hv
  obtain ⟨x, h1, h2⟩ := h5.env i _ (hs i _ hv)
  refine ⟨x, (ha i _ hv).trans h1, ?_⟩
  have hρ : C5.ρ l = C.ρ l := h5.kin.rho l hk
  cases h2 with
  | one hv hs =>
   refine .one ?_ hs
   generalize hz : x.cells.toList = z at hv
   cases hv with
   | ptr hl hsub => exact .ptr (hρ.symm.trans hl) hsub
 ·obtain ⟨b, h1, h2, h3⟩ := h.heap l ob hl
  exact ⟨b, h1, h2, h3.mono (stays _ _ fun q hq => aj0 (aJ2 hp hl).1 hq) (hblk b h3.lt fun x => h3.noDef)⟩
 ·exact Nat.lt_of_lt_of_le (h.dLt b o hD) (Nat.le_trans h5.framed.size K.size)
theorem Tri.two {w0 : World} {n : Nat} {M : Nat → Prop} {G : List (Nat × TypeId × Pu)} {L R : List Nat} {ρ0 : Nat → Option (Nat × Root)} {D0 : Nat → Nat → Prop} {st : St} {c : Code} {Q : Exit → St → Prop} (ks : List Nat) (hks : j4 st.heap = ks) (hp : ae5 st = true) (hne : ks ≠ [])
  (h : ∀ w1 M1 ρ1 D1 (K2 : Code → St → Prop), 0 < w1.heap.size →
   (∀ c1 c2 s, Tri P ⟨w1, n, M1, G, ks, ks, ρ1, D1, none⟩ c1 s (fun e s' => e = .normal ∧ K2 c2 s') → K2 (.seq c1 c2) s) →
   (∀ c1 c2 s env0, bL0 ks env0 = true → (∀ i v, get env0 i = some v → get s.env i = some v) →
    (∀ C a w, SatC P ⟨w1, n, M1, G, ks, ks, ρ1, D1, none⟩ C s a w → c1.wpIn (rf none) 0 P (fun e a' w' => e = .normal ∧ (∃ hi, Keep w1.heap.size hi w w') ∧ a'.tmps.size = n ∧ (∀ i v, get env0 i = some v → a'.tmps[i]? = a.tmps[i]?) ∧ a'.defers = a.defers) a w) →
    Tri P ⟨w0, n, M, G, L, R, ρ0, D0, none⟩ c2 ⟨env0, st.heap⟩ Q → K2 (.seq c1 c2) s) → K2 c st) : Tri P ⟨w0, n, M, G, L, R, ρ0, D0, none⟩ c st Q := fun C a w hs => by
 subst hks
 have h5 := hs.restart hp
 have hpos : 0 < w.heap.size := by
  cases hh : st.heap with
  | nil => exact (hne (by rw [hh]; rfl)).elim
  | cons x r =>
   obtain ⟨l, ob⟩ := x
   obtain ⟨b, _, _, h3⟩ := hs.heap l ob (by rw [hh]; simp [get])
   exact Nat.lt_of_le_of_lt (Nat.zero_le _) h3.lt
 refine h w (fun b => ∃ d ∈ a.defers, d = { target := .collected b, args := #[] }) C.ρ C.D (fun c s => ∀ C5 a1 w1, SatC P (Ctx.re ⟨w0, n, M, G, L, R, ρ0, D0, none⟩ st C w a.defers) C5 s a1 w1 → c.wpIn (rf none) 0 P (fun e a' w' => ∃ st' C', Q e st' ∧ SatC P ⟨w0, n, M, G, L, R, ρ0, D0, none⟩ C' st' a' w') a1 w1) hpos ?_ ?_ _ a w h5
 ·intro c1 c2 s h1 C5 a1 w1 hs1
  refine wpIn_seq (wpIn_mono (h1 C5 a1 w1 hs1) fun e a2 w2 ⟨s', C', ⟨he, hk⟩, h6⟩ => ?_);subst he;exact hk C' a2 w2 h6
 ·intro c1 c2 s env0 hq0 hs0 h1 h2 C5 a1 w1 hs1
  refine wpIn_seq (wpIn_mono (h1 C5 a1 w1 hs1) fun e a2 w2 ⟨he, ⟨hi, hk⟩, hsz, ha, hd⟩ => ?_);subst he;exact h2 _ a2 w2 (hs.spoilt hp hs1 hq0 hs0 hk hsz ha hd)
theorem aO1 {f : FuncId} {fn : Func} {c : Code} {args : Array Value} {w : World} {R : Ending → World → Prop} (n : Nat) (hf : P.funcs[f]? = some fn) (hb : fn.body = some c) (hn : n = args.size + (fn.ntmps - args.size)) (env : List (Nat × Value)) (he : ∀ i v, get env i = some v → args[i]? = some v)
  (h : RTri P n [] c env w fun e env' w' => (e = .normal ∨ e = .ret) ∧ ∀ a, Kn n [] env' a → ∃ v, (results fn a.tmps).run P w' = .ok v w' ∧ R (.returned v) w') : Calls P f args w R := by
 refine callsIn_wide (n := 0) |>.1 (callsIn_of_wp_marks hf hb trivial (wpIn_mono (h { tmps := args ++ Array.replicate (fn.ntmps - args.size) undef, defers := [] } ⟨by simp [hn], rfl, fun i v hv => ?_⟩) fun e a' w' ⟨env', hk, he, hr⟩ => ?_) rfl)
 ·have := he i v hv
  rw [Array.getElem?_append_left (by have := (Array.getElem?_eq_some_iff.1 this).1; exact this)];exact this
 ·have hd := hk.defers
  obtain ⟨v, h1, h2⟩ := hr a' hk
  have hL : LeavesInM Fence.wide 0 P fn a'.tmps R a'.defers .returning w' := by rw [hd]; exact ⟨v, h1, h2⟩
  rcases he with rfl | rfl <;> exact hL
end
section
variable {P : Program} {lo lo' : Nat}
theorem bm1 {C : Cfg} {w : World} {t ty E : TypeId} (he : ElemOk P t E) {ys : List Pu} {a0 a1 : Option Addr} {n1 c1 : Nat}
  (hy : PR P C.D w (.sl lo' E ys) [.slice a1 n1 c1]) (hne : ys ≠ []) (hfit : ys.length * P.bytesOf E ≤ 70368744177664) :
  ∃ (cap : Nat) (yx : List Value) (z : Array Value), ys.length ≤ cap ∧ PRs P C.D w (List.replicate ys.length (P.cellsOf E, E)) ys yx ∧
   (Builtin.append_ #[t, t] ty #[.slice a0 0 0, .slice a1 n1 c1]).run P w = .ok (.slice (some ⟨w.heap.size, 0, none⟩) ys.length cap) (w.drew.alloc (.cells (yx.toArray ++ z) E)) := by
 obtain ⟨i, z, hi, hz, hzs⟩ := he.zero
 obtain ⟨rfl, yx, y1, y2, y3⟩ := hy.cells
 have hsz := L2 hi
 have hbs := U4 hi
 have hb0 : 1 ≤ P.bytesOf E := Nat.one_le_iff_ne_zero.2 he.bytes
 obtain ⟨b1, o1, rfl, hc1, y3⟩ := y3 hne
 have hpos : 0 < ys.length := List.length_pos_iff.2 hne
 have hlen : ys.length ≤ 70368744177664 := Nat.le_trans (Nat.le_mul_of_pos_right _ hb0) hfit
 have hfits : Builtin.nextslicecap (0 + ys.length) 0 * i.bytes ≤ 281474976710656 := growslice_fits (by omega) (by rw [← hbs]; simpa using (by omega : ys.length * P.bytesOf E ≤ 140737488355328))
 have hnews : ∀ j v, yx[j]? = some v → w.cell? ((⟨b1, o1, none⟩ : Addr).add j) = some v := fun j v hj => (y3 j v hj).1
 refine ⟨grownCap w ys.length 0 E, yx, Builtin.zeroCells z.cells (grownCap w ys.length 0 E - ys.length), by have := grownCap_ge w ys.length 0 E; omega, y1, ?_⟩
 cases a0 with
 | none =>
  have := run_append_nil (P := P) w t ty E i z he.slice hi hz ⟨b1, o1, none⟩ ys.length c1 yx (by rw [y2, hsz]) hnews hpos (by omega) (by rw [← hbs]; omega)
  simpa using this
 | some b0 =>
  have := run_append_grow (P := P) w t ty E i z he.slice hi hz b0 0 0 [] (by simp) (by simp) ⟨b1, o1, none⟩ ys.length c1 yx (by rw [y2, hsz]) hnews (by omega) (by simp; omega) (by simpa using hfits)
  simpa using this
theorem bh6 {X : Ctx} {C : Cfg} {st : St} {o : Oper} {a : Act} {w : World} (h : SatC P X C st a w) {x y : Operand} {t E : TypeId} {u v : PV} {ys : List Pu} {d l : Nat} (hop : o.op = .call ⟨.builtin .append, #[x, y], #[t, t]⟩) (he : ElemOk P t E)
  (hx : d6 X.G st.env x = some u) (hu : ag2 lo E (strip u) = some []) (hy : d6 X.G st.env y = some v) (hv : K9 E (strip v) = some ys) (hne : ys ≠ []) (hd : o.dst = some d) (hdn : d < X.n) (hfit : ys.length * P.bytesOf E ≤ 70368744177664)
  (hf : Fresh st l) (hL : l ∉ X.L) (hn : get st.heap l = none) : Exec P X C st o a w { v := .arr l E 0 ys.length, heap := [(l, .row E (ys.map .pu))] } := by
 obtain ⟨a0, n0, e0, p0⟩ := aM1 (h.eval hx) hu
 obtain ⟨a1, n1, c1, e1, p1⟩ := Q7 (h.eval hy) hv
 obtain rfl : n0 = 0 := by cases p0; rfl; simp_all
 obtain ⟨cap, yx, z, hcap, q1, hrun⟩ := bm1 (ty := o.type) (a0 := a0) he p1 hne hfit
 have h1 : SatC P X C st a w.drew := h.grew (Grew.drew w) (CGrew.refl C w _ fun b q k hb hge => absurd (h.own b q k hb).2.1 (Nat.not_lt.2 hge))
 have hs := h1.new hf hL (ob := .row E (ys.map .pu)) (o := .cells (yx.toArray ++ z) E (0, 0)) (by
  refine ⟨yx.toArray ++ z, yx, z.toList, alloc_heap_new w.drew _, by simp, ?_⟩
  rw [List.length_map]
  exact PRs.toV (C := C.at l w.drew.heap.size (.row E)) (pl := some (.obj l [])) 0 (PRs.mono (D' := C.D) (fun b o hD => ⟨hD, (Grew.alloc w.drew _).cell (h.dLt b o hD)⟩) (Grew.alloc w.drew _).ty (PRs.mono (D' := C.D) (fun b o hD => ⟨hD, (Grew.drew w).cell (h.dLt b o hD)⟩) (Grew.drew w).ty q1)))
 have hsz : w.drew.heap.size = w.heap.size := rfl
 rw [hsz] at hs
 refine o7 (y := .slice (some ⟨w.heap.size, 0, none⟩) ys.length cap) (w' := w.drew.alloc (.cells (yx.toArray ++ z) E)) (C' := C.at l w.heap.size (.row E)) (F2 hop (by rw [e0, e1]; exact hrun)) ?_ (aG4 h hn (M9 w _) (fun l' hne => by simp [Cfg.at, hne]) _) (fun L d hL => by simp at hL);rw [hd]
 exact hs.put hdn (.one (by
  have := VR.arr (P := P) (C := C.at l w.heap.size (.row E)) (w := w.drew.alloc (.cells (yx.toArray ++ z) E)) (pl := some (.slot d)) (l := l) (E := E) (off := 0) (len := ys.length) (b := w.heap.size) (cap := cap) (by simp [Cfg.at]) hcap
  rw [Nat.zero_mul] at this
  exact this) rfl)
section
variable {X : Ctx} {ops : Array Oper} {env : List (Nat × PV)} {heap : List (Nat × Ob)} {dr : Bool} {s0 : St} {K : St → Prop} {dn : List Item} {rest : List Oper} {d : Nat} {ty : TypeId} {pos : String} {after : Array Edge}
theorem bI4 (_S : Seat P) {t E : TypeId} {B : Nat} [hE : El P t E B] {x y : Operand} {u v : PV} {ys : List Pu} (l : Nat) (hne : ys ≠ []) (hfit : ys.length * B ≤ 70368744177664)
  (c : WalkR P X ops dr s0 K (dn ++ [⟨⟨some d, .call ⟨.builtin .append, #[x, y], #[t, t]⟩, ty, pos, after, none⟩, { v := .arr l E 0 ys.length, heap := [(l, .row E (ys.map .pu))] }, { reads := f0 [x, y], news := [l], labs := [l] }⟩]) ⟨(d, .arr l E 0 ys.length) :: env, (l, .row E (ys.map .pu)) :: heap⟩ rest)
  (hx : d6 X.G env x = some u := by rfl) (hu : Exact 0 E u [] := by repeat constructor) (hy : d6 X.G env y = some v := by rfl) (hv : Elems E v ys := by repeat constructor) (hd : lb d X.n = true := by rfl) :
  WalkR P X ops dr s0 K dn ⟨env, heap⟩ (⟨some d, .call ⟨.builtin .append, #[x, y], #[t, t]⟩, ty, pos, after, none⟩ :: rest) := by
 refine WalkR.cons ⟨fun l' h => ?_, fun L h => by simp at h, fun st' ha hn C a w hs _ => ?_⟩ c
 ·simp [PV.labs, Ob.labs, N4 ys] at h
  simp [h]
 ·obtain ⟨h1, h2, h3⟩ := hn l (by simp)
  have hx' : d6 X.G st'.env x = some u := by
   rw [d9 (env := env) fun t e => ha.env t (j2 (by rw [e]; simp))];exact hx
  have hy' : d6 X.G st'.env y = some v := by
   rw [d9 (env := env) fun t e => ha.env t (j2 (by rw [e]; simp))];exact hy
  exact .of ((Guard.none rfl).wanted hs) (bh6 hs rfl hE.spec.1 hx' hu.eq hy' hv.eq hne rfl (G9 hd) (by rw [hE.spec.2]; exact hfit) h1 h3 h2)
end
end
section
variable {P : Program}
def ch3 (n m : Nat) (env0 : List (Nat × PV)) (a : Act) (w : World) (e : Exit) (a' : Act) (w' : World) : Prop :=
 e = .normal ∧ (∃ hi, Keep m hi w w') ∧ a'.tmps.size = n ∧ (∀ i v, get env0 i = some v → a'.tmps[i]? = a.tmps[i]?) ∧ a'.defers = a.defers
theorem Tri.two2 {w0 : World} {n : Nat} {M : Nat → Prop} {G : List (Nat × TypeId × Pu)} {L R : List Nat} {ρ0 : Nat → Option (Nat × Root)} {D0 : Nat → Nat → Prop} {st : St} {c : Code} {Q : Exit → St → Prop} (ks : List Nat) (hks : j4 st.heap = ks) (hp : ae5 st = true) (hne : ks ≠ [])
  (h : ∀ w1 M1 ρ1 D1 (K2 : Code → St → Prop), 0 < w1.heap.size →
   (∀ c1 c2 s, Tri P ⟨w1, n, M1, G, ks, ks, ρ1, D1, none⟩ c1 s (fun e s' => e = .normal ∧ K2 c2 s') → K2 (.seq c1 c2) s) →
   (∀ c1 c2 c3 s env0, bL0 ks env0 = true → (∀ i v, get env0 i = some v → get s.env i = some v) →
    (∀ C a w, SatC P ⟨w1, n, M1, G, ks, ks, ρ1, D1, none⟩ C s a w → c1.wpIn (rf none) 0 P (fun e a2 w2 => e = .normal ∧ c2.wpIn (rf none) 0 P (ch3 n w1.heap.size env0 a w) a2 w2) a w) →
    Tri P ⟨w0, n, M, G, L, R, ρ0, D0, none⟩ c3 ⟨env0, st.heap⟩ Q → K2 (.seq c1 (.seq c2 c3)) s) → K2 c st) : Tri P ⟨w0, n, M, G, L, R, ρ0, D0, none⟩ c st Q := fun C a w hs => by
 subst hks
 have h5 := hs.restart hp
 have hpos : 0 < w.heap.size := by
  cases hh : st.heap with
  | nil => exact (hne (by rw [hh]; rfl)).elim
  | cons x r =>
   obtain ⟨l, ob⟩ := x
   obtain ⟨b, _, _, h3⟩ := hs.heap l ob (by rw [hh]; simp [get])
   exact Nat.lt_of_le_of_lt (Nat.zero_le _) h3.lt
 refine h w (fun b => ∃ d ∈ a.defers, d = { target := .collected b, args := #[] }) C.ρ C.D (fun c s => ∀ C5 a1 w1, SatC P (Ctx.re ⟨w0, n, M, G, L, R, ρ0, D0, none⟩ st C w a.defers) C5 s a1 w1 → c.wpIn (rf none) 0 P (fun e a' w' => ∃ st' C', Q e st' ∧ SatC P ⟨w0, n, M, G, L, R, ρ0, D0, none⟩ C' st' a' w') a1 w1) hpos ?_ ?_ _ a w h5
 ·intro c1 c2 s h1 C5 a1 w1 hs1
  refine wpIn_seq (wpIn_mono (h1 C5 a1 w1 hs1) fun e a2 w2 ⟨s', C', ⟨he, hk⟩, h6⟩ => ?_);subst he;exact hk C' a2 w2 h6
 ·intro c1 c2 c3 s env0 hq0 hs0 h1 h2 C5 a1 w1 hs1
  refine wpIn_seq (wpIn_mono (h1 C5 a1 w1 hs1) fun e a2 w2 ⟨he, h3⟩ => ?_);subst he;refine wpIn_seq (wpIn_mono h3 fun e a3 w3 ⟨he, ⟨hi, hk⟩, hsz, ha, hd⟩ => ?_);subst he;exact h2 _ a3 w3 (hs.spoilt hp hs1 hq0 hs0 hk hsz ha hd)
end
section
variable {P : Program}
def TriR (P : Program) (X : Ctx) (c : Code) (st : St) (R : Exit → Act → World → Prop) : Prop := ∀ C a w, SatC P X C st a w → c.wpIn (rf X.ro) 0 P R a w
theorem TriR.seq {X : Ctx} {x y : Code} {st : St} {R : Exit → Act → World → Prop} (h : Tri P X x st (fun e s => e = .normal ∧ TriR P X y s R)) : TriR P X (.seq x y) st R := fun C a w hs => by
 refine wpIn_seq (wpIn_mono (h C a w hs) fun e a' w' ⟨s, C', ⟨he, hk⟩, hs'⟩ => ?_);subst he;exact hk C' a' w' hs'
theorem Z8 {C : Cfg} {b : Nat} : ¬ M5 C [] b := by
 rintro (⟨l, ob, R, h, _⟩ | ⟨l, p, k, ob, _, h⟩) <;> cases h
theorem SatC.frag0 {X : Ctx} {C : Cfg} {st : St} {a : Act} {w : World} (h : SatC P X C st a w) : Frag P X.G C w [] [] :=
 ⟨fun l ob hl => (by cases hl), fun l l' b R R' ob ob' hl => (by cases hl), fun l ob b R o hl => (by cases hl), h.dLt, fun b q k hb => ⟨(h.own b q k hb).2.1, (h.own b q k hb).2.2.1, fun l ob R hl => (by cases hl)⟩, h.gl⟩
end
section
section
variable {P : Program} {n : Nat} {ds : List Deferred} {ops : Array Oper} {K : List (Nat × Value) → World → Prop} {rest : List Oper} {env : List (Nat × Value)} {w : World} {dst d : Nat} {ty : TypeId} {pos : String} {af : Array Edge} {g : Option (Nat × Bool)} {o : Oper}
def aa1 (ops : Array Oper) (g : Option (Nat × Bool)) (env : List (Nat × Value)) : Bool := match g with
 | none => true
 | some (j, want) => match (ops[j]?).bind (·.dst) with
  | some d => match get env d with
   | some (.bool b) => b == want
   | _ => false
  | none => false
theorem av4 {a : Act} (ha : Kn n ds env a) (h : aa1 ops o.guard env = true) : Region.wanted o (yielded ops a.tmps) = true := by
 unfold aa1 at h
 unfold Region.wanted
 split at h
 ·rename_i hg; rw [hg]
 ·rename_i j want hg
  rw [hg]
  simp only
  split at h
  ·rename_i d hd
   split at h
   ·rename_i b hb
    have := ha.env _ _ hb
    simp only [yielded, hd, Option.bind_some, this]
    simpa using h
   ·cases h
  ·cases h
theorem RL.opW {d : Nat} (v : Value) (w' : World) (hw : aa1 ops o.guard env = true) (hnd : R5 o.op = false) (hd : o.dst = some d) (hlt : d < n) (h : ∀ a, Kn n ds env a → (execOp a.eval o).run P w = .ok (.value v) w')
  (k : RL P n ds ops K rest ((d, v) :: env) w') : RL P n ds ops K (o :: rest) env w := fun R hR a ha =>
 wpListIn_step fun K' hK => by
  rw [if_pos (av4 ha hw)];refine D2 hnd ?_
  unfold Oper.wp
  rw [h a ha, Oper.upon_value, hd];exact hK _ _ (k R hR _ (ha.put hlt v))
theorem RL.stW (w' : World) (hw : aa1 ops o.guard env = true) (hnd : R5 o.op = false) (hd : o.dst = none) (h : ∀ a, Kn n ds env a → (execOp a.eval o).run P w = .ok .skip w')
  (k : RL P n ds ops K rest env w') : RL P n ds ops K (o :: rest) env w := fun R hR a ha =>
 wpListIn_step fun K' hK => by
  rw [if_pos (av4 ha hw)];refine D2 hnd ?_
  unfold Oper.wp
  rw [h a ha, Oper.upon_skip, hd];exact hK _ _ (k R hR _ (by simpa [Act.put] using ha))
theorem RL.callW {d f : Nat} (hw : aa1 ops o.guard env = true) (hnd : R5 o.op = false) (hd : o.dst = some d) (hlt : d < n) (args : Array Value) (h : ∀ a, Kn n ds env a → (execOp a.eval o).run P w = .ok (.enter f args) w)
  (k : Calls P f args w fun e w' => ∃ v, e = .returned v ∧ RL P n ds ops K rest ((d, v) :: env) w') : RL P n ds ops K (o :: rest) env w := fun R hR a ha =>
 wpListIn_step fun K' hK => by
  rw [if_pos (av4 ha hw)];refine D2 hnd ?_
  unfold Oper.wp
  rw [h a ha, Oper.upon_enter]
  refine k.mono fun e w' ⟨v, he, hk⟩ => ?_
  subst he
  simp only [hd]
  exact hK _ _ (hk R hR _ (ha.put hlt v))
theorem P9 {x : Operand} {v : Value} (k : RL P n ds ops K rest ((d, v) :: env) w) (hv : evR env x = some v := by rfl) (hd : d < n := by decide) (hw : aa1 ops g env = true := by rfl) : RL P n ds ops K (⟨some d, .move x, ty, pos, af, g⟩ :: rest) env w :=
 RL.opW _ _ hw rfl rfl hd (fun _ ha => bF4 hv ha) k
theorem bG0 {x : Operand} {v : Value} (k : RL P n ds ops K rest ((d, v) :: env) w) (hv : evR env x = some v := by rfl) (hd : d < n := by decide) (hw : aa1 ops g env = true := by rfl) : RL P n ds ops K (⟨some d, .assign x, ty, pos, af, g⟩ :: rest) env w :=
 RL.opW _ _ hw rfl rfl hd (fun _ ha => aZ1 hv ha) k
theorem ak6 (hT : k9 P = true) {T : TypeId} {b j0 : Nat} {x : Operand} {l : List Value} (hx : ∀ j v, l[j]? = some v → w.cell? ⟨b, j0 + j, none⟩ = some v) (hl : l.length = P.cellsOf T) (hlt : (decide (T < P.types.size) && (l7 P T).isSome) = true)
  (k : RL P n ds ops K rest ((d, .agg l.toArray) :: env) w) (hv : evR env x = some (.pointer (some ⟨b, j0, none⟩)) := by rfl) (hd : d < n := by decide) (hw : aa1 ops g env = true := by rfl) : RL P n ds ops K (⟨some d, .load T x, ty, pos, af, g⟩ :: rest) env w := by
 simp only [Bool.and_eq_true, decide_eq_true_eq] at hlt
 exact RL.opW _ _ hw rfl rfl hd (fun _ ha => bq4 hT hv hlt.1 hlt.2 hl hx ha) k
theorem ca1 {T : TypeId} {x : Operand} {b : Bool} (k : RL P n ds ops K rest ((d, .bool (!b)) :: env) w) (hv : evR env x = some (.bool b) := by rfl) (hd : d < n := by decide) (hw : aa1 ops g env = true := by rfl) : RL P n ds ops K (⟨some d, .unOp .not T x, ty, pos, af, g⟩ :: rest) env w :=
 RL.opW _ _ hw rfl rfl hd (fun _ ha => by simp [execOp, ha.eval hv, Op.unary]) k
theorem aT3 {c x y : Operand} {b : Bool} {v : Value} (k : RL P n ds ops K rest ((d, v) :: env) w) (hc : evR env c = some (.bool b) := by rfl) (hv : evR env (if b then x else y) = some v := by rfl) (hd : d < n := by decide) (hw : aa1 ops g env = true := by rfl) : RL P n ds ops K (⟨some d, .pick c x y, ty, pos, af, g⟩ :: rest) env w :=
 RL.opW _ _ hw rfl rfl hd (fun _ ha => by
  cases b
  ·simp [execOp, ha.eval hc, asBool, ha.eval (show evR env y = some v from hv)]
  ·simp [execOp, ha.eval hc, asBool, ha.eval (show evR env x = some v from hv)]) k
theorem bF9 (hT : k9 P = true) {op : BinOp} {t r : TypeId} {u1 u2 u : Value} {x y : Operand} (h : M2 P op t (.pu (.leaf u1)) (.pu (.leaf u2)) = some (.pu (.leaf u))) (hf : (ap5 u1 && ap5 u2) = true) (k : RL P n ds ops K rest ((d, u) :: env) w)
  (hx : evR env x = some u1 := by rfl) (hy : evR env y = some u2 := by rfl) (hd : d < n := by decide) (hw : aa1 ops g env = true := by rfl) : RL P n ds ops K (⟨some d, .binOp op t x y r, ty, pos, af, g⟩ :: rest) env w :=
 RL.opW _ _ hw rfl rfl hd (fun _ ha => by
  simp only [Bool.and_eq_true] at hf
  obtain ⟨z, h1, h2⟩ := aY0 hT (C := ⟨fun _ _ => False, fun _ => none, fun _ => none⟩) (w := w) x y h (VW.leaf hf.1) (VW.leaf hf.2)
  obtain ⟨rfl, _⟩ := h2.leaf_inv
  simp only [execOp, ha.eval hx, ha.eval hy]
  rw [Sem.run_bind, h1]
  rfl) k
theorem aO7 {x : Operand} {i : Nat} {vs : Array Value} {v : Value} (hi : vs[i]? = some v) (k : RL P n ds ops K rest ((d, v) :: env) w) (hv : evR env x = some (.tuple vs) := by rfl) (hd : d < n := by decide) (hw : aa1 ops g env = true := by rfl) : RL P n ds ops K (⟨some d, .extract x i, ty, pos, af, g⟩ :: rest) env w :=
 RL.opW _ _ hw rfl rfl hd (fun _ ha => by simp [execOp, ha.eval hv, Instr.extract, hi]) k
theorem bS4 (S : Seat P) {T : TypeId} {u : PV} (hz : S.Z T = some u) (k : ∀ c : Array Value, c.size = P.cellsOf T → RL P n ds ops K rest ((d, .pointer (some ⟨w.heap.size, 0, none⟩)) :: env) (w.alloc (.cells c T))) (hd : d < n := by decide) (hw : aa1 ops g env = true := by rfl) : RL P n ds ops K (⟨some d, .alloc T, ty, pos, af, g⟩ :: rest) env w := by
 obtain ⟨z, z1, _, _, z4, _⟩ := ab8 S hz ⟨fun _ _ => False, fun _ => none, fun _ => none⟩ w
 exact RL.opW _ _ hw rfl rfl hd (fun _ ha => by simp [execOp, Instr.alloc, z1, newVar, newRow]) (k z.cells z4)
theorem bF8 (hT : k9 P = true) {T : TypeId} {b : Nat} {x y : Operand} {l : List Value} {c : Array Value} {E : TypeId} (hb : w.heap[b]? = some (.cells c E (0, 0))) (hc : c.size = P.cellsOf T) (hl : l.length = P.cellsOf T) (h1 : l.all Value.oneCell' = true) (hlt : T < P.types.size)
  (k : RL P n ds ops K rest env (w.setRow b l.toArray)) (hv : evR env x = some (.pointer (some ⟨b, 0, none⟩)) := by rfl) (hp : evR env y = some (.agg l.toArray) := by rfl) (hw : aa1 ops g env = true := by rfl) : RL P n ds ops K (⟨none, .store T x y, ty, pos, af, g⟩ :: rest) env w := by
 have h := fun a (ha : Kn n ds env a) => bq3 (dst := none) (ty := ty) (pos := pos) (af := af) (g := g) hT (w := w) hv hp hlt hb (by simp [Value.cells, hl]) (by simpa [Value.cells, List.all_eq_true] using h1) (by simp only [Value.cells, List.size_toArray, hl, hc]; omega) ha
 have e : (c.toList.take 0 ++ (Value.agg l.toArray).cells.toList ++ c.toList.drop (0 + (Value.agg l.toArray).cells.size)).toArray = l.toArray := by
  simp only [Value.cells, List.size_toArray, List.take_zero, List.nil_append, Nat.zero_add]
  rw [List.drop_eq_nil_of_le (by rw [Array.length_toList, hc, hl]; exact Nat.le_refl _), List.append_nil]
 rw [e] at h
 exact RL.stW _ hw rfl rfl h k
theorem aC6 {f : FuncId} {fo : Operand} {os : Array Operand} {ts : Array TypeId} {a : Act} {vs : Array Value} (he : n9 P f = true) (hf : fo = .func f) (has : os.toList.map (evR env) = vs.toList.map some) (ha : Kn n ds env a) :
  (execOp a.eval ⟨some d, .call ⟨.value fo, os, ts⟩, ty, pos, af, g⟩).run P w = .ok (.enter f vs) w := by
 subst hf
 have e : os.map a.eval = vs := by
  apply Array.ext';rw [Array.toList_map]
  generalize os.toList = l at has
  generalize vs.toList = m at has
  induction l generalizing m with
  | nil => cases m with
   | nil => rfl
   | cons _ _ => simp at has
  | cons x l ih =>
   cases m with
   | nil => simp at has
   | cons y m =>
    simp only [List.map_cons, List.cons.injEq] at has
    rw [List.map_cons, ih m has.2, ha.eval has.1]
 simp [execOp, resolve, Act.eval, Deferred.ofValue, invoke, P3 he]
 exact e
end
section
variable {P : Program}
theorem Keep.wide {m m' hi hi' : Nat} {w w' : World} (h : Keep m hi w w') (h1 : m' ≤ m) (h2 : hi ≤ hi') : Keep m' hi' w w' := ⟨h.os, h.tape, h.output, h.size, fun b hb hn => h.block b hb (by omega), h.other, h.ty⟩
mutual
def aO0 (m : Nat) : Pu → Bool
 | .leaf _ => true
 | .agg _ ps => T6 m ps
 | .sl lo _ ps => (decide (m ≤ lo) || ps.isEmpty) && T6 m ps
def T6 (m : Nat) : List Pu → Bool
 | [] => true
 | p :: ps => aO0 m p && T6 m ps
end
mutual
theorem PR.col {D : Nat → Nat → Prop} {w : World} {m : Nat} (hm : 0 < m) : ∀ {p : Pu} {x : List Value}, aO0 m p = true → PR P D w p x → PR P (fun b o => m ≤ b ∧ D b o) w p x
 | .leaf _, _, _, .leaf h => .leaf h
 | .agg _ ps, _, hc, .agg h1 h => .agg h1 (PRs.col hm hc h)
 | .sl _ _ [], _, _, .sl0 => .sl0
 | .sl _ _ ps, _, hc, .sl hn hcap h hx hlo => by
  simp only [aO0, Bool.and_eq_true, Bool.or_eq_true, decide_eq_true_eq] at hc
  refine .sl hn hcap (PRs.col hm hc.2 h) (fun j v hj => ?_) hlo
  obtain ⟨h1, h2⟩ := hx j v hj
  refine ⟨h1, ?_, h2⟩
  rcases hlo with h0 | ⟨h3, _⟩
  ·rcases hc.1 with h4 | h4
   ·omega
   ·rw [List.isEmpty_iff] at h4; exact (hn h4).elim
  ·rcases hc.1 with h4 | h4
   ·omega
   ·rw [List.isEmpty_iff] at h4; exact (hn h4).elim
theorem PRs.col {D : Nat → Nat → Prop} {w : World} {m : Nat} (hm : 0 < m) : ∀ {cs : List (Nat × TypeId)} {ps : List Pu} {x : List Value}, T6 m ps = true → PRs P D w cs ps x → PRs P (fun b o => m ≤ b ∧ D b o) w cs ps x
 | _, [], _, _, .nil => .nil
 | _, _ :: _, _, hc, .cons hp hs ht h => by
  simp only [T6, Bool.and_eq_true] at hc
  exact .cons (PR.col hm hc.1 hp) hs ht (PRs.col hm hc.2 h)
end
theorem SatC.grewF {X : Ctx} {C : Cfg} {st : St} {a : Act} {w : World} (h : SatC P X C st a w) (hM : ∀ b, ¬ X.M b) : Grew X.w0 w := ⟨h.framed.os, h.framed.tape, h.framed.output, h.framed.size, fun b hb => h.framed.block b hb (hM b)⟩
end
section
variable {P : Program}
theorem bb4 {G : List (Nat × TypeId × Pu)} {C : Cfg} {w : World} {HR : List (Nat × Ob)} {a : Act} {env : List (Nat × PV)} (F : Frag P G C w HR []) (hfree : ∀ l ob, get HR l = some ob → B2 ob = true) (n : Nat) (L : List Nat) (hn : a.tmps.size = n) (hd : a.defers = [])
  (henv : ∀ i u, get env i = some u → ∃ x, a.tmps[i]? = some x ∧ VR P C w none u x.cells.toList ∧ j1 x = u.isAgg) : ∃ C0, SatC P ⟨w, n, M5 C [], G, L, j4 HR, C.ρ, C.D, none⟩ C0 ⟨env, HR⟩ a w := by
 have := F.sat (X := ⟨w, n, M5 C [], G, L, j4 HR, C.ρ, C.D, none⟩) rfl rfl rfl rfl rfl rfl hfree (env := env) (a := a) hn hd henv
 rw [List.append_nil] at this
 exact this
end
structure MarkK (m : Nat) (w w' : World) : Prop where
 os : w'.os = w.os
 tape : w'.tape = w.tape
 output : w'.output = w.output
 size : w'.heap.size = w.heap.size
 low : ∀ b : Nat, b < m → w'.heap[b]? = w.heap[b]?
 same : ∀ (b : Nat) (o : Obj), w.heap[b]? = some o → (∀ x, o ≠ .deferred x) → w'.heap[b]? = some o
theorem MarkK.refl (m : Nat) (w : World) : MarkK m w w := ⟨rfl, rfl, rfl, rfl, fun _ _ => rfl, fun _ _ h _ => h⟩
theorem MarkK.trans {m : Nat} {a b c : World} (h : MarkK m a b) (k : MarkK m b c) : MarkK m a c := ⟨k.os.trans h.os, k.tape.trans h.tape, k.output.trans h.output, k.size.trans h.size, fun i hi => (k.low i hi).trans (h.low i hi), fun i o ho hn => k.same i o (h.same i o ho hn) hn⟩
def cc0 (m : Nat) (ds : List Deferred) (w : World) : Prop := ds.Nodup ∧ ∀ d ∈ ds, ∃ D, d = { target := .collected D, args := #[] } ∧ m ≤ D ∧ w.heap[D]? = some (.deferred (some []))
section
variable {P : Program}
theorem an2 {m : Nat} {fn : Func} {R : Ending → World → Prop} {tmps : Array Value} : ∀ (ds : List Deferred) {w : World}, cc0 m ds w →
  (∀ w', MarkK m w w' → ∃ v, (results fn tmps).run P w' = .ok v w' ∧ R (.returned v) w') → LeavesInM Fence.wide 0 P fn tmps R ds .returning w
 | [], w, _, k => k w (MarkK.refl m w)
 | d :: ds, w, hd, k => by
  obtain ⟨D, h1, h2, h3⟩ := hd.2 d (by simp)
  have hK : MarkK m w (w.putObj D (.deferred none)) := ⟨rfl, rfl, rfl, by simp, fun b hb => World.putObj_heap_other (by omega), fun b o ho hn => by
   rw [World.putObj_heap_other fun e => by subst e; rw [h3] at ho; cases ho; exact hn _ rfl]
   exact ho⟩
  refine ⟨by simp, .inl ⟨D, _, by rw [h1], run_takeDeferred h3, an2 ds ⟨(List.nodup_cons.1 hd.1).2, fun d' hd' => ?_⟩ fun w' hw' => k w' (hK.trans hw')⟩⟩
  obtain ⟨D', k1, k2, k3⟩ := hd.2 d' (by simp [hd'])
  refine ⟨D', k1, k2, ?_⟩
  rw [World.putObj_heap_other fun e => ?_]
  ·exact k3
  ·subst e
   exact (List.nodup_cons.1 hd.1).1 (by rw [h1, ← k1]; exact hd')
theorem bp7 {f : FuncId} {fn : Func} {c : Code} {args : Array Value} {w : World} {R : Ending → World → Prop} (n : Nat) (hf : P.funcs[f]? = some fn) (hb : fn.body = some c) (hn : n = args.size + (fn.ntmps - args.size))
  (h : ∀ a : Act, a.tmps.size = n → a.defers = [] → (∀ (i : Nat) (v : Value), args[i]? = some v → a.tmps[i]? = some v) → c.wpIn (rf none) 0 P (fun e a' w' => (e = .normal ∨ e = .ret) ∧ cc0 w.heap.size a'.defers w' ∧ ∃ y, (∀ w2, (results fn a'.tmps).run P w2 = .ok y w2) ∧ ∀ w2, MarkK w.heap.size w' w2 → R (.returned y) w2) a w) : Calls P f args w R := by
 refine callsIn_wide (n := 0) |>.1 (callsIn_of_wp_marks hf hb trivial (wpIn_mono (h { tmps := args ++ Array.replicate (fn.ntmps - args.size) undef, defers := [] } (by simp [hn]) rfl fun i v hv => ?_) fun e a' w' ⟨he, hd, y, h1, h2⟩ => ?_) rfl)
 ·rw [Array.getElem?_append_left (by have := (Array.getElem?_eq_some_iff.1 hv).1; exact this)]
  exact hv
 ·have hL : LeavesInM Fence.wide 0 P fn a'.tmps R a'.defers .returning w' := an2 _ hd fun w2 hw2 => ⟨y, h1 w2, h2 w2 hw2⟩
  rcases he with rfl | rfl <;> exact hL
end
theorem Keep.mark {m hi : Nat} {w w1 w2 : World} (h : Keep m hi w w1) (k : MarkK w.heap.size w1 w2) : Keep m hi w w2 :=
 ⟨k.os.trans h.os, k.tape.trans h.tape, k.output.trans h.output, by rw [k.size]; exact h.size, fun b hb hn => (k.low b hb).trans (h.block b hb hn), fun b o ho hn => (k.low b (y8 ho)).trans (h.other b o ho hn), fun b c E hb => by
  obtain ⟨c', hc⟩ := h.ty b c E hb
  exact ⟨c', (k.low b (y8 hb)).trans hc⟩⟩
section
variable {P : Program}
theorem TriR.run {X : Ctx} {C : Cfg} {st : St} {a : Act} {w : World} {c : Code} {R : Exit → Act → World → Prop} (hs : SatC P X C st a w) (h : TriR P X c st R) : c.wpIn (rf X.ro) 0 P R a w := h C a w hs
theorem SatC.ptr_val {X : Ctx} {C : Cfg} {st : St} {a : Act} {w : World} (h : SatC P X C st a w) {i l b : Nat} {T : TypeId} {R : Root} (hi : get st.env i = some (.ptr l [] T)) (hρ : C.ρ l = some (b, R)) (hR : T8 P R [] = some (T, 0)) : a.tmps[i]? = some (.pointer (some ⟨b, 0, none⟩)) := by
 obtain ⟨x, h1, h2⟩ := h.env i _ hi
 rw [h1]
 cases h2 with
 | one hv hsa =>
  generalize hz : x.cells.toList = z at hv
  cases hv with
  | ptr hl hsub =>
   rw [hρ] at hl
   simp only [Option.some.injEq, Prod.mk.injEq] at hl
   obtain ⟨rfl, rfl⟩ := hl
   rw [hR] at hsub
   simp only [Option.some.injEq, Prod.mk.injEq] at hsub
   obtain ⟨_, rfl⟩ := hsub
   have hsa' : j1 x = false := hsa
   cases x <;> simp_all [Value.cells, j1]
theorem SatC.leaf_val {X : Ctx} {C : Cfg} {st : St} {a : Act} {w : World} (h : SatC P X C st a w) {i : Nat} {v : Value} (hi : get st.env i = some (.pu (.leaf v))) : a.tmps[i]? = some v := by
 obtain ⟨x, h1, h2⟩ := h.env i _ hi
 rw [h1]
 cases h2 with
 | one hv hsa =>
  have h3 := hv.pu_inv
  generalize hz : x.cells.toList = z at h3
  cases h3 with
  | leaf hf =>
   have hsa' : j1 x = false := hsa
   cases x <;> simp_all [Value.cells, j1]
theorem SatC.obj_cells {X : Ctx} {C : Cfg} {st : St} {a : Act} {w : World} (h : SatC P X C st a w) {l : Nat} {T : TypeId} {p : Pu} (hl : get st.heap l = some (.var T (.pu p))) : ∃ b c E, C.ρ l = some (b, .var T) ∧ (l ∈ X.R ∨ X.w0.heap.size ≤ b ∨ X.M b) ∧ w.heap[b]? = some (.cells c E (0, 0)) ∧ PR P C.D w p c.toList ∧ c.size = P.cellsOf T := by
 obtain ⟨b, h1, h2, c, E, h3, h4, _, h5⟩ := h.heap l _ hl
 exact ⟨b, c, E, h1, h2, h3, h4.pu_inv, h5⟩
end
section
variable {P : Program}
theorem Tri.toR {w0 : World} {n : Nat} {M : Nat → Prop} {G : List (Nat × TypeId × Pu)} {L R : List Nat} {ρ0 : Nat → Option (Nat × Root)} {D0 : Nat → Nat → Prop} {st : St} {c : Code} {Q : Exit → St → Prop} (ks : List Nat) (hks : j4 st.heap = ks) (hp : ae5 st = true) (hne : ks ≠ [])
  (h : ∀ C a w M1, SatC P ⟨w0, n, M, G, L, R, ρ0, D0, none⟩ C st a w → 0 < w.heap.size → (M1 = fun b => ∃ d ∈ a.defers, d = { target := .collected b, args := #[] }) →
   TriR P ⟨w, n, M1, G, ks, ks, C.ρ, C.D, none⟩ c st (fun e a' w' => ∃ st' C', Q e st' ∧ SatC P ⟨w0, n, M, G, L, R, ρ0, D0, none⟩ C' st' a' w')) : Tri P ⟨w0, n, M, G, L, R, ρ0, D0, none⟩ c st Q := fun C a w hs => by
 subst hks
 have h5 := hs.restart hp
 have hpos : 0 < w.heap.size := by
  cases hh : st.heap with
  | nil => exact (hne (by rw [hh]; rfl)).elim
  | cons x r =>
   obtain ⟨l, ob⟩ := x
   obtain ⟨b, _, _, h3⟩ := hs.heap l ob (by rw [hh]; simp [get])
   exact Nat.lt_of_le_of_lt (Nat.zero_le _) h3.lt
 exact h C a w _ hs hpos rfl C.bare a w h5
theorem SatC.met {X : Ctx} {C C5 : Cfg} {st s : St} {a a5 : Act} {w w5 : World} {n : Nat} {G : List (Nat × TypeId × Pu)} {L R : List Nat} {ρ1 : Nat → Option (Nat × Root)} {D1 : Nat → Nat → Prop} {M1 : Nat → Prop} (h : SatC P X C st a w) (hM : M1 = fun b => ∃ d ∈ a.defers, d = { target := .collected b, args := #[] })
  (h5 : SatC P ⟨w, n, M1, G, L, R, ρ1, D1, none⟩ C5 s a5 w5) {b : Nat} {c : Array Value} {E : TypeId} {f : Nat × Nat} (hb : w.heap[b]? = some (.cells c E f)) : w5.heap[b]? = some (.cells c E f) := by
 refine (h5.framed.block b (y8 hb) fun hm => ?_).trans hb
 rw [hM] at hm
 obtain ⟨d, hd, e⟩ := hm
 obtain ⟨D, h1, _, h3, _⟩ := h.defers.2 d hd
 rw [h1] at e
 simp at e
 subst e
 rw [hb] at h3
 cases h3
theorem After.grew {C C' : Cfg} {w w' : World} {v : PV} {y : Value} {news : List Nat} {H' : List (Nat × Ob)} (h : After P C w [] news C' w' H' v y) : Grew w w' := ⟨h.os, h.tape, h.output, h.size, fun b hb => h.block b hb Z8⟩
theorem Tri.at {X : Ctx} {C : Cfg} {st : St} {a : Act} {w : World} {c : Code} {Q : Exit → St → Prop} (hs : SatC P X C st a w) (h : Tri P X c st Q) : c.wpIn (rf X.ro) 0 P (fun e a' w' => ∃ st' C', Q e st' ∧ SatC P X C' st' a' w') a w := h C a w hs
end
end
section
variable {P : Program}
theorem PR.sl_val {D : Nat → Nat → Prop} {w : World} {lo : Nat} {E : TypeId} {ps : List Pu} {x : Value} (h : PR P D w (.sl lo E ps) [x]) : ∃ a cap, x = .slice a ps.length cap ∧ (a = none → ps = []) := by
 generalize hz : ([x] : List Value) = z at h
 cases h with
 | sl0 => simp at hz; exact ⟨_, _, hz, fun _ => rfl⟩
 | sl hn hcap h hx hlo => simp at hz; exact ⟨_, _, hz, fun e => by cases e⟩
def aW2 (P : Program) (T : TypeId) : Bool := match P.underlying T with
 | some (.slice _) => true
 | _ => false
theorem aW1 {T : TypeId} (h : aW2 P T = true) : ∃ E, P.underlying T = some (.slice E) := by
 unfold aW2 at h
 split at h
 ·exact ⟨_, by assumption⟩
 ·cases h
theorem Tri.nilEq {X : Ctx} (hro : X.ro = none) {st : St} {Q : Exit → St → Prop} {id s d1 d2 lo : Nat} {T E r ty1 ty2 : TypeId} {pos1 pos2 : String} {af1 af2 : Array Edge} {ps : List Pu} (h : ∀ b, (b = true → ps = []) → Q .normal ⟨(d2, bv b) :: (d1, .pu (.sl lo E ps)) :: st.env, st.heap⟩)
  (hs : get st.env s = some (.pu (.sl lo E ps)) := by rfl) (hu0 : aW2 P T = true := by kernel_rfl) (h1 : lb d1 X.n = true := by rfl) (h2 : lb d2 X.n = true := by rfl) :
  Tri P X (.region id #[⟨some d1, .move (.tmp s), ty1, pos1, af1, none⟩, ⟨some d2, .binOp .eql T (.tmp d1) (.const (.slice none 0 0)) r, ty2, pos2, af2, none⟩] false) st Q := fun C a w hs0 => by
 rw [hro]
 obtain ⟨E', hu⟩ := aW1 hu0
 obtain ⟨x, hx, hv⟩ := hs0.env s _ hs
 have hp := aU2 hv
 obtain ⟨ad, cap, rfl, hnil⟩ := hp.sl_val
 have hv1 : VT P C w d1 (.pu (.sl lo E ps)) (.slice ad ps.length cap) := .one (.pu hp) rfl
 have hd1 := G9 h1
 have hd2 := G9 h2
 refine wpIn_region_list (wpListIn_plain rfl fun K' hK => D2 rfl ?_)
 unfold Oper.wp
 have e1 : a.eval (.tmp s) = .slice ad ps.length cap := by simp [Act.eval, Array.getD_eq_getD_getElem?, hx]
 rw [show (execOp a.eval ⟨some d1, .move (.tmp s), ty1, pos1, af1, none⟩).run P w = .ok (.value (.slice ad ps.length cap)) w by simp [execOp, e1], Oper.upon_value];refine hK _ _ (wpListIn_plain rfl fun K2 hK2 => D2 rfl ?_)
 unfold Oper.wp
 have e2 : (a.put (some d1) (.slice ad ps.length cap)).eval (.tmp d1) = .slice ad ps.length cap := by
  simp [Act.eval, Act.put, Array.getD_eq_getD_getElem?, hs0.size, hd1]
 have e3 : (execOp (a.put (some d1) (.slice ad ps.length cap)).eval ⟨some d2, .binOp .eql T (.tmp d1) (.const (.slice none 0 0)) r, ty2, pos2, af2, none⟩).run P w = .ok (.value (.bool ad.isNone)) w := by
  simp only [execOp, e2]
  simp only [Act.eval]
  have hg : (eqGuard .eql T (.tmp d1) (.const (.slice none 0 0)) (.slice ad ps.length cap) (.slice none 0 0)).run P w = .ok () w := by
   simp [eqGuard]
  have hb : (binOp .eql T (.slice ad ps.length cap) (.slice none 0 0)).run P w = .ok (.bool ad.isNone) w := by
   have key : ∀ d, (Op.equalIn (d + 1) T (.slice ad ps.length cap) (.slice none 0 0)).run P w = .ok ad.isNone w := fun d => by
    cases ad <;> simp [Op.equalIn, run_underlying hu]
   have := key 9999
   simp only [binOp, Op.equal, Op.maxDepth, Sem.run_bind]
   rw [this]
   rfl
  simp only [Sem.run_bind, hg, Result.andThen_ok, hb]
  rfl
 rw [e3, Oper.upon_value];refine hK2 _ _ (wpListIn_nil ⟨_, C, h ad.isNone (fun e => hnil (by simpa using e)), ?_⟩);exact (hs0.put hd1 hv1).put hd2 ((show VW P C w (bv ad.isNone) (.bool ad.isNone) from VW.bv_mk).vt d2)
structure Owned (P : Program) (C' : Cfg) (w w' : World) (lo : Nat) (E : TypeId) (ps : List Pu) (y : Value) : Prop where
 ex : (∃ ad, y = .slice ad ps.length ps.length) ∨ ∃ b cap c, y = .slice (some ⟨b, 0, none⟩) ps.length cap ∧ w.heap.size ≤ b ∧ w'.heap[b]? = some (.cells c E (0, 0)) ∧ c.size = cap * P.cellsOf E ∧ lo ≤ b ∧ ∀ o, C'.D b o → o < ps.length * P.cellsOf E
def OCall (P : Program) (G : List (Nat × TypeId × Pu)) (f : FuncId) (args : List PV) (lo : Nat) (E : TypeId) (ps : List Pu) : Prop :=
 ∀ C w (xs : Array Value), Frag P G C w [] [] → VFs P C w args xs.toList → Calls P f xs w fun e w' => ∃ y C', e = .returned y ∧ After P C w [] [] C' w' [] (.pu (.sl lo E ps)) y ∧ Owned P C' w w' lo E ps y
theorem OCall.of_tri {G : List (Nat × TypeId × Pu)} {f : FuncId} {fn : Func} {c : Code} (n : Nat) (rv : Nat) (hf : P.funcs[f]? = some fn) (hb : fn.body = some c) (hr : fn.results = #[.tmp rv]) {args : List PV} {lo : Nat} {E : TypeId} {ps : List Pu}
  (hn : n = args.length + (fn.ntmps - args.length)) (h : ∀ w0 M ρ0 D0, Tri P ⟨w0, n, M, G, [], [], ρ0, D0, none⟩ c ⟨T5 0 args, []⟩ fun e st => (e = .normal ∨ e = .ret) ∧ (get st.env rv = some (.ow lo E ps) ∨ get st.env rv = some .nilc ∧ ps = [])) : OCall P G f args lo E ps := fun C w xs F hxs => by
 have hlen : xs.size = args.length := by rw [hxs.length]; simp
 obtain ⟨C0, hsat⟩ : ∃ C0, SatC P ⟨w, n, M5 C [], G, [], [], C.ρ, C.D, none⟩ C0 ⟨T5 0 args, []⟩ { tmps := xs ++ Array.replicate (fn.ntmps - xs.size) undef, defers := [] } w := by
  refine F.sat rfl rfl rfl rfl rfl rfl (fun l ob hl => by cases hl) (by simp [hn, hlen]) rfl fun i u hu => ?_
  obtain ⟨_, h2⟩ := aw9 hu
  simp only [Nat.sub_zero] at h2
  obtain ⟨x, h3, h4, h5⟩ := hxs.at i u h2
  refine ⟨x, ?_, h4, h5⟩
  have hi : i < xs.size := by
   rw [hlen];exact (List.getElem?_eq_some_iff.1 h2).1
  rw [Array.getElem?_append_left hi, ← Array.getElem?_toList];exact h3
 refine callsIn_wide (n := 0) |>.1 (callsIn_of_wp_marks hf hb trivial (wpIn_mono (h w (M5 C []) C.ρ C.D C0 _ w hsat) fun e a' w' ⟨st', C1, ⟨he, hq⟩, hs1⟩ => ?_) rfl)
 suffices hS : ∀ w', SatC P ⟨w, n, M5 C [], G, [], [], C.ρ, C.D, none⟩ C1 st' { a' with defers := [] } w' → ∃ y, (results fn a'.tmps).run P w' = .ok y w' ∧ ∃ y' C', Ending.returned y = .returned y' ∧ After P C w [] [] C' w' [] (.pu (.sl lo E ps)) y' ∧ Owned P C' w w' lo E ps y' by
  have hL := af3 (R := fun e w' => ∃ y C', e = .returned y ∧ After P C w [] [] C' w' [] (.pu (.sl lo E ps)) y ∧ Owned P C' w w' lo E ps y) _ rfl hs1 hS
  rcases he with rfl | rfl <;> exact hL
 intro w' hs
 obtain ⟨x, hx, hp, ho⟩ : ∃ x, a'.tmps[rv]? = some x ∧ PR P C1.D w' (.sl lo E ps) [x] ∧ ((∃ ad, x = .slice ad ps.length ps.length) ∨ ∃ b cap c, x = .slice (some ⟨b, 0, none⟩) ps.length cap ∧ w.heap.size ≤ b ∧ w'.heap[b]? = some (.cells c E (0, 0)) ∧ c.size = cap * P.cellsOf E ∧ lo ≤ b ∧ ∀ o, C1.D b o → o < ps.length * P.cellsOf E) := by
  rcases hq with hq | ⟨hq, rfl⟩
  ·obtain ⟨x, hx, hv⟩ := hs.env rv _ hq
   have hv' : VR P C1 w' (some (.slot rv)) (.ow lo E ps) [x] := by
    cases hv with
    | one hv h2 =>
     generalize hz : x.cells.toList = z at hv
     have : ∃ s, z = [s] := by cases hv <;> exact ⟨_, rfl⟩
     obtain ⟨s, rfl⟩ := this
     have : x = s := by cases x <;> simp_all [Value.cells, j1, PV.isAgg]
     rw [this];exact hv
   refine ⟨x, hx, ?_⟩
   rcases aJ9 hv' with ⟨ad, rfl, hp⟩ | ⟨b, cap, c, rfl, hp, hb, hc, hsz, hl⟩
   ·exact ⟨hp, .inl ⟨_, rfl⟩⟩
   ·obtain ⟨k1, _, k3, _⟩ := hs.own b _ _ hb
    exact ⟨hp, .inr ⟨b, cap, c, rfl, k1.resolve_right Z8, hc, hsz, hl, k3⟩⟩
  ·obtain ⟨x, hx, hv⟩ := hs.env rv _ hq
   have : x = .slice none 0 0 := by
    cases hv with
    | one hv h2 =>
     generalize hz : x.cells.toList = z at hv
     cases hv
     cases x <;> simp_all [Value.cells, j1, PV.isAgg]
   subst this;exact ⟨_, hx, .sl0, .inl ⟨none, rfl⟩⟩
 refine ⟨x, ?_, x, { D := C1.D, ρ := C.ρ, own := open Classical in fun b => if b < w.heap.size then C.own b else none }, rfl, ?_, ⟨ho⟩⟩
 ·simp only [results, hr]
  simp [hx]
 ·refine ⟨hs.framed.os, hs.framed.tape, hs.framed.output, hs.framed.size, fun b hb hM => hs.framed.block b hb hM, hs.framed.ty, fun b o hD => hs.keep b o hD, fun _ _ => rfl, fun b o hD => hs.kin.dOld b o hD, fun b o hD => hs.kin.dNew b o hD, hs.dLt, fun b h1 _ => by simp only [if_pos h1], fun b q k hb => ?_,
   fun l ob hl => (by cases hl), fun l l' b R R' ob ob' hl => (by cases hl), fun l ob b R o hl => (by cases hl), fun l ob hl => (by cases hl), .one (.pu ?_) ?_⟩
  ·simp only at hb
   split at hb
   ·rename_i h1
    exact .inl ⟨h1, Z8⟩
   ·cases hb
  ·rcases ho with ⟨ad, rfl⟩ | ⟨b, cap, c, rfl, _⟩ <;> exact hp
  ·rcases ho with ⟨ad, rfl⟩ | ⟨b, cap, c, rfl, _⟩ <;> rfl
theorem bo5 {X : Ctx} {C : Cfg} {st : St} {o : Oper} {a : Act} {w : World} (h : SatC P X C st a w) {fo : Operand} {as : Array Operand} {ts : Array TypeId} {f : FuncId} {raw args : List PV} {vf : PV} {lo : Nat} {E : TypeId} {ps : List Pu} {d : Nat}
  (hop : o.op = .call ⟨.value fo, as, ts⟩) (hfo : d6 X.G st.env fo = some vf) (hfv : fnV (strip vf) = some (f, [], [])) (he : n9 P f = true) (hraw : evalL X.G st.env as.toList = some raw) (hnt : (raw.map strip).any m3 = false)
  (himp : VImps P (raw.map strip) args) (hnt' : args.any m3 = false) (hc : OCall P X.G f args lo E ps) (hd : o.dst = some d) (hdn : d < X.n) : Exec P X C st o a w { v := .ow lo E ps } := by
 intro K Q hK
 obtain ⟨xs, ys, e1, e2, e3⟩ := aW7 (h.eval hfo) hfv
 have har := (h.evalL hraw).vfs (O7 hnt)
 have hvf : VFs P C w args (xs.toList ++ as.toList.map a.eval ++ ys.toList) := (VFs.append (VFs.append e2 har) e3).imp (by simpa using himp) (O7 hnt')
 have hcall := hc C w (xs ++ as.map a.eval ++ ys) h.frag0 (by simpa using hvf)
 unfold Oper.wp
 have hrun : (execOp a.eval o).run P w = .ok (.enter f (xs ++ as.map a.eval ++ ys)) w := by
  obtain ⟨dst, op, type, pos, after, guard⟩ := o
  simp only at hop
  subst hop
  simp [execOp, resolve, e1, Deferred.ofValue, invoke, P3 he]
 rw [hrun, Oper.upon_enter]
 refine hcall.mono fun e w' ⟨y, C', hy, A, O⟩ => ?_
 subst hy
 have hg := A.grew
 have hown : ∀ b q k, C.own b = some (q, k) → b < w.heap.size := fun b q k hb => (h.own b q k hb).2.1
 rcases O.ex with ⟨ad, rfl⟩ | ⟨b, cap, c, rfl, k1, k2, k3, k4, k5⟩
 ·have cg : CGrew C { D := C'.D, ρ := C.ρ, own := C.own } w w' := ⟨A.D, fun b o hD => (A.dNew b o hD).elim .inl fun hd => hd.elim (fun hd => .inr ⟨hd, A.dLt b o hD⟩) fun hm => (Z8 hm).elim, rfl, fun _ _ => rfl, fun b q k hb hge => absurd (hown b q k hb) (Nat.not_lt.2 hge)⟩
  have hs := h.grew hg cg
  refine hK { D := C'.D, ρ := C.ρ, own := C.own } (.slice ad ps.length ps.length) w' ?_ (h.tr_grew (C' := { D := C'.D, ρ := C.ρ, own := C.own }) hg rfl _) (fun L d hL => by simp at hL);rw [hd]
  have hv : VT P { D := C'.D, ρ := C.ρ, own := C.own } w' d (.ow lo E ps) (.slice ad ps.length ps.length) := .one (.owx ?_) rfl
  ·exact hs.put hdn hv
  cases A.val with
  | one hv _ =>
   generalize hz : (Value.slice ad ps.length ps.length).cells.toList = z at hv
   cases hv with
   | pu hv => subst hz; exact hv
 ·have hb' : b < w'.heap.size := y8 k2
  have cg : CGrew C { D := C'.D, ρ := C.ρ, own := open Classical in fun b' => if b' = b then some (.slot d, ps.length * P.cellsOf E) else C.own b' } w w' := by
   refine ⟨A.D, fun b o hD => (A.dNew b o hD).elim .inl fun hd => hd.elim (fun hd => .inr ⟨hd, A.dLt b o hD⟩) fun hm => (Z8 hm).elim, rfl, fun b' hlt => ?_, fun b' q k hb hge => ?_⟩
   ·simp only
    rw [if_neg (by omega)]
   ·simp only at hb
    split at hb
    ·rename_i e
     subst e
     simp at hb
     obtain ⟨rfl, rfl⟩ := hb
     exact ⟨hb', k5⟩
    ·exact absurd (hown b' q k hb) (Nat.not_lt.2 hge)
  have hs := h.grew hg cg
  refine hK { D := C'.D, ρ := C.ρ, own := open Classical in fun b' => if b' = b then some (.slot d, ps.length * P.cellsOf E) else C.own b' } (.slice (some ⟨b, 0, none⟩) ps.length cap) w' ?_ (h.tr_grew (C' := { D := C'.D, ρ := C.ρ, own := open Classical in fun b' => if b' = b then some (.slot d, ps.length * P.cellsOf E) else C.own b' }) hg rfl _) (fun L d hL => by simp at hL);rw [hd]
  have hv : VT P { D := C'.D, ρ := C.ρ, own := open Classical in fun b' => if b' = b then some (.slot d, ps.length * P.cellsOf E) else C.own b' } w' d (.ow lo E ps) (.slice (some ⟨b, 0, none⟩) ps.length cap) := .one (.ow (c := c) ?_ (if_pos rfl) k2 k3 k4) rfl
  ·exact hs.put hdn hv
  cases A.val with
  | one hv _ =>
   generalize hz : (Value.slice (some ⟨b, 0, none⟩) ps.length cap).cells.toList = z at hv
   cases hv with
   | pu hv => subst hz; exact hv
section
variable {X : Ctx} {ops : Array Oper} {env : List (Nat × PV)} {heap : List (Nat × Ob)} {dr : Bool} {s0 : St} {K : St → Prop} {dn : List Item} {rest : List Oper} {d : Nat} {ty : TypeId} {pos : String} {after : Array Edge}
theorem bT6 {fo : Operand} {as : Array Operand} {ts : Array TypeId} {f : FuncId} {vf r : PV} {vs args : List PV} {lo : Nat} {E : TypeId} {ps : List Pu} (hc : OCall P X.G f args lo E ps)
  (c : WalkR P X ops dr s0 K (dn ++ [⟨⟨some d, .call ⟨.value fo, as, ts⟩, ty, pos, after, none⟩, { v := .ow lo E ps }, { reads := f0 (fo :: as.toList), labs := [] }⟩]) ⟨(d, .ow lo E ps) :: env, heap⟩ rest)
  (hfo : d6 X.G env fo = some r := by rfl) (hs : Str r vf := by repeat constructor) (hfv : fnV vf = some (f, [], []) := by rfl)
  (h : EvL X env true as.toList vs := by repeat (first | exact EvL.nil | (apply EvL.cons; (first | (focus (apply Ev.mk; exact rfl; (repeat constructor); done))))))
  (himp : VImps P vs args := by repeat (first | exact VImps.nil | (apply VImps.cons; first | exact VImp.refl _ | exact LowI.imp | (focus (apply c7; apply b7 <;> omega)) | (focus (apply ToPu.imp; (repeat constructor); done)))))
  (he : n9 P f = true := by kernel_rfl) (hn : vs.any m3 = false := by rfl) (hn' : args.any m3 = false := by rfl) (hd : lb d X.n = true := by rfl) :
  WalkR P X ops dr s0 K dn ⟨env, heap⟩ (⟨some d, .call ⟨.value fo, as, ts⟩, ty, pos, after, none⟩ :: rest) := by
 obtain ⟨raw, h1, h2⟩ := h.raw rfl
 refine WalkR.cons ⟨fun l h => by simp [PV.labs] at h, fun L h => by simp at h, fun st' ha _ C a w hs' _ => ?_⟩ c
 have hfo' : d6 X.G st'.env fo = some r := by
  rw [d9 (env := env) fun t e => ha.env t (j2 (by rw [e]; simp))];exact hfo
 have hr : evalL X.G st'.env as.toList = some raw := by
  rw [A3 (env := env) fun t ht => ha.env t (by
   unfold f0 at *
   rw [List.filterMap_cons]
   split
   ·exact ht
   ·exact List.mem_cons_of_mem _ ht)]
  exact h1
 exact .of ((Guard.none rfl).wanted hs') (bo5 hs' rfl hfo' (by rw [hs.eq]; exact hfv) he hr (by rw [h2]; exact hn) (by rw [h2]; exact himp) hn' hc rfl (G9 hd))
theorem cd9 {s : Nat} {y : Operand} {tt E : TypeId} {B lo : Nat} {v : PV} {ps ys : List Pu} [hE : El P tt E B] (hfit : (ps.length + ys.length) * B ≤ 70368744177664)
  (t : WalkR P X ops dr s0 K (dn ++ [⟨⟨some d, .call ⟨.builtin .append, #[.tmp s, y], #[tt, tt]⟩, ty, pos, after, none⟩, { v := .ow lo E (ps ++ ys), env := [(s, .pu (.sl lo E ps))] }, { reads := s :: f0 [y] }⟩]) ⟨(d, .ow lo E (ps ++ ys)) :: (s, .pu (.sl lo E ps)) :: env, heap⟩ rest)
  (hs : get env s = some (.ow lo E ps) := by rfl) (hy : d6 X.G env y = some v := by rfl) (hv : Elems E v ys := by repeat constructor) (hd : lb d X.n = true := by rfl) (hlo : lo ≤ X.w0.heap.size := by first | exact Nat.zero_le _ | exact Nat.le_refl _) :
  WalkR P X ops dr s0 K dn ⟨env, heap⟩ (⟨some d, .call ⟨.builtin .append, #[.tmp s, y], #[tt, tt]⟩, ty, pos, after, none⟩ :: rest) := by
 refine WalkR.cons ⟨fun l h => by simp [PV.labs] at h, fun L h => by simp at h, fun st' ha _ C a w hs' _ => ?_⟩ t
 have hy' : d6 X.G st'.env y = some v := by
  rw [d9 (env := env) fun t e => ha.env t (by rw [e]; simp [f0])];exact hy
 have hs1 : get st'.env s = some (.ow lo E ps) := (ha.env s (by simp)).trans hs
 obtain ⟨x, hx, _⟩ := hs'.env s _ hs1
 exact .of ((Guard.none rfl).wanted hs') (ac9 hs' rfl hE.spec.1 hs1 ⟨x, hx, hx⟩ hy' hv.eq rfl (G9 hd) (by rw [hE.spec.2]; exact hfit) hlo)
end
end
section
section
variable {P : Program} {X : Ctx} {ops : Array Oper} {dr : Bool} {s0 : St} {K : St → Prop} {dn : List Item} {rest : List Oper} {d : Nat} {ty : TypeId} {pos : String} {after : Array Edge} {env : List (Nat × PV)} {heap : List (Nat × Ob)}
end
end
section
variable {P : Program} {lo : Nat}
def ch2 (P : Program) (C : Cfg) (w : World) (E : TypeId) (sv : Value) (m k : Nat) (ps : List Pu) : Prop :=
 ∃ a1 c1 xc, sv = .slice a1 m c1 ∧ PRs P C.D w (List.replicate k (P.cellsOf E, E)) ps xc ∧ (Builtin.firstCells (P.cellsOf E) k (.slice a1 m c1)).run P w = .ok xc.toArray w
theorem aA7 (hT : k9 P = true) {X : Ctx} {C : Cfg} {st : St} {o : Oper} {a : Act} {w : World} (h : SatC P X C st a w) {t t' E : TypeId} [hS : Sl P t E] (hlE : E < P.types.size) {x y : Operand} {l off n m k : Nat} {qs ps : List Pu} (hop : o.op = .call ⟨.builtin .copy, #[x, y], #[t, t']⟩) (hd : B6 X.n o.dst = true)
  (hx : d6 X.G st.env x = some (.arr l E off n)) (hl : get st.heap l = some (.row E (qs.map .pu))) (hR : l ∉ X.R) (hin : off + n ≤ qs.length) (hk : k = Nat.min m n) (hsrc : ch2 P C w E (a.eval y) m k ps) :
  Exec P X C st o a w { v := iv .i64 k, heap := [(l, .row E ((qs.take off ++ ps ++ qs.drop (off + k)).map .pu))] } := by
 obtain ⟨b, cap, ex, hρ, hcap⟩ := ad1 (h.eval hx)
 obtain ⟨a1, c1, xc, ey, x1, x3⟩ := hsrc
 obtain ⟨b', e1, _, hor⟩ := h.heap l _ hl
 have hb : b' = b := by rw [e1] at hρ; simp at hρ; exact hρ.1
 subst hb
 obtain ⟨c, yc, zc, g1, g2, g3⟩ := hor
 rw [List.length_map] at g3
 have g4 := g3.toP
 have hkn : k ≤ n := by rw [hk]; exact Nat.min_le_right _ _
 have hyl : yc.length = qs.length * P.cellsOf E := by
  have := g4.length.1
  rw [this]
  simp
 have x2 : xc.length = k * P.cellsOf E := by
  have := x1.length.1
  rw [this]
  simp
 have hps : ps.length = k := by
  have := x1.length.2
  rw [this]
  simp
 have hb1 : (off + k) * P.cellsOf E ≤ qs.length * P.cellsOf E := Nat.mul_le_mul_right _ (by omega)
 rw [Nat.add_mul] at hb1
 have hone : ∀ u ∈ xc, u.oneCell' = true := PRs.one x1
 have hst := run_storeCells_at P b' (off * P.cellsOf E) E xc 0 c w g1 (by
  rw [x2, ← Array.length_toList, g2, List.length_append, hyl]
  omega) hone
 let nw : List Value := yc.take (off * P.cellsOf E) ++ xc ++ yc.drop ((off + k) * P.cellsOf E)
 let c' : Array Value := (nw ++ zc).toArray
 have hc' : (c.toList.take (off * P.cellsOf E + 0) ++ xc ++ c.toList.drop (off * P.cellsOf E + 0 + xc.length)).toArray = c' := by
  simp only [c', nw]
  congr 1
  rw [g2, Nat.add_zero, x2, ← Nat.add_mul, List.take_append_of_le_length (by omega), List.drop_append_of_le_length (by rw [Nat.add_mul]; omega)]
  simp
 rw [hc'] at hst
 have hnew : PRs P C.D w (List.replicate (qs.take off ++ ps ++ qs.drop (off + k)).length (P.cellsOf E, E)) (qs.take off ++ ps ++ qs.drop (off + k)) nw := by
  have p1 := (g4.parts (l := off) (by omega)).1
  have p2 := (g4.parts (l := off + k) (by omega)).2
  have := (p1.append x1).append p2
  rw [List.replicate_append_replicate, List.replicate_append_replicate] at this
  have e : (qs.take off ++ ps ++ qs.drop (off + k)).length = off + k + (qs.length - (off + k)) := by
   simp only [List.length_append, List.length_take, List.length_drop, hps]
   omega
  rw [e];exact this
 generalize hnq : qs.take off ++ ps ++ qs.drop (off + k) = nq at hnew ⊢
 have gbut := Q2 w b' c'
 have st1 := h.staysBut hl e1 gbut
 have hsat : SatC P X C ⟨st.env, (l, .row E (nq.map .pu)) :: st.heap⟩ a (w.setRow b' c') := by
  refine h.write (ob' := .row E (nq.map .pu)) hl hR e1 rfl gbut st.env rfl rfl (fun _ q _ hq => ⟨q, hq⟩) (fun i u hu => ?_) (fun l' ob1 _ _ => st1 _ _) ⟨c', nw, zc, setRow_heap w b' c c' E (0, 0) g1, by simp [c'], ?_⟩ (st1 _ _)
  ·obtain ⟨q, h1, h2⟩ := h.env i u hu
   exact ⟨q, h1, h2.mono (st1 _ _)⟩
  ·rw [List.length_map]
   exact PRs.toV 0 (PRs.mono (st1 [] (fun _ => False)).D gbut.ty hnew)
 have hd2 : ∀ q : Value, VW P C (w.setRow b' c') (iv .i64 k) q → SatC P X C (st.upd o.dst { v := iv .i64 k, heap := [(l, .row E (nq.map .pu))] }) (a.put o.dst q) (w.setRow b' c') := fun q hq => by
  cases hdst : o.dst with
  | none => exact hsat
  | some d => exact hsat.put (u9 hd d hdst) (hq.vt d)
 refine o7 (y := .int .i64 k) (w' := w.setRow b' c') (C' := C) ?_ (hd2 _ VW.iv_mk) (aG5 (ob' := .row E (nq.map .pu)) h hl rfl (fun b R hbR => ?_) _ rfl) (fun L d hL => by simp at hL)
 ·obtain ⟨dst, op, type, pos, after, guard⟩ := o
  simp only at hop
  subst hop
  have hmin : Nat.min m n = k := hk.symm
  simp [execOp, resolve, invoke, builtin, ex, ey, Builtin.copy_, run_underlying hS.spec.2, Builtin.lenOf, hmin, z0 hT hlE, x3, hst, goInt]
 ·rw [e1] at hbR
  simp at hbR
  rw [← hbR.1];exact gbut
theorem bz7 {X : Ctx} {C : Cfg} {st : St} {a : Act} {w : World} (h : SatC P X C st a w) {E : TypeId} {y : Operand} {v : PV} {ps : List Pu} (hy : d6 X.G st.env y = some v) (hv : K9 E (strip v) = some ps) : ch2 P C w E (a.eval y) ps.length ps.length ps := by
 obtain ⟨a1, n1, c1, ey, p1⟩ := Q7 (h.eval hy) hv
 have hn1 : n1 = ps.length := p1.cells.1
 subst hn1
 obtain ⟨xc, x1, _, x3⟩ := ai1 p1
 exact ⟨a1, c1, xc, ey, x1, x3⟩
theorem bH6 {X : Ctx} {C : Cfg} {st : St} {a : Act} {w : World} (h : SatC P X C st a w) {E : TypeId} {y : Operand} {l off n k : Nat} {qs : List Pu} (hy : d6 X.G st.env y = some (.arr l E off n)) (hl : get st.heap l = some (.row E (qs.map .pu))) (hin : off + n ≤ qs.length) (hk : k ≤ n) : ch2 P C w E (a.eval y) n k ((qs.drop off).take k) := by
 obtain ⟨b, cap, ex, hρ, hcap⟩ := ad1 (h.eval hy)
 obtain ⟨b', e1, _, hor⟩ := h.heap l _ hl
 have hb : b' = b := by rw [e1] at hρ; simp at hρ; exact hρ.1
 subst hb
 obtain ⟨c, yc, zc, g1, g2, g3⟩ := hor
 rw [List.length_map] at g3
 have g4 := g3.toP
 have hyl : yc.length = qs.length * P.cellsOf E := by
  have := g4.length.1
  rw [this]
  simp
 have p1 := (g4.parts (l := off) (by omega)).2
 have p2 := (p1.parts (l := k) (by omega)).1
 have hb1 : (off + k) * P.cellsOf E ≤ qs.length * P.cellsOf E := Nat.mul_le_mul_right _ (by omega)
 rw [Nat.add_mul] at hb1
 refine ⟨_, cap, _, ex, p2, ?_⟩
 have hxl : ((yc.drop (off * P.cellsOf E)).take (k * P.cellsOf E)).length = k * P.cellsOf E := by
  rw [List.length_take, List.length_drop]
  omega
 have hcell : ∀ j v, ((yc.drop (off * P.cellsOf E)).take (k * P.cellsOf E))[j]? = some v → w.cell? ((⟨b', off * P.cellsOf E, none⟩ : Addr).add j) = some v := fun j v hj => by
  rw [List.getElem?_take] at hj
  split at hj
  ·rw [List.getElem?_drop] at hj
   have hlt := (List.getElem?_eq_some_iff.1 hj).1
   have ha : (⟨b', off * P.cellsOf E, none⟩ : Addr).add j = ⟨b', off * P.cellsOf E + j, none⟩ := by unfold Addr.add; split <;> simp_all
   rw [ha]
   have hcj : c[off * P.cellsOf E + j]? = some v := by
    rw [← Array.getElem?_toList, g2, List.getElem?_append_left hlt];exact hj
   simp [World.cell?, g1, hcj]
  ·cases hj
 have := run_loadCells_list (P := P) w ⟨b', off * P.cellsOf E, none⟩ _ hcell
 rw [hxl] at this
 simp [Builtin.firstCells, this]
theorem an4 (S : Seat P) {X : Ctx} {C : Cfg} {st : St} {o : Oper} {a : Act} {w : World} (h : SatC P X C st a w) {t E : TypeId} [hS : Sl P t E] {x : Operand} {lw hw : Option Operand} {l off n i j : Nat} (hop : o.op = .slice t x lw hw none) (hd : B6 X.n o.dst = true)
  (hx : d6 X.G st.env x = some (.arr l E off n)) (hl : lw = none ∧ i = 0 ∨ ∃ y, lw = some y ∧ d6 X.G st.env y = some (iv .i64 i)) (hr : hw = none ∧ j = n ∨ ∃ y, hw = some y ∧ d6 X.G st.env y = some (iv .i64 j)) (hi : i = 0 ∨ i < n) (hij : i ≤ j) (hj : j ≤ n) (hn : 0 < n) :
  Exec P X C st o a w { v := .arr l E (off + i) (j - i) } := by
 obtain ⟨b, cap, ex, hρ, hcap⟩ := ad1 (h.eval hx)
 have hl' : lw.map a.eval = none ∧ i = 0 ∨ lw.map a.eval = some (.int .i64 i) := by
  rcases hl with ⟨rfl, rfl⟩ | ⟨y, rfl, hy⟩
  ·exact .inl ⟨rfl, rfl⟩
  ·have := h.eval hy
   exact .inr (by simp [this.leaf_inv.1])
 have hr' : hw.map a.eval = none ∧ j = n ∨ hw.map a.eval = some (.int .i64 j) := by
  rcases hr with ⟨rfl, rfl⟩ | ⟨y, rfl, hy⟩
  ·exact .inl ⟨rfl, rfl⟩
  ·have := h.eval hy
   exact .inr (by simp [this.leaf_inv.1])
 have hrun := aP7 (w := w) (a := some ⟨b, off * P.cellsOf E, none⟩) (n := n) hS.spec.2 (br1 hS S.hT) hij (show j ≤ cap by omega) hl' hr'
 have hne : cap ≠ i := by omega
 have ha : (⟨b, off * P.cellsOf E, none⟩ : Addr).add (i * P.cellsOf E) = ⟨b, (off + i) * P.cellsOf E, none⟩ := by rw [Nat.add_mul]; unfold Addr.add; split <;> simp_all
 rw [if_neg hne, Option.map_some, ha] at hrun
 refine o7 (w' := w) (C' := C) (y := .slice (some ⟨b, (off + i) * P.cellsOf E, none⟩) (j - i) (cap - i)) ?_ (h.upd_put (u9 hd) (.one (.arr hρ (by omega)) rfl) none True) (Tr.refl _ _ _ _) (fun L d hL => by simp at hL)
 obtain ⟨dst, op, type, pos, after, guard⟩ := o
 simp only at hop
 subst hop
 simp [execOp, ex, hrun]
section
variable {X : Ctx} {ops : Array Oper} {dr : Bool} {s0 : St} {K : St → Prop} {dn : List Item} {rest : List Oper} {d : Nat} {ty : TypeId} {pos : String} {after : Array Edge} {env : List (Nat × PV)} {heap : List (Nat × Ob)}
theorem bT5 (S : Seat P) {t t' E : TypeId} [hS : Sl P t E] {x y : Operand} {l off n : Nat} {v : PV} {qs ps : List Pu} (hin : off + n ≤ qs.length) (hk : ps.length ≤ n)
  (c : WalkR P X ops dr s0 K (dn ++ [⟨⟨some d, .call ⟨.builtin .copy, #[x, y], #[t, t']⟩, ty, pos, after, none⟩, { v := iv .i64 ps.length, heap := [(l, .row E ((qs.take off ++ ps ++ qs.drop (off + ps.length)).map .pu))] }, { reads := f0 [x, y], hreads := [l] }⟩]) ⟨(d, iv .i64 ps.length) :: env, (l, .row E ((qs.take off ++ ps ++ qs.drop (off + ps.length)).map .pu)) :: heap⟩ rest)
  (hlE : Nat.ble (E + 1) P.types.size = true := by kernel_rfl) (hx : d6 X.G env x = some (.arr l E off n) := by rfl) (hl : get heap l = some (.row E (qs.map .pu)) := by rfl) (hR : X.R.contains l = false := by rfl) (hy : d6 X.G env y = some v := by rfl) (hv : Elems E v ps := by repeat constructor) (hd : lb d X.n = true := by rfl) :
  WalkR P X ops dr s0 K dn ⟨env, heap⟩ (⟨some d, .call ⟨.builtin .copy, #[x, y], #[t, t']⟩, ty, pos, after, none⟩ :: rest) := by
 refine WalkR.cons ⟨fun l' h => ?_, fun L h => by simp at h, fun st' ha hn C a w hs _ => ?_⟩ c
 ·have h1 : PV.labsL ((qs.take off ++ ps ++ qs.drop (off + ps.length)).map PV.pu) = [] := N4 _
  simp only [PV.labs, iv, Ob.labs] at h
  rcases h with h | ⟨q, hq, _⟩ | ⟨q, hq, h⟩
  ·cases h
  ·cases hq
  ·rw [List.mem_singleton.1 hq] at h
   simp only [Ob.labs, h1] at h
   cases h
 ·have hx' : d6 X.G st'.env x = some (.arr l E off n) := by
   rw [d9 (env := env) fun t e => ha.env t (j2 (by rw [e]; simp))];exact hx
  have hy' : d6 X.G st'.env y = some v := by
   rw [d9 (env := env) fun t e => ha.env t (j2 (by rw [e]; simp))];exact hy
  exact .of ((Guard.none rfl).wanted hs) (aA7 S.hT hs (Nat.le_of_ble_eq_true hlE) rfl (by simp [B6, G9 hd]) hx' ((ha.heap l (by simp)).trans hl) (bn0 hR) hin (Nat.min_eq_left hk).symm (bz7 hs hy' hv.eq))
theorem bT4 (S : Seat P) {t t' E : TypeId} [hS : Sl P t E] {x y : Operand} {l off n off2 n2 k : Nat} {qs : List Pu} (hin : off + n ≤ qs.length) (hin2 : off2 + n2 ≤ qs.length) (hk : k = Nat.min n2 n)
  (c : WalkR P X ops dr s0 K (dn ++ [⟨⟨some d, .call ⟨.builtin .copy, #[x, y], #[t, t']⟩, ty, pos, after, none⟩, { v := iv .i64 k, heap := [(l, .row E ((qs.take off ++ (qs.drop off2).take k ++ qs.drop (off + k)).map .pu))] }, { reads := f0 [x, y], hreads := [l] }⟩]) ⟨(d, iv .i64 k) :: env, (l, .row E ((qs.take off ++ (qs.drop off2).take k ++ qs.drop (off + k)).map .pu)) :: heap⟩ rest)
  (hlE : Nat.ble (E + 1) P.types.size = true := by kernel_rfl) (hx : d6 X.G env x = some (.arr l E off n) := by rfl) (hl : get heap l = some (.row E (qs.map .pu)) := by rfl) (hR : X.R.contains l = false := by rfl) (hy : d6 X.G env y = some (.arr l E off2 n2) := by rfl) (hd : lb d X.n = true := by rfl) :
  WalkR P X ops dr s0 K dn ⟨env, heap⟩ (⟨some d, .call ⟨.builtin .copy, #[x, y], #[t, t']⟩, ty, pos, after, none⟩ :: rest) := by
 refine WalkR.cons ⟨fun l' h => ?_, fun L h => by simp at h, fun st' ha hn C a w hs _ => ?_⟩ c
 ·have h1 : PV.labsL ((qs.take off ++ (qs.drop off2).take k ++ qs.drop (off + k)).map PV.pu) = [] := N4 _
  simp only [PV.labs, iv, Ob.labs] at h
  rcases h with h | ⟨q, hq, _⟩ | ⟨q, hq, h⟩
  ·cases h
  ·cases hq
  ·rw [List.mem_singleton.1 hq] at h
   simp only [Ob.labs, h1] at h
   cases h
 ·have hx' : d6 X.G st'.env x = some (.arr l E off n) := by
   rw [d9 (env := env) fun t e => ha.env t (j2 (by rw [e]; simp))];exact hx
  have hy' : d6 X.G st'.env y = some (.arr l E off2 n2) := by
   rw [d9 (env := env) fun t e => ha.env t (j2 (by rw [e]; simp))];exact hy
  have hl' := (ha.heap l (by simp)).trans hl
  exact .of ((Guard.none rfl).wanted hs) (aA7 S.hT hs (Nat.le_of_ble_eq_true hlE) rfl (by simp [B6, G9 hd]) hx' hl' (bn0 hR) hin hk (bH6 hs hy' hl' hin2 (by rw [hk]; exact Nat.min_le_left _ _)))
theorem bb7 (S : Seat P) {t E : TypeId} [hS : Sl P t E] {x y : Operand} {l off n i : Nat} (hi : i < n)
  (c : WalkR P X ops dr s0 K (dn ++ [⟨⟨some d, .slice t x (some y) none none, ty, pos, after, none⟩, { v := .arr l E (off + i) (n - i) }, { reads := f0 [x, y], labs := [l] }⟩]) ⟨(d, .arr l E (off + i) (n - i)) :: env, heap⟩ rest)
  (hx : d6 X.G env x = some (.arr l E off n) := by rfl) (hy : d6 X.G env y = some (iv .i64 i) := by rfl) (hd : lb d X.n = true := by rfl) :
  WalkR P X ops dr s0 K dn ⟨env, heap⟩ (⟨some d, .slice t x (some y) none none, ty, pos, after, none⟩ :: rest) := by
 refine WalkR.cons ⟨fun l' h => by simpa [PV.labs] using h, fun L h => by simp at h, fun st' ha hn C a w hs _ => ?_⟩ c
 have hx' : d6 X.G st'.env x = some (.arr l E off n) := by
  rw [d9 (env := env) fun t e => ha.env t (j2 (by rw [e]; simp))];exact hx
 have hy' : d6 X.G st'.env y = some (iv .i64 i) := by
  rw [d9 (env := env) fun t e => ha.env t (j2 (by rw [e]; simp))];exact hy
 exact .of ((Guard.none rfl).wanted hs) (an4 S hs rfl (by simp [B6, G9 hd]) hx' (.inr ⟨y, rfl, hy'⟩) (.inl ⟨rfl, rfl⟩) (.inr hi) (by omega) (Nat.le_refl _) (by omega))
theorem bz9 (S : Seat P) {t E : TypeId} [hS : Sl P t E] {x y : Operand} {l off n j : Nat} (hj : j ≤ n) (hn : 0 < n)
  (c : WalkR P X ops dr s0 K (dn ++ [⟨⟨some d, .slice t x none (some y) none, ty, pos, after, none⟩, { v := .arr l E (off + 0) (j - 0) }, { reads := f0 [x, y], labs := [l] }⟩]) ⟨(d, .arr l E (off + 0) (j - 0)) :: env, heap⟩ rest)
  (hx : d6 X.G env x = some (.arr l E off n) := by rfl) (hy : d6 X.G env y = some (iv .i64 j) := by rfl) (hd : lb d X.n = true := by rfl) :
  WalkR P X ops dr s0 K dn ⟨env, heap⟩ (⟨some d, .slice t x none (some y) none, ty, pos, after, none⟩ :: rest) := by
 refine WalkR.cons ⟨fun l' h => by simpa [PV.labs] using h, fun L h => by simp at h, fun st' ha hn' C a w hs _ => ?_⟩ c
 have hx' : d6 X.G st'.env x = some (.arr l E off n) := by
  rw [d9 (env := env) fun t e => ha.env t (j2 (by rw [e]; simp))];exact hx
 have hy' : d6 X.G st'.env y = some (iv .i64 j) := by
  rw [d9 (env := env) fun t e => ha.env t (j2 (by rw [e]; simp))];exact hy
 exact .of ((Guard.none rfl).wanted hs) (an4 S hs rfl (by simp [B6, G9 hd]) hx' (.inl ⟨rfl, rfl⟩) (.inr ⟨y, rfl, hy'⟩) (.inl rfl) (Nat.zero_le _) hj hn)
theorem Ghost.row {l : Nat} {E : TypeId} {vs : List PV} {qs : List Pu} (hl : get heap l = some (.row E vs)) (hw : Wks vs (qs.map .pu)) : Ghost P X ⟨env, heap⟩ ⟨env, (l, .row E (qs.map .pu)) :: heap⟩ := fun C a w h => by
 have key : ∀ l' ob, get ((l, Ob.row E (qs.map .pu)) :: heap) l' = some ob → ∃ ob1, get heap l' = some ob1 ∧ ob1.root = ob.root ∧ ∀ b, OR P C w l' b ob1 → OR P C w l' b ob := fun l' ob hg => by
  rw [m1] at hg
  split at hg
  ·rename_i e
   simp at hg
   subst e hg
   refine ⟨_, hl, rfl, fun b ⟨c, y, z, g1, g2, g3⟩ => ⟨c, y, z, g1, g2, ?_⟩⟩
   have := VRs.wk hw g3
   have hlen : (qs.map PV.pu).length = vs.length := by simpa using this.length.2
   rw [hlen];exact this
  ·exact ⟨ob, hg, rfl, fun b h => h⟩
 refine ⟨C, h.size, h.defers, h.framed, h.env, fun l' ob hg => ?_, fun l1 l2 b R R' ob ob' h1 h2 => ?_, fun l' ob b R o hg => ?_, h.dLt, fun b q k hb => ?_, h.gl, h.kin, h.keep⟩
 ·obtain ⟨ob1, e1, e2, e3⟩ := key l' ob hg
  obtain ⟨b, f1, f2, f3⟩ := h.heap l' ob1 e1
  exact ⟨b, by rw [← e2]; exact f1, f2, e3 b f3⟩
 ·obtain ⟨o1, e1, _⟩ := key l1 ob h1
  obtain ⟨o2, e2, _⟩ := key l2 ob' h2
  exact h.inj l1 l2 b R R' o1 o2 e1 e2
 ·obtain ⟨o1, e1, _⟩ := key l' ob hg
  exact h.dObj l' o1 b R o e1
 ·obtain ⟨g1, g2, g3, g4⟩ := h.own b q k hb
  refine ⟨g1, g2, g3, fun l' ob R hg => ?_⟩
  obtain ⟨o1, e1, _⟩ := key l' ob hg
  exact g4 l' o1 R e1
theorem Tri.rowPu {l : Nat} {E : TypeId} {vs : List PV} {qs : List Pu} {c : Code} {Q : Exit → St → Prop} (hw : Wks vs (qs.map .pu)) (h : Tri P X c ⟨env, (l, .row E (qs.map .pu)) :: heap⟩ Q) (hl : get heap l = some (.row E vs) := by rfl) : Tri P X c ⟨env, heap⟩ Q := Tri.ghost (Ghost.row hl hw) h
end
end
end Hs
