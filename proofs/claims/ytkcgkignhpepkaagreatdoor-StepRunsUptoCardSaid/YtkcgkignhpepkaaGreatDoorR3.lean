/- Part 3 of the proof: lemmas on walks and the walks of the functions, in their order. -/
import Derived.Test.YtkcgkignhpepkaaGreatDoorR2
import Derived.Scope
import Derived.OpenShut
import Derived.TacticsIn
set_option linter.unusedSimpArgs false
set_option linter.unusedVariables false
/- The statement 'for .. range f'. -/
namespace Hs
open Go Go.RowKit
variable {P : Program} {α β : Type}
theorem SatC.frag {X : Ctx} {C : Cfg} {st : St} {a : Act} {w : World} (h : SatC P X C st a w) {HR H : List (Nat × Ob)} (hHR : ∀ l ob, get HR l = some ob → ∃ ob1, get st.heap l = some ob1 ∧ ObImp P ob1 ob) (hH : ∀ l ob, get H l = some ob → ∃ ob1, get st.heap l = some ob1 ∧ ObImp P ob1 ob) : Frag P X.G C w HR H := by
 have inH : ∀ l ob, get (HR ++ H) l = some ob → ∃ ob1, get st.heap l = some ob1 ∧ ObImp P ob1 ob := fun l ob hl => by
  rw [get_append] at hl
  cases hg : get HR l with
  | some ob' => rw [hg] at hl; simp at hl; subst hl; exact hHR l ob' hg
  | none => rw [hg] at hl; exact hH l ob (by simpa using hl)
 refine ⟨fun l ob hl => ?_, fun l l' b R R' ob ob' h1 h2 => ?_, fun l ob b R o' hl => ?_, h.dLt, fun b q k hb => ?_, h.gl⟩
 ·obtain ⟨ob1, k1, k2, k3⟩ := inH l ob hl
  obtain ⟨b, f1, _, f3⟩ := h.heap l ob1 k1
  exact ⟨b, by rw [← k2]; exact f1, k3 _ _ _ _ f3⟩
 ·obtain ⟨p1, f1, _⟩ := inH l ob h1
  obtain ⟨p2, f2, _⟩ := inH l' ob' h2
  exact h.inj l l' b R R' p1 p2 f1 f2
 ·obtain ⟨p1, f1, _⟩ := inH l ob hl
  exact h.dObj l p1 b R o' f1
 ·obtain ⟨_, g2, g3, g4⟩ := h.own b q k hb
  refine ⟨g2, g3, fun l ob R hl => ?_⟩
  obtain ⟨p1, f1, _⟩ := inH l ob hl
  exact g4 l p1 R f1
theorem SatC.turn {X : Ctx} {C : Cfg} {st : St} {a : Act} {w : World} {lam l : Nat} {r3 : Loop} (r4 : Loop) (s3 : SatC P X C st a w) (g3 : get st.heap lam = some (.loop r3)) (hR : lam ∉ X.R) (k2 : C.ρ lam = some (l, .loop)) : w.heap[l]? = some (.loop r3) ∧ SatC P X C ⟨st.env, (lam, .loop r4) :: st.heap⟩ a (w.putObj l (.loop r4)) := by
 obtain ⟨b, e1, e2, e3⟩ := s3.heap lam _ g3
 have k1 : w.heap[l]? = some (.loop r3) := by
  rw [k2] at e1
  simp at e1
  rw [e1.1];exact e3
 refine ⟨k1, ?_⟩
 have hlt := heap_lt k1
 have hcell : ∀ b o, (w.putObj l (.loop r4)).cell? ⟨b, o, none⟩ = w.cell? ⟨b, o, none⟩ := fun b o => by
  by_cases e : b = l
  ·subst e
   simp only [World.cell?, World.putObj_heap_same hlt, k1]
  ·simp only [World.cell?, World.putObj_heap_other e]
 have hty : TyKeep w (w.putObj l (.loop r4)) := fun b c E hb => ⟨c, by
  have : b ≠ l := fun e => by subst e; rw [k1] at hb; cases hb
  rw [World.putObj_heap_other this]; exact hb⟩
 have st1 : ∀ (ls : List Nat) keep, Stays C C w (w.putObj l (.loop r4)) ls keep := fun ls keep =>
  ⟨fun b o hD => ⟨hD, hcell b o⟩, fun _ _ => rfl, fun b q k hb _ => ⟨hb, World.putObj_heap_other fun e => by
   subst e
   exact (s3.own b q k hb).2.2.2 lam _ _ g3 k2⟩, hty⟩
 refine s3.write (w' := w.putObj l (.loop r4)) (ob' := .loop r4) g3 hR k2 rfl ⟨rfl, rfl, rfl, by simp, fun b' hb => World.putObj_heap_other hb, hty⟩ st.env rfl rfl (fun b1 q k hb => ⟨q, hb⟩) (fun i v hv => ?_) (fun l' ob1 _ _ => st1 _ _) (World.putObj_heap_same hlt) (st1 _ _)
 obtain ⟨y, h1, h2⟩ := s3.env i v hv
 exact ⟨y, h1, h2.mono (st1 _ _)⟩
theorem SatC.marked {X : Ctx} {C : Cfg} {st : St} {a : Act} {w : World} (h : SatC P X C st a w) : SatC P X C st { a with defers := { target := .collected w.heap.size, args := #[] } :: a.defers } (w.alloc (.deferred (some []))) := by
 have g := Grew.alloc w (.deferred (some []))
 have h1 := h.grew g (CGrew.refl C w _ fun b q k hb hge => absurd (h.own b q k hb).2.1 (Nat.not_lt.2 hge))
 exact { h1 with
  size := h1.size
  defers := by
   refine ⟨List.nodup_cons.2 ⟨fun hm => ?_, h1.defers.1⟩, fun d hd => ?_⟩
   ·obtain ⟨D, e1, _, e3, _⟩ := h.defers.2 _ hm
    simp at e1
    have := heap_lt e3
    omega
   ·rcases List.mem_cons.1 hd with rfl | hd
    ·refine ⟨w.heap.size, rfl, .inl h.framed.size, World.alloc_heap_new w _, ?_⟩
     cases hc : C.own w.heap.size with
     | none => rfl
     | some q => exact absurd (h.own _ q.1 q.2 hc).2.1 (Nat.lt_irrefl _)
    ·exact h1.defers.2 d hd
  env := h1.env }
def freshB (env : List (Nat × PV)) (heap : List (Nat × Ob)) (lam : Nat) (L R : List Nat) : Bool :=
 env.all (fun q => !q.2.labs.contains lam) && heap.all (fun q => q.1 != lam && !q.2.labs.contains lam) && !L.contains lam && !R.contains lam
theorem freshB_spec {env : List (Nat × PV)} {heap : List (Nat × Ob)} {lam : Nat} {L R : List Nat} (h : freshB env heap lam L R = true) : Fresh ⟨env, heap⟩ lam ∧ get heap lam = none ∧ lam ∉ L ∧ lam ∉ R := by
 unfold freshB at h
 simp only [Bool.and_eq_true, List.all_eq_true, Bool.not_eq_true', List.contains_eq_mem, decide_eq_false_iff_not, bne_iff_ne, ne_eq] at h
 obtain ⟨⟨⟨h1, h2⟩, h3⟩, h4⟩ := h
 refine ⟨⟨fun i v hv => h1 _ (get_mem hv), fun l ob hl _ => (h2 _ (get_mem hl)).2⟩, ?_, h3, h4⟩
 cases hg : get heap lam with
 | none => rfl
 | some ob => exact absurd rfl (h2 _ (get_mem hg)).1
inductive KeepE (L : List Nat) (env : List (Nat × PV)) : List (Nat × PV) → Prop
 | nil : KeepE L env []
 | cons {i : Nat} {v : PV} {r : List (Nat × PV)} (h : get env i = some v) (k : keepV v = true) (l : v.labs.all (fun x => L.contains x) = true) (t : KeepE L env r) : KeepE L env ((i, v) :: r)
theorem KeepE.at {L : List Nat} {env r : List (Nat × PV)} (h : KeepE L env r) : ∀ i v, get r i = some v → get env i = some v ∧ keepV v = true ∧ ∀ l ∈ v.labs, l ∈ L := by
 induction h with
 | nil => intro i v h; cases h
 | cons h k l _ ih =>
  intro i v hv
  rw [get_cons] at hv
  split at hv
  ·rename_i e
   simp at hv
   subst e hv;exact ⟨h, k, fun x hx => by simpa using List.all_eq_true.1 l x hx⟩
  ·exact ih i v hv
theorem Tri.overFunc {X : Ctx} {env : List (Nat × PV)} {heap : List (Nat × Ob)} {g : Operand} {ps : Array Tmp} {assign body : Code} {Q : Exit → St → Prop} (lam : Nat) (L' L : List Nat) (env' : List (Nat × PV)) {f : FuncId} {vf : PV} {captured : List PV} {HR H : List (Nat × Ob)} {items : List α} {enc : α → List PV} {out : α → Option β} {jc : β → Code} {Ht : β → List (Nat × Ob)}
  (hc : IterC P X.G f captured lam L' HR H items enc out jc Ht)
  (hlen : ∀ x ∈ items, (enc x).length = ps.size)
  (hr : ∀ x ∈ items, ∀ r w0 M ρ0 D0 l, Tri P ⟨w0, X.n, M, X.G, L, keysOf HR, ρ0, D0, some l⟩ assign ⟨ps.toList.zip (enc x) ++ env', HR ++ (lam, .loop r) :: H⟩ (thenQ (fun st => get st.heap lam = some (.loop r) ∧
   Tri P ⟨w0, X.n, M, X.G, L, keysOf HR, ρ0, D0, some l⟩ body ⟨st.env, (lam, .loop (busy r)) :: st.heap⟩ fun e st => get st.heap lam = some (.loop (busy r)) ∧ endsBy ((out x).map jc) e ∧ OutH P st.heap (match out x with | none => H | some z => Ht z)) fun _ _ => False))
  (hdone : items.findSome? out = none → Q .normal ⟨env, H ++ heap⟩)
  (hstop : ∀ z, items.findSome? out = some z → Tri P X (jc z) ⟨env, Ht z ++ heap⟩ Q)
  (hro : X.ro = none := by rfl) (hg : evalO X.G env g = some vf := by rfl) (hfv : fnV (strip vf) = some (f, [], captured) := by rfl) (he : entersB P f = true := by kernel_rfl)
  (hHR : OutH P heap HR := by repeat (first | exact OutH.nil | refine OutH.cons rfl (ObImp.refl _) ?_)) (hH : InH P X.R heap H := by repeat (first | exact InH.nil | refine InH.cons rfl rfl (ObImp.refl _) ?_))
  (hfr : freshB env heap lam X.L X.R = true := by rfl) (henv : KeepE L' env env' := by repeat (first | exact KeepE.nil | refine KeepE.cons rfl rfl rfl ?_)) (hlam : L'.contains lam = true := by rfl)
  (hps : ps.toList.Nodup := by decide) (hps2 : (ps.toList.all fun p => decide (p < X.n)) = true := by rfl)
  (hchk : ∀ r z, outChk HR ((lam, .loop r) :: H) (roundH lam r H Ht jc z) (bv z.isNone) L [] = true := by intro r z; cases z <;> rfl)
  (hHs : ∀ z, (keysOf (Ht z)).contains lam = false := by intro z; rfl) : Tri P X (.rangeFunc g ps assign body) ⟨env, heap⟩ Q := by
 intro C a w hs
 rw [hro]
 obtain ⟨f1, f2, f3, f4⟩ := freshB_spec hfr
 refine wpIn_rangeFunc fun fn _ => ?_
 obtain ⟨rc, hrc⟩ : ∃ rc : Loop, rc = { state := .ready, pending := none, fn, tmps := a.tmps, params := ps, assign, body, defers := w.heap.size } := ⟨_, rfl⟩
 have hs1 := hs.marked
 have hs2 := hs1.new (ob := .loop rc) (o := .loop rc) f1 f3 (World.alloc_heap_new _ _)
 obtain ⟨l, hl⟩ : ∃ l, l = (w.alloc (.deferred (some []))).heap.size := ⟨_, rfl⟩
 rw [← hl] at hs2
 obtain ⟨C2, hC2⟩ : ∃ C2, C2 = C.at lam l (Ob.loop rc).root := ⟨_, rfl⟩
 rw [← hC2] at hs2
 have hρ2 : C2.ρ lam = some (l, .loop) := by rw [hC2]; simp [Cfg.at, Ob.root]
 obtain ⟨a', ha'⟩ : ∃ a' : Act, a' = { a with defers := { target := .collected w.heap.size, args := #[] } :: a.defers } := ⟨_, rfl⟩
 rw [← ha'] at hs2
 obtain ⟨w1, hw1⟩ : ∃ w1, w1 = (w.alloc (.deferred (some []))).alloc (.loop rc) := ⟨_, rfl⟩
 rw [← hw1] at hs2
 obtain ⟨xs, ys, e1, e2, e3⟩ := fnV_run (hs2.eval (o := g) hg) hfv
 have exs : xs = #[] := by
  have := e2.length
  simp at this
  exact Array.eq_empty_of_size_eq_zero this.symm
 subst exs
 have hmem : ∀ l' ob, get H l' = some ob → l' ≠ lam := fun l' ob hl' e => by
  subst e
  obtain ⟨_, ob1, k1, _⟩ := hH.at _ _ hl'
  rw [f2] at k1
  cases k1
 have hlt : ∀ l' ob, get heap l' = some ob → get ((lam, Ob.loop rc) :: heap) l' = some ob := fun l' ob hl' => by
  rw [get_cons, if_neg]
  ·exact hl'
  ·intro e
   rw [e, f2] at hl'
   cases hl'
 have F : Frag P X.G C2 w1 HR ((lam, .loop rc) :: H) := hs2.frag (fun l' ob hl' => let ⟨ob1, k1, k2⟩ := hHR.at l' ob hl'; ⟨ob1, hlt _ _ k1, k2⟩) (fun l' ob hl' => by
  rw [get_cons] at hl'
  split at hl'
  ·rename_i e
   simp at hl'
   subst e hl';exact ⟨_, by simp [get], ObImp.refl _⟩
  ·obtain ⟨_, ob1, k1, k2⟩ := hH.at l' ob hl'
   exact ⟨ob1, hlt _ _ k1, k2⟩)
 have hcall := hc l rc C2 w1 (#[.func (.yield l) #[] #[]] ++ ys) F (by
  have := VFs.cons (P := P) (C := C2) (w := w1) (v := .fn (.yield l) [] []) (x := .func (.yield l) #[] #[]) (VR.fn .nil .nil) rfl e3
  simpa using this) (fun X' q0 _ qG qρ qD qL x hx => YC.of_tri (X1 := X) (C1 := C2) (w1 := w1) (L := L) (env' := env') q0 qρ qD qG hs2 (by rw [qL]; simpa using hlam) hρ2 (by rw [hrc]) (by rw [hrc]) (by rw [hrc, ha']) (fun i v hv => by
   obtain ⟨k1, k2, k3⟩ := henv.at i v hv
   exact ⟨k1, k2, fun x hx => by rw [qL]; exact k3 x hx⟩) (by rw [hrc]; exact hps) (fun p hp => by
    rw [hrc] at hp
    simpa using List.all_eq_true.1 hps2 p hp) (by rw [hrc]; exact hlen x hx) (hchk rc) (fun w0 M ρ0 D0 => by
     have := hr x hx rc w0 M ρ0 D0 l
     rw [hrc] at this ⊢
     exact this))
 refine ⟨l, [{ target := .collected w.heap.size, args := #[] }], w1, { target := .fn (.func f) ys, args := #[.func (.yield l) #[] #[]] }, w1, f, #[.func (.yield l) #[] #[]] ++ ys, w1, ?_, ?_, fun _ _ => trivial, ?_, fun h => by simp [rf, Fence.wide] at h, ?_⟩
 ·rw [hw1, hrc, hl]
  have := run_enterLoop_outer (P := P) (w := w) fn a.tmps ps assign body
  rw [show (rf none).round = none from rfl, this]
  simp
 ·have e1' : a.eval g = .func (.func f) #[] ys := by
   rw [← e1, ha']; rfl
  simp only [resolve, e1']
  simp [go_sem]
 ·simp [invoke, go_sem, callFunc_run he]
 refine (callsIn_wide (n := 0 - 1)).2 (hcall.mono fun e w3 ⟨y, C3, hy, A⟩ => ?_);subst hy
 have hs3 := hs2.called A (fun l' ob hl' => by
  rw [get_cons] at hl'
  split at hl'
  ·rename_i e
   exact ⟨by rw [e]; exact f4, Ob.loop rc, by rw [e]; simp [get]⟩
  ·obtain ⟨k0, ob1, k1, _⟩ := hH.at l' ob hl'
   exact ⟨k0, ob1, hlt _ _ k1⟩) (fun l' hl' => by cases hl')
 have hρ3 : C3.ρ lam = some (l, .loop) := (A.rho lam (by simp)).trans hρ2
 have hle : ∀ (H' : List (Nat × Ob)) (r3 r4 : Loop), (∀ l' ob, get H' l' = some ob → l' ≠ lam) → St.Le ⟨env, H' ++ heap⟩ ⟨env, (lam, .loop r4) :: ((lam, .loop r3) :: H' ++ (lam, .loop rc) :: heap)⟩ := fun H' r3 r4 hn => ⟨fun _ _ h => h, fun l' ob hl' => by
  have hne : l' ≠ lam := fun e => by
   simp only [get_append] at hl'
   cases hg : get H' l' with
   | some o => exact hn l' o hg e
   | none => rw [hg, e, f2] at hl'; cases hl'
  simp only [List.cons_append, get_cons, if_neg hne, get_append] at hl' ⊢
  exact hl'⟩
 show rangePost _ _ _ _ _ _ _ _
 unfold rangePost
 cases hz : items.findSome? out with
 | none =>
  rw [hz] at hs3
  obtain ⟨k1, k2⟩ := hs3.turn (lam := lam) (r3 := rc) { rc with state := .exhausted } (by simp [roundH, get]) f4 hρ3
  refine ⟨none, _, by have := run_endLoop (P := P) k1 (by rw [hrc]; simp); rw [show rc.pending = none by rw [hrc]] at this; exact this, _, C3, hdone hz, ?_⟩
  have := k2.less (hle H rc _ hmem)
  rw [ha', show rc.pending = none by rw [hrc]] at this
  exact this
 | some z =>
  rw [hz] at hs3
  obtain ⟨k1, k2⟩ := hs3.turn (lam := lam) (r3 := doneL rc (jc z)) { doneL rc (jc z) with state := .exhausted } (by simp [roundH, get]) f4 hρ3
  refine ⟨some (jc z), _, by have := run_endLoop (P := P) k1 (by simp [doneL]); exact this, ?_⟩
  have hn : ∀ l' ob, get (Ht z) l' = some ob → l' ≠ lam := fun l' ob hl' e => by
   have := get_keys hl'
   have h2 := hHs z
   rw [e] at this
   simp only [List.contains_eq_mem, decide_eq_false_iff_not] at h2
   exact h2 this
  have hs5 := k2.less (hle (Ht z) _ _ hn)
  have := hstop z hz C3 _ _ hs5
  rw [hro] at this
  rw [ha'] at this
  exact this
end Hs

/- Rows that are made and copied, maps: what a look settles left to defaults. -/
namespace Hs
open Go Go.RowKit
variable {P : Program} {X : Ctx} {st : St} {ops : Array Oper} {env : List (Nat × PV)} {heap : List (Nat × Ob)} {dr : Bool} {s0 : St} {K : St → Prop} {dn : List Item} {rest : List Oper} {d : Nat} {ty : TypeId} {pos : String} {after : Array Edge} {g : Bool}
theorem v_ixa {x y : Operand} {t E l n : Nat} {k : IntKind} {i : Int} (S : Seat P) [hS : Sl P t E] (h : Ev X st.env g x (.arr l E 0 n) := by first | (focus (apply Ev.mk; exact rfl; (repeat constructor); done)) | (focus (apply Ev.gd; exact rfl; (repeat constructor); done)) | (focus (apply Ev.left; exact rfl; (repeat constructor); done)) | (focus (apply Ev.left2; exact rfl; (repeat constructor); done))) (hi : Ev X st.env g y (iv k i) := by first | (focus (apply Ev.mk; exact rfl; (repeat constructor); done)) | (focus (apply Ev.gd; exact rfl; (repeat constructor); done)) | (focus (apply Ev.left; exact rfl; (repeat constructor); done)) | (focus (apply Ev.left2; exact rfl; (repeat constructor); done))) (h0 : 0 ≤ i := by first | decide | omega) (hn : i < n := by first | decide | omega) :
  ValG P X st (.indexAddr t x y) g (.ptr l [i.toNat] E) { reads := tmpsOf [x, y] } :=
 ValG.pure S (.cons h (.cons hi .nil)) (by
  obtain ⟨h1, h2⟩ := hS.spec
  have hlt : i.toNat < n := by omega
  simp [pureOp, idxAddr, h1, h2, indexV, h0, hn])
theorem s_make (S : Seat P) {t E : TypeId} {B : Nat} [hE : El P t E B] {x y : Operand} {n : Nat} {k k' : IntKind} {z : PV} [hz : Zr S E z] (l : Nat) (hfit : n * B ≤ 281474976710656) (h63 : n ≤ 9223372036854775807)
  (c : WalkR P X ops dr s0 K (dn ++ [⟨⟨some d, .makeSlice t x y, ty, pos, after, none⟩, { v := .arr l E 0 n, heap := [(l, .row E (List.replicate n z))] }, { reads := tmpsOf [x, y], news := [l], labs := [l] }⟩]) ⟨(d, .arr l E 0 n) :: env, (l, .row E (List.replicate n z)) :: heap⟩ rest)
  (hx : evalO X.G env x = some (iv k n) := by rfl) (hy : evalO X.G env y = some (iv k' n) := by rfl) (hlz : z.labs = [] := by rfl) (hd : lb d X.n = true := by rfl) :
  WalkR P X ops dr s0 K dn ⟨env, heap⟩ (⟨some d, .makeSlice t x y, ty, pos, after, none⟩ :: rest) := step_make S l hx hy hz.ok hlz hd hfit h63 c
theorem s_copy (S : Seat P) {t t' E : TypeId} [hS : Sl P t E] {x y : Operand} {l n : Nat} {v : PV} {vs : List PV} {ps : List Pu}
  (c : WalkR P X ops dr s0 K (dn ++ [⟨⟨some d, .call ⟨.builtin .copy, #[x, y], #[t, t']⟩, ty, pos, after, none⟩, { v := iv .i64 n, heap := [(l, .row E (ps.map .pu))] }, { reads := tmpsOf [x, y], hreads := [l] }⟩]) ⟨(d, iv .i64 n) :: env, (l, .row E (ps.map .pu)) :: heap⟩ rest)
  (hlE : Nat.ble (E + 1) P.types.size = true := by kernel_rfl) (hx : evalO X.G env x = some (.arr l E 0 n) := by rfl) (hl : get heap l = some (.row E vs) := by rfl) (hR : X.R.contains l = false := by rfl) (hy : evalO X.G env y = some v := by rfl) (hv : Elems E v ps := by repeat constructor) (hvn : vs.length = n := by simp) (hpn : ps.length = n := by rfl) (hd : lb d X.n = true := by rfl) :
  WalkR P X ops dr s0 K dn ⟨env, heap⟩ (⟨some d, .call ⟨.builtin .copy, #[x, y], #[t, t']⟩, ty, pos, after, none⟩ :: rest) := step_copy S hlE hx hl hR hy hv hvn hpn hd c
theorem s_storeR (S : Seat P) {x y : Operand} {T T' E : TypeId} {l i : Nat} {vs : List PV} {r u u0 : PV} [hO : Okt P T T'] [hty : TyV P T u] [h1 : Sz P T] [h2 : Sz P T'] (hg : vs[i]? = some u0)
  (t : WalkR P X ops dr s0 K (dn ++ [⟨⟨none, .store T x y, ty, pos, after, none⟩, { v := .tup [], heap := [(l, .row E (vs.set i u))] }, { reads := tmpsOf [x, y], hreads := [l], labs := (Ob.row E (vs.set i u)).labs }⟩]) ⟨env, (l, .row E (vs.set i u)) :: heap⟩ rest)
  (hx : evalO X.G env x = some (.ptr l [i] T') := by rfl) (hy : evalO X.G env y = some r := by rfl) (hs : Str r u := by repeat constructor) (hl : get heap l = some (.row E vs) := by rfl) (hR : X.R.contains l = false := by rfl) :
  WalkR P X ops dr s0 K dn ⟨env, heap⟩ (⟨none, .store T x y, ty, pos, after, none⟩ :: rest) :=
 s_store S (p := [i]) (u0 := u0) t hx hy hs hl hR (by simp [Ob.get, hg, getP]) (by simp [Ob.set, hg, setP])
theorem NoLab.row {α : Type} {E : TypeId} {l : List α} {f : α → Pu} : NoLab (.row E (l.map fun a => .pu (f a))) := ⟨by
 show PV.labsL (l.map fun a => PV.pu (f a)) = []
 induction l with
 | nil => rfl
 | cons a l ih => simp only [List.map_cons, PV.labsL, PV.labs, List.nil_append]; exact ih⟩
theorem Tri.freeze {c : Code} {Q : Exit → St → Prop} {lo l E : Nat} {ps : List Pu} {env' : List (Nat × PV)} {heap' : List (Nat × Ob)} (hl : get heap l = some (.row E (ps.map .pu))) (hlo : lo = 0 ∨ (lo ≤ X.w0.heap.size ∧ ∀ b, ¬ X.M b)) (h : Tri P X c ⟨env', heap'⟩ Q)
  (h1 : FrzE lo l E ps env env' := by repeat (first | exact FrzE.nil | refine FrzE.cons rfl rfl rfl ?_)) (h2 : FrzH lo l E ps heap heap' := by repeat (first | exact FrzH.nil | refine FrzH.cons rfl rfl rfl ?_)) (hR : X.R.contains l = false := by rfl) : Tri P X c ⟨env, heap⟩ Q :=
 Tri.ghost (Ghost.freeze hlo hl (by simpa using hR) (Frozen.of h1 h2)) h
theorem Tri.cutW {σ : Type} {x y : Code} {Q : Exit → St → Prop} (t : σ → St) (h : Tri P X x st (thenQ (fun s => ∃ a, WkE s.env (t a).env ∧ WkH s.heap (t a).heap) Q)) (k : ∀ a, Tri P X y (t a) Q) : Tri P X x st (thenQ (fun s => Tri P X y s Q) Q) := h.mono fun e s hs => by
 cases e with
 | normal => obtain ⟨a, h1, h2⟩ := hs; exact Tri.ghost (Ghost.wk h1 h2) (k a)
 | _ => exact hs
end Hs

/- Labels, scopes. -/
namespace Hs
open Go Go.RowKit
variable {P : Program} {X : Ctx} {st : St}
def noGo (Q : Exit → St → Prop) : Exit → St → Prop
 | .goto _, _ => False
 | e, s => Q e s
theorem Tri.scope {c : Code} {Q : Exit → St → Prop} (h : Tri P X c st (noGo Q)) (hro : X.ro = none := by rfl) : Tri P X (.scope c) st Q := fun C a w hs => by
 have h1 := h C a w hs
 rw [hro] at h1 ⊢
 refine wpIn_wide.2 (wp_scope_straight (wpIn_wide.1 (wpIn_mono (F := Fence.wide) h1 fun e a' w' hq => ?_)))
 obtain ⟨s, C', q, hs'⟩ := hq
 cases e with
 | goto l => exact q.elim
 | _ => exact ⟨s, C', q, hs'⟩
inductive LabsOk (L : List Nat) : List (Nat × Ob) → Prop
 | nil : LabsOk L []
 | cons {l : Nat} {ob : Ob} {r : List (Nat × Ob)} (h : L.contains l = true) (k : (ob.labs.all fun x => L.contains x) = true) (t : LabsOk L r) : LabsOk L ((l, ob) :: r)
theorem noLabs {L : List Nat} {ob : Ob} [h : NoLab ob] : (ob.labs.all fun x => L.contains x) = true := by rw [h.ok]; rfl
theorem LabsOk.at {L : List Nat} {H : List (Nat × Ob)} (h : LabsOk L H) : ∀ l ob, get H l = some ob → l ∈ L ∧ ∀ l' ∈ ob.labs, l' ∈ L := by
 induction h with
 | nil => intro l ob h; cases h
 | cons h k _ ih =>
  intro l ob hl
  rw [get_cons] at hl
  split at hl
  ·rename_i e
   simp at hl
   subst e hl;exact ⟨by simpa using h, fun l' hl' => by simpa using List.all_eq_true.1 k l' hl'⟩
  ·exact ih l ob hl
theorem HCall.of_triE {G : List (Nat × TypeId × Pu)} (hT : tableOk P = true) {f : FuncId} {fn : Func} {c : Code} (n : Nat) (L : List Nat) (hf : P.funcs[f]? = some fn) (hb : fn.body = some c) {args : List PV} {HR H H' : List (Nat × Ob)} {v : PV} {news : List Nat} (hn : n = args.length + (fn.ntmps - args.length))
  (h1 : HR.all (fun q => freeOb q.2) = true) (h2 : disjB HR H' = true) (h3 : (v.labs.all fun l => (L ++ news).contains l) = true) (h4 : LabsOk (L ++ news) H') (h5 : ((keysOf H).all fun l => (keysOf H').contains l) = true)
  (h : ∀ w0 M ρ0 D0, Tri P ⟨w0, n, M, G, L, keysOf HR, ρ0, D0, none⟩ c ⟨envOf 0 args, HR ++ H⟩ fun e st => (e = .normal ∨ e = .ret) ∧ (∃ u, res P st fn.results.toList = some u ∧ VImp P u v) ∧ OutH P st.heap H') : HCall P G f args HR H v H' news := by
 refine HCall.of_tri hT hf hb (L := L) (n := n) hn (fun l ob hl => List.all_eq_true.1 h1 _ (get_mem hl)) (fun l ob hl => disjB_none h2 hl) (fun l hl => by simpa using List.all_eq_true.1 h3 l hl) (fun l ob hl => ?_) (fun l ob hl => ?_) ?_
 ·obtain ⟨k1, k2⟩ := h4.at l ob hl
  exact ⟨by simpa using k1, fun l' hl' => by simpa using k2 l' hl'⟩
 ·have := List.all_eq_true.1 h5 l (get_keys hl)
  exact get_some_of (by simpa [keysOf] using this)
 ·rintro ⟨w0, n', M, G', L', R, ρ0, D0, ro⟩ hn hG hL hR hro
  simp only at hn hG hL hR hro
  subst hn hG hL hR hro
  exact (h w0 M ρ0 D0).mono fun e st ⟨he, hu, ho⟩ => ⟨he, st, Ghost.refl _, hu, ho.at⟩
theorem ob_iv {T : TypeId} {k : IntKind} {a b : Int} (h : a = b) : ObImp P (.var T (iv k a)) (.var T (iv k b)) := by rw [h]; exact ObImp.refl _
theorem v_sl {lo : Nat} {g : Bool} (S : Seat P) {T E : TypeId} [hS : Sl P T E] {z : PV} [hz : Zr S E z] {n : Nat} {parts : Array (Nat × Operand)} {vs : List PV} {ps : List Pu}
  (h : EvL X st.env g (parts.toList.map (·.2)) vs := by repeat (first | exact EvL.nil | (apply EvL.cons; (first | (focus (apply Ev.mk; exact rfl; (repeat constructor); done)) | (focus (apply Ev.gd; exact rfl; (repeat constructor); done)) | (focus (apply Ev.left; exact rfl; (repeat constructor); done))))))
  (hps : ToPus vs ps := by repeat constructor) (hty : TyVs P E ps := by repeat (first | exact TyVs.nil | refine TyVs.cons inferInstance ?_)) (hn : n = ps.length := by rfl) (hi : parts.toList.map (·.1) = List.range ps.length := by rfl) (hfit : Nat.ble (n * P.cellsOf E) 16777216 = true := by kernel_rfl) (hlo : lo ≤ X.w0.heap.size := by first | exact Nat.zero_le _ | exact Nat.le_refl _) :
  ValG P X st (.buildSlice T n parts) g (.xs lo E ps) { reads := tmpsOf (parts.toList.map (·.2)) } := ⟨fun hg st' ha C a w hs o ho hd => by
 obtain ⟨raw, h1, h2⟩ := h.raw hg
 have h1' : evalL X.G st'.env (parts.toList.map (·.2)) = some raw := by
  rw [evalL_congr (env := st.env) fun t ht => ha.env t ht];exact h1
 obtain ⟨dst, op, type, pos, after, guard⟩ := o
 simp only at ho
 subst ho
 exact exec_buildSliceP S hs rfl (by simpa [Op.operands] using h1') (by rw [h2]; exact hps) hd hlo (buildSl_all S hty.all hn hi hfit)⟩
end Hs

/- Slices of slices; the greatest of three. -/
namespace Hs
open Go Go.RowKit
variable {P : Program} {X : Ctx} {st : St} {g : Bool} {lo : Nat}
theorem PRs.parts {D : Nat → Nat → Prop} {w : World} {s : Nat} {E : TypeId} : ∀ {l : Nat} {n : Nat} {ps : List Pu} {x : List Value}, l ≤ n → PRs P D w (List.replicate n (s, E)) ps x →
  PRs P D w (List.replicate l (s, E)) (ps.take l) (x.take (l * s)) ∧ PRs P D w (List.replicate (n - l) (s, E)) (ps.drop l) (x.drop (l * s))
 | 0, n, ps, x, _, h => by simpa using ⟨PRs.nil, h⟩
 | l + 1, 0, _, _, hl, _ => by omega
 | l + 1, n + 1, _, _, hl, .cons (p := p) (ps := ps) (x := x) (y := y) hp hs ht h => by
  obtain ⟨h1, h2⟩ := PRs.parts (l := l) (by omega) h
  have e : (l + 1) * s = x.length + l * s := by rw [Nat.succ_mul, hs]; omega
  constructor
  ·rw [List.replicate_succ, List.take_succ_cons, e, List.take_length_add_append]
   exact .cons hp hs ht h1
  ·rw [List.drop_succ_cons, e, List.drop_length_add_append, show n + 1 - (l + 1) = n - l by omega]
   exact h2
theorem PR.sub {D : Nat → Nat → Prop} {w : World} {E : TypeId} {ps : List Pu} {a : Option Addr} {n cap : Nat} (h : PR P D w (.sl lo E ps) [.slice a n cap]) {l r : Nat} (h1 : l ≤ r) (h2 : r ≤ ps.length) :
  n = ps.length ∧ ((ps = [] → l = 0 ∧ r = 0) ∧ ps.length ≤ cap ∨ ps = []) ∧ PR P D w (.sl 0 E ((ps.take r).drop l)) [.slice (if cap = l then a else a.map (·.add (l * P.cellsOf E))) (r - l) (cap - l)] := by
 obtain ⟨e1, x, hx, hxl, hc⟩ := h.cells
 refine ⟨e1, ?_, ?_⟩
 ·by_cases h0 : ps = []
  ·exact .inr h0
  ·exact .inl ⟨fun e => absurd e h0, by obtain ⟨_, _, _, h3, _⟩ := hc h0; omega⟩
 ·have hlen : ((ps.take r).drop l).length = r - l := by simp; omega
  by_cases h0 : r - l = 0
  ·have e : (ps.take r).drop l = [] := List.length_eq_zero_iff.1 (by omega)
   rw [e, h0];exact .sl0
  ·have hne : ps ≠ [] := fun e => by subst e; simp at h2; omega
   obtain ⟨b, o, rfl, hcap, hcell⟩ := hc hne
   rw [if_neg (by omega)]
   have ha : (⟨b, o, none⟩ : Addr).add (l * P.cellsOf E) = ⟨b, o + l * P.cellsOf E, none⟩ := by unfold Addr.add; split <;> simp_all
   have hp1 := (hx.parts (l := r) (by omega)).1
   have hp2 := (hp1.parts (l := l) h1).2
   simp only [Option.map_some, ha]
   rw [← hlen];refine .sl (fun e => h0 (by rw [← hlen, e]; rfl)) (by omega) (by rw [hlen]; exact hp2) (fun j v hj => ?_) (.inl rfl)
   rw [List.getElem?_drop, List.getElem?_take] at hj
   split at hj
   ·obtain ⟨k1, k2⟩ := hcell _ _ hj
    have ha2 : (⟨b, o, none⟩ : Addr).add (l * P.cellsOf E + j) = ⟨b, o + l * P.cellsOf E + j, none⟩ := by unfold Addr.add; split <;> simp_all <;> omega
    rw [ha2] at k1
    exact ⟨k1, by rw [Nat.add_assoc]; exact k2⟩
   ·cases hj
theorem VW.sl_inv {C : Cfg} {w : World} {E : TypeId} {ps : List Pu} {x : Value} (h : VW P C w (.pu (.sl lo E ps)) x) : ∃ a n cap, x = .slice a n cap ∧ PR P C.D w (.sl lo E ps) [.slice a n cap] := by
 have := h.cell rfl (fun _ => by simp)
 have := this.pu_inv
 cases this with
 | sl0 => exact ⟨_, _, _, rfl, .sl0⟩
 | sl h1 h2 h3 h4 h5 => exact ⟨_, _, _, rfl, .sl h1 h2 h3 h4 h5⟩
theorem run_slice {w : World} {t E : TypeId} {a : Option Addr} {n cap l r : Nat} {lv hv : Option Value} (ht : P.underlying t = some (.slice E)) (hE : ∃ i, P.info? E = some i) (h1 : l ≤ r) (h2 : r ≤ cap)
  (hl : lv = none ∧ l = 0 ∨ lv = some (.int .i64 l)) (hr : hv = none ∧ r = n ∨ hv = some (.int .i64 r)) :
  (Instr.sliceAt t (.slice a n cap) lv hv none).run P w = .ok (.slice (if cap = l then a else a.map (·.add (l * P.cellsOf E))) (r - l) (cap - l)) w := by
 obtain ⟨i, hi⟩ := hE
 have hb : (Instr.sliceBounds true n cap lv hv none).run P w = .ok (l, r, cap) w := by
  rcases hl with ⟨rfl, rfl⟩ | rfl <;> rcases hr with ⟨rfl, rfl⟩ | rfl <;>
   simp [Instr.sliceBounds, Instr.sliceBound, asIntOf, h1, h2] <;> omega
 have e : P.cellsOf E = i.size := cellsOf_info hi
 simp [Instr.sliceAt, Instr.slice, run_underlying ht, Go.sizeOf, typeInfo, hi, hb, e]
theorem sl_info {t E : TypeId} (hS : Sl P t E) (hT : tableOk P = true) : ∃ i, P.info? E = some i := by
 obtain ⟨h1, h2⟩ := hS.spec
 obtain ⟨i, d, h3, _⟩ := under_some hT (slice_lt hT h1 h2)
 exact ⟨i, h3⟩
theorem v_slice {x : Operand} {lw hw : Option Operand} {t E : TypeId} {ps : List Pu} {l r : Nat} (S : Seat P) [hS : Sl P t E] (h : Ev X st.env g x (.pu (.sl lo E ps)))
  (hl : lw = none ∧ l = 0 ∨ ∃ y, lw = some y ∧ Ev X st.env g y (iv .i64 l)) (hr : hw = none ∧ r = ps.length ∨ ∃ y, hw = some y ∧ Ev X st.env g y (iv .i64 r)) (h1 : l ≤ r) (h2 : r ≤ ps.length) :
  ValG P X st (.slice t x lw hw none) g (.pu (.sl 0 E ((ps.take r).drop l))) { reads := tmpsOf (x :: (lw.toList ++ hw.toList)) } :=
 ⟨fun hg st' ha C a w hs o ho hd => by
  have hx : VW P C w (.pu (.sl lo E ps)) (a.eval x) := by
   obtain ⟨q, e1, e2⟩ := h hg
   rw [← evalO_congr (env := st.env) (env' := st'.env) fun t e => ha.env t (mem_tmpsOf (by rw [e]; simp))] at e1
   exact e2 ▸ hs.eval e1
  have hl' : lw.map a.eval = none ∧ l = 0 ∨ lw.map a.eval = some (.int .i64 l) := by
   rcases hl with ⟨rfl, rfl⟩ | ⟨y, rfl, hy⟩
   ·exact .inl ⟨rfl, rfl⟩
   ·obtain ⟨q, e1, e2⟩ := hy hg
    rw [← evalO_congr (env := st.env) (env' := st'.env) fun t e => ha.env t (mem_tmpsOf (by rw [e]; simp))] at e1
    have := e2 ▸ hs.eval e1
    exact .inr (by simp [this.leaf_inv.1])
  have hr' : hw.map a.eval = none ∧ r = ps.length ∨ hw.map a.eval = some (.int .i64 r) := by
   rcases hr with ⟨rfl, rfl⟩ | ⟨y, rfl, hy⟩
   ·exact .inl ⟨rfl, rfl⟩
   ·obtain ⟨q, e1, e2⟩ := hy hg
    rw [← evalO_congr (env := st.env) (env' := st'.env) fun t e => ha.env t (mem_tmpsOf (by rw [e]; simp))] at e1
    have := e2 ▸ hs.eval e1
    exact .inr (by simp [this.leaf_inv.1])
  obtain ⟨ad, n, cap, e1, e2⟩ := hx.sl_inv
  obtain ⟨rfl, e3, e4⟩ := e2.sub h1 h2
  have hcap : r ≤ cap := by
   rcases e3 with ⟨_, h⟩ | h
   ·omega
   ·subst h; simp at h2; omega
  refine exec_value (w' := w) (C' := C) (y := .slice (if cap = l then ad else ad.map (·.add (l * P.cellsOf E))) (r - l) (cap - l)) ?_ (hs.upd_put (dstOk_spec hd) (.one (.pu e4) rfl) none True) (Tr.refl _ _ _ _) (fun L d hL => by simp at hL)
  obtain ⟨dst, op, type, pos, after, guard⟩ := o
  simp only at ho
  subst ho
  have := run_slice (w := w) (a := ad) (n := ps.length) hS.spec.2 (sl_info hS S.hT) h1 hcap hl' hr'
  simp [execOp, e1, this]⟩
theorem v_sliceTo {x y : Operand} {t E : TypeId} {ps : List Pu} {r : Nat} (S : Seat P) [hS : Sl P t E] (h2 : r ≤ ps.length) (h : Ev X st.env g x (.pu (.sl lo E ps)) := by first | (focus (apply Ev.mk; exact rfl; (repeat constructor); done)) | (focus (apply Ev.gd; exact rfl; (repeat constructor); done)) | (focus (apply Ev.left; exact rfl; (repeat constructor); done)) | (focus (apply Ev.left2; exact rfl; (repeat constructor); done))) (hr : Ev X st.env g y (iv .i64 r) := by first | (focus (apply Ev.mk; exact rfl; (repeat constructor); done)) | (focus (apply Ev.gd; exact rfl; (repeat constructor); done)) | (focus (apply Ev.left; exact rfl; (repeat constructor); done)) | (focus (apply Ev.left2; exact rfl; (repeat constructor); done))) :
  ValG P X st (.slice t x none (some y) none) g (.pu (.sl 0 E (ps.take r))) { reads := tmpsOf [x, y] } := by
 have := v_slice (l := 0) (r := r) (lw := none) (hw := some y) (t := t) S h (.inl ⟨rfl, rfl⟩) (.inr ⟨y, rfl, hr⟩) (Nat.zero_le _) h2
 rwa [List.drop_zero] at this
theorem v_sliceFrom {x y : Operand} {t E : TypeId} {ps : List Pu} {l : Nat} (S : Seat P) [hS : Sl P t E] (h1 : l ≤ ps.length) (h : Ev X st.env g x (.pu (.sl lo E ps)) := by first | (focus (apply Ev.mk; exact rfl; (repeat constructor); done)) | (focus (apply Ev.gd; exact rfl; (repeat constructor); done)) | (focus (apply Ev.left; exact rfl; (repeat constructor); done)) | (focus (apply Ev.left2; exact rfl; (repeat constructor); done))) (hl : Ev X st.env g y (iv .i64 l) := by first | (focus (apply Ev.mk; exact rfl; (repeat constructor); done)) | (focus (apply Ev.gd; exact rfl; (repeat constructor); done)) | (focus (apply Ev.left; exact rfl; (repeat constructor); done)) | (focus (apply Ev.left2; exact rfl; (repeat constructor); done))) :
  ValG P X st (.slice t x (some y) none none) g (.pu (.sl 0 E (ps.drop l))) { reads := tmpsOf [x, y] } := by
 have := v_slice (l := l) (r := ps.length) (lw := some y) (hw := none) (t := t) S h (.inr ⟨y, rfl, hl⟩) (.inl ⟨rfl, rfl⟩) h1 (Nat.le_refl _)
 rwa [List.take_length] at this
theorem v_max3 {x y z : Operand} {ts : Array TypeId} {k : IntKind} {a b c : Int} (hx : evalO X.G st.env x = some (iv k a) := by rfl) (hy : evalO X.G st.env y = some (iv k b) := by rfl) (hz : evalO X.G st.env z = some (iv k c) := by rfl) :
  ValG P X st (.call ⟨.builtin .max, #[x, y, z], ts⟩) g (iv k (max (max a b) c)) { reads := tmpsOf [x, y, z] } :=
 ⟨fun _ st' ha C q w hs o ho hd => by
  have hx' : evalO X.G st'.env x = some (iv k a) := by
   rw [evalO_congr (env := st.env) fun t e => ha.env t (mem_tmpsOf (by rw [e]; simp))];exact hx
  have hy' : evalO X.G st'.env y = some (iv k b) := by
   rw [evalO_congr (env := st.env) fun t e => ha.env t (mem_tmpsOf (by rw [e]; simp))];exact hy
  have hz' : evalO X.G st'.env z = some (iv k c) := by
   rw [evalO_congr (env := st.env) fun t e => ha.env t (mem_tmpsOf (by rw [e]; simp))];exact hz
  have ex := (hs.eval hx').leaf_inv.1
  have ey := (hs.eval hy').leaf_inv.1
  have ez := (hs.eval hz').leaf_inv.1
  refine exec_value (w' := w) (C' := C) (y := .int k (max (max a b) c)) ?_ (hs.upd_put (dstOk_spec hd) VW.iv_mk none True) (Tr.refl _ _ _ _) (fun L d hL => by simp at hL)
  obtain ⟨dst, op, type, pos, after, guard⟩ := o
  simp only at ho
  subst ho
  have e : max (max a b) c = if (if a < b then b else a) < c then c else (if a < b then b else a) := by split <;> split at * <;> omega
  rw [e]
  simp [execOp, resolve, invoke, builtin, ex, ey, ez, Builtin.max_, Builtin.max2]⟩
theorem v_indexG {x y : Operand} {t E : TypeId} {ps : List Pu} {k : IntKind} {i : Int} (S : Seat P) [hS : Sl P t E] (p : Pu) (hp : g = true → 0 ≤ i ∧ ps[i.toNat]? = some p) (h : Ev X st.env g x (.pu (.sl lo E ps)) := by first | (focus (apply Ev.mk; exact rfl; (repeat constructor); done)) | (focus (apply Ev.gd; exact rfl; (repeat constructor); done)) | (focus (apply Ev.left; exact rfl; (repeat constructor); done)) | (focus (apply Ev.left2; exact rfl; (repeat constructor); done))) (hi : Ev X st.env g y (iv k i) := by first | (focus (apply Ev.mk; exact rfl; (repeat constructor); done)) | (focus (apply Ev.gd; exact rfl; (repeat constructor); done)) | (focus (apply Ev.left; exact rfl; (repeat constructor); done)) | (focus (apply Ev.left2; exact rfl; (repeat constructor); done))) :
  ValG P X st (.indexAddr t x y) g (.pp E (.pu p)) { reads := tmpsOf [x, y] } := ⟨fun hg => (v_index S h hi (hp hg).1 (hp hg).2).exec hg⟩
end Hs

/- What an argument reads as: pure data. -/
namespace Hs
open Go Go.RowKit
variable {P : Program}
section
variable {H : Type} (P)
mutual
inductive HT : TypeId → DataW H → Pu → Prop
 | bool {T : TypeId} {b : Bool} (h : P.underlying T = some .bool) : HT T (.lit (.bool b)) (.leaf (.bool b))
 | int {T : TypeId} {k : IntKind} {n : Int} (h : P.underlying T = some (.int k)) (hw : (Lit.int k n).wf = true) : HT T (.lit (.int k n)) (.leaf (.int k n))
 | str {T : TypeId} {s : ByteArray} (h : P.underlying T = some .string) : HT T (.lit (.string s.data.toList)) (.leaf (.string s))
 | nil {T E : TypeId} (h : P.underlying T = some (.slice E)) : HT T .nil (.sl 0 E [])
 | sl {T E : TypeId} {ds sp : List (DataW H)} {ps : List Pu} (h : P.underlying T = some (.slice E)) (hl : HTs (List.replicate ps.length E) ds ps) : HT T (.slice ds sp) (.sl 0 E ps)
 | agg {T : TypeId} {cs : List (Nat × TypeId)} {ds : List (DataW H)} {ps : List Pu} (hc : comps P T = some cs) (h : HTs (cs.map (·.2)) ds ps) : HT T (.agg ds) (.agg T ps)
inductive HTs : List TypeId → List (DataW H) → List Pu → Prop
 | nil : HTs [] [] []
 | cons {T : TypeId} {Ts : List TypeId} {d : DataW H} {ds : List (DataW H)} {p : Pu} {ps : List Pu} (h : HT T d p) (t : HTs Ts ds ps) : HTs (T :: Ts) (d :: ds) (p :: ps)
end
def dataB (al : List TypeId) : Bool := al.all fun t => decide (t < P.types.size) && decide (0 < P.cellsOf t) && match P.underlying t with
 | some .bool | some (.int _) | some .string => true
 | some (.slice e) => al.contains e
 | some (.struct fs) => fs.toList.all (fun f => al.contains f.type)
 | some (.array _ e) => al.contains e
 | _ => false
end
theorem comps_none {T : TypeId} {d : TypeDesc} (h : P.underlying T = some d) (hd : (match d with | .struct _ | .array _ _ => false | _ => true) = true) : (comps P T).isNone = true := by
 unfold comps
 split
 ·rfl
 ·rw [h]
  cases d <;> simp at hd ⊢
section
variable {H : Type}
theorem HTs.append {Ts Ts' : List TypeId} {ds ds' : List (DataW H)} {ps ps' : List Pu} : HTs P Ts ds ps → HTs P Ts' ds' ps' → HTs P (Ts ++ Ts') (ds ++ ds') (ps ++ ps')
 | .nil, k => k
 | .cons h t, k => .cons h (HTs.append t k)
theorem HTs.build {D : Nat → Nat → Prop} {w : World} : ∀ (cl : List (Nat × TypeId)) (x : List Value) (ds : List (DataW H)), x.length = (cl.map (·.1)).sum → ds.length = cl.length →
  (∀ (i s : Nat) (t : TypeId) (d : DataW H), cl[i]? = some (s, t) → ds[i]? = some d → ∃ p, HT P t d p ∧ PR P D w p ((x.drop (offOf cl i)).take s) ∧ tyP P t p = true) → ∃ ps, HTs P (cl.map (·.2)) ds ps ∧ PRs P D w cl ps x
 | [], x, ds, hx, hd, _ => by
  simp at hx hd
  subst hx hd;exact ⟨[], .nil, .nil⟩
 | (s, t) :: cl, x, [], _, hd, _ => by simp at hd
 | (s, t) :: cl, x, d :: ds, hx, hd, h => by
  simp only [List.map_cons, List.sum_cons] at hx
  obtain ⟨p, h1, h2, h3⟩ := h 0 s t d rfl rfl
  simp only [offOf, List.take_zero, List.map_nil, List.sum_nil, List.drop_zero] at h2
  obtain ⟨ps, h4, h5⟩ := HTs.build cl (x.drop s) ds (by simp; omega) (by simpa using hd) fun i s' t' d' hi hd' => by
   obtain ⟨p', k1, k2, k3⟩ := h (i + 1) s' t' d' (by simpa using hi) (by simpa using hd')
   refine ⟨p', k1, ?_, k3⟩
   rw [List.drop_drop]
   simpa [offOf, Nat.add_comm] using k2
  refine ⟨p :: ps, .cons h1 h4, ?_⟩
  have := PRs.cons (P := P) (D := D) (w := w) (s := s) h2 (by simp; omega) h3 h5
  rwa [List.take_append_drop] at this
theorem HTs.row {w : World} {s : Nat} {E : TypeId} {b o : Nat} : ∀ (n : Nat) (ds : List (DataW H)), ds.length = n →
  (∀ i d, ds[i]? = some d → ∃ cs p, cs.length = s ∧ (∀ k v, cs[k]? = some v → w.cell? ⟨b, o + i * s + k, none⟩ = some v) ∧ HT P E d p ∧ PR P (fun b _ => b < w.heap.size) w p cs ∧ tyP P E p = true) →
  ∃ ps x, ps.length = n ∧ HTs P (List.replicate n E) ds ps ∧ PRs P (fun b _ => b < w.heap.size) w (List.replicate n (s, E)) ps x ∧ x.length = n * s ∧ ∀ j v, x[j]? = some v → w.cell? ⟨b, o + j, none⟩ = some v
 | 0, ds, hd, _ => by
  have : ds = [] := List.length_eq_zero_iff.1 hd
  subst this;exact ⟨[], [], rfl, .nil, .nil, by simp, by simp⟩
 | n + 1, ds, hd, h => by
  obtain ⟨d, hdn⟩ : ∃ d, ds[n]? = some d := ⟨ds[n]'(by omega), List.getElem?_eq_getElem _⟩
  have hsplit : ds = ds.take n ++ [d] := by
   have h1 := List.take_append_drop n ds
   have h2 : ds.drop n = [d] := by
    rw [List.drop_eq_getElem_cons (by omega)]
    rw [List.getElem?_eq_getElem (by omega)] at hdn
    simp only [Option.some.injEq] at hdn
    rw [hdn, List.drop_of_length_le (by omega)]
   rw [h2] at h1
   exact h1.symm
  obtain ⟨ps, x, p1, p2, p3, p4, p5⟩ := HTs.row n (ds.take n) (by simp; omega) fun i d' hi => by
   refine h i d' ?_
   rw [List.getElem?_take] at hi
   split at hi
   ·exact hi
   ·cases hi
  obtain ⟨cs, p, c1, c2, c3, c4, c5⟩ := h n d hdn
  refine ⟨ps ++ [p], x ++ cs, by simp [p1], ?_, ?_, by rw [List.length_append, p4, c1, Nat.succ_mul], fun j v hj => ?_⟩
  ·rw [hsplit, List.replicate_succ']
   exact p2.append (.cons c3 .nil)
  ·rw [List.replicate_succ']
   have := PRs.cons (P := P) c4 c1 c5 .nil
   rw [List.append_nil] at this
   exact p3.append this
  ·rw [List.getElem?_append] at hj
   split at hj
   ·exact p5 j v hj
   ·rename_i hge
    have := c2 _ _ hj
    rwa [show o + n * s + (j - x.length) = o + j by omega] at this
theorem trod_ht (hT : tableOk P = true) {al : List TypeId} (hal : dataB P al = true) {enc : TypeId × Value → H} {w : World} {sp : Nat → Bool} {held : Bool} : ∀ (fuel : Nat) (t : TypeId) (cs : List Value) (y : DataW H × List MemPlace), t ∈ al →
  DataW.trod enc P w 0 sp held fuel t cs = some y → ∃ p, HT P t y.1 p ∧ PR P (fun b _ => b < w.heap.size) w p cs ∧ tyP P t p = true ∧ cs.length = P.cellsOf t
 | 0, _, _, _, _, h => by simp [DataW.trod] at h
 | fuel + 1, t, cs, y, ht, h => by
  have ha := List.all_eq_true.1 hal t ht
  simp only [Bool.and_eq_true, decide_eq_true_eq] at ha
  obtain ⟨⟨hlt, hpos⟩, ha⟩ := ha
  have hone : ∀ d, P.underlying t = some d → (match d with | .bool | .int _ | .string | .slice _ => true | _ => false) = true → P.cellsOf t = 1 := fun d hd hm => by
   have htk := tableOk_at hT hlt
   unfold typeOk at htk
   obtain ⟨i, _, hi, _⟩ := under_some hT hlt
   rw [hi, hd] at htk
   cases d <;> simp_all
  cases hu : P.underlying t with
  | none => rw [hu] at ha; simp at ha
  | some d =>
   rw [hu] at ha
   cases d with
   | bool =>
    obtain ⟨b, rfl, rfl⟩ := DataW.trod_bool hu h
    exact ⟨_, .bool hu, .leaf rfl, comps_none hu rfl, (hone _ hu rfl).symm⟩
   | int k =>
    obtain ⟨n, rfl, rfl, hw⟩ := DataW.trod_int hu h
    exact ⟨_, .int hu hw, .leaf rfl, comps_none hu rfl, (hone _ hu rfl).symm⟩
   | string =>
    obtain ⟨s, rfl, rfl, _⟩ := DataW.trod_string hu h
    exact ⟨_, .str hu, .leaf rfl, comps_none hu rfl, (hone _ hu rfl).symm⟩
   | struct fs =>
    obtain ⟨xs, n, hn, rfl, hl, hlen, hf⟩ := DataW.trod_struct hu h
    obtain rfl : fuel = n := by omega
    have hc : comps P t = some (fs.toList.map fun f => (P.cellsOf f.type, f.type)) := by
     unfold comps
     rw [if_neg (Nat.not_le_of_lt hlt), hu]
    have hsz := size_comps hT hc
    obtain ⟨ps, h1, h2⟩ := HTs.build (P := P) (D := fun b _ => b < w.heap.size) (w := w) _ cs (xs.map (·.1)) (hl.trans hsz) (by simp [hlen]) fun i s t' d' hi hd => by
     simp only [List.getElem?_map, Option.map_eq_some_iff] at hi hd
     obtain ⟨f, hf1, hf2⟩ := hi
     obtain ⟨z, hz1, hz2⟩ := hd
     simp only [Prod.mk.injEq] at hf2
     obtain ⟨rfl, rfl⟩ := hf2
     subst hz2
     have hfa : fs[i]? = some f := by simpa using hf1
     have hoff := (offset_comps hT hlt hu hfa).1
     have := hf i f hfa
     rw [hz1, hoff] at this
     simp only [List.all_eq_true] at ha
     have hmem : f.type ∈ al := by simpa using ha f (List.mem_of_getElem? hf1)
     obtain ⟨p, k1, k2, k3, _⟩ := trod_ht hT hal fuel _ _ z hmem this
     exact ⟨p, k1, k2, k3⟩
    exact ⟨_, .agg hc h1, .agg hc h2, by simp [tyP, hc], hl⟩
   | array m e =>
    obtain ⟨xs, n, hn, rfl, hl, hlen, hf⟩ := DataW.trod_array hu h
    obtain rfl : fuel = n := by omega
    have hc : comps P t = some (List.replicate m (P.cellsOf e, e)) := by
     unfold comps
     rw [if_neg (Nat.not_le_of_lt hlt), hu]
    have hsz := size_comps hT hc
    obtain ⟨ps, h1, h2⟩ := HTs.build (P := P) (D := fun b _ => b < w.heap.size) (w := w) _ cs (xs.map (·.1)) (hl.trans hsz) (by simp [hlen]) fun i s t' d' hi hd => by
     simp only [List.getElem?_map, Option.map_eq_some_iff] at hd
     obtain ⟨z, hz1, hz2⟩ := hd
     rw [List.getElem?_replicate] at hi
     split at hi
     ·rename_i him
      simp only [Option.some.injEq, Prod.mk.injEq] at hi
      obtain ⟨rfl, rfl⟩ := hi
      subst hz2
      have := hf i him
      rw [hz1] at this
      have hmem : e ∈ al := by simpa using ha
      obtain ⟨p, k1, k2, k3, _⟩ := trod_ht hT hal fuel _ _ z hmem this
      refine ⟨p, k1, ?_, k3⟩
      have hoff : offOf (List.replicate m (P.cellsOf e, e)) i = i * P.cellsOf e := by
       simp [offOf, List.take_replicate, Nat.min_eq_left (Nat.le_of_lt him)]
      rw [hoff]; exact k2
     ·cases hi
    exact ⟨_, .agg hc h1, .agg hc h2, by simp [tyP, hc], hl⟩
   | slice e =>
    rcases DataW.trod_slice hu h with ⟨rfl, rfl⟩ | ⟨a, len, cap, elems, rest, n, hn, rfl, rfl, hb, hl, hm, hlen, hel, _, _⟩
    ·exact ⟨_, .nil hu, .sl0, comps_none hu rfl, (hone _ hu rfl).symm⟩
    ·obtain rfl : fuel = n := by omega
     have hmem : e ∈ al := by simpa using ha
     have he := List.all_eq_true.1 hal e hmem
     simp only [Bool.and_eq_true, decide_eq_true_eq] at he
     have hepos := he.1.2
     obtain ⟨b, o, spt⟩ := a
     by_cases h0 : len = 0
     ·subst h0
      have : elems = [] := List.length_eq_zero_iff.1 hlen
      subst this;exact ⟨_, .sl hu (ps := []) .nil, .sl0, comps_none hu rfl, (hone _ hu rfl).symm⟩
     ·have hspot : spt = none := by
       have h1 := hel 0 (by omega)
       rw [List.getElem?_eq_getElem (by omega), Option.bind_eq_some_iff] at h1
       obtain ⟨c0, h2, _⟩ := h1
       obtain ⟨_, k1, k2⟩ := World.cells?_some h2
       have k3 := k2 0 hepos
       rw [Nat.zero_mul] at k3
       have k4 : w.cell? ⟨b, o, spt⟩ = some (c0[0]'(by omega)) := by simpa [Addr.add, List.getElem?_eq_getElem (show 0 < c0.length by omega)] using k3
       exact World.cell?_spot k4
      subst hspot
      obtain ⟨ps, x, q1, q2, q3, q4, q5⟩ := HTs.row (P := P) (w := w) (s := P.cellsOf e) (E := e) (b := b) (o := o) len (elems.map (·.1)) (by simp [hlen]) fun i d hi => by
       simp only [List.getElem?_map, Option.map_eq_some_iff] at hi
       obtain ⟨z, hz1, rfl⟩ := hi
       have hil : i < len := by rw [← hlen]; exact (List.getElem?_eq_some_iff.1 hz1).1
       have h1 := hel i hil
       rw [hz1, Option.bind_eq_some_iff] at h1
       obtain ⟨c, h2, h3⟩ := h1
       obtain ⟨_, k1, k2⟩ := World.cells?_some h2
       obtain ⟨p, g1, g2, g3, _⟩ := trod_ht hT hal fuel _ _ z hmem h3
       refine ⟨c, p, k1, fun k v hk => ?_, g1, g2, g3⟩
       have hkl : k < P.cellsOf e := by rw [← k1]; exact (List.getElem?_eq_some_iff.1 hk).1
       have := k2 k hkl
       rw [hk] at this
       rw [← this]
       congr 1
       have ea : ∀ q r : Nat, (⟨b, q, none⟩ : Addr).add r = ⟨b, q + r, none⟩ := fun q r => by unfold Addr.add; split <;> simp_all
       rw [ea, ea]
      subst q1
      refine ⟨.sl 0 e ps, .sl hu q2, ?_, comps_none hu rfl, (hone _ hu rfl).symm⟩
      refine .sl (fun e => h0 (by rw [e]; rfl)) hl q3 (fun j v hj => ⟨q5 j v hj, ?_⟩) (.inl rfl)
      have := q5 j v hj
      refine Nat.lt_of_not_le fun hb' => ?_
      simp only [World.cell?, Array.getElem?_eq_none hb'] at this
      cases this
   | _ => simp at ha
termination_by fuel => fuel
end
section
variable {H : Type}
theorem comps_not {T : TypeId} {cs : List (Nat × TypeId)} {d : TypeDesc} (hc : comps P T = some cs) (h : P.underlying T = some d) (hd : (match d with | .struct _ | .array _ _ => false | _ => true) = true) : False := by
 have := comps_none h hd
 rw [hc] at this; cases this
theorem HT.int_inv {T : TypeId} {k : IntKind} {d : DataW H} {p : Pu} (hu : P.underlying T = some (.int k)) (h : HT P T d p) : ∃ n, d = .lit (.int k n) ∧ p = .leaf (.int k n) ∧ (Lit.int k n).wf = true := by
 cases h with
 | int h hw => rw [hu] at h; cases h; exact ⟨_, rfl, rfl, hw⟩
 | agg hc _ => exact (comps_not hc hu rfl).elim
 | _ h => rw [hu] at h; cases h
theorem HT.sl_inv {T E : TypeId} {d : DataW H} {p : Pu} (hu : P.underlying T = some (.slice E)) (h : HT P T d p) : ∃ ds sp ps, (d = .nil ∧ ds = [] ∨ d = .slice ds sp) ∧ p = .sl 0 E ps ∧ HTs P (List.replicate ps.length E) ds ps := by
 cases h with
 | nil h => rw [hu] at h; cases h; exact ⟨[], [], [], .inl ⟨rfl, rfl⟩, rfl, .nil⟩
 | sl h hl => rw [hu] at h; cases h; exact ⟨_, _, _, .inr rfl, rfl, hl⟩
 | agg hc _ => exact (comps_not hc hu rfl).elim
 | _ h => rw [hu] at h; cases h
theorem HT.agg_inv {T : TypeId} {cs : List (Nat × TypeId)} {d : DataW H} {p : Pu} (hc : comps P T = some cs) (h : HT P T d p) : ∃ ds ps, d = .agg ds ∧ p = .agg T ps ∧ HTs P (cs.map (·.2)) ds ps := by
 cases h with
 | agg hc' h => rw [hc] at hc'; cases hc'; exact ⟨_, _, rfl, rfl, h⟩
 | sl h _ => exact (comps_not hc h rfl).elim
 | int h _ => exact (comps_not hc h rfl).elim
 | _ h => exact (comps_not hc h rfl).elim
theorem HTs.cons_inv {T : TypeId} {Ts : List TypeId} {ds : List (DataW H)} {ps : List Pu} (h : HTs P (T :: Ts) ds ps) : ∃ d ds' p ps', ds = d :: ds' ∧ ps = p :: ps' ∧ HT P T d p ∧ HTs P Ts ds' ps' := by
 cases h with
 | cons h t => exact ⟨_, _, _, _, rfl, rfl, h, t⟩
theorem HTs.nil_inv {ds : List (DataW H)} {ps : List Pu} (h : HTs P [] ds ps) : ds = [] ∧ ps = [] := by
 cases h; exact ⟨rfl, rfl⟩
theorem HTs.all {α : Type} {E : TypeId} {enc : α → Pu} {φ : DataW H → α → Prop} : ∀ {n : Nat} {ds : List (DataW H)} {ps : List Pu}, HTs P (List.replicate n E) ds ps → (∀ d ∈ ds, ∀ p, HT P E d p → ∃ a, p = enc a ∧ φ d a) → ∃ l : List α, ps = l.map enc ∧ l.length = ds.length ∧ ∀ (i : Nat) (d : DataW H) (a : α), ds[i]? = some d → l[i]? = some a → φ d a
 | 0, _, _, h, _ => by
  obtain ⟨rfl, rfl⟩ := h.nil_inv
  exact ⟨[], rfl, rfl, by simp⟩
 | n + 1, _, _, h, hd => by
  rw [List.replicate_succ] at h
  obtain ⟨d, ds, p, ps, rfl, rfl, h1, h2⟩ := h.cons_inv
  obtain ⟨a, rfl, ha⟩ := hd d (by simp) p h1
  obtain ⟨l, rfl, hl, h3⟩ := HTs.all h2 fun d hm => hd d (by simp [hm])
  refine ⟨a :: l, rfl, by simp [hl], fun i d' a' hi hj => ?_⟩
  cases i with
  | zero => simp at hi hj; subst hi hj; exact ha
  | succ i => exact h3 i d' a' (by simpa using hi) (by simpa using hj)
end
theorem agg_of {w : World} {t : TypeId} {r : Reach} {b0 : Nat} {v : Value} (h : (match P.underlying t with | some (.struct _) => true | _ => false) = true) (hv : Value.okWide P w r b0 t v) : valAgg v = true := by
 cases hu : P.underlying t with
 | none => rw [hu] at h; cases h
 | some d =>
  rw [hu] at h
  cases d with
  | struct fs =>
   obtain ⟨cs, rfl, _⟩ := Go.WideShapes.okWide_struct hu hv
   rfl
  | _ => cases h
end Hs

/- Walks in which slots are known by their very values, and the world is at hand. -/
namespace Hs
open Go Go.RowKit
variable {P : Program}
structure Kn (n : Nat) (ds : List Deferred) (env : List (Nat × Value)) (a : Act) : Prop where
 size : a.tmps.size = n
 defers : a.defers = ds
 env : ∀ i v, get env i = some v → a.tmps[i]? = some v
def evR (env : List (Nat × Value)) : Operand → Option Value
 | .tmp t => get env t
 | .const v => some v
 | .func f => some (.func (.func f) #[] #[])
 | _ => none
variable {n : Nat} {ds : List Deferred} {env : List (Nat × Value)} {w : World}
theorem Kn.eval {a : Act} (h : Kn n ds env a) {o : Operand} {v : Value} (hv : evR env o = some v) : a.eval o = v := by
 cases o with
 | tmp t => simp only [Act.eval, Array.getD_eq_getD_getElem?, h.env t v hv, Option.getD_some]
 | const x => simp [evR] at hv; exact hv
 | func f => simp [evR] at hv; exact hv
 | global g => simp [evR] at hv
theorem Kn.put {a : Act} (h : Kn n ds env a) {d : Nat} (hd : d < n) (v : Value) : Kn n ds ((d, v) :: env) (a.put (some d) v) :=
 ⟨by simpa [Act.put] using h.size, by simpa [Act.put] using h.defers, fun i u hu => by
  rw [get_cons] at hu
  split at hu
  ·rename_i e
   subst e
   simp at hu
   subst hu
   simp [Act.put, h.size, hd]
  ·rename_i e
   simp only [Act.put]
   rw [Array.getElem?_setIfInBounds_ne (fun e' => e e'.symm)]
   exact h.env i u hu⟩
theorem Kn.less {a : Act} {env' : List (Nat × Value)} (h : Kn n ds env a) (k : ∀ i v, get env' i = some v → get env i = some v) : Kn n ds env' a := ⟨h.size, h.defers, fun i v hv => h.env i v (k i v hv)⟩
def RTri (P : Program) (n : Nat) (ds : List Deferred) (c : Code) (env : List (Nat × Value)) (w : World) (Q : Exit → List (Nat × Value) → World → Prop) : Prop :=
 ∀ a, Kn n ds env a → c.wpIn (rf none) 0 P (fun e a' w' => ∃ env', Kn n ds env' a' ∧ Q e env' w') a w
def RL (P : Program) (n : Nat) (ds : List Deferred) (ops : Array Oper) (Q : List (Nat × Value) → World → Prop) (l : List Oper) (env : List (Nat × Value)) (w : World) : Prop :=
 ∀ (R : Exit → Act → World → Prop), (∀ a' w' env', Kn n ds env' a' → Q env' w' → R .normal a' w') → ∀ a, Kn n ds env a → wpListIn (rf none) 0 P ops R l a w
variable {Q : Exit → List (Nat × Value) → World → Prop} {x y c : Code}
theorem RTri.less {env' : List (Nat × Value)} (h : RTri P n ds c env' w Q) (k : ∀ i v, get env' i = some v → get env i = some v) : RTri P n ds c env w Q := fun a ha => h a (ha.less k)
def thenR (K : List (Nat × Value) → World → Prop) (Q : Exit → List (Nat × Value) → World → Prop) : Exit → List (Nat × Value) → World → Prop
 | .normal, s, w => K s w
 | e, s, w => Q e s w
theorem RTri.seq (h : RTri P n ds x env w (thenR (fun s w => RTri P n ds y s w Q) Q)) : RTri P n ds (.seq x y) env w Q := fun a ha => by
 refine wpIn_seq (wpIn_mono (h a ha) fun e a' w' ⟨s, hs, q⟩ => ?_)
 cases e with
 | normal => exact q a' hs
 | _ => exact ⟨s, hs, q⟩
theorem RTri.skip (h : Q .normal env w) : RTri P n ds .skip env w Q := fun _ ha => wpIn_skip ⟨env, ha, h⟩
theorem RTri.exit {id : Nat} (h : Q (.exit id) env w) : RTri P n ds (.exit id) env w Q := fun _ ha => wpIn_exit ⟨env, ha, h⟩
theorem RTri.cond {o : Operand} {b : Bool} (hc : evR env o = some (.bool b)) (hx : b = true → RTri P n ds x env w Q) (hy : b = false → RTri P n ds y env w Q) : RTri P n ds (.cond o x y) env w Q :=
 fun a ha => wpIn_cond_split (ha.eval hc) (fun hb => hx hb a ha) fun hb => hy hb a ha
def blockR (id : Nat) (Q : Exit → List (Nat × Value) → World → Prop) : Exit → List (Nat × Value) → World → Prop
 | .exit id', s, w => if id' = id then Q .normal s w else Q (.exit id') s w
 | e, s, w => Q e s w
theorem RTri.block {id : Nat} (h : RTri P n ds c env w (blockR id Q)) : RTri P n ds (.block id c) env w Q := fun a ha => by
 refine wpIn_block (wpIn_mono (h a ha) fun e a' w' ⟨s, hs, q⟩ => ?_)
 cases e with
 | exit id' =>
  simp only [blockR, Exit.inBlock] at q ⊢
  split <;> rename_i e
  ·rw [if_pos e] at q; exact ⟨s, hs, q⟩
  ·rw [if_neg e] at q; exact ⟨s, hs, q⟩
 | _ => exact ⟨s, hs, q⟩
theorem RTri.loop {σ : Type} (I : σ → List (Nat × Value) → World → Prop) (μ : σ → Nat) (s0 : σ) (h0 : I s0 env w)
  (h : ∀ s env w, I s env w → RTri P n ds c env w (thenR (fun env' w' => ∃ s', μ s' < μ s ∧ I s' env' w') Q)) : RTri P n ds (.loop c) env w Q := fun a ha => by
 have hl : ∀ a w, (∃ m s env, μ s = m ∧ I s env w ∧ Kn n ds env a) → ∃ m, (∃ s env, μ s = m ∧ I s env w ∧ Kn n ds env a) ∧ ∀ k, (∃ s env, μ s = k ∧ I s env w ∧ Kn n ds env a) → m ≤ k := fun a w hh => least hh
 refine wpIn_loop (fun a w => ∃ s env, I s env w ∧ Kn n ds env a) (fun a w => open Classical in if hh : ∃ m s env, μ s = m ∧ I s env w ∧ Kn n ds env a then (hl a w hh).choose else 0) ⟨s0, env, h0, ha⟩ ?_
 rintro a w ⟨s1, env1, hs1, ha1⟩
 have hh : ∃ m s env, μ s = m ∧ I s env w ∧ Kn n ds env a := ⟨_, s1, env1, rfl, hs1, ha1⟩
 obtain ⟨⟨s, env2, hm, hs, ha2⟩, _⟩ := (hl a w hh).choose_spec
 refine wpIn_mono (h s env2 w hs a ha2) fun e a' w' ⟨env', hk, q⟩ => ?_
 cases e with
 | normal =>
  obtain ⟨s', hlt, hI⟩ := q
  refine ⟨⟨s', env', hI, hk⟩, ?_⟩
  have hh' : ∃ m s env, μ s = m ∧ I s env w' ∧ Kn n ds env a' := ⟨_, s', env', rfl, hI, hk⟩
  have h1 := (hl a' w' hh').choose_spec.2 (μ s') ⟨s', env', rfl, hI, hk⟩
  simp only [dif_pos hh, dif_pos hh']
  omega
 | _ => exact ⟨env', hk, q⟩
theorem RTri.region {id : Nat} {ops : Array Oper} (h : RL P n ds ops (Q .normal) ops.toList env w) : RTri P n ds (.region id ops false) env w Q :=
 fun a ha => wpIn_region_list (h _ (fun _ _ _ hk q => ⟨_, hk, q⟩) a ha)
variable {ops : Array Oper} {K : List (Nat × Value) → World → Prop} {rest : List Oper} {o : Oper} {w' : World}
theorem RL.nil (h : K env w) : RL P n ds ops K [] env w := fun _ hR a ha => wpListIn_nil (hR a w env ha h)
theorem RL.op {d : Nat} (v : Value) (w' : World) (hg : o.guard = none) (hnd : isDefer o.op = false) (hd : o.dst = some d) (hlt : d < n) (h : ∀ a, Kn n ds env a → (execOp a.eval o).run P w = .ok (.value v) w')
  (k : RL P n ds ops K rest ((d, v) :: env) w') : RL P n ds ops K (o :: rest) env w := fun R hR a ha =>
 wpListIn_plain hg fun K' hK => wpIn_of_wp hnd (by
  unfold Oper.wp
  rw [h a ha, Oper.upon_value, hd]
  exact hK _ _ (k R hR _ (ha.put hlt v)))
theorem RL.st (w' : World) (hg : o.guard = none) (hnd : isDefer o.op = false) (hd : o.dst = none) (h : ∀ a, Kn n ds env a → (execOp a.eval o).run P w = .ok .skip w')
  (k : RL P n ds ops K rest env w') : RL P n ds ops K (o :: rest) env w := fun R hR a ha =>
 wpListIn_plain hg fun K' hK => wpIn_of_wp hnd (by
  unfold Oper.wp
  rw [h a ha, Oper.upon_skip, hd]
  exact hK _ _ (k R hR _ (by simpa [Act.put] using ha)))
theorem RL.call {d f : Nat} (hg : o.guard = none) (hnd : isDefer o.op = false) (hd : o.dst = some d) (hlt : d < n) (args : Array Value) (h : ∀ a, Kn n ds env a → (execOp a.eval o).run P w = .ok (.enter f args) w)
  (k : Calls P f args w fun e w' => ∃ v, e = .returned v ∧ RL P n ds ops K rest ((d, v) :: env) w') : RL P n ds ops K (o :: rest) env w := fun R hR a ha =>
 wpListIn_plain hg fun K' hK => wpIn_of_wp hnd (by
  unfold Oper.wp
  rw [h a ha, Oper.upon_enter]
  refine k.mono fun e w' ⟨v, he, hk⟩ => ?_
  subst he
  simp only [hd]
  exact hK _ _ (hk R hR _ (ha.put hlt v)))
section
variable {dst : Option Nat} {ty : TypeId} {pos : String} {af : Array Edge} {g : Option (Nat × Bool)} {a : Act}
theorem x_move {o : Operand} {v : Value} (hv : evR env o = some v) (ha : Kn n ds env a) : (execOp a.eval ⟨dst, .move o, ty, pos, af, g⟩).run P w = .ok (.value v) w := by simp [execOp, ha.eval hv]
theorem x_assign {o : Operand} {v : Value} (hv : evR env o = some v) (ha : Kn n ds env a) : (execOp a.eval ⟨dst, .assign o, ty, pos, af, g⟩).run P w = .ok (.value v) w := by simp [execOp, ha.eval hv]
def fieldB (P : Program) (s : TypeId) (f off : Nat) : Bool :=
 match P.underlying s with
 | some (.struct fs) => match fs[f]? with
  | some fd => fd.offset == off && P.cellsOf fd.type != 0 && decide (fd.type < P.types.size)
  | none => false
 | _ => false
theorem x_field (hT : tableOk P = true) {s : TypeId} {f b k off : Nat} {o : Operand} (hv : evR env o = some (.pointer (some ⟨b, k, none⟩))) (hf : fieldB P s f off = true) (ha : Kn n ds env a) :
  (execOp a.eval ⟨dst, .fieldAddr s o f, ty, pos, af, g⟩).run P w = .ok (.value (.pointer (some ⟨b, k + off, none⟩))) w := by
 unfold fieldB at hf
 split at hf
 ·rename_i fs hu
  split at hf
  ·rename_i fd hfd
   simp only [Bool.and_eq_true, beq_iff_eq, bne_iff_ne, ne_eq, decide_eq_true_eq] at hf
   obtain ⟨⟨rfl, h2⟩, h3⟩ := hf
   simp [execOp, ha.eval hv, Instr.fieldAt, Instr.sureAddr, run_underlying hu, hfd, fieldPlace, run_size hT h3, h2, add_add]
  ·cases hf
 ·cases hf
theorem x_load1 (hT : tableOk P = true) {T : TypeId} {b k : Nat} {o : Operand} {v : Value} (hv : evR env o = some (.pointer (some ⟨b, k, none⟩))) (hlt : T < P.types.size) (hc : (comps P T).isNone = true) (hx : w.cell? ⟨b, k, none⟩ = some v) (ha : Kn n ds env a) :
  (execOp a.eval ⟨dst, .load T o, ty, pos, af, g⟩).run P w = .ok (.value v) w := by
 simp [execOp, ha.eval hv, Instr.loadAt, Instr.sureAddr, loadVar, run_isAgg hT hlt, Option.isNone_iff_eq_none.1 hc, run_load, hx]
theorem x_loadA (hT : tableOk P = true) {T : TypeId} {b k : Nat} {o : Operand} {l : List Value} (hv : evR env o = some (.pointer (some ⟨b, k, none⟩))) (hlt : T < P.types.size) (hc : (comps P T).isSome = true) (hl : l.length = P.cellsOf T)
  (hx : ∀ j v, l[j]? = some v → w.cell? ⟨b, k + j, none⟩ = some v) (ha : Kn n ds env a) :
  (execOp a.eval ⟨dst, .load T o, ty, pos, af, g⟩).run P w = .ok (.value (.agg l.toArray)) w := by
 have := run_loadCells_list (P := P) w ⟨b, k, none⟩ l (fun j v hj => by rw [Addr.add_lit]; exact hx j v hj)
 simp [execOp, ha.eval hv, Instr.loadAt, Instr.sureAddr, loadVar, run_isAgg hT hlt, hc, run_size hT hlt, ← hl, this]
theorem x_store (hT : tableOk P = true) {T : TypeId} {b k : Nat} {o p : Operand} {v : Value} {c : Array Value} {E : TypeId} (hv : evR env o = some (.pointer (some ⟨b, k, none⟩))) (hp : evR env p = some v) (hlt : T < P.types.size)
  (hb : w.heap[b]? = some (.cells c E (0, 0))) (hs : v.cells.size = P.cellsOf T) (h1 : ∀ u ∈ v.cells.toList, u.oneCell' = true) (hfit : k + v.cells.size ≤ c.size) (ha : Kn n ds env a) :
  (execOp a.eval ⟨dst, .store T o p, ty, pos, af, g⟩).run P w = .ok .skip (w.setRow b (c.toList.take k ++ v.cells.toList ++ c.toList.drop (k + v.cells.size)).toArray) := by
 simp [execOp, ha.eval hv, ha.eval hp, Instr.storeAt, Instr.sureAddr, storeVar_run hT hlt hb hs h1 hfit]
theorem x_len {t E : TypeId} {b : Option Addr} {m cap : Nat} {o : Operand} (hv : evR env o = some (.slice b m cap)) (hu : P.underlying t = some (.slice E)) (ha : Kn n ds env a) :
  (execOp a.eval ⟨dst, .call ⟨.builtin .len, #[o], #[t]⟩, ty, pos, af, g⟩).run P w = .ok (.value (.int .i64 m)) w := by
 simp [execOp, resolve, invoke, builtin, ha.eval hv, Builtin.len_, run_underlying hu, goInt]
theorem x_index (hT : tableOk P = true) {t E : TypeId} {b k m cap i : Nat} {o p : Operand} (hv : evR env o = some (.slice (some ⟨b, k, none⟩) m cap)) (hp : evR env p = some (.int .i64 i)) (hu : P.underlying t = some (.slice E)) (hlt : E < P.types.size) (hi : i < m) (ha : Kn n ds env a) :
  (execOp a.eval ⟨dst, .indexAddr t o p, ty, pos, af, g⟩).run P w = .ok (.value (.pointer (some ⟨b, k + i * P.cellsOf E, none⟩))) w := by
 simp [execOp, ha.eval hv, ha.eval hp, Instr.indexAt, asIntOf, run_underlying hu, hi, run_size hT hlt, add_add]
theorem x_box {T : TypeId} {o : Operand} {v : Value} (hv : evR env o = some v) (ha : Kn n ds env a) :
  (execOp a.eval ⟨dst, .box T o, ty, pos, af, g⟩).run P w = .ok (.value (.pointer (some ⟨w.heap.size, 0, none⟩))) (w.alloc (.cells v.cells T)) := by
 simp [execOp, ha.eval hv, Instr.box, newVar, newRow]
theorem x_bin (hT : tableOk P = true) {op : BinOp} {t : TypeId} {k : IntKind} {i j : Int} {p q : Operand} {r : TypeId} {u : Value} (hp : evR env p = some (.int k i)) (hq : evR env q = some (.int k j)) (h : binV P op t (iv k i) (iv k j) = some (.pu (.leaf u))) (ha : Kn n ds env a) :
  (execOp a.eval ⟨dst, .binOp op t p q r, ty, pos, af, g⟩).run P w = .ok (.value u) w := by
 obtain ⟨z, h1, h2⟩ := bin_run hT (C := ⟨fun _ _ => False, fun _ => none, fun _ => none⟩) (w := w) p q h (VW.leaf rfl) (VW.leaf rfl)
 obtain ⟨rfl, _⟩ := h2.leaf_inv
 simp only [execOp, ha.eval hp, ha.eval hq]
 rw [Sem.run_bind, h1]
 rfl
theorem x_build {T : TypeId} {parts : Array (Nat × Operand)} {ps : Array (Nat × Value)} {v : Value} (hp : parts.map (fun x => (x.1, evR env x.2)) = ps.map fun x => (x.1, some x.2)) (h : ∀ w : World, (Instr.build T ps).run P w = .ok v w) (ha : Kn n ds env a) :
  (execOp a.eval ⟨dst, .build T parts, ty, pos, af, g⟩).run P w = .ok (.value v) w := by
 have e : parts.map (fun x => (x.1, a.eval x.2)) = ps := by
  refine Array.ext (by simpa using congrArg Array.size hp) fun i h1 h2 => ?_
  have := congrArg (fun z => z[i]?) hp
  simp at h1
  simp [h1, h2] at this
  simp
  refine Prod.ext this.1 (ha.eval this.2)
 simp only [execOp]
 rw [show (parts.map fun x => match x with | (i, x) => (i, a.eval x)) = ps from e]
 simp [h]
end
section
variable {P : Program} {n : Nat} {ds : List Deferred} {ops : Array Oper} {K : List (Nat × Value) → World → Prop} {rest : List Oper} {env : List (Nat × Value)} {w : World} {dst d : Nat} {ty : TypeId} {pos : String} {af : Array Edge}
theorem q_move {o : Operand} {v : Value} (hv : evR env o = some v) (hd : d < n) (k : RL P n ds ops K rest ((d, v) :: env) w) : RL P n ds ops K (⟨some d, .move o, ty, pos, af, none⟩ :: rest) env w := RL.op _ _ rfl rfl rfl hd (fun _ ha => x_move hv ha) k
theorem q_assign {o : Operand} {v : Value} (hv : evR env o = some v) (hd : d < n) (k : RL P n ds ops K rest ((d, v) :: env) w) : RL P n ds ops K (⟨some d, .assign o, ty, pos, af, none⟩ :: rest) env w := RL.op _ _ rfl rfl rfl hd (fun _ ha => x_assign hv ha) k
theorem q_lt (hT : tableOk P = true) {t r : TypeId} {i j : Nat} {p q : Operand} (hp : evR env p = some (.int .i64 i)) (hq : evR env q = some (.int .i64 j)) (hd : d < n) (k : RL P n ds ops K rest ((d, .bool (decide (i < j))) :: env) w) : RL P n ds ops K (⟨some d, .binOp .lss t p q r, ty, pos, af, none⟩ :: rest) env w :=
 RL.op _ _ rfl rfl rfl hd (fun _ ha => x_bin hT hp hq (by simp [binV, intBin]) ha) k
theorem q_add (hT : tableOk P = true) {t r : TypeId} {i : Nat} {p : Operand} (hp : evR env p = some (.int .i64 i)) (hi : i < 1099511627776) (hd : d < n) (k : RL P n ds ops K rest ((d, .int .i64 (i + 1 : Nat)) :: env) w) : RL P n ds ops K (⟨some d, .binOp .add t p (.const (.int .i64 1)) r, ty, pos, af, none⟩ :: rest) env w :=
 RL.op _ _ rfl rfl rfl hd (fun _ ha => x_bin hT hp rfl (by simp [binV, intBin]; rw [wrap64 (by omega) (by omega)]) ha) k
theorem q_field (hT : tableOk P = true) {s : TypeId} {f b k off : Nat} {o : Operand} (hv : evR env o = some (.pointer (some ⟨b, k, none⟩))) (hf : fieldB P s f off = true) (hd : d < n) (kk : RL P n ds ops K rest ((d, .pointer (some ⟨b, k + off, none⟩)) :: env) w) :
  RL P n ds ops K (⟨some d, .fieldAddr s o f, ty, pos, af, none⟩ :: rest) env w := RL.op _ _ rfl rfl rfl hd (fun _ ha => x_field hT hv hf ha) kk
theorem q_load1 (hT : tableOk P = true) {T : TypeId} {b k : Nat} {o : Operand} {v : Value} (hx : w.cell? ⟨b, k, none⟩ = some v) (hv : evR env o = some (.pointer (some ⟨b, k, none⟩))) (hlt : (decide (T < P.types.size) && (comps P T).isNone) = true) (hd : d < n) (kk : RL P n ds ops K rest ((d, v) :: env) w) :
  RL P n ds ops K (⟨some d, .load T o, ty, pos, af, none⟩ :: rest) env w := by
 simp only [Bool.and_eq_true, decide_eq_true_eq] at hlt
 exact RL.op _ _ rfl rfl rfl hd (fun _ ha => x_load1 hT hv hlt.1 hlt.2 hx ha) kk
theorem q_loadA (hT : tableOk P = true) {T : TypeId} {b k : Nat} {o : Operand} {l : List Value} (hx : ∀ j v, l[j]? = some v → w.cell? ⟨b, k + j, none⟩ = some v) (hl : l.length = P.cellsOf T) (hv : evR env o = some (.pointer (some ⟨b, k, none⟩))) (hlt : (decide (T < P.types.size) && (comps P T).isSome) = true) (hd : d < n)
  (kk : RL P n ds ops K rest ((d, .agg l.toArray) :: env) w) : RL P n ds ops K (⟨some d, .load T o, ty, pos, af, none⟩ :: rest) env w := by
 simp only [Bool.and_eq_true, decide_eq_true_eq] at hlt
 exact RL.op _ _ rfl rfl rfl hd (fun _ ha => x_loadA hT hv hlt.1 hlt.2 hl hx ha) kk
theorem q_len {t E : TypeId} {b : Option Addr} {m cap : Nat} {o : Operand} (hv : evR env o = some (.slice b m cap)) (hu : P.underlying t = some (.slice E)) (hd : d < n) (kk : RL P n ds ops K rest ((d, .int .i64 m) :: env) w) :
  RL P n ds ops K (⟨some d, .call ⟨.builtin .len, #[o], #[t]⟩, ty, pos, af, none⟩ :: rest) env w := RL.op _ _ rfl rfl rfl hd (fun _ ha => x_len hv hu ha) kk
theorem q_index (hT : tableOk P = true) {t E : TypeId} {b m cap i sz : Nat} {o p : Operand} (hi : i < m) (hv : evR env o = some (.slice (some ⟨b, 0, none⟩) m cap)) (hp : evR env p = some (.int .i64 i)) (hu : P.underlying t = some (.slice E)) (hlt : (decide (E < P.types.size) && P.cellsOf E == sz) = true) (hd : d < n)
  (kk : RL P n ds ops K rest ((d, .pointer (some ⟨b, i * sz, none⟩)) :: env) w) : RL P n ds ops K (⟨some d, .indexAddr t o p, ty, pos, af, none⟩ :: rest) env w := by
 simp only [Bool.and_eq_true, decide_eq_true_eq, beq_iff_eq] at hlt
 have h := fun a (ha : Kn n ds env a) => x_index (dst := some d) (ty := ty) (pos := pos) (af := af) (g := none) hT (w := w) hv hp hu hlt.1 hi ha
 rw [hlt.2, Nat.zero_add] at h
 exact RL.op _ _ rfl rfl rfl hd h kk
theorem q_box {T : TypeId} {o : Operand} {v : Value} (hv : evR env o = some v) (hd : d < n) (kk : RL P n ds ops K rest ((d, .pointer (some ⟨w.heap.size, 0, none⟩)) :: env) (w.alloc (.cells v.cells T))) :
  RL P n ds ops K (⟨some d, .box T o, ty, pos, af, none⟩ :: rest) env w := RL.op _ _ rfl rfl rfl hd (fun _ ha => x_box hv ha) kk
theorem q_store (hT : tableOk P = true) {T : TypeId} {b i sz : Nat} {o p : Operand} {l : List Value} {c : Array Value} {E : TypeId} (hb : w.heap[b]? = some (.cells c E (0, 0))) (hfit : (i + 1) * sz ≤ c.size) (hs : l.length = sz) (h1 : l.all Value.oneCell' = true) (hv : evR env o = some (.pointer (some ⟨b, i * sz, none⟩))) (hp : evR env p = some (.agg l.toArray)) (hlt : (decide (T < P.types.size) && P.cellsOf T == sz) = true)
  (kk : RL P n ds ops K rest env (w.setRow b (c.toList.take (i * sz) ++ l ++ c.toList.drop (i * sz + sz)).toArray)) : RL P n ds ops K (⟨none, .store T o p, ty, pos, af, none⟩ :: rest) env w := by
 simp only [Bool.and_eq_true, decide_eq_true_eq, beq_iff_eq] at hlt
 rw [Nat.succ_mul] at hfit
 have h := fun a (ha : Kn n ds env a) => x_store (dst := none) (ty := ty) (pos := pos) (af := af) (g := none) hT (w := w) hv hp hlt.1 hb (by rw [hlt.2, ← hs]; simp [Value.cells]) (by simpa [Value.cells, List.all_eq_true] using h1) (by simp only [Value.cells, List.size_toArray, hs]; omega) ha
 simp only [Value.cells, List.size_toArray, hs] at h
 exact RL.st _ rfl rfl rfl h kk
theorem q_build {T : TypeId} {parts : Array (Nat × Operand)} {ps : Array (Nat × Value)} {v : Value} (h : ∀ w : World, (Instr.build T ps).run P w = .ok v w) (hp : parts.map (fun x => (x.1, evR env x.2)) = ps.map fun x => (x.1, some x.2)) (hd : d < n) (kk : RL P n ds ops K rest ((d, v) :: env) w) :
  RL P n ds ops K (⟨some d, .build T parts, ty, pos, af, none⟩ :: rest) env w := RL.op _ _ rfl rfl rfl hd (fun _ ha => x_build hp h ha) kk
end
theorem x_call {f : FuncId} {fo : Operand} {os : Array Operand} {ts : Array TypeId} {dst : Option Nat} {ty : TypeId} {pos : String} {af : Array Edge} {g : Option (Nat × Bool)} {n : Nat} {ds : List Deferred} {env : List (Nat × Value)} {a : Act} {w : World} {x : Operand} {v : Value} {P : Program} (he : entersB P f = true) (hf : fo = .func f) (has : os = #[x]) (hv : evR env x = some v) (ha : Kn n ds env a) :
  (execOp a.eval ⟨dst, .call ⟨.value fo, os, ts⟩, ty, pos, af, g⟩).run P w = .ok (.enter f #[v]) w := by
 subst hf has
 simp [execOp, resolve, Act.eval, Deferred.ofValue, invoke, callFunc_run he]
 simpa [Act.eval] using ha.eval hv
def subE : List (Nat × Value) → List (Nat × Value) → Prop
 | [], _ => True
 | x :: r, env => get env x.1 = some x.2 ∧ subE r env
theorem subE.get : ∀ {l env : List (Nat × Value)}, subE l env → ∀ i v, Hs.get l i = some v → Hs.get env i = some v
 | [], _, _, i, v, h => by cases h
 | x :: r, env, ⟨h1, h2⟩, i, v, h => by
  obtain ⟨j, u⟩ := x
  rw [get_cons] at h
  split at h
  ·rename_i e; subst e; rw [← h]; exact h1
  ·exact h2.get i v h
theorem RTri.use {n : Nat} {ds : List Deferred} {env : List (Nat × Value)} {w : World} {c : Code} {a : Act} {R : Exit → Act → World → Prop} (Q : Exit → List (Nat × Value) → World → Prop) (h : RTri P n ds c env w Q) (ha : Kn n ds env a) (k : ∀ e a' w' env', Kn n ds env' a' → Q e env' w' → R e a' w') : c.wpIn (rf none) 0 P R a w :=
 wpIn_mono (h a ha) fun e a' w' ⟨env', h1, h2⟩ => k e a' w' env' h1 h2
theorem Kn.of {n : Nat} {a : Act} {l : List (Nat × Value)} (hn : a.tmps.size = n) (h : ∀ x ∈ l, a.tmps[x.1]? = some x.2) : Kn n a.defers l a := ⟨hn, rfl, fun _ _ hv => h _ (get_mem hv)⟩
end Hs

/- Memory that is spoilt: blocks that a call made are given up; what lies below them stays known. -/
namespace Hs
open Go Go.RowKit
variable {P : Program}
structure Keep (m hi : Nat) (w w' : World) : Prop where
 os : w'.os = w.os
 tape : w'.tape = w.tape
 output : w'.output = w.output
 size : w.heap.size ≤ w'.heap.size
 block : ∀ b : Nat, b < w.heap.size → ¬ (m ≤ b ∧ b < hi) → w'.heap[b]? = w.heap[b]?
 other : ∀ (b : Nat) (o : Obj), w.heap[b]? = some o → (∀ c E f, o ≠ Obj.cells c E f) → w'.heap[b]? = some o
 ty : TyKeep w w'
theorem Keep.refl (m hi : Nat) (w : World) : Keep m hi w w := ⟨rfl, rfl, rfl, Nat.le_refl _, fun _ _ _ => rfl, fun _ _ h _ => h, TyKeep.refl _⟩
theorem Keep.trans {m hi : Nat} {a b c : World} (h : Keep m hi a b) (k : Keep m hi b c) : Keep m hi a c :=
 ⟨k.os.trans h.os, k.tape.trans h.tape, k.output.trans h.output, Nat.le_trans h.size k.size, fun i hi1 hi2 => (k.block i (Nat.lt_of_lt_of_le hi1 h.size) hi2).trans (h.block i hi1 hi2),
  fun i o ho hc => k.other i o (h.other i o ho hc) hc, h.ty.trans k.ty⟩
theorem Keep.of_grew {m hi : Nat} {w w' : World} (g : Grew w w') : Keep m hi w w' := ⟨g.os, g.tape, g.output, g.size, fun b hb _ => g.block b hb, fun b _ ho _ => (g.block b (heap_lt ho)).trans ho, g.ty⟩
theorem Keep.setRow {m hi b : Nat} {w : World} {c c' : Array Value} {E : TypeId} {f : Nat × Nat} (hb : w.heap[b]? = some (.cells c E f)) (h1 : m ≤ b) (h2 : b < hi) : Keep m hi w (w.setRow b c') :=
 ⟨rfl, rfl, rfl, Nat.le_of_eq (setRow_size w b c').symm, fun i _ hn => setRow_ne w b c' fun e => by subst e; exact hn ⟨h1, h2⟩, fun i _ ho hc => by
  rw [setRow_ne w b c' fun e => by subst e; rw [hb] at ho; cases ho; exact hc _ _ _ rfl]
  exact ho, setRow_ty w b c'⟩
def plainB (st : St) : Bool :=
 st.env.all (fun x => match x.2 with
  | .ptr _ _ _ | .pu _ => true
  | _ => false) && st.heap.all fun x => freeOb x.2 && x.2.labs.isEmpty
def ptrB (ks : List Nat) (env : List (Nat × PV)) : Bool :=
 env.all (fun x => match x.2 with
  | .ptr l _ _ => ks.contains l
  | _ => false)
theorem ptr_env {ks : List Nat} {env : List (Nat × PV)} (h : ptrB ks env = true) {i : Nat} {v : PV} (hv : get env i = some v) : ∃ l p T, v = .ptr l p T ∧ l ∈ ks := by
 simp only [ptrB, List.all_eq_true] at h
 have := h _ (get_mem hv)
 cases v <;> simp at this
 exact ⟨_, _, _, rfl, this⟩
theorem plain_env {st : St} (h : plainB st = true) {i : Nat} {v : PV} (hv : get st.env i = some v) : ∀ lo E ps, v ≠ .ow lo E ps := by
 simp only [plainB, Bool.and_eq_true, List.all_eq_true] at h
 have := h.1 _ (get_mem hv)
 rintro lo E ps rfl
 simp at this
theorem plain_heap {st : St} (h : plainB st = true) {l : Nat} {ob : Ob} (hl : get st.heap l = some ob) : freeOb ob = true ∧ ob.labs = [] := by
 simp only [plainB, Bool.and_eq_true, List.all_eq_true] at h
 have := h.2 _ (get_mem hl)
 simpa using this
def Ctx.re (X : Ctx) (st : St) (C : Cfg) (w : World) (ds : List Deferred) : Ctx :=
 ⟨w, X.n, fun b => ∃ d ∈ ds, d = { target := .collected b, args := #[] }, X.G, keysOf st.heap, keysOf st.heap, C.ρ, C.D, X.ro⟩
def Cfg.bare (C : Cfg) : Cfg := { C with own := fun _ => none }
theorem bare_stays {C : Cfg} {w : World} (ls : List Nat) (keep : Place → Prop) (hk : ∀ q, ¬ keep q) : Stays C C.bare w w ls keep :=
 ⟨fun _ _ h => ⟨h, rfl⟩, fun _ _ => rfl, fun _ q _ _ hq => (hk q hq).elim, TyKeep.refl _⟩
theorem SatC.restart {X : Ctx} {C : Cfg} {st : St} {a : Act} {w : World} (h : SatC P X C st a w) (hp : plainB st = true) : SatC P (X.re st C w a.defers) C.bare st a w where
 size := h.size
 defers := ⟨h.defers.1, fun d hd => by
  obtain ⟨D, h1, _, h3, _⟩ := h.defers.2 d hd
  exact ⟨D, h1, .inr ⟨d, hd, h1⟩, h3, rfl⟩⟩
 framed := ⟨rfl, rfl, rfl, Nat.le_refl _, fun _ _ _ => rfl, TyKeep.refl _⟩
 env i v hv := by
  obtain ⟨x, h1, h2⟩ := h.env i v hv
  exact ⟨x, h1, h2.mono (bare_stays _ _ fun q hq => by
   simp only [Keeps] at hq
   obtain ⟨_, lo, E, ps, e⟩ := hq
   exact plain_env hp hv lo E ps e)⟩
 heap l ob hl := by
  obtain ⟨b, h1, _, h3⟩ := h.heap l ob hl
  refine ⟨b, h1, .inl (get_keys hl), h3.mono (bare_stays _ _ fun q hq => ?_) rfl⟩
  exact freeOb_none (plain_heap hp hl).1 hq
 inj := h.inj
 dObj := h.dObj
 dLt := h.dLt
 own b q k hb := by cases hb
 gl := h.gl.mono (bare_stays _ _ fun q hq => hq)
 kin := ⟨fun _ _ => rfl, fun _ _ h => h, fun _ _ h => .inl h⟩
 keep _ _ _ := rfl
theorem SatC.spoilt {X : Ctx} {C C5 : Cfg} {st s : St} {a a1 a' : Act} {w w1 w' : World} {hi : Nat} (h : SatC P X C st a w) (hp : plainB st = true) (h5 : SatC P (X.re st C w a.defers) C5 s a1 w1)
  {env0 : List (Nat × PV)} (he : ptrB (keysOf st.heap) env0 = true) (hs : ∀ i v, get env0 i = some v → get s.env i = some v) (K : Keep w.heap.size hi w1 w') (hsz : a'.tmps.size = X.n) (ha : ∀ i v, get env0 i = some v → a'.tmps[i]? = a1.tmps[i]?) (hd : a'.defers = a1.defers) : SatC P X C.bare ⟨env0, st.heap⟩ a' w' := by
 have hM : ∀ b, (∃ d ∈ a.defers, d = { target := .collected b, args := #[] }) → (X.w0.heap.size ≤ b ∨ X.M b) ∧ w.heap[b]? = some (.deferred (some [])) := fun b ⟨d, hd, e⟩ => by
  obtain ⟨D, h1, h2, h3, _⟩ := h.defers.2 d hd
  rw [h1] at e
  simp at e
  subst e;exact ⟨h2, h3⟩
 have hblk : ∀ b, b < w.heap.size → (∀ x, w.heap[b]? ≠ some (.deferred x)) → w'.heap[b]? = w.heap[b]? := fun b hb hno => by
  have h1 := h5.framed.block b hb fun hm => hno _ (hM b hm).2
  exact (K.block b (Nat.lt_of_lt_of_le hb h5.framed.size) (by omega)).trans h1
 have hty : TyKeep w w' := h5.framed.ty.trans K.ty
 have hcell : ∀ b o, C.D b o → w'.cell? ⟨b, o, none⟩ = w.cell? ⟨b, o, none⟩ := fun b o hD => by
  have h1 := h5.keep b o hD
  have hb := h.dLt b o hD
  have h2 := K.block b (Nat.lt_of_lt_of_le hb h5.framed.size) (by omega)
  refine Eq.trans ?_ h1
  simp only [World.cell?, h2]
 have stays : ∀ (ls : List Nat) (keep : Place → Prop), (∀ q, ¬ keep q) → Stays C C.bare w w' ls keep := fun ls keep hk => ⟨fun b o hD => ⟨hD, hcell b o hD⟩, fun _ _ => rfl, fun b q k _ hq => (hk q hq).elim, hty⟩
 refine ⟨hsz, ⟨by rw [hd]; exact h5.defers.1, fun d hdm => ?_⟩, ⟨?_, ?_, ?_, ?_, fun b hb hm => ?_, h.framed.ty.trans hty⟩, fun i v hv => ?_, fun l ob hl => ?_, h.inj, h.dObj, fun b o hD => ?_, fun b q k hb => absurd (show (none : Option (Place × Nat)) = some (q, k) from hb) (by simp), h.gl.mono (stays _ _ fun q hq => hq), ⟨h.kin.rho, h.kin.dOld, h.kin.dNew⟩, fun b o hD => (hcell b o (h.kin.dOld b o hD)).trans (h.keep b o hD)⟩
 ·rw [hd] at hdm
  obtain ⟨D, h1, h2, h3, _⟩ := h5.defers.2 d hdm
  refine ⟨D, h1, ?_, K.other D _ h3 (fun _ _ _ e => by cases e), rfl⟩
  rcases h2 with h2 | h2
  ·exact .inl (Nat.le_trans h.framed.size h2)
  ·exact (hM D h2).1
 ·exact K.os.trans (h5.framed.os.trans h.framed.os)
 ·exact K.tape.trans (h5.framed.tape.trans h.framed.tape)
 ·exact K.output.trans (h5.framed.output.trans h.framed.output)
 ·exact Nat.le_trans h.framed.size (Nat.le_trans h5.framed.size K.size)
 ·have hbw : b < w.heap.size := Nat.lt_of_lt_of_le hb h.framed.size
  have h1 := h5.framed.block b hbw fun hm' => by
   rcases (hM b hm').1 with h2 | h2
   ·omega
   ·exact hm h2
  exact ((K.block b (Nat.lt_of_lt_of_le hbw h5.framed.size) (by omega)).trans h1).trans (h.framed.block b hb hm)
 ·obtain ⟨l, p, T, rfl, hk⟩ := ptr_env he hv
  obtain ⟨x, h1, h2⟩ := h5.env i _ (hs i _ hv)
  refine ⟨x, (ha i _ hv).trans h1, ?_⟩
  have hρ : C5.ρ l = C.ρ l := h5.kin.rho l hk
  cases h2 with
  | one hv hs =>
   refine .one ?_ hs
   generalize hz : x.cells.toList = z at hv
   cases hv with
   | ptr hl hsub => exact .ptr (hρ.symm.trans hl) hsub
 ·obtain ⟨b, h1, h2, h3⟩ := h.heap l ob hl
  exact ⟨b, h1, h2, h3.mono (stays _ _ fun q hq => freeOb_none (plain_heap hp hl).1 hq) (hblk b h3.lt fun x => h3.noDef)⟩
 ·exact Nat.lt_of_lt_of_le (h.dLt b o hD) (Nat.le_trans h5.framed.size K.size)
theorem calls_of_rtri {f : FuncId} {fn : Func} {c : Code} {args : Array Value} {w : World} {R : Ending → World → Prop} (n : Nat) (hf : P.funcs[f]? = some fn) (hb : fn.body = some c) (hn : n = args.size + (fn.ntmps - args.size)) (env : List (Nat × Value)) (he : ∀ i v, get env i = some v → args[i]? = some v)
  (h : RTri P n [] c env w fun e env' w' => (e = .normal ∨ e = .ret) ∧ ∀ a, Kn n [] env' a → ∃ v, (results fn a.tmps).run P w' = .ok v w' ∧ R (.returned v) w') : Calls P f args w R := by
 refine callsIn_wide (n := 0) |>.1 (callsIn_of_wp_marks hf hb trivial (wpIn_mono (h { tmps := args ++ Array.replicate (fn.ntmps - args.size) undef, defers := [] } ⟨by simp [hn], rfl, fun i v hv => ?_⟩) fun e a' w' ⟨env', hk, he, hr⟩ => ?_) rfl)
 ·have := he i v hv
  rw [Array.getElem?_append_left (by have := (Array.getElem?_eq_some_iff.1 this).1; exact this)];exact this
 ·have hd := hk.defers
  obtain ⟨v, h1, h2⟩ := hr a' hk
  have hL : LeavesInM Fence.wide 0 P fn a'.tmps R a'.defers .returning w' := by rw [hd]; exact ⟨v, h1, h2⟩
  rcases he with rfl | rfl <;> exact hL
end Hs

/- An append to an empty slice, kept as a row that may be written. -/
namespace Hs
open Go Go.RowKit
variable {P : Program} {lo lo' : Nat}
theorem run_appRow {C : Cfg} {w : World} {t ty E : TypeId} (he : ElemOk P t E) {ys : List Pu} {a0 a1 : Option Addr} {n1 c1 : Nat}
  (hy : PR P C.D w (.sl lo' E ys) [.slice a1 n1 c1]) (hne : ys ≠ []) (hfit : ys.length * P.bytesOf E ≤ 70368744177664) :
  ∃ (cap : Nat) (yx : List Value) (z : Array Value), ys.length ≤ cap ∧ PRs P C.D w (List.replicate ys.length (P.cellsOf E, E)) ys yx ∧
   (Builtin.append_ #[t, t] ty #[.slice a0 0 0, .slice a1 n1 c1]).run P w = .ok (.slice (some ⟨w.heap.size, 0, none⟩) ys.length cap) (w.drew.alloc (.cells (yx.toArray ++ z) E)) := by
 obtain ⟨i, z, hi, hz, hzs⟩ := he.zero
 obtain ⟨rfl, yx, y1, y2, y3⟩ := hy.cells
 have hsz := cellsOf_info hi
 have hbs := bytesOf_info hi
 have hb0 : 1 ≤ P.bytesOf E := Nat.one_le_iff_ne_zero.2 he.bytes
 obtain ⟨b1, o1, rfl, hc1, y3⟩ := y3 hne
 have hpos : 0 < ys.length := List.length_pos_iff.2 hne
 have hlen : ys.length ≤ 70368744177664 := Nat.le_trans (Nat.le_mul_of_pos_right _ hb0) hfit
 have hfits : Builtin.nextslicecap (0 + ys.length) 0 * i.bytes ≤ 281474976710656 := growslice_fits (by omega) (by rw [← hbs]; simpa using (by omega : ys.length * P.bytesOf E ≤ 140737488355328))
 have hnews : ∀ j v, yx[j]? = some v → w.cell? ((⟨b1, o1, none⟩ : Addr).add j) = some v := fun j v hj => (y3 j v hj).1
 refine ⟨grownCap w ys.length 0 E, yx, Builtin.zeroCells z.cells (grownCap w ys.length 0 E - ys.length), by have := grownCap_ge w ys.length 0 E; omega, y1, ?_⟩
 cases a0 with
 | none =>
  have := run_append_nil (P := P) w t ty E i z he.slice hi hz ⟨b1, o1, none⟩ ys.length c1 yx (by rw [y2, hsz]) hnews hpos (by omega) (by rw [← hbs]; omega)
  simpa using this
 | some b0 =>
  have := run_append_grow (P := P) w t ty E i z he.slice hi hz b0 0 0 [] (by simp) (by simp) ⟨b1, o1, none⟩ ys.length c1 yx (by rw [y2, hsz]) hnews (by omega) (by simp; omega) (by simpa using hfits)
  simpa using this
theorem exec_appRow {X : Ctx} {C : Cfg} {st : St} {o : Oper} {a : Act} {w : World} (h : SatC P X C st a w) {x y : Operand} {t E : TypeId} {u v : PV} {ys : List Pu} {d l : Nat} (hop : o.op = .call ⟨.builtin .append, #[x, y], #[t, t]⟩) (he : ElemOk P t E)
  (hx : evalO X.G st.env x = some u) (hu : exactOf lo E (strip u) = some []) (hy : evalO X.G st.env y = some v) (hv : elemsOf E (strip v) = some ys) (hne : ys ≠ []) (hd : o.dst = some d) (hdn : d < X.n) (hfit : ys.length * P.bytesOf E ≤ 70368744177664)
  (hf : Fresh st l) (hL : l ∉ X.L) (hn : get st.heap l = none) : Exec P X C st o a w { v := .arr l E 0 ys.length, heap := [(l, .row E (ys.map .pu))] } := by
 obtain ⟨a0, n0, e0, p0⟩ := exactOf_pr (h.eval hx) hu
 obtain ⟨a1, n1, c1, e1, p1⟩ := elemsOf_pr (h.eval hy) hv
 obtain rfl : n0 = 0 := by cases p0; rfl; simp_all
 obtain ⟨cap, yx, z, hcap, q1, hrun⟩ := run_appRow (ty := o.type) (a0 := a0) he p1 hne hfit
 have h1 : SatC P X C st a w.drew := h.grew (Grew.drew w) (CGrew.refl C w _ fun b q k hb hge => absurd (h.own b q k hb).2.1 (Nat.not_lt.2 hge))
 have hs := h1.new hf hL (ob := .row E (ys.map .pu)) (o := .cells (yx.toArray ++ z) E (0, 0)) (by
  refine ⟨yx.toArray ++ z, yx, z.toList, alloc_heap_new w.drew _, by simp, ?_⟩
  rw [List.length_map]
  exact PRs.toV (C := C.at l w.drew.heap.size (.row E)) (pl := some (.obj l [])) 0 (PRs.mono (D' := C.D) (fun b o hD => ⟨hD, (Grew.alloc w.drew _).cell (h.dLt b o hD)⟩) (Grew.alloc w.drew _).ty (PRs.mono (D' := C.D) (fun b o hD => ⟨hD, (Grew.drew w).cell (h.dLt b o hD)⟩) (Grew.drew w).ty q1)))
 have hsz : w.drew.heap.size = w.heap.size := rfl
 rw [hsz] at hs
 refine exec_value (y := .slice (some ⟨w.heap.size, 0, none⟩) ys.length cap) (w' := w.drew.alloc (.cells (yx.toArray ++ z) E)) (C' := C.at l w.heap.size (.row E)) (exec_append_run hop (by rw [e0, e1]; exact hrun)) ?_ (tr_new h hn (drew_alloc_grew w _) (fun l' hne => by simp [Cfg.at, hne]) _) (fun L d hL => by simp at hL);rw [hd]
 exact hs.put hdn (.one (by
  have := VR.arr (P := P) (C := C.at l w.heap.size (.row E)) (w := w.drew.alloc (.cells (yx.toArray ++ z) E)) (pl := some (.slot d)) (l := l) (E := E) (off := 0) (len := ys.length) (b := w.heap.size) (cap := cap) (by simp [Cfg.at]) hcap
  rw [Nat.zero_mul] at this
  exact this) rfl)
section
variable {X : Ctx} {ops : Array Oper} {env : List (Nat × PV)} {heap : List (Nat × Ob)} {dr : Bool} {s0 : St} {K : St → Prop} {dn : List Item} {rest : List Oper} {d : Nat} {ty : TypeId} {pos : String} {after : Array Edge}
theorem s_appRow (_S : Seat P) {t E : TypeId} {B : Nat} [hE : El P t E B] {x y : Operand} {u v : PV} {ys : List Pu} (l : Nat) (hne : ys ≠ []) (hfit : ys.length * B ≤ 70368744177664)
  (c : WalkR P X ops dr s0 K (dn ++ [⟨⟨some d, .call ⟨.builtin .append, #[x, y], #[t, t]⟩, ty, pos, after, none⟩, { v := .arr l E 0 ys.length, heap := [(l, .row E (ys.map .pu))] }, { reads := tmpsOf [x, y], news := [l], labs := [l] }⟩]) ⟨(d, .arr l E 0 ys.length) :: env, (l, .row E (ys.map .pu)) :: heap⟩ rest)
  (hx : evalO X.G env x = some u := by rfl) (hu : Exact 0 E u [] := by repeat constructor) (hy : evalO X.G env y = some v := by rfl) (hv : Elems E v ys := by repeat constructor) (hd : lb d X.n = true := by rfl) :
  WalkR P X ops dr s0 K dn ⟨env, heap⟩ (⟨some d, .call ⟨.builtin .append, #[x, y], #[t, t]⟩, ty, pos, after, none⟩ :: rest) := by
 refine WalkR.cons ⟨fun l' h => ?_, fun L h => by simp at h, fun st' ha hn C a w hs _ => ?_⟩ c
 ·simp [PV.labs, Ob.labs, labs_map_pu ys] at h
  simp [h]
 ·obtain ⟨h1, h2, h3⟩ := hn l (by simp)
  have hx' : evalO X.G st'.env x = some u := by
   rw [evalO_congr (env := env) fun t e => ha.env t (mem_tmpsOf (by rw [e]; simp))];exact hx
  have hy' : evalO X.G st'.env y = some v := by
   rw [evalO_congr (env := env) fun t e => ha.env t (mem_tmpsOf (by rw [e]; simp))];exact hy
  exact .of ((Guard.none rfl).wanted hs) (exec_appRow hs rfl hE.spec.1 hx' hu.eq hy' hv.eq hne rfl (lb_lt hd) (by rw [hE.spec.2]; exact hfit) h1 h3 h2)
end
end Hs

/- Memory that is spoilt by two statements, one behind the other. -/
namespace Hs
open Go Go.RowKit
variable {P : Program}
end Hs

/- Contracts of functions that end by the cells themselves: a walk over states, then raw code. -/
namespace Hs
open Go Go.RowKit
variable {P : Program}
def TriR (P : Program) (X : Ctx) (c : Code) (st : St) (R : Exit → Act → World → Prop) : Prop := ∀ C a w, SatC P X C st a w → c.wpIn (rf X.ro) 0 P R a w
theorem TriR.seq {X : Ctx} {x y : Code} {st : St} {R : Exit → Act → World → Prop} (h : Tri P X x st (fun e s => e = .normal ∧ TriR P X y s R)) : TriR P X (.seq x y) st R := fun C a w hs => by
 refine wpIn_seq (wpIn_mono (h C a w hs) fun e a' w' ⟨s, C', ⟨he, hk⟩, hs'⟩ => ?_);subst he;exact hk C' a' w' hs'
theorem Mset_nil {C : Cfg} {b : Nat} : ¬ Mset C [] b := by
 rintro (⟨l, ob, R, h, _⟩ | ⟨l, p, k, ob, _, h⟩) <;> cases h
theorem SatC.frag0 {X : Ctx} {C : Cfg} {st : St} {a : Act} {w : World} (h : SatC P X C st a w) : Frag P X.G C w [] [] :=
 ⟨fun l ob hl => (by cases hl), fun l l' b R R' ob ob' hl => (by cases hl), fun l ob b R o hl => (by cases hl), h.dLt, fun b q k hb => ⟨(h.own b q k hb).2.1, (h.own b q k hb).2.2.1, fun l ob R hl => (by cases hl)⟩, h.gl⟩
end Hs

/- Raw steps under guards; memory that was spoilt, and what stays beside it. -/
namespace Hs
open Go Go.RowKit
section
variable {P : Program} {n : Nat} {ds : List Deferred} {ops : Array Oper} {K : List (Nat × Value) → World → Prop} {rest : List Oper} {env : List (Nat × Value)} {w : World} {dst d : Nat} {ty : TypeId} {pos : String} {af : Array Edge} {g : Option (Nat × Bool)} {o : Oper}
def wantB (ops : Array Oper) (g : Option (Nat × Bool)) (env : List (Nat × Value)) : Bool := match g with
 | none => true
 | some (j, want) => match (ops[j]?).bind (·.dst) with
  | some d => match get env d with
   | some (.bool b) => b == want
   | _ => false
  | none => false
theorem wanted_of {a : Act} (ha : Kn n ds env a) (h : wantB ops o.guard env = true) : Region.wanted o (yielded ops a.tmps) = true := by
 unfold wantB at h
 unfold Region.wanted
 split at h
 ·rename_i hg; rw [hg]
 ·rename_i j want hg
  rw [hg]
  simp only
  split at h
  ·rename_i d hd
   split at h
   ·rename_i b hb
    have := ha.env _ _ hb
    simp only [yielded, hd, Option.bind_some, this]
    simpa using h
   ·cases h
  ·cases h
theorem RL.opW {d : Nat} (v : Value) (w' : World) (hw : wantB ops o.guard env = true) (hnd : isDefer o.op = false) (hd : o.dst = some d) (hlt : d < n) (h : ∀ a, Kn n ds env a → (execOp a.eval o).run P w = .ok (.value v) w')
  (k : RL P n ds ops K rest ((d, v) :: env) w') : RL P n ds ops K (o :: rest) env w := fun R hR a ha =>
 wpListIn_step fun K' hK => by
  rw [if_pos (wanted_of ha hw)];refine wpIn_of_wp hnd ?_
  unfold Oper.wp
  rw [h a ha, Oper.upon_value, hd];exact hK _ _ (k R hR _ (ha.put hlt v))
theorem RL.stW (w' : World) (hw : wantB ops o.guard env = true) (hnd : isDefer o.op = false) (hd : o.dst = none) (h : ∀ a, Kn n ds env a → (execOp a.eval o).run P w = .ok .skip w')
  (k : RL P n ds ops K rest env w') : RL P n ds ops K (o :: rest) env w := fun R hR a ha =>
 wpListIn_step fun K' hK => by
  rw [if_pos (wanted_of ha hw)];refine wpIn_of_wp hnd ?_
  unfold Oper.wp
  rw [h a ha, Oper.upon_skip, hd];exact hK _ _ (k R hR _ (by simpa [Act.put] using ha))
theorem RL.callW {d f : Nat} (hw : wantB ops o.guard env = true) (hnd : isDefer o.op = false) (hd : o.dst = some d) (hlt : d < n) (args : Array Value) (h : ∀ a, Kn n ds env a → (execOp a.eval o).run P w = .ok (.enter f args) w)
  (k : Calls P f args w fun e w' => ∃ v, e = .returned v ∧ RL P n ds ops K rest ((d, v) :: env) w') : RL P n ds ops K (o :: rest) env w := fun R hR a ha =>
 wpListIn_step fun K' hK => by
  rw [if_pos (wanted_of ha hw)];refine wpIn_of_wp hnd ?_
  unfold Oper.wp
  rw [h a ha, Oper.upon_enter]
  refine k.mono fun e w' ⟨v, he, hk⟩ => ?_
  subst he
  simp only [hd]
  exact hK _ _ (hk R hR _ (ha.put hlt v))
theorem w_move {x : Operand} {v : Value} (k : RL P n ds ops K rest ((d, v) :: env) w) (hv : evR env x = some v := by rfl) (hd : d < n := by decide) (hw : wantB ops g env = true := by rfl) : RL P n ds ops K (⟨some d, .move x, ty, pos, af, g⟩ :: rest) env w :=
 RL.opW _ _ hw rfl rfl hd (fun _ ha => x_move hv ha) k
theorem w_assign {x : Operand} {v : Value} (k : RL P n ds ops K rest ((d, v) :: env) w) (hv : evR env x = some v := by rfl) (hd : d < n := by decide) (hw : wantB ops g env = true := by rfl) : RL P n ds ops K (⟨some d, .assign x, ty, pos, af, g⟩ :: rest) env w :=
 RL.opW _ _ hw rfl rfl hd (fun _ ha => x_assign hv ha) k
theorem w_loadA (hT : tableOk P = true) {T : TypeId} {b j0 : Nat} {x : Operand} {l : List Value} (hx : ∀ j v, l[j]? = some v → w.cell? ⟨b, j0 + j, none⟩ = some v) (hl : l.length = P.cellsOf T) (hlt : (decide (T < P.types.size) && (comps P T).isSome) = true)
  (k : RL P n ds ops K rest ((d, .agg l.toArray) :: env) w) (hv : evR env x = some (.pointer (some ⟨b, j0, none⟩)) := by rfl) (hd : d < n := by decide) (hw : wantB ops g env = true := by rfl) : RL P n ds ops K (⟨some d, .load T x, ty, pos, af, g⟩ :: rest) env w := by
 simp only [Bool.and_eq_true, decide_eq_true_eq] at hlt
 exact RL.opW _ _ hw rfl rfl hd (fun _ ha => x_loadA hT hv hlt.1 hlt.2 hl hx ha) k
theorem w_not {T : TypeId} {x : Operand} {b : Bool} (k : RL P n ds ops K rest ((d, .bool (!b)) :: env) w) (hv : evR env x = some (.bool b) := by rfl) (hd : d < n := by decide) (hw : wantB ops g env = true := by rfl) : RL P n ds ops K (⟨some d, .unOp .not T x, ty, pos, af, g⟩ :: rest) env w :=
 RL.opW _ _ hw rfl rfl hd (fun _ ha => by simp [execOp, ha.eval hv, Op.unary]) k
theorem w_pick {c x y : Operand} {b : Bool} {v : Value} (k : RL P n ds ops K rest ((d, v) :: env) w) (hc : evR env c = some (.bool b) := by rfl) (hv : evR env (if b then x else y) = some v := by rfl) (hd : d < n := by decide) (hw : wantB ops g env = true := by rfl) : RL P n ds ops K (⟨some d, .pick c x y, ty, pos, af, g⟩ :: rest) env w :=
 RL.opW _ _ hw rfl rfl hd (fun _ ha => by
  cases b
  ·simp [execOp, ha.eval hc, asBool, ha.eval (show evR env y = some v from hv)]
  ·simp [execOp, ha.eval hc, asBool, ha.eval (show evR env x = some v from hv)]) k
theorem w_bin (hT : tableOk P = true) {op : BinOp} {t r : TypeId} {u1 u2 u : Value} {x y : Operand} (h : binV P op t (.pu (.leaf u1)) (.pu (.leaf u2)) = some (.pu (.leaf u))) (hf : (flat u1 && flat u2) = true) (k : RL P n ds ops K rest ((d, u) :: env) w)
  (hx : evR env x = some u1 := by rfl) (hy : evR env y = some u2 := by rfl) (hd : d < n := by decide) (hw : wantB ops g env = true := by rfl) : RL P n ds ops K (⟨some d, .binOp op t x y r, ty, pos, af, g⟩ :: rest) env w :=
 RL.opW _ _ hw rfl rfl hd (fun _ ha => by
  simp only [Bool.and_eq_true] at hf
  obtain ⟨z, h1, h2⟩ := bin_run hT (C := ⟨fun _ _ => False, fun _ => none, fun _ => none⟩) (w := w) x y h (VW.leaf hf.1) (VW.leaf hf.2)
  obtain ⟨rfl, _⟩ := h2.leaf_inv
  simp only [execOp, ha.eval hx, ha.eval hy]
  rw [Sem.run_bind, h1]
  rfl) k
theorem w_extract {x : Operand} {i : Nat} {vs : Array Value} {v : Value} (hi : vs[i]? = some v) (k : RL P n ds ops K rest ((d, v) :: env) w) (hv : evR env x = some (.tuple vs) := by rfl) (hd : d < n := by decide) (hw : wantB ops g env = true := by rfl) : RL P n ds ops K (⟨some d, .extract x i, ty, pos, af, g⟩ :: rest) env w :=
 RL.opW _ _ hw rfl rfl hd (fun _ ha => by simp [execOp, ha.eval hv, Instr.extract, hi]) k
theorem w_alloc (S : Seat P) {T : TypeId} {u : PV} (hz : S.Z T = some u) (k : ∀ c : Array Value, c.size = P.cellsOf T → RL P n ds ops K rest ((d, .pointer (some ⟨w.heap.size, 0, none⟩)) :: env) (w.alloc (.cells c T))) (hd : d < n := by decide) (hw : wantB ops g env = true := by rfl) : RL P n ds ops K (⟨some d, .alloc T, ty, pos, af, g⟩ :: rest) env w := by
 obtain ⟨z, z1, _, _, z4, _⟩ := run_zero S hz ⟨fun _ _ => False, fun _ => none, fun _ => none⟩ w
 exact RL.opW _ _ hw rfl rfl hd (fun _ ha => by simp [execOp, Instr.alloc, z1, newVar, newRow]) (k z.cells z4)
theorem w_storeV (hT : tableOk P = true) {T : TypeId} {b : Nat} {x y : Operand} {l : List Value} {c : Array Value} {E : TypeId} (hb : w.heap[b]? = some (.cells c E (0, 0))) (hc : c.size = P.cellsOf T) (hl : l.length = P.cellsOf T) (h1 : l.all Value.oneCell' = true) (hlt : T < P.types.size)
  (k : RL P n ds ops K rest env (w.setRow b l.toArray)) (hv : evR env x = some (.pointer (some ⟨b, 0, none⟩)) := by rfl) (hp : evR env y = some (.agg l.toArray) := by rfl) (hw : wantB ops g env = true := by rfl) : RL P n ds ops K (⟨none, .store T x y, ty, pos, af, g⟩ :: rest) env w := by
 have h := fun a (ha : Kn n ds env a) => x_store (dst := none) (ty := ty) (pos := pos) (af := af) (g := g) hT (w := w) hv hp hlt hb (by simp [Value.cells, hl]) (by simpa [Value.cells, List.all_eq_true] using h1) (by simp only [Value.cells, List.size_toArray, hl, hc]; omega) ha
 have e : (c.toList.take 0 ++ (Value.agg l.toArray).cells.toList ++ c.toList.drop (0 + (Value.agg l.toArray).cells.size)).toArray = l.toArray := by
  simp only [Value.cells, List.size_toArray, List.take_zero, List.nil_append, Nat.zero_add]
  rw [List.drop_eq_nil_of_le (by rw [Array.length_toList, hc, hl]; exact Nat.le_refl _), List.append_nil]
 rw [e] at h
 exact RL.stW _ hw rfl rfl h k
theorem x_calls {f : FuncId} {fo : Operand} {os : Array Operand} {ts : Array TypeId} {a : Act} {vs : Array Value} (he : entersB P f = true) (hf : fo = .func f) (has : os.toList.map (evR env) = vs.toList.map some) (ha : Kn n ds env a) :
  (execOp a.eval ⟨some d, .call ⟨.value fo, os, ts⟩, ty, pos, af, g⟩).run P w = .ok (.enter f vs) w := by
 subst hf
 have e : os.map a.eval = vs := by
  apply Array.ext';rw [Array.toList_map]
  generalize os.toList = l at has
  generalize vs.toList = m at has
  induction l generalizing m with
  | nil => cases m with
   | nil => rfl
   | cons _ _ => simp at has
  | cons x l ih =>
   cases m with
   | nil => simp at has
   | cons y m =>
    simp only [List.map_cons, List.cons.injEq] at has
    rw [List.map_cons, ih m has.2, ha.eval has.1]
 simp [execOp, resolve, Act.eval, Deferred.ofValue, invoke, callFunc_run he]
 exact e
end
section
variable {P : Program}
theorem Keep.wide {m m' hi hi' : Nat} {w w' : World} (h : Keep m hi w w') (h1 : m' ≤ m) (h2 : hi ≤ hi') : Keep m' hi' w w' := ⟨h.os, h.tape, h.output, h.size, fun b hb hn => h.block b hb (by omega), h.other, h.ty⟩
mutual
def colB (m : Nat) : Pu → Bool
 | .leaf _ => true
 | .agg _ ps => colsB m ps
 | .sl lo _ ps => (decide (m ≤ lo) || ps.isEmpty) && colsB m ps
def colsB (m : Nat) : List Pu → Bool
 | [] => true
 | p :: ps => colB m p && colsB m ps
end
mutual
theorem PR.col {D : Nat → Nat → Prop} {w : World} {m : Nat} (hm : 0 < m) : ∀ {p : Pu} {x : List Value}, colB m p = true → PR P D w p x → PR P (fun b o => m ≤ b ∧ D b o) w p x
 | .leaf _, _, _, .leaf h => .leaf h
 | .agg _ ps, _, hc, .agg h1 h => .agg h1 (PRs.col hm hc h)
 | .sl _ _ [], _, _, .sl0 => .sl0
 | .sl _ _ ps, _, hc, .sl hn hcap h hx hlo => by
  simp only [colB, Bool.and_eq_true, Bool.or_eq_true, decide_eq_true_eq] at hc
  refine .sl hn hcap (PRs.col hm hc.2 h) (fun j v hj => ?_) hlo
  obtain ⟨h1, h2⟩ := hx j v hj
  refine ⟨h1, ?_, h2⟩
  rcases hlo with h0 | ⟨h3, _⟩
  ·rcases hc.1 with h4 | h4
   ·omega
   ·rw [List.isEmpty_iff] at h4; exact (hn h4).elim
  ·rcases hc.1 with h4 | h4
   ·omega
   ·rw [List.isEmpty_iff] at h4; exact (hn h4).elim
theorem PRs.col {D : Nat → Nat → Prop} {w : World} {m : Nat} (hm : 0 < m) : ∀ {cs : List (Nat × TypeId)} {ps : List Pu} {x : List Value}, colsB m ps = true → PRs P D w cs ps x → PRs P (fun b o => m ≤ b ∧ D b o) w cs ps x
 | _, [], _, _, .nil => .nil
 | _, _ :: _, _, hc, .cons hp hs ht h => by
  simp only [colsB, Bool.and_eq_true] at hc
  exact .cons (PR.col hm hc.1 hp) hs ht (PRs.col hm hc.2 h)
end
theorem SatC.grewF {X : Ctx} {C : Cfg} {st : St} {a : Act} {w : World} (h : SatC P X C st a w) (hM : ∀ b, ¬ X.M b) : Grew X.w0 w := ⟨h.framed.os, h.framed.tape, h.framed.output, h.framed.size, fun b hb => h.framed.block b hb (hM b)⟩
end
section
variable {P : Program}
theorem sat_of_read {G : List (Nat × TypeId × Pu)} {C : Cfg} {w : World} {HR : List (Nat × Ob)} {a : Act} {env : List (Nat × PV)} (F : Frag P G C w HR []) (hfree : ∀ l ob, get HR l = some ob → freeOb ob = true) (n : Nat) (L : List Nat) (hn : a.tmps.size = n) (hd : a.defers = [])
  (henv : ∀ i u, get env i = some u → ∃ x, a.tmps[i]? = some x ∧ VR P C w none u x.cells.toList ∧ valAgg x = u.isAgg) : ∃ C0, SatC P ⟨w, n, Mset C [], G, L, keysOf HR, C.ρ, C.D, none⟩ C0 ⟨env, HR⟩ a w := by
 have := F.sat (X := ⟨w, n, Mset C [], G, L, keysOf HR, C.ρ, C.D, none⟩) rfl rfl rfl rfl rfl rfl hfree (env := env) (a := a) hn hd henv
 rw [List.append_nil] at this
 exact this
end
structure MarkK (m : Nat) (w w' : World) : Prop where
 os : w'.os = w.os
 tape : w'.tape = w.tape
 output : w'.output = w.output
 size : w'.heap.size = w.heap.size
 low : ∀ b : Nat, b < m → w'.heap[b]? = w.heap[b]?
 same : ∀ (b : Nat) (o : Obj), w.heap[b]? = some o → (∀ x, o ≠ .deferred x) → w'.heap[b]? = some o
theorem MarkK.refl (m : Nat) (w : World) : MarkK m w w := ⟨rfl, rfl, rfl, rfl, fun _ _ => rfl, fun _ _ h _ => h⟩
theorem MarkK.trans {m : Nat} {a b c : World} (h : MarkK m a b) (k : MarkK m b c) : MarkK m a c := ⟨k.os.trans h.os, k.tape.trans h.tape, k.output.trans h.output, k.size.trans h.size, fun i hi => (k.low i hi).trans (h.low i hi), fun i o ho hn => k.same i o (h.same i o ho hn) hn⟩
def Marks (m : Nat) (ds : List Deferred) (w : World) : Prop := ds.Nodup ∧ ∀ d ∈ ds, ∃ D, d = { target := .collected D, args := #[] } ∧ m ≤ D ∧ w.heap[D]? = some (.deferred (some []))
section
variable {P : Program}
theorem leaves_marksK {m : Nat} {fn : Func} {R : Ending → World → Prop} {tmps : Array Value} : ∀ (ds : List Deferred) {w : World}, Marks m ds w →
  (∀ w', MarkK m w w' → ∃ v, (results fn tmps).run P w' = .ok v w' ∧ R (.returned v) w') → LeavesInM Fence.wide 0 P fn tmps R ds .returning w
 | [], w, _, k => k w (MarkK.refl m w)
 | d :: ds, w, hd, k => by
  obtain ⟨D, h1, h2, h3⟩ := hd.2 d (by simp)
  have hK : MarkK m w (w.putObj D (.deferred none)) := ⟨rfl, rfl, rfl, by simp, fun b hb => World.putObj_heap_other (by omega), fun b o ho hn => by
   rw [World.putObj_heap_other fun e => by subst e; rw [h3] at ho; cases ho; exact hn _ rfl]
   exact ho⟩
  refine ⟨by simp, .inl ⟨D, _, by rw [h1], run_takeDeferred h3, leaves_marksK ds ⟨(List.nodup_cons.1 hd.1).2, fun d' hd' => ?_⟩ fun w' hw' => k w' (hK.trans hw')⟩⟩
  obtain ⟨D', k1, k2, k3⟩ := hd.2 d' (by simp [hd'])
  refine ⟨D', k1, k2, ?_⟩
  rw [World.putObj_heap_other fun e => ?_]
  ·exact k3
  ·subst e
   exact (List.nodup_cons.1 hd.1).1 (by rw [h1, ← k1]; exact hd')
theorem calls_rawM {f : FuncId} {fn : Func} {c : Code} {args : Array Value} {w : World} {R : Ending → World → Prop} (n : Nat) (hf : P.funcs[f]? = some fn) (hb : fn.body = some c) (hn : n = args.size + (fn.ntmps - args.size))
  (h : ∀ a : Act, a.tmps.size = n → a.defers = [] → (∀ (i : Nat) (v : Value), args[i]? = some v → a.tmps[i]? = some v) → c.wpIn (rf none) 0 P (fun e a' w' => (e = .normal ∨ e = .ret) ∧ Marks w.heap.size a'.defers w' ∧ ∃ y, (∀ w2, (results fn a'.tmps).run P w2 = .ok y w2) ∧ ∀ w2, MarkK w.heap.size w' w2 → R (.returned y) w2) a w) : Calls P f args w R := by
 refine callsIn_wide (n := 0) |>.1 (callsIn_of_wp_marks hf hb trivial (wpIn_mono (h { tmps := args ++ Array.replicate (fn.ntmps - args.size) undef, defers := [] } (by simp [hn]) rfl fun i v hv => ?_) fun e a' w' ⟨he, hd, y, h1, h2⟩ => ?_) rfl)
 ·rw [Array.getElem?_append_left (by have := (Array.getElem?_eq_some_iff.1 hv).1; exact this)]
  exact hv
 ·have hL : LeavesInM Fence.wide 0 P fn a'.tmps R a'.defers .returning w' := leaves_marksK _ hd fun w2 hw2 => ⟨y, h1 w2, h2 w2 hw2⟩
  rcases he with rfl | rfl <;> exact hL
end
theorem Keep.mark {m hi : Nat} {w w1 w2 : World} (h : Keep m hi w w1) (k : MarkK w.heap.size w1 w2) : Keep m hi w w2 :=
 ⟨k.os.trans h.os, k.tape.trans h.tape, k.output.trans h.output, by rw [k.size]; exact h.size, fun b hb hn => (k.low b hb).trans (h.block b hb hn), fun b o ho hn => (k.low b (heap_lt ho)).trans (h.other b o ho hn), fun b c E hb => by
  obtain ⟨c', hc⟩ := h.ty b c E hb
  exact ⟨c', (k.low b (heap_lt hb)).trans hc⟩⟩
section
variable {P : Program}
theorem TriR.run {X : Ctx} {C : Cfg} {st : St} {a : Act} {w : World} {c : Code} {R : Exit → Act → World → Prop} (hs : SatC P X C st a w) (h : TriR P X c st R) : c.wpIn (rf X.ro) 0 P R a w := h C a w hs
theorem SatC.ptr_val {X : Ctx} {C : Cfg} {st : St} {a : Act} {w : World} (h : SatC P X C st a w) {i l b : Nat} {T : TypeId} {R : Root} (hi : get st.env i = some (.ptr l [] T)) (hρ : C.ρ l = some (b, R)) (hR : subR P R [] = some (T, 0)) : a.tmps[i]? = some (.pointer (some ⟨b, 0, none⟩)) := by
 obtain ⟨x, h1, h2⟩ := h.env i _ hi
 rw [h1]
 cases h2 with
 | one hv hsa =>
  generalize hz : x.cells.toList = z at hv
  cases hv with
  | ptr hl hsub =>
   rw [hρ] at hl
   simp only [Option.some.injEq, Prod.mk.injEq] at hl
   obtain ⟨rfl, rfl⟩ := hl
   rw [hR] at hsub
   simp only [Option.some.injEq, Prod.mk.injEq] at hsub
   obtain ⟨_, rfl⟩ := hsub
   have hsa' : valAgg x = false := hsa
   cases x <;> simp_all [Value.cells, valAgg]
theorem SatC.leaf_val {X : Ctx} {C : Cfg} {st : St} {a : Act} {w : World} (h : SatC P X C st a w) {i : Nat} {v : Value} (hi : get st.env i = some (.pu (.leaf v))) : a.tmps[i]? = some v := by
 obtain ⟨x, h1, h2⟩ := h.env i _ hi
 rw [h1]
 cases h2 with
 | one hv hsa =>
  have h3 := hv.pu_inv
  generalize hz : x.cells.toList = z at h3
  cases h3 with
  | leaf hf =>
   have hsa' : valAgg x = false := hsa
   cases x <;> simp_all [Value.cells, valAgg]
theorem SatC.obj_cells {X : Ctx} {C : Cfg} {st : St} {a : Act} {w : World} (h : SatC P X C st a w) {l : Nat} {T : TypeId} {p : Pu} (hl : get st.heap l = some (.var T (.pu p))) : ∃ b c E, C.ρ l = some (b, .var T) ∧ (l ∈ X.R ∨ X.w0.heap.size ≤ b ∨ X.M b) ∧ w.heap[b]? = some (.cells c E (0, 0)) ∧ PR P C.D w p c.toList ∧ c.size = P.cellsOf T := by
 obtain ⟨b, h1, h2, c, E, h3, h4, _, h5⟩ := h.heap l _ hl
 exact ⟨b, c, E, h1, h2, h3, h4.pu_inv, h5⟩
end
section
variable {P : Program}
theorem Tri.toR {w0 : World} {n : Nat} {M : Nat → Prop} {G : List (Nat × TypeId × Pu)} {L R : List Nat} {ρ0 : Nat → Option (Nat × Root)} {D0 : Nat → Nat → Prop} {st : St} {c : Code} {Q : Exit → St → Prop} (ks : List Nat) (hks : keysOf st.heap = ks) (hp : plainB st = true) (hne : ks ≠ [])
  (h : ∀ C a w M1, SatC P ⟨w0, n, M, G, L, R, ρ0, D0, none⟩ C st a w → 0 < w.heap.size → (M1 = fun b => ∃ d ∈ a.defers, d = { target := .collected b, args := #[] }) →
   TriR P ⟨w, n, M1, G, ks, ks, C.ρ, C.D, none⟩ c st (fun e a' w' => ∃ st' C', Q e st' ∧ SatC P ⟨w0, n, M, G, L, R, ρ0, D0, none⟩ C' st' a' w')) : Tri P ⟨w0, n, M, G, L, R, ρ0, D0, none⟩ c st Q := fun C a w hs => by
 subst hks
 have h5 := hs.restart hp
 have hpos : 0 < w.heap.size := by
  cases hh : st.heap with
  | nil => exact (hne (by rw [hh]; rfl)).elim
  | cons x r =>
   obtain ⟨l, ob⟩ := x
   obtain ⟨b, _, _, h3⟩ := hs.heap l ob (by rw [hh]; simp [get])
   exact Nat.lt_of_le_of_lt (Nat.zero_le _) h3.lt
 exact h C a w _ hs hpos rfl C.bare a w h5
theorem SatC.met {X : Ctx} {C C5 : Cfg} {st s : St} {a a5 : Act} {w w5 : World} {n : Nat} {G : List (Nat × TypeId × Pu)} {L R : List Nat} {ρ1 : Nat → Option (Nat × Root)} {D1 : Nat → Nat → Prop} {M1 : Nat → Prop} (h : SatC P X C st a w) (hM : M1 = fun b => ∃ d ∈ a.defers, d = { target := .collected b, args := #[] })
  (h5 : SatC P ⟨w, n, M1, G, L, R, ρ1, D1, none⟩ C5 s a5 w5) {b : Nat} {c : Array Value} {E : TypeId} {f : Nat × Nat} (hb : w.heap[b]? = some (.cells c E f)) : w5.heap[b]? = some (.cells c E f) := by
 refine (h5.framed.block b (heap_lt hb) fun hm => ?_).trans hb
 rw [hM] at hm
 obtain ⟨d, hd, e⟩ := hm
 obtain ⟨D, h1, _, h3, _⟩ := h.defers.2 d hd
 rw [h1] at e
 simp at e
 subst e
 rw [hb] at h3
 cases h3
theorem After.grew {C C' : Cfg} {w w' : World} {v : PV} {y : Value} {news : List Nat} {H' : List (Nat × Ob)} (h : After P C w [] news C' w' H' v y) : Grew w w' := ⟨h.os, h.tape, h.output, h.size, fun b hb => h.block b hb Mset_nil⟩
theorem Tri.at {X : Ctx} {C : Cfg} {st : St} {a : Act} {w : World} {c : Code} {Q : Exit → St → Prop} (hs : SatC P X C st a w) (h : Tri P X c st Q) : c.wpIn (rf X.ro) 0 P (fun e a' w' => ∃ st' C', Q e st' ∧ SatC P X C' st' a' w') a w := h C a w hs
end
end Hs

