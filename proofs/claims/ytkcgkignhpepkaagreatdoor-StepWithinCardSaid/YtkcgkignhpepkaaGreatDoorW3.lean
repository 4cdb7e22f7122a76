/- Part 3 of the proof: lemmas on walks and the walks of the functions, in their order. -/
import Derived.Test.YtkcgkignhpepkaaGreatDoorW2
import Derived.Scope
import Derived.OpenShut
import Derived.TacticsIn
set_option linter.unusedSimpArgs false
set_option linter.unusedVariables false
set_option linter.unusedSectionVars false
set_option linter.constructorNameAsVariable false
/- The statement 'for .. range f'. -/
namespace Hs
open Go Go.RowKit
variable {P : Program} {α β : Type}
theorem SatC.frag {X : Ctx} {C : Cfg} {st : St} {a : Act} {w : World} (h : SatC P X C st a w) {HR H : List (Nat × Ob)} (hHR : ∀ l ob, get HR l = some ob → ∃ ob1, get st.heap l = some ob1 ∧ ObImp P ob1 ob) (hH : ∀ l ob, get H l = some ob → ∃ ob1, get st.heap l = some ob1 ∧ ObImp P ob1 ob) : Frag P X.G C w HR H := by
 have inH : ∀ l ob, get (HR ++ H) l = some ob → ∃ ob1, get st.heap l = some ob1 ∧ ObImp P ob1 ob := fun l ob hl => by
  rw [get_append] at hl
  cases hg : get HR l with
  | some ob' => rw [hg] at hl; simp at hl; subst hl; exact hHR l ob' hg
  | none => rw [hg] at hl; exact hH l ob (by simpa using hl)
 refine ⟨fun l ob hl => ?_, fun l l' b R R' ob ob' h1 h2 => ?_, fun l ob b R o' hl => ?_, h.dLt, fun b q k hb => ?_, h.gl⟩
 ·obtain ⟨ob1, k1, k2, k3⟩ := inH l ob hl
  obtain ⟨b, f1, _, f3⟩ := h.heap l ob1 k1
  exact ⟨b, by rw [← k2]; exact f1, k3 _ _ _ _ f3⟩
 ·obtain ⟨p1, f1, _⟩ := inH l ob h1
  obtain ⟨p2, f2, _⟩ := inH l' ob' h2
  exact h.inj l l' b R R' p1 p2 f1 f2
 ·obtain ⟨p1, f1, _⟩ := inH l ob hl
  exact h.dObj l p1 b R o' f1
 ·obtain ⟨_, g2, g3, g4⟩ := h.own b q k hb
  refine ⟨g2, g3, fun l ob R hl => ?_⟩
  obtain ⟨p1, f1, _⟩ := inH l ob hl
  exact g4 l p1 R f1
theorem SatC.turn {X : Ctx} {C : Cfg} {st : St} {a : Act} {w : World} {lam l : Nat} {r3 : Loop} (r4 : Loop) (s3 : SatC P X C st a w) (g3 : get st.heap lam = some (.loop r3)) (hR : lam ∉ X.R) (k2 : C.ρ lam = some (l, .loop)) : w.heap[l]? = some (.loop r3) ∧ SatC P X C ⟨st.env, (lam, .loop r4) :: st.heap⟩ a (w.putObj l (.loop r4)) := by
 obtain ⟨b, e1, e2, e3⟩ := s3.heap lam _ g3
 have k1 : w.heap[l]? = some (.loop r3) := by
  rw [k2] at e1
  simp at e1
  rw [e1.1];exact e3
 refine ⟨k1, ?_⟩
 have hlt := heap_lt k1
 have hcell : ∀ b o, (w.putObj l (.loop r4)).cell? ⟨b, o, none⟩ = w.cell? ⟨b, o, none⟩ := fun b o => by
  by_cases e : b = l
  ·subst e
   simp only [World.cell?, World.putObj_heap_same hlt, k1]
  ·simp only [World.cell?, World.putObj_heap_other e]
 have hty : TyKeep w (w.putObj l (.loop r4)) := fun b c E hb => ⟨c, by
  have : b ≠ l := fun e => by subst e; rw [k1] at hb; cases hb
  rw [World.putObj_heap_other this]; exact hb⟩
 have st1 : ∀ (ls : List Nat) keep, Stays C C w (w.putObj l (.loop r4)) ls keep := fun ls keep =>
  ⟨fun b o hD => ⟨hD, hcell b o⟩, fun _ _ => rfl, fun b q k hb _ => ⟨hb, World.putObj_heap_other fun e => by
   subst e
   exact (s3.own b q k hb).2.2.2 lam _ _ g3 k2⟩, hty⟩
 refine s3.write (w' := w.putObj l (.loop r4)) (ob' := .loop r4) g3 hR k2 rfl ⟨rfl, rfl, rfl, by simp, fun b' hb => World.putObj_heap_other hb, hty⟩ st.env rfl rfl (fun b1 q k hb => ⟨q, hb⟩) (fun i v hv => ?_) (fun l' ob1 _ _ => st1 _ _) (World.putObj_heap_same hlt) (st1 _ _)
 obtain ⟨y, h1, h2⟩ := s3.env i v hv
 exact ⟨y, h1, h2.mono (st1 _ _)⟩
theorem SatC.marked {X : Ctx} {C : Cfg} {st : St} {a : Act} {w : World} (h : SatC P X C st a w) : SatC P X C st { a with defers := { target := .collected w.heap.size, args := #[] } :: a.defers } (w.alloc (.deferred (some []))) := by
 have g := Grew.alloc w (.deferred (some []))
 have h1 := h.grew g (CGrew.refl C w _ fun b q k hb hge => absurd (h.own b q k hb).2.1 (Nat.not_lt.2 hge))
 exact { h1 with
  size := h1.size
  defers := by
   refine ⟨List.nodup_cons.2 ⟨fun hm => ?_, h1.defers.1⟩, fun d hd => ?_⟩
   ·obtain ⟨D, e1, _, e3, _⟩ := h.defers.2 _ hm
    simp at e1
    have := heap_lt e3
    omega
   ·rcases List.mem_cons.1 hd with rfl | hd
    ·refine ⟨w.heap.size, rfl, .inl h.framed.size, World.alloc_heap_new w _, ?_⟩
     cases hc : C.own w.heap.size with
     | none => rfl
     | some q => exact absurd (h.own _ q.1 q.2 hc).2.1 (Nat.lt_irrefl _)
    ·exact h1.defers.2 d hd
  env := h1.env }
def freshB (env : List (Nat × PV)) (heap : List (Nat × Ob)) (lam : Nat) (L R : List Nat) : Bool :=
 env.all (fun q => !q.2.labs.contains lam) && heap.all (fun q => q.1 != lam && !q.2.labs.contains lam) && !L.contains lam && !R.contains lam
theorem freshB_spec {env : List (Nat × PV)} {heap : List (Nat × Ob)} {lam : Nat} {L R : List Nat} (h : freshB env heap lam L R = true) : Fresh ⟨env, heap⟩ lam ∧ get heap lam = none ∧ lam ∉ L ∧ lam ∉ R := by
 unfold freshB at h
 simp only [Bool.and_eq_true, List.all_eq_true, Bool.not_eq_true', List.contains_eq_mem, decide_eq_false_iff_not, bne_iff_ne, ne_eq] at h
 obtain ⟨⟨⟨h1, h2⟩, h3⟩, h4⟩ := h
 refine ⟨⟨fun i v hv => h1 _ (get_mem hv), fun l ob hl _ => (h2 _ (get_mem hl)).2⟩, ?_, h3, h4⟩
 cases hg : get heap lam with
 | none => rfl
 | some ob => exact absurd rfl (h2 _ (get_mem hg)).1
inductive KeepE (L : List Nat) (env : List (Nat × PV)) : List (Nat × PV) → Prop
 | nil : KeepE L env []
 | cons {i : Nat} {v : PV} {r : List (Nat × PV)} (h : get env i = some v) (k : keepV v = true) (l : v.labs.all (fun x => L.contains x) = true) (t : KeepE L env r) : KeepE L env ((i, v) :: r)
theorem KeepE.at {L : List Nat} {env r : List (Nat × PV)} (h : KeepE L env r) : ∀ i v, get r i = some v → get env i = some v ∧ keepV v = true ∧ ∀ l ∈ v.labs, l ∈ L := by
 induction h with
 | nil => intro i v h; cases h
 | cons h k l _ ih =>
  intro i v hv
  rw [get_cons] at hv
  split at hv
  ·rename_i e
   simp at hv
   subst e hv;exact ⟨h, k, fun x hx => by simpa using List.all_eq_true.1 l x hx⟩
  ·exact ih i v hv
theorem Tri.overFunc {X : Ctx} {env : List (Nat × PV)} {heap : List (Nat × Ob)} {g : Operand} {ps : Array Tmp} {assign body : Code} {Q : Exit → St → Prop} (lam : Nat) (L' L : List Nat) (env' : List (Nat × PV)) {f : FuncId} {vf : PV} {captured : List PV} {HR H : List (Nat × Ob)} {items : List α} {enc : α → List PV} {out : α → Option β} {jc : β → Code} {Ht : β → List (Nat × Ob)}
  (hc : IterC P X.G f captured lam L' HR H items enc out jc Ht)
  (hlen : ∀ x ∈ items, (enc x).length = ps.size)
  (hr : ∀ x ∈ items, ∀ r w0 M ρ0 D0 l, Tri P ⟨w0, X.n, M, X.G, L, keysOf HR, ρ0, D0, some l⟩ assign ⟨ps.toList.zip (enc x) ++ env', HR ++ (lam, .loop r) :: H⟩ (thenQ (fun st => get st.heap lam = some (.loop r) ∧
   Tri P ⟨w0, X.n, M, X.G, L, keysOf HR, ρ0, D0, some l⟩ body ⟨st.env, (lam, .loop (busy r)) :: st.heap⟩ fun e st => get st.heap lam = some (.loop (busy r)) ∧ endsBy ((out x).map jc) e ∧ OutH P st.heap (match out x with | none => H | some z => Ht z)) fun _ _ => False))
  (hdone : items.findSome? out = none → Q .normal ⟨env, H ++ heap⟩)
  (hstop : ∀ z, items.findSome? out = some z → Tri P X (jc z) ⟨env, Ht z ++ heap⟩ Q)
  (hro : X.ro = none := by rfl) (hg : evalO X.G env g = some vf := by rfl) (hfv : fnV (strip vf) = some (f, [], captured) := by rfl) (he : entersB P f = true := by kernel_rfl)
  (hHR : OutH P heap HR := by repeat (first | exact OutH.nil | refine OutH.cons rfl (ObImp.refl _) ?_)) (hH : InH P X.R heap H := by repeat (first | exact InH.nil | refine InH.cons rfl rfl (ObImp.refl _) ?_))
  (hfr : freshB env heap lam X.L X.R = true := by rfl) (henv : KeepE L' env env' := by repeat (first | exact KeepE.nil | refine KeepE.cons rfl rfl rfl ?_)) (hlam : L'.contains lam = true := by rfl)
  (hps : ps.toList.Nodup := by decide) (hps2 : (ps.toList.all fun p => decide (p < X.n)) = true := by rfl)
  (hchk : ∀ r z, outChk HR ((lam, .loop r) :: H) (roundH lam r H Ht jc z) (bv z.isNone) L [] = true := by intro r z; cases z <;> rfl)
  (hHs : ∀ z, (keysOf (Ht z)).contains lam = false := by intro z; rfl) : Tri P X (.rangeFunc g ps assign body) ⟨env, heap⟩ Q := by
 intro C a w hs
 rw [hro]
 obtain ⟨f1, f2, f3, f4⟩ := freshB_spec hfr
 refine wpIn_rangeFunc fun fn _ => ?_
 obtain ⟨rc, hrc⟩ : ∃ rc : Loop, rc = { state := .ready, pending := none, fn, tmps := a.tmps, params := ps, assign, body, defers := w.heap.size } := ⟨_, rfl⟩
 have hs1 := hs.marked
 have hs2 := hs1.new (ob := .loop rc) (o := .loop rc) f1 f3 (World.alloc_heap_new _ _)
 obtain ⟨l, hl⟩ : ∃ l, l = (w.alloc (.deferred (some []))).heap.size := ⟨_, rfl⟩
 rw [← hl] at hs2
 obtain ⟨C2, hC2⟩ : ∃ C2, C2 = C.at lam l (Ob.loop rc).root := ⟨_, rfl⟩
 rw [← hC2] at hs2
 have hρ2 : C2.ρ lam = some (l, .loop) := by rw [hC2]; simp [Cfg.at, Ob.root]
 obtain ⟨a', ha'⟩ : ∃ a' : Act, a' = { a with defers := { target := .collected w.heap.size, args := #[] } :: a.defers } := ⟨_, rfl⟩
 rw [← ha'] at hs2
 obtain ⟨w1, hw1⟩ : ∃ w1, w1 = (w.alloc (.deferred (some []))).alloc (.loop rc) := ⟨_, rfl⟩
 rw [← hw1] at hs2
 obtain ⟨xs, ys, e1, e2, e3⟩ := fnV_run (hs2.eval (o := g) hg) hfv
 have exs : xs = #[] := by
  have := e2.length
  simp at this
  exact Array.eq_empty_of_size_eq_zero this.symm
 subst exs
 have hmem : ∀ l' ob, get H l' = some ob → l' ≠ lam := fun l' ob hl' e => by
  subst e
  obtain ⟨_, ob1, k1, _⟩ := hH.at _ _ hl'
  rw [f2] at k1
  cases k1
 have hlt : ∀ l' ob, get heap l' = some ob → get ((lam, Ob.loop rc) :: heap) l' = some ob := fun l' ob hl' => by
  rw [get_cons, if_neg]
  ·exact hl'
  ·intro e
   rw [e, f2] at hl'
   cases hl'
 have F : Frag P X.G C2 w1 HR ((lam, .loop rc) :: H) := hs2.frag (fun l' ob hl' => let ⟨ob1, k1, k2⟩ := hHR.at l' ob hl'; ⟨ob1, hlt _ _ k1, k2⟩) (fun l' ob hl' => by
  rw [get_cons] at hl'
  split at hl'
  ·rename_i e
   simp at hl'
   subst e hl';exact ⟨_, by simp [get], ObImp.refl _⟩
  ·obtain ⟨_, ob1, k1, k2⟩ := hH.at l' ob hl'
   exact ⟨ob1, hlt _ _ k1, k2⟩)
 have hcall := hc l rc C2 w1 (#[.func (.yield l) #[] #[]] ++ ys) F (by
  have := VFs.cons (P := P) (C := C2) (w := w1) (v := .fn (.yield l) [] []) (x := .func (.yield l) #[] #[]) (VR.fn .nil .nil) rfl e3
  simpa using this) (fun X' q0 _ qG qρ qD qL x hx => YC.of_tri (X1 := X) (C1 := C2) (w1 := w1) (L := L) (env' := env') q0 qρ qD qG hs2 (by rw [qL]; simpa using hlam) hρ2 (by rw [hrc]) (by rw [hrc]) (by rw [hrc, ha']) (fun i v hv => by
   obtain ⟨k1, k2, k3⟩ := henv.at i v hv
   exact ⟨k1, k2, fun x hx => by rw [qL]; exact k3 x hx⟩) (by rw [hrc]; exact hps) (fun p hp => by
    rw [hrc] at hp
    simpa using List.all_eq_true.1 hps2 p hp) (by rw [hrc]; exact hlen x hx) (hchk rc) (fun w0 M ρ0 D0 => by
     have := hr x hx rc w0 M ρ0 D0 l
     rw [hrc] at this ⊢
     exact this))
 refine ⟨l, [{ target := .collected w.heap.size, args := #[] }], w1, { target := .fn (.func f) ys, args := #[.func (.yield l) #[] #[]] }, w1, f, #[.func (.yield l) #[] #[]] ++ ys, w1, ?_, ?_, fun _ _ => trivial, ?_, fun h => by simp [rf, Fence.wide] at h, ?_⟩
 ·rw [hw1, hrc, hl]
  have := run_enterLoop_outer (P := P) (w := w) fn a.tmps ps assign body
  rw [show (rf none).round = none from rfl, this]
  simp
 ·have e1' : a.eval g = .func (.func f) #[] ys := by
   rw [← e1, ha']; rfl
  simp only [resolve, e1']
  simp [go_sem]
 ·simp [invoke, go_sem, callFunc_run he]
 refine (callsIn_wide (n := 0 - 1)).2 (hcall.mono fun e w3 ⟨y, C3, hy, A⟩ => ?_);subst hy
 have hs3 := hs2.called A (fun l' ob hl' => by
  rw [get_cons] at hl'
  split at hl'
  ·rename_i e
   exact ⟨by rw [e]; exact f4, Ob.loop rc, by rw [e]; simp [get]⟩
  ·obtain ⟨k0, ob1, k1, _⟩ := hH.at l' ob hl'
   exact ⟨k0, ob1, hlt _ _ k1⟩) (fun l' hl' => by cases hl')
 have hρ3 : C3.ρ lam = some (l, .loop) := (A.rho lam (by simp)).trans hρ2
 have hle : ∀ (H' : List (Nat × Ob)) (r3 r4 : Loop), (∀ l' ob, get H' l' = some ob → l' ≠ lam) → St.Le ⟨env, H' ++ heap⟩ ⟨env, (lam, .loop r4) :: ((lam, .loop r3) :: H' ++ (lam, .loop rc) :: heap)⟩ := fun H' r3 r4 hn => ⟨fun _ _ h => h, fun l' ob hl' => by
  have hne : l' ≠ lam := fun e => by
   simp only [get_append] at hl'
   cases hg : get H' l' with
   | some o => exact hn l' o hg e
   | none => rw [hg, e, f2] at hl'; cases hl'
  simp only [List.cons_append, get_cons, if_neg hne, get_append] at hl' ⊢
  exact hl'⟩
 show rangePost _ _ _ _ _ _ _ _
 unfold rangePost
 cases hz : items.findSome? out with
 | none =>
  rw [hz] at hs3
  obtain ⟨k1, k2⟩ := hs3.turn (lam := lam) (r3 := rc) { rc with state := .exhausted } (by simp [roundH, get]) f4 hρ3
  refine ⟨none, _, by have := run_endLoop (P := P) k1 (by rw [hrc]; simp); rw [show rc.pending = none by rw [hrc]] at this; exact this, _, C3, hdone hz, ?_⟩
  have := k2.less (hle H rc _ hmem)
  rw [ha', show rc.pending = none by rw [hrc]] at this
  exact this
 | some z =>
  rw [hz] at hs3
  obtain ⟨k1, k2⟩ := hs3.turn (lam := lam) (r3 := doneL rc (jc z)) { doneL rc (jc z) with state := .exhausted } (by simp [roundH, get]) f4 hρ3
  refine ⟨some (jc z), _, by have := run_endLoop (P := P) k1 (by simp [doneL]); exact this, ?_⟩
  have hn : ∀ l' ob, get (Ht z) l' = some ob → l' ≠ lam := fun l' ob hl' e => by
   have := get_keys hl'
   have h2 := hHs z
   rw [e] at this
   simp only [List.contains_eq_mem, decide_eq_false_iff_not] at h2
   exact h2 this
  have hs5 := k2.less (hle (Ht z) _ _ hn)
  have := hstop z hz C3 _ _ hs5
  rw [hro] at this
  rw [ha'] at this
  exact this
end Hs

/- Rows that are made and copied, maps: what a look settles left to defaults. -/
namespace Hs
open Go Go.RowKit
variable {P : Program} {X : Ctx} {st : St} {ops : Array Oper} {env : List (Nat × PV)} {heap : List (Nat × Ob)} {dr : Bool} {s0 : St} {K : St → Prop} {dn : List Item} {rest : List Oper} {d : Nat} {ty : TypeId} {pos : String} {after : Array Edge} {g : Bool}
theorem v_ixa {x y : Operand} {t E l n : Nat} {k : IntKind} {i : Int} (S : Seat P) [hS : Sl P t E] (h : Ev X st.env g x (.arr l E 0 n) := by first | (focus (apply Ev.mk; exact rfl; (repeat constructor); done)) | (focus (apply Ev.gd; exact rfl; (repeat constructor); done)) | (focus (apply Ev.left; exact rfl; (repeat constructor); done)) | (focus (apply Ev.left2; exact rfl; (repeat constructor); done))) (hi : Ev X st.env g y (iv k i) := by first | (focus (apply Ev.mk; exact rfl; (repeat constructor); done)) | (focus (apply Ev.gd; exact rfl; (repeat constructor); done)) | (focus (apply Ev.left; exact rfl; (repeat constructor); done)) | (focus (apply Ev.left2; exact rfl; (repeat constructor); done))) (h0 : 0 ≤ i := by first | decide | omega) (hn : i < n := by first | decide | omega) :
  ValG P X st (.indexAddr t x y) g (.ptr l [i.toNat] E) { reads := tmpsOf [x, y] } :=
 ValG.pure S (.cons h (.cons hi .nil)) (by
  obtain ⟨h1, h2⟩ := hS.spec
  have hlt : i.toNat < n := by omega
  simp [pureOp, idxAddr, h1, h2, indexV, h0, hn])
theorem s_make (S : Seat P) {t E : TypeId} {B : Nat} [hE : El P t E B] {x y : Operand} {n : Nat} {k k' : IntKind} {z : PV} [hz : Zr S E z] (l : Nat) (hfit : n * B ≤ 281474976710656) (h63 : n ≤ 9223372036854775807)
  (c : WalkR P X ops dr s0 K (dn ++ [⟨⟨some d, .makeSlice t x y, ty, pos, after, none⟩, { v := .arr l E 0 n, heap := [(l, .row E (List.replicate n z))] }, { reads := tmpsOf [x, y], news := [l], labs := [l] }⟩]) ⟨(d, .arr l E 0 n) :: env, (l, .row E (List.replicate n z)) :: heap⟩ rest)
  (hx : evalO X.G env x = some (iv k n) := by rfl) (hy : evalO X.G env y = some (iv k' n) := by rfl) (hlz : z.labs = [] := by rfl) (hd : lb d X.n = true := by rfl) :
  WalkR P X ops dr s0 K dn ⟨env, heap⟩ (⟨some d, .makeSlice t x y, ty, pos, after, none⟩ :: rest) := step_make S l hx hy hz.ok hlz hd hfit h63 c
theorem s_copy (S : Seat P) {t t' E : TypeId} [hS : Sl P t E] {x y : Operand} {l n : Nat} {v : PV} {vs : List PV} {ps : List Pu}
  (c : WalkR P X ops dr s0 K (dn ++ [⟨⟨some d, .call ⟨.builtin .copy, #[x, y], #[t, t']⟩, ty, pos, after, none⟩, { v := iv .i64 n, heap := [(l, .row E (ps.map .pu))] }, { reads := tmpsOf [x, y], hreads := [l] }⟩]) ⟨(d, iv .i64 n) :: env, (l, .row E (ps.map .pu)) :: heap⟩ rest)
  (hlE : Nat.ble (E + 1) P.types.size = true := by kernel_rfl) (hx : evalO X.G env x = some (.arr l E 0 n) := by rfl) (hl : get heap l = some (.row E vs) := by rfl) (hR : X.R.contains l = false := by rfl) (hy : evalO X.G env y = some v := by rfl) (hv : Elems E v ps := by repeat constructor) (hvn : vs.length = n := by simp) (hpn : ps.length = n := by rfl) (hd : lb d X.n = true := by rfl) :
  WalkR P X ops dr s0 K dn ⟨env, heap⟩ (⟨some d, .call ⟨.builtin .copy, #[x, y], #[t, t']⟩, ty, pos, after, none⟩ :: rest) := step_copy S hlE hx hl hR hy hv hvn hpn hd c
theorem s_storeR (S : Seat P) {x y : Operand} {T T' E : TypeId} {l i : Nat} {vs : List PV} {r u u0 : PV} [hO : Okt P T T'] [hty : TyV P T u] [h1 : Sz P T] [h2 : Sz P T'] (hg : vs[i]? = some u0)
  (t : WalkR P X ops dr s0 K (dn ++ [⟨⟨none, .store T x y, ty, pos, after, none⟩, { v := .tup [], heap := [(l, .row E (vs.set i u))] }, { reads := tmpsOf [x, y], hreads := [l], labs := (Ob.row E (vs.set i u)).labs }⟩]) ⟨env, (l, .row E (vs.set i u)) :: heap⟩ rest)
  (hx : evalO X.G env x = some (.ptr l [i] T') := by rfl) (hy : evalO X.G env y = some r := by rfl) (hs : Str r u := by repeat constructor) (hl : get heap l = some (.row E vs) := by rfl) (hR : X.R.contains l = false := by rfl) :
  WalkR P X ops dr s0 K dn ⟨env, heap⟩ (⟨none, .store T x y, ty, pos, after, none⟩ :: rest) :=
 s_store S (p := [i]) (u0 := u0) t hx hy hs hl hR (by simp [Ob.get, hg, getP]) (by simp [Ob.set, hg, setP])
theorem NoLab.row {α : Type} {E : TypeId} {l : List α} {f : α → Pu} : NoLab (.row E (l.map fun a => .pu (f a))) := ⟨by
 show PV.labsL (l.map fun a => PV.pu (f a)) = []
 induction l with
 | nil => rfl
 | cons a l ih => simp only [List.map_cons, PV.labsL, PV.labs, List.nil_append]; exact ih⟩
theorem Tri.freeze {c : Code} {Q : Exit → St → Prop} {lo l E : Nat} {ps : List Pu} {env' : List (Nat × PV)} {heap' : List (Nat × Ob)} (hl : get heap l = some (.row E (ps.map .pu))) (hlo : lo = 0 ∨ (lo ≤ X.w0.heap.size ∧ ∀ b, ¬ X.M b)) (h : Tri P X c ⟨env', heap'⟩ Q)
  (h1 : FrzE lo l E ps env env' := by repeat (first | exact FrzE.nil | refine FrzE.cons rfl rfl rfl ?_)) (h2 : FrzH lo l E ps heap heap' := by repeat (first | exact FrzH.nil | refine FrzH.cons rfl rfl rfl ?_)) (hR : X.R.contains l = false := by rfl) : Tri P X c ⟨env, heap⟩ Q :=
 Tri.ghost (Ghost.freeze hlo hl (by simpa using hR) (Frozen.of h1 h2)) h
theorem Tri.cutW {σ : Type} {x y : Code} {Q : Exit → St → Prop} (t : σ → St) (h : Tri P X x st (thenQ (fun s => ∃ a, WkE s.env (t a).env ∧ WkH s.heap (t a).heap) Q)) (k : ∀ a, Tri P X y (t a) Q) : Tri P X x st (thenQ (fun s => Tri P X y s Q) Q) := h.mono fun e s hs => by
 cases e with
 | normal => obtain ⟨a, h1, h2⟩ := hs; exact Tri.ghost (Ghost.wk h1 h2) (k a)
 | _ => exact hs
end Hs

/- Labels, scopes. -/
namespace Hs
open Go Go.RowKit
variable {P : Program} {X : Ctx} {st : St}
def noGo (Q : Exit → St → Prop) : Exit → St → Prop
 | .goto _, _ => False
 | e, s => Q e s
theorem Tri.scope {c : Code} {Q : Exit → St → Prop} (h : Tri P X c st (noGo Q)) (hro : X.ro = none := by rfl) : Tri P X (.scope c) st Q := fun C a w hs => by
 have h1 := h C a w hs
 rw [hro] at h1 ⊢
 refine wpIn_wide.2 (wp_scope_straight (wpIn_wide.1 (wpIn_mono (F := Fence.wide) h1 fun e a' w' hq => ?_)))
 obtain ⟨s, C', q, hs'⟩ := hq
 cases e with
 | goto l => exact q.elim
 | _ => exact ⟨s, C', q, hs'⟩
inductive LabsOk (L : List Nat) : List (Nat × Ob) → Prop
 | nil : LabsOk L []
 | cons {l : Nat} {ob : Ob} {r : List (Nat × Ob)} (h : L.contains l = true) (k : (ob.labs.all fun x => L.contains x) = true) (t : LabsOk L r) : LabsOk L ((l, ob) :: r)
theorem noLabs {L : List Nat} {ob : Ob} [h : NoLab ob] : (ob.labs.all fun x => L.contains x) = true := by rw [h.ok]; rfl
theorem LabsOk.at {L : List Nat} {H : List (Nat × Ob)} (h : LabsOk L H) : ∀ l ob, get H l = some ob → l ∈ L ∧ ∀ l' ∈ ob.labs, l' ∈ L := by
 induction h with
 | nil => intro l ob h; cases h
 | cons h k _ ih =>
  intro l ob hl
  rw [get_cons] at hl
  split at hl
  ·rename_i e
   simp at hl
   subst e hl;exact ⟨by simpa using h, fun l' hl' => by simpa using List.all_eq_true.1 k l' hl'⟩
  ·exact ih l ob hl
theorem HCall.of_triE {G : List (Nat × TypeId × Pu)} (hT : tableOk P = true) {f : FuncId} {fn : Func} {c : Code} (n : Nat) (L : List Nat) (hf : P.funcs[f]? = some fn) (hb : fn.body = some c) {args : List PV} {HR H H' : List (Nat × Ob)} {v : PV} {news : List Nat} (hn : n = args.length + (fn.ntmps - args.length))
  (h1 : HR.all (fun q => freeOb q.2) = true) (h2 : disjB HR H' = true) (h3 : (v.labs.all fun l => (L ++ news).contains l) = true) (h4 : LabsOk (L ++ news) H') (h5 : ((keysOf H).all fun l => (keysOf H').contains l) = true)
  (h : ∀ w0 M ρ0 D0, Tri P ⟨w0, n, M, G, L, keysOf HR, ρ0, D0, none⟩ c ⟨envOf 0 args, HR ++ H⟩ fun e st => (e = .normal ∨ e = .ret) ∧ (∃ u, res P st fn.results.toList = some u ∧ VImp P u v) ∧ OutH P st.heap H') : HCall P G f args HR H v H' news := by
 refine HCall.of_tri hT hf hb (L := L) (n := n) hn (fun l ob hl => List.all_eq_true.1 h1 _ (get_mem hl)) (fun l ob hl => disjB_none h2 hl) (fun l hl => by simpa using List.all_eq_true.1 h3 l hl) (fun l ob hl => ?_) (fun l ob hl => ?_) ?_
 ·obtain ⟨k1, k2⟩ := h4.at l ob hl
  exact ⟨by simpa using k1, fun l' hl' => by simpa using k2 l' hl'⟩
 ·have := List.all_eq_true.1 h5 l (get_keys hl)
  exact get_some_of (by simpa [keysOf] using this)
 ·rintro ⟨w0, n', M, G', L', R, ρ0, D0, ro⟩ hn hG hL hR hro
  simp only at hn hG hL hR hro
  subst hn hG hL hR hro
  exact (h w0 M ρ0 D0).mono fun e st ⟨he, hu, ho⟩ => ⟨he, st, Ghost.refl _, hu, ho.at⟩
theorem ob_iv {T : TypeId} {k : IntKind} {a b : Int} (h : a = b) : ObImp P (.var T (iv k a)) (.var T (iv k b)) := by rw [h]; exact ObImp.refl _
theorem v_sl {lo : Nat} {g : Bool} (S : Seat P) {T E : TypeId} [hS : Sl P T E] {z : PV} [hz : Zr S E z] {n : Nat} {parts : Array (Nat × Operand)} {vs : List PV} {ps : List Pu}
  (h : EvL X st.env g (parts.toList.map (·.2)) vs := by repeat (first | exact EvL.nil | (apply EvL.cons; (first | (focus (apply Ev.mk; exact rfl; (repeat constructor); done)) | (focus (apply Ev.gd; exact rfl; (repeat constructor); done)) | (focus (apply Ev.left; exact rfl; (repeat constructor); done))))))
  (hps : ToPus vs ps := by repeat constructor) (hty : TyVs P E ps := by repeat (first | exact TyVs.nil | refine TyVs.cons inferInstance ?_)) (hn : n = ps.length := by rfl) (hi : parts.toList.map (·.1) = List.range ps.length := by rfl) (hfit : Nat.ble (n * P.cellsOf E) 16777216 = true := by kernel_rfl) (hlo : lo ≤ X.w0.heap.size := by first | exact Nat.zero_le _ | exact Nat.le_refl _) :
  ValG P X st (.buildSlice T n parts) g (.xs lo E ps) { reads := tmpsOf (parts.toList.map (·.2)) } := ⟨fun hg st' ha C a w hs o ho hd => by
 obtain ⟨raw, h1, h2⟩ := h.raw hg
 have h1' : evalL X.G st'.env (parts.toList.map (·.2)) = some raw := by
  rw [evalL_congr (env := st.env) fun t ht => ha.env t ht];exact h1
 obtain ⟨dst, op, type, pos, after, guard⟩ := o
 simp only at ho
 subst ho
 exact exec_buildSliceP S hs rfl (by simpa [Op.operands] using h1') (by rw [h2]; exact hps) hd hlo (buildSl_all S hty.all hn hi hfit)⟩
end Hs

/- Slices of slices; the greatest of three. -/
namespace Hs
open Go Go.RowKit
variable {P : Program} {X : Ctx} {st : St} {g : Bool} {lo : Nat}
theorem PRs.parts {D : Nat → Nat → Prop} {w : World} {s : Nat} {E : TypeId} : ∀ {l : Nat} {n : Nat} {ps : List Pu} {x : List Value}, l ≤ n → PRs P D w (List.replicate n (s, E)) ps x →
  PRs P D w (List.replicate l (s, E)) (ps.take l) (x.take (l * s)) ∧ PRs P D w (List.replicate (n - l) (s, E)) (ps.drop l) (x.drop (l * s))
 | 0, n, ps, x, _, h => by simpa using ⟨PRs.nil, h⟩
 | l + 1, 0, _, _, hl, _ => by omega
 | l + 1, n + 1, _, _, hl, .cons (p := p) (ps := ps) (x := x) (y := y) hp hs ht h => by
  obtain ⟨h1, h2⟩ := PRs.parts (l := l) (by omega) h
  have e : (l + 1) * s = x.length + l * s := by rw [Nat.succ_mul, hs]; omega
  constructor
  ·rw [List.replicate_succ, List.take_succ_cons, e, List.take_length_add_append]
   exact .cons hp hs ht h1
  ·rw [List.drop_succ_cons, e, List.drop_length_add_append, show n + 1 - (l + 1) = n - l by omega]
   exact h2
theorem PR.sub {D : Nat → Nat → Prop} {w : World} {E : TypeId} {ps : List Pu} {a : Option Addr} {n cap : Nat} (h : PR P D w (.sl lo E ps) [.slice a n cap]) {l r : Nat} (h1 : l ≤ r) (h2 : r ≤ ps.length) :
  n = ps.length ∧ ((ps = [] → l = 0 ∧ r = 0) ∧ ps.length ≤ cap ∨ ps = []) ∧ PR P D w (.sl 0 E ((ps.take r).drop l)) [.slice (if cap = l then a else a.map (·.add (l * P.cellsOf E))) (r - l) (cap - l)] := by
 obtain ⟨e1, x, hx, hxl, hc⟩ := h.cells
 refine ⟨e1, ?_, ?_⟩
 ·by_cases h0 : ps = []
  ·exact .inr h0
  ·exact .inl ⟨fun e => absurd e h0, by obtain ⟨_, _, _, h3, _⟩ := hc h0; omega⟩
 ·have hlen : ((ps.take r).drop l).length = r - l := by simp; omega
  by_cases h0 : r - l = 0
  ·have e : (ps.take r).drop l = [] := List.length_eq_zero_iff.1 (by omega)
   rw [e, h0];exact .sl0
  ·have hne : ps ≠ [] := fun e => by subst e; simp at h2; omega
   obtain ⟨b, o, rfl, hcap, hcell⟩ := hc hne
   rw [if_neg (by omega)]
   have ha : (⟨b, o, none⟩ : Addr).add (l * P.cellsOf E) = ⟨b, o + l * P.cellsOf E, none⟩ := by unfold Addr.add; split <;> simp_all
   have hp1 := (hx.parts (l := r) (by omega)).1
   have hp2 := (hp1.parts (l := l) h1).2
   simp only [Option.map_some, ha]
   rw [← hlen];refine .sl (fun e => h0 (by rw [← hlen, e]; rfl)) (by omega) (by rw [hlen]; exact hp2) (fun j v hj => ?_) (.inl rfl)
   rw [List.getElem?_drop, List.getElem?_take] at hj
   split at hj
   ·obtain ⟨k1, k2⟩ := hcell _ _ hj
    have ha2 : (⟨b, o, none⟩ : Addr).add (l * P.cellsOf E + j) = ⟨b, o + l * P.cellsOf E + j, none⟩ := by unfold Addr.add; split <;> simp_all <;> omega
    rw [ha2] at k1
    exact ⟨k1, by rw [Nat.add_assoc]; exact k2⟩
   ·cases hj
theorem VW.sl_inv {C : Cfg} {w : World} {E : TypeId} {ps : List Pu} {x : Value} (h : VW P C w (.pu (.sl lo E ps)) x) : ∃ a n cap, x = .slice a n cap ∧ PR P C.D w (.sl lo E ps) [.slice a n cap] := by
 have := h.cell rfl (fun _ => by simp)
 have := this.pu_inv
 cases this with
 | sl0 => exact ⟨_, _, _, rfl, .sl0⟩
 | sl h1 h2 h3 h4 h5 => exact ⟨_, _, _, rfl, .sl h1 h2 h3 h4 h5⟩
theorem run_slice {w : World} {t E : TypeId} {a : Option Addr} {n cap l r : Nat} {lv hv : Option Value} (ht : P.underlying t = some (.slice E)) (hE : ∃ i, P.info? E = some i) (h1 : l ≤ r) (h2 : r ≤ cap)
  (hl : lv = none ∧ l = 0 ∨ lv = some (.int .i64 l)) (hr : hv = none ∧ r = n ∨ hv = some (.int .i64 r)) :
  (Instr.sliceAt t (.slice a n cap) lv hv none).run P w = .ok (.slice (if cap = l then a else a.map (·.add (l * P.cellsOf E))) (r - l) (cap - l)) w := by
 obtain ⟨i, hi⟩ := hE
 have hb : (Instr.sliceBounds true n cap lv hv none).run P w = .ok (l, r, cap) w := by
  rcases hl with ⟨rfl, rfl⟩ | rfl <;> rcases hr with ⟨rfl, rfl⟩ | rfl <;>
   simp [Instr.sliceBounds, Instr.sliceBound, asIntOf, h1, h2] <;> omega
 have e : P.cellsOf E = i.size := cellsOf_info hi
 simp [Instr.sliceAt, Instr.slice, run_underlying ht, Go.sizeOf, typeInfo, hi, hb, e]
theorem sl_info {t E : TypeId} (hS : Sl P t E) (hT : tableOk P = true) : ∃ i, P.info? E = some i := by
 obtain ⟨h1, h2⟩ := hS.spec
 obtain ⟨i, d, h3, _⟩ := under_some hT (slice_lt hT h1 h2)
 exact ⟨i, h3⟩
theorem v_slice {x : Operand} {lw hw : Option Operand} {t E : TypeId} {ps : List Pu} {l r : Nat} (S : Seat P) [hS : Sl P t E] (h : Ev X st.env g x (.pu (.sl lo E ps)))
  (hl : lw = none ∧ l = 0 ∨ ∃ y, lw = some y ∧ Ev X st.env g y (iv .i64 l)) (hr : hw = none ∧ r = ps.length ∨ ∃ y, hw = some y ∧ Ev X st.env g y (iv .i64 r)) (h1 : l ≤ r) (h2 : r ≤ ps.length) :
  ValG P X st (.slice t x lw hw none) g (.pu (.sl 0 E ((ps.take r).drop l))) { reads := tmpsOf (x :: (lw.toList ++ hw.toList)) } :=
 ⟨fun hg st' ha C a w hs o ho hd => by
  have hx : VW P C w (.pu (.sl lo E ps)) (a.eval x) := by
   obtain ⟨q, e1, e2⟩ := h hg
   rw [← evalO_congr (env := st.env) (env' := st'.env) fun t e => ha.env t (mem_tmpsOf (by rw [e]; simp))] at e1
   exact e2 ▸ hs.eval e1
  have hl' : lw.map a.eval = none ∧ l = 0 ∨ lw.map a.eval = some (.int .i64 l) := by
   rcases hl with ⟨rfl, rfl⟩ | ⟨y, rfl, hy⟩
   ·exact .inl ⟨rfl, rfl⟩
   ·obtain ⟨q, e1, e2⟩ := hy hg
    rw [← evalO_congr (env := st.env) (env' := st'.env) fun t e => ha.env t (mem_tmpsOf (by rw [e]; simp))] at e1
    have := e2 ▸ hs.eval e1
    exact .inr (by simp [this.leaf_inv.1])
  have hr' : hw.map a.eval = none ∧ r = ps.length ∨ hw.map a.eval = some (.int .i64 r) := by
   rcases hr with ⟨rfl, rfl⟩ | ⟨y, rfl, hy⟩
   ·exact .inl ⟨rfl, rfl⟩
   ·obtain ⟨q, e1, e2⟩ := hy hg
    rw [← evalO_congr (env := st.env) (env' := st'.env) fun t e => ha.env t (mem_tmpsOf (by rw [e]; simp))] at e1
    have := e2 ▸ hs.eval e1
    exact .inr (by simp [this.leaf_inv.1])
  obtain ⟨ad, n, cap, e1, e2⟩ := hx.sl_inv
  obtain ⟨rfl, e3, e4⟩ := e2.sub h1 h2
  have hcap : r ≤ cap := by
   rcases e3 with ⟨_, h⟩ | h
   ·omega
   ·subst h; simp at h2; omega
  refine exec_value (w' := w) (C' := C) (y := .slice (if cap = l then ad else ad.map (·.add (l * P.cellsOf E))) (r - l) (cap - l)) ?_ (hs.upd_put (dstOk_spec hd) (.one (.pu e4) rfl) none True) (Tr.refl _ _ _ _) (fun L d hL => by simp at hL)
  obtain ⟨dst, op, type, pos, after, guard⟩ := o
  simp only at ho
  subst ho
  have := run_slice (w := w) (a := ad) (n := ps.length) hS.spec.2 (sl_info hS S.hT) h1 hcap hl' hr'
  simp [execOp, e1, this]⟩
theorem v_sliceTo {x y : Operand} {t E : TypeId} {ps : List Pu} {r : Nat} (S : Seat P) [hS : Sl P t E] (h2 : r ≤ ps.length) (h : Ev X st.env g x (.pu (.sl lo E ps)) := by first | (focus (apply Ev.mk; exact rfl; (repeat constructor); done)) | (focus (apply Ev.gd; exact rfl; (repeat constructor); done)) | (focus (apply Ev.left; exact rfl; (repeat constructor); done)) | (focus (apply Ev.left2; exact rfl; (repeat constructor); done))) (hr : Ev X st.env g y (iv .i64 r) := by first | (focus (apply Ev.mk; exact rfl; (repeat constructor); done)) | (focus (apply Ev.gd; exact rfl; (repeat constructor); done)) | (focus (apply Ev.left; exact rfl; (repeat constructor); done)) | (focus (apply Ev.left2; exact rfl; (repeat constructor); done))) :
  ValG P X st (.slice t x none (some y) none) g (.pu (.sl 0 E (ps.take r))) { reads := tmpsOf [x, y] } := by
 have := v_slice (l := 0) (r := r) (lw := none) (hw := some y) (t := t) S h (.inl ⟨rfl, rfl⟩) (.inr ⟨y, rfl, hr⟩) (Nat.zero_le _) h2
 rwa [List.drop_zero] at this
end Hs

/- What an argument reads as: pure data. -/
namespace Hs
open Go Go.RowKit
variable {P : Program}
section
variable {H : Type} (P)
end
section
variable {H : Type}
end
section
variable {H : Type}
end
theorem HCall.moreG {G G' : List (Nat × TypeId × Pu)} {f : FuncId} {args : List PV} {HR H : List (Nat × Ob)} {v : PV} {H' : List (Nat × Ob)} {news : List Nat} (h : HCall P G f args HR H v H' news) (hG : ∀ g T p, get G g = some (T, p) → get G' g = some (T, p)) :
  HCall P G' f args HR H v H' news := fun C w xs F hx => h C w xs ⟨F.heap, F.inj, F.dObj, F.dLt, F.own, fun g T p hg => F.gl g T p (hG g T p hg)⟩ hx
end Hs

/- Walks in which slots are known by their very values, and the world is at hand. -/
namespace Hs
open Go Go.RowKit
variable {P : Program}
variable {n : Nat} {ds : List Deferred} {env : List (Nat × Value)} {w : World}
variable {Q : Exit → List (Nat × Value) → World → Prop} {x y c : Code}
variable {ops : Array Oper} {K : List (Nat × Value) → World → Prop} {rest : List Oper} {o : Oper} {w' : World}
section
variable {dst : Option Nat} {ty : TypeId} {pos : String} {af : Array Edge} {g : Option (Nat × Bool)} {a : Act}
end
section
variable {P : Program} {n : Nat} {ds : List Deferred} {ops : Array Oper} {K : List (Nat × Value) → World → Prop} {rest : List Oper} {env : List (Nat × Value)} {w : World} {dst d : Nat} {ty : TypeId} {pos : String} {af : Array Edge}
end
theorem sl_slot {C : Cfg} {w : World} {i lo : Nat} {E : TypeId} {ps : List Pu} {x : Value} (h : VT P C w i (.pu (.sl lo E ps)) x) : PR P C.D w (.sl lo E ps) [x] := by
 cases h with
 | one h hs =>
  generalize hz : x.cells.toList = z at h
  cases h with
  | pu h =>
   have : ∃ s, z = [s] := by cases h <;> exact ⟨_, rfl⟩
   obtain ⟨s, rfl⟩ := this
   have : x = s := by cases x <;> simp_all [Value.cells, valAgg, PV.isAgg]
   rw [this];exact h
end Hs

/- Memory that is spoilt: blocks that a call made are given up; what lies below them stays known. -/
namespace Hs
open Go Go.RowKit
variable {P : Program}
end Hs

/- An append to an empty slice, kept as a row that may be written. -/
namespace Hs
open Go Go.RowKit
variable {P : Program} {lo lo' : Nat}
section
variable {X : Ctx} {ops : Array Oper} {env : List (Nat × PV)} {heap : List (Nat × Ob)} {dr : Bool} {s0 : St} {K : St → Prop} {dn : List Item} {rest : List Oper} {d : Nat} {ty : TypeId} {pos : String} {after : Array Edge}
end
end Hs

/- Memory that is spoilt by two statements, one behind the other. -/
namespace Hs
open Go Go.RowKit
variable {P : Program}
end Hs

/- Contracts of functions that end by the cells themselves: a walk over states, then raw code. -/
namespace Hs
open Go Go.RowKit
variable {P : Program}
theorem Mset_nil {C : Cfg} {b : Nat} : ¬ Mset C [] b := by
 rintro (⟨l, ob, R, h, _⟩ | ⟨l, p, k, ob, _, h⟩) <;> cases h
theorem SatC.frag0 {X : Ctx} {C : Cfg} {st : St} {a : Act} {w : World} (h : SatC P X C st a w) : Frag P X.G C w [] [] :=
 ⟨fun l ob hl => (by cases hl), fun l l' b R R' ob ob' hl => (by cases hl), fun l ob b R o hl => (by cases hl), h.dLt, fun b q k hb => ⟨(h.own b q k hb).2.1, (h.own b q k hb).2.2.1, fun l ob R hl => (by cases hl)⟩, h.gl⟩
end Hs

/- Raw steps under guards; memory that was spoilt, and what stays beside it. -/
namespace Hs
open Go Go.RowKit
section
variable {P : Program} {n : Nat} {ds : List Deferred} {ops : Array Oper} {K : List (Nat × Value) → World → Prop} {rest : List Oper} {env : List (Nat × Value)} {w : World} {dst d : Nat} {ty : TypeId} {pos : String} {af : Array Edge} {g : Option (Nat × Bool)} {o : Oper}
end
section
variable {P : Program}
end
section
variable {P : Program}
end
section
variable {P : Program}
end
section
variable {P : Program}
end
section
variable {P : Program}
theorem After.grew {C C' : Cfg} {w w' : World} {v : PV} {y : Value} {news : List Nat} {H' : List (Nat × Ob)} (h : After P C w [] news C' w' H' v y) : Grew w w' := ⟨h.os, h.tape, h.output, h.size, fun b hb => h.block b hb Mset_nil⟩
end
end Hs

/- A slice compared with nil; functions that give a slice that nobody else has. -/
namespace Hs
open Go Go.RowKit
variable {P : Program}
theorem PR.sl_val {D : Nat → Nat → Prop} {w : World} {lo : Nat} {E : TypeId} {ps : List Pu} {x : Value} (h : PR P D w (.sl lo E ps) [x]) : ∃ a cap, x = .slice a ps.length cap ∧ (a = none → ps = []) := by
 generalize hz : ([x] : List Value) = z at h
 cases h with
 | sl0 => simp at hz; exact ⟨_, _, hz, fun _ => rfl⟩
 | sl hn hcap h hx hlo => simp at hz; exact ⟨_, _, hz, fun e => by cases e⟩
def isSlice (P : Program) (T : TypeId) : Bool := match P.underlying T with
 | some (.slice _) => true
 | _ => false
theorem isSlice_spec {T : TypeId} (h : isSlice P T = true) : ∃ E, P.underlying T = some (.slice E) := by
 unfold isSlice at h
 split at h
 ·exact ⟨_, by assumption⟩
 ·cases h
theorem Tri.nilEq {X : Ctx} (hro : X.ro = none) {st : St} {Q : Exit → St → Prop} {id s d1 d2 lo : Nat} {T E r ty1 ty2 : TypeId} {pos1 pos2 : String} {af1 af2 : Array Edge} {ps : List Pu} (h : ∀ b, (b = true → ps = []) → Q .normal ⟨(d2, bv b) :: (d1, .pu (.sl lo E ps)) :: st.env, st.heap⟩)
  (hs : get st.env s = some (.pu (.sl lo E ps)) := by rfl) (hu0 : isSlice P T = true := by kernel_rfl) (h1 : lb d1 X.n = true := by rfl) (h2 : lb d2 X.n = true := by rfl) :
  Tri P X (.region id #[⟨some d1, .move (.tmp s), ty1, pos1, af1, none⟩, ⟨some d2, .binOp .eql T (.tmp d1) (.const (.slice none 0 0)) r, ty2, pos2, af2, none⟩] false) st Q := fun C a w hs0 => by
 rw [hro]
 obtain ⟨E', hu⟩ := isSlice_spec hu0
 obtain ⟨x, hx, hv⟩ := hs0.env s _ hs
 have hp := sl_slot hv
 obtain ⟨ad, cap, rfl, hnil⟩ := hp.sl_val
 have hv1 : VT P C w d1 (.pu (.sl lo E ps)) (.slice ad ps.length cap) := .one (.pu hp) rfl
 have hd1 := lb_lt h1
 have hd2 := lb_lt h2
 refine wpIn_region_list (wpListIn_plain rfl fun K' hK => wpIn_of_wp rfl ?_)
 unfold Oper.wp
 have e1 : a.eval (.tmp s) = .slice ad ps.length cap := by simp [Act.eval, Array.getD_eq_getD_getElem?, hx]
 rw [show (execOp a.eval ⟨some d1, .move (.tmp s), ty1, pos1, af1, none⟩).run P w = .ok (.value (.slice ad ps.length cap)) w by simp [execOp, e1], Oper.upon_value];refine hK _ _ (wpListIn_plain rfl fun K2 hK2 => wpIn_of_wp rfl ?_)
 unfold Oper.wp
 have e2 : (a.put (some d1) (.slice ad ps.length cap)).eval (.tmp d1) = .slice ad ps.length cap := by
  simp [Act.eval, Act.put, Array.getD_eq_getD_getElem?, hs0.size, hd1]
 have e3 : (execOp (a.put (some d1) (.slice ad ps.length cap)).eval ⟨some d2, .binOp .eql T (.tmp d1) (.const (.slice none 0 0)) r, ty2, pos2, af2, none⟩).run P w = .ok (.value (.bool ad.isNone)) w := by
  simp only [execOp, e2]
  simp only [Act.eval]
  have hg : (eqGuard .eql T (.tmp d1) (.const (.slice none 0 0)) (.slice ad ps.length cap) (.slice none 0 0)).run P w = .ok () w := by
   simp [eqGuard]
  have hb : (binOp .eql T (.slice ad ps.length cap) (.slice none 0 0)).run P w = .ok (.bool ad.isNone) w := by
   have key : ∀ d, (Op.equalIn (d + 1) T (.slice ad ps.length cap) (.slice none 0 0)).run P w = .ok ad.isNone w := fun d => by
    cases ad <;> simp [Op.equalIn, run_underlying hu]
   have := key 9999
   simp only [binOp, Op.equal, Op.maxDepth, Sem.run_bind]
   rw [this]
   rfl
  simp only [Sem.run_bind, hg, Result.andThen_ok, hb]
  rfl
 rw [e3, Oper.upon_value];refine hK2 _ _ (wpListIn_nil ⟨_, C, h ad.isNone (fun e => hnil (by simpa using e)), ?_⟩);exact (hs0.put hd1 hv1).put hd2 ((show VW P C w (bv ad.isNone) (.bool ad.isNone) from VW.bv_mk).vt d2)
structure Owned (P : Program) (C' : Cfg) (w w' : World) (lo : Nat) (E : TypeId) (ps : List Pu) (y : Value) : Prop where
 ex : (∃ ad, y = .slice ad ps.length ps.length) ∨ ∃ b cap c, y = .slice (some ⟨b, 0, none⟩) ps.length cap ∧ w.heap.size ≤ b ∧ w'.heap[b]? = some (.cells c E (0, 0)) ∧ c.size = cap * P.cellsOf E ∧ lo ≤ b ∧ ∀ o, C'.D b o → o < ps.length * P.cellsOf E
def OCall (P : Program) (G : List (Nat × TypeId × Pu)) (f : FuncId) (args : List PV) (lo : Nat) (E : TypeId) (ps : List Pu) : Prop :=
 ∀ C w (xs : Array Value), Frag P G C w [] [] → VFs P C w args xs.toList → Calls P f xs w fun e w' => ∃ y C', e = .returned y ∧ After P C w [] [] C' w' [] (.pu (.sl lo E ps)) y ∧ Owned P C' w w' lo E ps y
theorem OCall.of_tri {G : List (Nat × TypeId × Pu)} {f : FuncId} {fn : Func} {c : Code} (n : Nat) (rv : Nat) (hf : P.funcs[f]? = some fn) (hb : fn.body = some c) (hr : fn.results = #[.tmp rv]) {args : List PV} {lo : Nat} {E : TypeId} {ps : List Pu}
  (hn : n = args.length + (fn.ntmps - args.length)) (h : ∀ w0 M ρ0 D0, Tri P ⟨w0, n, M, G, [], [], ρ0, D0, none⟩ c ⟨envOf 0 args, []⟩ fun e st => (e = .normal ∨ e = .ret) ∧ (get st.env rv = some (.ow lo E ps) ∨ get st.env rv = some .nilc ∧ ps = [])) : OCall P G f args lo E ps := fun C w xs F hxs => by
 have hlen : xs.size = args.length := by rw [hxs.length]; simp
 obtain ⟨C0, hsat⟩ : ∃ C0, SatC P ⟨w, n, Mset C [], G, [], [], C.ρ, C.D, none⟩ C0 ⟨envOf 0 args, []⟩ { tmps := xs ++ Array.replicate (fn.ntmps - xs.size) undef, defers := [] } w := by
  refine F.sat rfl rfl rfl rfl rfl rfl (fun l ob hl => by cases hl) (by simp [hn, hlen]) rfl fun i u hu => ?_
  obtain ⟨_, h2⟩ := get_envOf hu
  simp only [Nat.sub_zero] at h2
  obtain ⟨x, h3, h4, h5⟩ := hxs.at i u h2
  refine ⟨x, ?_, h4, h5⟩
  have hi : i < xs.size := by
   rw [hlen];exact (List.getElem?_eq_some_iff.1 h2).1
  rw [Array.getElem?_append_left hi, ← Array.getElem?_toList];exact h3
 refine callsIn_wide (n := 0) |>.1 (callsIn_of_wp_marks hf hb trivial (wpIn_mono (h w (Mset C []) C.ρ C.D C0 _ w hsat) fun e a' w' ⟨st', C1, ⟨he, hq⟩, hs1⟩ => ?_) rfl)
 suffices hS : ∀ w', SatC P ⟨w, n, Mset C [], G, [], [], C.ρ, C.D, none⟩ C1 st' { a' with defers := [] } w' → ∃ y, (results fn a'.tmps).run P w' = .ok y w' ∧ ∃ y' C', Ending.returned y = .returned y' ∧ After P C w [] [] C' w' [] (.pu (.sl lo E ps)) y' ∧ Owned P C' w w' lo E ps y' by
  have hL := leaves_marks (R := fun e w' => ∃ y C', e = .returned y ∧ After P C w [] [] C' w' [] (.pu (.sl lo E ps)) y ∧ Owned P C' w w' lo E ps y) _ rfl hs1 hS
  rcases he with rfl | rfl <;> exact hL
 intro w' hs
 obtain ⟨x, hx, hp, ho⟩ : ∃ x, a'.tmps[rv]? = some x ∧ PR P C1.D w' (.sl lo E ps) [x] ∧ ((∃ ad, x = .slice ad ps.length ps.length) ∨ ∃ b cap c, x = .slice (some ⟨b, 0, none⟩) ps.length cap ∧ w.heap.size ≤ b ∧ w'.heap[b]? = some (.cells c E (0, 0)) ∧ c.size = cap * P.cellsOf E ∧ lo ≤ b ∧ ∀ o, C1.D b o → o < ps.length * P.cellsOf E) := by
  rcases hq with hq | ⟨hq, rfl⟩
  ·obtain ⟨x, hx, hv⟩ := hs.env rv _ hq
   have hv' : VR P C1 w' (some (.slot rv)) (.ow lo E ps) [x] := by
    cases hv with
    | one hv h2 =>
     generalize hz : x.cells.toList = z at hv
     have : ∃ s, z = [s] := by cases hv <;> exact ⟨_, rfl⟩
     obtain ⟨s, rfl⟩ := this
     have : x = s := by cases x <;> simp_all [Value.cells, valAgg, PV.isAgg]
     rw [this];exact hv
   refine ⟨x, hx, ?_⟩
   rcases ow_cases hv' with ⟨ad, rfl, hp⟩ | ⟨b, cap, c, rfl, hp, hb, hc, hsz, hl⟩
   ·exact ⟨hp, .inl ⟨_, rfl⟩⟩
   ·obtain ⟨k1, _, k3, _⟩ := hs.own b _ _ hb
    exact ⟨hp, .inr ⟨b, cap, c, rfl, k1.resolve_right Mset_nil, hc, hsz, hl, k3⟩⟩
  ·obtain ⟨x, hx, hv⟩ := hs.env rv _ hq
   have : x = .slice none 0 0 := by
    cases hv with
    | one hv h2 =>
     generalize hz : x.cells.toList = z at hv
     cases hv
     cases x <;> simp_all [Value.cells, valAgg, PV.isAgg]
   subst this;exact ⟨_, hx, .sl0, .inl ⟨none, rfl⟩⟩
 refine ⟨x, ?_, x, { D := C1.D, ρ := C.ρ, own := open Classical in fun b => if b < w.heap.size then C.own b else none }, rfl, ?_, ⟨ho⟩⟩
 ·simp only [results, hr]
  simp [hx]
 ·refine ⟨hs.framed.os, hs.framed.tape, hs.framed.output, hs.framed.size, fun b hb hM => hs.framed.block b hb hM, hs.framed.ty, fun b o hD => hs.keep b o hD, fun _ _ => rfl, fun b o hD => hs.kin.dOld b o hD, fun b o hD => hs.kin.dNew b o hD, hs.dLt, fun b h1 _ => by simp only [if_pos h1], fun b q k hb => ?_,
   fun l ob hl => (by cases hl), fun l l' b R R' ob ob' hl => (by cases hl), fun l ob b R o hl => (by cases hl), fun l ob hl => (by cases hl), .one (.pu ?_) ?_⟩
  ·simp only at hb
   split at hb
   ·rename_i h1
    exact .inl ⟨h1, Mset_nil⟩
   ·cases hb
  ·rcases ho with ⟨ad, rfl⟩ | ⟨b, cap, c, rfl, _⟩ <;> exact hp
  ·rcases ho with ⟨ad, rfl⟩ | ⟨b, cap, c, rfl, _⟩ <;> rfl
theorem exec_callO {X : Ctx} {C : Cfg} {st : St} {o : Oper} {a : Act} {w : World} (h : SatC P X C st a w) {fo : Operand} {as : Array Operand} {ts : Array TypeId} {f : FuncId} {raw args : List PV} {vf : PV} {lo : Nat} {E : TypeId} {ps : List Pu} {d : Nat}
  (hop : o.op = .call ⟨.value fo, as, ts⟩) (hfo : evalO X.G st.env fo = some vf) (hfv : fnV (strip vf) = some (f, [], [])) (he : entersB P f = true) (hraw : evalL X.G st.env as.toList = some raw) (hnt : (raw.map strip).any isTup = false)
  (himp : VImps P (raw.map strip) args) (hnt' : args.any isTup = false) (hc : OCall P X.G f args lo E ps) (hd : o.dst = some d) (hdn : d < X.n) : Exec P X C st o a w { v := .ow lo E ps } := by
 intro K Q hK
 obtain ⟨xs, ys, e1, e2, e3⟩ := fnV_run (h.eval hfo) hfv
 have har := (h.evalL hraw).vfs (notTup hnt)
 have hvf : VFs P C w args (xs.toList ++ as.toList.map a.eval ++ ys.toList) := (VFs.append (VFs.append e2 har) e3).imp (by simpa using himp) (notTup hnt')
 have hcall := hc C w (xs ++ as.map a.eval ++ ys) h.frag0 (by simpa using hvf)
 unfold Oper.wp
 have hrun : (execOp a.eval o).run P w = .ok (.enter f (xs ++ as.map a.eval ++ ys)) w := by
  obtain ⟨dst, op, type, pos, after, guard⟩ := o
  simp only at hop
  subst hop
  simp [execOp, resolve, e1, Deferred.ofValue, invoke, callFunc_run he]
 rw [hrun, Oper.upon_enter]
 refine hcall.mono fun e w' ⟨y, C', hy, A, O⟩ => ?_
 subst hy
 have hg := A.grew
 have hown : ∀ b q k, C.own b = some (q, k) → b < w.heap.size := fun b q k hb => (h.own b q k hb).2.1
 rcases O.ex with ⟨ad, rfl⟩ | ⟨b, cap, c, rfl, k1, k2, k3, k4, k5⟩
 ·have cg : CGrew C { D := C'.D, ρ := C.ρ, own := C.own } w w' := ⟨A.D, fun b o hD => (A.dNew b o hD).elim .inl fun hd => hd.elim (fun hd => .inr ⟨hd, A.dLt b o hD⟩) fun hm => (Mset_nil hm).elim, rfl, fun _ _ => rfl, fun b q k hb hge => absurd (hown b q k hb) (Nat.not_lt.2 hge)⟩
  have hs := h.grew hg cg
  refine hK { D := C'.D, ρ := C.ρ, own := C.own } (.slice ad ps.length ps.length) w' ?_ (h.tr_grew (C' := { D := C'.D, ρ := C.ρ, own := C.own }) hg rfl _) (fun L d hL => by simp at hL);rw [hd]
  have hv : VT P { D := C'.D, ρ := C.ρ, own := C.own } w' d (.ow lo E ps) (.slice ad ps.length ps.length) := .one (.owx ?_) rfl
  ·exact hs.put hdn hv
  cases A.val with
  | one hv _ =>
   generalize hz : (Value.slice ad ps.length ps.length).cells.toList = z at hv
   cases hv with
   | pu hv => subst hz; exact hv
 ·have hb' : b < w'.heap.size := heap_lt k2
  have cg : CGrew C { D := C'.D, ρ := C.ρ, own := open Classical in fun b' => if b' = b then some (.slot d, ps.length * P.cellsOf E) else C.own b' } w w' := by
   refine ⟨A.D, fun b o hD => (A.dNew b o hD).elim .inl fun hd => hd.elim (fun hd => .inr ⟨hd, A.dLt b o hD⟩) fun hm => (Mset_nil hm).elim, rfl, fun b' hlt => ?_, fun b' q k hb hge => ?_⟩
   ·simp only
    rw [if_neg (by omega)]
   ·simp only at hb
    split at hb
    ·rename_i e
     subst e
     simp at hb
     obtain ⟨rfl, rfl⟩ := hb
     exact ⟨hb', k5⟩
    ·exact absurd (hown b' q k hb) (Nat.not_lt.2 hge)
  have hs := h.grew hg cg
  refine hK { D := C'.D, ρ := C.ρ, own := open Classical in fun b' => if b' = b then some (.slot d, ps.length * P.cellsOf E) else C.own b' } (.slice (some ⟨b, 0, none⟩) ps.length cap) w' ?_ (h.tr_grew (C' := { D := C'.D, ρ := C.ρ, own := open Classical in fun b' => if b' = b then some (.slot d, ps.length * P.cellsOf E) else C.own b' }) hg rfl _) (fun L d hL => by simp at hL);rw [hd]
  have hv : VT P { D := C'.D, ρ := C.ρ, own := open Classical in fun b' => if b' = b then some (.slot d, ps.length * P.cellsOf E) else C.own b' } w' d (.ow lo E ps) (.slice (some ⟨b, 0, none⟩) ps.length cap) := .one (.ow (c := c) ?_ (if_pos rfl) k2 k3 k4) rfl
  ·exact hs.put hdn hv
  cases A.val with
  | one hv _ =>
   generalize hz : (Value.slice (some ⟨b, 0, none⟩) ps.length cap).cells.toList = z at hv
   cases hv with
   | pu hv => subst hz; exact hv
section
variable {X : Ctx} {ops : Array Oper} {env : List (Nat × PV)} {heap : List (Nat × Ob)} {dr : Bool} {s0 : St} {K : St → Prop} {dn : List Item} {rest : List Oper} {d : Nat} {ty : TypeId} {pos : String} {after : Array Edge}
theorem s_callO {fo : Operand} {as : Array Operand} {ts : Array TypeId} {f : FuncId} {vf r : PV} {vs args : List PV} {lo : Nat} {E : TypeId} {ps : List Pu} (hc : OCall P X.G f args lo E ps)
  (c : WalkR P X ops dr s0 K (dn ++ [⟨⟨some d, .call ⟨.value fo, as, ts⟩, ty, pos, after, none⟩, { v := .ow lo E ps }, { reads := tmpsOf (fo :: as.toList), labs := [] }⟩]) ⟨(d, .ow lo E ps) :: env, heap⟩ rest)
  (hfo : evalO X.G env fo = some r := by rfl) (hs : Str r vf := by repeat constructor) (hfv : fnV vf = some (f, [], []) := by rfl)
  (h : EvL X env true as.toList vs := by repeat (first | exact EvL.nil | (apply EvL.cons; (first | (focus (apply Ev.mk; exact rfl; (repeat constructor); done))))))
  (himp : VImps P vs args := by repeat (first | exact VImps.nil | (apply VImps.cons; first | exact VImp.refl _ | exact LowI.imp | (focus (apply iv_imp; apply wrap64 <;> omega)) | (focus (apply ToPu.imp; (repeat constructor); done)))))
  (he : entersB P f = true := by kernel_rfl) (hn : vs.any isTup = false := by rfl) (hn' : args.any isTup = false := by rfl) (hd : lb d X.n = true := by rfl) :
  WalkR P X ops dr s0 K dn ⟨env, heap⟩ (⟨some d, .call ⟨.value fo, as, ts⟩, ty, pos, after, none⟩ :: rest) := by
 obtain ⟨raw, h1, h2⟩ := h.raw rfl
 refine WalkR.cons ⟨fun l h => by simp [PV.labs] at h, fun L h => by simp at h, fun st' ha _ C a w hs' _ => ?_⟩ c
 have hfo' : evalO X.G st'.env fo = some r := by
  rw [evalO_congr (env := env) fun t e => ha.env t (mem_tmpsOf (by rw [e]; simp))];exact hfo
 have hr : evalL X.G st'.env as.toList = some raw := by
  rw [evalL_congr (env := env) fun t ht => ha.env t (by
   unfold tmpsOf at *
   rw [List.filterMap_cons]
   split
   ·exact ht
   ·exact List.mem_cons_of_mem _ ht)]
  exact h1
 exact .of ((Guard.none rfl).wanted hs') (exec_callO hs' rfl hfo' (by rw [hs.eq]; exact hfv) he hr (by rw [h2]; exact hn) (by rw [h2]; exact himp) hn' hc rfl (lb_lt hd))
theorem s_appS {s : Nat} {y : Operand} {tt E : TypeId} {B lo : Nat} {v : PV} {ps ys : List Pu} [hE : El P tt E B] (hfit : (ps.length + ys.length) * B ≤ 70368744177664)
  (t : WalkR P X ops dr s0 K (dn ++ [⟨⟨some d, .call ⟨.builtin .append, #[.tmp s, y], #[tt, tt]⟩, ty, pos, after, none⟩, { v := .ow lo E (ps ++ ys), env := [(s, .pu (.sl lo E ps))] }, { reads := s :: tmpsOf [y] }⟩]) ⟨(d, .ow lo E (ps ++ ys)) :: (s, .pu (.sl lo E ps)) :: env, heap⟩ rest)
  (hs : get env s = some (.ow lo E ps) := by rfl) (hy : evalO X.G env y = some v := by rfl) (hv : Elems E v ys := by repeat constructor) (hd : lb d X.n = true := by rfl) (hlo : lo ≤ X.w0.heap.size := by first | exact Nat.zero_le _ | exact Nat.le_refl _) :
  WalkR P X ops dr s0 K dn ⟨env, heap⟩ (⟨some d, .call ⟨.builtin .append, #[.tmp s, y], #[tt, tt]⟩, ty, pos, after, none⟩ :: rest) := by
 refine WalkR.cons ⟨fun l h => by simp [PV.labs] at h, fun L h => by simp at h, fun st' ha _ C a w hs' _ => ?_⟩ t
 have hy' : evalO X.G st'.env y = some v := by
  rw [evalO_congr (env := env) fun t e => ha.env t (by rw [e]; simp [tmpsOf])];exact hy
 have hs1 : get st'.env s = some (.ow lo E ps) := (ha.env s (by simp)).trans hs
 obtain ⟨x, hx, _⟩ := hs'.env s _ hs1
 exact .of ((Guard.none rfl).wanted hs') (exec_append_slot hs' rfl hE.spec.1 hs1 ⟨x, hx, hx⟩ hy' hv.eq rfl (lb_lt hd) (by rw [hE.spec.2]; exact hfit) hlo)
end
end Hs

/- Calls whose result is owned, and appends to it, under a guard that is known. -/
namespace Hs
open Go Go.RowKit
section
variable {P : Program} {X : Ctx} {ops : Array Oper} {dr : Bool} {s0 : St} {K : St → Prop} {dn : List Item} {rest : List Oper} {d : Nat} {ty : TypeId} {pos : String} {after : Array Edge} {env : List (Nat × PV)} {heap : List (Nat × Ob)}
theorem Guard.known {j d' : Nat} {want b : Bool} {st : St} {o : Oper} (h : o.guard = some (j, want)) (hd : (ops[j]?).bind (·.dst) = some d') (hb : get st.env d' = some (bv b)) (hw : b = want) : Guard ops st o true := by
 have := Guard.bool h hd hb
 subst hw
 simpa using this
theorem s_callOg {j d' : Nat} {want b : Bool} {fo : Operand} {as : Array Operand} {ts : Array TypeId} {f : FuncId} {vf r : PV} {vs args : List PV} {lo : Nat} {E : TypeId} {ps : List Pu} (hb : b = want) (hc : OCall P X.G f args lo E ps)
  (c : WalkR P X ops dr s0 K (dn ++ [⟨⟨some d, .call ⟨.value fo, as, ts⟩, ty, pos, after, some (j, want)⟩, { v := .ow lo E ps }, { reads := guardSlots ops ⟨some d, .call ⟨.value fo, as, ts⟩, ty, pos, after, some (j, want)⟩ ++ tmpsOf (fo :: as.toList), labs := [] }⟩]) ⟨(d, .ow lo E ps) :: env, heap⟩ rest)
  (hgd : (ops[j]?).bind (·.dst) = some d' := by rfl) (hgb : get env d' = some (bv b) := by rfl)
  (hfo : evalO X.G env fo = some r := by rfl) (hs : Str r vf := by repeat constructor) (hfv : fnV vf = some (f, [], []) := by rfl)
  (h : EvL X env true as.toList vs := by repeat (first | exact EvL.nil | (apply EvL.cons; (first | (focus (apply Ev.mk; exact rfl; (repeat constructor); done))))))
  (himp : VImps P vs args := by repeat (first | exact VImps.nil | (apply VImps.cons; first | exact VImp.refl _ | exact LowI.imp | (focus (apply iv_imp; apply wrap64 <;> omega)) | (focus (apply ToPu.imp; (repeat constructor); done)))))
  (he : entersB P f = true := by kernel_rfl) (hn : vs.any isTup = false := by rfl) (hn' : args.any isTup = false := by rfl) (hd : lb d X.n = true := by rfl) :
  WalkR P X ops dr s0 K dn ⟨env, heap⟩ (⟨some d, .call ⟨.value fo, as, ts⟩, ty, pos, after, some (j, want)⟩ :: rest) := by
 obtain ⟨raw, h1, h2⟩ := h.raw rfl
 have hg : Guard ops ⟨env, heap⟩ ⟨some d, .call ⟨.value fo, as, ts⟩, ty, pos, after, some (j, want)⟩ true := Guard.known rfl hgd hgb hb
 refine WalkR.cons ⟨fun l h => by simp [PV.labs] at h, fun L h => by simp at h, fun st' ha _ C a w hs' _ => ?_⟩ c
 have hfo' : evalO X.G st'.env fo = some r := by
  rw [evalO_congr (env := env) fun t e => ha.env t (List.mem_append_right _ (mem_tmpsOf (by rw [e]; simp)))];exact hfo
 have hr : evalL X.G st'.env as.toList = some raw := by
  rw [evalL_congr (env := env) fun t ht => ha.env t (List.mem_append_right _ (by
   unfold tmpsOf at *
   rw [List.filterMap_cons]
   split
   ·exact ht
   ·exact List.mem_cons_of_mem _ ht))]
  exact h1
 exact .of ((hg.congr (agree_env ha fun t ht => List.mem_append_left _ ht)).wanted hs') (exec_callO hs' rfl hfo' (by rw [hs.eq]; exact hfv) he hr (by rw [h2]; exact hn) (by rw [h2]; exact himp) hn' hc rfl (lb_lt hd))
theorem s_appSg {j d' : Nat} {want b : Bool} {s : Nat} {y : Operand} {tt E : TypeId} {B lo : Nat} {v : PV} {ps ys : List Pu} [hE : El P tt E B] (hb : b = want) (hfit : (ps.length + ys.length) * B ≤ 70368744177664)
  (t : WalkR P X ops dr s0 K (dn ++ [⟨⟨some d, .call ⟨.builtin .append, #[.tmp s, y], #[tt, tt]⟩, ty, pos, after, some (j, want)⟩, { v := .ow lo E (ps ++ ys), env := [(s, .pu (.sl lo E ps))] }, { reads := guardSlots ops ⟨some d, .call ⟨.builtin .append, #[.tmp s, y], #[tt, tt]⟩, ty, pos, after, some (j, want)⟩ ++ s :: tmpsOf [y] }⟩]) ⟨(d, .ow lo E (ps ++ ys)) :: (s, .pu (.sl lo E ps)) :: env, heap⟩ rest)
  (hgd : (ops[j]?).bind (·.dst) = some d' := by rfl) (hgb : get env d' = some (bv b) := by rfl)
  (hs : get env s = some (.ow lo E ps) := by rfl) (hy : evalO X.G env y = some v := by rfl) (hv : Elems E v ys := by repeat constructor) (hd : lb d X.n = true := by rfl) (hlo : lo ≤ X.w0.heap.size := by first | exact Nat.zero_le _ | exact Nat.le_refl _) :
  WalkR P X ops dr s0 K dn ⟨env, heap⟩ (⟨some d, .call ⟨.builtin .append, #[.tmp s, y], #[tt, tt]⟩, ty, pos, after, some (j, want)⟩ :: rest) := by
 have hg : Guard ops ⟨env, heap⟩ ⟨some d, .call ⟨.builtin .append, #[.tmp s, y], #[tt, tt]⟩, ty, pos, after, some (j, want)⟩ true := Guard.known rfl hgd hgb hb
 refine WalkR.cons ⟨fun l h => by simp [PV.labs] at h, fun L h => by simp at h, fun st' ha _ C a w hs' _ => ?_⟩ t
 have hy' : evalO X.G st'.env y = some v := by
  rw [evalO_congr (env := env) fun t e => ha.env t (List.mem_append_right _ (by rw [e]; simp [tmpsOf]))];exact hy
 have hs1 : get st'.env s = some (.ow lo E ps) := (ha.env s (List.mem_append_right _ (by simp))).trans hs
 obtain ⟨x, hx, _⟩ := hs'.env s _ hs1
 exact .of ((hg.congr (agree_env ha fun t ht => List.mem_append_left _ ht)).wanted hs') (exec_append_slot hs' rfl hE.spec.1 hs1 ⟨x, hx, hx⟩ hy' hv.eq rfl (lb_lt hd) (by rw [hE.spec.2]; exact hfit) hlo)
end
end Hs

/- Copies into a part of a row, from pure data and from the same row; slices of rows. -/
namespace Hs
open Go Go.RowKit
variable {P : Program} {lo : Nat}
section
variable {X : Ctx} {ops : Array Oper} {dr : Bool} {s0 : St} {K : St → Prop} {dn : List Item} {rest : List Oper} {d : Nat} {ty : TypeId} {pos : String} {after : Array Edge} {env : List (Nat × PV)} {heap : List (Nat × Ob)}
end
end Hs

