/- Part 1 of the proof: lemmas on walks and the walks of the functions, in their order. -/
import Derived.Calls
import Derived.Below
import Derived.Laws.AppendOwn
import Derived.Laws.CopyRow
import Derived.Laws.MakeOwn
import Derived.Laws.StructEq
import Derived.ChangeKeysEq
import Derived.OrdersIn
set_option linter.unusedSimpArgs false
set_option linter.unusedVariables false
set_option linter.unusedSectionVars false
set_option linter.constructorNameAsVariable false
/- Abstract values for the memory that a Go call sees (pure trees, labelled objects, owned slices), and how they stand to cells. -/
namespace Hs
open Go Go.RowKit
section
inductive Pu where
 | leaf (v : Value)
 | agg (T : TypeId) (ps : List Pu)
 | sl (lo : Nat) (E : TypeId) (ps : List Pu)
 deriving Inhabited
inductive PV where
 | pu (p : Pu)
 | ptr (l : Nat) (path : List Nat) (T : TypeId)
 | pp (T : TypeId) (v : PV)
 | arr (l : Nat) (E : TypeId) (off len : Nat)
 | mp (l : Nat) (K V : TypeId)
 | nilc
 | xs (lo : Nat) (E : TypeId) (ps : List Pu)
 | ow (lo : Nat) (E : TypeId) (ps : List Pu)
 | hd (E : TypeId) (n : Nat)
 | fl (E : TypeId) (ps : List Pu)
 | fn (f : Fn) (first captured : List PV)
 | agg (T : TypeId) (vs : List PV)
 | tup (vs : List PV)
 deriving Inhabited
def am5 : Value → Bool
 | .bool _ | .int _ _ | .float _ _ | .complex _ _ _ | .string _ | .pointer none | .map none | .chan none | .nilFunc | .nilIface => true
 | .func _ f c => f.isEmpty && c.isEmpty
 | _ => false
inductive Root where
 | var (T : TypeId)
 | row (E : TypeId)
 | map (K V : TypeId)
 | loop
section
variable (P : Program)
def f7 (T : TypeId) : Option (List (Nat × TypeId)) :=
 if P.types.size ≤ T then none else
 match P.underlying T with
 | some (.struct fs) => some (fs.toList.map fun f => (P.cellsOf f.type, f.type))
 | some (.array n e) => some (List.replicate n (P.cellsOf e, e))
 | _ => none
def tyP (T : TypeId) : Pu → Bool
 | .agg T' _ => (f7 P T).isSome && P.underlyingId T' == P.underlyingId T
 | _ => (f7 P T).isNone
def tyV (T : TypeId) : PV → Bool
 | .pu p => tyP P T p
 | .agg T' _ => (f7 P T).isSome && P.underlyingId T' == P.underlyingId T
 | .tup _ => false
 | _ => (f7 P T).isNone
def H6 (cs : List (Nat × TypeId)) (i : Nat) : Nat := ((cs.take i).map (·.1)).sum
def af0 (T : TypeId) : Bool :=
 match P.info? T with
 | none => true
 | some _ =>
  match P.underlying T with
  | some (.struct fs) =>
   P.cellsOf T == (fs.toList.map fun f => P.cellsOf f.type).sum &&
   (List.range fs.size).all fun i => match fs[i]? with
    | some f => f.offset == ((fs.toList.take i).map fun f => P.cellsOf f.type).sum && decide (f.type < P.types.size)
    | none => true
  | some (.array n e) => P.cellsOf T == n * P.cellsOf e && decide (e < P.types.size)
  | some (.slice e) => P.cellsOf T == 1 && decide (e < P.types.size)
  | some (.tuple _) => true
  | some _ => P.cellsOf T == 1
  | none => false
def j3 : Bool := (List.range P.types.size).all (af0 P)
def P3 : TypeId → List Nat → Option (TypeId × Nat)
 | T, [] => some (T, 0)
 | T, i :: r =>
  match f7 P T with
  | none => none
  | some cs =>
   match cs[i]? with
   | none => none
   | some (_, t) =>
    match P3 t r with
    | none => none
    | some (T', k) => some (T', H6 cs i + k)
def M3 : Root → List Nat → Option (TypeId × Nat)
 | .var T, p => P3 P T p
 | .row E, i :: r =>
  match P3 P E r with
  | none => none
  | some (T', k) => some (T', i * P.cellsOf E + k)
 | _, _ => none
end
inductive Place where
 | slot (i : Nat)
 | obj (l : Nat) (path : List Nat)
 deriving DecidableEq
def Place.sub : Place → Nat → Option Place
 | .slot _, _ => none
 | .obj l p, i => some (.obj l (p ++ [i]))
structure Cfg where
 D : Nat → Nat → Prop
 ρ : Nat → Option (Nat × Root)
 own : Nat → Option (Place × Nat)
def LoOk (w : World) (lo : Nat) (E : TypeId) (b o : Nat) : Prop := lo = 0 ∨ (lo ≤ b ∧ o = 0 ∧ ∃ c, w.heap[b]? = some (.cells c E (0, 0)))
section
variable (P : Program) (D : Nat → Nat → Prop) (w : World)
mutual
inductive PR : Pu → List Value → Prop
 | leaf {v : Value} (h : am5 v = true) : PR (.leaf v) [v]
 | agg {T : TypeId} {cs : List (Nat × TypeId)} {ps : List Pu} {x : List Value} (hc : f7 P T = some cs) (h : PRs cs ps x) : PR (.agg T ps) x
 | sl0 {lo : Nat} {E : TypeId} {a : Option Addr} {cap : Nat} : PR (.sl lo E []) [.slice a 0 cap]
 | sl {lo : Nat} {E : TypeId} {ps : List Pu} {b o cap : Nat} {x : List Value} (hn : ps ≠ []) (hcap : ps.length ≤ cap) (h : PRs (List.replicate ps.length (P.cellsOf E, E)) ps x)
   (hx : ∀ j v, x[j]? = some v → w.cell? ⟨b, o + j, none⟩ = some v ∧ D b (o + j)) (hlo : LoOk w lo E b o) : PR (.sl lo E ps) [.slice (some ⟨b, o, none⟩) ps.length cap]
inductive PRs : List (Nat × TypeId) → List Pu → List Value → Prop
 | nil : PRs [] [] []
 | cons {s : Nat} {T : TypeId} {cs : List (Nat × TypeId)} {p : Pu} {ps : List Pu} {x y : List Value} (hp : PR p x) (hs : x.length = s) (ht : tyP P T p = true) (h : PRs cs ps y) :
   PRs ((s, T) :: cs) (p :: ps) (x ++ y)
end
end
def PV.isAgg : PV → Bool
 | .pu (.agg _ _) | .agg _ _ => true
 | _ => false
def d7 : Value → Bool
 | .agg _ => true
 | _ => false
def oww : Nat → TypeId → List Pu → PV
 | 0, E, ps => .fl E ps
 | lo + 1, E, ps => .ow lo E ps
section
variable (P : Program) (C : Cfg) (w : World)
mutual
inductive VR : Option Place → PV → List Value → Prop
 | pu {pl : Option Place} {p : Pu} {x : List Value} (h : PR P C.D w p x) : VR pl (.pu p) x
 | ptr {pl : Option Place} {l : Nat} {path : List Nat} {T : TypeId} {b off : Nat} {R : Root} (hl : C.ρ l = some (b, R)) (hs : M3 P R path = some (T, off)) :
   VR pl (.ptr l path T) [.pointer (some ⟨b, off, none⟩)]
 | pp {pl : Option Place} {T : TypeId} {v : PV} {b o : Nat} {x : List Value} (h : VR none v x) (ht : tyV P T v = true) (hl : x.length = P.cellsOf T)
   (hx : ∀ j u, x[j]? = some u → w.cell? ⟨b, o + j, none⟩ = some u ∧ C.D b (o + j)) : VR pl (.pp T v) [.pointer (some ⟨b, o, none⟩)]
 | arr {pl : Option Place} {l : Nat} {E : TypeId} {off len b cap : Nat} (hl : C.ρ l = some (b, .row E)) (hcap : len ≤ cap) :
   VR pl (.arr l E off len) [.slice (some ⟨b, off * P.cellsOf E, none⟩) len cap]
 | mp {pl : Option Place} {l : Nat} {K V : TypeId} {b : Nat} (hl : C.ρ l = some (b, .map K V)) : VR pl (.mp l K V) [.map (some b)]
 | nilc {pl : Option Place} : VR pl .nilc [.slice none 0 0]
 | xs {pl : Option Place} {lo : Nat} {E : TypeId} {ps : List Pu} {a : Option Addr} (h : PR P C.D w (.sl lo E ps) [.slice a ps.length ps.length]) : VR pl (.xs lo E ps) [.slice a ps.length ps.length]
 | owx {pl : Option Place} {lo : Nat} {E : TypeId} {ps : List Pu} {a : Option Addr} (h : PR P C.D w (.sl lo E ps) [.slice a ps.length ps.length]) : VR pl (.ow lo E ps) [.slice a ps.length ps.length]
 | ow {pl : Place} {lo : Nat} {E : TypeId} {ps : List Pu} {b cap : Nat} {c : Array Value} (h : PR P C.D w (.sl lo E ps) [.slice (some ⟨b, 0, none⟩) ps.length cap])
   (ho : C.own b = some (pl, ps.length * P.cellsOf E)) (hb : w.heap[b]? = some (.cells c E (0, 0))) (hc : c.size = cap * P.cellsOf E) (hl : lo ≤ b) :
   VR (some pl) (.ow lo E ps) [.slice (some ⟨b, 0, none⟩) ps.length cap]
 | hd {pl : Option Place} {E : TypeId} {n cap : Nat} {a : Option Addr} : VR pl (.hd E n) [.slice a n cap]
 | flx {pl : Option Place} {E : TypeId} : VR pl (.fl E []) [.slice none 0 0]
 | fl {pl : Place} {E : TypeId} {ps : List Pu} {b cap : Nat} {c : Array Value} {y z : List Value} (h : PRs P C.D w (List.replicate ps.length (P.cellsOf E, E)) ps y) (hn : ps.length ≤ cap)
   (ho : C.own b = some (pl, 0)) (hb : w.heap[b]? = some (.cells c E (0, 0))) (hy : c.toList = y ++ z) (hc : c.size = cap * P.cellsOf E) :
   VR (some pl) (.fl E ps) [.slice (some ⟨b, 0, none⟩) ps.length cap]
 | fn {pl : Option Place} {f : Fn} {first captured : List PV} {xs ys : Array Value} (hf : VFs first xs.toList) (hc : VFs captured ys.toList) :
   VR pl (.fn f first captured) [.func f xs ys]
 | agg {pl : Option Place} {T : TypeId} {cs : List (Nat × TypeId)} {vs : List PV} {x : List Value} (hc : f7 P T = some cs) (h : VRs pl 0 cs vs x) : VR pl (.agg T vs) x
inductive VRs : Option Place → Nat → List (Nat × TypeId) → List PV → List Value → Prop
 | nil {pl : Option Place} {i : Nat} : VRs pl i [] [] []
 | cons {pl : Option Place} {i s : Nat} {T : TypeId} {cs : List (Nat × TypeId)} {v : PV} {vs : List PV} {x y : List Value} (hp : VR (pl.bind (·.sub i)) v x) (hs : x.length = s)
   (ht : tyV P T v = true) (h : VRs pl (i + 1) cs vs y) : VRs pl i ((s, T) :: cs) (v :: vs) (x ++ y)
inductive VFs : List PV → List Value → Prop
 | nil : VFs [] []
 | cons {v : PV} {vs : List PV} {x : Value} {ys : List Value} (hv : VR none v x.cells.toList) (hs : d7 x = v.isAgg) (h : VFs vs ys) : VFs (v :: vs) (x :: ys)
end
inductive VT (i : Nat) : PV → Value → Prop
 | one {v : PV} {x : Value} (h : VR P C w (some (.slot i)) v x.cells.toList) (hs : d7 x = v.isAgg) : VT i v x
 | tup {vs : List PV} {xs : Array Value} (h : VFs P C w vs xs.toList) : VT i (.tup vs) (.tuple xs)
end
end
section
variable {P : Program}
def TyKeep (w w' : World) : Prop := ∀ (b : Nat) (c : Array Value) (E : TypeId), w.heap[b]? = some (.cells c E (0, 0)) → ∃ c', w'.heap[b]? = some (.cells c' E (0, 0))
theorem TyKeep.refl (w : World) : TyKeep w w := fun _ c _ h => ⟨c, h⟩
theorem TyKeep.trans {a b c : World} (h : TyKeep a b) (k : TyKeep b c) : TyKeep a c := fun i x E hi => let ⟨x', h'⟩ := h i x E hi; k i x' E h'
theorem LoOk.mono {w w' : World} {lo b o : Nat} {E : TypeId} (h : LoOk w lo E b o) (k : TyKeep w w') : LoOk w' lo E b o := by
 rcases h with h | ⟨h1, h2, c, h3⟩
 ·exact .inl h
 ·exact .inr ⟨h1, h2, k b c E h3⟩
mutual
theorem PR.mono {D D' : Nat → Nat → Prop} {w w' : World} (hD : ∀ b o, D b o → D' b o ∧ w'.cell? ⟨b, o, none⟩ = w.cell? ⟨b, o, none⟩) (hK : TyKeep w w') :
  ∀ {p : Pu} {x : List Value}, PR P D w p x → PR P D' w' p x
 | _, _, .leaf h => .leaf h
 | _, _, .agg hc h => .agg hc (PRs.mono hD hK h)
 | _, _, .sl0 => .sl0
 | _, _, .sl hn hcap h hx hl => .sl hn hcap (PRs.mono hD hK h) (fun j v hj => by
   obtain ⟨h1, h2⟩ := hx j v hj
   obtain ⟨h3, h4⟩ := hD _ _ h2
   exact ⟨h4.trans h1, h3⟩) (hl.mono hK)
theorem PRs.mono {D D' : Nat → Nat → Prop} {w w' : World} (hD : ∀ b o, D b o → D' b o ∧ w'.cell? ⟨b, o, none⟩ = w.cell? ⟨b, o, none⟩) (hK : TyKeep w w') :
  ∀ {cs : List (Nat × TypeId)} {ps : List Pu} {x : List Value}, PRs P D w cs ps x → PRs P D' w' cs ps x
 | _, _, _, .nil => .nil
 | _, _, _, .cons hp hs ht h => .cons (PR.mono hD hK hp) hs ht (PRs.mono hD hK h)
end
mutual
def PV.labs : PV → List Nat
 | .ptr l _ _ => [l]
 | .pp _ v => v.labs
 | .arr l _ _ _ => [l]
 | .mp l _ _ => [l]
 | .fn _ a b => PV.labsL a ++ PV.labsL b
 | .agg _ vs => PV.labsL vs
 | .tup vs => PV.labsL vs
 | _ => []
def PV.labsL : List PV → List Nat
 | [] => []
 | v :: vs => v.labs ++ PV.labsL vs
end
def D9 : PV → List Nat → Option PV
 | v, [] => some v
 | .pu (.agg _ ps), i :: r => match ps[i]? with
  | some p => D9 (.pu p) r
  | none => none
 | .agg _ vs, i :: r => match vs[i]? with
  | some v => D9 v r
  | none => none
 | _, _ :: _ => none
def Keeps (pl : Option Place) (v : PV) (q : Place) : Prop :=
 match pl with
 | none => False
 | some (.slot i) => q = .slot i ∧ ∃ lo E ps, v = oww lo E ps
 | some (.obj l p) => ∃ r lo E ps, q = .obj l (p ++ r) ∧ D9 v r = some (oww lo E ps)
theorem Keeps.sub {pl : Option Place} {T : TypeId} {vs : List PV} {i : Nat} {v : PV} (hv : vs[i]? = some v) {q : Place} (h : Keeps (pl.bind (·.sub i)) v q) : Keeps pl (.agg T vs) q := by
 cases pl with
 | none => exact h
 | some pl =>
  cases pl with
  | slot j => exact (show False from h).elim
  | obj l p =>
   obtain ⟨r, lo, E, ps, rfl, hg⟩ := h
   exact ⟨i :: r, lo, E, ps, by simp, by simp [D9, hv, hg]⟩
structure Stays (C C' : Cfg) (w w' : World) (ls : List Nat) (keep : Place → Prop) : Prop where
 D : ∀ b o, C.D b o → C'.D b o ∧ w'.cell? ⟨b, o, none⟩ = w.cell? ⟨b, o, none⟩
 ρ : ∀ l ∈ ls, C'.ρ l = C.ρ l
 own : ∀ b q k, C.own b = some (q, k) → keep q → C'.own b = some (q, k) ∧ w'.heap[b]? = w.heap[b]?
 ty : TyKeep w w'
theorem Stays.weak {C C' : Cfg} {w w' : World} {ls ls' : List Nat} {keep keep' : Place → Prop} (h : Stays C C' w w' ls keep) (hl : ∀ l ∈ ls', l ∈ ls) (hk : ∀ q, keep' q → keep q) :
  Stays C C' w w' ls' keep' := ⟨h.D, fun l hm => h.ρ l (hl l hm), fun b q k hb hq => h.own b q k hb (hk q hq), h.ty⟩
theorem G5 {vs : List PV} {i : Nat} {v : PV} (h : vs[i]? = some v) {l : Nat} (hl : l ∈ v.labs) : l ∈ PV.labsL vs := by
 induction vs generalizing i with
 | nil => simp at h
 | cons u us ih =>
  cases i with
  | zero => simp at h; subst h; simp [PV.labsL, hl]
  | succ i => simp at h; simp [PV.labsL, ih h]
mutual
theorem VR.mono {C C' : Cfg} {w w' : World} : ∀ {pl : Option Place} {v : PV} {x : List Value}, VR P C w pl v x → Stays C C' w w' v.labs (Keeps pl v) → VR P C' w' pl v x
 | _, _, _, .pu h, s => .pu (PR.mono s.D s.ty h)
 | _, _, _, .ptr hl hs, s => .ptr ((s.ρ _ (by simp [PV.labs])).trans hl) hs
 | _, _, _, .pp h ht hl hx, s => .pp (VR.mono h (s.weak (fun l hm => by simpa [PV.labs] using hm) (fun q hq => hq.elim))) ht hl fun j u hj => by
   obtain ⟨h1, h2⟩ := hx j u hj
   obtain ⟨h3, h4⟩ := s.D _ _ h2
   exact ⟨h4.trans h1, h3⟩
 | _, _, _, .arr hl hcap, s => .arr ((s.ρ _ (by simp [PV.labs])).trans hl) hcap
 | _, _, _, .mp hl, s => .mp ((s.ρ _ (by simp [PV.labs])).trans hl)
 | _, _, _, .nilc, _ => .nilc
 | _, _, _, .xs h, s => .xs (PR.mono s.D s.ty h)
 | _, _, _, .owx h, s => .owx (PR.mono s.D s.ty h)
 | some pl, _, _, .ow (lo := lo) (E := E) (ps := ps) h ho hb hc hl, s => by
   have hk : Keeps (some pl) (.ow lo E ps) pl := by
    cases pl with
    | slot i => exact ⟨rfl, lo + 1, E, ps, rfl⟩
    | obj l p => exact ⟨[], lo + 1, E, ps, by simp, by simp [D9, oww]⟩
   obtain ⟨h1, h2⟩ := s.own _ _ _ ho hk
   exact .ow (PR.mono s.D s.ty h) h1 (h2.trans hb) hc hl
 | _, _, _, .hd, _ => .hd
 | _, _, _, .flx, _ => .flx
 | some pl, _, _, .fl (E := E) (ps := ps) h hn ho hb hy hc, s => by
   have hk : Keeps (some pl) (.fl E ps) pl := by
    cases pl with
    | slot i => exact ⟨rfl, 0, E, ps, rfl⟩
    | obj l p => exact ⟨[], 0, E, ps, by simp, by simp [D9, oww]⟩
   obtain ⟨h1, h2⟩ := s.own _ _ _ ho hk
   exact .fl (PRs.mono s.D s.ty h) hn h1 (h2.trans hb) hy hc
 | _, _, _, .fn hf hc, s => .fn (VFs.mono hf (s.weak (fun l hm => by simp [PV.labs, hm]) (fun q hq => hq.elim))) (VFs.mono hc (s.weak (fun l hm => by simp [PV.labs, hm]) (fun q hq => hq.elim)))
 | _, .agg T vs, _, .agg hc h, s => .agg hc (VRs.mono h (fun i v hv => s.weak (fun l hm => by simpa [PV.labs] using G5 hv hm) (fun q hq => Keeps.sub (T := T) hv (by simpa using hq))))
theorem VRs.mono {C C' : Cfg} {w w' : World} : ∀ {pl : Option Place} {i : Nat} {cs : List (Nat × TypeId)} {vs : List PV} {x : List Value}, VRs P C w pl i cs vs x →
  (∀ j v, vs[j]? = some v → Stays C C' w w' v.labs (Keeps (pl.bind (·.sub (i + j))) v)) → VRs P C' w' pl i cs vs x
 | _, _, _, _, _, .nil, _ => .nil
 | _, _, _, _, _, .cons hp hs ht h, s => .cons (VR.mono hp (by simpa using s 0 _ (by simp))) hs ht (VRs.mono h fun j v hj => by
   have := s (j + 1) v (by simpa using hj)
   simpa [Nat.add_assoc, Nat.add_comm 1 j] using this)
theorem VFs.mono {C C' : Cfg} {w w' : World} : ∀ {vs : List PV} {x : List Value}, VFs P C w vs x → Stays C C' w w' (PV.labsL vs) (fun _ => False) → VFs P C' w' vs x
 | _, _, .nil, _ => .nil
 | _, _, .cons hv hs h, s => .cons (VR.mono hv (s.weak (fun l hm => by simp [PV.labsL, hm]) (fun q hq => hq.elim))) hs (VFs.mono h (s.weak (fun l hm => by simp [PV.labsL, hm]) (fun q hq => hq)))
end
theorem VT.mono {C C' : Cfg} {w w' : World} {i : Nat} {v : PV} {x : Value} (h : VT P C w i v x) (s : Stays C C' w w' v.labs (Keeps (some (.slot i)) v)) : VT P C' w' i v x := by
 cases h with
 | one h hs => exact .one (h.mono s) hs
 | tup h => exact .tup (h.mono (s.weak (fun l hm => by simpa [PV.labs] using hm) (fun q hq => hq.elim)))
end
section
variable {P : Program}
theorem J0 (T : TypeId) : P.underlying T = (P.info? (P.underlyingId T)).map (·.desc) := by
 unfold Program.underlying Program.underlyingId
 cases h : P.info? T with
 | none => simp [h]
 | some i =>
  obtain ⟨d, _, _, _, _, _, _, _, _, _⟩ := i
  cases d <;> simp [h]
theorem ab6 {T : TypeId} {cs : List (Nat × TypeId)} (h : f7 P T = some cs) : T < P.types.size := by
 unfold f7 at h
 split at h
 ·simp at h
 ·rename_i hn; exact Nat.lt_of_not_le hn
theorem D7 {T T' : TypeId} {a b : List (Nat × TypeId)} (h : P.underlyingId T = P.underlyingId T') (h1 : f7 P T = some a) (h2 : f7 P T' = some b) : a = b := by
 have e1 := ab6 h1
 have e2 := ab6 h2
 unfold f7 at h1 h2
 rw [if_neg (Nat.not_le_of_lt e1), J0 T] at h1
 rw [if_neg (Nat.not_le_of_lt e2), J0 T', ← h] at h2
 exact Option.some.inj (h1.symm.trans h2)
theorem N7 (h : j3 P = true) {T : TypeId} (hT : T < P.types.size) : af0 P T = true := List.all_eq_true.1 h T (List.mem_range.2 hT)
theorem U4 (h : j3 P = true) {T : TypeId} {cs : List (Nat × TypeId)} (hc : f7 P T = some cs) : P.cellsOf T = (cs.map (·.1)).sum := by
 have hlt := ab6 hc
 have ht := N7 h hlt
 unfold af0 at ht
 unfold f7 at hc
 rw [if_neg (Nat.not_le_of_lt hlt)] at hc
 cases hi : P.info? T with
 | none => simp [Program.underlying, hi] at hc
 | some i =>
  simp only [hi] at ht
  cases hu : P.underlying T with
  | none => simp [hu] at hc
  | some d =>
   simp only [hu] at ht hc
   cases d <;> simp at hc
   case array n e =>
    subst hc
    simp at ht
    simp [ht]
   case struct fs =>
    subst hc
    simp at ht
    simp [ht, Function.comp_def]
theorem G4 (h : j3 P = true) {T : TypeId} (hlt : T < P.types.size) {fs : Array Field} (hu : P.underlying T = some (.struct fs)) {i : Nat} {f : Field} (hf : fs[i]? = some f) :
  f.offset = H6 (fs.toList.map fun f => (P.cellsOf f.type, f.type)) i ∧ True ∧ f.type < P.types.size := by
 have ht := N7 h hlt
 unfold af0 at ht
 cases hi : P.info? T with
 | none => simp [Program.underlying, hi] at hu
 | some j =>
  simp only [hi, hu] at ht
  simp only [Bool.and_eq_true, List.all_eq_true] at ht
  have hlt : i < fs.size := by
   rcases Nat.lt_or_ge i fs.size with h | h
   ·exact h
   ·simp [Array.getElem?_eq_none h] at hf
  have := ht.2 i (List.mem_range.2 hlt)
  simp only [hf, Bool.and_eq_true, beq_iff_eq, decide_eq_true_eq] at this
  refine ⟨?_, trivial, this.2⟩
  rw [this.1]
  simp [H6, List.map_take, Function.comp_def]
theorem aq9 (h : j3 P = true) {T : TypeId} (hlt : T < P.types.size) {n : Nat} {e : TypeId} (hu : P.underlying T = some (.array n e)) : e < P.types.size := by
 have ht := N7 h hlt
 unfold af0 at ht
 cases hi : P.info? T with
 | none => simp [Program.underlying, hi] at hu
 | some j =>
  simp only [hi, hu, Bool.and_eq_true, decide_eq_true_eq] at ht
  exact ht.2
theorem aM0 (h : j3 P = true) {T : TypeId} (hlt : T < P.types.size) {e : TypeId} (hu : P.underlying T = some (.slice e)) : e < P.types.size := by
 have ht := N7 h hlt
 unfold af0 at ht
 cases hi : P.info? T with
 | none => simp [Program.underlying, hi] at hu
 | some j =>
  simp only [hi, hu, Bool.and_eq_true, decide_eq_true_eq] at ht
  exact ht.2
theorem U1 (h : j3 P = true) {T : TypeId} (hlt : T < P.types.size) : ∃ i d, P.info? T = some i ∧ P.underlying T = some d := by
 have ht := N7 h hlt
 unfold af0 at ht
 cases hi : P.info? T with
 | none =>
  simp only [Tables.info?, hlt, if_true] at hi
  simp at hi
  exact absurd hlt (Nat.not_lt.2 hi)
 | some j =>
  simp only [hi] at ht
  cases hu : P.underlying T with
  | none => simp [hu] at ht
  | some d => exact ⟨j, d, rfl, rfl⟩
theorem PRs.toV {C : Cfg} {w : World} {pl : Option Place} : ∀ {cs : List (Nat × TypeId)} {ps : List Pu} {x : List Value} (i : Nat), PRs P C.D w cs ps x → VRs P C w pl i cs (ps.map .pu) x
 | _, _, _, _, .nil => .nil
 | _, _, _, i, .cons hp hs ht h => .cons (.pu hp) hs ht (PRs.toV (i + 1) h)
theorem PRs.length {D : Nat → Nat → Prop} {w : World} : ∀ {cs : List (Nat × TypeId)} {ps : List Pu} {x : List Value}, PRs P D w cs ps x → x.length = (cs.map (·.1)).sum ∧ ps.length = cs.length
 | _, _, _, .nil => ⟨rfl, rfl⟩
 | _, _, _, .cons _ hs _ h => by have := PRs.length h; simp [hs, this.1, this.2]
theorem VRs.length {C : Cfg} {w : World} : ∀ {pl : Option Place} {i : Nat} {cs : List (Nat × TypeId)} {vs : List PV} {x : List Value}, VRs P C w pl i cs vs x → x.length = (cs.map (·.1)).sum ∧ vs.length = cs.length
 | _, _, _, _, _, .nil => ⟨rfl, rfl⟩
 | _, _, _, _, _, .cons _ hs _ h => by have := VRs.length h; simp [hs, this.1, this.2]
theorem VRs.at {C : Cfg} {w : World} {pl : Option Place} : ∀ {k : Nat} {cs : List (Nat × TypeId)} {vs : List PV} {x : List Value}, VRs P C w pl k cs vs x → ∀ {i s : Nat} {t : TypeId}, cs[i]? = some (s, t) →
  ∃ u pre mid post, vs[i]? = some u ∧ x = pre ++ (mid ++ post) ∧ pre.length = H6 cs i ∧ mid.length = s ∧ VR P C w (pl.bind (·.sub (k + i))) u mid ∧ tyV P t u = true ∧
   ∀ {C' : Cfg} {w' : World} {u' : PV} {mid' : List Value}, (∀ j v, j ≠ i → vs[j]? = some v → Stays C C' w w' v.labs (Keeps (pl.bind (·.sub (k + j))) v)) →
    VR P C' w' (pl.bind (·.sub (k + i))) u' mid' → mid'.length = s → tyV P t u' = true → VRs P C' w' pl k cs (vs.set i u') (pre ++ (mid' ++ post))
 | k, _, _, _, .cons (s := s) (T := T) (cs := cs) (v := v) (vs := vs) (x := x) (y := y) hp hs ht h, i, s', t, hi => by
  cases i with
  | zero =>
   simp at hi
   obtain ⟨rfl, rfl⟩ := hi
   refine ⟨v, [], x, y, by simp, by simp, by simp [H6], hs, by simpa using hp, ht, ?_⟩
   intro C' w' u' mid' hst hu hl hty
   simp only [List.nil_append, List.set_cons_zero]
   refine .cons (by simpa using hu) hl hty (VRs.mono h fun j v hj => ?_)
   have := hst (j + 1) v (by omega) (by simpa using hj)
   simpa [Nat.add_assoc, Nat.add_comm 1 j] using this
  | succ i =>
   simp at hi
   obtain ⟨u, pre, mid, post, h1, h2, h3, h4, h5, h6, h7⟩ := VRs.at h hi
   refine ⟨u, x ++ pre, mid, post, by simpa using h1, by simp [h2], by simp [hs, h3, H6], h4, by simpa [Nat.add_assoc, Nat.add_comm 1 i] using h5, h6, ?_⟩
   intro C' w' u' mid' hst hu hl hty
   simp only [List.append_assoc, List.set_cons_succ]
   refine .cons (hp.mono (by simpa using hst 0 v (by omega) (by simp))) hs ht (h7 (fun j v hne hj => ?_) (by simpa [Nat.add_assoc, Nat.add_comm 1 i] using hu) hl hty)
   have := hst (j + 1) v (by omega) (by simpa using hj)
   simpa [Nat.add_assoc, Nat.add_comm 1 j] using this
def aA1 : PV → List Nat → PV → Option PV
 | _, [], x => some x
 | .pu (.agg T ps), i :: r, x => match ps[i]? with
  | some p => match aA1 (.pu p) r x with
   | some (.pu q) => some (.pu (.agg T (ps.set i q)))
   | some q => some (.agg T ((ps.map PV.pu).set i q))
   | none => none
  | none => none
 | .agg T vs, i :: r, x => match vs[i]? with
  | some v => match aA1 v r x with
   | some q => some (.agg T (vs.set i q))
   | none => none
  | none => none
 | _, _ :: _, _ => none
theorem VR.pu_inv {C : Cfg} {w : World} {pl : Option Place} {p : Pu} {x : List Value} (h : VR P C w pl (.pu p) x) : PR P C.D w p x := by
 cases h with | pu h => exact h
theorem VRs.cons_inv {C : Cfg} {w : World} {pl : Option Place} {i : Nat} {c : Nat × TypeId} {cs : List (Nat × TypeId)} {v : PV} {vs : List PV} {z : List Value} (h : VRs P C w pl i (c :: cs) (v :: vs) z) :
  ∃ x y, z = x ++ y ∧ VR P C w (pl.bind (·.sub i)) v x ∧ x.length = c.1 ∧ tyV P c.2 v = true ∧ VRs P C w pl (i + 1) cs vs y := by
 cases h with | cons hp hs ht h => exact ⟨_, _, rfl, hp, hs, ht, h⟩
theorem VRs.toP {C : Cfg} {w : World} {pl : Option Place} : ∀ {i : Nat} {cs : List (Nat × TypeId)} {ps : List Pu} {x : List Value}, VRs P C w pl i cs (ps.map .pu) x → PRs P C.D w cs ps x
 | _, [], [], _, h => by cases h; exact .nil
 | _, _ :: _, [], _, h => by cases h
 | _, [], _ :: _, _, h => by cases h
 | i, c :: cs, p :: ps, _, h => by
  obtain ⟨x, y, rfl, hp, hs, ht, h⟩ := VRs.cons_inv h
  exact .cons hp.pu_inv hs ht (VRs.toP h)
theorem aa5 (ps : List Pu) : PV.labsL (ps.map PV.pu) = [] := by
 induction ps with
 | nil => rfl
 | cons p ps ih => simp [PV.labsL, PV.labs, ih]
theorem VR.at {C : Cfg} {w : World} {l : Nat} (path : List Nat) : ∀ {p : List Nat} {T T' : TypeId} {off : Nat} {v : PV} {x : List Value}, VR P C w (some (.obj l p)) v x → tyV P T v = true →
  P3 P T path = some (T', off) → ∃ u pre mid post, D9 v path = some u ∧ x = pre ++ (mid ++ post) ∧ pre.length = off ∧ VR P C w (some (.obj l (p ++ path))) u mid ∧ tyV P T' u = true ∧
   (path ≠ [] → mid.length = P.cellsOf T') ∧ (path = [] → mid = x) ∧
   ∀ {C' : Cfg} {w' : World} {u' : PV} {mid' : List Value}, Stays C C' w w' v.labs (fun q => Keeps (some (.obj l p)) v q ∧ ∀ r, q ≠ .obj l (p ++ path ++ r)) →
    VR P C' w' (some (.obj l (p ++ path))) u' mid' → mid'.length = mid.length → tyV P T' u' = true → ∃ v', aA1 v path u' = some v' ∧ VR P C' w' (some (.obj l p)) v' (pre ++ (mid' ++ post)) ∧ tyV P T v' = true := by
 induction path with
 | nil =>
  intro p T T' off v x hv ht hs
  simp [P3] at hs
  obtain ⟨rfl, rfl⟩ := hs
  refine ⟨v, [], x, [], by cases v <;> rfl, by simp, rfl, by simpa using hv, ht, by simp, fun _ => rfl, ?_⟩
  intro C' w' u' mid' _ hu _ hty
  exact ⟨u', by cases v <;> rfl, by simpa using hu, hty⟩
 | cons i r ih =>
  intro p T T' off v x hv ht hs
  simp only [P3] at hs
  cases hc : f7 P T with
  | none => simp [hc] at hs
  | some cs =>
   simp only [hc] at hs
   cases hi : cs[i]? with
   | none => simp [hi] at hs
   | some c =>
    obtain ⟨s, t⟩ := c
    simp only [hi] at hs
    cases hr : P3 P t r with
    | none => simp [hr] at hs
    | some k =>
     obtain ⟨T1, k⟩ := k
     simp only [hr, Option.some.injEq, Prod.mk.injEq] at hs
     obtain ⟨rfl, rfl⟩ := hs
     have hsz : s = P.cellsOf t := by
      have hlt := ab6 hc
      unfold f7 at hc
      rw [if_neg (Nat.not_le_of_lt hlt)] at hc
      cases hu : P.underlying T with
      | none => simp [hu] at hc
      | some d =>
       cases d <;> simp [hu] at hc
       case array n e =>
        subst hc
        rw [List.getElem?_replicate] at hi
        split at hi <;> simp at hi
        rw [← hi.1, hi.2]
       case struct fs =>
        subst hc
        simp only [List.getElem?_map, Option.map_eq_some_iff] at hi
        obtain ⟨f, _, hf⟩ := hi
        simp at hf
        rw [← hf.1, hf.2]
     have key : ∃ T0 vs, VRs P C w (some (.obj l p)) 0 cs vs x ∧ ((∃ ps, v = .pu (.agg T0 ps) ∧ vs = ps.map PV.pu) ∨ v = .agg T0 vs) ∧ f7 P T0 = some cs ∧ P.underlyingId T0 = P.underlyingId T := by
      cases hv with
      | pu h =>
       cases h with
       | agg hc' h =>
        simp [tyV, tyP, hc] at ht
        obtain rfl := D7 ht hc' hc
        exact ⟨_, _, h.toV 0, .inl ⟨_, rfl, rfl⟩, hc', ht⟩
       | _ => simp [tyV, tyP, hc] at ht
      | agg hc' h =>
       simp [tyV, hc] at ht
       obtain rfl := D7 ht hc' hc
       exact ⟨_, _, h, .inr rfl, hc', ht⟩
      | _ => simp [tyV, hc] at ht
     obtain ⟨T0, vs, hvs, hshape, hc0, huid⟩ := key
     obtain ⟨u, pre, mid, post, h1, h2, h3, h4, h5, h6, h7⟩ := VRs.at hvs hi
     have h5' : VR P C w (some (.obj l (p ++ [i]))) u mid := by simpa [Place.sub] using h5
     obtain ⟨u2, pre2, mid2, post2, g1, g2, g3, g4, g5, g6, g6', g7⟩ := ih h5' h6 hr
     have hget : D9 v (i :: r) = some u2 := by
      rcases hshape with ⟨ps, rfl, rfl⟩ | rfl
      ·simp only [List.getElem?_map, Option.map_eq_some_iff] at h1
       obtain ⟨q, hq, rfl⟩ := h1
       simp [D9, hq, g1]
      ·simp [D9, h1, g1]
     refine ⟨u2, pre ++ pre2, mid2, post2 ++ post, hget, by simp [h2, g2], by simp [h3, g3], by simpa using g4, g5, fun _ => ?_, by simp, ?_⟩
     ·cases r with
      | nil =>
       simp [P3] at hr
       obtain ⟨rfl, rfl⟩ := hr
       rw [g6' rfl, h4, hsz]
      | cons j r => exact g6 (by simp)
     ·intro C' w' u' mid' hst hu hl hty
      have hst' : Stays C C' w w' u.labs (fun q => Keeps (some (.obj l (p ++ [i]))) u q ∧ ∀ r', q ≠ .obj l (p ++ [i] ++ r ++ r')) := by
       refine hst.weak (fun l' hm => ?_) (fun q hq => ⟨?_, fun r' => by simpa using hq.2 r'⟩)
       ·rcases hshape with ⟨ps, rfl, rfl⟩ | rfl
        ·have := G5 h1 hm; rw [aa5] at this; simp at this
        ·simpa [PV.labs] using G5 h1 hm
       ·rcases hshape with ⟨ps, rfl, rfl⟩ | rfl
        ·simp only [List.getElem?_map, Option.map_eq_some_iff] at h1
         obtain ⟨q', hq', rfl⟩ := h1
         obtain ⟨⟨r1, lo, E, es, rfl, hg⟩, _⟩ := hq
         exact ⟨i :: r1, lo, E, es, by simp, by simp [D9, hq', hg]⟩
        ·obtain ⟨⟨r1, lo, E, es, rfl, hg⟩, _⟩ := hq
         exact ⟨i :: r1, lo, E, es, by simp, by simp [D9, h1, hg]⟩
      obtain ⟨v2, e1, e2, e3⟩ := g7 hst' (by simpa using hu) hl hty
      have hmid : (pre2 ++ (mid' ++ post2)).length = s := by
       rw [← h4, g2]; simp [hl]
      have hnew := h7 (C' := C') (w' := w') (u' := v2) (mid' := pre2 ++ (mid' ++ post2)) (fun j v' hne hj => by
       refine hst.weak (fun l' hm => ?_) (fun q hq => ?_)
       ·rcases hshape with ⟨ps, rfl, rfl⟩ | rfl
        ·have := G5 hj hm; rw [aa5] at this; simp at this
        ·simpa [PV.labs] using G5 hj hm
       ·obtain ⟨r1, lo, E, es, rfl, hg⟩ := (show ∃ r1 lo E es, q = .obj l (p ++ [j] ++ r1) ∧ D9 v' r1 = some (oww lo E es) by simpa [Place.sub, Keeps] using hq)
        refine ⟨⟨j :: r1, lo, E, es, by simp, ?_⟩, fun r' he => ?_⟩
        ·rcases hshape with ⟨ps, rfl, rfl⟩ | rfl
         ·simp only [List.getElem?_map, Option.map_eq_some_iff] at hj
          obtain ⟨q', hq', rfl⟩ := hj
          simp [D9, hq', hg]
         ·simp [D9, hj, hg]
        ·simp at he
         exact hne he.1) (by simpa [Place.sub] using e2) hmid e3
      rcases hshape with ⟨ps, rfl, rfl⟩ | rfl
      ·simp only [List.getElem?_map, Option.map_eq_some_iff] at h1
       obtain ⟨q', hq', rfl⟩ := h1
       cases hv2 : v2 with
       | pu q2 =>
        subst hv2
        refine ⟨.pu (.agg T0 (ps.set i q2)), by simp [aA1, hq', e1], ?_, ?_⟩
        ·have : (ps.map PV.pu).set i (PV.pu q2) = (ps.set i q2).map PV.pu := by rw [List.map_set]
         rw [this] at hnew
         have := VRs.toP hnew
         simpa using VR.pu (C := C') (PR.agg hc0 this)
        ·simp [tyV, tyP, hc, huid]
       | _ =>
        subst hv2
        refine ⟨_, by simp [aA1, hq', e1]; rfl, by simpa using VR.agg hc0 hnew, by simp [tyV, hc, huid]⟩
      ·refine ⟨.agg T0 (vs.set i v2), by simp [aA1, h1, e1], by simpa using VR.agg hc0 hnew, by simp [tyV, hc, huid]⟩
end
section
variable {P : Program}
inductive Ob where
 | var (T : TypeId) (v : PV)
 | row (E : TypeId) (vs : List PV)
 | map (K V : TypeId) (es : List (Pu × PV))
 | loop (r : Loop)
 deriving Inhabited
def Ob.root : Ob → Root
 | .var T _ => .var T
 | .row E _ => .row E
 | .map K V _ => .map K V
 | .loop _ => .loop
def get {α : Type} : List (Nat × α) → Nat → Option α
 | [], _ => none
 | (j, v) :: r, i => if i = j then some v else get r i
theorem f8 {α : Type} (j : Nat) (v : α) (r : List (Nat × α)) (i : Nat) : get ((j, v) :: r) i = if i = j then some v else get r i := rfl
structure St where
 env : List (Nat × PV)
 heap : List (Nat × Ob)
structure Ctx where
 w0 : World
 n : Nat
 M : Nat → Prop
 G : List (Nat × TypeId × Pu)
 L : List Nat
 R : List Nat
 ρ0 : Nat → Option (Nat × Root)
 D0 : Nat → Nat → Prop
 ro : Option Nat := none
structure Kin (X : Ctx) (C : Cfg) : Prop where
 rho : ∀ l ∈ X.L, C.ρ l = X.ρ0 l
 dOld : ∀ b o, X.D0 b o → C.D b o
 dNew : ∀ b o, C.D b o → X.D0 b o ∨ X.w0.heap.size ≤ b ∨ X.M b
structure Framed (X : Ctx) (w : World) : Prop where
 os : w.os = X.w0.os
 tape : w.tape = X.w0.tape
 output : w.output = X.w0.output
 size : X.w0.heap.size ≤ w.heap.size
 block : ∀ b, b < X.w0.heap.size → ¬ X.M b → w.heap[b]? = X.w0.heap[b]?
 ty : TyKeep X.w0 w
inductive MR (P : Program) (C : Cfg) (w : World) : List (Pu × PV) → List MapEntry → Prop
 | nil : MR P C w [] []
 | cons {k : Pu} {v : PV} {es : List (Pu × PV)} {e : MapEntry} {r : List MapEntry} (hk : PR P C.D w k e.key.cells.toList) (hks : d7 e.key = (PV.pu k).isAgg)
   (hv : VR P C w none v e.val.cells.toList) (hvs : d7 e.val = v.isAgg) (h : MR P C w es r) : MR P C w ((k, v) :: es) (e :: r)
def OR (P : Program) (C : Cfg) (w : World) (l b : Nat) : Ob → Prop
 | .var T v => ∃ c E, w.heap[b]? = some (.cells c E (0, 0)) ∧ VR P C w (some (.obj l [])) v c.toList ∧ tyV P T v = true ∧ c.size = P.cellsOf T
 | .row E vs => ∃ c y z, w.heap[b]? = some (.cells c E (0, 0)) ∧ c.toList = y ++ z ∧ VRs P C w (some (.obj l [])) 0 (List.replicate vs.length (P.cellsOf E, E)) vs y
 | .map _ _ es => ∃ en ck, w.heap[b]? = some (.map en ck) ∧ MR P C w es en.toList
 | .loop r => w.heap[b]? = some (.loop r)
def GL (P : Program) (G : List (Nat × TypeId × Pu)) (C : Cfg) (w : World) : Prop := ∀ g T p, get G g = some (T, p) → VR P C w none (.pp T (.pu p)) [.pointer (some ⟨g, 0, none⟩)]
theorem GL.mono {G : List (Nat × TypeId × Pu)} {C C' : Cfg} {w w' : World} (h : GL P G C w) (s : Stays C C' w w' [] (fun _ => False)) : GL P G C' w' :=
 fun g T p hg => (h g T p hg).mono (s.weak (fun _ hm => by simp [PV.labs] at hm) (fun _ hq => hq))
def DefOk (X : Ctx) (C : Cfg) (w : World) (ds : List Deferred) : Prop :=
 ds.Nodup ∧ ∀ d ∈ ds, ∃ D, d = { target := .collected D, args := #[] } ∧ (X.w0.heap.size ≤ D ∨ X.M D) ∧ w.heap[D]? = some (.deferred (some [])) ∧ C.own D = none
theorem DefOk.nil {X : Ctx} {C : Cfg} {w : World} : DefOk X C w [] := ⟨List.nodup_nil, fun d h => by cases h⟩
theorem DefOk.mono {X : Ctx} {C C' : Cfg} {w w' : World} {ds : List Deferred} (h : DefOk X C w ds) (k : ∀ D, (X.w0.heap.size ≤ D ∨ X.M D) → w.heap[D]? = some (.deferred (some [])) → C.own D = none → w'.heap[D]? = w.heap[D]? ∧ C'.own D = none) : DefOk X C' w' ds :=
 ⟨h.1, fun d hd => by
  obtain ⟨D, h1, h2, h3, h4⟩ := h.2 d hd
  obtain ⟨k1, k2⟩ := k D h2 h3 h4
  exact ⟨D, h1, h2, k1.trans h3, k2⟩⟩
theorem OR.noDef {C : Cfg} {w : World} {l b : Nat} {ob : Ob} (h : OR P C w l b ob) {x : Option (List Deferred)} : w.heap[b]? ≠ some (.deferred x) := by
 cases ob with
 | var T v => obtain ⟨c, E, h1, _⟩ := h; rw [h1]; simp
 | row E vs => obtain ⟨c, y, z, h1, _⟩ := h; rw [h1]; simp
 | map K V es => obtain ⟨en, ck, h1, _⟩ := h; rw [h1]; simp
 | loop r => rw [show w.heap[b]? = _ from h]; simp
structure SatC (P : Program) (X : Ctx) (C : Cfg) (st : St) (a : Act) (w : World) : Prop where
 size : a.tmps.size = X.n
 defers : DefOk X C w a.defers
 framed : Framed X w
 env : ∀ i v, get st.env i = some v → ∃ x, a.tmps[i]? = some x ∧ VT P C w i v x
 heap : ∀ l ob, get st.heap l = some ob → ∃ b, C.ρ l = some (b, ob.root) ∧ (l ∈ X.R ∨ X.w0.heap.size ≤ b ∨ X.M b) ∧ OR P C w l b ob
 inj : ∀ l l' b R R' ob ob', get st.heap l = some ob → get st.heap l' = some ob' → C.ρ l = some (b, R) → C.ρ l' = some (b, R') → l = l'
 dObj : ∀ l ob b R o, get st.heap l = some ob → C.ρ l = some (b, R) → ¬ C.D b o
 dLt : ∀ b o, C.D b o → b < w.heap.size
 own : ∀ b q k, C.own b = some (q, k) → (X.w0.heap.size ≤ b ∨ X.M b) ∧ b < w.heap.size ∧ (∀ o, C.D b o → o < k) ∧ ∀ l ob R, get st.heap l = some ob → C.ρ l ≠ some (b, R)
 gl : GL P X.G C w
 kin : Kin X C
 keep : ∀ b o, X.D0 b o → w.cell? ⟨b, o, none⟩ = X.w0.cell? ⟨b, o, none⟩
structure St.Same (s t : St) : Prop where
 env : ∀ i, get s.env i = get t.env i
 heap : ∀ l, get s.heap l = get t.heap l
theorem SatC.same {X : Ctx} {C : Cfg} {s t : St} {a : Act} {w : World} (h : SatC P X C s a w) (e : s.Same t) : SatC P X C t a w :=
 ⟨h.size, h.defers, h.framed, fun i v hv => h.env i v ((e.env i).trans hv), fun l ob hl => h.heap l ob ((e.heap l).trans hl),
  fun l l' b R R' ob ob' hl hl' => h.inj l l' b R R' ob ob' ((e.heap l).trans hl) ((e.heap l').trans hl'),
  fun l ob b R o hl => h.dObj l ob b R o ((e.heap l).trans hl), h.dLt,
  fun b q k hb => let ⟨h1, h2, h3, h4⟩ := h.own b q k hb; ⟨h1, h2, h3, fun l ob R hl => h4 l ob R ((e.heap l).trans hl)⟩, h.gl, h.kin, h.keep⟩
structure St.Le (t s : St) : Prop where
 env : ∀ i v, get t.env i = some v → get s.env i = some v
 heap : ∀ l ob, get t.heap l = some ob → get s.heap l = some ob
theorem SatC.less {X : Ctx} {C : Cfg} {s t : St} {a : Act} {w : World} (h : SatC P X C s a w) (e : t.Le s) : SatC P X C t a w :=
 ⟨h.size, h.defers, h.framed, fun i v hv => h.env i v (e.env i v hv), fun l ob hl => h.heap l ob (e.heap l ob hl),
  fun l l' b R R' ob ob' hl hl' => h.inj l l' b R R' ob ob' (e.heap l ob hl) (e.heap l' ob' hl'),
  fun l ob b R o hl => h.dObj l ob b R o (e.heap l ob hl), h.dLt,
  fun b q k hb => let ⟨h1, h2, h3, h4⟩ := h.own b q k hb; ⟨h1, h2, h3, fun l ob R hl => h4 l ob R (e.heap l ob hl)⟩, h.gl, h.kin, h.keep⟩
theorem MR.mono {C C' : Cfg} {w w' : World} : ∀ {es : List (Pu × PV)} {en : List MapEntry}, MR P C w es en → (∀ k v, (k, v) ∈ es → Stays C C' w w' v.labs (fun _ => False)) → Stays C C' w w' [] (fun _ => False) → MR P C' w' es en
 | _, _, .nil, _, _ => .nil
 | (k, v) :: _, _, .cons hk hks hv hvs h, s, s0 => .cons (hk.mono s0.D s0.ty) hks (hv.mono ((s k v (by simp)).weak (fun _ h => h) (fun _ h => h.elim))) hvs (MR.mono h (fun k v hm => s k v (by simp [hm])) s0)
def Ob.labs : Ob → List Nat
 | .var _ v => v.labs
 | .row _ vs => PV.labsL vs
 | .map _ _ es => PV.labsL (es.map (·.2))
 | .loop _ => []
def Ob.get : Ob → List Nat → Option PV
 | .var _ v, p => D9 v p
 | .row _ vs, i :: r => match vs[i]? with
  | some v => D9 v r
  | none => none
 | _, _ => none
def az8 (l : Nat) (ob : Ob) (q : Place) : Prop := ∃ r lo E ps, q = .obj l r ∧ ob.get r = some (oww lo E ps)
theorem OR.mono {C C' : Cfg} {w w' : World} {l b : Nat} : ∀ {ob : Ob}, OR P C w l b ob → Stays C C' w w' ob.labs (az8 l ob) → w'.heap[b]? = w.heap[b]? → OR P C' w' l b ob
 | .loop _, h, _, e => e.trans h
 | .var T v, ⟨c, E, h1, h2, h3, h4⟩, s, e => ⟨c, E, e.trans h1, h2.mono (s.weak (fun l h => h) fun q hq => by
   obtain ⟨r, lo, E, ps, rfl, hg⟩ := hq
   exact ⟨r, lo, E, ps, by simp, hg⟩), h3, h4⟩
 | .row E vs, ⟨c, y, z, h1, h2, h3⟩, s, e => ⟨c, y, z, e.trans h1, h2, h3.mono fun j v hj => s.weak (fun l' h => G5 hj h) fun q hq => by
   obtain ⟨r, lo, E, ps, rfl, hg⟩ := (show ∃ r lo E ps, q = .obj l ([0 + j] ++ r) ∧ D9 v r = some (oww lo E ps) by simpa [Place.sub, Keeps] using hq)
   exact ⟨j :: r, lo, E, ps, by simp, by simp [Ob.get, hj, hg]⟩⟩
 | .map K V es, ⟨en, ck, h1, h2⟩, s, e => ⟨en, ck, e.trans h1, h2.mono (fun k v hm => s.weak (fun l' h => by
   simp only [Ob.labs]
   obtain ⟨i, hi⟩ := List.getElem?_of_mem (List.mem_map_of_mem (f := (·.2)) hm)
   exact G5 hi h) (fun q hq => hq.elim)) (s.weak (fun _ h => by simp at h) (fun q hq => hq.elim))⟩
structure Grew (w w' : World) : Prop where
 os : w'.os = w.os
 tape : w'.tape = w.tape
 output : w'.output = w.output
 size : w.heap.size ≤ w'.heap.size
 block : ∀ b, b < w.heap.size → w'.heap[b]? = w.heap[b]?
theorem Grew.refl (w : World) : Grew w w := ⟨rfl, rfl, rfl, Nat.le_refl _, fun _ _ => rfl⟩
theorem Grew.trans {a b c : World} (h : Grew a b) (k : Grew b c) : Grew a c :=
 ⟨k.os.trans h.os, k.tape.trans h.tape, k.output.trans h.output, Nat.le_trans h.size k.size, fun i hi => (k.block i (Nat.lt_of_lt_of_le hi h.size)).trans (h.block i hi)⟩
theorem Grew.alloc (w : World) (o : Obj) : Grew w (w.alloc o) := ⟨rfl, rfl, rfl, by show _ ≤ (w.heap.push o).size; simp, fun b hb => Below.heap_alloc w o b hb⟩
theorem Grew.drew (w : World) : Grew w w.drew := ⟨rfl, rfl, rfl, Nat.le_refl _, fun _ _ => rfl⟩
theorem Grew.cell {w w' : World} (h : Grew w w') {b o : Nat} (hb : b < w.heap.size) : w'.cell? ⟨b, o, none⟩ = w.cell? ⟨b, o, none⟩ := by
 simp only [World.cell?, h.block b hb]
theorem Grew.ty {w w' : World} (h : Grew w w') : TyKeep w w' := fun b c E hb => ⟨c, (h.block b (by
 rcases Nat.lt_or_ge b w.heap.size with h' | h'
 ·exact h'
 ·simp [Array.getElem?_eq_none h'] at hb)).trans hb⟩
theorem Framed.grew {X : Ctx} {w w' : World} (h : Framed X w) (g : Grew w w') : Framed X w' :=
 ⟨g.os.trans h.os, g.tape.trans h.tape, g.output.trans h.output, Nat.le_trans h.size g.size, fun b hb hm => (g.block b (Nat.lt_of_lt_of_le hb h.size)).trans (h.block b hb hm), h.ty.trans g.ty⟩
theorem C8 {w : World} {b : Nat} {o : Obj} (h : w.heap[b]? = some o) : b < w.heap.size := by
 rcases Nat.lt_or_ge b w.heap.size with h' | h'
 ·exact h'
 ·simp [Array.getElem?_eq_none h'] at h
theorem OR.lt {C : Cfg} {w : World} {l b : Nat} {ob : Ob} (h : OR P C w l b ob) : b < w.heap.size := by
 cases ob with
 | var T v => obtain ⟨c, E, h1, _⟩ := h; exact C8 h1
 | row E vs => obtain ⟨c, y, z, h1, _⟩ := h; exact C8 h1
 | map K V es => obtain ⟨en, ck, h1, _⟩ := h; exact C8 h1
 | loop r => exact C8 h
structure CGrew (C C' : Cfg) (w w' : World) : Prop where
 D : ∀ b o, C.D b o → C'.D b o
 Dnew : ∀ b o, C'.D b o → C.D b o ∨ (w.heap.size ≤ b ∧ b < w'.heap.size)
 ρ : C'.ρ = C.ρ
 own : ∀ b, b < w.heap.size → C'.own b = C.own b
 ownNew : ∀ b q k, C'.own b = some (q, k) → w.heap.size ≤ b → b < w'.heap.size ∧ ∀ o, C'.D b o → o < k
theorem CGrew.refl (C : Cfg) (w w' : World) (h : ∀ b q k, C.own b = some (q, k) → w.heap.size ≤ b → b < w'.heap.size ∧ ∀ o, C.D b o → o < k) : CGrew C C w w' := ⟨fun _ _ h => h, fun _ _ h => .inl h, rfl, fun _ _ => rfl, h⟩
theorem SatC.stays {X : Ctx} {C C' : Cfg} {st : St} {a : Act} {w w' : World} (h : SatC P X C st a w) (g : Grew w w') (c : CGrew C C' w w') (ls : List Nat) (keep : Place → Prop) : Stays C C' w w' ls keep :=
 ⟨fun b o hb => ⟨c.D b o hb, g.cell (h.dLt b o hb)⟩, fun l _ => by rw [c.ρ], fun b q k hb _ => by
  have := (h.own b q k hb).2.1
  exact ⟨(c.own b this).trans hb, g.block b this⟩, g.ty⟩
theorem SatC.grew {X : Ctx} {C C' : Cfg} {st : St} {a : Act} {w w' : World} (h : SatC P X C st a w) (g : Grew w w') (c : CGrew C C' w w') : SatC P X C' st a w' where
 size := h.size
 defers := h.defers.mono fun D _ hD ho => have hlt := C8 hD; ⟨g.block D hlt, (c.own D hlt).trans ho⟩
 framed := h.framed.grew g
 env i v hv := let ⟨x, h1, h2⟩ := h.env i v hv; ⟨x, h1, h2.mono (h.stays g c _ _)⟩
 heap l ob hl := let ⟨b, h1, h2, h3⟩ := h.heap l ob hl; ⟨b, by rw [c.ρ]; exact h1, h2, h3.mono (h.stays g c _ _) (g.block b h3.lt)⟩
 inj l l' b R R' ob ob' hl hl' := by rw [c.ρ]; exact h.inj l l' b R R' ob ob' hl hl'
 dObj l ob b R o hl hρ hD := by
  rw [c.ρ] at hρ
  rcases c.Dnew b o hD with hd | ⟨hge, _⟩
  ·exact h.dObj l ob b R o hl hρ hd
  ·obtain ⟨b', h1, _, h3⟩ := h.heap l ob hl
   obtain rfl : b' = b := by rw [h1] at hρ; simp at hρ; exact hρ.1
   exact absurd h3.lt (Nat.not_lt.2 hge)
 dLt b o hD := by
  rcases c.Dnew b o hD with hd | ⟨_, hlt⟩
  ·exact Nat.lt_of_lt_of_le (h.dLt b o hd) g.size
  ·exact hlt
 own b q k hb := by
  by_cases hlt : b < w.heap.size
  ·rw [c.own b hlt] at hb
   obtain ⟨h1, h2, h3, h4⟩ := h.own b q k hb
   refine ⟨h1, Nat.lt_of_lt_of_le h2 g.size, fun o hD => ?_, fun l ob R hl => by rw [c.ρ]; exact h4 l ob R hl⟩
   rcases c.Dnew b o hD with hd | ⟨hge, _⟩
   ·exact h3 o hd
   ·exact absurd hlt (Nat.not_lt.2 hge)
  ·have hge := Nat.not_lt.1 hlt
   obtain ⟨h1, h2⟩ := c.ownNew b q k hb hge
   refine ⟨.inl (Nat.le_trans h.framed.size hge), h1, h2, fun l ob R hl hρ => ?_⟩
   rw [c.ρ] at hρ
   obtain ⟨b', e1, _, e3⟩ := h.heap l ob hl
   obtain rfl : b' = b := by rw [e1] at hρ; simp at hρ; exact hρ.1
   exact hlt e3.lt
 gl := h.gl.mono (h.stays g c _ _)
 kin := ⟨fun l hl => by rw [c.ρ]; exact h.kin.rho l hl, fun b o hD => c.D b o (h.kin.dOld b o hD), fun b o hD => by
  rcases c.Dnew b o hD with hd | ⟨hge, _⟩
  ·exact h.kin.dNew b o hd
  ·exact .inr (.inl (Nat.le_trans h.framed.size hge))⟩
 keep b o hD := (g.cell (h.dLt b o (h.kin.dOld b o hD))).trans (h.keep b o hD)
theorem SatC.put {X : Ctx} {C : Cfg} {st : St} {a : Act} {w : World} (h : SatC P X C st a w) {d : Nat} {v : PV} {x : Value} (hd : d < X.n) (hv : VT P C w d v x) :
  SatC P X C { st with env := (d, v) :: st.env } (a.put (some d) x) w where
 size := by simpa [Act.put] using h.size
 defers := by simpa [Act.put] using h.defers
 framed := h.framed
 env i u hu := by
  rw [f8] at hu
  split at hu
  ·rename_i e
   subst e
   simp at hu
   subst hu;exact ⟨x, by simp [Act.put, h.size, hd], hv⟩
  ·rename_i e
   obtain ⟨y, h1, h2⟩ := h.env i u hu
   refine ⟨y, ?_, h2⟩
   simp only [Act.put]
   rw [Array.getElem?_setIfInBounds_ne (fun e' => e e'.symm)];exact h1
 heap := h.heap
 inj := h.inj
 dObj := h.dObj
 dLt := h.dLt
 own := h.own
 gl := h.gl
 kin := h.kin
 keep := h.keep
end
section
variable {P : Program}
mutual
def strip : PV → PV
 | .ow lo E ps => .pu (.sl lo E ps)
 | .fl E ps => .hd E ps.length
 | .agg T vs => .agg T (as5 vs)
 | v => v
def as5 : List PV → List PV
 | [] => []
 | v :: vs => strip v :: as5 vs
end
theorem bm5 (T : TypeId) (v : PV) : tyV P T (strip v) = tyV P T v := by
 cases v <;> simp [strip, tyV, tyP]
mutual
theorem VR.strip {C : Cfg} {w : World} : ∀ {pl : Option Place} {v : PV} {x : List Value}, VR P C w pl v x → VR P C w none (strip v) x
 | _, _, _, .pu h => .pu h
 | _, _, _, .ptr hl hs => .ptr hl hs
 | _, _, _, .pp h ht hl hx => .pp h ht hl hx
 | _, _, _, .arr hl hc => .arr hl hc
 | _, _, _, .mp hl => .mp hl
 | _, _, _, .nilc => .nilc
 | _, _, _, .xs h => .xs h
 | _, _, _, .ow h _ _ _ _ => .pu h
 | _, _, _, .owx h => .pu h
 | _, _, _, .hd => .hd
 | _, _, _, .flx => .hd
 | _, _, _, .fl _ _ _ _ _ _ => .hd
 | _, _, _, .fn hf hc => .fn hf hc
 | _, _, _, .agg hc h => .agg hc (VRs.strip h)
theorem VRs.strip {C : Cfg} {w : World} : ∀ {pl : Option Place} {i : Nat} {cs : List (Nat × TypeId)} {vs : List PV} {x : List Value}, VRs P C w pl i cs vs x → VRs P C w none i cs (as5 vs) x
 | _, _, _, _, _, .nil => .nil
 | _, _, _, _, _, .cons hp hs ht h => .cons (VR.strip hp) hs ((bm5 _ _).trans ht) (VRs.strip h)
end
theorem P8 (v : PV) : (strip v).isAgg = v.isAgg := by cases v <;> rfl
mutual
theorem VR.any {C : Cfg} {w : World} : ∀ {v : PV} {x : List Value}, VR P C w none v x → ∀ pl, VR P C w pl v x
 | _, _, .pu h, _ => .pu h
 | _, _, .ptr hl hs, _ => .ptr hl hs
 | _, _, .pp h ht hl hx, _ => .pp h ht hl hx
 | _, _, .arr hl hc, _ => .arr hl hc
 | _, _, .mp hl, _ => .mp hl
 | _, _, .nilc, _ => .nilc
 | _, _, .xs h, _ => .xs h
 | _, _, .owx h, _ => .owx h
 | _, _, .hd, _ => .hd
 | _, _, .flx, _ => .flx
 | _, _, .fn hf hc, _ => .fn hf hc
 | _, _, .agg hc h, pl => .agg hc (VRs.any h pl)
theorem VRs.any {C : Cfg} {w : World} : ∀ {i : Nat} {cs : List (Nat × TypeId)} {vs : List PV} {x : List Value}, VRs P C w none i cs vs x → ∀ pl, VRs P C w pl i cs vs x
 | _, _, _, _, .nil, _ => .nil
 | _, _, _, _, .cons hp hs ht h, pl => .cons (VR.any hp _) hs ht (VRs.any h pl)
end
theorem VT.of_none {C : Cfg} {w : World} {i : Nat} {v : PV} {x : Value} (h : VR P C w none v x.cells.toList) (hs : d7 x = v.isAgg) : VT P C w i v x := .one (h.any _) hs
theorem VT.strip {C : Cfg} {w : World} {i : Nat} {v : PV} {x : Value} (h : VT P C w i v x) (hv : ∀ vs, v ≠ .tup vs) : VR P C w none (strip v) x.cells.toList ∧ d7 x = (Hs.strip v).isAgg := by
 cases h with
 | one h hs => exact ⟨h.strip, hs.trans (P8 v).symm⟩
 | tup h => exact (hv _ rfl).elim
def Ob.set : Ob → List Nat → PV → Option Ob
 | .var T v, p, u => (aA1 v p u).map (.var T)
 | .row E vs, i :: r, u => match vs[i]? with
  | some v => match aA1 v r u with
   | some q => some (.row E (vs.set i q))
   | none => none
  | none => none
 | _, _, _ => none
theorem Ob.set_root {ob ob' : Ob} {p : List Nat} {u : PV} (h : ob.set p u = some ob') : ob'.root = ob.root := by
 cases ob with
 | var T v =>
  simp only [Ob.set, Option.map_eq_some_iff] at h
  obtain ⟨q, _, rfl⟩ := h
  rfl
 | row E vs =>
  cases p with
  | nil => simp [Ob.set] at h
  | cons i r =>
   simp only [Ob.set] at h
   split at h
   ·split at h
    ·simp at h; subst h; rfl
    ·simp at h
   ·simp at h
 | map K V es => simp [Ob.set] at h
 | loop r => simp [Ob.set] at h
theorem VR.length_ty (hT : j3 P = true) {C : Cfg} {w : World} {pl : Option Place} {v : PV} {x : List Value} {T : TypeId} {cs : List (Nat × TypeId)} (h : VR P C w pl v x) (ht : tyV P T v = true) (hc : f7 P T = some cs) : x.length = P.cellsOf T := by
 cases h with
 | pu h =>
  cases h with
  | agg hc' h =>
   simp [tyV, tyP, hc] at ht
   obtain rfl := D7 ht hc' hc
   rw [h.length.1, U4 hT hc]
  | _ => simp [tyV, tyP, hc] at ht
 | agg hc' h =>
  simp [tyV, hc] at ht
  obtain rfl := D7 ht hc' hc
  rw [h.length.1, U4 hT hc]
 | _ => simp [tyV, hc] at ht
theorem VR.length_one {C : Cfg} {w : World} {pl : Option Place} {v : PV} {x : List Value} {T : TypeId} (h : VR P C w pl v x) (ht : tyV P T v = true) (hc : f7 P T = none) : ∃ u, x = [u] ∧ d7 u = false ∧ (∀ cs, u ≠ .tuple cs) := by
 cases h with
 | pu h =>
  cases h with
  | agg hc' h => simp [tyV, tyP, hc] at ht
  | leaf hf => exact ⟨_, rfl, by rename_i v; cases v <;> simp_all [am5, d7], by rename_i v; intro cs e; subst e; simp [am5] at hf⟩
  | _ => exact ⟨_, rfl, rfl, by simp⟩
 | agg hc' h => simp [tyV, hc] at ht
 | _ => exact ⟨_, rfl, rfl, by simp⟩
theorem OR.at {C : Cfg} {w : World} {l b : Nat} {ob : Ob} {path : List Nat} {T' : TypeId} {off : Nat} (h : OR P C w l b ob) (hs : M3 P ob.root path = some (T', off)) {u0 : PV} (hg0 : ob.get path = some u0) :
  ∃ u c E pre mid post, w.heap[b]? = some (.cells c E (0, 0)) ∧ c.toList = pre ++ (mid ++ post) ∧ pre.length = off ∧ VR P C w (some (.obj l path)) u mid ∧ ob.get path = some u ∧ tyV P T' u = true ∧
   mid.length = P.cellsOf T' ∧
   ∀ {C' : Cfg} {w' : World} {u' : PV} {mid' : List Value} {c' : Array Value}, Stays C C' w w' ob.labs (fun q => az8 l ob q ∧ ∀ r, q ≠ .obj l (path ++ r)) →
    w'.heap[b]? = some (.cells c' E (0, 0)) → c'.toList = pre ++ (mid' ++ post) → VR P C' w' (some (.obj l path)) u' mid' → mid'.length = mid.length → tyV P T' u' = true →
    ∃ ob', ob.set path u' = some ob' ∧ OR P C' w' l b ob' := by
 cases ob with
 | var T v =>
  obtain ⟨c, E, h1, h2, h3, h4⟩ := h
  obtain ⟨u, pre, mid, post, g1, g2, g3, g4, g5, g6, g7, g8⟩ := VR.at path h2 h3 hs
  have hml : mid.length = P.cellsOf T' := by
   by_cases hp : path = []
   ·subst hp
    simp [Ob.root, M3, P3] at hs
    rw [g7 rfl, ← hs.1, ← h4, Array.length_toList]
   ·exact g6 hp
  refine ⟨u, c, E, pre, mid, post, h1, g2, g3, by simpa using g4, g1, g5, hml, ?_⟩
  intro C' w' u' mid' c' hst hb hc hu hl hty
  obtain ⟨v', e1, e2, e3⟩ := g8 (C' := C') (w' := w') (u' := u') (mid' := mid') (hst.weak (fun _ h => h) fun q hq => ⟨by
   obtain ⟨⟨r, lo, E, ps, rfl, hg⟩, _⟩ := hq
   exact ⟨r, lo, E, ps, by simp, hg⟩, fun r => by simpa using hq.2 r⟩) (by simpa using hu) hl hty
  refine ⟨.var T v', by simp [Ob.set, e1], c', E, hb, by rw [hc]; exact e2, e3, ?_⟩
  rw [← Array.length_toList, hc, ← h4, ← Array.length_toList (xs := c), g2]
  simp [hl]
 | row E vs =>
  obtain ⟨c, y, z, h1, h2, h3⟩ := h
  cases path with
  | nil => simp [Ob.root, M3] at hs
  | cons i r =>
   simp only [Ob.root, M3] at hs
   cases hr : P3 P E r with
   | none => simp [hr] at hs
   | some k =>
    obtain ⟨T1, k⟩ := k
    simp only [hr, Option.some.injEq, Prod.mk.injEq] at hs
    obtain ⟨rfl, rfl⟩ := hs
    cases hv : vs[i]? with
    | none => simp [Ob.get, hv] at hg0
    | some v0 =>
    have hi : i < vs.length := by
     rcases Nat.lt_or_ge i vs.length with h | h
     ·exact h
     ·simp [List.getElem?_eq_none h] at hv
    have hci : (List.replicate vs.length (P.cellsOf E, E))[i]? = some (P.cellsOf E, E) := by simp [hi]
    obtain ⟨u, pre, mid, post, g1, g2, g3, g4, g5, g6, g7⟩ := VRs.at h3 hci
    have hoff : H6 (List.replicate vs.length (P.cellsOf E, E)) i = i * P.cellsOf E := by
     simp only [H6, List.take_replicate, List.map_replicate, List.sum_replicate_nat, Nat.min_eq_left (Nat.le_of_lt hi)]
    rw [hoff] at g3
    have g5' : VR P C w (some (.obj l [i])) u mid := by simpa [Place.sub] using g5
    obtain ⟨u2, pre2, mid2, post2, e1, e2, e3, e4, e5, e6, e7, e8⟩ := VR.at r g5' g6 hr
    have hml : mid2.length = P.cellsOf T1 := by
     by_cases hp : r = []
     ·subst hp
      simp [P3] at hr
      rw [e7 rfl, g4, hr.1]
     ·exact e6 hp
    have hget : (Ob.row E vs).get (i :: r) = some u2 := by simp [Ob.get, g1, e1]
    refine ⟨u2, c, E, pre ++ pre2, mid2, post2 ++ (post ++ z), h1, by rw [h2, g2, e2]; simp, by simp [g3, e3], by simpa using e4, hget, e5, hml, ?_⟩
    intro C' w' u' mid' c' hst hb hc hu hl hty
    have hst' : Stays C C' w w' u.labs (fun q => Keeps (some (.obj l [i])) u q ∧ ∀ r', q ≠ .obj l ([i] ++ r ++ r')) := by
     refine hst.weak (fun l' hm => by simpa [Ob.labs] using G5 g1 hm) (fun q hq => ⟨?_, fun r' => by simpa using hq.2 r'⟩)
     obtain ⟨⟨r1, lo, E1, es, rfl, hg⟩, _⟩ := hq
     exact ⟨i :: r1, lo, E1, es, by simp, by simp [Ob.get, g1, hg]⟩
    obtain ⟨v2, f1, f2, f3⟩ := e8 hst' (by simpa using hu) hl hty
    have hmid : (pre2 ++ (mid' ++ post2)).length = P.cellsOf E := by rw [← g4, e2]; simp [hl]
    have hnew := g7 (C' := C') (w' := w') (u' := v2) (mid' := pre2 ++ (mid' ++ post2)) (fun j v' hne hj => by
     refine hst.weak (fun l' hm => by simpa [Ob.labs] using G5 hj hm) (fun q hq => ?_)
     obtain ⟨r1, lo, E1, es, rfl, hg⟩ := (show ∃ r1 lo E es, q = .obj l ([j] ++ r1) ∧ D9 v' r1 = some (oww lo E es) by simpa [Place.sub, Keeps] using hq)
     refine ⟨⟨j :: r1, lo, E1, es, by simp, by simp [Ob.get, hj, hg]⟩, fun r' he => ?_⟩
     simp at he
     exact hne he.1) (by simpa [Place.sub] using f2) hmid f3
    refine ⟨.row E (vs.set i v2), by simp [Ob.set, g1, f1], c', pre ++ ((pre2 ++ (mid' ++ post2)) ++ post), z, hb, by rw [hc]; simp, ?_⟩
    rw [List.length_set];exact hnew
 | map K V es => cases path <;> simp [Ob.root, M3] at hs
 | loop r => cases path <;> simp [Ob.root, M3] at hs
end
section
variable {P : Program} {lo : Nat}
structure Fresh (st : St) (l : Nat) : Prop where
 env : ∀ i v, get st.env i = some v → l ∉ v.labs
 heap : ∀ l' ob, get st.heap l' = some ob → l' ≠ l → l ∉ ob.labs
def Cfg.at (C : Cfg) (l : Nat) (b : Nat) (R : Root) : Cfg := { C with ρ := fun l' => if l' = l then some (b, R) else C.ρ l' }
theorem alloc_heap_new (w : World) (o : Obj) : (w.alloc o).heap[w.heap.size]? = some o := by
 show (w.heap.push o)[w.heap.size]? = _
 simp
theorem P1 (w : World) (o : Obj) : (w.alloc o).heap.size = w.heap.size + 1 := by
 show (w.heap.push o).size = _
 simp
theorem SatC.new {X : Ctx} {C : Cfg} {st : St} {a : Act} {w : World} (h : SatC P X C st a w) {l : Nat} (hf : Fresh st l) (hL : l ∉ X.L) {ob : Ob} {o : Obj}
  (hob : OR P (C.at l w.heap.size ob.root) (w.alloc o) l w.heap.size ob) : SatC P X (C.at l w.heap.size ob.root) { st with heap := (l, ob) :: st.heap } a (w.alloc o) := by
 have g := Grew.alloc w o
 have stays : ∀ (ls : List Nat) keep, l ∉ ls → Stays C (C.at l w.heap.size ob.root) w (w.alloc o) ls keep := fun ls keep hn =>
  ⟨fun b o hb => ⟨hb, g.cell (h.dLt b o hb)⟩, fun l' hl' => by
   have : l' ≠ l := fun e => hn (e ▸ hl')
   simp [Cfg.at, this], fun b q k hb _ => ⟨hb, g.block b (h.own b q k hb).2.1⟩, g.ty⟩
 refine ⟨h.size, h.defers.mono fun D _ hD ho => ⟨g.block D (C8 hD), ho⟩, h.framed.grew g, fun i v hv => ?_, fun l' ob' hl => ?_, fun l1 l2 b R R' o1 o2 h1 h2 e1 e2 => ?_, fun l' ob' b R o' hl hρ hD => ?_, fun b o hD => ?_, fun b q k hb => ?_, h.gl.mono (stays _ _ (by simp)), ⟨fun l' hl' => by
  have : l' ≠ l := fun e => hL (e ▸ hl')
  simpa [Cfg.at, this] using h.kin.rho l' hl', h.kin.dOld, h.kin.dNew⟩, fun b o hD => (g.cell (h.dLt b o (h.kin.dOld b o hD))).trans (h.keep b o hD)⟩
 ·obtain ⟨x, h1, h2⟩ := h.env i v hv
  exact ⟨x, h1, h2.mono (stays _ _ (hf.env i v hv))⟩
 ·rw [f8] at hl
  split at hl
  ·rename_i e
   simp at hl
   subst e hl;exact ⟨w.heap.size, by simp [Cfg.at], .inr (.inl h.framed.size), hob⟩
  ·rename_i e
   obtain ⟨b, h1, h2, h3⟩ := h.heap l' ob' hl
   exact ⟨b, by simp [Cfg.at, e, h1], h2, h3.mono (stays _ _ (hf.heap l' ob' hl e)) (g.block b h3.lt)⟩
 ·have blk : ∀ l' ob' b R, get st.heap l' = some ob' → C.ρ l' = some (b, R) → b < w.heap.size := fun l' ob' b R hl he => by
   obtain ⟨b', h1, _, h3⟩ := h.heap l' ob' hl
   rw [h1] at he
   simp at he
   exact he.1 ▸ h3.lt
  rw [f8] at h1 h2
  simp only [Cfg.at] at e1 e2
  by_cases c1 : l1 = l <;> by_cases c2 : l2 = l
  ·rw [c1, c2]
  ·simp [c1, c2] at e1 e2 h2
   have := blk _ _ _ _ h2 e2
   omega
  ·simp [c1, c2] at e1 e2 h1
   have := blk _ _ _ _ h1 e1
   omega
  ·simp [c1, c2] at e1 e2 h1 h2
   exact h.inj l1 l2 b R R' o1 o2 h1 h2 e1 e2
 ·rw [f8] at hl
  by_cases c : l' = l
  ·simp [Cfg.at, c] at hρ
   have := h.dLt b o' hD
   omega
  ·simp [c] at hl
   simp [Cfg.at, c] at hρ
   exact h.dObj l' ob' b R o' hl hρ hD
 ·have := h.dLt b o hD
  rw [P1]
  omega
 ·obtain ⟨h1, h2, h3, h4⟩ := h.own b q k hb
  refine ⟨h1, by rw [P1]; omega, h3, fun l' ob' R hl hρ => ?_⟩
  rw [f8] at hl
  by_cases c : l' = l
  ·simp [Cfg.at, c] at hρ
   omega
  ·simp [c] at hl
   simp [Cfg.at, c] at hρ
   exact h4 l' ob' R hl hρ
def Cfg.give (C : Cfg) (b : Nat) (q : Place) (k : Nat) : Cfg := { C with own := fun b' => if b' = b then some (q, k) else C.own b' }
structure ButBlock (b : Nat) (w w' : World) : Prop where
 os : w'.os = w.os
 tape : w'.tape = w.tape
 output : w'.output = w.output
 size : w'.heap.size = w.heap.size
 block : ∀ b', b' ≠ b → w'.heap[b']? = w.heap[b']?
 ty : TyKeep w w'
theorem ButBlock.cell {b : Nat} {w w' : World} (h : ButBlock b w w') {b' o : Nat} (hb : b' ≠ b) : w'.cell? ⟨b', o, none⟩ = w.cell? ⟨b', o, none⟩ := by
 simp only [World.cell?, h.block b' hb]
theorem Framed.but {X : Ctx} {w w' : World} {b : Nat} (h : Framed X w) (g : ButBlock b w w') (hb : X.w0.heap.size ≤ b ∨ X.M b) : Framed X w' :=
 ⟨g.os.trans h.os, g.tape.trans h.tape, g.output.trans h.output, by rw [g.size]; exact h.size, fun b' hb' hm => by
  have : b' ≠ b := fun e => by
   subst e
   rcases hb with hb | hb
   ·omega
   ·exact hm hb
  exact (g.block b' this).trans (h.block b' hb' hm), h.ty.trans g.ty⟩
theorem SatC.write {X : Ctx} {C C' : Cfg} {st : St} {a : Act} {w w' : World} (h : SatC P X C st a w) {l b : Nat} {ob ob' : Ob} (hl : get st.heap l = some ob) (hR : l ∉ X.R) (hb : C.ρ l = some (b, ob.root)) (hr : ob'.root = ob.root)
  (g : ButBlock b w w') (env' : List (Nat × PV)) (hD : C'.D = C.D) (hρ : C'.ρ = C.ρ)
  (hown : ∀ b1 q k, C'.own b1 = some (q, k) → ∃ q', C.own b1 = some (q', k))
  (henv : ∀ i v, get env' i = some v → ∃ x, a.tmps[i]? = some x ∧ VT P C' w' i v x)
  (hheap : ∀ l' ob1, l' ≠ l → get st.heap l' = some ob1 → Stays C C' w w' ob1.labs (az8 l' ob1))
  (hob : OR P C' w' l b ob') (hgl : Stays C C' w w' [] (fun _ => False)) : SatC P X C' ⟨env', (l, ob') :: st.heap⟩ a w' := by
 obtain ⟨b0, e0, hN0, hor⟩ := h.heap l ob hl
 have hN := hN0.resolve_left hR
 obtain rfl : b0 = b := by rw [e0] at hb; simpa using hb
 have hdf : DefOk X C' w' a.defers := h.defers.mono fun D _ hD ho => ⟨g.block D fun e => by subst e; exact hor.noDef hD, by
  cases hc : C'.own D with
  | none => rfl
  | some q => obtain ⟨q', hq⟩ := hown D q.1 q.2 hc; rw [ho] at hq; cases hq⟩
 refine ⟨h.size, hdf, h.framed.but g hN, henv, fun l' ob1 hl' => ?_, fun l1 l2 b R R' o1 o2 h1 h2 e1 e2 => ?_, fun l' ob1 b R o' hl' hρ' hD' => ?_, fun b o hD' => ?_, fun b1 q k hb1 => ?_, h.gl.mono hgl, ⟨fun l' hl' => by rw [hρ]; exact h.kin.rho l' hl', fun b o hD' => by rw [hD]; exact h.kin.dOld b o hD', fun b o hD' => h.kin.dNew b o (by rw [hD] at hD'; exact hD')⟩, fun b o hD0 => (hgl.D b o (h.kin.dOld b o hD0)).2.trans (h.keep b o hD0)⟩
 ·rw [f8] at hl'
  split at hl'
  ·rename_i e
   simp at hl'
   subst e hl';exact ⟨b0, by rw [hρ, hr]; exact hb, .inr hN, hob⟩
  ·rename_i e
   obtain ⟨b1, h1, h2, h3⟩ := h.heap l' ob1 hl'
   have hne : b1 ≠ b0 := fun e' => by
    subst e';exact e (h.inj l' l b1 _ _ _ _ hl' hl h1 hb)
   exact ⟨b1, by rw [hρ]; exact h1, h2, h3.mono (hheap l' ob1 e hl') (g.block b1 hne)⟩
 ·rw [hρ] at e1 e2
  rw [f8] at h1 h2
  by_cases c1 : l1 = l <;> by_cases c2 : l2 = l
  ·rw [c1, c2]
  ·simp [c2] at h2
   subst c1;exact h.inj l1 l2 b R R' _ _ hl h2 e1 e2
  ·simp [c1] at h1
   subst c2;exact h.inj l1 l2 b R R' _ _ h1 hl e1 e2
  ·simp [c1, c2] at h1 h2
   exact h.inj l1 l2 b R R' _ _ h1 h2 e1 e2
 ·rw [hρ] at hρ'
  rw [hD] at hD'
  rw [f8] at hl'
  by_cases c : l' = l
  ·subst c
   exact h.dObj l' ob b R o' hl hρ' hD'
  ·simp [c] at hl'
   exact h.dObj l' ob1 b R o' hl' hρ' hD'
 ·rw [hD] at hD'
  rw [g.size];exact h.dLt b o hD'
 ·obtain ⟨q', hq'⟩ := hown b1 q k hb1
  obtain ⟨h1, h2, h3, h4⟩ := h.own b1 q' k hq'
  refine ⟨h1, by rw [g.size]; exact h2, fun o ho => h3 o (by rw [hD] at ho; exact ho), fun l' ob1 R hl' => ?_⟩
  rw [hρ]
  rw [f8] at hl'
  by_cases c : l' = l
  ·subst c
   exact h4 l' ob R hl
  ·simp [c] at hl'
   exact h4 l' ob1 R hl'
theorem SatC.staysBut {X : Ctx} {C : Cfg} {st : St} {a : Act} {w w' : World} (h : SatC P X C st a w) {l b : Nat} {ob : Ob} (hl : get st.heap l = some ob) (hb : C.ρ l = some (b, ob.root))
  (g : ButBlock b w w') (ls : List Nat) (keep : Place → Prop) : Stays C C w w' ls keep :=
 ⟨fun b1 o hD => ⟨hD, g.cell fun e => by subst e; exact h.dObj l ob b1 _ o hl hb hD⟩, fun _ _ => rfl, fun b1 q k hb1 _ => ⟨hb1, g.block b1 fun e => by
  subst e
  exact (h.own b1 q k hb1).2.2.2 l ob _ hl hb⟩, g.ty⟩
theorem SatC.store {X : Ctx} {C : Cfg} {st : St} {a : Act} {w w' : World} (h : SatC P X C st a w) {l b : Nat} {ob : Ob} (hl : get st.heap l = some ob) (hR : l ∉ X.R) (hb : C.ρ l = some (b, ob.root))
  {path : List Nat} {T : TypeId} {off : Nat} (hs : M3 P ob.root path = some (T, off)) {u0 : PV} (hg : ob.get path = some u0) {u : PV} {x : List Value} (hu : VR P C w none u x) (hx : x.length = P.cellsOf T) (ht : tyV P T u = true)
  (g : ButBlock b w w') (hw : ∀ (c : Array Value) E, w.heap[b]? = some (.cells c E (0, 0)) → ∃ c' : Array Value, w'.heap[b]? = some (.cells c' E (0, 0)) ∧
   ∀ pre mid post, c.toList = pre ++ (mid ++ post) → pre.length = off → mid.length = x.length → c'.toList = pre ++ (x ++ post)) :
  ∃ ob', ob.set path u = some ob' ∧ SatC P X C ⟨st.env, (l, ob') :: st.heap⟩ a w' := by
 obtain ⟨b0, e0, hN, hor⟩ := h.heap l ob hl
 obtain rfl : b0 = b := by rw [e0] at hb; simpa using hb
 obtain ⟨u1, c, E, pre, mid, post, g1, g2, g3, g4, g5, g6, g7, g8⟩ := OR.at hor hs hg
 obtain ⟨c', k1, k2⟩ := hw c E g1
 have st1 := h.staysBut hl hb g
 obtain ⟨ob', f1, f2⟩ := g8 (C' := C) (w' := w') (u' := u) (mid' := x) (c' := c') (st1 _ _) k1 (k2 pre mid post g2 g3 (by rw [g7, hx])) ((hu.mono (st1 _ _)).any _) (by rw [hx, g7]) ht
 refine ⟨ob', f1, h.write hl hR hb (Ob.set_root f1) g st.env rfl rfl (fun _ q _ hq => ⟨q, hq⟩) (fun i v hv => ?_) (fun l' ob1 _ _ => st1 _ _) f2 (st1 _ _)⟩
 obtain ⟨y, h1, h2⟩ := h.env i v hv
 exact ⟨y, h1, h2.mono (st1 _ _)⟩
theorem SatC.say {X : Ctx} {C : Cfg} {st : St} {a : Act} {w : World} (h : SatC P X C st a w) {s : Nat} {v : PV} {x : Value} (hx : a.tmps[s]? = some x) (hv : VT P C w s v x) : SatC P X C ⟨(s, v) :: st.env, st.heap⟩ a w :=
 ⟨h.size, h.defers, h.framed, fun i u hu => by
   rw [f8] at hu
   split at hu
   ·rename_i e
    subst e
    simp at hu
    subst hu;exact ⟨x, hx, hv⟩
   ·exact h.env i u hu, h.heap, h.inj, h.dObj, h.dLt, h.own, h.gl, h.kin, h.keep⟩
theorem SatC.storeOw {X : Ctx} {C : Cfg} {st : St} {a : Act} {w w' : World} (h : SatC P X C st a w) {l b : Nat} {ob : Ob} (hl : get st.heap l = some ob) (hR : l ∉ X.R) (hb : C.ρ l = some (b, ob.root))
  {path : List Nat} {T : TypeId} {off : Nat} (hs : M3 P ob.root path = some (T, off)) {u0 : PV} (hg : ob.get path = some u0) {s : Nat} {E1 : TypeId} {ps : List Pu} (hss : get st.env s = some (.ow lo E1 ps)) {y : Value} (hy : a.tmps[s]? = some y)
  (hx : P.cellsOf T = 1) (ht : (f7 P T).isNone = true)
  (g : ButBlock b w w') (hw : ∀ (c : Array Value) E, w.heap[b]? = some (.cells c E (0, 0)) → ∃ c' : Array Value, w'.heap[b]? = some (.cells c' E (0, 0)) ∧
   ∀ pre mid post, c.toList = pre ++ (mid ++ post) → pre.length = off → mid.length = 1 → c'.toList = pre ++ ([y] ++ post)) :
  ∃ ob' C', ob.set path (.ow lo E1 ps) = some ob' ∧ SatC P X C' ⟨(s, .pu (.sl lo E1 ps)) :: st.env, (l, ob') :: st.heap⟩ a w' ∧ C'.ρ = C.ρ := by
 obtain ⟨b0, e0, hN, hor⟩ := h.heap l ob hl
 obtain rfl : b0 = b := by rw [e0] at hb; simpa using hb
 obtain ⟨u1, c, E, pre, mid, post, g1, g2, g3, g4, g5, g6, g7, g8⟩ := OR.at hor hs hg
 obtain ⟨c', k1, k2⟩ := hw c E g1
 obtain ⟨y', hy', hvt⟩ := h.env s _ hss
 obtain rfl : y' = y := by rw [hy] at hy'; exact (Option.some.inj hy').symm
 cases hvt with
 | one hv hsh =>
 have hcell : y'.cells.toList = [y'] := by
  cases y' <;> simp_all [d7, PV.isAgg, Value.cells]
 rw [hcell] at hv
 generalize hz : [y'] = z at hv
 cases hv with
 | @owx _ _ _ _ a1 hpr =>
  simp at hz
  subst hz
  have h2 := h.say hy (VT.one (.pu hpr) rfl)
  obtain ⟨ob', e1, e2⟩ := SatC.store (st := ⟨(s, .pu (.sl lo E1 ps)) :: st.env, st.heap⟩) h2 hl hR hb hs hg (u := .ow lo E1 ps) (x := [.slice a1 ps.length ps.length]) (.owx hpr) (by rw [hx]; rfl) (by simpa [tyV] using ht) g
   (fun c E hc => let ⟨c', k1, k2⟩ := hw c E hc; ⟨c', k1, k2⟩)
  exact ⟨ob', C, e1, e2, rfl⟩
 | @ow _ _ _ _ b1 cap c1 hpr ho hb1 hc1 hl1 =>
 simp at hz
 subst hz
 have hne : b1 ≠ b0 := fun e => by subst e; exact (h.own _ _ _ ho).2.2.2 l ob _ hl hb
 let C' : Cfg := C.give b1 (.obj l path) (ps.length * P.cellsOf E1)
 have st0 := h.staysBut hl hb g
 have st1 : ∀ (ls : List Nat) (keep : Place → Prop), (∀ q, keep q → q ≠ .slot s) → Stays C C' w w' ls keep := fun ls keep hk => by
  refine ⟨(st0 [] (fun _ => False)).D, fun _ _ => rfl, fun b2 q k hb2 hq => ?_, g.ty⟩
  have : b2 ≠ b1 := fun e => by
   subst e
   rw [ho] at hb2
   simp at hb2
   exact hk q hq hb2.1.symm
  exact ⟨by simp [C', Cfg.give, this, hb2], ((st0 [] (fun _ => True)).own b2 q k hb2 trivial).2⟩
 have hpr' : PR P C'.D w' (.sl lo E1 ps) [.slice (some ⟨b1, 0, none⟩) ps.length cap] := PR.mono (st0 [] (fun _ => False)).D g.ty hpr
 have hnew : VR P C' w' (some (.obj l path)) (.ow lo E1 ps) [.slice (some ⟨b1, 0, none⟩) ps.length cap] :=
  .ow hpr' (by simp [C', Cfg.give]) ((g.block b1 hne).trans hb1) hc1 hl1
 obtain ⟨ob', f1, f2⟩ := g8 (C' := C') (w' := w') (u' := .ow lo E1 ps) (mid' := [.slice (some ⟨b1, 0, none⟩) ps.length cap]) (c' := c')
  (st1 _ _ fun q hq e => by obtain ⟨⟨r, lo, E, es, rfl, _⟩, _⟩ := hq; cases e) k1 (k2 pre mid post g2 g3 (by rw [g7, hx])) hnew (by rw [g7, hx]; rfl) (by simpa [tyV] using ht)
 refine ⟨ob', C', f1, h.write hl hR hb (Ob.set_root f1) g _ rfl rfl (fun b2 q k hq => ?_) (fun i v hv => ?_) (fun l' ob1 _ _ => st1 _ _ fun q hq e => by obtain ⟨r, lo, E, es, rfl, _⟩ := hq; cases e) f2 (st1 _ _ fun q hq => hq.elim), rfl⟩
 ·by_cases hb2 : b2 = b1
  ·subst hb2
   simp [C', Cfg.give] at hq
   exact ⟨.slot s, by rw [ho]; simp [hq.2]⟩
  ·exact ⟨q, by simpa [C', Cfg.give, hb2] using hq⟩
 ·rw [f8] at hv
  split at hv
  ·rename_i e
   subst e
   simp at hv
   subst hv;exact ⟨_, hy, .one (.pu hpr') rfl⟩
  ·rename_i e
   obtain ⟨z, h1, h2⟩ := h.env i v hv
   refine ⟨z, h1, h2.mono (st1 _ _ fun q hq e' => ?_)⟩
   subst e'
   simp [Keeps] at hq
   exact e hq.1.symm
theorem SatC.moveOw {X : Ctx} {C : Cfg} {st : St} {a : Act} {w : World} (h : SatC P X C st a w) {s d : Nat} {E1 : TypeId} {ps : List Pu} (hss : get st.env s = some (.ow lo E1 ps)) {y : Value} (hy : a.tmps[s]? = some y) (hd : d < X.n) (hsd : s ≠ d) :
  ∃ C', SatC P X C' ⟨(d, .ow lo E1 ps) :: (s, .pu (.sl lo E1 ps)) :: st.env, st.heap⟩ (a.put (some d) y) w ∧ C'.ρ = C.ρ := by
 obtain ⟨y', hy', hvt⟩ := h.env s _ hss
 obtain rfl : y' = y := by rw [hy] at hy'; exact (Option.some.inj hy').symm
 cases hvt with
 | one hv hsh =>
 have hcell : y'.cells.toList = [y'] := by
  cases y' <;> simp_all [d7, PV.isAgg, Value.cells]
 rw [hcell] at hv
 generalize hz : [y'] = z at hv
 cases hv with
 | @owx _ _ _ _ a1 hpr =>
  simp at hz
  subst hz
  have h2 := h.say hy (VT.one (.pu hpr) rfl)
  exact ⟨C, h2.put hd (.one (.owx hpr) rfl), rfl⟩
 | @ow _ _ _ _ b1 cap c1 hpr ho hb1 hc1 hl1 =>
 simp at hz
 subst hz
 let C' : Cfg := C.give b1 (.slot d) (ps.length * P.cellsOf E1)
 have st1 : ∀ (ls : List Nat) (keep : Place → Prop), (∀ q, keep q → q ≠ .slot s) → Stays C C' w w ls keep := fun ls keep hk => by
  refine ⟨fun b o hD => ⟨hD, rfl⟩, fun _ _ => rfl, fun b2 q k hb2 hq => ?_, TyKeep.refl w⟩
  have : b2 ≠ b1 := fun e => by
   subst e
   rw [ho] at hb2
   simp at hb2
   exact hk q hq hb2.1.symm
  exact ⟨by simp [C', Cfg.give, this, hb2], rfl⟩
 have h' : SatC P X C' ⟨(s, .pu (.sl lo E1 ps)) :: st.env, st.heap⟩ a w := by
  have hdf : DefOk X C' w a.defers := h.defers.mono fun D _ hD ho' => ⟨rfl, by
   have : D ≠ b1 := fun e => by subst e; rw [ho] at ho'; cases ho'
   simp [C', Cfg.give, this, ho']⟩
  refine ⟨h.size, hdf, h.framed, fun i v hv => ?_, fun l' ob1 hl' => ?_, h.inj, h.dObj, h.dLt, fun b2 q k hb2 => ?_, h.gl.mono (st1 _ _ fun q hq => hq.elim), ⟨h.kin.rho, h.kin.dOld, h.kin.dNew⟩, h.keep⟩
  ·rw [f8] at hv
   split at hv
   ·rename_i e
    subst e
    simp at hv
    subst hv;exact ⟨_, hy, .one (.pu hpr) rfl⟩
   ·rename_i e
    obtain ⟨z, h1, h2⟩ := h.env i v hv
    refine ⟨z, h1, h2.mono (st1 _ _ fun q hq e' => ?_)⟩
    subst e'
    simp [Keeps] at hq
    exact e hq.1.symm
  ·obtain ⟨b, e1, e2, e3⟩ := h.heap l' ob1 hl'
   exact ⟨b, e1, e2, e3.mono (st1 _ _ fun q hq e => by obtain ⟨r, lo, E, es, rfl, _⟩ := hq; cases e) rfl⟩
  ·by_cases hb : b2 = b1
   ·subst hb
    simp [C', Cfg.give] at hb2
    obtain ⟨_, rfl⟩ := hb2
    exact h.own b2 _ _ ho
   ·exact h.own b2 q k (by simpa [C', Cfg.give, hb] using hb2)
 exact ⟨C', h'.put hd (.one (.ow hpr (by simp [C', Cfg.give]) hb1 hc1 hl1) rfl), rfl⟩
end
section
variable {P : Program} {lo lo' : Nat}
mutual
theorem PR.one {D : Nat → Nat → Prop} {w : World} : ∀ {p : Pu} {x : List Value}, PR P D w p x → ∀ u ∈ x, u.oneCell' = true
 | _, _, .leaf (v := v) h, u, hu => by
  simp at hu
  subst hu
  cases u <;> simp_all [am5, Value.oneCell']
 | _, _, .agg _ h, u, hu => PRs.one h u hu
 | _, _, .sl0, u, hu => by simp at hu; subst hu; rfl
 | _, _, .sl _ _ _ _ _, u, hu => by simp at hu; subst hu; rfl
theorem PRs.one {D : Nat → Nat → Prop} {w : World} : ∀ {cs : List (Nat × TypeId)} {ps : List Pu} {x : List Value}, PRs P D w cs ps x → ∀ u ∈ x, u.oneCell' = true
 | _, _, _, .nil, u, hu => by simp at hu
 | _, _, _, .cons hp _ _ h, u, hu => by
  rcases List.mem_append.1 hu with h1 | h1
  ·exact PR.one hp u h1
  ·exact PRs.one h u h1
end
mutual
theorem VR.one {C : Cfg} {w : World} : ∀ {pl : Option Place} {v : PV} {x : List Value}, VR P C w pl v x → ∀ u ∈ x, u.oneCell' = true
 | _, _, _, .pu h, u, hu => h.one u hu
 | _, _, _, .ptr _ _, u, hu => by simp at hu; subst hu; rfl
 | _, _, _, .pp _ _ _ _, u, hu => by simp at hu; subst hu; rfl
 | _, _, _, .arr _ _, u, hu => by simp at hu; subst hu; rfl
 | _, _, _, .mp _, u, hu => by simp at hu; subst hu; rfl
 | _, _, _, .nilc, u, hu => by simp at hu; subst hu; rfl
 | _, _, _, .xs _, u, hu => by simp at hu; subst hu; rfl
 | _, _, _, .owx _, u, hu => by simp at hu; subst hu; rfl
 | _, _, _, .ow lo _ _ _ _, u, hu => by simp at hu; subst hu; rfl
 | _, _, _, .hd, u, hu => by simp at hu; subst hu; rfl
 | _, _, _, .flx, u, hu => by simp at hu; subst hu; rfl
 | _, _, _, .fl _ _ _ _ _ _, u, hu => by simp at hu; subst hu; rfl
 | _, _, _, .fn _ _, u, hu => by simp at hu; subst hu; rfl
 | _, _, _, .agg _ h, u, hu => VRs.one h u hu
theorem VRs.one {C : Cfg} {w : World} : ∀ {pl : Option Place} {i : Nat} {cs : List (Nat × TypeId)} {vs : List PV} {x : List Value}, VRs P C w pl i cs vs x → ∀ u ∈ x, u.oneCell' = true
 | _, _, _, _, _, .nil, u, hu => by simp at hu
 | _, _, _, _, _, .cons hp _ _ h, u, hu => by
  rcases List.mem_append.1 hu with h1 | h1
  ·exact VR.one hp u h1
  ·exact VRs.one h u h1
end
theorem PRs.append {D : Nat → Nat → Prop} {w : World} : ∀ {cs cs' : List (Nat × TypeId)} {ps ps' : List Pu} {x x' : List Value}, PRs P D w cs ps x → PRs P D w cs' ps' x' → PRs P D w (cs ++ cs') (ps ++ ps') (x ++ x')
 | _, _, _, _, _, _, .nil, k => k
 | _, _, _, _, _, _, .cons (x := x) (y := y) hp hs ht h, k => by
  simp only [List.cons_append, List.append_assoc]
  exact .cons hp hs ht (PRs.append h k)
theorem PR.cells {D : Nat → Nat → Prop} {w : World} {E : TypeId} {ps : List Pu} {a : Option Addr} {n cap : Nat} (h : PR P D w (.sl lo E ps) [.slice a n cap]) :
  n = ps.length ∧ ∃ x, PRs P D w (List.replicate ps.length (P.cellsOf E, E)) ps x ∧ x.length = n * P.cellsOf E ∧
   (ps ≠ [] → ∃ b o, a = some ⟨b, o, none⟩ ∧ n ≤ cap ∧ ∀ j v, x[j]? = some v → w.cell? ((⟨b, o, none⟩ : Addr).add j) = some v ∧ D b (o + j)) := by
 cases h with
 | sl0 => exact ⟨rfl, [], .nil, by simp, by simp⟩
 | @sl _ _ _ b o _ x hn hcap h hx _ =>
  refine ⟨rfl, x, h, ?_, fun _ => ⟨b, o, rfl, hcap, fun j v hj => ?_⟩⟩
  ·rw [h.length.1]; simp
  ·have : (⟨b, o, none⟩ : Addr).add j = ⟨b, o + j, none⟩ := by unfold Addr.add; split <;> simp_all
   rw [this];exact hx j v hj
theorem W7 (w : World) (t u ty e e' : TypeId) (i : TypeInfo) (ht : P.underlying t = some (.slice e)) (hu : P.underlying u = some (.slice e')) (hi : P.info? e = some i) (base a : Option Addr) (n cap c : Nat) (hn : n ≤ cap) :
  (Builtin.append_ #[t, u] ty #[.slice base n cap, .slice a 0 c]).run P w = .ok (.slice base n cap) w := by
 have hf : (Builtin.firstCells i.size 0 (.slice a 0 c)).run P w = .ok #[] w := by
  cases a with
  | none => simp [Builtin.firstCells]
  | some a => simp [Builtin.firstCells, loadCells, loadCellsFrom]
 cases base with
 | none => simp [Builtin.append_, run_underlying ht, run_underlying hu, Go.sizeOf, typeInfo, hi, Builtin.lenOf, hn, hf]
 | some b => simp [Builtin.append_, run_underlying ht, run_underlying hu, Go.sizeOf, typeInfo, hi, Builtin.lenOf, hn, hf, storeCells]
structure ElemOk (P : Program) (t E : TypeId) : Prop where
 slice : P.underlying t = some (.slice E)
 bytes : P.bytesOf E ≠ 0
 zero : ∃ i z, P.info? E = some i ∧ i.zero = some z ∧ z.cells.size = i.size
theorem E8 {E : TypeId} {i : TypeInfo} (h : P.info? E = some i) : P.cellsOf E = i.size := by simp [Program.cellsOf, h]
theorem G7 {E : TypeId} {i : TypeInfo} (h : P.info? E = some i) : P.bytesOf E = i.bytes := by simp [Program.bytesOf, h]
theorem B5 (w : World) (o : Obj) : Grew w (w.drew.alloc o) := (Grew.drew w).trans (Grew.alloc w.drew o)
def Cfg.more (C : Cfg) (b : Nat) (q : Place) (k : Nat) : Cfg := { D := fun b' o => C.D b' o ∨ (b' = b ∧ o < k), ρ := C.ρ, own := fun b' => if b' = b then some (q, k) else C.own b' }
theorem aC6 {C : Cfg} {w w' : World} {q : Place} {k : Nat} (hs : w'.heap.size = w.heap.size + 1) (hown : ∀ b q k, C.own b = some (q, k) → b < w.heap.size) (hD : ∀ b o, C.D b o → b < w.heap.size) : CGrew C (C.more w.heap.size q k) w w' where
 D b o h := .inl h
 Dnew b o h := by
  rcases h with h | ⟨rfl, _⟩
  ·exact .inl h
  ·exact .inr ⟨Nat.le_refl _, by omega⟩
 ρ := rfl
 own b h := by simp [Cfg.more]; omega
 ownNew b q' k' h hge := by
  by_cases e : b = w.heap.size
  ·subst e
   simp [Cfg.more] at h
   obtain ⟨_, rfl⟩ := h
   refine ⟨by omega, fun o ho => ?_⟩
   rcases ho with ho | ⟨_, ho⟩
   ·have := hD _ _ ho; omega
   ·exact ho
  ·simp [Cfg.more, e] at h
   have := hown _ _ _ h
   omega
theorem m8 {w : World} {b j : Nat} {c : Array Value} {E : TypeId} {fz : Nat × Nat} (h : w.heap[b]? = some (.cells c E fz)) : w.cell? ⟨b, j, none⟩ = c[j]? := by
 simp [World.cell?, h]
theorem W2 {X : Ctx} {C : Cfg} {st : St} {a : Act} {w : World} (h : SatC P X C st a w) {t ty E : TypeId} (he : ElemOk P t E) {ps ys : List Pu} {a0 a1 : Option Addr} {n0 n1 c1 : Nat} (d : Nat)
  (hp : PR P C.D w (.sl lo E ps) [.slice a0 n0 n0]) (hy : PR P C.D w (.sl lo' E ys) [.slice a1 n1 c1]) (hlo : lo ≤ X.w0.heap.size) (hfit : (ps.length + ys.length) * P.bytesOf E ≤ 70368744177664) :
  ∃ x w' C', (Builtin.append_ #[t, t] ty #[.slice a0 n0 n0, .slice a1 n1 c1]).run P w = .ok x w' ∧ Grew w w' ∧ CGrew C C' w w' ∧ VR P C' w' (some (.slot d)) (.ow lo E (ps ++ ys)) [x] := by
 obtain ⟨i, z, hi, hz, hzs⟩ := he.zero
 obtain ⟨rfl, px, p1, p2, p3⟩ := hp.cells
 obtain ⟨rfl, yx, y1, y2, y3⟩ := hy.cells
 have hsz := E8 hi
 have hbs := G7 hi
 have hb0 : 1 ≤ P.bytesOf E := Nat.one_le_iff_ne_zero.2 he.bytes
 by_cases hys : ys = []
 ·subst hys
  refine ⟨.slice a0 ps.length ps.length, w, C, W7 w t t ty E E i he.slice he.slice hi a0 a1 _ _ c1 (Nat.le_refl _), Grew.refl w, CGrew.refl C w w (fun b q k hb hge => ?_), by rw [List.append_nil]; exact .owx hp⟩
  have := (h.own b q k hb).2.1
  omega
 ·obtain ⟨b1, o1, rfl, hc1, y3⟩ := y3 hys
  have hpos : 0 < ys.length := List.length_pos_iff.2 hys
  have hlen : ps.length + ys.length ≤ 70368744177664 := Nat.le_trans (Nat.le_mul_of_pos_right _ hb0) hfit
  have hfits : Builtin.nextslicecap (ps.length + ys.length) ps.length * i.bytes ≤ 281474976710656 := growslice_fits (by omega) (by rw [← hbs]; omega)
  have hown : ∀ b q k, C.own b = some (q, k) → b < w.heap.size := fun b q k hb => (h.own b q k hb).2.1
  have hnews : ∀ j v, yx[j]? = some v → w.cell? ((⟨b1, o1, none⟩ : Addr).add j) = some v := fun j v hj => (y3 j v hj).1
  have key : ∃ cap, ps.length + ys.length ≤ cap ∧ (Builtin.append_ #[t, t] ty #[.slice a0 ps.length ps.length, .slice (some ⟨b1, o1, none⟩) ys.length c1]).run P w =
    .ok (.slice (some ⟨w.heap.size, 0, none⟩) (ps.length + ys.length) cap) (w.drew.alloc (.cells (px.toArray ++ yx.toArray ++ Builtin.zeroCells z.cells (cap - (ps.length + ys.length))) E)) := by
   refine ⟨grownCap w (ps.length + ys.length) ps.length E, grownCap_ge _ _ _ _, ?_⟩
   by_cases hps : ps = []
   ·subst hps
    have hpx : px = [] := by cases p1; rfl
    subst hpx
    cases a0 with
    | none =>
     have := run_append_nil (P := P) w t ty E i z he.slice hi hz ⟨b1, o1, none⟩ ys.length c1 yx (by rw [y2, hsz]) hnews hpos (by simp at hlen; omega) (by simp at hfit; rw [← hbs]; omega)
     simpa using this
    | some b0 =>
     have := run_append_grow (P := P) w t ty E i z he.slice hi hz b0 0 0 [] (by simp) (by simp) ⟨b1, o1, none⟩ ys.length c1 yx (by rw [y2, hsz]) hnews (by omega) (by simp at hlen; simp; omega) (by simpa using hfits)
     simpa using this
   ·obtain ⟨b0, o0, rfl, _, p3⟩ := p3 hps
    exact run_append_grow (P := P) w t ty E i z he.slice hi hz ⟨b0, o0, none⟩ ps.length ps.length px (by rw [p2, hsz]) (fun j v hj => (p3 j v hj).1) ⟨b1, o1, none⟩ ys.length c1 yx (by rw [y2, hsz]) hnews (by omega) (by push_cast; omega) hfits
  obtain ⟨cap, hcap, hrun⟩ := key
  refine ⟨_, _, C.more w.heap.size (.slot d) ((ps.length + ys.length) * P.cellsOf E), hrun, B5 w _, aC6 (by rw [P1]; rfl) hown h.dLt, ?_⟩
  have hg := B5 w (.cells (px.toArray ++ yx.toArray ++ Builtin.zeroCells z.cells (cap - (ps.length + ys.length))) E)
  have hblk := alloc_heap_new w.drew (.cells (px.toArray ++ yx.toArray ++ Builtin.zeroCells z.cells (cap - (ps.length + ys.length))) E)
  have hmono : ∀ b o, C.D b o → (C.more w.heap.size (.slot d) ((ps.length + ys.length) * P.cellsOf E)).D b o ∧ (w.drew.alloc (.cells (px.toArray ++ yx.toArray ++ Builtin.zeroCells z.cells (cap - (ps.length + ys.length))) E)).cell? ⟨b, o, none⟩ = w.cell? ⟨b, o, none⟩ :=
   fun b o hD => ⟨.inl hD, hg.cell (h.dLt b o hD)⟩
  have hall := (PRs.mono hmono hg.ty p1).append (PRs.mono hmono hg.ty y1)
  rw [List.replicate_append_replicate] at hall
  have hlen' : (ps ++ ys).length = ps.length + ys.length := by simp
  rw [← hlen'] at hall ⊢
  refine .ow (c := px.toArray ++ yx.toArray ++ Builtin.zeroCells z.cells (cap - (ps ++ ys).length)) (.sl (by simp [hys]) (by rw [hlen']; exact hcap) hall (fun j v hj => ⟨?_, ?_⟩) (.inr ⟨Nat.le_trans hlo h.framed.size, rfl, _, by rw [hlen']; exact hblk⟩)) ?_ ?_ ?_ (Nat.le_trans hlo h.framed.size)
  ·simp only [Nat.zero_add]
   rw [hlen'];refine (m8 hblk).trans ?_
   have hjl : j < (px ++ yx).length := (List.getElem?_eq_some_iff.1 hj).1
   rw [Array.getElem?_append_left (by simpa using hjl)]
   simpa using hj
  ·simp only [Nat.zero_add]
   refine .inr ⟨rfl, ?_⟩
   have hjl : j < (px ++ yx).length := (List.getElem?_eq_some_iff.1 hj).1
   simp only [List.length_append, p2, y2] at hjl
   rw [hlen', Nat.add_mul];exact hjl
  ·simp [Cfg.more]
  ·rw [hlen']
   exact hblk
  ·rw [hlen']
   simp [p2, y2, size_zeroCells, hzs, hsz]
   have : cap * i.size = (ps.length + ys.length + (cap - (ps.length + ys.length))) * i.size := by congr 1; omega
   rw [this, Nat.add_mul, Nat.add_mul]
end
section
variable {P : Program} {lo lo' : Nat}
structure Chg (b : Nat) (w w' : World) : Prop where
 os : w'.os = w.os
 tape : w'.tape = w.tape
 output : w'.output = w.output
 size : w.heap.size ≤ w'.heap.size
 block : ∀ b', b' < w.heap.size → b' ≠ b → w'.heap[b']? = w.heap[b']?
 ty : TyKeep w w'
theorem Chg.of_grew {b : Nat} {w w' : World} (h : Grew w w') : Chg b w w' := ⟨h.os, h.tape, h.output, h.size, fun b' hb _ => h.block b' hb, h.ty⟩
theorem Framed.chg {X : Ctx} {w w' : World} {b : Nat} (h : Framed X w) (g : Chg b w w') (hb : X.w0.heap.size ≤ b ∨ X.M b) : Framed X w' :=
 ⟨g.os.trans h.os, g.tape.trans h.tape, g.output.trans h.output, Nat.le_trans h.size g.size, fun b' hb' hm => by
  have : b' ≠ b := fun e => by
   subst e
   rcases hb with hb | hb
   ·omega
   ·exact hm hb
  exact (g.block b' (Nat.lt_of_lt_of_le hb' h.size) this).trans (h.block b' hb' hm), h.ty.trans g.ty⟩
theorem F8 (w : World) (g : Nat) (c : Array Value) : (w.setRow g c).heap.size = w.heap.size := by simp [World.setRow]
theorem x0 (w : World) (g : Nat) (c : Array Value) {b : Nat} (h : b ≠ g) : (w.setRow g c).heap[b]? = w.heap[b]? := by
 simp only [World.setRow, Array.getElem?_modify]
 rw [if_neg (fun e => h e.symm)]
theorem S3 (w : World) (g : Nat) (c : Array Value) : TyKeep w (w.setRow g c) := fun b x E hb => by
 by_cases e : b = g
 ·subst e
  exact ⟨c, setRow_heap w b x c E (0, 0) hb⟩
 ·exact ⟨x, (x0 w g c e).trans hb⟩
structure COwn (C C' : Cfg) (b : Nat) (w w' : World) : Prop where
 D : ∀ b' o, C.D b' o → C'.D b' o ∧ w'.cell? ⟨b', o, none⟩ = w.cell? ⟨b', o, none⟩
 Dnew : ∀ b' o, C'.D b' o → C.D b' o ∨ b' = b ∨ (w.heap.size ≤ b' ∧ b' < w'.heap.size)
 ρ : C'.ρ = C.ρ
 own : ∀ b', b' < w.heap.size → b' ≠ b → C'.own b' = C.own b'
 ownB : ∀ q k, C'.own b = some (q, k) → ∀ o, C'.D b o → o < k
 ownNew : ∀ b' q k, C'.own b' = some (q, k) → w.heap.size ≤ b' → b' < w'.heap.size ∧ ∀ o, C'.D b' o → o < k
theorem SatC.chg {X : Ctx} {C C' : Cfg} {st : St} {a : Act} {w w' : World} (h : SatC P X C st a w) {b : Nat} {q0 : Place} {k0 : Nat} (hb : C.own b = some (q0, k0)) (g : Chg b w w') (c : COwn C C' b w w')
  (env' : List (Nat × PV)) (heap' : List (Nat × Ob))
  (henv : ∀ i v, get env' i = some v → (get st.env i = some v ∧ ¬ Keeps (some (.slot i)) v q0) ∨ ∃ x, a.tmps[i]? = some x ∧ VT P C' w' i v x)
  (hheap : ∀ l ob, get heap' l = some ob → (get st.heap l = some ob ∧ ¬ az8 l ob q0) ∨ ∃ ob0, get st.heap l = some ob0 ∧ ob.root = ob0.root ∧ ∀ b', C.ρ l = some (b', ob.root) → OR P C' w' l b' ob) :
  SatC P X C' ⟨env', heap'⟩ a w' := by
 obtain ⟨hN, hlt, hk, hno⟩ := h.own b q0 k0 hb
 have stays : ∀ (ls : List Nat) (keep : Place → Prop), (∀ q, keep q → q ≠ q0) → Stays C C' w w' ls keep := fun ls keep hq => by
  refine ⟨c.D, fun l _ => by rw [c.ρ], fun b1 q k hb1 hkq => ?_, g.ty⟩
  have hne : b1 ≠ b := fun e => by
   subst e
   rw [hb] at hb1
   simp at hb1
   exact hq q hkq hb1.1.symm
  have hl1 := (h.own b1 q k hb1).2.1
  exact ⟨(c.own b1 hl1 hne).trans hb1, g.block b1 hl1 hne⟩
 have old : ∀ l ob, get heap' l = some ob → ∃ ob0, get st.heap l = some ob0 ∧ ob.root = ob0.root := fun l ob hl => by
  rcases hheap l ob hl with ⟨h1, _⟩ | ⟨ob0, h1, h2, _⟩
  ·exact ⟨ob, h1, rfl⟩
  ·exact ⟨ob0, h1, h2⟩
 have hdf : DefOk X C' w' a.defers := h.defers.mono fun D _ hD ho => by
  have hne : D ≠ b := fun e => by subst e; rw [hb] at ho; cases ho
  have hlt := C8 hD
  exact ⟨g.block D hlt hne, (c.own D hlt hne).trans ho⟩
 refine ⟨h.size, hdf, h.framed.chg g hN, fun i v hv => ?_, fun l ob hl => ?_, fun l1 l2 b1 R R' o1 o2 h1 h2 e1 e2 => ?_, fun l ob b1 R o hl hρ hD => ?_, fun b1 o hD => ?_, fun b1 q k hb1 => ?_, h.gl.mono (stays _ _ fun q hq => hq.elim), ⟨fun l hl => by rw [c.ρ]; exact h.kin.rho l hl, fun b o hD => (c.D b o (h.kin.dOld b o hD)).1, fun b1 o hD => ?_⟩, fun b o hD => (c.D b o (h.kin.dOld b o hD)).2.trans (h.keep b o hD)⟩
 ·rcases henv i v hv with ⟨h1, h2⟩ | h1
  ·obtain ⟨x, e1, e2⟩ := h.env i v h1
   exact ⟨x, e1, e2.mono (stays _ _ fun q hq e => h2 (e ▸ hq))⟩
  ·exact h1
 ·rcases hheap l ob hl with ⟨h1, h2⟩ | ⟨ob0, h1, h2, h3⟩
  ·obtain ⟨b1, e1, e2, e3⟩ := h.heap l ob h1
   have hne : b1 ≠ b := fun e => by subst e; exact hno l ob _ h1 e1
   exact ⟨b1, by rw [c.ρ]; exact e1, e2, e3.mono (stays _ _ fun q hq e => h2 (e ▸ hq)) (g.block b1 e3.lt hne)⟩
  ·obtain ⟨b1, e1, e2, e3⟩ := h.heap l ob0 h1
   exact ⟨b1, by rw [c.ρ, h2]; exact e1, e2, h3 b1 (by rw [h2]; exact e1)⟩
 ·obtain ⟨p1, f1, _⟩ := old l1 o1 h1
  obtain ⟨p2, f2, _⟩ := old l2 o2 h2
  rw [c.ρ] at e1 e2
  exact h.inj l1 l2 b1 R R' p1 p2 f1 f2 e1 e2
 ·obtain ⟨p1, f1, _⟩ := old l ob hl
  rw [c.ρ] at hρ
  obtain ⟨b2, e1, _, e3⟩ := h.heap l p1 f1
  obtain rfl : b2 = b1 := by rw [e1] at hρ; simp at hρ; exact hρ.1
  rcases c.Dnew b2 o hD with hd | rfl | ⟨hge, _⟩
  ·exact h.dObj l p1 b2 R o f1 hρ hd
  ·exact hno l p1 R f1 hρ
  ·exact absurd e3.lt (Nat.not_lt.2 hge)
 ·rcases c.Dnew b1 o hD with hd | rfl | ⟨_, hl⟩
  ·exact Nat.lt_of_lt_of_le (h.dLt b1 o hd) g.size
  ·exact Nat.lt_of_lt_of_le hlt g.size
  ·exact hl
 ·have noobj : b1 < w.heap.size → (∀ l ob R, get st.heap l = some ob → C.ρ l ≠ some (b1, R)) → ∀ l ob R, get heap' l = some ob → C'.ρ l ≠ some (b1, R) := fun _ hh l ob R hl => by
   obtain ⟨p1, f1, _⟩ := old l ob hl
   rw [c.ρ];exact hh l p1 R f1
  by_cases hl1 : b1 < w.heap.size
  ·by_cases e : b1 = b
   ·subst e
    exact ⟨hN, Nat.lt_of_lt_of_le hlt g.size, c.ownB q k hb1, noobj hl1 hno⟩
   ·rw [c.own b1 hl1 e] at hb1
    obtain ⟨h1, h2, h3, h4⟩ := h.own b1 q k hb1
    refine ⟨h1, Nat.lt_of_lt_of_le h2 g.size, fun o hD => ?_, noobj hl1 h4⟩
    rcases c.Dnew b1 o hD with hd | e' | ⟨hge, _⟩
    ·exact h3 o hd
    ·exact absurd e' e
    ·omega
  ·have hge := Nat.not_lt.1 hl1
   obtain ⟨h1, h2⟩ := c.ownNew b1 q k hb1 hge
   refine ⟨.inl (Nat.le_trans h.framed.size hge), h1, h2, fun l ob R hl hρ => ?_⟩
   obtain ⟨p1, f1, _⟩ := old l ob hl
   rw [c.ρ] at hρ
   obtain ⟨b2, e1, _, e3⟩ := h.heap l p1 f1
   obtain rfl : b2 = b1 := by rw [e1] at hρ; simp at hρ; exact hρ.1
   exact hl1 e3.lt
 ·rcases c.Dnew b1 o hD with hd | rfl | ⟨hge, _⟩
  ·exact h.kin.dNew b1 o hd
  ·exact .inr hN
  ·exact .inr (.inl (Nat.le_trans h.framed.size hge))
theorem aj9 {X : Ctx} {C : Cfg} {st : St} {a : Act} {w : World} (h : SatC P X C st a w) {t ty E : TypeId} (he : ElemOk P t E) {ps ys : List Pu} {a1 : Option Addr} {b cap n1 c1 : Nat} {c : Array Value} {q0 : Place} (d : Nat)
  (hp : PR P C.D w (.sl lo E ps) [.slice (some ⟨b, 0, none⟩) ps.length cap]) (hb : C.own b = some (q0, ps.length * P.cellsOf E)) (hblk : w.heap[b]? = some (.cells c E (0, 0))) (hcs : c.size = cap * P.cellsOf E)
  (hpc : ps.length ≤ cap)
  (hy : PR P C.D w (.sl lo' E ys) [.slice a1 n1 c1]) (hlb : lo ≤ b) (hfit : (ps.length + ys.length) * P.bytesOf E ≤ 70368744177664) :
  ∃ x w' C', (Builtin.append_ #[t, t] ty #[.slice (some ⟨b, 0, none⟩) ps.length cap, .slice a1 n1 c1]).run P w = .ok x w' ∧ Chg b w w' ∧ COwn C C' b w w' ∧ VR P C' w' (some (.slot d)) (.ow lo E (ps ++ ys)) [x] := by
 obtain ⟨i, z, hi, hz, hzs⟩ := he.zero
 obtain ⟨_, px, p1, p2, p3⟩ := hp.cells
 obtain ⟨rfl, yx, y1, y2, y3⟩ := hy.cells
 have hsz := E8 hi
 have hbs := G7 hi
 have hb0 : 1 ≤ P.bytesOf E := Nat.one_le_iff_ne_zero.2 he.bytes
 obtain ⟨hN, hlt, hk, hno⟩ := h.own b q0 _ hb
 have hownlt : ∀ b q k, C.own b = some (q, k) → b < w.heap.size := fun b q k hb => (h.own b q k hb).2.1
 have hlen' : (ps ++ ys).length = ps.length + ys.length := by simp
 have hpcell : ∀ j v, px[j]? = some v → w.cell? ⟨b, j, none⟩ = some v ∧ C.D b j := fun j v hj => by
  by_cases hps : ps = []
  ·subst hps
   cases p1
   simp at hj
  ·obtain ⟨b', o', e, _, p3⟩ := p3 hps
   simp at e
   obtain ⟨rfl, rfl⟩ := e
   have := p3 j v hj
   rw [Addr.add_lit] at this
   simpa using this
 by_cases hroom : ps.length + ys.length ≤ cap
 ·-- in place
  by_cases hys : ys = []
  ·subst hys
   let C' := C.give b (.slot d) (ps.length * P.cellsOf E)
   refine ⟨_, w, C', W7 w t t ty E E i he.slice he.slice hi (some ⟨b, 0, none⟩) a1 _ _ c1 hpc, .of_grew (Grew.refl w), ⟨fun _ _ hD => ⟨hD, rfl⟩, fun _ _ hD => .inl hD, rfl, fun b' _ hne => by simp [C', Cfg.give, hne], fun q k hq o hD => ?_, fun b' q k hq hge => ?_⟩, ?_⟩
   ·simp [C', Cfg.give] at hq
    rw [← hq.2];exact hk o hD
   ·by_cases e : b' = b
    ·subst e; omega
    ·simp [C', Cfg.give, e] at hq
     have := hownlt _ _ _ hq
     omega
   ·rw [List.append_nil]
    exact .ow (PR.mono (fun _ _ hD => ⟨hD, rfl⟩) (TyKeep.refl w) hp) (by simp [C', Cfg.give]) hblk hcs hlb
  ·obtain ⟨b1, o1, rfl, hc1, y3⟩ := y3 hys
   have hfitc : ps.length * i.size + yx.length ≤ c.size := by
    rw [y2, hcs, hsz, ← Nat.add_mul];exact Nat.mul_le_mul_right _ hroom
   have hrun := run_append_room (P := P) w t ty E i he.slice hi b ps.length cap c hblk ⟨b1, o1, none⟩ ys.length c1 yx (by rw [y2, hsz]) (fun j v hj => (y3 j v hj).1) (fun u hu => y1.one u hu) hroom hfitc
   let c' : Array Value := (c.toList.take (ps.length * i.size) ++ yx ++ c.toList.drop (ps.length * i.size + yx.length)).toArray
   have hblk' : (w.setRow b c').heap[b]? = some (.cells c' E (0, 0)) := setRow_heap w b c c' E (0, 0) hblk
   have hg : Chg b w (w.setRow b c') := ⟨rfl, rfl, rfl, by rw [F8]; exact Nat.le_refl _, fun b' _ hne => x0 w b c' hne, S3 w b c'⟩
   have htl : (c.toList.take (ps.length * i.size)).length = ps.length * i.size := by
    rw [List.length_take, Array.length_toList (xs := c)]
    omega
   have hcell' : ∀ o, o < ps.length * i.size → (w.setRow b c').cell? ⟨b, o, none⟩ = w.cell? ⟨b, o, none⟩ := fun o ho => by
    rw [m8 hblk', m8 hblk]
    simp only [c', List.getElem?_toArray, List.append_assoc]
    rw [List.getElem?_append_left (by rw [htl]; exact ho), List.getElem?_take_of_lt ho, Array.getElem?_toList]
   have hDcell : ∀ b' o, C.D b' o → (w.setRow b c').cell? ⟨b', o, none⟩ = w.cell? ⟨b', o, none⟩ := fun b' o hD => by
    by_cases e : b' = b
    ·subst e
     exact hcell' o (by have := hk o hD; rw [hsz] at this; exact this)
    ·simp only [World.cell?, x0 w b c' e]
   let C' : Cfg := { D := fun b' o => C.D b' o ∨ (b' = b ∧ o < (ps.length + ys.length) * P.cellsOf E), ρ := C.ρ, own := fun b' => if b' = b then some (.slot d, (ps.length + ys.length) * P.cellsOf E) else C.own b' }
   have hmono : ∀ b' o, C.D b' o → C'.D b' o ∧ (w.setRow b c').cell? ⟨b', o, none⟩ = w.cell? ⟨b', o, none⟩ := fun b' o hD => ⟨.inl hD, hDcell b' o hD⟩
   refine ⟨_, _, C', hrun, hg, ⟨hmono, fun b' o hD => ?_, rfl, fun b' _ hne => by simp [C', hne], fun q k hq o hD => ?_, fun b' q k hq hge => ?_⟩, ?_⟩
   ·rcases hD with hD | ⟨rfl, _⟩
    ·exact .inl hD
    ·exact .inr (.inl rfl)
   ·simp [C'] at hq
    rw [← hq.2]
    rcases hD with hD | ⟨_, ho⟩
    ·exact Nat.lt_of_lt_of_le (hk o hD) (Nat.mul_le_mul_right _ (by omega))
    ·exact ho
   ·by_cases e : b' = b
    ·subst e; omega
    ·simp [C', e] at hq
     have := hownlt _ _ _ hq
     omega
   ·have hall := (PRs.mono hmono hg.ty p1).append (PRs.mono hmono hg.ty y1)
    rw [List.replicate_append_replicate, ← hlen'] at hall
    rw [← hlen'];refine .ow (c := c') (.sl (by simp [hys]) (by rw [hlen']; exact hroom) hall (fun j v hj => ?_) (.inr ⟨hlb, rfl, _, hblk'⟩)) ?_ hblk' ?_ hlb
    ·simp only [Nat.zero_add]
     have hjl : j < (px ++ yx).length := (List.getElem?_eq_some_iff.1 hj).1
     refine ⟨?_, .inr ⟨rfl, by simp only [List.length_append, p2, y2] at hjl; rw [Nat.add_mul]; exact hjl⟩⟩
     by_cases hjp : j < px.length
     ·rw [List.getElem?_append_left hjp] at hj
      rw [hcell' j (by rw [p2, hsz] at hjp; exact hjp)];exact (hpcell j v hj).1
     ·rw [List.getElem?_append_right (Nat.not_lt.1 hjp)] at hj
      rw [m8 hblk']
      simp only [c', List.getElem?_toArray, List.append_assoc]
      have hpl : px.length = ps.length * i.size := by rw [p2, hsz]
      rw [List.getElem?_append_right (by rw [htl]; omega), htl, ← hpl]
      have : j - px.length < yx.length := by simp only [List.length_append] at hjl; omega
      rw [List.getElem?_append_left this];exact hj
    ·simp [C']
    ·show (c.toList.take (ps.length * i.size) ++ yx ++ c.toList.drop (ps.length * i.size + yx.length)).length = _
     rw [List.length_append, List.length_append, htl, List.length_drop, Array.length_toList (xs := c), ← hcs]
     omega
 ·-- a new block
  have hys : ys ≠ [] := fun e => by subst e; simp at hroom; omega
  obtain ⟨b1, o1, rfl, hc1, y3⟩ := y3 hys
  have hlen : ps.length + ys.length ≤ 70368744177664 := Nat.le_trans (Nat.le_mul_of_pos_right _ hb0) hfit
  have hfits : Builtin.nextslicecap (ps.length + ys.length) cap * i.bytes ≤ 281474976710656 := growslice_fits (by omega) (by rw [← hbs]; omega)
  have hnews : ∀ j v, yx[j]? = some v → w.cell? ((⟨b1, o1, none⟩ : Addr).add j) = some v := fun j v hj => (y3 j v hj).1
  have hrun := run_append_grow (P := P) w t ty E i z he.slice hi hz ⟨b, 0, none⟩ ps.length cap px (by rw [p2, hsz]) (fun j v hj => by rw [Addr.add_lit]; simpa using (hpcell j v hj).1) ⟨b1, o1, none⟩ ys.length c1 yx (by rw [y2, hsz]) hnews (by omega) (by push_cast; omega) hfits
  have hcap := grownCap_ge w (ps.length + ys.length) cap E
  generalize grownCap w (ps.length + ys.length) cap E = cap' at hrun hcap
  have hg := B5 w (.cells (px.toArray ++ yx.toArray ++ Builtin.zeroCells z.cells (cap' - (ps.length + ys.length))) E)
  have hnb := alloc_heap_new w.drew (.cells (px.toArray ++ yx.toArray ++ Builtin.zeroCells z.cells (cap' - (ps.length + ys.length))) E)
  have hcg := aC6 (C := C) (w := w) (w' := w.drew.alloc (.cells (px.toArray ++ yx.toArray ++ Builtin.zeroCells z.cells (cap' - (ps.length + ys.length))) E)) (q := .slot d) (k := (ps.length + ys.length) * P.cellsOf E) (by rw [P1]; rfl) hownlt h.dLt
  have hmono : ∀ b o, C.D b o → (C.more w.heap.size (.slot d) ((ps.length + ys.length) * P.cellsOf E)).D b o ∧ (w.drew.alloc (.cells (px.toArray ++ yx.toArray ++ Builtin.zeroCells z.cells (cap' - (ps.length + ys.length))) E)).cell? ⟨b, o, none⟩ = w.cell? ⟨b, o, none⟩ :=
   fun b o hD => ⟨.inl hD, hg.cell (h.dLt b o hD)⟩
  refine ⟨_, _, C.more w.heap.size (.slot d) ((ps.length + ys.length) * P.cellsOf E), hrun, .of_grew hg, ⟨hmono, fun b' o hD => (hcg.Dnew b' o hD).imp id .inr, rfl, fun b' hl _ => hcg.own b' hl, fun q k hq o hD => ?_, hcg.ownNew⟩, ?_⟩
  ·rw [hcg.own b hlt, hb] at hq
   simp at hq
   rw [← hq.2]
   rcases hD with hD | ⟨e, _⟩
   ·exact hk o hD
   ·omega
  ·have hall := (PRs.mono hmono hg.ty p1).append (PRs.mono hmono hg.ty y1)
   rw [List.replicate_append_replicate] at hall
   rw [← hlen'] at hall ⊢
   refine .ow (c := px.toArray ++ yx.toArray ++ Builtin.zeroCells z.cells (cap' - (ps ++ ys).length)) (.sl (by simp [hys]) (by rw [hlen']; exact hcap) hall (fun j v hj => ⟨?_, ?_⟩) (.inr ⟨by show lo ≤ w.heap.size; omega, rfl, _, by rw [hlen']; exact hnb⟩)) ?_ ?_ ?_ (by show lo ≤ w.heap.size; omega)
   ·simp only [Nat.zero_add]
    rw [hlen'];refine (m8 hnb).trans ?_
    have hjl : j < (px ++ yx).length := (List.getElem?_eq_some_iff.1 hj).1
    rw [Array.getElem?_append_left (by simpa using hjl)]
    simpa using hj
   ·simp only [Nat.zero_add]
    refine .inr ⟨rfl, ?_⟩
    have hjl : j < (px ++ yx).length := (List.getElem?_eq_some_iff.1 hj).1
    simp only [List.length_append, p2, y2] at hjl
    rw [hlen', Nat.add_mul];exact hjl
   ·simp [Cfg.more]
   ·rw [hlen']
    exact hnb
   ·rw [hlen']
    simp [p2, y2, size_zeroCells, hzs, hsz]
    have : cap' * i.size = (ps.length + ys.length + (cap' - (ps.length + ys.length))) * i.size := by congr 1; omega
    rw [this, Nat.add_mul, Nat.add_mul]
end
section
variable {P : Program}
inductive VW (P : Program) (C : Cfg) (w : World) : PV → Value → Prop
 | one {v : PV} {x : Value} (h : VR P C w none v x.cells.toList) (hs : d7 x = v.isAgg) : VW P C w v x
 | tup {vs : List PV} {xs : Array Value} (h : VFs P C w vs xs.toList) : VW P C w (.tup vs) (.tuple xs)
theorem VW.vt {C : Cfg} {w : World} {v : PV} {x : Value} (h : VW P C w v x) (i : Nat) : VT P C w i v x := by
 cases h with
 | one h hs => exact .one (h.any _) hs
 | tup h => exact .tup h
theorem VW.mono {C C' : Cfg} {w w' : World} {v : PV} {x : Value} (h : VW P C w v x) (s : Stays C C' w w' v.labs (fun _ => False)) : VW P C' w' v x := by
 cases h with
 | one h hs => exact .one (h.mono (s.weak (fun _ h => h) (fun q hq => hq.elim))) hs
 | tup h => exact .tup (h.mono (s.weak (fun l hm => by simpa [PV.labs] using hm) (fun q hq => hq)))
theorem VT.vw {C : Cfg} {w : World} {i : Nat} {v : PV} {x : Value} (h : VT P C w i v x) : VW P C w (Hs.strip v) x := by
 cases h with
 | one h hs => exact .one h.strip (hs.trans (P8 v).symm)
 | tup h => exact .tup h
def bc8 (v : Value) : Option PV :=
 match v with
 | .slice none 0 0 => some .nilc
 | v => if am5 v then some (.pu (.leaf v)) else none
theorem bt5 {C : Cfg} {w : World} {x : Value} {v : PV} (h : bc8 x = some v) : VW P C w v x := by
 unfold bc8 at h
 split at h
 ·simp at h; subst h; exact .one .nilc rfl
 ·split at h
  ·rename_i hf
   simp at h
   subst h;exact .one (.pu (by cases x <;> first | (simp [am5] at hf; done) | exact .leaf hf)) (by cases x <;> simp_all [am5, d7, PV.isAgg])
  ·simp at h
def b9 (G : List (Nat × TypeId × Pu)) (env : List (Nat × PV)) : Operand → Option PV
 | .tmp t => get env t
 | .const v => bc8 v
 | .global g => match get G g with
  | some (T, p) => some (.pp T (.pu p))
  | none => none
 | .func f => some (.pu (.leaf (.func (.func f) #[] #[])))
theorem SatC.eval {X : Ctx} {C : Cfg} {st : St} {a : Act} {w : World} (h : SatC P X C st a w) {o : Operand} {v : PV} (hv : b9 X.G st.env o = some v) : VW P C w (strip v) (a.eval o) := by
 cases o with
 | tmp t =>
  obtain ⟨x, h1, h2⟩ := h.env t v hv
  simp only [Act.eval, Array.getD_eq_getD_getElem?, h1, Option.getD_some]
  exact h2.vw
 | const x =>
  simp only [b9] at hv
  have := bt5 (P := P) (C := C) (w := w) hv
  cases this with
  | one h hs => exact .one h.strip (hs.trans (P8 v).symm)
  | tup h => exact .tup h
 | global g =>
  simp only [b9] at hv
  split at hv
  ·rename_i T p hg
   simp at hv
   subst hv;exact .one (h.gl g T p hg) rfl
  ·simp at hv
 | func f =>
  simp [b9] at hv
  subst hv;exact .one (.pu (.leaf rfl)) rfl
abbrev iv (k : IntKind) (n : Int) : PV := .pu (.leaf (.int k n))
abbrev bv (b : Bool) : PV := .pu (.leaf (.bool b))
theorem VW.leaf_inv {C : Cfg} {w : World} {u : Value} {x : Value} (h : VW P C w (.pu (.leaf u)) x) : x = u ∧ am5 u = true := by
 cases h with
 | one h hs =>
  have := h.pu_inv
  generalize hz : x.cells.toList = z at this
  cases this with
  | leaf hf =>
   cases x <;> simp_all [Value.cells, d7, PV.isAgg]
theorem VW.leaf {C : Cfg} {w : World} {u : Value} (h : am5 u = true) : VW P C w (.pu (.leaf u)) u := by
 refine .one (.pu ?_) ?_
 ·cases u <;> first | (simp [am5] at h; done) | exact .leaf h
 ·cases u <;> simp_all [am5, d7, PV.isAgg]
def aO6 (eq : TypeId → Pu → Pu → Option Bool) : List Field → List Pu → List Pu → Option Bool
 | [], [], [] => some true
 | f :: fs, p :: ps, q :: qs =>
  if f.name = "_" then none else
  match eq f.type p q, aO6 eq fs ps qs with
  | some a, some b => some (a && b)
  | _, _ => none
 | _, _, _ => none
def aA3 (eq : Pu → Pu → Option Bool) : List Pu → List Pu → Option Bool
 | [], [] => some true
 | p :: ps, q :: qs =>
  match eq p q, aA3 eq ps qs with
  | some a, some b => some (a && b)
  | _, _ => none
 | _, _ => none
def peqT (P : Program) : Nat → TypeId → Pu → Pu → Option Bool
 | 0, _, _, _ => none
 | d + 1, t, p, q =>
  match P.underlying t, p, q with
  | some .bool, .leaf (.bool a), .leaf (.bool b) => some (a == b)
  | some (.int _), .leaf (.int k a), .leaf (.int k' b) => if k = k' then some (a == b) else none
  | some .string, .leaf (.string a), .leaf (.string b) => some (a.toList == b.toList)
  | some (.struct fs), .agg _ ps, .agg _ qs => if P.stoodInHeld t then none else aO6 (peqT P d) fs.toList ps qs
  | some (.array _ e), .agg _ ps, .agg _ qs => aA3 (peqT P d e) ps qs
  | _, _, _ => none
def aw9 (op : BinOp) (k : IntKind) (a b : Int) : Option PV :=
 match op with
 | .add => some (iv k (k.wrap (a + b)))
 | .sub => some (iv k (k.wrap (a - b)))
 | .mul => some (iv k (k.wrap (a * b)))
 | .quo => if b = 0 then none else some (iv k (k.wrap (a.tdiv b)))
 | .rem => if b = 0 then none else some (iv k (a.tmod b))
 | .eql => some (bv (a == b))
 | .neq => some (bv (a != b))
 | .lss => some (bv (a < b))
 | .leq => some (bv (a ≤ b))
 | .gtr => some (bv (a > b))
 | .geq => some (bv (a ≥ b))
 | .and => some (iv k (k.wrap (BitVec.ofInt k.bits a &&& BitVec.ofInt k.bits b).toNat))
 | .or => some (iv k (k.wrap (BitVec.ofInt k.bits a ||| BitVec.ofInt k.bits b).toNat))
 | .xor => some (iv k (k.wrap (BitVec.ofInt k.bits a ^^^ BitVec.ofInt k.bits b).toNat))
 | .andNot => some (iv k (k.wrap (BitVec.ofInt k.bits a &&& ~~~BitVec.ofInt k.bits b).toNat))
 | _ => none
def R9 (P : Program) (op : BinOp) (t : TypeId) (x y : PV) : Option PV :=
 match x, y with
 | .pu (.leaf (.int k a)), .pu (.leaf (.int k' b)) =>
  match op with
  | .shl => if b < 0 then none else some (iv k (k.wrap (a * 2 ^ min b.toNat k.bits)))
  | .shr => if b < 0 then none else some (iv k (a.fdiv (2 ^ min b.toNat k.bits)))
  | op => if k = k' then aw9 op k a b else none
 | .pu (.leaf (.bool a)), .pu (.leaf (.bool b)) =>
  match op with
  | .eql => if (P.underlying t matches some .bool) then some (bv (a == b)) else none
  | .neq => if (P.underlying t matches some .bool) then some (bv (a != b)) else none
  | _ => none
 | .pu (.leaf (.string a)), .pu (.leaf (.string b)) =>
  match op with
  | .eql => some (bv (a.toList == b.toList))
  | .neq => some (bv (a.toList != b.toList))
  | _ => none
 | .pu (.agg T ps), .pu (.agg T' qs) =>
  if P.eqGuardType P.depth t = false ∧ t < P.types.size ∧ tyP P t (.agg T ps) = true ∧ tyP P t (.agg T' qs) = true then
   match op, peqT P 100 t (.agg T ps) (.agg T' qs) with
   | .eql, some b => some (bv b)
   | .neq, some b => some (bv (!b))
   | _, _ => none
  else none
 | _, _ => none
end
section
variable {P : Program}
theorem ac4 (hT : j3 P = true) {T : TypeId} (hlt : T < P.types.size) (w : World) : (isAgg T).run P w = .ok (f7 P T).isSome w := by
 obtain ⟨i, d, _, hu⟩ := U1 hT hlt
 simp only [isAgg, Sem.run_bind, run_underlying hu, Result.andThen_ok]
 unfold f7
 rw [if_neg (Nat.not_le_of_lt hlt), hu]
 cases d <;> rfl
theorem v5 (hT : j3 P = true) {T : TypeId} (hlt : T < P.types.size) (w : World) : (Go.sizeOf T).run P w = .ok (P.cellsOf T) w := by
 obtain ⟨i, d, hi, _⟩ := U1 hT hlt
 exact run_sizeOf w hi
theorem aT3 (xs : Array Value) (pre mid post : List Value) (h : xs.toList = pre ++ (mid ++ post)) : (xs.extract pre.length (pre.length + mid.length)).toList = mid := by
 rw [Array.toList_extract, h, List.extract_eq_take_drop]
 simp
theorem O4 (hT : j3 P = true) {C : Cfg} {w w' : World} {pl : Option Place} {t : TypeId} (hlt : t < P.types.size) {u : PV} {xs : Array Value} {pre mid post : List Value} (h : xs.toList = pre ++ (mid ++ post)) {off : Nat} (ho : pre.length = off)
  (hv : VR P C w' pl u mid) (hty : tyV P t u = true) : ∃ x, (part t xs off).run P w = .ok x w ∧ x.cells.toList = mid ∧ d7 x = u.isAgg := by
 subst ho
 cases hc : f7 P t with
 | some cs =>
  have hl := hv.length_ty hT hty hc
  refine ⟨.agg (xs.extract pre.length (pre.length + P.cellsOf t)), ?_, ?_, ?_⟩
  ·simp [part, ac4 hT hlt, hc, v5 hT hlt]
  ·rw [← hl]
   exact aT3 xs pre mid post h
  ·cases u with
   | pu p => cases p <;> simp_all [tyV, tyP, d7, PV.isAgg]
   | _ => simp_all [tyV, d7, PV.isAgg]
 | none =>
  obtain ⟨v, rfl, hva, _⟩ := hv.length_one hty hc
  have hx : xs[pre.length]? = some v := by
   rw [← Array.getElem?_toList, h]
   simp
  refine ⟨v, by simp [part, ac4 hT hlt, hc, hx], ?_, ?_⟩
  ·cases v <;> simp_all [Value.cells, d7]
  ·rw [hva]
   cases u with
   | pu p => cases p <;> simp_all [tyV, tyP, PV.isAgg]
   | _ => simp_all [tyV, PV.isAgg]
theorem PR.wholeLeaf {D : Nat → Nat → Prop} {w : World} {u : Value} {x : Value} (h : PR P D w (.leaf u) x.cells.toList) (hs : d7 x = false) : x = u := by
 generalize hz : x.cells.toList = z at h
 cases h with
 | leaf hf => cases x <;> simp_all [Value.cells, d7]
theorem aj4 (hT : j3 P = true) {D D' : Nat → Nat → Prop} {W : World} (d : Nat) (eq : TypeId → Pu → Pu → Option Bool)
  (ih : ∀ (t : TypeId) (p q : Pu) (b : Bool) (x y : Value) (w : World), t < P.types.size → PR P D W p x.cells.toList → d7 x = (PV.pu p).isAgg → tyP P t p = true → PR P D' W q y.cells.toList → d7 y = (PV.pu q).isAgg → tyP P t q = true →
   eq t p q = some b → (Op.equalIn d t x y).run P w = .ok b w) (xs ys : Array Value) (w : World) :
  ∀ (fs : List Field) (ps qs : List Pu) (prex prey xr yr : List Value) (b : Bool), xs.toList = prex ++ xr → ys.toList = prey ++ yr → prex.length = prey.length →
   (∀ j f, fs[j]? = some f → f.offset = prex.length + H6 (fs.map fun f => (P.cellsOf f.type, f.type)) j ∧ f.type < P.types.size) →
   PRs P D W (fs.map fun f => (P.cellsOf f.type, f.type)) ps xr → PRs P D' W (fs.map fun f => (P.cellsOf f.type, f.type)) qs yr → aO6 eq fs ps qs = some b → (Op.eqFields d xs ys fs).run P w = .ok b w
 | [], ps, qs, prex, prey, xr, yr, b, _, _, _, _, hp, hq, hb => by
  cases hp
  cases hq
  simp [aO6] at hb
  subst hb
  simp [Op.eqFields]
 | f :: fs, ps, qs, prex, prey, xr, yr, b, hx, hy, hlen, ho, hp, hq, hb => by
  simp only [List.map_cons] at hp hq
  cases hp with
  | @cons _ _ _ p ps x xr hp hsx htp hps =>
  cases hq with
  | @cons _ _ _ q qs y yr hq hsy htq hqs =>
  simp only [aO6] at hb
  split at hb
  ·simp at hb
  rename_i hname
  obtain ⟨hoff, hlt⟩ := ho 0 f (by simp)
  simp [H6] at hoff
  cases he : eq f.type p q with
  | none => simp [he] at hb
  | some r =>
  cases hr : aO6 eq fs ps qs with
  | none => simp [he, hr] at hb
  | some r' =>
  simp [he, hr] at hb
  subst hb
  obtain ⟨vx, e1, e2, e3⟩ := O4 (C := ⟨D, fun _ => none, fun _ => none⟩) (w := w) (w' := W) (pl := none) hT hlt hx hoff.symm (.pu hp) (by simpa [tyV] using htp)
  obtain ⟨vy, f1, f2, f3⟩ := O4 (C := ⟨D', fun _ => none, fun _ => none⟩) (w := w) (w' := W) (pl := none) hT hlt hy (hlen.symm.trans hoff.symm) (.pu hq) (by simpa [tyV] using htq)
  have h1 := ih f.type p q r vx vy w hlt (by rw [e2]; exact hp) e3 htp (by rw [f2]; exact hq) f3 htq he
  simp only [Op.eqFields, ne_eq, hname, not_false_eq_true, if_true, Sem.run_bind, e1, f1, h1, Result.andThen_ok]
  cases r
  ·simp
  ·simp only [Bool.not_true, Bool.false_eq_true, if_false, Bool.true_and]
   refine aj4 hT d eq ih xs ys w fs ps qs (prex ++ x) (prey ++ y) xr yr r' (by simp [hx]) (by simp [hy]) (by simp [hlen, hsx, hsy]) (fun j g hg => ?_) hps hqs hr
   obtain ⟨o1, o2⟩ := ho (j + 1) g (by simpa using hg)
   refine ⟨?_, o2⟩
   rw [o1]
   simp [H6, hsx]
   omega
theorem ao7 (hT : j3 P = true) {D D' : Nat → Nat → Prop} {W : World} (d : Nat) (e : TypeId) (hlt : e < P.types.size) (eq : Pu → Pu → Option Bool)
  (ih : ∀ (p q : Pu) (b : Bool) (x y : Value) (w : World), PR P D W p x.cells.toList → d7 x = (PV.pu p).isAgg → tyP P e p = true → PR P D' W q y.cells.toList → d7 y = (PV.pu q).isAgg → tyP P e q = true →
   eq p q = some b → (Op.equalIn d e x y).run P w = .ok b w) (xs ys : Array Value) (w : World) :
  ∀ (n k : Nat) (ps qs : List Pu) (prex prey xr yr : List Value) (b : Bool), xs.toList = prex ++ xr → ys.toList = prey ++ yr → prex.length = k * P.cellsOf e → prey.length = k * P.cellsOf e →
   PRs P D W (List.replicate n (P.cellsOf e, e)) ps xr → PRs P D' W (List.replicate n (P.cellsOf e, e)) qs yr → aA3 eq ps qs = some b → (Op.eqItems d e (P.cellsOf e) xs ys (List.range' k n)).run P w = .ok b w
 | 0, k, ps, qs, prex, prey, xr, yr, b, _, _, _, _, hp, hq, hb => by
  cases hp
  cases hq
  simp [aA3] at hb
  subst hb
  simp [Op.eqItems]
 | n + 1, k, ps, qs, prex, prey, xr, yr, b, hx, hy, hlx, hly, hp, hq, hb => by
  simp only [List.replicate_succ] at hp hq
  cases hp with
  | @cons _ _ _ p ps x xr hp hsx htp hps =>
  cases hq with
  | @cons _ _ _ q qs y yr hq hsy htq hqs =>
  simp only [aA3] at hb
  cases he : eq p q with
  | none => simp [he] at hb
  | some r =>
  cases hr : aA3 eq ps qs with
  | none => simp [he, hr] at hb
  | some r' =>
  simp [he, hr] at hb
  subst hb
  obtain ⟨vx, e1, e2, e3⟩ := O4 (C := ⟨D, fun _ => none, fun _ => none⟩) (w := w) (w' := W) (pl := none) hT hlt hx hlx (.pu hp) (by simpa [tyV] using htp)
  obtain ⟨vy, f1, f2, f3⟩ := O4 (C := ⟨D', fun _ => none, fun _ => none⟩) (w := w) (w' := W) (pl := none) hT hlt hy hly (.pu hq) (by simpa [tyV] using htq)
  have h1 := ih p q r vx vy w (by rw [e2]; exact hp) e3 htp (by rw [f2]; exact hq) f3 htq he
  simp only [List.range'_succ, Op.eqItems, Sem.run_bind, e1, f1, h1, Result.andThen_ok]
  cases r
  ·simp
  ·simp only [Bool.not_true, Bool.false_eq_true, if_false, Bool.true_and]
   exact ao7 hT d e hlt eq ih xs ys w n (k + 1) ps qs (prex ++ x) (prey ++ y) xr yr r' (by simp [hx]) (by simp [hy]) (by simp [hlx, hsx, Nat.add_mul]) (by simp [hly, hsy, Nat.add_mul]) hps hqs hr
theorem am6 (hT : j3 P = true) {D D' : Nat → Nat → Prop} {W : World} : ∀ (d : Nat) (t : TypeId), t < P.types.size → ∀ (d' : Nat), d ≤ d' → ∀ (p q : Pu) (b : Bool) (x y : Value) (w : World),
  PR P D W p x.cells.toList → d7 x = (PV.pu p).isAgg → tyP P t p = true → PR P D' W q y.cells.toList → d7 y = (PV.pu q).isAgg → tyP P t q = true → peqT P d t p q = some b → (Op.equalIn d' t x y).run P w = .ok b w := by
 intro d
 induction d with
 | zero => intro t _ d' _ p q b x y w _ _ _ _ _ _ h; simp [peqT] at h
 | succ d ih =>
  intro t hlt d' hd p q b x y w hp hsx htp hq hsy htq hb
  obtain ⟨d', rfl⟩ : ∃ m, d' = m + 1 := ⟨d' - 1, by omega⟩
  simp only [peqT] at hb
  split at hb
  ·rename_i a c hu
   obtain rfl := hp.wholeLeaf (by simpa [PV.isAgg] using hsx)
   obtain rfl := hq.wholeLeaf (by simpa [PV.isAgg] using hsy)
   simp at hb
   rw [run_equalIn_bool _ _ _ _ _ hu, hb]
  ·rename_i k a k' c hu
   obtain rfl := hp.wholeLeaf (by simpa [PV.isAgg] using hsx)
   obtain rfl := hq.wholeLeaf (by simpa [PV.isAgg] using hsy)
   split at hb
   ·rename_i e
    subst e
    simp at hb
    simp [Op.equalIn, run_underlying hu, hb]
   ·simp at hb
  ·rename_i a c hu
   obtain rfl := hp.wholeLeaf (by simpa [PV.isAgg] using hsx)
   obtain rfl := hq.wholeLeaf (by simpa [PV.isAgg] using hsy)
   simp only [Option.some.injEq] at hb
   rw [run_equalIn_string _ _ _ _ _ hu, hb]
  ·rename_i T ps T' qs hu
   split at hb
   ·simp at hb
   rename_i hst
   have hst' : P.stoodInHeld t = false := by simpa using hst
   cases x <;> simp [d7, PV.isAgg] at hsx
   cases y <;> simp [d7, PV.isAgg] at hsy
   rename_i fs xs ys
   have hfo : P.fieldsOf t = fs := by simp [Program.fieldsOf, hu]
   have hct : f7 P t = some (fs.toList.map fun f => (P.cellsOf f.type, f.type)) := by unfold f7; rw [if_neg (Nat.not_le_of_lt hlt), hu]
   cases hp with
   | agg hc hp =>
   cases hq with
   | agg hc' hq =>
   simp [tyP, hct] at htp htq
   obtain rfl := D7 htp hc hct
   obtain rfl := D7 htq hc' hct
   rw [run_equalIn_struct w d' t xs ys (by rw [hfo]; exact hu) hst', hfo];refine aj4 hT d' (peqT P d) (fun t p q b x y w hl => ih t hl d' (by omega) p q b x y w) xs ys w fs.toList ps qs [] [] xs.toList ys.toList b rfl rfl rfl (fun j f hf => ?_) hp hq hb
   obtain ⟨o1, o2, o3⟩ := G4 hT hlt hu (by simpa using hf)
   exact ⟨by simpa using o1, o3⟩
  ·rename_i n e T ps T' qs hu
   cases x <;> simp [d7, PV.isAgg] at hsx
   cases y <;> simp [d7, PV.isAgg] at hsy
   rename_i xs ys
   have hct : f7 P t = some (List.replicate n (P.cellsOf e, e)) := by unfold f7; rw [if_neg (Nat.not_le_of_lt hlt), hu]
   have hel := aq9 hT hlt hu
   obtain ⟨i, dd, hi, _⟩ := U1 hT hel
   cases hp with
   | agg hc hp =>
   cases hq with
   | agg hc' hq =>
   simp [tyP, hct] at htp htq
   obtain rfl := D7 htp hc hct
   obtain rfl := D7 htq hc' hct
   rw [run_equalIn_array w d' xs ys hu hi, List.range_eq_range'];exact ao7 hT d' e hel (peqT P d e) (fun p q b x y w => ih e hel d' (by omega) p q b x y w) xs ys w n 0 ps qs [] [] xs.toList ys.toList b rfl rfl (by simp) (by simp) hp hq hb
  ·simp at hb
end
section
variable {P : Program} {lo : Nat}
def okT (P : Program) (s t : TypeId) : Bool := decide (s < P.types.size) && decide (t < P.types.size) && (s == t || P.underlyingId s == P.underlyingId t)
theorem v9 {s t : TypeId} (h : okT P s t = true) : f7 P s = f7 P t ∧ s < P.types.size ∧ t < P.types.size ∧ P.underlying s = P.underlying t ∧ P.underlyingId s = P.underlyingId t := by
 simp only [okT, Bool.and_eq_true, decide_eq_true_eq, Bool.or_eq_true, beq_iff_eq] at h
 obtain ⟨⟨h1, h2⟩, h3⟩ := h
 have e : P.underlyingId s = P.underlyingId t := by
  rcases h3 with rfl | h3
  ·rfl
  ·exact h3
 have hu : P.underlying s = P.underlying t := by rw [J0 s, J0 t, e]
 refine ⟨?_, h1, h2, hu, e⟩
 unfold f7
 rw [if_neg (Nat.not_le_of_lt h1), if_neg (Nat.not_le_of_lt h2), hu]
theorem ai1 {s t : TypeId} (h : okT P s t = true) (v : PV) : tyV P s v = tyV P t v := by
 obtain ⟨h1, _, _, _, h2⟩ := v9 h
 cases v with
 | pu p => cases p <;> simp [tyV, tyP, h1, h2]
 | _ => simp [tyV, h1, h2]
theorem bA8 (hT : j3 P = true) {s t : TypeId} (h : okT P s t = true) (h1 : (f7 P t).isSome = true) : P.cellsOf t = P.cellsOf s := by
 obtain ⟨e, _⟩ := v9 h
 obtain ⟨cs, hc⟩ := Option.isSome_iff_exists.1 h1
 rw [U4 hT hc, U4 hT (e.trans hc)]
theorem aR5 (v : PV) : D9 v [] = some v := by
 cases v with
 | pu p => cases p <;> rfl
 | _ => rfl
theorem aB0 {T T1 t : TypeId} {path : List Nat} {k i s : Nat} {cs : List (Nat × TypeId)} (h : P3 P T path = some (T1, k)) (hc : f7 P T1 = some cs) (hi : cs[i]? = some (s, t)) : P3 P T (path ++ [i]) = some (t, k + H6 cs i) := by
 induction path generalizing T k with
 | nil =>
  simp [P3] at h
  obtain ⟨rfl, rfl⟩ := h
  simp [P3, hc, hi]
 | cons j r ih =>
  simp only [P3] at h
  cases hc' : f7 P T with
  | none => simp [hc'] at h
  | some cs' =>
   simp only [hc'] at h
   cases hj : cs'[j]? with
   | none => simp [hj] at h
   | some c =>
    obtain ⟨s', t'⟩ := c
    simp only [hj] at h
    cases hr : P3 P t' r with
    | none => simp [hr] at h
    | some z =>
     obtain ⟨T2, k2⟩ := z
     simp only [hr, Option.some.injEq, Prod.mk.injEq] at h
     obtain ⟨rfl, rfl⟩ := h
     simp [P3, hc', hj, ih hr, Nat.add_assoc]
theorem aB1 {R : Root} {T1 t : TypeId} {path : List Nat} {k i s : Nat} {cs : List (Nat × TypeId)} (h : M3 P R path = some (T1, k)) (hc : f7 P T1 = some cs) (hi : cs[i]? = some (s, t)) : M3 P R (path ++ [i]) = some (t, k + H6 cs i) := by
 cases R with
 | var T => exact aB0 h hc hi
 | row E =>
  cases path with
  | nil => simp [M3] at h
  | cons j r =>
   simp only [M3] at h
   cases hr : P3 P E r with
   | none => simp [hr] at h
   | some z =>
    obtain ⟨T2, k2⟩ := z
    simp only [hr, Option.some.injEq, Prod.mk.injEq] at h
    obtain ⟨rfl, rfl⟩ := h
    simp [M3, aB0 hr hc hi, Nat.add_assoc]
 | map K V => cases path <;> simp [M3] at h
 | loop => cases path <;> simp [M3] at h
theorem VR.parts {C : Cfg} {w : World} {pl : Option Place} {v : PV} {x : List Value} {T : TypeId} {cs : List (Nat × TypeId)} (h : VR P C w pl v x) (ht : tyV P T v = true) (hc : f7 P T = some cs) :
  ∃ vs, VRs P C w pl 0 cs vs x ∧ (∀ i, vs[i]? = D9 v [i]) ∧ ((∃ T0 ps, v = .pu (.agg T0 ps) ∧ vs = ps.map PV.pu) ∨ ∃ T0, v = .agg T0 vs) := by
 cases h with
 | pu h =>
  cases h with
  | agg hc' h =>
   simp [tyV, tyP, hc] at ht
   obtain rfl := D7 ht hc' hc
   refine ⟨_, h.toV 0, fun i => ?_, .inl ⟨_, _, rfl, rfl⟩⟩
   rename_i T0 ps _
   simp only [D9, List.getElem?_map]
   split <;> simp_all
  | _ => simp [tyV, tyP, hc] at ht
 | agg hc' h =>
  simp [tyV, hc] at ht
  obtain rfl := D7 ht hc' hc
  refine ⟨_, h, fun i => ?_, .inr ⟨_, rfl⟩⟩
  rename_i T0 vs _
  simp only [D9]
  split <;> simp_all
 | _ => simp [tyV, hc] at ht
theorem ae1 (a : Addr) (h : a.spot = none) (n : Nat) : a.add n = ⟨a.block, a.off + n, none⟩ := by
 obtain ⟨b, o, s⟩ := a
 simp at h
 subst h
 unfold Addr.add
 split
 ·rename_i e; subst e; rfl
 ·rfl
def H0 (P : Program) (T : TypeId) (i : Nat) : Option (Nat × TypeId) :=
 match f7 P T with
 | some cs => cs[i]?
 | none => none
def ab4 (P : Program) (s : TypeId) (f : Nat) : PV → Option PV
 | .ptr l path T => if okT P s T = true then (match H0 P T f with
  | some (_, t) => some (.ptr l (path ++ [f]) t)
  | none => none) else none
 | .pp T v => if okT P s T = true then (match H0 P T f with
  | some (_, t) => (match D9 v [f] with
   | some u => some (.pp t u)
   | none => none)
  | none => none) else none
 | _ => none
theorem L3 {T : TypeId} {fs : Array Field} (hlt : T < P.types.size) (hu : P.underlying T = some (.struct fs)) : f7 P T = some (fs.toList.map fun f => (P.cellsOf f.type, f.type)) := by
 unfold f7
 rw [if_neg (Nat.not_le_of_lt hlt), hu]
theorem P0 {T : TypeId} {n : Nat} {e : TypeId} (hlt : T < P.types.size) (hu : P.underlying T = some (.array n e)) : f7 P T = some (List.replicate n (P.cellsOf e, e)) := by
 unfold f7
 rw [if_neg (Nat.not_le_of_lt hlt), hu]
theorem bg5 {C : Cfg} {w : World} {T : TypeId} {v u : PV} {b o : Nat} {x : List Value} {cs : List (Nat × TypeId)} {i s : Nat} {t : TypeId} (h : VR P C w none v x) (ht : tyV P T v = true)
  (hx : ∀ j u, x[j]? = some u → w.cell? ⟨b, o + j, none⟩ = some u ∧ C.D b (o + j)) (hc : f7 P T = some cs) (hi : cs[i]? = some (s, t)) (hs : s = P.cellsOf t) (hg : D9 v [i] = some u) (pl : Option Place) :
  VR P C w pl (.pp t u) [.pointer (some ⟨b, o + H6 cs i, none⟩)] := by
 obtain ⟨vs, h1, h2, _⟩ := h.parts ht hc
 obtain ⟨u', pre, mid, post, g1, g2, g3, g4, g5, g6, _⟩ := VRs.at h1 hi
 rw [h2 i, hg] at g1
 simp at g1
 subst g1
 refine .pp (by simpa using g5) g6 (by rw [g4, hs]) fun j y hj => ?_
 have := hx (pre.length + j) y (by
  rw [g2, List.getElem?_append_right (by omega), Nat.add_sub_cancel_left, List.getElem?_append_left (List.getElem?_eq_some_iff.1 hj).1]
  exact hj)
 rw [← g3, Nat.add_assoc];exact this
theorem bd0 {T : TypeId} {cs : List (Nat × TypeId)} {i s : Nat} {t : TypeId} (hc : f7 P T = some cs) (hi : cs[i]? = some (s, t)) : s = P.cellsOf t := by
 have hlt := ab6 hc
 unfold f7 at hc
 rw [if_neg (Nat.not_le_of_lt hlt)] at hc
 cases hu : P.underlying T with
 | none => simp [hu] at hc
 | some d =>
  cases d <;> simp [hu] at hc
  case array n e =>
   subst hc
   rw [List.getElem?_replicate] at hi
   split at hi <;> simp at hi
   rw [← hi.1, hi.2]
  case struct fs =>
   subst hc
   simp only [List.getElem?_map, Option.map_eq_some_iff] at hi
   obtain ⟨f, _, hf⟩ := hi
   simp at hf
   rw [← hf.1, hf.2]
theorem aA5 (hT : j3 P = true) {C : Cfg} {w : World} {s : TypeId} {f : Nat} {v u : PV} {x : Value} (hv : VW P C w v x) (h : ab4 P s f v = some u) (hst : ∃ fs, P.underlying s = some (.struct fs) ∧ ∀ fd, fs[f]? = some fd → P.cellsOf fd.type ≠ 0) :
  ∃ y, (Instr.fieldAt s x f).run P w = .ok y w ∧ VW P C w u y := by
 obtain ⟨fs, hu, hne⟩ := hst
 cases hv with
 | tup hv => simp [ab4] at h
 | one hv hsh =>
 generalize hz : x.cells.toList = z at hv
 cases hv with
 | @ptr _ l path T b off R hl hs =>
  simp only [ab4] at h
  split at h
  ·rename_i hok
   obtain ⟨e1, e2, e3, e4, e5⟩ := v9 hok
   have hct := L3 e2 hu
   simp only [H0, ← e1, hct] at h
   cases hf : fs[f]? with
   | none => simp [hf] at h
   | some fd =>
    simp [hf] at h
    subst h
    have hx : x = .pointer (some ⟨b, off, none⟩) := by cases x <;> simp_all [Value.cells, d7, PV.isAgg]
    subst hx
    obtain ⟨o1, o2, o3⟩ := G4 hT e2 hu hf
    refine ⟨.pointer (some ⟨b, off + fd.offset, none⟩), ?_, .one (.ptr hl ?_) rfl⟩
    ·simp [Instr.fieldAt, Instr.sureAddr, run_underlying hu, hf, fieldPlace, v5 hT o3, hne _ hf, ae1]
    ·rw [o1]
     exact aB1 hs (e1 ▸ hct) (by simp [hf]; rfl)
  ·simp at h
 | @pp _ T v b o y hv ht hl hx =>
  simp only [ab4] at h
  split at h
  ·rename_i hok
   obtain ⟨e1, e2, e3, e4, e5⟩ := v9 hok
   have hct := L3 e2 hu
   simp only [H0, ← e1, hct] at h
   cases hf : fs[f]? with
   | none => simp [hf] at h
   | some fd =>
    simp only [List.getElem?_map, Array.getElem?_toList, hf, Option.map_some] at h
    cases hg : D9 v [f] with
    | none => simp [hg] at h
    | some u' =>
     simp [hg] at h
     subst h
     have hxp : x = .pointer (some ⟨b, o, none⟩) := by cases x <;> simp_all [Value.cells, d7, PV.isAgg]
     subst hxp
     obtain ⟨o1, o2, o3⟩ := G4 hT e2 hu hf
     have hcT := e1 ▸ hct
     have hi : (fs.toList.map fun f => (P.cellsOf f.type, f.type))[f]? = some (P.cellsOf fd.type, fd.type) := by simp [hf]
     refine ⟨.pointer (some ⟨b, o + fd.offset, none⟩), ?_, .one ?_ rfl⟩
     ·simp [Instr.fieldAt, Instr.sureAddr, run_underlying hu, hf, fieldPlace, v5 hT o3, hne _ hf, ae1]
     ·rw [o1]
      exact bg5 hv ht hx hcT hi rfl hg none
  ·simp at h
 | _ => simp [ab4] at h
def J7 (P : Program) (t : TypeId) (i : Int) : PV → Option PV
 | .pu (.sl _ E ps) => if 0 ≤ i then (match ps[i.toNat]? with
  | some p => some (.pp E (.pu p))
  | none => none) else none
 | .xs _ E ps => if 0 ≤ i then (match ps[i.toNat]? with
  | some p => some (.pp E (.pu p))
  | none => none) else none
 | .arr l E off len => if 0 ≤ i ∧ i < len then some (.ptr l [off + i.toNat] E) else none
 | .ptr l path T => if okT P t T = true ∧ 0 ≤ i then (match H0 P T i.toNat with
  | some (_, e) => some (.ptr l (path ++ [i.toNat]) e)
  | none => none) else none
 | .pp T v => if okT P t T = true ∧ 0 ≤ i then (match H0 P T i.toNat with
  | some (_, e) => (match D9 v [i.toNat] with
   | some u => some (.pp e u)
   | none => none)
  | none => none) else none
 | _ => none
theorem B3 {n s i : Nat} {t : TypeId} (h : i ≤ n) : H6 (List.replicate n (s, t)) i = i * s := by
 simp only [H6, List.take_replicate, List.map_replicate, List.sum_replicate_nat, Nat.min_eq_left h]
theorem bJ8 {C : Cfg} {w : World} {E : TypeId} {ps : List Pu} {a : Option Addr} {n cap : Nat} (h : PR P C.D w (.sl lo E ps) [.slice a n cap]) {k : Nat} {p : Pu} (hk : ps[k]? = some p) (pl : Option Place) :
  ∃ b o, a = some ⟨b, o, none⟩ ∧ k < n ∧ n = ps.length ∧ VR P C w pl (.pp E (.pu p)) [.pointer (some ⟨b, o + k * P.cellsOf E, none⟩)] := by
 have hkl := (List.getElem?_eq_some_iff.1 hk).1
 cases h with
 | sl0 => simp at hkl
 | @sl _ _ _ b o _ x hn hcap h hx _ =>
  refine ⟨b, o, rfl, hkl, rfl, ?_⟩
  have hci : (List.replicate ps.length (P.cellsOf E, E))[k]? = some (P.cellsOf E, E) := by simp [hkl]
  obtain ⟨u, pre, mid, post, g1, g2, g3, g4, g5, g6, _⟩ := VRs.at (h.toV (C := C) (pl := none) 0) hci
  simp only [List.getElem?_map, hk, Option.map_some, Option.some.injEq] at g1
  subst g1
  rw [B3 (Nat.le_of_lt hkl)] at g3
  refine .pp (by simpa using g5) g6 g4 fun j y hj => ?_
  have := hx (pre.length + j) y (by
   rw [g2, List.getElem?_append_right (by omega), Nat.add_sub_cancel_left, List.getElem?_append_left (List.getElem?_eq_some_iff.1 hj).1]
   exact hj)
  rw [← g3, Nat.add_assoc];exact this
theorem H7 (hT : j3 P = true) {C : Cfg} {w : World} {t : TypeId} {k : IntKind} {i : Int} {v u : PV} {x : Value} (hv : VW P C w v x) (h : J7 P t i v = some u)
  (hst : (∃ E, P.underlying t = some (.slice E) ∧ (∃ lo l T off len ps, v = .arr l T off len ∧ T = E ∨ v = .pu (.sl lo T ps) ∧ T = E ∨ v = .xs lo T ps ∧ T = E)) ∨
   (∃ n e, P.underlying t = some (.array n e) ∧ ((∃ l path T, v = .ptr l path T) ∨ ∃ T u, v = .pp T u))) (hlt : t < P.types.size) :
  ∃ y, (Instr.indexAt t x (.int k i)).run P w = .ok y w ∧ VW P C w u y := by
 cases hv with
 | tup hv => simp [J7] at h
 | one hv hsh =>
 rcases hst with ⟨E, hu, lo, l, T, off, len, ps, hcase⟩ | ⟨n, e, hu, hcase⟩
 ·have hel := aM0 hT hlt hu
  have pure : ∀ (ps : List Pu) (a : Option Addr) (n cap : Nat), PR P C.D w (.sl lo E ps) [.slice a n cap] → x = .slice a n cap → (if 0 ≤ i then (match ps[i.toNat]? with
    | some p => some (PV.pp E (.pu p))
    | none => none) else none) = some u → ∃ y, (Instr.indexAt t x (.int k i)).run P w = .ok y w ∧ VW P C w u y := fun ps a n cap hp hx h => by
   subst hx
   split at h
   ·rename_i h0
    cases hk : ps[i.toNat]? with
    | none => simp [hk] at h
    | some p =>
     simp [hk] at h
     subst h
     obtain ⟨b, o, rfl, hkn, hn, hr⟩ := bJ8 hp hk none
     refine ⟨_, ?_, .one (x := .pointer (some ⟨b, o + i.toNat * P.cellsOf E, none⟩)) hr rfl⟩
     have hin : i < (n : Int) := by omega
     simp [Instr.indexAt, asIntOf, run_underlying hu, h0, hin, v5 hT hel, ae1]
   ·simp at h
  rcases hcase with ⟨rfl, rfl⟩ | ⟨rfl, rfl⟩ | ⟨rfl, rfl⟩
  ·generalize hz : x.cells.toList = z at hv
   cases hv with
   | @arr _ _ _ _ _ b cap hl hcap =>
    simp only [J7] at h
    split at h
    ·rename_i h0
     simp at h
     subst h
     have hx : x = .slice (some ⟨b, off * P.cellsOf T, none⟩) len cap := by cases x <;> simp_all [Value.cells, d7, PV.isAgg]
     subst hx
     refine ⟨.pointer (some ⟨b, (off + i.toNat) * P.cellsOf T, none⟩), ?_, .one (.ptr hl (by simp [M3, P3])) rfl⟩
     simp [Instr.indexAt, asIntOf, run_underlying hu, h0, v5 hT hel, ae1, Nat.add_mul]
    ·simp at h
  ·generalize hz : x.cells.toList = z at hv
   cases hv with
   | pu hp =>
    generalize hp0 : Pu.sl lo T ps = q at hp
    have hp' := hp
    rw [← hp0] at hp'
    cases hp with
    | @sl0 _ _ a cap => exact pure ps a 0 cap hp' (by cases x <;> simp_all [Value.cells, d7, PV.isAgg]) (by simpa [J7] using h)
    | @sl _ E' ps' b o cap y hn hc hr hx _ => exact pure ps (some ⟨b, o, none⟩) ps'.length cap hp' (by cases x <;> simp_all [Value.cells, d7, PV.isAgg]) (by simpa [J7] using h)
    | _ => simp at hp0
  ·generalize hz : x.cells.toList = z at hv
   cases hv with
   | @xs _ _ _ _ a hp => exact pure ps a ps.length ps.length hp (by cases x <;> simp_all [Value.cells, d7, PV.isAgg]) (by simpa [J7] using h)
 ·have hel := aq9 hT hlt hu
  have hct := P0 hlt hu
  rcases hcase with ⟨l, path, T, rfl⟩ | ⟨T, v', rfl⟩
  ·generalize hz : x.cells.toList = z at hv
   cases hv with
   | @ptr _ _ _ _ b off R hl hs =>
    simp only [J7] at h
    split at h
    ·rename_i h0
     obtain ⟨e1, e2, e3, e4, e5⟩ := v9 h0.1
     simp only [H0, ← e1, hct] at h
     cases hi : (List.replicate n (P.cellsOf e, e))[i.toNat]? with
     | none => simp only [hi] at h; simp at h
     | some c =>
      obtain ⟨s, e'⟩ := c
      simp only [hi, Option.some.injEq] at h
      subst h
      have hi' := hi
      rw [List.getElem?_replicate] at hi'
      split at hi'
      ·rename_i hlt'
       simp at hi'
       obtain ⟨rfl, rfl⟩ := hi'
       have hx : x = .pointer (some ⟨b, off, none⟩) := by cases x <;> simp_all [Value.cells, d7, PV.isAgg]
       subst hx
       refine ⟨.pointer (some ⟨b, off + i.toNat * P.cellsOf e, none⟩), ?_, .one (.ptr hl ?_) rfl⟩
       ·have : i < (n : Int) := by omega
        simp [Instr.indexAt, Instr.sureAddr, asIntOf, run_underlying hu, h0.2, this, v5 hT hel, ae1]
       ·have := aB1 hs (e1 ▸ hct) hi
        rwa [B3 (Nat.le_of_lt hlt')] at this
      ·simp at hi'
    ·simp at h
  ·generalize hz : x.cells.toList = z at hv
   cases hv with
   | @pp _ _ _ b o y hv ht hl hx =>
    simp only [J7] at h
    split at h
    ·rename_i h0
     obtain ⟨e1, e2, e3, e4, e5⟩ := v9 h0.1
     simp only [H0, ← e1, hct] at h
     cases hi : (List.replicate n (P.cellsOf e, e))[i.toNat]? with
     | none => simp only [hi] at h; simp at h
     | some c =>
      obtain ⟨s, e'⟩ := c
      simp only [hi] at h
      cases hg : D9 v' [i.toNat] with
      | none => simp [hg] at h
      | some u' =>
      simp only [hg, Option.some.injEq] at h
      subst h
      have hi' := hi
      rw [List.getElem?_replicate] at hi'
      split at hi'
      ·rename_i hlt'
       simp at hi'
       obtain ⟨rfl, rfl⟩ := hi'
       have hxp : x = .pointer (some ⟨b, o, none⟩) := by cases x <;> simp_all [Value.cells, d7, PV.isAgg]
       subst hxp
       refine ⟨.pointer (some ⟨b, o + i.toNat * P.cellsOf e, none⟩), ?_, .one ?_ rfl⟩
       ·have : i < (n : Int) := by omega
        simp [Instr.indexAt, Instr.sureAddr, asIntOf, run_underlying hu, h0.2, this, v5 hT hel, ae1]
       ·have := bg5 hv ht hx (e1 ▸ hct) hi rfl hg none
        rwa [B3 (Nat.le_of_lt hlt')] at this
      ·simp at hi'
    ·simp at h
end
section
variable {P : Program}
mutual
def X7 (P : Program) : PV → Option (List Value)
 | .pu p => ac1 P p
 | .nilc => some [.slice none 0 0]
 | .agg T vs => match f7 P T with
  | some cs => T6 P cs vs
  | none => none
 | _ => none
def T6 (P : Program) : List (Nat × TypeId) → List PV → Option (List Value)
 | [], [] => some []
 | (s, t) :: cs, v :: vs => match X7 P v, T6 P cs vs with
  | some x, some y => if x.length = s ∧ tyV P t v = true then some (x ++ y) else none
  | _, _ => none
 | _, _ => none
def ac1 (P : Program) : Pu → Option (List Value)
 | .leaf v => if am5 v then some [v] else none
 | .agg T ps => match f7 P T with
  | some cs => N4 P cs ps
  | none => none
 | _ => none
def N4 (P : Program) : List (Nat × TypeId) → List Pu → Option (List Value)
 | [], [] => some []
 | (s, t) :: cs, p :: ps => match ac1 P p, N4 P cs ps with
  | some x, some y => if x.length = s ∧ tyP P t p = true then some (x ++ y) else none
  | _, _ => none
 | _, _ => none
end
mutual
theorem ar2 {D : Nat → Nat → Prop} {w : World} : ∀ (p : Pu) (x : List Value), ac1 P p = some x → PR P D w p x
 | .leaf v, x, h => by
  simp only [ac1] at h
  split at h
  ·simp at h; subst h; exact .leaf ‹_›
  ·simp at h
 | .agg T ps, x, h => by
  simp only [ac1] at h
  split at h
  ·exact .agg ‹_› (an1 _ _ _ h)
  ·simp at h
 | .sl _ _ _, x, h => by simp [ac1] at h
theorem an1 {D : Nat → Nat → Prop} {w : World} : ∀ (cs : List (Nat × TypeId)) (ps : List Pu) (x : List Value), N4 P cs ps = some x → PRs P D w cs ps x
 | [], [], x, h => by simp [N4] at h; subst h; exact .nil
 | (s, t) :: cs, p :: ps, x, h => by
  simp only [N4] at h
  split at h
  ·rename_i y z hy hz
   split at h
   ·rename_i hc
    simp at h
    subst h;exact .cons (ar2 p y hy) hc.1 hc.2 (an1 cs ps z hz)
   ·simp at h
  ·simp at h
 | [], _ :: _, x, h => by simp [N4] at h
 | _ :: _, [], x, h => by simp [N4] at h
end
mutual
theorem aA8 {C : Cfg} {w : World} : ∀ (v : PV) (x : List Value), X7 P v = some x → VR P C w none v x
 | .pu p, x, h => .pu (ar2 p x (by simpa [X7] using h))
 | .nilc, x, h => by simp [X7] at h; subst h; exact .nilc
 | .agg T vs, x, h => by
  simp only [X7] at h
  split at h
  ·exact .agg ‹_› (ar3 0 _ _ _ h)
  ·simp at h
 | .ptr _ _ _, x, h | .pp _ _, x, h | .arr _ _ _ _, x, h | .mp _ _ _, x, h | .xs _ _ _, x, h | .ow _ _ _, x, h | .hd _ _, x, h | .fl _ _, x, h | .fn _ _ _, x, h | .tup _, x, h => by simp [X7] at h
theorem ar3 {C : Cfg} {w : World} : ∀ (i : Nat) (cs : List (Nat × TypeId)) (vs : List PV) (x : List Value), T6 P cs vs = some x → VRs P C w none i cs vs x
 | _, [], [], x, h => by simp [T6] at h; subst h; exact .nil
 | i, (s, t) :: cs, v :: vs, x, h => by
  simp only [T6] at h
  split at h
  ·rename_i y z hy hz
   split at h
   ·rename_i hc
    simp at h
    subst h;exact .cons (aA8 v y hy) hc.1 hc.2 (ar3 (i + 1) cs vs z hz)
   ·simp at h
  ·simp at h
 | _, [], _ :: _, x, h => by simp [T6] at h
 | _, _ :: _, [], x, h => by simp [T6] at h
end
def aM9 : Value → Value → Bool
 | .bool a, .bool b => a == b
 | .int k a, .int k' b => k == k' && a == b
 | .float k a, .float k' b => k == k' && a == b
 | .complex k a c, .complex k' b d => k == k' && a == b && c == d
 | .string a, .string b => a.data.toList == b.data.toList
 | .pointer none, .pointer none => true
 | .slice none a b, .slice none c d => a == c && b == d
 | .map none, .map none => true
 | .chan none, .chan none => true
 | .nilFunc, .nilFunc => true
 | .nilIface, .nilIface => true
 | _, _ => false
theorem by1 : ∀ {a b : Value}, aM9 a b = true → a = b := by
 intro a b h
 unfold aM9 at h
 split at h <;> simp_all
 ·rename_i x y
  obtain ⟨⟨x⟩⟩ := x
  obtain ⟨⟨y⟩⟩ := y
  simp_all
def aB4 : List Value → List Value → Bool
 | [], [] => true
 | a :: as, b :: bs => aM9 a b && aB4 as bs
 | _, _ => false
theorem aN0 : ∀ {a b : List Value}, aB4 a b = true → a = b
 | [], [], _ => rfl
 | a :: as, b :: bs, h => by
  simp only [aB4, Bool.and_eq_true] at h
  rw [by1 h.1, aN0 h.2]
 | [], _ :: _, h => by simp [aB4] at h
 | _ :: _, [], h => by simp [aB4] at h
def aF0 (P : Program) (t : TypeId) (v : PV) : Bool :=
 decide (t < P.types.size) && tyV P t v &&
 match P.info? t with
 | some i => match i.zero with
  | some z => match X7 P v with
   | some x => aB4 z.cells.toList x && x.length == i.size && d7 z == v.isAgg
   | none => false
  | none => false
 | none => false
theorem aK5 {t : TypeId} {v : PV} (h : aF0 P t v = true) : t < P.types.size ∧ tyV P t v = true ∧ ∃ i z, P.info? t = some i ∧ i.zero = some z ∧ z.cells.size = P.cellsOf t ∧ X7 P v = some z.cells.toList ∧ d7 z = v.isAgg := by
 unfold aF0 at h
 simp only [Bool.and_eq_true, decide_eq_true_eq] at h
 obtain ⟨⟨h1, h2⟩, h3⟩ := h
 refine ⟨h1, h2, ?_⟩
 split at h3
 ·rename_i i hi
  split at h3
  ·rename_i z hz
   split at h3
   ·rename_i x hx
    simp only [Bool.and_eq_true, beq_iff_eq] at h3
    obtain ⟨⟨h4, h5⟩, h6⟩ := h3
    have := aN0 h4
    subst this;exact ⟨i, z, hi, hz, by rw [E8 hi, ← h5, Array.length_toList], hx, h6⟩
   ·simp at h3
  ·simp at h3
 ·simp at h3
structure Seat (P : Program) where
 G : List (Nat × TypeId × Pu)
 Z : TypeId → Option PV
 hT : j3 P = true
 hZ : ∀ t v, Z t = some v → aF0 P t v = true
theorem Z5 (S : Seat P) {t : TypeId} {v : PV} (h : S.Z t = some v) (C : Cfg) (w : World) : ∃ z, (zeroValue t).run P w = .ok z w ∧ VR P C w none v z.cells.toList ∧ d7 z = v.isAgg ∧ z.cells.size = P.cellsOf t ∧ tyV P t v = true ∧ t < P.types.size := by
 obtain ⟨h1, h2, i, z, hi, hz, h3, h4, h5⟩ := aK5 (S.hZ t v h)
 exact ⟨z, by simp [zeroValue, typeInfo, hi, hz], aA8 v _ h4, h5, h3, h2, h1⟩
def X3 : List PV → Option (List Pu)
 | [] => some []
 | .pu p :: vs => match X3 vs with
  | some ps => some (p :: ps)
  | none => none
 | _ :: _ => none
theorem az6 : ∀ {vs : List PV} {ps : List Pu}, X3 vs = some ps → vs = ps.map .pu
 | [], ps, h => by simp [X3] at h; subst h; rfl
 | .pu p :: vs, ps, h => by
  simp only [X3] at h
  split at h
  ·rename_i qs hq
   simp at h
   subst h
   simp [az6 hq]
  ·simp at h
 | .ptr _ _ _ :: _, _, h | .pp _ _ :: _, _, h | .arr _ _ _ _ :: _, _, h | .mp _ _ _ :: _, _, h | .nilc :: _, _, h | .xs _ _ _ :: _, _, h | .ow _ _ _ :: _, _, h | .hd _ _ :: _, _, h | .fl _ _ :: _, _, h | .fn _ _ _ :: _, _, h | .agg _ _ :: _, _, h | .tup _ :: _, _, h => by simp [X3] at h
def Q2 (T : TypeId) (vs : List PV) : PV :=
 match X3 vs with
 | some ps => .pu (.agg T ps)
 | none => .agg T vs
theorem bB2 {C : Cfg} {w : World} {T : TypeId} {cs : List (Nat × TypeId)} {vs : List PV} {x : List Value} (hc : f7 P T = some cs) (h : VRs P C w none 0 cs vs x) : VR P C w none (Q2 T vs) x := by
 unfold Q2
 split
 ·rename_i ps hp
  rw [az6 hp] at h
  exact .pu (.agg hc h.toP)
 ·exact .agg hc h
theorem aP7 (T : TypeId) (vs : List PV) : (Q2 T vs).isAgg = true := by
 unfold Q2; split <;> rfl
def partsV : PV → Option (List PV)
 | .pu (.agg _ ps) => some (ps.map .pu)
 | .agg _ vs => some vs
 | _ => none
def B7 (P : Program) (cs : List (Nat × TypeId)) : List PV → List (Nat × PV) → Option (List PV)
 | vs, [] => some vs
 | vs, (i, v) :: r => match cs[i]? with
  | some (_, t) => if tyV P t v = true then B7 P cs (vs.set i v) r else none
  | none => none
def ag3 (P : Program) (S : Seat P) (T : TypeId) (parts : List (Nat × PV)) : Option PV :=
 match S.Z T with
 | some z => match partsV z, f7 P T with
  | some vs, some cs => match B7 P cs vs parts with
   | some us => some (Q2 T us)
   | none => none
  | _, _ => none
 | none => none
theorem aS5 (off : Nat) : ∀ (l : List Value) (k : Nat) (cells : Array Value) (pre mid post : List Value), cells.toList = pre ++ (mid ++ post) → pre.length = off + k → mid.length = l.length →
  ((l.zipIdx k).foldl (fun (cs : Array Value) (x : Value × Nat) => cs.setIfInBounds (off + x.2) x.1) cells).toList = pre ++ (l ++ post)
 | [], k, cells, pre, mid, post, h, _, hl => by
  have : mid = [] := by simpa using hl
  subst this
  simpa using h
 | v :: l, k, cells, pre, mid, post, h, hp, hl => by
  cases mid with
  | nil => simp at hl
  | cons m mid =>
   simp only [List.zipIdx_cons, List.foldl_cons]
   rw [aS5 off l (k + 1) _ (pre ++ [v]) mid post ?_ (by simp [hp]; omega) (by simpa using hl)]
   ·simp
   ·rw [Array.toList_setIfInBounds, h, ← hp]
    simp
theorem ax8 (place : Nat → Option (Nat × Nat)) {C : Cfg} {w : World} (cs_ : List (Nat × TypeId)) (hplace : ∀ (i s : Nat) (t : TypeId), cs_[i]? = some (s, t) → place i = some (H6 cs_ i, s)) :
  ∀ (parts : List (Nat × PV)) (xs : List (Nat × Value)) (vs us : List PV) (cells : Array Value), VRs P C w none 0 cs_ vs cells.toList → B7 P cs_ vs parts = some us →
   parts.length = xs.length → (∀ (j i : Nat) (v : PV) (x : Nat × Value), parts[j]? = some (i, v) → xs[j]? = some x → x.1 = i ∧ VR P C w none v x.2.cells.toList) → (∀ (i s : Nat) (t : TypeId), cs_[i]? = some (s, t) → s = P.cellsOf t) → j3 P = true →
   ∃ cells', Instr.fill place cells xs = some cells' ∧ VRs P C w none 0 cs_ us cells'.toList
 | [], [], vs, us, cells, h, hs, _, _, _, _ => by
  simp [B7] at hs
  subst hs;exact ⟨cells, rfl, h⟩
 | (i, v) :: parts, (i', x) :: xs, vs, us, cells, h, hs, hl, hx, hsz, hT => by
  simp only [B7] at hs
  cases hi : cs_[i]? with
  | none => simp [hi] at hs
  | some c =>
   obtain ⟨s, t⟩ := c
   simp only [hi] at hs
   split at hs
   ·rename_i hty
    obtain ⟨e1, hv⟩ := hx 0 i v (i', x) rfl rfl
    simp only at e1 hv
    subst e1
    obtain ⟨u, pre, mid, post, g1, g2, g3, g4, _, g6, g7⟩ := VRs.at h hi
    have hxl : x.cells.size = s := by
     rw [← Array.length_toList]
     cases hc : f7 P t with
     | some cs' => rw [hv.length_ty hT hty hc, hsz _ _ _ hi]
     | none =>
      obtain ⟨y, hy, _⟩ := hv.length_one hty hc
      rw [hy]
      have : VR P C w none u mid := by simpa using ‹VR P C w _ u mid›
      obtain ⟨z, hz, _⟩ := this.length_one g6 hc
      rw [← g4, hz]
      rfl
    have hnew := g7 (C' := C) (w' := w) (u' := v) (mid' := x.cells.toList) (fun j v' _ hj => ⟨fun _ _ hD => ⟨hD, rfl⟩, fun _ _ => rfl, fun b q k hb hq => ⟨hb, rfl⟩, TyKeep.refl w⟩) (by simpa using hv) (by rw [Array.length_toList, hxl]) hty
    have hcl : cells.size = pre.length + (s + post.length) := by rw [← Array.length_toList, g2]; simp [g4]
    have hfold : (x.cells.zipIdx.foldl (fun (cs : Array Value) (y : Value × Nat) => cs.setIfInBounds (H6 cs_ i' + y.2) y.1) cells).toList = pre ++ (x.cells.toList ++ post) := by
     rw [← Array.foldl_toList, Array.toList_zipIdx];exact aS5 (H6 cs_ i') x.cells.toList 0 cells pre mid post g2 (by simpa using g3) (by rw [g4, Array.length_toList, hxl])
    obtain ⟨cells', f1, f2⟩ := ax8 place cs_ hplace parts xs (vs.set i' v) us (x.cells.zipIdx.foldl (fun (cs : Array Value) (y : Value × Nat) => cs.setIfInBounds (H6 cs_ i' + y.2) y.1) cells) (by
     rw [hfold]; exact hnew) hs (by simpa using hl) (fun j => hx (j + 1)) hsz hT
    refine ⟨cells', ?_, f2⟩
    simp only [Instr.fill, hplace _ _ _ hi]
    rw [if_neg (by simp [hxl, hcl]; omega)];exact f1
   ·simp at hs
 | [], _ :: _, _, _, _, _, _, hl, _, _, _ => by simp at hl
 | _ :: _, [], _, _, _, _, _, hl, _, _, _ => by simp at hl
end
section
variable {P : Program}
theorem VR.partsV {C : Cfg} {w : World} {pl : Option Place} {v : PV} {x : List Value} {T : TypeId} {cs : List (Nat × TypeId)} (h : VR P C w pl v x) (ht : tyV P T v = true) (hc : f7 P T = some cs) :
  ∃ vs, Hs.partsV v = some vs ∧ VRs P C w pl 0 cs vs x := by
 obtain ⟨vs, h1, _, h3⟩ := h.parts ht hc
 rcases h3 with ⟨T0, ps, rfl, rfl⟩ | ⟨T0, rfl⟩
 ·exact ⟨_, rfl, h1⟩
 ·exact ⟨_, rfl, h1⟩
theorem ae7 {α β : Type} (f : α → Sem β) (g : α → β) (w : World) : ∀ (l : List α), (∀ a ∈ l, (f a).run P w = .ok (g a) w) → (l.mapM f).run P w = .ok (l.map g) w
 | [], _ => by simp
 | a :: l, h => by
  rw [List.mapM_cons]
  simp [h a (by simp), ae7 f g w l (fun b hb => h b (by simp [hb]))]
theorem bt9 (S : Seat P) {C : Cfg} {w : World} {T : TypeId} {parts : List (Nat × PV)} {xs : List (Nat × Value)} {u : PV} (h : ag3 P S T parts = some u) (hl : parts.length = xs.length)
  (hx : ∀ (j i : Nat) (v : PV) (x : Nat × Value), parts[j]? = some (i, v) → xs[j]? = some x → x.1 = i ∧ VR P C w none v x.2.cells.toList) :
  ∃ y, (Instr.build T xs.toArray).run P w = .ok y w ∧ VW P C w u y := by
 unfold ag3 at h
 cases hz : S.Z T with
 | none => simp [hz] at h
 | some z =>
  simp only [hz] at h
  obtain ⟨zv, e1, e2, e3, e4, e5, e6⟩ := Z5 S hz C w
  cases hc : f7 P T with
  | none => rw [hc] at h; cases partsV z <;> simp at h
  | some cs =>
   obtain ⟨vs, p1, p2⟩ := e2.partsV e5 hc
   simp only [p1, hc] at h
   cases hs : B7 P cs vs parts with
   | none => simp [hs] at h
   | some us =>
    simp only [hs, Option.some.injEq] at h
    subst h
    have hu : ∃ d, P.underlying T = some d ∧ ((∃ fs, d = .struct fs) ∨ ∃ n e, d = .array n e) := by
     unfold f7 at hc
     rw [if_neg (Nat.not_le_of_lt e6)] at hc
     cases hu : P.underlying T with
     | none => simp [hu] at hc
     | some d => cases d <;> simp [hu] at hc <;> exact ⟨_, rfl, by simp⟩
    obtain ⟨d, hu, hd⟩ := hu
    have hcs : ∀ (i s : Nat) (t : TypeId), cs[i]? = some (s, t) → s = P.cellsOf t := fun i s t hi => bd0 hc hi
    have done : ∀ (place : Nat → Option (Nat × Nat)), (∀ (i s : Nat) (t : TypeId), cs[i]? = some (s, t) → place i = some (H6 cs i, s)) → ∃ cells', Instr.fill place zv.cells xs = some cells' ∧ VW P C w (Q2 T us) (.agg cells') := fun place hp => by
     obtain ⟨cells', f1, f2⟩ := ax8 place cs hp parts xs vs us zv.cells p2 hs hl hx hcs S.hT
     exact ⟨cells', f1, .one (bB2 hc f2) (by simp [d7, aP7])⟩
    rcases hd with ⟨fs, rfl⟩ | ⟨n, e, rfl⟩
    ·have hct := L3 e6 hu
     obtain rfl := Option.some.inj (hc.symm.trans hct)
     obtain ⟨cells', f1, f2⟩ := done ((fs.toList.map fun f => (f.offset, P.cellsOf f.type)).toArray[·]?) (fun i s t hi => by
      simp only [List.getElem?_map, Option.map_eq_some_iff] at hi
      obtain ⟨f, hf, hfe⟩ := hi
      simp at hfe
      obtain ⟨o1, _, _⟩ := G4 S.hT e6 hu (by simpa using hf)
      simp at hf
      simp [hf, o1, hfe.1])
     refine ⟨_, ?_, f2⟩
     have hpl : (fs.mapM fun f => do pure (f.offset, ← Go.sizeOf f.type) : Sem (Array (Nat × Nat))).run P w = .ok (fs.toList.map fun f => (f.offset, P.cellsOf f.type)).toArray w := by
      rw [Array.mapM_eq_mapM_toList]
      have := ae7 (P := P) (fun f : Field => do pure (f.offset, ← Go.sizeOf f.type)) (fun f => (f.offset, P.cellsOf f.type)) w fs.toList (fun f hf => by
       obtain ⟨i, hi⟩ := List.getElem?_of_mem hf
       obtain ⟨_, _, o3⟩ := G4 S.hT e6 hu (by simpa using hi)
       simp [v5 S.hT o3])
      simp only [Sem.run_map, this, Result.andThen_ok]
     simp only [Instr.build, Sem.run_bind, e1, Result.andThen_ok, run_underlying hu, hpl, f1]
     simp
    ·have hct := P0 e6 hu
     obtain rfl := Option.some.inj (hc.symm.trans hct)
     have hel := aq9 S.hT e6 hu
     obtain ⟨cells', f1, f2⟩ := done (fun i => some (i * P.cellsOf e, P.cellsOf e)) (fun i s t hi => by
      rw [List.getElem?_replicate] at hi
      split at hi
      ·rename_i hlt
       simp at hi
       rw [B3 (Nat.le_of_lt hlt), hi.1]
      ·simp at hi)
     refine ⟨_, ?_, f2⟩
     simp only [Instr.build, Sem.run_bind, e1, Result.andThen_ok, run_underlying hu, v5 S.hT hel, f1]
     simp
theorem aB7 (z : Array Value) : ∀ (n : Nat), ((Array.range (n * z.size)).map (z[· % z.size]!)).toList = (List.replicate n z.toList).flatten := by
 intro n
 have key : ∀ n, (List.range (n * z.size)).map (fun i => z[i % z.size]!) = (List.replicate n z.toList).flatten := by
  intro n
  induction n with
  | zero => simp
  | succ n ih =>
   rw [Nat.add_mul, Nat.one_mul, List.range_add, List.map_append, ih, List.replicate_succ', List.flatten_append]
   congr 1
   simp only [List.map_map, List.flatten_cons, List.flatten_nil, List.append_nil]
   apply List.ext_getElem
   ·simp
   ·intro i h1 h2
    simp at h1
    simp [Nat.mod_eq_of_lt h1, h1]
 rw [Array.toList_map, Array.toList_range];exact key n
theorem VRs.replicate {C : Cfg} {w : World} {v : PV} {x : List Value} {s : Nat} {t : TypeId} (h : VR P C w none v x) (hs : x.length = s) (ht : tyV P t v = true) : ∀ (n i : Nat), VRs P C w none i (List.replicate n (s, t)) (List.replicate n v) (List.replicate n x).flatten
 | 0, _ => .nil
 | n + 1, i => by
  simp only [List.replicate_succ, List.flatten_cons]
  exact .cons h hs ht (VRs.replicate h hs ht n (i + 1))
def aj8 (P : Program) (S : Seat P) (lo : Nat) (T : TypeId) (n : Nat) (parts : List (Nat × PV)) : Option PV :=
 match P.underlying T with
 | some (.slice E) => match S.Z E with
  | some z => match B7 P (List.replicate n (P.cellsOf E, E)) (List.replicate n z) parts with
   | some us => match X3 us with
    | some ps => if T < P.types.size ∧ n * P.cellsOf E ≤ 16777216 then some (.xs lo E ps) else none
    | none => none
   | none => none
  | none => none
 | _ => none
def Cfg.pure (C : Cfg) (b k : Nat) : Cfg := { C with D := fun b' o => C.D b' o ∨ (b' = b ∧ o < k) }
theorem SatC.ownLt {X : Ctx} {C : Cfg} {st : St} {a : Act} {w : World} (h : SatC P X C st a w) : ∀ b q k, C.own b = some (q, k) → b < w.heap.size := fun b q k hb => (h.own b q k hb).2.1
theorem bo9 {C : Cfg} {w w' : World} {k : Nat} (hs : w'.heap.size = w.heap.size + 1) (hown : ∀ b q k, C.own b = some (q, k) → b < w.heap.size) : CGrew C (C.pure w.heap.size k) w w' where
 D b o h := .inl h
 Dnew b o h := by
  rcases h with h | ⟨rfl, _⟩
  ·exact .inl h
  ·exact .inr ⟨Nat.le_refl _, by omega⟩
 ρ := rfl
 own b h := rfl
 ownNew b q' k' h hge := by have := hown _ _ _ h; omega
theorem aU8 (S : Seat P) {lo : Nat} {X : Ctx} {C : Cfg} {st : St} {a : Act} {w : World} (h : SatC P X C st a w) {T : TypeId} {n : Nat} {parts : List (Nat × PV)} {xs : List (Nat × Value)} {u : PV} (hlo : lo ≤ X.w0.heap.size) (hb : aj8 P S lo T n parts = some u) (hl : parts.length = xs.length)
  (hx : ∀ (j i : Nat) (v : PV) (x : Nat × Value), parts[j]? = some (i, v) → xs[j]? = some x → x.1 = i ∧ VR P C w none v x.2.cells.toList) :
  ∃ y w' C', (Instr.buildSlice T n xs.toArray).run P w = .ok y w' ∧ Grew w w' ∧ CGrew C C' w w' ∧ VW P C' w' u y := by
 unfold aj8 at hb
 split at hb
 ·rename_i E hu
  cases hz : S.Z E with
  | none => simp [hz] at hb
  | some z =>
   simp only [hz] at hb
   obtain ⟨zv, e1, e2, e3, e4, e5, e6⟩ := Z5 S hz C w
   cases hs : B7 P (List.replicate n (P.cellsOf E, E)) (List.replicate n z) parts with
   | none => simp [hs] at hb
   | some us =>
    simp only [hs] at hb
    cases hp : X3 us with
    | none => simp [hp] at hb
    | some ps =>
     simp only [hp] at hb
     split at hb
     ·rename_i hc
      simp at hb
      subst hb
      have hrep : VRs P C w none 0 (List.replicate n (P.cellsOf E, E)) (List.replicate n z) (List.replicate n zv.cells.toList).flatten := VRs.replicate e2 (by rw [Array.length_toList, e4]) e5 n 0
      have hcs : ∀ (i s : Nat) (t : TypeId), (List.replicate n (P.cellsOf E, E))[i]? = some (s, t) → s = P.cellsOf t ∧ i < n := fun i s t hi => by
       rw [List.getElem?_replicate] at hi
       split at hi
       ·simp at hi; rw [← hi.1, ← hi.2]; exact ⟨rfl, ‹_›⟩
       ·simp at hi
      let cells0 : Array Value := (Array.range (n * P.cellsOf E)).map (zv.cells[· % zv.cells.size]!)
      have hcells0 : cells0.toList = (List.replicate n zv.cells.toList).flatten := by
       simp only [cells0, ← e4]
       exact aB7 zv.cells n
      obtain ⟨cells', f1, f2⟩ := ax8 (fun i => some (i * P.cellsOf E, P.cellsOf E)) (List.replicate n (P.cellsOf E, E)) (fun i s t hi => by
       obtain ⟨q1, q2⟩ := hcs i s t hi
       rw [List.getElem?_replicate, if_pos q2] at hi
       simp at hi
       rw [B3 (Nat.le_of_lt q2), hi.1]) parts xs (List.replicate n z) us cells0 (by rw [hcells0]; exact hrep) hs hl hx (fun i s t hi => (hcs i s t hi).1) S.hT
      rw [az6 hp] at f2
      have hpr := f2.toP
      have hn : n = ps.length := by have := hpr.length.2; simpa using this.symm
      have hlen := hpr.length.1
      simp at hlen
      have hrun : (Instr.buildSlice T n xs.toArray).run P w = .ok (.slice (some ⟨w.heap.size, 0, none⟩) n n) (w.alloc (.cells cells' E)) := by
       have h24 : ¬ (n * P.cellsOf E > 2 ^ 24) := by have := hc.2; omega
       by_cases h0 : n * P.cellsOf E = 0
       ·have hcz : cells0 = #[] := by
         apply Array.ext'
         simp [cells0, h0]
        rw [hcz] at f1
        simp only [Instr.buildSlice, Sem.run_bind, run_underlying hu, Result.andThen_ok, v5 S.hT e6, if_neg h24, if_pos h0]
        have he : (Array.map (fun x => (#[] : Array Value)[x % (#[] : Array Value).size]!) (Array.range (n * P.cellsOf E))) = #[] := by apply Array.ext'; simp [h0]
        simp only [Sem.run_pure, Result.andThen_ok, he, f1]
        simp [newRow]
       ·simp only [Instr.buildSlice, Sem.run_bind, run_underlying hu, Result.andThen_ok, v5 S.hT e6, if_neg h24, if_neg h0, e1]
        simp only [Sem.run_pure, Result.andThen_ok]
        have he : Array.map (fun x => zv.cells[x % zv.cells.size]!) (Array.range (n * P.cellsOf E)) = cells0 := rfl
        simp only [he, f1]
        simp [newRow]
      have hg := Grew.alloc w (.cells cells' E)
      have hcg := bo9 (C := C) (w := w) (w' := w.alloc (.cells cells' E)) (k := n * P.cellsOf E) (P1 _ _) h.ownLt
      refine ⟨_, _, C.pure w.heap.size (n * P.cellsOf E), hrun, hg, hcg, .one ?_ rfl⟩
      have hmono : PRs P (C.pure w.heap.size (n * P.cellsOf E)).D (w.alloc (.cells cells' E)) (List.replicate n (P.cellsOf E, E)) ps cells'.toList :=
       hpr.mono (fun b o hD => ⟨.inl hD, hg.cell (h.dLt b o hD)⟩) hg.ty
      subst hn
      show VR P _ _ none (.xs lo E ps) [Value.slice (some ⟨w.heap.size, 0, none⟩) ps.length ps.length]
      by_cases hps : ps = []
      ·subst hps
       exact .xs .sl0
      ·refine .xs (.sl hps (Nat.le_refl _) hmono (fun j v hj => ⟨?_, .inr ⟨rfl, ?_⟩⟩) (.inr ⟨Nat.le_trans hlo h.framed.size, rfl, _, alloc_heap_new w (.cells cells' E)⟩))
       ·rw [Nat.zero_add]
        refine (m8 (alloc_heap_new w (.cells cells' E))).trans ?_
        simpa using hj
       ·have := (List.getElem?_eq_some_iff.1 hj).1
        rw [Array.length_toList, hlen] at this
        omega
     ·simp at hb
 ·simp at hb
end
section
variable {P : Program} {lo : Nat}
theorem VW.iv_inv {C : Cfg} {w : World} {k : IntKind} {n : Int} {x : Value} (h : VW P C w (iv k n) x) : x = .int k n := h.leaf_inv.1
theorem VW.bv_inv {C : Cfg} {w : World} {b : Bool} {x : Value} (h : VW P C w (bv b) x) : x = .bool b := h.leaf_inv.1
theorem VW.iv_mk {C : Cfg} {w : World} {k : IntKind} {n : Int} : VW P C w (iv k n) (.int k n) := VW.leaf rfl
theorem VW.bv_mk {C : Cfg} {w : World} {b : Bool} : VW P C w (bv b) (.bool b) := VW.leaf rfl
theorem VW.agg_inv {C : Cfg} {w : World} {v : PV} {x : Value} (h : VW P C w v x) (hv : v.isAgg = true) : ∃ cs, x = .agg cs ∧ VR P C w none v cs.toList := by
 cases h with
 | one h hs =>
  rw [hv] at hs
  cases x <;> simp [d7] at hs
  exact ⟨_, rfl, h⟩
 | tup h => simp [PV.isAgg] at hv
theorem VW.cell {C : Cfg} {w : World} {v : PV} {x : Value} (h : VW P C w v x) (hv : v.isAgg = false) (ht : ∀ vs, v ≠ .tup vs) : VR P C w none v [x] := by
 cases h with
 | one h hs =>
  rw [hv] at hs
  cases x <;> simp_all [d7, Value.cells]
 | tup h => exact absurd rfl (ht _)
theorem bR8 (hT : j3 P = true) {C : Cfg} {w : World} {op : BinOp} {t : TypeId} {x y : PV} {u : PV} (ox oy : Operand) {vx vy : Value} (h : R9 P op t x y = some u) (hx : VW P C w x vx) (hy : VW P C w y vy) :
  ∃ z, (do eqGuard op t ox oy vx vy; binOp op t vx vy : Sem Value).run P w = .ok z w ∧ VW P C w u z := by
 unfold R9 at h
 split at h
 ·rename_i k a k' b
  obtain rfl := hx.iv_inv
  obtain rfl := hy.iv_inv
  have hg : (eqGuard op t ox oy (.int k a) (.int k' b)).run P w = .ok () w := by cases op <;> rfl
  simp only [Sem.run_bind, hg, Result.andThen_ok]
  split at h
  ·split at h
   ·simp at h
   ·rename_i hn
    simp at h
    subst h;exact ⟨_, by simp [binOp, Op.shift, hn], VW.iv_mk⟩
  ·split at h
   ·simp at h
   ·rename_i hn
    simp at h
    subst h;exact ⟨_, by simp [binOp, Op.shift, hn], VW.iv_mk⟩
  ·rename_i n1 n2
   split at h
   ·rename_i hk
    subst hk
    cases op <;> simp only [aw9] at h <;> first
     | (exact absurd rfl n1)
     | (exact absurd rfl n2)
     | (simp only [Option.some.injEq] at h; subst h; exact ⟨_, by simp [binOp, Op.intArith, Op.intBits, Op.intCmp], VW.iv_mk⟩)
     | (simp only [Option.some.injEq] at h; subst h; exact ⟨_, by simp [binOp, Op.intCmp], VW.bv_mk⟩)
     | (split at h; (simp at h); (rename_i hn; simp only [Option.some.injEq] at h; subst h; exact ⟨_, by simp [binOp, Op.intDiv, hn], VW.iv_mk⟩))
   ·simp at h
 ·rename_i a b
  obtain rfl := hx.bv_inv
  obtain rfl := hy.bv_inv
  have hg : (eqGuard op t ox oy (.bool a) (.bool b)).run P w = .ok () w := by cases op <;> rfl
  simp only [Sem.run_bind, hg, Result.andThen_ok]
  split at h
  ·split at h
   ·rename_i hu
    simp at h
    subst h
    refine ⟨_, ?_, VW.bv_mk⟩
    simp only [binOp, Op.equal, Op.maxDepth, Sem.run_bind]
    rw [run_equalIn_bool w 9999 t a b hu]
    rfl
   ·simp at h
  ·split at h
   ·rename_i hu
    simp at h
    subst h
    refine ⟨_, ?_, VW.bv_mk⟩
    simp only [binOp, Op.equal, Op.maxDepth, Sem.run_bind]
    rw [run_equalIn_bool w 9999 t a b hu]
    simp
    cases a <;> cases b <;> rfl
   ·simp at h
  ·simp at h
 ·rename_i a b
  obtain ⟨rfl, _⟩ := hx.leaf_inv
  obtain ⟨rfl, _⟩ := hy.leaf_inv
  have hg : (eqGuard op t ox oy (.string a) (.string b)).run P w = .ok () w := by cases op <;> rfl
  simp only [Sem.run_bind, hg, Result.andThen_ok]
  split at h
  ·simp at h
   subst h;exact ⟨_, by simp [binOp, Op.stringOp], VW.bv_mk⟩
  ·simp at h
   subst h;exact ⟨_, by simp [binOp, Op.stringOp, bne], VW.bv_mk⟩
  ·simp at h
 ·rename_i T ps T' qs
  split at h
  ·rename_i hc
   obtain ⟨h1, h2, h3, h4⟩ := hc
   obtain ⟨xs, rfl, hxr⟩ := hx.agg_inv rfl
   obtain ⟨ys, rfl, hyr⟩ := hy.agg_inv rfl
   have hg : (eqGuard op t ox oy (.agg xs) (.agg ys)).run P w = .ok () w := run_eqGuard_agg w op t ox oy xs ys h1
   simp only [Sem.run_bind, hg, Result.andThen_ok]
   split at h
   ·rename_i b hb
    simp at h
    subst h
    have := am6 hT 100 t h2 10000 (by omega) (.agg T ps) (.agg T' qs) b (.agg xs) (.agg ys) w hxr.pu_inv rfl h3 hyr.pu_inv rfl h4 hb
    exact ⟨_, by simp [binOp, Op.equal, Op.maxDepth, this], VW.bv_mk⟩
   ·rename_i b hb
    simp at h
    subst h
    have := am6 hT 100 t h2 10000 (by omega) (.agg T ps) (.agg T' qs) b (.agg xs) (.agg ys) w hxr.pu_inv rfl h3 hyr.pu_inv rfl h4 hb
    exact ⟨_, by simp [binOp, Op.equal, Op.maxDepth, this], VW.bv_mk⟩
   ·simp at h
  ·simp at h
 ·simp at h
def unV (op : UnOp) : PV → Option PV
 | .pu (.leaf (.bool b)) => match op with
  | .not => some (bv (!b))
  | _ => none
 | .pu (.leaf (.int k n)) => match op with
  | .neg => some (iv k (k.wrap (0 - n)))
  | _ => none
 | _ => none
theorem bW0 {C : Cfg} {w : World} {op : UnOp} {x u : PV} {vx : Value} (h : unV op x = some u) (hx : VW P C w x vx) : ∃ z, (Op.unary op vx).run P w = .ok z w ∧ VW P C w u z := by
 unfold unV at h
 split at h
 ·obtain rfl := hx.bv_inv
  split at h
  ·simp at h; subst h; exact ⟨_, by simp [Op.unary], VW.bv_mk⟩
  ·simp at h
 ·obtain rfl := hx.iv_inv
  split at h
  ·simp at h; subst h; exact ⟨_, by simp [Op.unary, Op.intArith], VW.iv_mk⟩
  ·simp at h
 ·simp at h
def X2 (P : Program) (s d : TypeId) : PV → Option PV
 | .pu (.leaf (.int _ n)) => match P.underlying s, P.underlying d with
  | some _, some (.int k) => some (iv k (k.wrap n))
  | _, _ => none
 | .pu (.leaf (.string b)) => match P.underlying s, P.underlying d with
  | some .string, some .string => some (.pu (.leaf (.string b)))
  | _, _ => none
 | _ => none
theorem bG5 {C : Cfg} {w : World} {s d : TypeId} {x u : PV} {vx : Value} (h : X2 P s d x = some u) (hx : VW P C w x vx) : ∃ z, (convert s d vx).run P w = .ok z w ∧ VW P C w u z := by
 unfold X2 at h
 split at h
 ·rename_i k0 n
  obtain rfl := hx.iv_inv
  split at h
  ·rename_i ks k h1 h2
   simp at h
   subst h
   refine ⟨_, ?_, VW.iv_mk⟩
   simp only [convert, Sem.run_bind, run_underlying h1, run_underlying h2, Result.andThen_ok]
   simp [Conv.intToInt]
  ·simp at h
 ·rename_i b
  obtain ⟨rfl, hf⟩ := hx.leaf_inv
  split at h
  ·rename_i h1 h2
   simp at h
   subst h
   refine ⟨_, ?_, VW.leaf hf⟩
   simp only [convert, Sem.run_bind, run_underlying h1, run_underlying h2, Result.andThen_ok]
   simp
  ·simp at h
 ·simp at h
def bz8 (c : PV) (x y : PV) : Option PV :=
 match c with
 | .pu (.leaf (.bool c)) => match x, y with
  | .pu (.leaf (.bool a)), .pu (.leaf (.bool b)) => some (bv (bif c then a else b))
  | x, y => bif c then some x else some y
 | _ => none
theorem bz7 {C : Cfg} {w : World} {c x y u : PV} {vc vx vy : Value} (h : bz8 c x y = some u) (hc : VW P C w c vc) (hx : VW P C w x vx) (hy : VW P C w y vy) :
  ∃ b, vc = .bool b ∧ VW P C w u (if b then vx else vy) := by
 unfold bz8 at h
 split at h
 ·rename_i b
  refine ⟨b, hc.bv_inv, ?_⟩
  split at h
  ·obtain rfl := hx.bv_inv
   obtain rfl := hy.bv_inv
   simp at h
   subst h
   cases b <;> exact VW.bv_mk
  ·cases b <;> simp at h <;> subst h
   ·simpa using hy
   ·simpa using hx
 ·simp at h
def ai9 (P : Program) (T : TypeId) (f : Nat) (v : PV) : Option PV :=
 if tyV P T v = true ∧ T < P.types.size then (match P.underlying T with
  | some (.struct _) => D9 v [f]
  | _ => none) else none
theorem bs2 (hT : j3 P = true) {C : Cfg} {w : World} {T : TypeId} {f : Nat} {v u : PV} {x : Value} (h : ai9 P T f v = some u) (hv : VW P C w v x) : ∃ y, (Instr.field T x f).run P w = .ok y w ∧ VW P C w u y := by
 unfold ai9 at h
 split at h
 ·rename_i hc
  split at h
  ·rename_i fs hu
   have hct := L3 hc.2 hu
   have hag : v.isAgg = true := by
    have := hc.1
    cases v with
    | pu p => cases p <;> simp_all [tyV, tyP, PV.isAgg]
    | _ => simp_all [tyV, PV.isAgg]
   obtain ⟨cs, rfl, hr⟩ := hv.agg_inv hag
   obtain ⟨vs, p1, p2, _⟩ := hr.parts hc.1 hct
   have hvf : vs[f]? = some u := (p2 f).trans h
   have hlt : f < vs.length := (List.getElem?_eq_some_iff.1 hvf).1
   rw [p1.length.2] at hlt
   simp at hlt
   have hf : fs[f]? = some fs[f] := by simp [hlt]
   obtain ⟨o1, o2, o3⟩ := G4 hT hc.2 hu hf
   obtain ⟨u', pre, mid, post, g1, g2, g3, g4, g5, g6, _⟩ := VRs.at p1 (i := f) (s := P.cellsOf fs[f].type) (t := fs[f].type) (by simp [hf])
   rw [hvf] at g1
   simp at g1
   subst g1
   obtain ⟨y, e1, e2, e3⟩ := O4 (w := w) hT o3 g2 (g3.trans o1.symm) g5 g6
   refine ⟨y, ?_, .one (by rw [e2]; simpa using g5) e3⟩
   simp [Instr.field, run_underlying hu, hf, asAgg, e1]
  ·simp at h
 ·simp at h
def ax0 (P : Program) (T : TypeId) (i : Int) (v : PV) : Option PV :=
 match v with
 | .pu (.leaf (.string s)) => match P.underlying T with
  | some .string => if 0 ≤ i then (match s[i.toNat]? with
   | some b => some (iv .u8 b.toNat)
   | none => none) else none
  | _ => none
 | v => if tyV P T v = true ∧ T < P.types.size ∧ 0 ≤ i then (match P.underlying T with
  | some (.array _ _) => D9 v [i.toNat]
  | _ => none) else none
theorem bq9 (hT : j3 P = true) {C : Cfg} {w : World} {T : TypeId} {k : IntKind} {i : Int} {v u : PV} {x : Value} (h : ax0 P T i v = some u) (hv : VW P C w v x) : ∃ y, (Instr.index T x (.int k i)).run P w = .ok y w ∧ VW P C w u y := by
 unfold ax0 at h
 split at h
 ·rename_i s
  obtain ⟨rfl, _⟩ := hv.leaf_inv
  split at h
  ·rename_i hu
   split at h
   ·rename_i hc
    cases hb : s[i.toNat]? with
    | none => simp [hb] at h
    | some b =>
     simp only [hb, Option.some.injEq] at h
     subst h;exact ⟨_, by simp [Instr.index, asIntOf, run_underlying hu, hc, hb], VW.iv_mk⟩
   ·simp at h
  ·simp at h
 ·split at h
  ·rename_i hc
   split at h
   ·rename_i n e hu
    have hct := P0 hc.2.1 hu
    have hag : v.isAgg = true := by
     have := hc.1
     cases v with
     | pu p => cases p <;> simp_all [tyV, tyP, PV.isAgg]
     | _ => simp_all [tyV, PV.isAgg]
    obtain ⟨cs, rfl, hr⟩ := hv.agg_inv hag
    obtain ⟨vs, p1, p2, _⟩ := hr.parts hc.1 hct
    have hvf : vs[i.toNat]? = some u := (p2 _).trans h
    have hlt : i.toNat < vs.length := (List.getElem?_eq_some_iff.1 hvf).1
    rw [p1.length.2] at hlt
    simp at hlt
    obtain ⟨u', pre, mid, post, g1, g2, g3, g4, g5, g6, _⟩ := VRs.at p1 (i := i.toNat) (s := P.cellsOf e) (t := e) (by simp [hlt])
    rw [hvf] at g1
    simp at g1
    subst g1
    rw [B3 (Nat.le_of_lt hlt)] at g3
    have hel := aq9 hT hc.2.1 hu
    obtain ⟨y, e1, e2, e3⟩ := O4 (w := w) hT hel g2 g3 g5 g6
    refine ⟨y, ?_, .one (by rw [e2]; simpa using g5) e3⟩
    have hin : i < (n : Int) := by omega
    simp [Instr.index, asIntOf, run_underlying hu, hc.2.2, hin, v5 hT hel, e1]
   ·simp at h
  ·simp at h
theorem aT2 {C : Cfg} {w : World} {vs : List PV} {i : Nat} {u : PV} {x : Value} (h : vs[i]? = some u) (hv : VW P C w (.tup vs) x) : ∃ y, (Instr.extract x i).run P w = .ok y w ∧ VW P C w u y := by
 cases hv with
 | one h1 _ => cases h1
 | @tup _ xs hf =>
  have : ∀ (vs : List PV) (ys : List Value) (i : Nat), VFs P C w vs ys → vs[i]? = some u → ∃ y, ys[i]? = some y ∧ VW P C w u y := by
   intro vs ys i hf
   induction vs generalizing ys i with
   | nil => intro h; simp at h
   | cons v vs ih =>
    intro h
    cases hf with
    | cons h1 h2 h3 =>
     cases i with
     | zero => simp at h; subst h; exact ⟨_, by simp, .one h1 h2⟩
     | succ i => simp at h; obtain ⟨y, e1, e2⟩ := ih _ i h3 h; exact ⟨y, by simpa using e1, e2⟩
  obtain ⟨y, e1, e2⟩ := this vs xs.toList i hf h
  exact ⟨y, by simp [Instr.extract] ; rw [show xs[i]? = some y by simpa using e1]; rfl, e2⟩
def aQ6 (P : Program) (t : TypeId) (v : PV) : Option PV :=
 match P.underlying t, v with
 | some .string, .pu (.leaf (.string s)) => some (iv .i64 s.size)
 | some (.slice _), .pu (.sl _ _ ps) => some (iv .i64 ps.length)
 | some (.slice _), .xs _ _ ps => some (iv .i64 ps.length)
 | some (.slice _), .nilc => some (iv .i64 0)
 | some (.slice _), .arr _ _ _ n => some (iv .i64 n)
 | some (.slice _), .hd _ n => some (iv .i64 n)
 | some (.array n _), _ => some (iv .i64 n)
 | _, _ => none
theorem aM1 {C : Cfg} {w : World} {E : TypeId} {ps : List Pu} {x : Value} (h : VW P C w (.pu (.sl lo E ps)) x) : ∃ a cap, x = .slice a ps.length cap ∧ PR P C.D w (.sl lo E ps) [.slice a ps.length cap] := by
 have hc := h.cell rfl (by simp)
 have hp := hc.pu_inv
 generalize hz : ([x] : List Value) = z at hp
 cases hp with
 | sl0 => simp at hz; subst hz; exact ⟨_, _, rfl, .sl0⟩
 | sl a b c d e => simp at hz; subst hz; exact ⟨_, _, rfl, .sl a b c d e⟩
theorem ag5 {C : Cfg} {w : World} {E : TypeId} {ps : List Pu} {x : Value} (h : VW P C w (.xs lo E ps) x) : ∃ a, x = .slice a ps.length ps.length ∧ PR P C.D w (.sl lo E ps) [.slice a ps.length ps.length] := by
 have hc := h.cell rfl (by simp)
 generalize hz : ([x] : List Value) = z at hc
 cases hc with
 | xs hp => simp at hz; subst hz; exact ⟨_, rfl, hp⟩
theorem al7 {C : Cfg} {w : World} {x : Value} (h : VW P C w .nilc x) : x = .slice none 0 0 := by
 have hc := h.cell rfl (by simp)
 generalize hz : ([x] : List Value) = z at hc
 cases hc with
 | nilc => simpa using hz
theorem aE6 {C : Cfg} {w : World} {l E off len : Nat} {x : Value} (h : VW P C w (.arr l E off len) x) : ∃ b cap, x = .slice (some ⟨b, off * P.cellsOf E, none⟩) len cap ∧ C.ρ l = some (b, .row E) ∧ len ≤ cap := by
 have hc := h.cell rfl (by simp)
 generalize hz : ([x] : List Value) = z at hc
 cases hc with
 | arr hl hcap => simp at hz; exact ⟨_, _, hz, hl, hcap⟩
theorem bD9 {C : Cfg} {w : World} {E : TypeId} {n : Nat} {x : Value} (h : VW P C w (.hd E n) x) : ∃ a cap, x = .slice a n cap := by
 have hc := h.cell rfl (by simp)
 generalize hz : ([x] : List Value) = z at hc
 cases hc with
 | hd => simp at hz; exact ⟨_, _, hz⟩
theorem bM9 {C : Cfg} {w : World} {t ty : TypeId} {v u : PV} {x : Value} (h : aQ6 P t v = some u) (hv : VW P C w v x) : ∃ y, (Builtin.len_ #[t] ty #[x]).run P w = .ok y w ∧ VW P C w u y := by
 unfold aQ6 at h
 split at h
 ·rename_i hu
  obtain ⟨rfl, _⟩ := hv.leaf_inv
  simp at h; subst h
  exact ⟨_, by simp [Builtin.len_, run_underlying hu, goInt], VW.iv_mk⟩
 ·rename_i hu
  obtain ⟨a, cap, rfl, _⟩ := aM1 hv
  simp at h; subst h
  exact ⟨_, by simp [Builtin.len_, run_underlying hu, goInt], VW.iv_mk⟩
 ·rename_i hu
  obtain ⟨a, rfl, _⟩ := ag5 hv
  simp at h; subst h
  exact ⟨_, by simp [Builtin.len_, run_underlying hu, goInt], VW.iv_mk⟩
 ·rename_i hu
  obtain rfl := al7 hv
  simp at h; subst h
  exact ⟨_, by simp [Builtin.len_, run_underlying hu, goInt], VW.iv_mk⟩
 ·rename_i hu
  obtain ⟨b, cap, rfl, _⟩ := aE6 hv
  simp at h; subst h
  exact ⟨_, by simp [Builtin.len_, run_underlying hu, goInt], VW.iv_mk⟩
 ·rename_i hu
  obtain ⟨a, cap, rfl⟩ := bD9 hv
  simp at h; subst h
  exact ⟨_, by simp [Builtin.len_, run_underlying hu, goInt], VW.iv_mk⟩
 ·rename_i hu
  simp at h; subst h
  exact ⟨_, by simp [Builtin.len_, run_underlying hu, goInt], VW.iv_mk⟩
 ·simp at h
end
section
variable {P : Program} {lo : Nat}
theorem bv3 {T : TypeId} {u : PV} (h : tyV P T u = true) (hc : f7 P T = none) : u.isAgg = false := by
 cases u with
 | pu p => cases p <;> simp_all [tyV, tyP, PV.isAgg]
 | _ => simp_all [tyV, PV.isAgg]
theorem I2 (w : World) (b : Nat) (c : Array Value) : ButBlock b w (w.setRow b c) := ⟨rfl, rfl, rfl, F8 w b c, fun _ hne => x0 w b c hne, S3 w b c⟩
theorem ao4 (hT : j3 P = true) {w : World} {T : TypeId} (hlt : T < P.types.size) {b off : Nat} {mid : List Value} (hc : ∀ j u, mid[j]? = some u → w.cell? ⟨b, off + j, none⟩ = some u)
  {C : Cfg} {w' : World} {pl : Option Place} {u : PV} (hv : VR P C w' pl u mid) (ht : tyV P T u = true) :
  ∃ y, (loadVar T ⟨b, off, none⟩).run P w = .ok y w ∧ y.cells.toList = mid ∧ d7 y = u.isAgg := by
 cases hcs : f7 P T with
 | some cs =>
  have hl := hv.length_ty hT ht hcs
  refine ⟨.agg mid.toArray, ?_, rfl, ?_⟩
  ·have := run_loadCells_list (P := P) w ⟨b, off, none⟩ mid (fun j v hj => by rw [Addr.add_lit]; exact hc j v hj)
   simp [loadVar, ac4 hT hlt, hcs, v5 hT hlt, ← hl, this]
  ·cases u with
   | pu p => cases p <;> simp_all [tyV, tyP, d7, PV.isAgg]
   | _ => simp_all [tyV, d7, PV.isAgg]
 | none =>
  obtain ⟨v, rfl, hva, hvt⟩ := hv.length_one ht hcs
  have := hc 0 v rfl
  refine ⟨v, by simp [loadVar, ac4 hT hlt, hcs, run_load] ; simp at this; simp [this], ?_, ?_⟩
  ·cases v <;> simp_all [Value.cells, d7]
  ·rw [hva]
   cases u with
   | pu p => cases p <;> simp_all [tyV, tyP, PV.isAgg]
   | _ => simp_all [tyV, PV.isAgg]
theorem N1 {C : Cfg} {w : World} {l : Nat} {path : List Nat} {T : TypeId} {x : Value} (h : VW P C w (.ptr l path T) x) : ∃ b off R, x = .pointer (some ⟨b, off, none⟩) ∧ C.ρ l = some (b, R) ∧ M3 P R path = some (T, off) := by
 have hc := h.cell rfl (by simp)
 generalize hz : ([x] : List Value) = z at hc
 cases hc with
 | ptr hl hs => simp at hz; exact ⟨_, _, _, hz, hl, hs⟩
theorem aO2 {C : Cfg} {w : World} {T : TypeId} {v : PV} {x : Value} (h : VW P C w (.pp T v) x) : ∃ b o y, x = .pointer (some ⟨b, o, none⟩) ∧ VR P C w none v y ∧ tyV P T v = true ∧ y.length = P.cellsOf T ∧ ∀ j u, y[j]? = some u → w.cell? ⟨b, o + j, none⟩ = some u ∧ C.D b (o + j) := by
 have hc := h.cell rfl (by simp)
 generalize hz : ([x] : List Value) = z at hc
 cases hc with
 | pp h1 h2 h3 h4 => simp at hz; exact ⟨_, _, _, hz, h1, h2, h3, h4⟩
theorem ba9 (hT : j3 P = true) {C : Cfg} {w : World} {T T' : TypeId} {v : PV} {x : Value} (hv : VW P C w (.pp T' v) x) (hok : okT P T T' = true) : ∃ y, (Instr.loadAt T x).run P w = .ok y w ∧ VW P C w v y := by
 obtain ⟨b, o, y, rfl, h1, h2, h3, h4⟩ := aO2 hv
 obtain ⟨_, e2, _, _, _⟩ := v9 hok
 obtain ⟨z, z1, z2, z3⟩ := ao4 hT e2 (fun j u hj => (h4 j u hj).1) h1 ((ai1 hok v).trans h2)
 exact ⟨z, by simp [Instr.loadAt, Instr.sureAddr, z1], .one (by rw [z2]; exact h1) z3⟩
theorem aw4 (hT : j3 P = true) {X : Ctx} {C : Cfg} {st : St} {a : Act} {w : World} (h : SatC P X C st a w) {l : Nat} {path : List Nat} {T T' : TypeId} {x : Value} {ob : Ob} {u : PV} (hv : VW P C w (.ptr l path T') x)
  (hok : okT P T T' = true) (hl : get st.heap l = some ob) (hg : ob.get path = some u) :
  ∃ y, (Instr.loadAt T x).run P w = .ok y w ∧ VW P C w (strip u) y ∧ ∃ b off, C.ρ l = some (b, ob.root) ∧ M3 P ob.root path = some (T', off) ∧ (f7 P T = none → w.cell? ⟨b, off, none⟩ = some y) := by
 obtain ⟨b, off, R, rfl, hρ, hs⟩ := N1 hv
 obtain ⟨_, e2, _, _, _⟩ := v9 hok
 obtain ⟨b', e1, _, hor⟩ := h.heap l ob hl
 rw [e1] at hρ
 simp at hρ
 obtain ⟨rfl, rfl⟩ := hρ
 obtain ⟨u', c, E, pre, mid, post, g1, g2, g3, g4, g5, g6, g7, _⟩ := OR.at hor hs hg
 rw [hg] at g5
 simp at g5
 subst g5
 have hcell : ∀ j v, mid[j]? = some v → w.cell? ⟨b', off + j, none⟩ = some v := fun j v hj => by
  rw [m8 g1, ← Array.getElem?_toList, g2, ← g3, List.getElem?_append_right (by omega), Nat.add_sub_cancel_left, List.getElem?_append_left (List.getElem?_eq_some_iff.1 hj).1];exact hj
 obtain ⟨z, z1, z2, z3⟩ := ao4 hT e2 hcell g4 ((ai1 hok u).trans g6)
 refine ⟨z, by simp [Instr.loadAt, Instr.sureAddr, z1], .one (by rw [z2]; exact g4.strip) (z3.trans (P8 u).symm), b', off, e1, hs, fun hcs => ?_⟩
 obtain ⟨v, hmv, hva, _⟩ := g4.length_one ((ai1 hok u).trans g6) hcs
 have := hcell 0 v (by rw [hmv]; rfl)
 rw [Nat.add_zero] at this
 rw [this]
 rw [hmv] at z2
 have hua : u.isAgg = false := by
  exact bv3 ((ai1 hok u).trans g6) hcs
 rw [hua] at z3
 clear hva
 cases z <;> simp_all [Value.cells, d7]
theorem U2 (hT : j3 P = true) {w : World} {T : TypeId} (hlt : T < P.types.size) {b off : Nat} {v : Value} {c : Array Value} {E : TypeId} (hb : w.heap[b]? = some (.cells c E (0, 0))) (hv : v.cells.size = P.cellsOf T) (h1 : ∀ u ∈ v.cells.toList, u.oneCell' = true)
  (hfit : off + v.cells.size ≤ c.size) :
  (storeVar T ⟨b, off, none⟩ v).run P w = .ok () (w.setRow b (c.toList.take off ++ v.cells.toList ++ c.toList.drop (off + v.cells.size)).toArray) := by
 have := run_storeCells_at P b off E v.cells.toList 0 c w hb (by simpa using hfit) h1
 simp only [Nat.add_zero, Array.length_toList] at this
 simp [storeVar, v5 hT hlt, hv] at this ⊢
 exact this
theorem ak6 {c pre mid post x : List Value} (h : c = pre ++ (mid ++ post)) (hl : mid.length = x.length) : c.take pre.length ++ x ++ c.drop (pre.length + x.length) = pre ++ (x ++ post) := by
 subst h;rw [List.take_left', List.drop_append, ← hl]
 ·simp
 ·rfl
theorem bm8 (hT : j3 P = true) {X : Ctx} {C : Cfg} {st : St} {a : Act} {w : World} (h : SatC P X C st a w) {l : Nat} {path : List Nat} {T T' : TypeId} {x y : Value} {ob : Ob} {u u0 : PV} (hv : VW P C w (.ptr l path T') x)
  (hok : okT P T T' = true) (hl : get st.heap l = some ob) (hR : l ∉ X.R) (hg : ob.get path = some u0) (hu : VW P C w u y) (hty : tyV P T u = true) (h1 : (f7 P T).isSome = true ∨ P.cellsOf T = 1 ∧ P.cellsOf T' = 1) :
  ∃ w' ob', (Instr.storeAt T x y).run P w = .ok () w' ∧ ob.set path u = some ob' ∧ SatC P X C ⟨st.env, (l, ob') :: st.heap⟩ a w' ∧ ∀ b R, C.ρ l = some (b, R) → ButBlock b w w' := by
 obtain ⟨b, off, R, rfl, hρ, hs⟩ := N1 hv
 obtain ⟨e0, e2, e3, _, _⟩ := v9 hok
 obtain ⟨b', e1, _, hor⟩ := h.heap l ob hl
 rw [e1] at hρ
 simp at hρ
 obtain ⟨rfl, rfl⟩ := hρ
 obtain ⟨u', c, E, pre, mid, post, g1, g2, g3, g4, g5, g6, g7, _⟩ := OR.at hor hs hg
 have hur : VR P C w none u y.cells.toList := by
  cases hu with
  | one h _ => exact h
  | tup h => simp [tyV] at hty
 have hsz : P.cellsOf T = P.cellsOf T' := by
  rcases h1 with h1 | ⟨h1, h1'⟩
  ·exact (bA8 hT hok (by rw [← e0]; exact h1)).symm
  ·rw [h1, h1']
 have hyl : y.cells.toList.length = P.cellsOf T := by
  cases hc : f7 P T with
  | some cs => exact hur.length_ty hT hty hc
  | none =>
   rcases h1 with h1 | ⟨h1, _⟩
   ·simp [hc] at h1
   ·obtain ⟨v, hv, _⟩ := hur.length_one hty hc
    rw [hv, h1]; rfl
 have hys : y.cells.size = P.cellsOf T := by rw [← Array.length_toList, hyl]
 have hcl : c.size = pre.length + (mid.length + post.length) := by rw [← Array.length_toList, g2]; simp
 have hrun := U2 hT e2 (off := off) g1 hys hur.one (by rw [hys, hsz, ← g7, hcl, g3]; omega)
 let c' : Array Value := (c.toList.take off ++ y.cells.toList ++ c.toList.drop (off + y.cells.size)).toArray
 obtain ⟨ob', f1, f2⟩ := h.store hl hR e1 hs hg hur (by rw [hyl, hsz]) ((ai1 hok u).symm.trans hty) (I2 w b' c') (fun c2 E2 hc2 => by
  rw [g1] at hc2
  simp at hc2
  obtain ⟨rfl, rfl⟩ := hc2
  refine ⟨c', setRow_heap w b' c c' E (0, 0) g1, fun pre' mid' post' q1 q2 q3 => ?_⟩
  have := ak6 q1 q3
  rw [q2, Array.length_toList] at this
  exact this)
 refine ⟨w.setRow b' c', ob', by simp only [Instr.storeAt, Instr.sureAddr, Sem.run_bind, Sem.run_pure, Result.andThen_ok, hrun, c'], f1, f2, fun b R hbR => ?_⟩
 rw [e1] at hbR
 simp at hbR
 rw [← hbR.1];exact I2 w b' c'
theorem aL6 (hT : j3 P = true) {X : Ctx} {C : Cfg} {st : St} {a : Act} {w : World} (h : SatC P X C st a w) {l : Nat} {path : List Nat} {T T' : TypeId} {x : Value} {ob : Ob} {u0 : PV} (hv : VW P C w (.ptr l path T') x)
  (hok : okT P T T' = true) (hl : get st.heap l = some ob) (hR : l ∉ X.R) (hg : ob.get path = some u0) {s : Nat} {E1 : TypeId} {ps : List Pu} (hss : get st.env s = some (.ow lo E1 ps)) {y : Value} (hy : a.tmps[s]? = some y)
  (h1 : P.cellsOf T = 1 ∧ P.cellsOf T' = 1) (ht : (f7 P T').isNone = true) :
  ∃ w' ob' C', (Instr.storeAt T x y).run P w = .ok () w' ∧ ob.set path (.ow lo E1 ps) = some ob' ∧ SatC P X C' ⟨(s, .pu (.sl lo E1 ps)) :: st.env, (l, ob') :: st.heap⟩ a w' ∧ C'.ρ = C.ρ ∧ ∀ b R, C.ρ l = some (b, R) → ButBlock b w w' := by
 obtain ⟨b, off, R, rfl, hρ, hs⟩ := N1 hv
 obtain ⟨e0, e2, e3, _, _⟩ := v9 hok
 obtain ⟨b', e1, _, hor⟩ := h.heap l ob hl
 rw [e1] at hρ
 simp at hρ
 obtain ⟨rfl, rfl⟩ := hρ
 obtain ⟨u', c, E, pre, mid, post, g1, g2, g3, g4, g5, g6, g7, _⟩ := OR.at hor hs hg
 obtain ⟨y', hy', hvt⟩ := h.env s _ hss
 obtain rfl : y' = y := by rw [hy] at hy'; exact (Option.some.inj hy').symm
 have hycell : y'.cells.toList = [y'] ∧ y'.oneCell' = true := by
  cases hvt with
  | one hv hsh =>
   have h1 := hv.one
   cases y' <;> simp_all [d7, PV.isAgg, Value.cells]
 have hys : y'.cells.size = P.cellsOf T := by rw [← Array.length_toList, hycell.1, h1.1]; rfl
 have hcl : c.size = pre.length + (mid.length + post.length) := by rw [← Array.length_toList, g2]; simp
 have hrun := U2 hT e2 (off := off) g1 hys (by rw [hycell.1]; simp [hycell.2]) (by rw [hys, h1.1, hcl, g7, h1.2, g3]; omega)
 let c' : Array Value := (c.toList.take off ++ y'.cells.toList ++ c.toList.drop (off + y'.cells.size)).toArray
 obtain ⟨ob', C', f1, f2, f3⟩ := h.storeOw hl hR e1 hs hg hss hy h1.2 ht (I2 w b' c') (fun c2 E2 hc2 => by
  rw [g1] at hc2
  simp at hc2
  obtain ⟨rfl, rfl⟩ := hc2
  refine ⟨c', setRow_heap w b' c c' E (0, 0) g1, fun pre' mid' post' q1 q2 q3 => ?_⟩
  have := ak6 (x := y'.cells.toList) q1 (by rw [q3, hycell.1]; rfl)
  rw [q2, Array.length_toList] at this
  rw [← hycell.1]
  exact this)
 refine ⟨w.setRow b' c', ob', C', by simp only [Instr.storeAt, Instr.sureAddr, Sem.run_bind, Sem.run_pure, Result.andThen_ok, hrun, c'], f1, f2, f3, fun b R hbR => ?_⟩
 rw [e1] at hbR
 simp at hbR
 rw [← hbR.1];exact I2 w b' c'
theorem av5 {X : Ctx} {C : Cfg} {st : St} {a : Act} {w : World} (h : SatC P X C st a w) {l : Nat} (hf : Fresh st l) (hL : l ∉ X.L) {T : TypeId} {u : PV} {v : Value} (hu : VR P C w none u v.cells.toList) (hty : tyV P T u = true) (hs : v.cells.size = P.cellsOf T)
  (hlu : l ∉ u.labs) :
  SatC P X (C.at l w.heap.size (.var T)) ⟨st.env, (l, .var T u) :: st.heap⟩ a (w.alloc (.cells v.cells T)) := by
 refine h.new hf hL (ob := .var T u) ⟨v.cells, T, alloc_heap_new w _, ?_, hty, hs⟩;refine (hu.mono (C' := C.at l w.heap.size (.var T)) (w' := w.alloc (.cells v.cells T)) ⟨fun b o hD => ⟨hD, (Grew.alloc w _).cell (h.dLt b o hD)⟩, fun l' hl' => ?_, fun b q k hb hq => hq.elim, (Grew.alloc w _).ty⟩).any _
 have : l' ≠ l := fun e => hlu (e ▸ hl')
 simp [Cfg.at, this]
theorem bu0 (S : Seat P) {X : Ctx} {C : Cfg} {st : St} {a : Act} {w : World} (h : SatC P X C st a w) {l d : Nat} (hf : Fresh st l) (hL : l ∉ X.L) (hd : d < X.n) {T : TypeId} {u : PV} (hz : S.Z T = some u) (hlu : l ∉ u.labs) :
  ∃ y w' C', (Instr.alloc T true (.tuple #[])).run P w = .ok y w' ∧ SatC P X C' ⟨(d, .ptr l [] T) :: st.env, (l, .var T u) :: st.heap⟩ (a.put (some d) y) w' ∧ Grew w w' ∧ ∀ l', l' ≠ l → C'.ρ l' = C.ρ l' := by
 obtain ⟨z, z1, z2, z3, z4, z5, z6⟩ := Z5 S hz C w
 have := av5 h hf hL z2 z5 z4 hlu
 refine ⟨.pointer (some ⟨w.heap.size, 0, none⟩), _, _, ?_, this.put hd (.one (.ptr (R := .var T) (off := 0) (by simp [Cfg.at]) (by simp [M3, P3])) rfl), Grew.alloc w _, fun l' hne => by simp [Cfg.at, hne]⟩
 simp [Instr.alloc, z1, newVar, newRow]
theorem bR6 (hT : j3 P = true) {X : Ctx} {C : Cfg} {st : St} {a : Act} {w : World} (h : SatC P X C st a w) {l d : Nat} (hf : Fresh st l) (hL : l ∉ X.L) (hd : d < X.n) {T : TypeId} {u : PV} {x : Value} (hu : VW P C w u x) (hty : tyV P T u = true) (h1 : (f7 P T).isSome = true ∨ P.cellsOf T = 1)
  (hlu : l ∉ u.labs) :
  ∃ y w' C', (Instr.box T x).run P w = .ok y w' ∧ SatC P X C' ⟨(d, .ptr l [] T) :: st.env, (l, .var T u) :: st.heap⟩ (a.put (some d) y) w' ∧ Grew w w' ∧ ∀ l', l' ≠ l → C'.ρ l' = C.ρ l' := by
 have hur : VR P C w none u x.cells.toList := by
  cases hu with
  | one h _ => exact h
  | tup h => simp [tyV] at hty
 have hxs : x.cells.size = P.cellsOf T := by
  rw [← Array.length_toList]
  cases hc : f7 P T with
  | some cs => exact hur.length_ty hT hty hc
  | none =>
   rcases h1 with h1 | h1
   ·simp [hc] at h1
   ·obtain ⟨v, hv, _⟩ := hur.length_one hty hc
    rw [hv, h1]; rfl
 have := av5 h hf hL hur hty hxs hlu
 refine ⟨.pointer (some ⟨w.heap.size, 0, none⟩), _, _, ?_, this.put hd (.one (.ptr (R := .var T) (off := 0) (by simp [Cfg.at]) (by simp [M3, P3])) rfl), Grew.alloc w _, fun l' hne => by simp [Cfg.at, hne]⟩
 simp [Instr.box, newVar, newRow]
end
section
variable {P : Program}
theorem VW.nt {C : Cfg} {w : World} {v : PV} {x : Value} (h : VW P C w v x) (hn : ∀ us, v ≠ .tup us) : VR P C w none v x.cells.toList ∧ d7 x = v.isAgg := by
 cases h with
 | one h hs => exact ⟨h, hs⟩
 | tup h => exact absurd rfl (hn _)
inductive ARs (P : Program) (C : Cfg) (w : World) (a : Act) : List Operand → List PV → Prop
 | nil : ARs P C w a [] []
 | cons {o : Operand} {v : PV} {os : List Operand} {vs : List PV} (h : VW P C w v (a.eval o)) (r : ARs P C w a os vs) : ARs P C w a (o :: os) (v :: vs)
theorem ARs.one {C : Cfg} {w : World} {a : Act} {o : Operand} {vs : List PV} (h : ARs P C w a [o] vs) : ∃ v, vs = [v] ∧ VW P C w v (a.eval o) := by
 cases h with | cons h r => cases r; exact ⟨_, rfl, h⟩
theorem ARs.two {C : Cfg} {w : World} {a : Act} {o p : Operand} {vs : List PV} (h : ARs P C w a [o, p] vs) : ∃ u v, vs = [u, v] ∧ VW P C w u (a.eval o) ∧ VW P C w v (a.eval p) := by
 cases h with | cons h r => obtain ⟨v, rfl, h2⟩ := r.one; exact ⟨_, _, rfl, h, h2⟩
theorem ARs.three {C : Cfg} {w : World} {a : Act} {o p q : Operand} {vs : List PV} (h : ARs P C w a [o, p, q] vs) : ∃ u v x, vs = [u, v, x] ∧ VW P C w u (a.eval o) ∧ VW P C w v (a.eval p) ∧ VW P C w x (a.eval q) := by
 cases h with | cons h r => obtain ⟨v, x, rfl, h2, h3⟩ := r.two; exact ⟨_, _, _, rfl, h, h2, h3⟩
theorem ARs.length {C : Cfg} {w : World} {a : Act} : ∀ {os : List Operand} {vs : List PV}, ARs P C w a os vs → vs.length = os.length
 | _, _, .nil => rfl
 | _, _, .cons _ r => by simp [ARs.length r]
theorem ARs.at {C : Cfg} {w : World} {a : Act} : ∀ {os : List Operand} {vs : List PV}, ARs P C w a os vs → ∀ (i : Nat) (o : Operand) (v : PV), os[i]? = some o → vs[i]? = some v → VW P C w v (a.eval o)
 | _, _, .nil, i, o, v, h, _ => by simp at h
 | _, _, .cons h r, 0, o, v, h1, h2 => by simp at h1 h2; subst h1 h2; exact h
 | _, _, .cons h r, i + 1, o, v, h1, h2 => r.at i o v (by simpa using h1) (by simpa using h2)
theorem ARs.vfs {C : Cfg} {w : World} {a : Act} : ∀ {os : List Operand} {vs : List PV}, ARs P C w a os vs → (∀ v ∈ vs, ∀ us, v ≠ .tup us) → VFs P C w vs (os.map a.eval)
 | _, _, .nil, _ => .nil
 | _, _, .cons h r, hn => by
  obtain ⟨h1, h2⟩ := h.nt (hn _ (by simp))
  exact .cons h1 h2 (r.vfs fun v hv => hn v (by simp [hv]))
theorem ARs.split {C : Cfg} {w : World} {a : Act} : ∀ {os ps : List Operand} {vs : List PV}, ARs P C w a (os ++ ps) vs → ARs P C w a os (vs.take os.length) ∧ ARs P C w a ps (vs.drop os.length)
 | [], ps, vs, h => by simpa using ⟨ARs.nil, h⟩
 | o :: os, ps, vs, h => by
  cases h with
  | cons h r =>
   obtain ⟨h1, h2⟩ := ARs.split (os := os) r
   exact ⟨by simpa using ARs.cons h h1, by simpa using h2⟩
def j1 : PV → Bool
 | .tup _ => true
 | _ => false
def bM3 (f : Fn) (first captured : List PV) : Option PV :=
 if (first ++ captured).any j1 then none else
 match f with
 | .func _ => if first.isEmpty && captured.isEmpty then some (.pu (.leaf (.func f #[] #[]))) else some (.fn f first captured)
 | _ => none
def ad1 (P : Program) (t : TypeId) (i : Int) (v : PV) : Option PV :=
 if t < P.types.size then
 match P.underlying t with
 | some (.slice E) => match v with
  | .pu (.sl _ T _) | .xs _ T _ | .arr _ T _ _ => if T = E then J7 P t i v else none
  | _ => none
 | some (.array _ _) => match v with
  | .ptr _ _ _ | .pp _ _ => J7 P t i v
  | _ => none
 | _ => none
 else none
def aq8 (P : Program) (t : TypeId) (f : Nat) (v : PV) : Option PV :=
 match P.underlying t with
 | some (.struct fs) => match fs[f]? with
  | some fd => if P.cellsOf fd.type = 0 then none else ab4 P t f v
  | none => none
 | _ => none
def y7 (P : Program) (S : Seat P) (op : Op) (args : List PV) : Option PV :=
 match op with
 | .move _ => match args with
  | [v] => some v
  | _ => none
 | .assign _ => match args with
  | [v] => some v
  | _ => none
 | .pick _ _ _ => match args with
  | [c, x, y] => bz8 c x y
  | _ => none
 | .nilCheck _ => match args with
  | [.ptr l p T] => some (.ptr l p T)
  | [.pp T v] => some (.pp T v)
  | _ => none
 | .binOp op t _ _ _ => match args with
  | [x, y] => R9 P op t x y
  | _ => none
 | .unOp op _ _ => match args with
  | [x] => unV op x
  | _ => none
 | .convert s d _ => match args with
  | [x] => X2 P s d x
  | _ => none
 | .makeFunc f first _ => bM3 f (args.take first.size) (args.drop first.size)
 | .fieldAddr s _ f => match args with
  | [x] => aq8 P s f x
  | _ => none
 | .field t _ f => match args with
  | [x] => ai9 P t f x
  | _ => none
 | .indexAddr t _ _ => match args with
  | [x, .pu (.leaf (.int _ i))] => ad1 P t i x
  | _ => none
 | .index t _ _ => match args with
  | [x, .pu (.leaf (.int _ i))] => ax0 P t i x
  | _ => none
 | .extract _ i => match args with
  | [.tup vs] => vs[i]?
  | _ => none
 | .build T parts => if args.any j1 then none else ag3 P S T ((parts.toList.map (·.1)).zip args)
 | .load T _ => match args with
  | [.pp T' v] => if okT P T T' = true then some v else none
  | _ => none
 | .call ⟨.builtin .len, _, ts⟩ => match args, ts.toList with
  | [x], [t] => aQ6 P t x
  | _, _ => none
 | _ => none
theorem bd8 {α β : Type} (as : List α) (bs : List β) (j : Nat) (x : α × β) (h : (as.zip bs)[j]? = some x) : as[j]? = some x.1 ∧ bs[j]? = some x.2 := by
 rw [List.getElem?_zip_eq_some] at h
 exact h
theorem M5 {args : List PV} (h : args.any j1 = false) : ∀ v ∈ args, ∀ us, v ≠ .tup us := by
 intro v hv us e
 subst e
 have := List.any_eq_false.1 h _ hv
 simp [j1] at this
theorem aZ8 (S : Seat P) {C : Cfg} {w : World} {a : Act} {o : Oper} {args : List PV} {u : PV} (h : y7 P S o.op args = some u) (har : ARs P C w a o.op.operands.toList args) :
  ∃ y, (execOp a.eval o).run P w = .ok (.value y) w ∧ VW P C w u y := by
 obtain ⟨dst, op, type, pos, after, guard⟩ := o
 simp only at h har
 have fin : ∀ {s : Sem Value} {y : Value}, s.run P w = .ok y w → (do pure (Next.value (← s)) : Sem Next).run P w = .ok (.value y) w := fun hs => by simp [hs]
 unfold y7 at h
 split at h
 case h_1 =>
  obtain ⟨v, rfl, hv⟩ := har.one
  simp at h; subst h
  exact ⟨_, rfl, hv⟩
 case h_2 =>
  obtain ⟨v, rfl, hv⟩ := har.one
  simp at h; subst h
  exact ⟨_, rfl, hv⟩
 case h_3 =>
  obtain ⟨c, x, y, rfl, hc, hx, hy⟩ := har.three
  obtain ⟨b, e1, e2⟩ := bz7 h hc hx hy
  refine ⟨_, ?_, e2⟩
  simp [execOp, e1, asBool]
 case h_4 =>
  obtain ⟨v, rfl, hv⟩ := har.one
  split at h
  ·rename_i l p T e
   simp at e h; subst e h
   obtain ⟨b, off, R, hx, _, _⟩ := N1 hv
   exact ⟨_, by simp [execOp, hx]; rfl, by rw [← hx]; exact hv⟩
  ·rename_i T v e
   simp at e h; subst e h
   obtain ⟨b, off, R, hx, _⟩ := aO2 hv
   exact ⟨_, by simp [execOp, hx]; rfl, by rw [← hx]; exact hv⟩
  ·simp at h
 case h_5 =>
  obtain ⟨x, y, rfl, hx, hy⟩ := har.two
  obtain ⟨z, e1, e2⟩ := bR8 S.hT _ _ h hx hy
  exact ⟨z, fin e1, e2⟩
 case h_6 =>
  obtain ⟨x, rfl, hx⟩ := har.one
  obtain ⟨z, e1, e2⟩ := bW0 h hx
  exact ⟨z, fin e1, e2⟩
 case h_7 =>
  obtain ⟨x, rfl, hx⟩ := har.one
  obtain ⟨z, e1, e2⟩ := bG5 h hx
  exact ⟨z, fin e1, e2⟩
 case h_8 f first captured =>
  unfold bM3 at h
  split at h
  ·simp at h
  ·rename_i hany
   have hnt := M5 (by simpa using hany : (args.take first.size ++ args.drop first.size).any j1 = false)
   rw [List.take_append_drop] at hnt
   simp only [Op.operands, Array.toList_append] at har
   obtain ⟨h1, h2⟩ := har.split
   rw [Array.length_toList] at h1 h2
   have v1 := h1.vfs (fun v hv => hnt v (List.mem_of_mem_take hv))
   have v2 := h2.vfs (fun v hv => hnt v (List.mem_of_mem_drop hv))
   split at h
   ·rename_i g
    refine ⟨.func (.func g) (first.map a.eval) (captured.map a.eval), by simp [execOp, Instr.makeFunc], ?_⟩
    split at h
    ·rename_i he
     simp at h; subst h
     simp only [Bool.and_eq_true, List.isEmpty_iff] at he
     have l1 := h1.length
     have l2 := h2.length
     rw [he.1] at l1
     rw [he.2] at l2
     have f1 : first = #[] := by apply Array.ext'; simpa using (List.length_eq_zero_iff.1 l1.symm)
     have f2 : captured = #[] := by apply Array.ext'; simpa using (List.length_eq_zero_iff.1 l2.symm)
     subst f1 f2
     have : VW P C w (.pu (.leaf (.func (.func g) #[] #[]))) (.func (.func g) #[] #[]) := VW.leaf rfl
     simpa using this
    ·simp at h; subst h
     exact .one (.fn (by simpa using v1) (by simpa using v2)) rfl
   ·simp at h
 case h_9 =>
  obtain ⟨x, rfl, hx⟩ := har.one
  simp only [aq8] at h
  split at h
  ·rename_i fs hu
   split at h
   ·rename_i fd hfd
    split at h
    ·simp at h
    ·rename_i hne
     obtain ⟨z, e1, e2⟩ := aA5 S.hT hx h ⟨fs, hu, fun fd' hf' => by rw [hfd] at hf'; cases hf'; exact hne⟩
     exact ⟨z, fin e1, e2⟩
   ·simp at h
  ·simp at h
 case h_10 =>
  obtain ⟨x, rfl, hx⟩ := har.one
  obtain ⟨z, e1, e2⟩ := bs2 S.hT h hx
  exact ⟨z, fin e1, e2⟩
 case h_11 t ox oi =>
  obtain ⟨x, y, rfl, hx, hy⟩ := har.two
  split at h
  ·rename_i x' k i e
   simp at e
   obtain ⟨rfl, rfl⟩ := e
   have hyv := hy.iv_inv
   unfold ad1 at h
   split at h
   ·rename_i hlt
    split at h
    ·rename_i E hu
     have : ∃ z, (Instr.indexAt t (a.eval ox) (.int k i)).run P w = .ok z w ∧ VW P C w u z := by
      split at h
      ·split at h
       ·rename_i lo T ps hTE; exact H7 S.hT hx h (.inl ⟨E, hu, lo, 0, T, 0, 0, ps, .inr (.inl ⟨rfl, hTE⟩)⟩) hlt
       ·simp at h
      ·split at h
       ·rename_i lo T ps hTE; exact H7 S.hT hx h (.inl ⟨E, hu, lo, 0, T, 0, 0, ps, .inr (.inr ⟨rfl, hTE⟩)⟩) hlt
       ·simp at h
      ·split at h
       ·rename_i l T off n hTE; exact H7 S.hT hx h (.inl ⟨E, hu, 0, l, T, off, n, [], .inl ⟨rfl, hTE⟩⟩) hlt
       ·simp at h
      ·simp at h
     obtain ⟨z, e1, e2⟩ := this
     rw [← hyv] at e1
     exact ⟨z, fin e1, e2⟩
    ·rename_i n e hu
     have : ∃ z, (Instr.indexAt t (a.eval ox) (.int k i)).run P w = .ok z w ∧ VW P C w u z := by
      split at h
      ·rename_i l p T; exact H7 S.hT hx h (.inr ⟨n, e, hu, .inl ⟨l, p, T, rfl⟩⟩) hlt
      ·rename_i T v; exact H7 S.hT hx h (.inr ⟨n, e, hu, .inr ⟨T, v, rfl⟩⟩) hlt
      ·simp at h
     obtain ⟨z, e1, e2⟩ := this
     rw [← hyv] at e1
     exact ⟨z, fin e1, e2⟩
    ·simp at h
   ·simp at h
  ·simp at h
 case h_12 =>
  obtain ⟨x, y, rfl, hx, hy⟩ := har.two
  split at h
  ·rename_i x' k i e
   simp at e
   obtain ⟨rfl, rfl⟩ := e
   have hyv := hy.iv_inv
   obtain ⟨z, e1, e2⟩ := bq9 (k := k) S.hT h hx
   rw [← hyv] at e1
   exact ⟨z, fin e1, e2⟩
  ·simp at h
 case h_13 =>
  obtain ⟨x, rfl, hx⟩ := har.one
  split at h
  ·rename_i vs e
   simp at e; subst e
   obtain ⟨z, e1, e2⟩ := aT2 h hx
   exact ⟨z, fin e1, e2⟩
  ·simp at h
 case h_14 T parts =>
  split at h
  ·simp at h
  ·rename_i hany
   have hnt := M5 (by simpa using hany)
   have hlen := har.length
   simp [Op.operands] at hlen
   obtain ⟨z, e1, e2⟩ := bt9 S (C := C) (w := w) (xs := parts.toList.map fun (i, x) => (i, a.eval x)) h (by simp [hlen]) (fun j i v x hj hx => by
    obtain ⟨h1, h2⟩ := bd8 _ _ _ _ hj
    simp only [List.getElem?_map, Option.map_eq_some_iff] at h1 hx
    obtain ⟨q, hq, rfl⟩ := h1
    obtain ⟨q', hq', rfl⟩ := hx
    rw [hq] at hq'
    simp at hq'
    subst hq'
    refine ⟨rfl, ?_⟩
    have := har.at j q.2 v (by simp [Op.operands, hq]) h2
    exact (this.nt (hnt _ (List.mem_of_getElem? h2))).1)
   refine ⟨z, ?_, e2⟩
   have hm : (parts.toList.map fun (i, x) => (i, a.eval x)).toArray = parts.map fun (i, x) => (i, a.eval x) := by
    apply Array.ext'; simp
   rw [hm] at e1
   exact fin e1
 case h_15 =>
  obtain ⟨x, rfl, hx⟩ := har.one
  split at h
  ·rename_i T' v e
   simp at e; subst e
   split at h
   ·simp at h; subst h
    obtain ⟨z, e1, e2⟩ := ba9 S.hT hx ‹_›
    exact ⟨z, fin e1, e2⟩
   ·simp at h
  ·simp at h
 case h_16 as ts =>
  split at h
  ·rename_i x t e2
   have hop : ∃ ox, as = #[ox] := by
    have hl := har.length
    simp [Op.operands, Call.operands] at hl
    obtain ⟨l⟩ := as
    match l, hl with
    | [ox], _ => exact ⟨ox, rfl⟩
   obtain ⟨ox, rfl⟩ := hop
   simp [Op.operands, Call.operands] at har
   obtain ⟨v, hv0, hv⟩ := har.one
   simp at hv0; subst hv0
   have hts : ts = #[t] := by apply Array.ext'; simpa using e2
   subst hts
   obtain ⟨z, f1, f2⟩ := bM9 (ty := type) h hv
   refine ⟨z, ?_, f2⟩
   simp [execOp, resolve, invoke, builtin, f1]
  ·simp at h
 case h_17 => simp at h
end
section
variable {P : Program} {lo : Nat}
structure Eff where
 v : PV
 env : List (Nat × PV) := []
 heap : List (Nat × Ob) := []
 src : Option Place := none
 owed : Prop := True
def St.upd (st : St) (dst : Option Nat) (e : Eff) : St :=
 ⟨(match dst with
  | some d => (d, e.v) :: (e.env ++ st.env)
  | none => e.env ++ st.env), e.heap ++ st.heap⟩
def ak3 (P : Program) (C : Cfg) (a : Act) (w : World) (t : Nat) : Place → Prop
 | .slot s => ∃ x, a.tmps[t]? = some x ∧ a.tmps[s]? = some x
 | .obj l p => ∃ b R T off x, C.ρ l = some (b, R) ∧ M3 P R p = some (T, off) ∧ a.tmps[t]? = some x ∧ w.cell? ⟨b, off, none⟩ = some x
structure Tr (C C' : Cfg) (st : St) (e : Eff) (w w' : World) : Prop where
 ρ : ∀ l ob, get st.heap l = some ob → C'.ρ l = C.ρ l
 block : ∀ l ob b R, get st.heap l = some ob → get e.heap l = none → C.ρ l = some (b, R) → w'.heap[b]? = w.heap[b]?
def Exec (P : Program) (X : Ctx) (C : Cfg) (st : St) (o : Oper) (a : Act) (w : World) (e : Eff) : Prop :=
 ∀ (K : Act → World → Prop) (Q : Exit → Act → World → Prop), (∀ C' y w', SatC P X C' (st.upd o.dst e) (a.put o.dst y) w' → Tr C C' st e w w' →
  (∀ L d, e.src = some L → o.dst = some d → ak3 P C' (a.put o.dst y) w' d L) → K (a.put o.dst y) w') → o.wp P a w K Q
theorem m5 {X : Ctx} {C C' : Cfg} {st : St} {o : Oper} {a : Act} {w w' : World} {e : Eff} {y : Value} (h : (execOp a.eval o).run P w = .ok (.value y) w') (hs : SatC P X C' (st.upd o.dst e) (a.put o.dst y) w')
  (ht : Tr C C' st e w w') (hb : ∀ L d, e.src = some L → o.dst = some d → ak3 P C' (a.put o.dst y) w' d L) : Exec P X C st o a w e := by
 intro K Q hK
 unfold Oper.wp
 rw [h, Oper.upon_value];exact hK C' y w' hs ht hb
theorem ad3 {X : Ctx} {C C' : Cfg} {st : St} {o : Oper} {a : Act} {w w' : World} {e : Eff} (h : (execOp a.eval o).run P w = .ok .skip w') (hs : SatC P X C' (st.upd o.dst e) (a.put o.dst undef) w')
  (ht : Tr C C' st e w w') (hb : ∀ L d, e.src = some L → o.dst = some d → ak3 P C' (a.put o.dst undef) w' d L) : Exec P X C st o a w e := by
 intro K Q hK
 unfold Oper.wp
 rw [h, Oper.upon_skip];exact hK C' undef w' hs ht hb
theorem SatC.upd_put {X : Ctx} {C : Cfg} {st : St} {a : Act} {w : World} {dst : Option Nat} {v : PV} {y : Value} (h : SatC P X C st a w) (hd : ∀ d, dst = some d → d < X.n) (hv : VW P C w v y) (src : Option Place) (ow : Prop) :
  SatC P X C (st.upd dst { v := v, src := src, owed := ow }) (a.put dst y) w := by
 cases dst with
 | none => exact h
 | some d => exact h.put (hd d rfl) (hv.vt d)
theorem Tr.refl (C : Cfg) (st : St) (e : Eff) (w : World) : Tr C C st e w w := ⟨fun _ _ _ => rfl, fun _ _ _ _ _ _ _ => rfl⟩
theorem SatC.block_lt {X : Ctx} {C : Cfg} {st : St} {a : Act} {w : World} (h : SatC P X C st a w) {l b : Nat} {ob : Ob} {R : Root} (hl : get st.heap l = some ob) (hb : C.ρ l = some (b, R)) : b < w.heap.size := by
 obtain ⟨b', e1, _, e3⟩ := h.heap l ob hl
 rw [e1] at hb
 simp at hb
 rw [← hb.1];exact e3.lt
theorem SatC.tr_grew {X : Ctx} {C C' : Cfg} {st : St} {a : Act} {w w' : World} (h : SatC P X C st a w) (g : Grew w w') (hρ : C'.ρ = C.ρ) (e : Eff) : Tr C C' st e w w' :=
 ⟨fun _ _ _ => by rw [hρ], fun _ _ _ _ hl _ hb => g.block _ (h.block_lt hl hb)⟩
def aB2 (op : Op) (dst : Option Nat) : Option Place :=
 match op with
 | .move (.tmp s) => if dst = some s then none else some (.slot s)
 | _ => none
def C5 (n : Nat) (dst : Option Nat) : Bool :=
 match dst with
 | some d => decide (d < n)
 | none => true
theorem t6 {n : Nat} {dst : Option Nat} (h : C5 n dst = true) : ∀ d, dst = some d → d < n := by
 intro d hd
 subst hd
 simpa [C5] using h
theorem at9 {a : Act} {d t : Nat} {y : Value} (h : t ≠ d) : (a.put (some d) y).tmps[t]? = a.tmps[t]? := by
 simp only [Act.put]
 rw [Array.getElem?_setIfInBounds_ne (fun e => h e.symm)]
theorem au0 {a : Act} {d : Nat} {y : Value} (h : d < a.tmps.size) : (a.put (some d) y).tmps[d]? = some y := by
 simp [Act.put, h]
def evalL (G : List (Nat × TypeId × Pu)) (env : List (Nat × PV)) : List Operand → Option (List PV)
 | [] => some []
 | o :: os => match b9 G env o with
  | some v => match evalL G env os with
   | some vs => some (v :: vs)
   | none => none
  | none => none
theorem SatC.evalL {X : Ctx} {C : Cfg} {st : St} {a : Act} {w : World} (h : SatC P X C st a w) : ∀ {os : List Operand} {raw : List PV}, Hs.evalL X.G st.env os = some raw → ARs P C w a os (raw.map strip)
 | [], raw, hr => by simp [Hs.evalL] at hr; subst hr; exact .nil
 | o :: os, raw, hr => by
  simp only [Hs.evalL] at hr
  split at hr
  ·rename_i v hv
   split at hr
   ·rename_i vs hvs
    simp at hr
    subst hr;exact .cons (h.eval hv) (h.evalL hvs)
   ·simp at hr
  ·simp at hr
theorem bs6 {G : List (Nat × TypeId × Pu)} {env : List (Nat × PV)} {o : Operand} {raw : List PV} (h : evalL G env [o] = some raw) : ∃ v, raw = [v] ∧ b9 G env o = some v := by
 simp only [evalL] at h
 split at h
 ·rename_i v hv
  simp at h
  exact ⟨v, h.symm, hv⟩
 ·simp at h
theorem aE0 (S : Seat P) {X : Ctx} {C : Cfg} {st : St} {o : Oper} {a : Act} {w : World} (h : SatC P X C st a w) {raw : List PV} {u : PV} (hraw : evalL X.G st.env o.op.operands.toList = some raw) (hp : y7 P S o.op (raw.map strip) = some u) (hd : C5 X.n o.dst = true) :
  Exec P X C st o a w { v := u, src := aB2 o.op o.dst } := by
 obtain ⟨y, e1, e2⟩ := aZ8 S hp (h.evalL hraw)
 refine m5 e1 (h.upd_put (t6 hd) e2 _ _) (Tr.refl _ _ _ _) fun L d hL hdst => ?_
 unfold aB2 at hL
 split at hL
 ·rename_i s hop
  split at hL
  ·simp at hL
  ·rename_i hne
   simp at hL
   subst hL
   have hd' := t6 hd d hdst
   have hy : y = a.eval (.tmp s) := by
    obtain ⟨dst, op, type, pos, after, guard⟩ := o
    simp only at hop
    subst hop
    simp [execOp] at e1
    exact e1.symm
   obtain ⟨v, _, hv⟩ := bs6 (o := .tmp s) (by rw [hop] at hraw; exact hraw)
   obtain ⟨x, hx, _⟩ := h.env s v hv
   have hyx : y = x := by rw [hy]; simp [Act.eval, Array.getD_eq_getD_getElem?, hx]
   have hsd : s ≠ d := fun e => hne (by rw [hdst, e])
   refine ⟨y, ?_, ?_⟩
   ·rw [hdst]; exact au0 (by rw [h.size]; exact hd')
   ·rw [hdst, at9 hsd, hx, hyx]
 ·simp at hL
theorem aT6 {X : Ctx} {C : Cfg} {st : St} {o : Oper} {a : Act} {w : World} (h : SatC P X C st a w) {s d : Nat} {E : TypeId} {ps : List Pu} (hop : o.op = .assign (.tmp s)) (hd : o.dst = some d) (hdn : d < X.n) (hsd : s ≠ d)
  (hs : get st.env s = some (.ow lo E ps)) : Exec P X C st o a w { v := .ow lo E ps, env := [(s, .pu (.sl lo E ps))] } := by
 obtain ⟨x, hx, _⟩ := h.env s _ hs
 obtain ⟨C', h1, h2⟩ := h.moveOw hs hx hdn hsd
 refine m5 (C' := C') (y := x) (w' := w) ?_ ?_ ⟨fun _ _ _ => by rw [h2], fun _ _ _ _ _ _ _ => rfl⟩ (fun L d hL => by simp at hL)
 ·obtain ⟨dst, op, type, pos, after, guard⟩ := o
  simp only at hop
  subst hop
  simp [execOp, Act.eval, Array.getD_eq_getD_getElem?, hx]
 ·rw [hd]
  exact h1
theorem aE1 (S : Seat P) {X : Ctx} {C : Cfg} {st : St} {o : Oper} {a : Act} {w : World} (h : SatC P X C st a w) {x : Operand} {T T' : TypeId} {l : Nat} {path : List Nat} {ob : Ob} {u : PV} (hop : o.op = .load T x) (hx : b9 X.G st.env x = some (.ptr l path T'))
  (hok : okT P T T' = true) (hl : get st.heap l = some ob) (hg : ob.get path = some u) (hd : C5 X.n o.dst = true) :
  Exec P X C st o a w { v := strip u, src := if (f7 P T).isNone then some (.obj l path) else none } := by
 obtain ⟨y, e1, e2, b, off, e3, e4, e5⟩ := aw4 S.hT h (h.eval hx) hok hl hg
 refine m5 (y := y) (w' := w) ?_ (h.upd_put (t6 hd) e2 _ _) (Tr.refl _ _ _ _) fun L d hL hdst => ?_
 ·obtain ⟨dst, op, type, pos, after, guard⟩ := o
  simp only at hop
  subst hop
  simp [execOp, e1]
 ·split at hL
  ·rename_i hc
   simp at hL
   subst hL
   have hd' := t6 hd d hdst
   exact ⟨b, ob.root, T', off, y, e3, e4, by rw [hdst]; exact au0 (by rw [h.size]; exact hd'), e5 (by simpa using hc)⟩
  ·simp at hL
theorem as2 {X : Ctx} {C C' : Cfg} {st : St} {a : Act} {w w' : World} (h : SatC P X C st a w) {l : Nat} {ob ob' : Ob} (hl : get st.heap l = some ob) (hρ : C'.ρ = C.ρ) (hb : ∀ b R, C.ρ l = some (b, R) → ButBlock b w w') (e : Eff) (he : e.heap = [(l, ob')]) : Tr C C' st e w w' := by
 refine ⟨fun _ _ _ => by rw [hρ], fun l' o' b R hl' hn hb' => ?_⟩
 obtain ⟨b0, e0, _, _⟩ := h.heap l ob hl
 have hne : l' ≠ l := fun e' => by subst e'; simp [he, get] at hn
 refine (hb b0 _ e0).block b fun e' => ?_
 subst e';exact hne (h.inj l' l b R _ o' ob hl' hl hb' e0)
theorem bb7 (S : Seat P) {X : Ctx} {C : Cfg} {st : St} {o : Oper} {a : Act} {w : World} (h : SatC P X C st a w) {x y : Operand} {T T' : TypeId} {l : Nat} {path : List Nat} {ob ob' : Ob} {u u0 : PV} (hop : o.op = .store T x y) (hx : b9 X.G st.env x = some (.ptr l path T'))
  (hy : b9 X.G st.env y = some u) (hok : okT P T T' = true) (hl : get st.heap l = some ob) (hR : l ∉ X.R) (hg : ob.get path = some u0) (hd : o.dst = none) (hty : tyV P T (strip u) = true) (h1 : (f7 P T).isSome = true ∨ P.cellsOf T = 1 ∧ P.cellsOf T' = 1)
  (hset : ob.set path (strip u) = some ob') : Exec P X C st o a w { v := .tup [], heap := [(l, ob')] } := by
 obtain ⟨w', ob2, e1, e2, e3, e4⟩ := bm8 S.hT h (h.eval hx) hok hl hR hg (h.eval hy) hty h1
 rw [hset] at e2
 simp at e2
 subst e2;refine ad3 (C' := C) (w' := w') ?_ (by rw [hd]; exact e3) (as2 h hl rfl e4 _ rfl) (fun L d hL => by simp at hL)
 obtain ⟨dst, op, type, pos, after, guard⟩ := o
 simp only at hop
 subst hop
 simp [execOp, e1]
theorem aI9 (S : Seat P) {X : Ctx} {C : Cfg} {st : St} {o : Oper} {a : Act} {w : World} (h : SatC P X C st a w) {x : Operand} {s : Nat} {T T' : TypeId} {l : Nat} {path : List Nat} {ob ob' : Ob} {u0 : PV} {E : TypeId} {ps : List Pu} (hop : o.op = .store T x (.tmp s)) (hx : b9 X.G st.env x = some (.ptr l path T'))
  (hs : get st.env s = some (.ow lo E ps)) (hok : okT P T T' = true) (hl : get st.heap l = some ob) (hR : l ∉ X.R) (hg : ob.get path = some u0) (hd : o.dst = none) (hc : (f7 P T').isNone = true) (h1 : P.cellsOf T = 1 ∧ P.cellsOf T' = 1)
  (hset : ob.set path (.ow lo E ps) = some ob') : Exec P X C st o a w { v := .tup [], env := [(s, .pu (.sl lo E ps))], heap := [(l, ob')] } := by
 obtain ⟨y, hy, _⟩ := h.env s _ hs
 obtain ⟨w', ob2, C', e1, e2, e3, e4, e5⟩ := aL6 S.hT h (h.eval hx) hok hl hR hg hs hy h1 hc
 rw [hset] at e2
 simp at e2
 subst e2;refine ad3 (C' := C') (w' := w') ?_ (by rw [hd]; exact e3) (as2 h hl e4 e5 _ rfl) (fun L d hL => by simp at hL)
 obtain ⟨dst, op, type, pos, after, guard⟩ := o
 simp only at hop
 subst hop
 simp [execOp, Act.eval, Array.getD_eq_getD_getElem?, hy]
 simp [Act.eval] at e1
 rw [e1]
 rfl
theorem aF5 {X : Ctx} {C C' : Cfg} {st : St} {a : Act} {w w' : World} (h : SatC P X C st a w) {l : Nat} (hn : get st.heap l = none) (g : Grew w w') (hρ : ∀ l', l' ≠ l → C'.ρ l' = C.ρ l') (e : Eff) : Tr C C' st e w w' :=
 ⟨fun l' ob hl => hρ l' (fun e => (by rw [e, hn] at hl; cases hl)), fun _ _ _ _ hl _ hb => g.block _ (h.block_lt hl hb)⟩
theorem bc0 (S : Seat P) {X : Ctx} {C : Cfg} {st : St} {o : Oper} {a : Act} {w : World} (h : SatC P X C st a w) {T : TypeId} {l d : Nat} {u : PV} (hop : o.op = .alloc T) (hd : o.dst = some d) (hdn : d < X.n) (hf : Fresh st l) (hL : l ∉ X.L) (hn : get st.heap l = none) (hz : S.Z T = some u) (hlu : l ∉ u.labs) :
  Exec P X C st o a w { v := .ptr l [] T, heap := [(l, .var T u)] } := by
 obtain ⟨y, w', C', e1, e2, e3, e4⟩ := bu0 S h hf hL hdn hz hlu
 refine m5 (C' := C') (w' := w') (y := y) ?_ (by rw [hd]; exact e2) (aF5 h hn e3 e4 _) (fun L d hL => by simp at hL)
 obtain ⟨dst, op, type, pos, after, guard⟩ := o
 simp only at hop
 subst hop
 simp [execOp, e1]
theorem bF2 (S : Seat P) {X : Ctx} {C : Cfg} {st : St} {o : Oper} {a : Act} {w : World} (h : SatC P X C st a w) {T : TypeId} {x : Operand} {l d : Nat} {u : PV} (hop : o.op = .box T x) (hd : o.dst = some d) (hdn : d < X.n) (hf : Fresh st l) (hL : l ∉ X.L) (hn : get st.heap l = none) (hx : b9 X.G st.env x = some u)
  (hty : tyV P T (strip u) = true) (h1 : (f7 P T).isSome = true ∨ P.cellsOf T = 1) (hlu : l ∉ (strip u).labs) :
  Exec P X C st o a w { v := .ptr l [] T, heap := [(l, .var T (strip u))] } := by
 obtain ⟨y, w', C', e1, e2, e3, e4⟩ := bR6 S.hT h hf hL hdn (h.eval hx) hty h1 hlu
 refine m5 (C' := C') (w' := w') (y := y) ?_ (by rw [hd]; exact e2) (aF5 h hn e3 e4 _) (fun L d hL => by simp at hL)
 obtain ⟨dst, op, type, pos, after, guard⟩ := o
 simp only at hop
 subst hop
 simp [execOp, e1]
theorem SatC.grew_put {X : Ctx} {C C' : Cfg} {st : St} {a : Act} {w w' : World} {dst : Option Nat} {v : PV} {y : Value} (h : SatC P X C st a w) (g : Grew w w') (c : CGrew C C' w w') (hd : ∀ d, dst = some d → d < X.n) (hv : VW P C' w' v y) (ow : Prop) :
  SatC P X C' (st.upd dst { v := v, owed := ow }) (a.put dst y) w' := (h.grew g c).upd_put hd hv none ow
end
section
variable {P : Program} {lo : Nat}
theorem PR.lo0 {D : Nat → Nat → Prop} {w : World} {E : TypeId} {ps : List Pu} {x : List Value} (h : PR P D w (.sl lo E ps) x) : PR P D w (.sl 0 E ps) x := by
 cases h with
 | sl0 => exact .sl0
 | sl a b c d _ => exact .sl a b c d (.inl rfl)
def I1 (E : TypeId) : PV → Option (List Pu)
 | .pu (.sl _ E' ys) => if E' = E then some ys else none
 | .xs _ E' ys => if E' = E then some ys else none
 | .nilc => some []
 | _ => none
theorem O8 {C : Cfg} {w : World} {E : TypeId} {v : PV} {x : Value} {ys : List Pu} (h : VW P C w v x) (he : I1 E v = some ys) : ∃ a n c, x = .slice a n c ∧ PR P C.D w (.sl 0 E ys) [.slice a n c] := by
 unfold I1 at he
 split at he
 ·split at he
  ·rename_i e
   subst e
   simp at he; subst he
   obtain ⟨a, cap, rfl, hp⟩ := aM1 h
   exact ⟨_, _, _, rfl, hp.lo0⟩
  ·simp at he
 ·split at he
  ·rename_i e
   subst e
   simp at he; subst he
   obtain ⟨a, rfl, hp⟩ := ag5 h
   exact ⟨_, _, _, rfl, hp.lo0⟩
  ·simp at he
 ·simp at he; subst he
  obtain rfl := al7 h
  exact ⟨_, _, _, rfl, .sl0⟩
 ·simp at he
theorem B4 {o : Oper} {a : Act} {w w' : World} {x y : Operand} {t : TypeId} {r : Value} (hop : o.op = .call ⟨.builtin .append, #[x, y], #[t, t]⟩) (h : (Builtin.append_ #[t, t] o.type #[a.eval x, a.eval y]).run P w = .ok r w') :
  (execOp a.eval o).run P w = .ok (.value r) w' := by
 obtain ⟨dst, op, type, pos, after, guard⟩ := o
 simp only at hop h
 subst hop
 simp [execOp, resolve, invoke, builtin, h]
def ad5 (lo : Nat) (E : TypeId) : PV → Option (List Pu)
 | .xs lo' E' ys => if E' = E ∧ lo' = lo then some ys else none
 | .nilc => some []
 | _ => none
theorem bc1 {C : Cfg} {w : World} {E : TypeId} {v : PV} {x : Value} {ys : List Pu} (h : VW P C w v x) (he : ad5 lo E v = some ys) : ∃ a n, x = .slice a n n ∧ PR P C.D w (.sl lo E ys) [.slice a n n] := by
 unfold ad5 at he
 split at he
 ·split at he
  ·rename_i e
   obtain ⟨rfl, rfl⟩ := e
   simp at he; subst he
   obtain ⟨a, rfl, hp⟩ := ag5 h
   exact ⟨_, _, rfl, hp⟩
  ·simp at he
 ·simp at he; subst he
  obtain rfl := al7 h
  exact ⟨_, _, rfl, .sl0⟩
 ·simp at he
theorem aj3 {X : Ctx} {C : Cfg} {st : St} {o : Oper} {a : Act} {w : World} (h : SatC P X C st a w) {x y : Operand} {t E : TypeId} {u v : PV} {ps ys : List Pu} {d : Nat} (hop : o.op = .call ⟨.builtin .append, #[x, y], #[t, t]⟩) (he : ElemOk P t E)
  (hx : b9 X.G st.env x = some u) (hu : ad5 lo E (strip u) = some ps) (hy : b9 X.G st.env y = some v) (hv : I1 E (strip v) = some ys) (hd : o.dst = some d) (hdn : d < X.n) (hfit : (ps.length + ys.length) * P.bytesOf E ≤ 70368744177664) (hlo : lo ≤ X.w0.heap.size) :
  Exec P X C st o a w { v := .ow lo E (ps ++ ys) } := by
 obtain ⟨a0, n0, e0, p0⟩ := bc1 (h.eval hx) hu
 obtain ⟨a1, n1, c1, e1, p1⟩ := O8 (h.eval hy) hv
 obtain ⟨r, w', C', f1, f2, f3, f4⟩ := W2 (ty := o.type) h he d p0 p1 hlo hfit
 refine m5 (C' := C') (w' := w') (y := r) (B4 hop (by rw [e0, e1]; exact f1)) ?_ (h.tr_grew f2 f3.ρ _) (fun L d hL => by simp at hL);rw [hd]
 have hr : r.cells.toList = [r] ∧ d7 r = false := by
  have := f4.one
  cases r <;> simp_all [Value.oneCell', Value.cells, d7]
 exact (h.grew f2 f3).put hdn (.one (by rw [hr.1]; exact f4) hr.2)
theorem av3 {C : Cfg} {w : World} {q : Place} {E : TypeId} {ps : List Pu} {x : Value} (h : VR P C w (some q) (.ow lo E ps) [x]) :
  (∃ a, x = .slice a ps.length ps.length ∧ PR P C.D w (.sl lo E ps) [.slice a ps.length ps.length]) ∨
  ∃ b cap c, x = .slice (some ⟨b, 0, none⟩) ps.length cap ∧ PR P C.D w (.sl lo E ps) [.slice (some ⟨b, 0, none⟩) ps.length cap] ∧ C.own b = some (q, ps.length * P.cellsOf E) ∧ w.heap[b]? = some (.cells c E (0, 0)) ∧ c.size = cap * P.cellsOf E ∧ lo ≤ b := by
 generalize hz : ([x] : List Value) = z at h
 cases h with
 | owx h => simp at hz; exact .inl ⟨_, hz, h⟩
 | ow h ho hb hc hl => simp at hz; exact .inr ⟨_, _, _, hz, h, ho, hb, hc, hl⟩
theorem bz6 {D : Nat → Nat → Prop} {w : World} {E : TypeId} {ps : List Pu} {a : Option Addr} {n cap : Nat} (h : PR P D w (.sl lo E ps) [.slice a n cap]) : n ≤ cap := by
 cases h with
 | sl0 => exact Nat.zero_le _
 | sl _ hc _ _ _ => exact hc
theorem S8 {X : Ctx} {C : Cfg} {st : St} {o : Oper} {a : Act} {w : World} (h : SatC P X C st a w) {b : Nat} {y : Operand} {t E : TypeId} {v : PV} {ps ys : List Pu} {s d : Nat} (hop : o.op = .call ⟨.builtin .append, #[.tmp b, y], #[t, t]⟩) (he : ElemOk P t E)
  (hs : get st.env s = some (.ow lo E ps)) (hbor : ak3 P C a w b (.slot s)) (hy : b9 X.G st.env y = some v) (hv : I1 E (strip v) = some ys) (hd : o.dst = some d) (hdn : d < X.n)
  (hfit : (ps.length + ys.length) * P.bytesOf E ≤ 70368744177664) (hlo : lo ≤ X.w0.heap.size) :
  Exec P X C st o a w { v := .ow lo E (ps ++ ys), env := [(s, .pu (.sl lo E ps))] } := by
 obtain ⟨x, hbx, hsx⟩ := hbor
 obtain ⟨x', hsx', hvt⟩ := h.env s _ hs
 obtain rfl : x' = x := by rw [hsx] at hsx'; exact (Option.some.inj hsx').symm
 have hbe : a.eval (.tmp b) = x' := by simp [Act.eval, Array.getD_eq_getD_getElem?, hbx]
 have hcell : VR P C w (some (.slot s)) (.ow lo E ps) [x'] := by
  cases hvt with
  | one hv hsh =>
   have : x'.cells.toList = [x'] := by cases x' <;> simp_all [d7, PV.isAgg, Value.cells]
   rwa [this] at hv
 obtain ⟨a1, n1, c1, e1, p1⟩ := O8 (h.eval hy) hv
 rcases av3 hcell with ⟨a0, rfl, p0⟩ | ⟨b0, cap, c, rfl, p0, ho, hblk, hc, hlb⟩
 ·obtain ⟨r, w', C', f1, f2, f3, f4⟩ := W2 (ty := o.type) h he d p0 p1 hlo hfit
  refine m5 (C' := C') (w' := w') (y := r) (B4 hop (by rw [hbe, e1]; exact f1)) ?_ (h.tr_grew f2 f3.ρ _) (fun L d hL => by simp at hL);rw [hd]
  have hr : r.cells.toList = [r] ∧ d7 r = false := by
   have := f4.one
   cases r <;> simp_all [Value.oneCell', Value.cells, d7]
  have h2 := h.say hsx (VT.one (.pu p0) rfl)
  exact (h2.grew f2 f3).put hdn (.one (by rw [hr.1]; exact f4) hr.2)
 ·obtain ⟨r, w', C', f1, f2, f3, f4⟩ := aj9 (ty := o.type) h he d p0 ho hblk hc (bz6 p0) p1 hlb hfit
  obtain ⟨_, _, _, hno⟩ := h.own b0 _ _ ho
  refine m5 (C' := C') (w' := w') (y := r) (B4 hop (by rw [hbe, e1]; exact f1)) ?_ ⟨fun _ _ _ => by rw [f3.ρ], fun l ob b1 R hl _ hb1 => f2.block b1 (h.block_lt hl hb1) fun e => (by subst e; exact hno l ob R hl hb1)⟩ (fun L d hL => by simp at hL);rw [hd]
  have hr : r.cells.toList = [r] ∧ d7 r = false := by
   have := f4.one
   cases r <;> simp_all [Value.oneCell', Value.cells, d7]
  have h2 := h.chg ho f2 f3 ((s, .pu (.sl lo E ps)) :: st.env) st.heap (fun i u hu => by
   rw [f8] at hu
   split at hu
   ·rename_i e
    subst e
    simp at hu; subst hu
    exact .inr ⟨_, hsx, .one (.pu (PR.mono f3.D f2.ty p0)) rfl⟩
   ·rename_i e
    exact .inl ⟨hu, fun hk => (by simp [Keeps] at hk; exact e hk.1.symm)⟩) (fun l ob hl => .inl ⟨hl, fun hk => by obtain ⟨r, lo, E, ps, e, _⟩ := hk; cases e⟩)
  exact h2.put hdn (.one (by rw [hr.1]; exact f4) hr.2)
theorem ap4 {X : Ctx} {C : Cfg} {st : St} {o : Oper} {a : Act} {w : World} (h : SatC P X C st a w) {b : Nat} {y : Operand} {t E : TypeId} {v : PV} {ps ys : List Pu} {l d : Nat} {path : List Nat} {ob ob' : Ob} (hop : o.op = .call ⟨.builtin .append, #[.tmp b, y], #[t, t]⟩) (he : ElemOk P t E)
  (hl : get st.heap l = some ob) (hR : l ∉ X.R) (hg : ob.get path = some (.ow lo E ps)) (hset : ob.set path (.pu (.sl lo E ps)) = some ob') (hbor : ak3 P C a w b (.obj l path)) (hy : b9 X.G st.env y = some v) (hv : I1 E (strip v) = some ys) (hd : o.dst = some d) (hdn : d < X.n)
  (hfit : (ps.length + ys.length) * P.bytesOf E ≤ 70368744177664) (hlo : lo ≤ X.w0.heap.size) :
  Exec P X C st o a w { v := .ow lo E (ps ++ ys), heap := [(l, ob')] } := by
 obtain ⟨bl, R, T, off, x, hρ, hs, hbx, hcx⟩ := hbor
 obtain ⟨bl', e0, hN, hor⟩ := h.heap l ob hl
 rw [e0] at hρ
 simp at hρ
 obtain ⟨rfl, rfl⟩ := hρ
 have hbe : a.eval (.tmp b) = x := by simp [Act.eval, Array.getD_eq_getD_getElem?, hbx]
 obtain ⟨u', c0, E0, pre, mid, post, g1, g2, g3, g4, g5, g6, g7, g8⟩ := OR.at hor hs hg
 rw [hg] at g5
 simp at g5
 subst g5
 have hmid : mid = [x] := by
  have hT : f7 P T = none := by simpa [tyV] using g6
  obtain ⟨z, rfl, _⟩ := g4.length_one g6 hT
  rw [m8 g1, ← Array.getElem?_toList, g2, ← g3, List.getElem?_append_right (Nat.le_refl _)] at hcx
  simp at hcx
  rw [hcx]
 subst hmid
 obtain ⟨a1, n1, c1, e1, p1⟩ := O8 (h.eval hy) hv
 have htp : tyV P T (.pu (.sl lo E ps)) = true := by simpa [tyV, tyP] using g6
 rcases av3 g4 with ⟨a0, rfl, p0⟩ | ⟨b0, cap, c, rfl, p0, ho, hblk, hc, hlb⟩
 ·-- the object with the bT5 slice
  obtain ⟨ob2, k1, k2⟩ := g8 (C' := C) (w' := w) (c' := c0) ⟨fun _ _ hD => ⟨hD, rfl⟩, fun _ _ => rfl, fun _ _ _ hb _ => ⟨hb, rfl⟩, TyKeep.refl w⟩ g1 g2 (.pu p0) rfl htp
  rw [hset] at k1
  simp at k1
  subst k1
  have h2 : SatC P X C ⟨st.env, (l, ob') :: st.heap⟩ a w := h.write hl hR e0 (Ob.set_root hset) ⟨rfl, rfl, rfl, rfl, fun _ _ => rfl, TyKeep.refl w⟩ st.env rfl rfl (fun _ q _ hq => ⟨q, hq⟩) h.env (fun _ _ _ _ => ⟨fun _ _ hD => ⟨hD, rfl⟩, fun _ _ => rfl, fun _ _ _ hb _ => ⟨hb, rfl⟩, TyKeep.refl w⟩) k2 ⟨fun _ _ hD => ⟨hD, rfl⟩, fun _ _ => rfl, fun _ _ _ hb _ => ⟨hb, rfl⟩, TyKeep.refl w⟩
  obtain ⟨r, w', C', f1, f2, f3, f4⟩ := W2 (ty := o.type) h he d p0 p1 hlo hfit
  refine m5 (C' := C') (w' := w') (y := r) (B4 hop (by rw [hbe, e1]; exact f1)) ?_ (h.tr_grew f2 f3.ρ _) (fun L d hL => by simp at hL);rw [hd]
  have hr : r.cells.toList = [r] ∧ d7 r = false := by
   have := f4.one
   cases r <;> simp_all [Value.oneCell', Value.cells, d7]
  exact (h2.grew f2 f3).put hdn (.one (by rw [hr.1]; exact f4) hr.2)
 ·obtain ⟨r, w', C', f1, f2, f3, f4⟩ := aj9 (ty := o.type) h he d p0 ho hblk hc (bz6 p0) p1 hlb hfit
  obtain ⟨_, _, _, hno⟩ := h.own b0 _ _ ho
  refine m5 (C' := C') (w' := w') (y := r) (B4 hop (by rw [hbe, e1]; exact f1)) ?_ ⟨fun _ _ _ => by rw [f3.ρ], fun l ob b1 R hl _ hb1 => f2.block b1 (h.block_lt hl hb1) fun e => (by subst e; exact hno l ob R hl hb1)⟩ (fun L d hL => by simp at hL);rw [hd]
  have hr : r.cells.toList = [r] ∧ d7 r = false := by
   have := f4.one
   cases r <;> simp_all [Value.oneCell', Value.cells, d7]
  have hne : bl' ≠ b0 := fun e => by subst e; exact hno l ob _ hl e0
  have h2 := h.chg ho f2 f3 st.env ((l, ob') :: st.heap) (fun i u hu => .inl ⟨hu, fun hk => by simp [Keeps] at hk⟩) (fun l' ob2 hl' => by
   rw [f8] at hl'
   split at hl'
   ·rename_i e
    subst e
    simp at hl'; subst hl'
    refine .inr ⟨ob, hl, Ob.set_root hset, fun b' hb' => ?_⟩
    obtain rfl : bl' = b' := by rw [Ob.set_root hset, e0] at hb'; simp at hb'; exact hb'
    obtain ⟨ob3, k1, k2⟩ := g8 (C' := C') (w' := w') (c' := c0) (u' := .pu (.sl lo E ps)) ⟨f3.D, fun _ _ => by rw [f3.ρ], fun b1 q k hb1 hk => by
     have hq : b1 ≠ b0 := fun e => by
      subst e
      rw [ho] at hb1
      simp at hb1
      exact hk.2 [] (by rw [← hb1.1]; simp)
     have hlt := (h.own b1 q k hb1).2.1
     exact ⟨(f3.own b1 hlt hq).trans hb1, f2.block b1 hlt hq⟩, f2.ty⟩ ((f2.block bl' hor.lt hne).trans g1) g2 (.pu (PR.mono f3.D f2.ty p0)) rfl htp
    rw [hset] at k1
    simp at k1
    subst k1;exact k2
   ·rename_i e
    exact .inl ⟨hl', fun hk => by obtain ⟨r, lo, E, ps, e', _⟩ := hk; simp at e'; exact e e'.1.symm⟩)
  exact h2.put hdn (.one (by rw [hr.1]; exact f4) hr.2)
end
section
variable {P : Program}
structure FP where
 reads : List Nat := []
 hreads : List Nat := []
 news : List Nat := []
 bors : List (Nat × Place) := []
 labs : List Nat := []
structure Item where
 o : Oper
 e : Eff
 f : FP
def Item.writes (x : Item) : List Nat := x.o.dst.toList ++ x.e.env.map (·.1)
def Item.hwrites (x : Item) : List Nat := x.e.heap.map (·.1)
theorem c8 {α : Type} (a b : List (Nat × α)) (i : Nat) : get (a ++ b) i = (get a i).or (get b i) := by
 induction a with
 | nil => simp [get]
 | cons x a ih =>
  obtain ⟨j, v⟩ := x
  simp only [List.cons_append, get]
  split
  ·simp
  ·exact ih
theorem aa9 {α : Type} {a : List (Nat × α)} {i : Nat} (h : i ∉ a.map (·.1)) : get a i = none := by
 induction a with
 | nil => rfl
 | cons x a ih =>
  obtain ⟨j, v⟩ := x
  simp at h
  simp only [get]
  rw [if_neg h.1];exact ih (by simpa using h.2)
theorem k8 {α : Type} {a : List (Nat × α)} {i : Nat} (h : i ∈ a.map (·.1)) : ∃ v, get a i = some v := by
 induction a with
 | nil => simp at h
 | cons x a ih =>
  obtain ⟨j, v⟩ := x
  simp only [get]
  split
  ·exact ⟨v, rfl⟩
  ·rename_i hne
   simp at h
   rcases h with h | h
   ·exact absurd h hne
   ·exact ih (by simpa using h)
theorem D1 {α : Type} {a : List (Nat × α)} {i : Nat} {v : α} (h : get a i = some v) : (i, v) ∈ a := by
 induction a with
 | nil => simp [get] at h
 | cons x a ih =>
  obtain ⟨j, u⟩ := x
  simp only [get] at h
  split at h
  ·rename_i e
   simp at h
   subst e h
   simp
  ·exact List.mem_cons_of_mem _ (ih h)
def St.app (st : St) (x : Item) : St := st.upd x.o.dst x.e
theorem bS4 (st : St) (x : Item) : (st.app x).env = (match x.o.dst with | some d => [(d, x.e.v)] | none => []) ++ x.e.env ++ st.env := by
 unfold St.app St.upd
 cases x.o.dst <;> simp
theorem ab7 (st : St) (x : Item) : (st.app x).heap = x.e.heap ++ st.heap := rfl
def Item.envs (x : Item) : List (Nat × PV) := (match x.o.dst with | some d => [(d, x.e.v)] | none => []) ++ x.e.env
theorem aE2 (x : Item) : x.envs.map (·.1) = x.writes := by
 unfold Item.envs Item.writes
 cases x.o.dst <;> simp
theorem ak0 (st : St) (x : Item) : (st.app x).env = x.envs ++ st.env := bS4 st x
theorem M2 (st : St) (x : Item) {t : Nat} (h : t ∉ x.writes) : get (st.app x).env t = get st.env t := by
 rw [ak0, c8, aa9 (by rw [aE2]; exact h)]
 simp
theorem az5 (st st' : St) (x : Item) {t : Nat} (h : t ∈ x.writes) : get (st.app x).env t = get (st'.app x).env t := by
 obtain ⟨v, hv⟩ := k8 (a := x.envs) (i := t) (by rw [aE2]; exact h)
 rw [ak0, ak0, c8, c8, hv]
 simp
theorem K1 (st : St) (x : Item) {t : Nat} (h : t ∉ x.hwrites) : get (st.app x).heap t = get st.heap t := by
 rw [ab7, c8, aa9 (a := x.e.heap) h]
 simp
theorem ap0 (st st' : St) (x : Item) {t : Nat} (h : t ∈ x.hwrites) : get (st.app x).heap t = get (st'.app x).heap t := by
 obtain ⟨v, hv⟩ := k8 (a := x.e.heap) (i := t) h
 rw [ab7, ab7, c8, c8, hv]
 simp
def run (st : St) : List Item → Nat → (Nat → Bool) → St
 | [], _, _ => st
 | x :: r, k, S => run (if S k then st.app x else st) r (k + 1) S
theorem L2 {t : Nat} {S T : Nat → Bool} : ∀ (l : List Item) (k : Nat) (st st' : St), get st.env t = get st'.env t → (∀ j x, l[j]? = some x → t ∈ x.writes → S (k + j) = T (k + j)) → get (run st l k S).env t = get (run st' l k T).env t
 | [], _, _, _, h, _ => h
 | x :: r, k, st, st', h, hw => by
  refine L2 r (k + 1) _ _ ?_ (fun j y hj hy => by
   have := hw (j + 1) y (by simpa using hj) hy
   simpa [Nat.add_assoc, Nat.add_comm 1 j] using this)
  by_cases ht : t ∈ x.writes
  ·have := hw 0 x rfl ht
   simp only [Nat.add_zero] at this
   rw [this]
   split
   ·exact az5 _ _ _ ht
   ·exact h
  ·split <;> split <;> first | rw [M2 _ _ ht, M2 _ _ ht, h] | rw [M2 _ _ ht, h] | exact h
theorem J4 {t : Nat} {S T : Nat → Bool} : ∀ (l : List Item) (k : Nat) (st st' : St), get st.heap t = get st'.heap t → (∀ j x, l[j]? = some x → t ∈ x.hwrites → S (k + j) = T (k + j)) → get (run st l k S).heap t = get (run st' l k T).heap t
 | [], _, _, _, h, _ => h
 | x :: r, k, st, st', h, hw => by
  refine J4 r (k + 1) _ _ ?_ (fun j y hj hy => by
   have := hw (j + 1) y (by simpa using hj) hy
   simpa [Nat.add_assoc, Nat.add_comm 1 j] using this)
  by_cases ht : t ∈ x.hwrites
  ·have := hw 0 x rfl ht
   simp only [Nat.add_zero] at this
   rw [this]
   split
   ·exact ap0 _ _ _ ht
   ·exact h
  ·split <;> split <;> first | rw [K1 _ _ ht, K1 _ _ ht, h] | rw [K1 _ _ ht, h] | exact h
theorem af6 (st : St) (S : Nat → Bool) : ∀ (l r : List Item) (k : Nat), run st (l ++ r) k S = run (run st l k S) r (k + l.length) S := by
 intro l
 induction l generalizing st with
 | nil => intro r k; rfl
 | cons x l ih =>
  intro r k
  simp only [List.cons_append, run, List.length_cons]
  rw [ih]
  congr 1
  omega
theorem ac6 {S T : Nat → Bool} : ∀ (l : List Item) (k : Nat) (st : St), (∀ j, j < l.length → S (k + j) = T (k + j)) → run st l k S = run st l k T
 | [], _, _, _ => rfl
 | x :: r, k, st, h => by
  simp only [run]
  have := h 0 (by simp)
  simp only [Nat.add_zero] at this
  rw [this]
  exact ac6 r (k + 1) _ fun j hj => by
   have := h (j + 1) (by simpa using hj)
   simpa [Nat.add_assoc, Nat.add_comm 1 j] using this
def add (S : Nat → Bool) (i : Nat) : Nat → Bool := fun j => j == i || S j
theorem bK9 {st : St} {l : List Item} {S : Nat → Bool} {i : Nat} {x : Item} (hi : l[i]? = some x) (hS : S i = false)
  (hw : ∀ j y, l[j]? = some y → S j = true → i < j → (∀ t, t ∈ x.writes → t ∉ y.writes) ∧ ∀ t, t ∈ x.hwrites → t ∉ y.hwrites) : St.Same ((run st l 0 S).app x) (run st l 0 (add S i)) := by
 obtain ⟨hlt, hx⟩ := List.getElem?_eq_some_iff.1 hi
 have hl : l = l.take i ++ x :: l.drop (i + 1) := by rw [← hx, List.getElem_cons_drop, List.take_append_drop]
 have hlen : (l.take i).length = i := by simp; omega
 have e1 : run st l 0 S = run (run st (l.take i) 0 S) (l.drop (i + 1)) (i + 1) S := by
  rw [hl, af6]
  simp only [run, hlen, Nat.zero_add, hS, Bool.false_eq_true, if_false]
  congr 1
  ·congr 1
   rw [← hl]
  ·rw [← hl]
 have e2 : run st l 0 (add S i) = run ((run st (l.take i) 0 S).app x) (l.drop (i + 1)) (i + 1) S := by
  rw [hl, af6]
  simp only [run, hlen, Nat.zero_add]
  have : add S i i = true := by simp [add]
  rw [this, if_pos rfl]
  have e3 : run st (l.take i) 0 (add S i) = run st (l.take i) 0 S := ac6 _ _ _ fun j hj => by
   have : j ≠ i := by omega
   simp [add, this]
  rw [← hl, e3]
  exact ac6 _ _ _ fun j _ => by
   have : i + 1 + j ≠ i := by omega
   simp [add, this]
 rw [e1, e2]
 have hB : ∀ j y, (l.drop (i + 1))[j]? = some y → S (i + 1 + j) = true → (∀ t, t ∈ x.writes → t ∉ y.writes) ∧ ∀ t, t ∈ x.hwrites → t ∉ y.hwrites := fun j y hj hs => by
  rw [List.getElem?_drop] at hj
  exact hw _ y hj hs (by omega)
 refine ⟨fun t => ?_, fun t => ?_⟩
 ·by_cases ht : t ∈ x.writes
  ·have h1 : get (run ((run st (l.take i) 0 S).app x) (l.drop (i + 1)) (i + 1) S).env t = get (run ((run st (l.take i) 0 S).app x) (l.drop (i + 1)) (i + 1) (fun _ => false)).env t :=
    L2 _ _ _ _ rfl fun j y hj hy => by
     cases hs : S (i + 1 + j) with
     | false => rfl
     | true => exact absurd hy ((hB j y hj hs).1 t ht)
   have h2 : ∀ (l : List Item) k (st : St), run st l k (fun _ => false) = st := fun l => by
    induction l with
    | nil => intros; rfl
    | cons y l ih => intro k st; simp only [run, Bool.false_eq_true, if_false]; exact ih _ _
   rw [h1, h2];exact az5 _ _ _ ht
  ·rw [M2 _ _ ht]
   exact L2 _ _ _ _ (M2 _ _ ht).symm fun _ _ _ _ => rfl
 ·by_cases ht : t ∈ x.hwrites
  ·have h1 : get (run ((run st (l.take i) 0 S).app x) (l.drop (i + 1)) (i + 1) S).heap t = get (run ((run st (l.take i) 0 S).app x) (l.drop (i + 1)) (i + 1) (fun _ => false)).heap t :=
    J4 _ _ _ _ rfl fun j y hj hy => by
     cases hs : S (i + 1 + j) with
     | false => rfl
     | true => exact absurd hy ((hB j y hj hs).2 t ht)
   have h2 : ∀ (l : List Item) k (st : St), run st l k (fun _ => false) = st := fun l => by
    induction l with
    | nil => intros; rfl
    | cons y l ih => intro k st; simp only [run, Bool.false_eq_true, if_false]; exact ih _ _
   rw [h1, h2];exact ap0 _ _ _ ht
  ·rw [K1 _ _ ht]
   exact J4 _ _ _ _ (K1 _ _ ht).symm fun _ _ _ _ => rfl
end
section
variable {P : Program}
def rf (ro : Option Nat) : Fence := { Fence.wide with round := ro }
def aq6 : Op → Bool
 | .defer _ => true
 | _ => false
theorem N5 {ro : Option Nat} {o : Oper} {a : Act} {w : World} {K : Act → World → Prop} {Q : Exit → Act → World → Prop} (hnd : aq6 o.op = false) (h : o.wp P a w K Q) : o.wpIn (rf ro) 0 P a w K Q := by
 refine ⟨fun _ _ => trivial, ?_⟩
 rw [Oper.semAt_eq _ _ _ fun c e => by rw [e] at hnd; cases hnd]
 unfold Oper.wp at h
 generalize (execOp a.eval o).run P w = r at h
 cases r with
 | ok n w' =>
  cases n <;> simp only [Oper.upon] at h <;> simp only [Oper.uponIn]
  all_goals first
   | exact h
   | exact h.elim
   | skip
  ·exact ⟨fun hd => by simp [rf, Fence.wide] at hd, (callsIn_wide (n := 0)).2 h⟩
  ·refine ⟨fun hd => by simp [rf, Fence.wide] at hd, fun c cs _ => ?_⟩
   obtain ⟨v, w'', r1, r2⟩ := h c cs
   exact ⟨v, w'', r1, stepsIn_wide.2 r2⟩
 | halt x w' => cases x <;> simp only [Oper.upon] at h <;> first | exact h.elim | (simp only [Oper.uponIn]; exact h)
def ExecG (P : Program) (X : Ctx) (ops : Array Oper) (C : Cfg) (st : St) (o : Oper) (a : Act) (w : World) (e : Eff) : Prop :=
 ∀ (K : Act → World → Prop) (Q : Exit → Act → World → Prop), (∀ C' y w', SatC P X C' (st.upd o.dst e) (a.put o.dst y) w' → Tr C C' st e w w' →
  (∀ L d, e.src = some L → o.dst = some d → ak3 P C' (a.put o.dst y) w' d L) → K (a.put o.dst y) w') →
  if Region.wanted o (yielded ops a.tmps) = true then (aq6 o.op = false → o.wpIn (rf X.ro) 0 P a w K Q) else K (a.put o.dst undef) w
def Live (st : St) : Place → Prop
 | .slot _ => True
 | .obj l _ => ∃ ob, get st.heap l = some ob
structure Agree (f : FP) (st st' : St) : Prop where
 env : ∀ t ∈ f.reads, get st'.env t = get st.env t
 heap : ∀ l ∈ f.hreads, get st'.heap l = get st.heap l
structure Does (P : Program) (X : Ctx) (ops : Array Oper) (st : St) (x : Item) : Prop where
 labs : ∀ l, (l ∈ x.e.v.labs ∨ (∃ q ∈ x.e.env, l ∈ q.2.labs) ∨ ∃ q ∈ x.e.heap, l ∈ q.2.labs) → l ∈ x.f.labs
 live : ∀ L, x.e.src = some L → Live st L
 exec : ∀ st', Agree x.f st st' → (∀ l ∈ x.f.news, Fresh st' l ∧ get st'.heap l = none ∧ l ∉ X.L) → ∀ C a w, SatC P X C st' a w → (∀ p ∈ x.f.bors, ak3 P C a w p.1 p.2) → ExecG P X ops C st' x.o a w x.e
def Item.kills (y : Item) (t : Nat) (L : Place) : Bool := y.writes.contains t || match L with
 | .slot s => y.writes.contains s
 | .obj l _ => y.hwrites.contains l
def Item.names (y : Item) : List Nat := y.f.labs ++ y.hwrites ++ y.f.hreads ++ y.f.news
def G8 (x y : Item) : Bool :=
 x.writes.any (fun t => y.f.reads.contains t || y.writes.contains t) || x.f.reads.any (fun t => y.writes.contains t) ||
 x.hwrites.any (fun t => y.f.hreads.contains t || y.hwrites.contains t) || x.f.hreads.any (fun t => y.hwrites.contains t) ||
 x.f.news.any (fun l => y.names.contains l) || y.f.news.any (fun l => x.names.contains l)
def Item.looks (x : Item) : Place → Bool
 | .slot s => x.f.reads.contains s
 | .obj l _ => x.f.hreads.contains l
def ad9 (before : List Item) (x : Item) : Bool :=
 x.f.news.all (fun l => before.all fun y => !y.names.contains l) &&
 x.f.bors.all (fun (t, L) => x.f.reads.contains t && x.looks L &&
  (List.range before.length).any fun i => match before[i]? with
   | some y => y.e.src == some L && y.o.dst == some t && (before.drop (i + 1)).all (fun z => !z.kills t L)
   | none => false) &&
 (match x.e.src with
  | some L => x.looks L && (match L with
   | .slot s => x.o.dst != some s
   | .obj l _ => !x.hwrites.contains l)
  | none => true)
def A5 : List Item → List Item → Bool
 | _, [] => true
 | before, x :: r => !aq6 x.o.op && ad9 before x && A5 (before ++ [x]) r
theorem O6 : ∀ (r before : List Item), A5 before r = true → ∀ i x, r[i]? = some x → ad9 (before ++ r.take i) x = true
 | [], _, _, i, x, h => by simp at h
 | y :: r, before, h, 0, x, hi => by
  simp only [A5, Bool.and_eq_true] at h
  simp at hi; subst hi
  simpa using h.1.2
 | y :: r, before, h, i + 1, x, hi => by
  simp only [A5, Bool.and_eq_true] at h
  have := O6 r (before ++ [y]) h.2 i x (by simpa using hi)
  simpa using this
theorem ae8 : ∀ (r before : List Item), A5 before r = true → ∀ (i : Nat) (x : Item), r[i]? = some x → aq6 x.o.op = false
 | [], _, _, i, x, h => by simp at h
 | y :: r, before, h, 0, x, hi => by
  simp only [A5, Bool.and_eq_true] at h
  simp at hi; subst hi
  simpa using h.1.1
 | y :: r, before, h, i + 1, x, hi => by
  simp only [A5, Bool.and_eq_true] at h
  exact ae8 r (before ++ [y]) h.2 i x (by simpa using hi)
def O2 (i : Nat) : Nat → Bool := fun j => decide (j < i)
structure Inv (P : Program) (X : Ctx) (st0 : St) (items : List Item) (S : Nat → Bool) (C : Cfg) (a : Act) (w : World) : Prop where
 sat : SatC P X C (run st0 items 0 S) a w
 bor : ∀ i x t L, items[i]? = some x → S i = true → x.e.src = some L → x.o.dst = some t → (∀ j y, items[j]? = some y → S j = true → i < j → y.kills t L = false) → ak3 P C a w t L ∧ Live (run st0 items 0 S) L
theorem an8 {S : Nat → Bool} {t : Nat} {v : PV} : ∀ (l : List Item) (k : Nat) (st : St), get (run st l k S).env t = some v →
  get st.env t = some v ∨ ∃ j x, l[j]? = some x ∧ S (k + j) = true ∧ (v = x.e.v ∨ ∃ q ∈ x.e.env, q.2 = v)
 | [], _, _, h => .inl h
 | x :: r, k, st, h => by
  rcases an8 r (k + 1) _ h with h1 | ⟨j, y, hj, hs, hv⟩
  ·by_cases hk : S k = true
   ·rw [if_pos hk, ak0, c8] at h1
    cases he : get x.envs t with
    | none => rw [he] at h1; exact .inl (by simpa using h1)
    | some u =>
     rw [he] at h1
     simp at h1
     subst h1
     have := D1 he
     refine .inr ⟨0, x, rfl, by simpa using hk, ?_⟩
     unfold Item.envs at this
     rcases List.mem_append.1 this with h2 | h2
     ·cases hd : x.o.dst with
      | none => simp [hd] at h2
      | some d => simp [hd] at h2; exact .inl h2.2
     ·exact .inr ⟨_, h2, rfl⟩
   ·rw [if_neg hk] at h1
    exact .inl h1
  ·exact .inr ⟨j + 1, y, by simpa using hj, by rw [show k + (j + 1) = k + 1 + j by omega]; exact hs, hv⟩
theorem U6 {S : Nat → Bool} {t : Nat} {v : Ob} : ∀ (l : List Item) (k : Nat) (st : St), get (run st l k S).heap t = some v →
  get st.heap t = some v ∨ ∃ j x, l[j]? = some x ∧ S (k + j) = true ∧ (t, v) ∈ x.e.heap
 | [], _, _, h => .inl h
 | x :: r, k, st, h => by
  rcases U6 r (k + 1) _ h with h1 | ⟨j, y, hj, hs, hv⟩
  ·by_cases hk : S k = true
   ·rw [if_pos hk, ab7, c8] at h1
    cases he : get x.e.heap t with
    | none => rw [he] at h1; exact .inl (by simpa using h1)
    | some u =>
     rw [he] at h1
     simp at h1
     subst h1;exact .inr ⟨0, x, rfl, by simpa using hk, D1 he⟩
   ·rw [if_neg hk] at h1
    exact .inl h1
  ·exact .inr ⟨j + 1, y, by simpa using hj, by rw [show k + (j + 1) = k + 1 + j by omega]; exact hs, hv⟩
theorem ab5 {l : List Nat} {t : Nat} (h : t ∈ l) : l.contains t = true := by simpa using h
theorem ad8 {x y : Item} {t : Nat} (hx : t ∈ x.f.reads) (hy : t ∈ y.writes) : G8 x y = true := by
 have : x.f.reads.any (fun t => y.writes.contains t) = true := List.any_eq_true.2 ⟨t, hx, ab5 hy⟩
 unfold G8; rw [this]; simp only [Bool.or_true, Bool.true_or]
theorem ay4 {x y : Item} {t : Nat} (hx : t ∈ x.writes) (hy : t ∈ y.f.reads ∨ t ∈ y.writes) : G8 x y = true := by
 have : x.writes.any (fun t => y.f.reads.contains t || y.writes.contains t) = true := List.any_eq_true.2 ⟨t, hx, by rcases hy with hy | hy <;> simp [hy]⟩
 unfold G8; rw [this]; simp only [Bool.or_true, Bool.true_or]
theorem ay3 {x y : Item} {t : Nat} (hx : t ∈ x.f.hreads) (hy : t ∈ y.hwrites) : G8 x y = true := by
 have : x.f.hreads.any (fun t => y.hwrites.contains t) = true := List.any_eq_true.2 ⟨t, hx, ab5 hy⟩
 unfold G8; rw [this]; simp only [Bool.or_true, Bool.true_or]
theorem aU3 {x y : Item} {t : Nat} (hx : t ∈ x.hwrites) (hy : t ∈ y.f.hreads ∨ t ∈ y.hwrites) : G8 x y = true := by
 have : x.hwrites.any (fun t => y.f.hreads.contains t || y.hwrites.contains t) = true := List.any_eq_true.2 ⟨t, hx, by rcases hy with hy | hy <;> simp [hy]⟩
 unfold G8; rw [this]; simp only [Bool.or_true, Bool.true_or]
theorem bc9 {x y : Item} {t : Nat} (hx : t ∈ x.f.news) (hy : t ∈ y.names) : G8 x y = true := by
 have : x.f.news.any (fun l => y.names.contains l) = true := List.any_eq_true.2 ⟨t, hx, ab5 hy⟩
 unfold G8; rw [this]; simp only [Bool.or_true, Bool.true_or]
theorem bb1 {y : Item} {t : Nat} {L : Place} (h : y.kills t L = true) : t ∈ y.writes ∨ (∃ s, L = .slot s ∧ s ∈ y.writes) ∨ ∃ l p, L = .obj l p ∧ l ∈ y.hwrites := by
 unfold Item.kills at h
 rw [Bool.or_eq_true] at h
 rcases h with h | h
 ·exact .inl (by simpa using h)
 ·cases L with
  | slot s => exact .inr (.inl ⟨s, rfl, by simpa using h⟩)
  | obj l p => exact .inr (.inr ⟨l, p, rfl, by simpa using h⟩)
theorem ao3 {x y : Item} {t : Nat} {L : Place} (ht : t ∈ x.f.reads ∨ t ∈ x.writes) (hl : x.looks L = true) (h : y.kills t L = true) : G8 x y = true := by
 rcases bb1 h with h1 | ⟨s, rfl, h1⟩ | ⟨l, p, rfl, h1⟩
 ·rcases ht with ht | ht
  ·exact ad8 ht h1
  ·exact ay4 ht (.inr h1)
 ·exact ad8 (by simpa [Item.looks] using hl) h1
 ·exact ay3 (by simpa [Item.looks] using hl) h1
theorem ay2 {x y : Item} (h : G8 x y = true) : G8 y x = true := by
 simp only [G8, Bool.or_eq_true, List.any_eq_true] at h ⊢
 rcases h with ((((⟨t, h1, h2⟩ | ⟨t, h1, h2⟩) | ⟨t, h1, h2⟩) | ⟨t, h1, h2⟩) | ⟨t, h1, h2⟩) | ⟨t, h1, h2⟩
 ·rcases h2 with h2 | h2
  ·exact .inl (.inl (.inl (.inl (.inr ⟨t, by simpa using h2, by simpa using h1⟩))))
  ·exact .inl (.inl (.inl (.inl (.inl ⟨t, by simpa using h2, .inr (by simpa using h1)⟩))))
 ·exact .inl (.inl (.inl (.inl (.inl ⟨t, by simpa using h2, .inl (by simpa using h1)⟩))))
 ·rcases h2 with h2 | h2
  ·exact .inl (.inl (.inr ⟨t, by simpa using h2, by simpa using h1⟩))
  ·exact .inl (.inl (.inl (.inr ⟨t, by simpa using h2, .inr (by simpa using h1)⟩)))
 ·exact .inl (.inl (.inl (.inr ⟨t, by simpa using h2, .inl (by simpa using h1)⟩)))
 ·exact .inr ⟨t, by simpa using h1, by simpa using h2⟩
 ·exact .inl (.inr ⟨t, by simpa using h1, by simpa using h2⟩)
structure RegionOk (P : Program) (X : Ctx) (ops : Array Oper) (st0 : St) (items : List Item) : Prop where
 opers : ops.toList = items.map (·.o)
 does : ∀ i x, items[i]? = some x → Does P X ops (run st0 items 0 (O2 i)) x
 ok : A5 [] items = true
 fresh : ∀ x ∈ items, ∀ l ∈ x.f.news, Fresh st0 l ∧ get st0.heap l = none ∧ l ∉ X.L
theorem RegionOk.op {X : Ctx} {ops : Array Oper} {st0 : St} {items : List Item} (h : RegionOk P X ops st0 items) {i : Nat} {x : Item} (hi : items[i]? = some x) : ops[i]? = some x.o := by
 rw [← Array.getElem?_toList, h.opers, List.getElem?_map, hi]
 rfl
theorem bI4 {st0 : St} {items : List Item} {i : Nat} {x : Item} {S : Nat → Bool} (hS : S i = false)
  (hsep : ∀ j y, items[j]? = some y → j ≠ i → G8 x y = true → S j = decide (j < i)) : Agree x.f (run st0 items 0 (O2 i)) (run st0 items 0 S) := by
 have key : ∀ j y, items[j]? = some y → (j ≠ i → G8 x y = true) → S (0 + j) = O2 i (0 + j) := fun j y hj hc => by
  rw [Nat.zero_add]
  by_cases hji : j = i
  ·subst hji
   rw [hS]
   simp [O2]
  ·rw [hsep j y hj hji (hc hji)]; rfl
 exact ⟨fun t ht => L2 _ _ _ _ rfl fun j y hj hy => key j y hj fun _ => ad8 ht hy, fun t ht => J4 _ _ _ _ rfl fun j y hj hy => key j y hj fun _ => ay3 ht hy⟩
theorem aL5 {items : List Item} {i j : Nat} {y : Item} (hj : items[j]? = some y) (h : j < i) : (items.take i)[j]? = some y := by
 rw [List.getElem?_take, if_pos h, hj]
theorem aP8 {l : List Item} {n j : Nat} {y : Item} (hj : l[j]? = some y) (h : n ≤ j) : y ∈ l.drop n := by
 refine List.mem_of_getElem? (i := j - n) ?_;rw [List.getElem?_drop, show n + (j - n) = j by omega, hj]
theorem Inv.bors {X : Ctx} {ops : Array Oper} {st0 : St} {items : List Item} (h : RegionOk P X ops st0 items) {i : Nat} {x : Item} (hi : items[i]? = some x) {S : Nat → Bool}
  (hsep : ∀ j y, items[j]? = some y → j ≠ i → G8 x y = true → S j = decide (j < i)) (hS : S i = false) {C : Cfg} {a : Act} {w : World} (inv : Inv P X st0 items S C a w) : ∀ p ∈ x.f.bors, ak3 P C a w p.1 p.2 := by
 intro p hp
 obtain ⟨t, L⟩ := p
 have ha := O6 items [] h.ok i x hi
 simp only [List.nil_append, ad9, Bool.and_eq_true] at ha
 have hb := List.all_eq_true.1 ha.1.2 _ hp
 simp only [Bool.and_eq_true, List.any_eq_true, List.mem_range] at hb
 obtain ⟨⟨h1, h2⟩, k, hk, h3⟩ := hb
 split at h3
 case h_2 => simp at h3
 rename_i y hy
 simp only [Bool.and_eq_true, beq_iff_eq] at h3
 obtain ⟨⟨h4, h5⟩, h6⟩ := h3
 rw [List.getElem?_take] at hy
 split at hy
 case isFalse => simp at hy
 rename_i hki
 have hsk : S k = true := by
  have := hsep k y hy (by omega) (ad8 (t := t) (by simpa using h1) (by unfold Item.writes; rw [h5]; simp))
  rw [this]
  simpa using hki
 refine (inv.bor k y t L hy hsk h4 h5 fun j z hj hsj hkj => ?_).1
 cases hz : z.kills t L with
 | false => rfl
 | true =>
  exfalso
  have hji : j ≠ i := fun e => by subst e; rw [hS] at hsj; cases hsj
  have hs := hsep j z hj hji (ao3 (.inl (by simpa using h1)) h2 hz)
  rw [hsj] at hs
  have hlt : j < i := by simpa using hs.symm
  have := List.all_eq_true.1 h6 z (aP8 (aL5 hj hlt) hkj)
  simp [hz] at this
theorem RegionOk.freshIn {X : Ctx} {ops : Array Oper} {st0 : St} {items : List Item} (h : RegionOk P X ops st0 items) {i : Nat} {x : Item} (hi : items[i]? = some x) {S : Nat → Bool} (hS : S i = false)
  (hsep : ∀ j y, items[j]? = some y → j ≠ i → G8 x y = true → S j = decide (j < i)) : ∀ l ∈ x.f.news, Fresh (run st0 items 0 S) l ∧ get (run st0 items 0 S).heap l = none ∧ l ∉ X.L := by
 intro l hl
 obtain ⟨f1, f2, f3⟩ := h.fresh x (List.mem_of_getElem? hi) l hl
 have ha := O6 items [] h.ok i x hi
 simp only [List.nil_append, ad9, Bool.and_eq_true] at ha
 have hn := List.all_eq_true.1 ha.1.1 _ hl
 have key : ∀ (j : Nat) (y : Item), items[j]? = some y → S (0 + j) = true → l ∉ y.names := fun j y hj hs hm => by
  rw [Nat.zero_add] at hs
  have hji : j ≠ i := fun e => by subst e; rw [hS] at hs; cases hs
  have := hsep j y hj hji (bc9 hl hm)
  rw [hs] at this
  have hlt : j < i := by simpa using this.symm
  have := List.all_eq_true.1 hn _ (List.mem_of_getElem? (aL5 hj hlt))
  simp at this
  exact this hm
 have lab : ∀ (j : Nat) (y : Item) (l' : Nat), items[j]? = some y → (l' ∈ y.e.v.labs ∨ (∃ q ∈ y.e.env, l' ∈ q.2.labs) ∨ ∃ q ∈ y.e.heap, l' ∈ q.2.labs) → l' ∈ y.names := fun j y l' hj hh => by
  have := (h.does j y hj).labs l' hh
  simp [Item.names, this]
 refine ⟨⟨fun t v hv hm => ?_, fun l' ob hl' hne hm => ?_⟩, ?_, f3⟩
 ·rcases an8 _ _ _ hv with h1 | ⟨j, y, hj, hs, rfl | ⟨q, hq, rfl⟩⟩
  ·exact f1.env t v h1 hm
  ·exact key j y hj hs (lab j y l hj (.inl hm))
  ·exact key j y hj hs (lab j y l hj (.inr (.inl ⟨q, hq, hm⟩)))
 ·rcases U6 _ _ _ hl' with h1 | ⟨j, y, hj, hs, hq⟩
  ·exact f1.heap l' ob h1 hne hm
  ·exact key j y hj hs (lab j y l hj (.inr (.inr ⟨_, hq, hm⟩)))
 ·cases hg : get (run st0 items 0 S).heap l with
  | none => rfl
  | some ob =>
   exfalso
   rcases U6 _ _ _ hg with h1 | ⟨j, y, hj, hs, hq⟩
   ·rw [f2] at h1; cases h1
   ·refine key j y hj hs ?_
    have : l ∈ y.hwrites := List.mem_map.2 ⟨_, hq, rfl⟩
    simp [Item.names, this]
theorem Live.mono {st st' : St} {L : Place} (h : Live st L) (hh : ∀ l ob, get st.heap l = some ob → ∃ ob', get st'.heap l = some ob') : Live st' L := by
 cases L with
 | slot s => trivial
 | obj l p => obtain ⟨ob, ho⟩ := h; exact hh l ob ho
theorem Same.live {st st' : St} (e : st.Same st') {L : Place} (h : Live st L) : Live st' L := h.mono fun l ob hl => ⟨ob, (e.heap l).symm.trans hl⟩
theorem aV5 {st : St} {x : Item} {L : Place} (h : Live st L) : Live (st.app x) L := h.mono fun l ob hl => by
 rw [ab7, c8, hl]
 cases get x.e.heap l <;> simp
theorem aL8 {X : Ctx} {ops : Array Oper} {st0 : St} {items : List Item} (h : RegionOk P X ops st0 items) {i : Nat} {x : Item} (hi : items[i]? = some x) {S : Nat → Bool} (hS : S i = false)
  (hsep : ∀ j y, items[j]? = some y → j ≠ i → G8 x y = true → S j = decide (j < i)) {C : Cfg} {a : Act} {w : World} (inv : Inv P X st0 items S C a w) {K : Act → World → Prop} {Q : Exit → Act → World → Prop}
  (hK : ∀ C' a' w', Inv P X st0 items (add S i) C' a' w' → K a' w') : wpOpIn (rf X.ro) 0 P ops Q i K a w := by
 have hag : Agree x.f (run st0 items 0 (O2 i)) (run st0 items 0 S) := bI4 hS hsep
 have hE := (h.does i x hi).exec _ hag (h.freshIn hi hS hsep) C a w inv.sat (inv.bors h hi hsep hS)
 have hsame := bK9 (st := st0) hi hS fun j y hj hs hij => by
  have hno : G8 x y = true → False := fun hc => by
   have := hsep j y hj (by omega) hc
   rw [hs] at this
   have : j < i := by simpa using this.symm
   omega
  exact ⟨fun t ht hy => hno (ay4 ht (.inr hy)), fun t ht hy => hno (aU3 ht (.inr hy))⟩
 have ha := O6 items [] h.ok i x hi
 simp only [List.nil_append, ad9, Bool.and_eq_true] at ha
 unfold wpOpIn
 rw [h.op hi]
 simp only
 have := hE K Q fun C' y w' hs ht hb => by
  refine hK C' _ w' ⟨hs.same hsame, fun k z t L hk hsk hsrc hdst hkill => ?_⟩
  by_cases hki : k = i
  ·subst hki
   obtain rfl : z = x := by rw [hi] at hk; exact (Option.some.inj hk).symm
   refine ⟨hb L t hsrc hdst, Same.live hsame (aV5 ?_)⟩
   have hl := (h.does k z hi).live L hsrc
   have hlk : z.looks L = true := by
    have := ha.2
    rw [hsrc] at this
    simp only [Bool.and_eq_true] at this
    exact this.1
   cases L with
   | slot s => trivial
   | obj l p =>
    obtain ⟨ob, ho⟩ := hl
    exact ⟨ob, by rw [hag.heap l (by simpa [Item.looks] using hlk)]; exact ho⟩
  ·have hsk' : S k = true := by simpa [add, hki] using hsk
   obtain ⟨b1, b2⟩ := inv.bor k z t L hk hsk' hsrc hdst fun j y hj hsj hkj => hkill j y hj (by simp [add, hsj]) hkj
   have hz := O6 items [] h.ok k z hk
   simp only [List.nil_append, ad9, Bool.and_eq_true] at hz
   have hzl := hz.2
   rw [hsrc] at hzl
   simp only [Bool.and_eq_true] at hzl
   have hxk : x.kills t L = false := by
    rcases Nat.lt_or_ge k i with hlt | hge
    ·exact hkill i x hi (by simp [add]) hlt
    ·cases hx : x.kills t L with
     | false => rfl
     | true =>
      exfalso
      have hc := ao3 (x := z) (.inr (by unfold Item.writes; rw [hdst]; simp)) hzl.1 hx
      have := hsep k z hk hki (ay2 hc)
      rw [hsk'] at this
      have : k < i := by simpa using this.symm
      omega
   have hnt : ∀ d, x.o.dst = some d → t ≠ d := fun d hd e => by
    subst e
    have : t ∈ x.writes := by unfold Item.writes; rw [hd]; simp
    simp [Item.kills, this] at hxk
   have hput : ∀ t', (∀ d, x.o.dst = some d → t' ≠ d) → (a.put x.o.dst y).tmps[t']? = a.tmps[t']? := fun t' ht' => by
    cases hd : x.o.dst with
    | none => rfl
    | some d => exact at9 (ht' d hd)
   refine ⟨?_, Same.live hsame (aV5 b2)⟩
   cases L with
   | slot s =>
    obtain ⟨u, hu1, hu2⟩ := b1
    refine ⟨u, by rw [hput t hnt]; exact hu1, ?_⟩
    rw [hput s fun d hd e => ?_]
    ·exact hu2
    ·subst e
     have : s ∈ x.writes := by unfold Item.writes; rw [hd]; simp
     simp [Item.kills, this] at hxk
   | obj l p =>
    obtain ⟨b, R, T, off, u, e1, e2, e3, e4⟩ := b1
    obtain ⟨ob, ho⟩ := b2
    have hl : l ∉ x.hwrites := fun hm => by
     simp [Item.kills, hm] at hxk
    refine ⟨b, R, T, off, u, by rw [ht.ρ l ob ho]; exact e1, e2, by rw [hput t hnt]; exact e3, ?_⟩
    have hb := ht.block l ob b R ho (aa9 hl) e1
    simpa only [World.cell?, hb] using e4
 split at this
 ·rename_i hw
  rw [if_pos hw];exact this (ae8 items [] h.ok i x hi)
 ·rename_i hw
  rw [if_neg hw];exact ⟨fun _ _ => trivial, this⟩
end
end Hs
