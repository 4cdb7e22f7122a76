/- Part 4 of the proof: lemmas on walks and the walks of the functions, in their order. -/
import Derived.Test.YtkcgkignhpepkaaGreatDoorZ3
import Derived.Test.YtkcgkignhpepkaaGreatDoorProg
set_option linter.unusedSimpArgs false
set_option linter.unusedVariables false
set_option linter.unusedSectionVars false
set_option linter.constructorNameAsVariable false
/- Terms and patterns as trees, and how they stand in memory. -/
namespace Go.Proofs.YtkcgkignhpepkaaGreatDoor
open Go Hs
section
inductive Pat where
 | mk (kind num : Int) (ref : List Int) (kids : List Pat)
mutual
inductive Tm where
 | mk (kind num : Int) (ref : List Int) (kids : List Tm) (cases : List Cs)
inductive Cs where
 | mk (pat : Pat) (body : Tm)
end
def f5 (r : List Int) : Pu := .agg 28 (r.map fun n => .leaf (.int .u8 n))
def Z32 : List Int := List.replicate 32 0
mutual
def A6 (lo : Nat) : Pat → Pu
 | .mk k n r ks => .agg 104 [.leaf (.int .i64 k), .leaf (.int .i64 n), f5 r, .sl lo 104 (v6 lo ks)]
def v6 (lo : Nat) : List Pat → List Pu
 | [] => []
 | p :: ps => A6 lo p :: v6 lo ps
end
mutual
def tmc (lo : Nat) : Tm → Pu
 | .mk k n r ks cs => .agg 32 [.leaf (.int .i64 k), .leaf (.int .i64 n), f5 r, .sl lo 32 (l5 lo ks), .sl lo 106 (C7 lo cs)]
def l5 (lo : Nat) : List Tm → List Pu
 | [] => []
 | t :: ts => tmc lo t :: l5 lo ts
def M6 (lo : Nat) : Cs → Pu
 | .mk p t => .agg 106 [A6 lo p, tmc lo t]
def C7 (lo : Nat) : List Cs → List Pu
 | [] => []
 | c :: cs => M6 lo c :: C7 lo cs
end
variable {lo : Nat}
theorem A4 : ∀ ks, v6 lo ks = ks.map (A6 lo)
 | [] => rfl
 | p :: ps => by simp [v6, A4 ps]
theorem o8 : ∀ ks, l5 lo ks = ks.map (tmc lo)
 | [] => rfl
 | p :: ps => by simp [l5, o8 ps]
theorem R8 : ∀ ks, C7 lo ks = ks.map (M6 lo)
 | [] => rfl
 | p :: ps => by simp [C7, R8 ps]
mutual
theorem ah9 {l m : Nat} (h : m ≤ l) : ∀ p, Low (A6 l p) (A6 m p)
 | .mk _ _ _ ks => .agg (.cons .refl (.cons .refl (.cons .refl (.cons (.sl h (aC5 h ks)) .nil))))
theorem aC5 {l m : Nat} (h : m ≤ l) : ∀ ps, Lows (v6 l ps) (v6 m ps)
 | [] => .nil
 | p :: ps => .cons (ah9 h p) (aC5 h ps)
end
mutual
theorem E6 {l m : Nat} (h : m ≤ l) : ∀ t, Low (tmc l t) (tmc m t)
 | .mk _ _ _ ks cs => .agg (.cons .refl (.cons .refl (.cons .refl (.cons (.sl h (ag9 h ks)) (.cons (.sl h (aU2 h cs)) .nil)))))
theorem ag9 {l m : Nat} (h : m ≤ l) : ∀ ts, Lows (l5 l ts) (l5 m ts)
 | [] => .nil
 | t :: ts => .cons (E6 h t) (ag9 h ts)
theorem bG4 {l m : Nat} (h : m ≤ l) : ∀ c, Low (M6 l c) (M6 m c)
 | .mk p t => .agg (.cons (ah9 h p) (.cons (E6 h t) .nil))
theorem aU2 {l m : Nat} (h : m ≤ l) : ∀ cs, Lows (C7 l cs) (C7 m cs)
 | [] => .nil
 | c :: cs => .cons (bG4 h c) (aU2 h cs)
end
theorem L6 {ks : List Pat} {i : Nat} (h : i < ks.length) : (v6 lo ks)[i]? = some (A6 lo ks[i]) := by simp [A4, h]
theorem B6 {ks : List Tm} {i : Nat} (h : i < ks.length) : (l5 lo ks)[i]? = some (tmc lo ks[i]) := by simp [o8, h]
theorem ad7 {ks : List Cs} {i : Nat} (h : i < ks.length) : (C7 lo ks)[i]? = some (M6 lo ks[i]) := by simp [R8, h]
theorem j7 (ks : List Pat) : (v6 lo ks).length = ks.length := by simp [A4]
theorem a7 (ks : List Tm) : (l5 lo ks).length = ks.length := by simp [o8]
theorem o5 (ks : List Cs) : (C7 lo ks).length = ks.length := by simp [R8]
mutual
def k9 : Pat → Nat
 | .mk _ _ _ ks => 1 + n7 ks
def n7 : List Pat → Nat
 | [] => 0
 | p :: ps => k9 p + n7 ps
end
mutual
def a5 : Tm → Nat
 | .mk _ _ _ ks cs => 1 + c7 ks + d6 cs
def c7 : List Tm → Nat
 | [] => 0
 | t :: ts => a5 t + c7 ts
def u7 : Cs → Nat
 | .mk p t => k9 p + a5 t
def d6 : List Cs → Nat
 | [] => 0
 | c :: cs => u7 c + d6 cs
end
theorem aC1 (p : Pat) : 1 ≤ k9 p := by cases p; simp [k9]
theorem r9 (t : Tm) : 1 ≤ a5 t := by cases t; simp [a5]; omega
theorem bt4 (c : Cs) : 1 ≤ u7 c := by cases c with | mk p t => have := aC1 p; simp [u7]; omega
theorem x6 : ∀ {ks : List Pat} {i : Nat} (h : i < ks.length), k9 ks[i] ≤ n7 ks
 | p :: ps, 0, _ => by simp [n7]
 | p :: ps, i + 1, h => by
  have := x6 (ks := ps) (i := i) (by simpa using h)
  simp [n7]; omega
theorem K7 : ∀ {ks : List Tm} {i : Nat} (h : i < ks.length), a5 ks[i] ≤ c7 ks
 | p :: ps, 0, _ => by simp [c7]
 | p :: ps, i + 1, h => by
  have := K7 (ks := ps) (i := i) (by simpa using h)
  simp [c7]; omega
theorem L1 : ∀ {ks : List Cs} {i : Nat} (h : i < ks.length), u7 ks[i] ≤ d6 ks
 | p :: ps, 0, _ => by simp [d6]
 | p :: ps, i + 1, h => by
  have := L1 (ks := ps) (i := i) (by simpa using h)
  simp [d6]; omega
theorem o4 : ∀ (ks : List Pat), ks.length ≤ n7 ks
 | [] => by simp [n7]
 | p :: ps => by
  have := o4 ps
  have := aC1 p
  simp [n7]; omega
theorem l8 : ∀ (ks : List Tm), ks.length ≤ c7 ks
 | [] => by simp [c7]
 | p :: ps => by
  have := l8 ps
  have := r9 p
  simp [c7]; omega
theorem s6 : ∀ (ks : List Cs), ks.length ≤ d6 ks
 | [] => by simp [d6]
 | p :: ps => by
  have := s6 ps
  have := bt4 p
  simp [d6]; omega
theorem Q1 : ∀ {ks : List Pat} {i : Nat}, n7 (ks.take i) ≤ n7 ks
 | [], i => by simp [n7]
 | p :: ps, 0 => by simp [n7]
 | p :: ps, i + 1 => by
  have := Q1 (ks := ps) (i := i)
  simp [n7]; omega
theorem an2 : ∀ {ks : List Tm} {i : Nat}, c7 (ks.take i) ≤ c7 ks
 | [], i => by simp [c7]
 | p :: ps, 0 => by simp [c7]
 | p :: ps, i + 1 => by
  have := an2 (ks := ps) (i := i)
  simp [c7]; omega
theorem tbl : j3 Tryz.prog = true := by kernel_rfl
theorem bB3 : Tryz.prog.follows .mixedOrders = true := by kernel_rfl
noncomputable def SS : Seat Tryz.prog := Seat.auto [] tbl
theorem zG {p : Prop} (h : p := by first | exact Guard.T rfl rfl rfl | exact Guard.F rfl rfl rfl | exact Guard.gT rfl rfl rfl | exact Guard.gF rfl rfl rfl) : p := h
theorem yM {n g : Prop} (c : n) (h : n → g := by exact fun c => bX1 SS c) : g := h c
theorem yL {n g : Prop} (c : n) (h : n → g := by first | exact fun c => b5 (aW9 SS) c | exact fun c => b5 (U0 SS) c) : g := h c
theorem yI {n g : Prop} (c : n) (h : n → g := by exact fun c => b5 (be2 SS) c) : g := h c
theorem yA {n g : Prop} (c : n) (h : n → g := by first | exact fun c => aZ1 c | exact fun c => b5 (aL2 SS) c) : g := h c
theorem yF {n g : Prop} (c : n) (h : n → g := by first | exact fun c => b5 (be3 SS) c | exact fun c => b5 (aL1 SS) c) : g := h c
theorem yB {n g : Prop} (c : n) (h : n → g := by exact fun c => b5 (aL2 SS) c) : g := h c
theorem yS {n g : Prop} (c : n) (h : n → g := by exact fun c => ap8 SS c) : g := h c
theorem xL {n g : Prop} (c : n) (h : n → g := by first | exact fun c => q8 zG (aW9 SS) c | exact fun c => q8 zG (U0 SS) c) : g := h c
theorem xF {n g : Prop} (c : n) (h : n → g := by first | exact fun c => q8 zG (be3 SS) c | exact fun c => q8 zG (aL1 SS) c) : g := h c
theorem yK {n g : Prop} (c : n) (h : n → g := by first | exact fun c => bX2 SS c | exact fun c => b5 (U0 SS) c) : g := h c
theorem xI {n g : Prop} (c : n) (h : n → g := by exact fun c => q8 zG (be2 SS) c) : g := h c
theorem xM {n g : Prop} (c : n) (h : n → g := by exact fun c => q8 zG (I9 SS) c) : g := h c
theorem yN {n g : Prop} (c : n) (h : n → g := by exact fun c => b5 (bT1 SS) c) : g := h c
theorem yC {n g : Prop} (c : n) (h : n → g := by first | exact fun c => b5 (bT0 SS) c | exact fun c => b5 (bu6 SS) c | exact fun c => b5 (bu8 SS) c | exact fun c => b5 (bu7 SS) c) : g := h c
theorem yZ {n g : Prop} (c : n) (h : n → g := by exact fun c => aN1 SS c) : g := h c
theorem yX {n g : Prop} (c : n) (h : n → g := by exact fun c => b5 (bm4 SS) c) : g := h c
theorem yP {n g : Prop} (c : n) (h : n → g := by first | exact fun c => b5 (aX0 SS) c | exact fun c => b5 (aX1 SS) c) : g := h c
theorem yO {n g : Prop} (c : n) (h : n → g := by exact fun c => b5 (cc0 SS) c) : g := h c
theorem yG {n g : Prop} (c : n) (h : n → g := by exact fun c => b5 (U0 SS) c) : g := h c
theorem yJ {n g : Prop} (c : n) (h : n → g := by exact fun c => b5 (I9 SS) c) : g := h c
theorem yY {n g : Prop} (c : n) (h : n → g := by exact fun c => b5 (T8 SS) c) : g := h c
theorem yQ {n g : Prop} (c : n) (h : n → g := by exact fun c => b5 (bS9 SS) c) : g := h c
theorem yW {n g : Prop} (c : n) (h : n → g := by first | exact fun c => bo4 SS c | exact fun c => ap8 SS c) : g := h c
theorem yT {n g : Prop} (c : n) (h : n → g := by first | exact fun c => b5 (bV6 SS) c | exact fun c => b5 (aX0 SS) c | exact fun c => b5 (aX1 SS) c) : g := h c
theorem xQ {n g : Prop} (c : n) (h : n → g := by exact fun c => q8 zG (bS9 SS) c) : g := h c
theorem xC {n g : Prop} (c : n) (h : n → g := by first | exact fun c => q8 zG (bT0 SS) c | exact fun c => q8 zG (bu6 SS) c | exact fun c => q8 zG (bu8 SS) c | exact fun c => q8 zG (bu7 SS) c) : g := h c
theorem xN {n g : Prop} (c : n) (h : n → g := by exact fun c => q8 zG (bV9 SS) c) : g := h c
theorem xP {n g : Prop} (c : n) (h : n → g := by first | exact fun c => q8 zG (aX0 SS) c | exact fun c => q8 zG (aX1 SS) c) : g := h c
theorem xO {n g : Prop} (c : n) (h : n → g := by exact fun c => q8 zG (cb9 SS) c) : g := h c
theorem zW {p : Prop} (h : p := by repeat (first | exact .nil | refine .cons rfl (by first | exact .refl | (focus ((repeat constructor); done))) ?_)) : p := h
theorem zE {p : Prop} (h : p := by repeat (first | exact SubE.nil | refine SubE.cons rfl (by first | rfl | (rw [b4 (by omega) (by omega)]; rfl)) ?_)) : p := h
theorem zH {p : Prop} (h : p := by repeat (first | exact SubH.nil | refine SubH.cons rfl (by first | rfl | (rw [b4 (by omega) (by omega)]; rfl)) ?_)) : p := h
theorem tQ {n g : Prop} (c : n) (h : n → g := by intro c; (repeat refine Tri.seq ?_); exact c) : g := h c
theorem Cq {P : Program} {X : Ctx} {st : St} {Q : Exit → St → Prop} {c : Operand} {x y : Code} {b : Bool} (hx : b = true → Tri P X x st Q) (hy : b = false → Tri P X y st Q) (hc : b9 X.G st.env c = some (bv b) := by rfl) : Tri P X (.cond c x y) st Q := Tri.cond hc hx hy
theorem Fq {G : List (Nat × TypeId × Pu)} {f : FuncId} {fn : Func} {c : Code} (n : Nat) (hf : Tryz.prog.funcs[f]? = some fn) {args : List PV} {v : PV} (h : ∀ w0 M ρ0 D0, Tri Tryz.prog ⟨w0, n, M, G, [], [], ρ0, D0, none⟩ c ⟨L9 0 args, []⟩ fun e st => (e = .normal ∨ e = .ret) ∧ ∃ u, res Tryz.prog st fn.results.toList = some u ∧ VImp Tryz.prog u v) (hb : fn.body = some c := by exact rfl) (hn : n = args.length + (fn.ntmps - args.length) := by exact rfl) (hv : v.labs = [] := by exact rfl) : FCall Tryz.prog G f args v := FCall.of_tri tbl n hf hb hn hv h
theorem Rq {n g : Prop} (c : n) (h : n → g := by exact fun c => Tri.ret ⟨.inr rfl, A9 rfl b6 c⟩) : g := h c
theorem Rqz {n g : Prop} (c : n) (h : n → g := by exact fun c => Tri.ret ⟨.inr rfl, A9 rfl b6 c, zO⟩) : g := h c
theorem Rc {n g : Prop} (c : n) (h : n → g := by exact fun c => Tri.ret ⟨.inr rfl, A9 rfl n9 c⟩) : g := h c
theorem Rcz {n g : Prop} (c : n) (h : n → g := by exact fun c => Tri.ret ⟨.inr rfl, A9 rfl n9 c, zO⟩) : g := h c
theorem Dq {p n g : Prop} (k : p) (c : n) (h : p → n → g := by exact fun k c => b5 (o6 (fun _ => k)) c) : g := h k c
theorem Xq {p n g : Prop} (k : p) (c : n) (h : p → n → g := by exact fun k c => b5 (j6 SS (h0 := by omega) (hp := k)) c) : g := h k c
theorem zk0 {p : Prop} (h : p := by repeat (first | exact SubE.nil | refine SubE.cons rfl (by first | rfl | (rw [b4 (by omega) (by omega)]; rfl) | (simp only [*, Bool.true_or, Bool.or_true, Bool.false_or])) ?_)) : p := h
theorem zk1 {p : Prop} (h : p := by repeat (first | exact SubH.nil | refine SubH.cons rfl (by first | rfl | (rw [b4 (by omega) (by omega)]; rfl) | (simp only [*, Bool.true_or, Bool.or_true, Bool.false_or])) ?_)) : p := h
theorem zk4 {p : Prop} (h : p := by repeat (first | exact .nil | refine .cons rfl (by first | exact .refl | (focus ((repeat constructor); done)) | (rw [b4 (by omega) (by omega)]; exact .refl)) ?_)) : p := h
theorem zO {p : Prop} (h : p := by repeat (first | exact OutH.nil | refine OutH.cons rfl (by first | exact ObImp.refl _ | exact OWk.imp (by repeat constructor)) ?_)) : p := h
theorem yR {n g : Prop} (c : n) (h : n → g := by intro c; (repeat refine Tri.seq ?_); exact Tri.region bB3 c) : g := h c
theorem Y0 {n g : Prop} (c : n) (h : n → g := by intro c; refine A7 ?_; refine tQ ?_; exact c) : g := h c
theorem Y1 {n g : Prop} (c : n) (h : n → g := by intro c; refine yR ?_; refine yM ?_; exact c) : g := h c
theorem Y2 {n g : Prop} (c : n) (h : n → g := by intro c; refine yA ?_; refine Y0 ?_; exact c) : g := h c
theorem Y3 {n g : Prop} (c : n) (h : n → g := by intro c; refine yF ?_; refine yL ?_; exact c) : g := h c
theorem Y4 {n g : Prop} (c : n) (h : n → g := by intro c; refine yR ?_; refine yI ?_; exact c) : g := h c
theorem Y5 {n g : Prop} (c : n) (h : n → g := by intro c; refine yR ?_; refine yL ?_; exact c) : g := h c
theorem Y6 {n g : Prop} (c : n) (h : n → g := by intro c; refine yR ?_; refine yB ?_; exact c) : g := h c
theorem Y7 {n g : Prop} (c : n) (h : n → g := by intro c; refine xF ?_; refine xL ?_; exact c) : g := h c
theorem Y8 {n g : Prop} (c : n) (h : n → g := by intro c; refine yF ?_; refine yK ?_; exact c) : g := h c
theorem Y9 {n g : Prop} (c : n) (h : n → g := by intro c; refine Y6 ?_; refine Y0 ?_; exact c) : g := h c
theorem Y10 {n g : Prop} (c : n) (h : n → g := by intro c; refine yS ?_; refine Y0 ?_; exact c) : g := h c
theorem Y11 {n g : Prop} (c : n) (h : n → g := by intro c; refine yM ?_; refine Y7 ?_; exact c) : g := h c
theorem Y12 {n g : Prop} (c : n) (h : n → g := by intro c; refine yA ?_; refine A7 ?_; exact c) : g := h c
theorem Y13 {n g : Prop} (c : n) (h : n → g := by intro c; refine yY ?_; refine Y3 ?_; exact c) : g := h c
theorem Y14 {n g : Prop} (c : n) (h : n → g := by intro c; refine yR ?_; refine Y3 ?_; exact c) : g := h c
theorem Y15 {n g : Prop} (c : n) (h : n → g := by intro c; refine Y1 ?_; refine yI ?_; exact c) : g := h c
theorem Y16 {n g : Prop} (c : n) (h : n → g := by intro c; refine Y4 ?_; refine Y2 ?_; exact c) : g := h c
theorem Y17 {n g : Prop} (c : n) (h : n → g := by intro c; refine yS ?_; refine A7 ?_; exact c) : g := h c
theorem Y18 {n g : Prop} (c : n) (h : n → g := by intro c; refine Tri.skip ?_; refine tQ ?_; exact c) : g := h c
theorem Y19 {n g : Prop} (c : n) (h : n → g := by intro c; refine yM ?_; refine yM ?_; exact c) : g := h c
theorem Y20 {n g : Prop} (c : n) (h : n → g := by intro c; refine Y6 ?_; refine A7 ?_; exact c) : g := h c
theorem Y21 {n g : Prop} (c : n) (h : n → g := by intro c; refine xI ?_; refine yN ?_; exact c) : g := h c
theorem Y22 {n g : Prop} (c : n) (h : n → g := by intro c; refine yR ?_; refine Y8 ?_; exact c) : g := h c
theorem Y23 {n g : Prop} (c : n) (h : n → g := by intro c; refine x8 ?_; refine tQ ?_; exact c) : g := h c
theorem Y24 {n g : Prop} (c : n) (h : n → g := by intro c; refine Y4 ?_; refine yM ?_; exact c) : g := h c
theorem Y25 {n g : Prop} (c : n) (h : n → g := by intro c; refine Y24 ?_; refine A7 ?_; exact c) : g := h c
theorem Y26 {n g : Prop} (c : n) (h : n → g := by intro c; refine Y18 ?_; refine Tri.block ?_; exact c) : g := h c
theorem Y27 {n g : Prop} (c : n) (h : n → g := by intro c; refine yR ?_; refine b5 (H8 SS) ?_; exact c) : g := h c
theorem Y28 {n g : Prop} (c : n) (h : n → g := by intro c; refine yM ?_; refine xM ?_; exact c) : g := h c
theorem Y29 {n g : Prop} (c : n) (h : n → g := by intro c; refine yS ?_; refine Y23 ?_; exact c) : g := h c
theorem Y30 {n g : Prop} (c : n) (h : n → g := by intro c; refine Y4 ?_; refine Y0 ?_; exact c) : g := h c
theorem Y31 {n g : Prop} (c : n) (h : n → g := by intro c; refine yJ ?_; refine Y0 ?_; exact c) : g := h c
theorem Y32 {n g : Prop} (c : n) (h : n → g := by intro c; refine Y1 ?_; refine yM ?_; exact c) : g := h c
theorem Y33 {n g : Prop} (c : n) (h : n → g := by intro c; refine Y5 ?_; refine Y13 ?_; exact c) : g := h c
theorem Y34 {n g : Prop} (c : n) (h : n → g := by intro c; refine xI ?_; refine yO ?_; exact c) : g := h c
theorem Y35 {n g : Prop} (c : n) (h : n → g := by intro c; refine Y27 ?_; refine Y2 ?_; exact c) : g := h c
theorem Y36 {n g : Prop} (c : n) (h : n → g := by intro c; refine yM ?_; refine yL ?_; exact c) : g := h c
theorem Y37 {n g : Prop} (c : n) (h : n → g := by intro c; refine Y14 ?_; refine yI ?_; exact c) : g := h c
theorem Y38 {n g : Prop} (c : n) (h : n → g := by intro c; refine yC ?_; refine Y31 ?_; exact c) : g := h c
theorem Y39 {n g : Prop} (c : n) (h : n → g := by intro c; refine yR ?_; refine o9 SS 2 ?_; exact c) : g := h c
theorem Y40 {n g : Prop} (c : n) (h : n → g := by intro c; refine Y1 ?_; refine yL ?_; exact c) : g := h c
theorem Y41 {n g : Prop} (c : n) (h : n → g := by intro c; refine Y28 ?_; refine Y21 ?_; exact c) : g := h c
theorem Y42 {n g : Prop} (c : n) (h : n → g := by intro c; refine Y11 ?_; refine Y7 ?_; exact c) : g := h c
theorem Y43 {n g : Prop} (c : n) (h : n → g := by intro c; refine Y5 ?_; refine yL ?_; exact c) : g := h c
theorem Y44 {n g : Prop} (c : n) (h : n → g := by intro c; refine yR ?_; refine o9 SS 1 ?_; exact c) : g := h c
theorem Y45 {n g : Prop} (c : n) (h : n → g := by intro c; refine yR ?_; refine o9 SS 3 ?_; exact c) : g := h c
theorem Y46 {n g : Prop} (c : n) (h : n → g := by intro c; refine Y15 ?_; refine Y2 ?_; exact c) : g := h c
theorem Y47 {n g : Prop} (c : n) (h : n → g := by intro c; refine Y34 ?_; refine Y11 ?_; exact c) : g := h c
theorem Y48 {n g : Prop} (c : n) (h : n → g := by intro c; refine Y20 ?_; refine Y1 ?_; exact c) : g := h c
theorem Y49 {n g : Prop} (c : n) (h : n → g := by intro c; refine yP ?_; refine Y10 ?_; exact c) : g := h c
theorem Y50 {n g : Prop} (c : n) (h : n → g := by intro c; refine Tri.skip ?_; refine Y9 ?_; exact c) : g := h c
theorem Y51 {n g : Prop} (c : n) (h : n → g := by intro c; refine yR ?_; refine yG ?_; exact c) : g := h c
theorem Y52 {n g : Prop} (c : n) (h : n → g := by intro c; refine Tri.skip ?_; refine Y25 ?_; exact c) : g := h c
theorem Y53 {n g : Prop} (c : n) (h : n → g := by intro c; refine yI ?_; refine Y0 ?_; exact c) : g := h c
theorem Y54 {n g : Prop} (c : n) (h : n → g := by intro c; refine yM ?_; refine yX ?_; exact c) : g := h c
theorem Y55 {n g : Prop} (c : n) (h : n → g := by intro c; refine Y1 ?_; refine Y13 ?_; exact c) : g := h c
theorem Y56 {n g : Prop} (c : n) (h : n → g := by intro c; refine Y15 ?_; refine Y41 ?_; exact c) : g := h c
theorem Y57 {n g : Prop} (c : n) (h : n → g := by intro c; refine Y26 ?_; refine Y1 ?_; exact c) : g := h c
theorem Y58 {n g : Prop} (c : n) (h : n → g := by intro c; refine Y54 ?_; refine yX ?_; exact c) : g := h c
theorem Y59 {n g : Prop} (c : n) (h : n → g := by intro c; refine Y56 ?_; refine Y2 ?_; exact c) : g := h c
theorem Y60 {n g : Prop} (c : n) (h : n → g := by intro c; refine yY ?_; refine yF ?_; exact c) : g := h c
theorem Y61 {n g : Prop} (c : n) (h : n → g := by intro c; refine Y5 ?_; refine Y10 ?_; exact c) : g := h c
theorem Y62 {n g : Prop} (c : n) (h : n → g := by intro c; refine yB ?_; refine Y0 ?_; exact c) : g := h c
theorem Y63 {n g : Prop} (c : n) (h : n → g := by intro c; refine Y33 ?_; refine yI ?_; exact c) : g := h c
theorem Y64 {n g : Prop} (c : n) (h : n → g := by intro c; refine Y8 ?_; refine yC ?_; exact c) : g := h c
theorem Y65 {n g : Prop} (c : n) (h : n → g := by intro c; refine Y39 ?_; refine o9 SS 3 ?_; exact c) : g := h c
theorem Y66 {n g : Prop} (c : n) (h : n → g := by intro c; refine yL ?_; refine yZ ?_; exact c) : g := h c
theorem Y67 {n g : Prop} (c : n) (h : n → g := by intro c; refine Y44 ?_; refine a8 SS 2 ?_; exact c) : g := h c
theorem Y68 {n g : Prop} (c : n) (h : n → g := by intro c; refine Y67 ?_; refine a6 [1, 2] ?_; exact c) : g := h c
theorem Y69 {n g : Prop} (c : n) (h : n → g := by intro c; refine yM ?_; refine xL ?_; exact c) : g := h c
theorem Y70 {n g : Prop} (c : n) (h : n → g := by intro c; refine Y17 ?_; refine Y35 ?_; exact c) : g := h c
theorem Y71 {n g : Prop} (c : n) (h : n → g := by intro c; refine Y60 ?_; refine Y17 ?_; exact c) : g := h c
theorem Y72 {n g : Prop} (c : n) (h : n → g := by intro c; refine Tri.skip ?_; refine Y1 ?_; exact c) : g := h c
theorem Y73 {n g : Prop} (c : n) (h : n → g := by intro c; refine yS ?_; refine yA ?_; exact c) : g := h c
theorem Y74 {n g : Prop} (c : n) (h : n → g := by intro c; refine yZ ?_; refine yP ?_; exact c) : g := h c
theorem Y75 {n g : Prop} (c : n) (h : n → g := by intro c; refine o9 SS 4 ?_; refine o9 SS 5 ?_; exact c) : g := h c
theorem Y76 {n g : Prop} (c : n) (h : n → g := by intro c; refine Y26 ?_; refine yR ?_; exact c) : g := h c
theorem Y77 {n g : Prop} (c : n) (h : n → g := by intro c; refine tQ ?_; refine Tri.block ?_; exact c) : g := h c
theorem Y78 {n g : Prop} (c : n) (h : n → g := by intro c; refine Y37 ?_; refine Y11 ?_; exact c) : g := h c
instance : Okt Tryz.prog 3 3 := ⟨by kernel_rfl⟩
instance : Sc Tryz.prog 3 := ⟨by kernel_rfl⟩
instance : Zr SS 3 (.pu (.leaf (.int .i64 0))) := ⟨by kernel_rfl⟩
instance : Okt Tryz.prog 4 4 := ⟨by kernel_rfl⟩
instance : Sc Tryz.prog 4 := ⟨by kernel_rfl⟩
instance : Okt Tryz.prog 5 5 := ⟨by kernel_rfl⟩
instance : Sc Tryz.prog 5 := ⟨by kernel_rfl⟩
instance : Zr SS 5 (.pu (.leaf (.int .u8 0))) := ⟨by kernel_rfl⟩
instance : Sc Tryz.prog 9 := ⟨by kernel_rfl⟩
instance : Sc Tryz.prog 22 := ⟨by kernel_rfl⟩
instance : Sl Tryz.prog 22 130 := ⟨by kernel_rfl⟩
instance : Sc Tryz.prog 23 := ⟨by kernel_rfl⟩
instance : Sl Tryz.prog 23 136 := ⟨by kernel_rfl⟩
instance : Okt Tryz.prog 24 24 := ⟨by kernel_rfl⟩
instance : Sc Tryz.prog 24 := ⟨by kernel_rfl⟩
instance : Sl Tryz.prog 24 116 := ⟨by kernel_rfl⟩
instance : El Tryz.prog 24 116 128 := ⟨by kernel_rfl⟩
instance : Okt Tryz.prog 26 26 := ⟨by kernel_rfl⟩
instance : Ag Tryz.prog 26 := ⟨by kernel_rfl⟩
instance : AgT Tryz.prog 26 [22, 23, 24] := ⟨by kernel_rfl⟩
instance : Fld Tryz.prog 26 2 24 := ⟨by kernel_rfl⟩
instance : Zr SS 26 (.agg 26 [.nilc, .nilc, .nilc]) := ⟨by kernel_rfl⟩
instance : Okt Tryz.prog 28 28 := ⟨by kernel_rfl⟩
instance : Ag Tryz.prog 28 := ⟨by kernel_rfl⟩
instance : Arr Tryz.prog 28 32 5 := ⟨by kernel_rfl⟩
instance : Zr SS 28 (.pu (f5 Z32)) := ⟨by kernel_rfl⟩
instance : Okt Tryz.prog 29 29 := ⟨by kernel_rfl⟩
instance : Sc Tryz.prog 29 := ⟨by kernel_rfl⟩
instance : Sl Tryz.prog 29 32 := ⟨by kernel_rfl⟩
instance : El Tryz.prog 29 32 96 := ⟨by kernel_rfl⟩
instance : Okt Tryz.prog 30 30 := ⟨by kernel_rfl⟩
instance : Sc Tryz.prog 30 := ⟨by kernel_rfl⟩
instance : Sl Tryz.prog 30 106 := ⟨by kernel_rfl⟩
instance : El Tryz.prog 30 106 168 := ⟨by kernel_rfl⟩
instance : Okt Tryz.prog 32 32 := ⟨by kernel_rfl⟩
instance : Ag Tryz.prog 32 := ⟨by kernel_rfl⟩
instance : AgT Tryz.prog 32 [3, 3, 28, 29, 30] := ⟨by kernel_rfl⟩
instance : Fld Tryz.prog 32 0 3 := ⟨by kernel_rfl⟩
instance : Fld Tryz.prog 32 1 3 := ⟨by kernel_rfl⟩
instance : Fld Tryz.prog 32 2 28 := ⟨by kernel_rfl⟩
instance : Fld Tryz.prog 32 3 29 := ⟨by kernel_rfl⟩
instance : Fld Tryz.prog 32 4 30 := ⟨by kernel_rfl⟩
instance : Zr SS 32 (.agg 32 [(.pu (.leaf (.int .i64 0))), (.pu (.leaf (.int .i64 0))), (.pu (f5 Z32)), .nilc, .nilc]) := ⟨by kernel_rfl⟩
instance : Okt Tryz.prog 36 36 := ⟨by kernel_rfl⟩
instance : Sc Tryz.prog 36 := ⟨by kernel_rfl⟩
instance : Okt Tryz.prog 37 37 := ⟨by kernel_rfl⟩
instance : Sc Tryz.prog 37 := ⟨by kernel_rfl⟩
instance : Zr SS 37 (.pu (.leaf (.int .i64 0))) := ⟨by kernel_rfl⟩
instance : Okt Tryz.prog 39 39 := ⟨by kernel_rfl⟩
instance : Sc Tryz.prog 39 := ⟨by kernel_rfl⟩
instance : Sl Tryz.prog 39 3 := ⟨by kernel_rfl⟩
instance : El Tryz.prog 39 3 8 := ⟨by kernel_rfl⟩
instance : Zr SS 39 .nilc := ⟨by kernel_rfl⟩
instance : Okt Tryz.prog 45 45 := ⟨by kernel_rfl⟩
instance : Sc Tryz.prog 45 := ⟨by kernel_rfl⟩
instance : Zr SS 45 (.pu (.leaf .nilFunc)) := ⟨by kernel_rfl⟩
instance : Okt Tryz.prog 48 48 := ⟨by kernel_rfl⟩
instance : Sc Tryz.prog 48 := ⟨by kernel_rfl⟩
instance : Sl Tryz.prog 48 5 := ⟨by kernel_rfl⟩
instance : El Tryz.prog 48 5 1 := ⟨by kernel_rfl⟩
instance : Okt Tryz.prog 50 50 := ⟨by kernel_rfl⟩
instance : Sc Tryz.prog 50 := ⟨by kernel_rfl⟩
instance : Okt Tryz.prog 53 53 := ⟨by kernel_rfl⟩
instance : Sc Tryz.prog 53 := ⟨by kernel_rfl⟩
instance : Sl Tryz.prog 53 58 := ⟨by kernel_rfl⟩
instance : El Tryz.prog 53 58 112 := ⟨by kernel_rfl⟩
instance : Zr SS 53 .nilc := ⟨by kernel_rfl⟩
instance : Okt Tryz.prog 54 54 := ⟨by kernel_rfl⟩
instance : Sc Tryz.prog 54 := ⟨by kernel_rfl⟩
instance : Sl Tryz.prog 54 28 := ⟨by kernel_rfl⟩
instance : El Tryz.prog 54 28 32 := ⟨by kernel_rfl⟩
instance : Okt Tryz.prog 56 56 := ⟨by kernel_rfl⟩
instance : Ag Tryz.prog 56 := ⟨by kernel_rfl⟩
instance : Fld Tryz.prog 56 0 54 := ⟨by kernel_rfl⟩
instance : Fld Tryz.prog 56 1 4 := ⟨by kernel_rfl⟩
instance : Fld Tryz.prog 56 2 3 := ⟨by kernel_rfl⟩
instance : Okt Tryz.prog 58 58 := ⟨by kernel_rfl⟩
instance : Ag Tryz.prog 58 := ⟨by kernel_rfl⟩
instance : AgT Tryz.prog 58 [3, 3, 28, 53, 56] := ⟨by kernel_rfl⟩
instance : Fld Tryz.prog 58 0 3 := ⟨by kernel_rfl⟩
instance : Fld Tryz.prog 58 1 3 := ⟨by kernel_rfl⟩
instance : Fld Tryz.prog 58 2 28 := ⟨by kernel_rfl⟩
instance : Fld Tryz.prog 58 3 53 := ⟨by kernel_rfl⟩
instance : Fld Tryz.prog 58 4 56 := ⟨by kernel_rfl⟩
instance : Zr SS 58 (.agg 58 [(.pu (.leaf (.int .i64 0))), (.pu (.leaf (.int .i64 0))), (.pu (f5 Z32)), .nilc, (.agg 56 [.nilc, (.pu (.leaf (.bool false))), (.pu (.leaf (.int .i64 0)))])]) := ⟨by kernel_rfl⟩
instance : Okt Tryz.prog 65 65 := ⟨by kernel_rfl⟩
instance : Ag Tryz.prog 65 := ⟨by kernel_rfl⟩
instance : AgT Tryz.prog 65 [3, 3, 32, 28, 3] := ⟨by kernel_rfl⟩
instance : Fld Tryz.prog 65 0 3 := ⟨by kernel_rfl⟩
instance : Fld Tryz.prog 65 1 3 := ⟨by kernel_rfl⟩
instance : Fld Tryz.prog 65 2 32 := ⟨by kernel_rfl⟩
instance : Fld Tryz.prog 65 3 28 := ⟨by kernel_rfl⟩
instance : Fld Tryz.prog 65 4 3 := ⟨by kernel_rfl⟩
instance : Zr SS 65 (.agg 65 [(.pu (.leaf (.int .i64 0))), (.pu (.leaf (.int .i64 0))), (.agg 32 [(.pu (.leaf (.int .i64 0))), (.pu (.leaf (.int .i64 0))), (.pu (f5 Z32)), .nilc, .nilc]), (.pu (f5 Z32)), (.pu (.leaf (.int .i64 0)))]) := ⟨by kernel_rfl⟩
instance : Okt Tryz.prog 102 102 := ⟨by kernel_rfl⟩
instance : Sc Tryz.prog 102 := ⟨by kernel_rfl⟩
instance : Sl Tryz.prog 102 104 := ⟨by kernel_rfl⟩
instance : El Tryz.prog 102 104 72 := ⟨by kernel_rfl⟩
instance : Okt Tryz.prog 104 104 := ⟨by kernel_rfl⟩
instance : Ag Tryz.prog 104 := ⟨by kernel_rfl⟩
instance : AgT Tryz.prog 104 [3, 3, 28, 102] := ⟨by kernel_rfl⟩
instance : Fld Tryz.prog 104 0 3 := ⟨by kernel_rfl⟩
instance : Fld Tryz.prog 104 1 3 := ⟨by kernel_rfl⟩
instance : Fld Tryz.prog 104 2 28 := ⟨by kernel_rfl⟩
instance : Fld Tryz.prog 104 3 102 := ⟨by kernel_rfl⟩
instance : Zr SS 104 (.agg 104 [(.pu (.leaf (.int .i64 0))), (.pu (.leaf (.int .i64 0))), (.pu (f5 Z32)), .nilc]) := ⟨by kernel_rfl⟩
instance : Okt Tryz.prog 106 106 := ⟨by kernel_rfl⟩
instance : Ag Tryz.prog 106 := ⟨by kernel_rfl⟩
instance : AgT Tryz.prog 106 [104, 32] := ⟨by kernel_rfl⟩
instance : Fld Tryz.prog 106 0 104 := ⟨by kernel_rfl⟩
instance : Fld Tryz.prog 106 1 32 := ⟨by kernel_rfl⟩
instance : Zr SS 106 (.agg 106 [(.agg 104 [(.pu (.leaf (.int .i64 0))), (.pu (.leaf (.int .i64 0))), (.pu (f5 Z32)), .nilc]), (.agg 32 [(.pu (.leaf (.int .i64 0))), (.pu (.leaf (.int .i64 0))), (.pu (f5 Z32)), .nilc, .nilc])]) := ⟨by kernel_rfl⟩
instance : Okt Tryz.prog 116 116 := ⟨by kernel_rfl⟩
instance : Ag Tryz.prog 116 := ⟨by kernel_rfl⟩
instance : AgT Tryz.prog 116 [28, 32] := ⟨by kernel_rfl⟩
instance : Fld Tryz.prog 116 0 28 := ⟨by kernel_rfl⟩
instance : Fld Tryz.prog 116 1 32 := ⟨by kernel_rfl⟩
instance : Zr SS 116 (.agg 116 [(.pu (f5 Z32)), (.agg 32 [(.pu (.leaf (.int .i64 0))), (.pu (.leaf (.int .i64 0))), (.pu (f5 Z32)), .nilc, .nilc])]) := ⟨by kernel_rfl⟩
instance : Sc Tryz.prog 126 := ⟨by kernel_rfl⟩
instance : Sl Tryz.prog 126 53 := ⟨by kernel_rfl⟩
instance : Ag Tryz.prog 128 := ⟨by kernel_rfl⟩
instance : AgT Tryz.prog 128 [9, 3, 126] := ⟨by kernel_rfl⟩
instance : Zr SS 128 (.agg 128 [(.pu (.leaf (.string ⟨#[]⟩))), (.pu (.leaf (.int .i64 0))), .nilc]) := ⟨by kernel_rfl⟩
instance : Ag Tryz.prog 130 := ⟨by kernel_rfl⟩
instance : AgT Tryz.prog 130 [28, 128] := ⟨by kernel_rfl⟩
instance : Zr SS 130 (.agg 130 [(.pu (f5 Z32)), (.agg 128 [(.pu (.leaf (.string ⟨#[]⟩))), (.pu (.leaf (.int .i64 0))), .nilc])]) := ⟨by kernel_rfl⟩
instance : Sc Tryz.prog 132 := ⟨by kernel_rfl⟩
instance : Sl Tryz.prog 132 167 := ⟨by kernel_rfl⟩
instance : Ag Tryz.prog 134 := ⟨by kernel_rfl⟩
instance : AgT Tryz.prog 134 [9, 132] := ⟨by kernel_rfl⟩
instance : Zr SS 134 (.agg 134 [(.pu (.leaf (.string ⟨#[]⟩))), .nilc]) := ⟨by kernel_rfl⟩
instance : Ag Tryz.prog 136 := ⟨by kernel_rfl⟩
instance : AgT Tryz.prog 136 [28, 134] := ⟨by kernel_rfl⟩
instance : Zr SS 136 (.agg 136 [(.pu (f5 Z32)), (.agg 134 [(.pu (.leaf (.string ⟨#[]⟩))), .nilc])]) := ⟨by kernel_rfl⟩
instance : Okt Tryz.prog 147 147 := ⟨by kernel_rfl⟩
instance : Ag Tryz.prog 147 := ⟨by kernel_rfl⟩
instance : AgT Tryz.prog 147 [39, 29] := ⟨by kernel_rfl⟩
instance : Fld Tryz.prog 147 0 39 := ⟨by kernel_rfl⟩
instance : Fld Tryz.prog 147 1 29 := ⟨by kernel_rfl⟩
instance : Zr SS 147 (.agg 147 [.nilc, .nilc]) := ⟨by kernel_rfl⟩
instance : Okt Tryz.prog 149 149 := ⟨by kernel_rfl⟩
instance : Sc Tryz.prog 149 := ⟨by kernel_rfl⟩
instance : Zr SS 149 (.pu (.leaf (.pointer none))) := ⟨by kernel_rfl⟩
instance : Mp Tryz.prog 152 28 4 := ⟨by kernel_rfl⟩
instance : Ag Tryz.prog 167 := ⟨by kernel_rfl⟩
instance : AgT Tryz.prog 167 [58, 58] := ⟨by kernel_rfl⟩
instance : Zr SS 167 (.agg 167 [(.agg 58 [(.pu (.leaf (.int .i64 0))), (.pu (.leaf (.int .i64 0))), (.pu (f5 Z32)), .nilc, (.agg 56 [.nilc, (.pu (.leaf (.bool false))), (.pu (.leaf (.int .i64 0)))])]), (.agg 58 [(.pu (.leaf (.int .i64 0))), (.pu (.leaf (.int .i64 0))), (.pu (f5 Z32)), .nilc, (.agg 56 [.nilc, (.pu (.leaf (.bool false))), (.pu (.leaf (.int .i64 0)))])])]) := ⟨by kernel_rfl⟩
instance : Okt Tryz.prog 169 169 := ⟨by kernel_rfl⟩
instance : Sc Tryz.prog 169 := ⟨by kernel_rfl⟩
instance : Okt Tryz.prog 171 171 := ⟨by kernel_rfl⟩
instance : Ag Tryz.prog 171 := ⟨by kernel_rfl⟩
instance : AgT Tryz.prog 171 [48, 3, 169] := ⟨by kernel_rfl⟩
instance : Fld Tryz.prog 171 0 48 := ⟨by kernel_rfl⟩
instance : Fld Tryz.prog 171 1 3 := ⟨by kernel_rfl⟩
instance : Fld Tryz.prog 171 2 169 := ⟨by kernel_rfl⟩
instance : Zr SS 171 (.agg 171 [.nilc, (.pu (.leaf (.int .i64 0))), (.pu (.leaf (.int .u64 0)))]) := ⟨by kernel_rfl⟩
instance : Okt Tryz.prog 172 172 := ⟨by kernel_rfl⟩
instance : Sc Tryz.prog 172 := ⟨by kernel_rfl⟩
instance : Okt Tryz.prog 174 174 := ⟨by kernel_rfl⟩
instance : Ag Tryz.prog 174 := ⟨by kernel_rfl⟩
instance : AgT Tryz.prog 174 [50, 3] := ⟨by kernel_rfl⟩
instance : Fld Tryz.prog 174 0 50 := ⟨by kernel_rfl⟩
instance : Fld Tryz.prog 174 1 3 := ⟨by kernel_rfl⟩
instance : Zr SS 174 (.pu (.agg 174 [(.leaf (.pointer none)), (.leaf (.int .i64 0))])) := ⟨by kernel_rfl⟩
instance : Okt Tryz.prog 177 177 := ⟨by kernel_rfl⟩
instance : Sc Tryz.prog 177 := ⟨by kernel_rfl⟩
instance : Okt Tryz.prog 178 178 := ⟨by kernel_rfl⟩
instance : Sc Tryz.prog 178 := ⟨by kernel_rfl⟩
instance : Mp Tryz.prog 178 28 32 := ⟨by kernel_rfl⟩
instance : Okt Tryz.prog 179 179 := ⟨by kernel_rfl⟩
instance : Ag Tryz.prog 179 := ⟨by kernel_rfl⟩
instance : AgT Tryz.prog 179 [177, 177, 177, 177, 177, 177, 177, 177] := ⟨by kernel_rfl⟩
instance : Arr Tryz.prog 179 8 177 := ⟨by kernel_rfl⟩
instance : Zr SS 179 (.pu (.agg 179 (List.replicate 8 (.leaf .nilFunc)))) := ⟨by kernel_rfl⟩
instance : Okt Tryz.prog 181 181 := ⟨by kernel_rfl⟩
instance : Ag Tryz.prog 181 := ⟨by kernel_rfl⟩
instance : AgT Tryz.prog 181 [26, 178, 179] := ⟨by kernel_rfl⟩
instance : Fld Tryz.prog 181 0 26 := ⟨by kernel_rfl⟩
instance : Fld Tryz.prog 181 1 178 := ⟨by kernel_rfl⟩
instance : Fld Tryz.prog 181 2 179 := ⟨by kernel_rfl⟩
instance : Zr SS 181 (.agg 181 [(.agg 26 [.nilc, .nilc, .nilc]), (.pu (.leaf (.map none))), (.pu (.agg 179 (List.replicate 8 (.leaf .nilFunc))))]) := ⟨by kernel_rfl⟩
instance : Ag Tryz.prog 193 := ⟨by kernel_rfl⟩
instance : AgT Tryz.prog 193 [3, 3] := ⟨by kernel_rfl⟩
instance : Zr SS 193 (.pu (.agg 193 (List.replicate 2 (.leaf (.int .i64 0))))) := ⟨by kernel_rfl⟩
instance : Okt Tryz.prog 200 200 := ⟨by kernel_rfl⟩
instance : Ag Tryz.prog 200 := ⟨by kernel_rfl⟩
instance : AgT Tryz.prog 200 [32, 3] := ⟨by kernel_rfl⟩
instance : Fld Tryz.prog 200 0 32 := ⟨by kernel_rfl⟩
instance : Fld Tryz.prog 200 1 3 := ⟨by kernel_rfl⟩
instance : Zr SS 200 (.agg 200 [(.agg 32 [(.pu (.leaf (.int .i64 0))), (.pu (.leaf (.int .i64 0))), (.pu (f5 Z32)), .nilc, .nilc]), (.pu (.leaf (.int .i64 0)))]) := ⟨by kernel_rfl⟩
instance : Okt Tryz.prog 201 201 := ⟨by kernel_rfl⟩
instance : Sc Tryz.prog 201 := ⟨by kernel_rfl⟩
instance : Okt Tryz.prog 203 203 := ⟨by kernel_rfl⟩
instance : Ag Tryz.prog 203 := ⟨by kernel_rfl⟩
instance : Fld Tryz.prog 203 0 3 := ⟨by kernel_rfl⟩
instance : Zr SS 203 (.pu (.agg 203 [(.leaf (.int .i64 0))])) := ⟨by kernel_rfl⟩
instance : Okt Tryz.prog 204 204 := ⟨by kernel_rfl⟩
instance : Sc Tryz.prog 204 := ⟨by kernel_rfl⟩
instance : Okt Tryz.prog 206 206 := ⟨by kernel_rfl⟩
instance : Ag Tryz.prog 206 := ⟨by kernel_rfl⟩
instance : AgT Tryz.prog 206 [3, 204] := ⟨by kernel_rfl⟩
instance : Fld Tryz.prog 206 0 3 := ⟨by kernel_rfl⟩
instance : Fld Tryz.prog 206 1 204 := ⟨by kernel_rfl⟩
instance : Zr SS 206 (.pu (.agg 206 [(.leaf (.int .i64 0)), (.leaf .nilFunc)])) := ⟨by kernel_rfl⟩
instance : Okt Tryz.prog 227 227 := ⟨by kernel_rfl⟩
instance : Ag Tryz.prog 227 := ⟨by kernel_rfl⟩
instance : AgT Tryz.prog 227 [28, 3] := ⟨by kernel_rfl⟩
instance : Fld Tryz.prog 227 1 3 := ⟨by kernel_rfl⟩
instance : Zr SS 227 (.pu (.agg 227 [(f5 Z32), (.leaf (.int .i64 0))])) := ⟨by kernel_rfl⟩
instance : Okt Tryz.prog 238 238 := ⟨by kernel_rfl⟩
instance : Sc Tryz.prog 238 := ⟨by kernel_rfl⟩
instance : Okt Tryz.prog 240 240 := ⟨by kernel_rfl⟩
instance : Ag Tryz.prog 240 := ⟨by kernel_rfl⟩
instance : Fld Tryz.prog 240 0 3 := ⟨by kernel_rfl⟩
instance : Zr SS 240 (.pu (.agg 240 [(.leaf (.int .i64 0))])) := ⟨by kernel_rfl⟩
instance : Ag Tryz.prog 275 := ⟨by kernel_rfl⟩
instance : AgT Tryz.prog 275 [3, 3, 28] := ⟨by kernel_rfl⟩
instance : Zr SS 275 (.pu (.agg 275 [(.leaf (.int .i64 0)), (.leaf (.int .i64 0)), (f5 Z32)])) := ⟨by kernel_rfl⟩
instance : Okt Tryz.prog 278 278 := ⟨by kernel_rfl⟩
instance : Ag Tryz.prog 278 := ⟨by kernel_rfl⟩
instance : AgT Tryz.prog 278 [4, 4, 4] := ⟨by kernel_rfl⟩
instance : Arr Tryz.prog 278 3 4 := ⟨by kernel_rfl⟩
instance : Zr SS 278 (.pu (.agg 278 (List.replicate 3 (.leaf (.bool false))))) := ⟨by kernel_rfl⟩
instance (p : Pat) : TyV Tryz.prog 104 (.pu (A6 lo p)) := by cases p; exact inferInstanceAs (TyV Tryz.prog 104 (.pu (.agg _ _)))
instance (t : Tm) : TyV Tryz.prog 32 (.pu (tmc lo t)) := by cases t; exact inferInstanceAs (TyV Tryz.prog 32 (.pu (.agg _ _)))
instance (c : Cs) : TyV Tryz.prog 106 (.pu (M6 lo c)) := by cases c; exact inferInstanceAs (TyV Tryz.prog 106 (.pu (.agg _ _)))
instance (r : List Int) : TyV Tryz.prog 28 (.pu (f5 r)) := inferInstanceAs (TyV Tryz.prog 28 (.pu (.agg _ _)))
end
section
variable {lo : Nat}
theorem U7 {D : Nat → Nat → Prop} {w : World} {r : List Int} {x : List Value} (h : PR Tryz.prog D w (f5 r) x) : r.length = 32 := by
 have hc : f7 Tryz.prog 28 = some (List.replicate 32 (1, 5)) := by kernel_rfl
 unfold f5 at h
 cases h with
 | agg h1 h2 =>
  rw [hc] at h1
  simp only [Option.some.injEq] at h1
  subst h1
  have := h2.length.2
  simpa using this
mutual
def wfP : Pat → Prop
 | .mk _ _ r ks => r.length = 32 ∧ bV2 ks
def bV2 : List Pat → Prop
 | [] => True
 | p :: ps => wfP p ∧ bV2 ps
end
mutual
def wfT : Tm → Prop
 | .mk _ _ r ks cs => r.length = 32 ∧ bu4 ks ∧ bV3 cs
def bu4 : List Tm → Prop
 | [] => True
 | t :: ts => wfT t ∧ bu4 ts
def wfC : Cs → Prop
 | .mk p t => wfP p ∧ wfT t
def bV3 : List Cs → Prop
 | [] => True
 | c :: cs => wfC c ∧ bV3 cs
end
theorem ar9 : ∀ {ks : List Tm}, bu4 ks → ∀ k ∈ ks, wfT k
 | [], _, k, h => by cases h
 | p :: ps, h, k, hk => by
  rcases List.mem_cons.1 hk with rfl | hk
  ·exact h.1
  ·exact ar9 h.2 k hk
theorem W4 {D : Nat → Nat → Prop} {w : World} {T : TypeId} {ps : List Pu} {x : List Value} (h : PR Tryz.prog D w (.agg T ps) x) : ∃ cs, PRs Tryz.prog D w cs ps x := by
 cases h with
 | agg _ h => exact ⟨_, h⟩
theorem l6 {D : Nat → Nat → Prop} {w : World} {cs : List (Nat × TypeId)} {p : Pu} {ps : List Pu} {x : List Value} (h : PRs Tryz.prog D w cs (p :: ps) x) : (∃ y, PR Tryz.prog D w p y) ∧ ∃ cs' y, PRs Tryz.prog D w cs' ps y := by
 cases h with
 | cons h _ _ t => exact ⟨⟨_, h⟩, _, _, t⟩
theorem aE9 {D : Nat → Nat → Prop} {w : World} {E : TypeId} {ps : List Pu} {x : List Value} (h : PR Tryz.prog D w (.sl lo E ps) x) : ∃ cs y, PRs Tryz.prog D w cs ps y := by
 cases h with
 | sl0 => exact ⟨[], [], .nil⟩
 | sl _ _ h _ _ => exact ⟨_, _, h⟩
mutual
theorem af8 {D : Nat → Nat → Prop} {w : World} : ∀ {p : Pat} {x : List Value}, PR Tryz.prog D w (A6 lo p) x → wfP p
 | .mk k n r ks, x, h => by
  obtain ⟨_, h⟩ := W4 h
  obtain ⟨_, _, _, h⟩ := l6 h
  obtain ⟨_, _, _, h⟩ := l6 h
  obtain ⟨⟨_, h1⟩, _, _, h⟩ := l6 h
  obtain ⟨⟨_, h2⟩, _⟩ := l6 h
  obtain ⟨_, _, h2⟩ := aE9 h2
  exact ⟨U7 h1, bg7 h2⟩
theorem bg7 {D : Nat → Nat → Prop} {w : World} : ∀ {ks : List Pat} {cs : List (Nat × TypeId)} {x : List Value}, PRs Tryz.prog D w cs (v6 lo ks) x → bV2 ks
 | [], _, _, _ => trivial
 | p :: ps, _, _, h => by
  obtain ⟨⟨_, h1⟩, _, _, h2⟩ := l6 h
  exact ⟨af8 h1, bg7 h2⟩
end
mutual
theorem an3 {D : Nat → Nat → Prop} {w : World} : ∀ {t : Tm} {x : List Value}, PR Tryz.prog D w (tmc lo t) x → wfT t
 | .mk k n r ks cs, x, h => by
  obtain ⟨_, h⟩ := W4 h
  obtain ⟨_, _, _, h⟩ := l6 h
  obtain ⟨_, _, _, h⟩ := l6 h
  obtain ⟨⟨_, h1⟩, _, _, h⟩ := l6 h
  obtain ⟨⟨_, h2⟩, _, _, h⟩ := l6 h
  obtain ⟨⟨_, h3⟩, _⟩ := l6 h
  obtain ⟨_, _, h2⟩ := aE9 h2
  obtain ⟨_, _, h3⟩ := aE9 h3
  exact ⟨U7 h1, aX5 h2, bG3 h3⟩
theorem aX5 {D : Nat → Nat → Prop} {w : World} : ∀ {ks : List Tm} {cs : List (Nat × TypeId)} {x : List Value}, PRs Tryz.prog D w cs (l5 lo ks) x → bu4 ks
 | [], _, _, _ => trivial
 | p :: ps, _, _, h => by
  obtain ⟨⟨_, h1⟩, _, _, h2⟩ := l6 h
  exact ⟨an3 h1, aX5 h2⟩
theorem cf5 {D : Nat → Nat → Prop} {w : World} : ∀ {c : Cs} {x : List Value}, PR Tryz.prog D w (M6 lo c) x → wfC c
 | .mk p t, x, h => by
  obtain ⟨_, h⟩ := W4 h
  obtain ⟨⟨_, h1⟩, _, _, h⟩ := l6 h
  obtain ⟨⟨_, h2⟩, _⟩ := l6 h
  exact ⟨af8 h1, an3 h2⟩
theorem bG3 {D : Nat → Nat → Prop} {w : World} : ∀ {ks : List Cs} {cs : List (Nat × TypeId)} {x : List Value}, PRs Tryz.prog D w cs (C7 lo ks) x → bV3 ks
 | [], _, _, _ => trivial
 | p :: ps, _, _, h => by
  obtain ⟨⟨_, h1⟩, _, _, h2⟩ := l6 h
  exact ⟨cf5 h1, bG3 h2⟩
end
theorem bX7 (d : Nat) (a b : Int) : peqT Tryz.prog (d + 1) 5 (.leaf (.int .u8 a)) (.leaf (.int .u8 b)) = some (a == b) := by
 have hu : Tryz.prog.underlying 5 = some (.int .u8) := by kernel_rfl
 simp [peqT, hu]
theorem bg6 (d : Nat) : ∀ (r s : List Int), r.length = s.length → aA3 (peqT Tryz.prog (d + 1) 5) (r.map fun n => .leaf (.int .u8 n)) (s.map fun n => .leaf (.int .u8 n)) = some (r == s)
 | [], [], _ => rfl
 | a :: r, b :: s, h => by
  simp only [List.map_cons, aA3, bX7, bg6 d r s (by simpa using h)]
  rfl
 | [], _ :: _, h => by simp at h
 | _ :: _, [], h => by simp at h
theorem av0 (d : Nat) {r s : List Int} (h : r.length = s.length) : peqT Tryz.prog (d + 2) 28 (f5 r) (f5 s) = some (r == s) := by
 have hu : Tryz.prog.underlying 28 = some (.array 32 5) := by kernel_rfl
 rw [← bg6 d r s h]
 unfold f5
 rw [peqT.eq_def]
 simp only [hu]
theorem ap9 {r s : List Int} (h : r.length = s.length) : peqT Tryz.prog 100 28 (f5 r) (f5 s) = some (r == s) := by
 generalize hd : (100 : Nat) = d
 obtain ⟨e, rfl⟩ : ∃ e, d = e + 2 := ⟨98, by omega⟩
 exact av0 e h
theorem J2 (r s : List Int) : Tryz.prog.eqGuardType Tryz.prog.depth 28 = false ∧ 28 < Tryz.prog.types.size ∧ tyP Tryz.prog 28 (f5 r) = true ∧ tyP Tryz.prog 28 (f5 s) = true :=
 ⟨by kernel_rfl, of_decide_eq_true (by kernel_rfl), (show tyV Tryz.prog 28 (.pu (f5 r)) = true from TyV.ok), (show tyV Tryz.prog 28 (.pu (f5 s)) = true from TyV.ok)⟩
theorem x5 {r s : List Int} (h : r.length = s.length) : R9 Tryz.prog .eql 28 (.pu (f5 r)) (.pu (f5 s)) = some (bv (r == s)) := by
 have h1 := J2 r s
 have h2 := ap9 h
 unfold f5 at h1 h2 ⊢
 simp only [R9, if_pos h1, h2]
theorem aJ8 {r s : List Int} (h : r.length = s.length) : R9 Tryz.prog .neq 28 (.pu (f5 r)) (.pu (f5 s)) = some (bv (!(r == s))) := by
 have h1 := J2 r s
 have h2 := ap9 h
 unfold f5 at h1 h2 ⊢
 simp only [R9, if_pos h1, h2]
end
section
variable {G : List (Nat × TypeId × Pu)}
theorem X5 (n : Int) : FCall Tryz.prog G 33 [iv .i64 n] (.pu (tmc 0 (.mk 2 n Z32 [] []))) := by
 refine Fq 5 Tryz.func33 ?_;intro w0 M ρ0 D0
 refine yR ?_;refine a8 SS 2 ?_;refine a6 [2] ?_;refine Y1 ?_;refine yP ?_;refine Y17 ?_;refine Rc ?_;exact ToPu.imp (by repeat constructor)
theorem W3 (n : Int) : FCall Tryz.prog G 32 [iv .i64 n] (.pu (tmc 0 (.mk 1 n Z32 [] []))) := by
 refine Fq 5 Tryz.func32 ?_;intro w0 M ρ0 D0
 refine yR ?_;refine a8 SS 2 ?_;refine a6 [2] ?_;refine Y1 ?_;refine yP ?_;refine Y17 ?_;refine Rc ?_;exact ToPu.imp (by repeat constructor)
theorem X6 (p : Pat) (t : Tm) : FCall Tryz.prog G 65 [.pu (A6 0 p), .pu (tmc 0 t)] (.pu (M6 0 (.mk p t))) := by
 refine Fq 8 Tryz.func65 ?_;intro w0 M ρ0 D0
 refine Y65 ?_;refine a8 SS 4 ?_;refine a6 [2, 3, 4] ?_;refine Y43 ?_;refine yP ?_;refine Y17 ?_;refine Rc ?_;exact ToPu.imp (by repeat constructor)
theorem aW3 (t : Tm) (cs : List Cs) : FCall Tryz.prog G 62 [.pu (tmc 0 t), .pu (.sl 0 106 (C7 0 cs))] (.pu (tmc 0 (.mk 9 0 Z32 [t] cs))) := by
 refine Fq 9 Tryz.func62 ?_;intro w0 M ρ0 D0
 refine Y39 ?_;refine a8 SS 4 ?_;refine a6 [2, 4] ?_;refine Y5 ?_;refine yZ ?_;refine yM ?_;refine yP ?_;refine Y17 ?_;refine Rc ?_;exact ToPu.imp (by repeat constructor)
theorem ae3 (s t : Tm) : FCall Tryz.prog G 31 [.pu (tmc 0 s), .pu (tmc 0 t)] (.pu (tmc 0 (.mk 4 0 Z32 [s, t] []))) := by
 refine Fq 9 Tryz.func31 ?_;intro w0 M ρ0 D0
 refine Y65 ?_;refine a8 SS 4 ?_;refine a6 [2, 3, 4] ?_;refine Y43 ?_;refine Y74 ?_;refine Y17 ?_;refine Rc ?_;exact ToPu.imp (by repeat constructor)
theorem aK4 (r : List Int) : FCall Tryz.prog G 61 [.pu (f5 r)] (.pu (tmc 0 (.mk 6 0 r [] []))) := by
 refine Fq 5 Tryz.func61 ?_;intro w0 M ρ0 D0
 refine Y68 ?_;refine Y5 ?_;refine yP ?_;refine Y17 ?_;refine Rc ?_;exact ToPu.imp (by repeat constructor)
theorem aW4 (r : List Int) (n : Int) (ks : List Tm) : FCall Tryz.prog G 43 [.pu (f5 r), iv .i64 n, .pu (.sl 0 32 (l5 0 ks))] (.pu (tmc 0 (.mk 8 n r ks []))) := by
 refine Fq 11 Tryz.func43 ?_;intro w0 M ρ0 D0
 refine Y45 ?_;refine a8 SS 6 ?_;refine a6 [3, 6] ?_;refine Y5 ?_;refine Y19 ?_;refine yP ?_;refine Y17 ?_;refine Rc ?_;exact ToPu.imp (by repeat constructor)
theorem aA7 (t : Tm) : FCall Tryz.prog G 30 [.pu (tmc 0 t)] (.pu (tmc 0 (.mk 3 0 Z32 [t] []))) := by
 refine Fq 6 Tryz.func30 ?_;intro w0 M ρ0 D0
 refine Y68 ?_;refine Y5 ?_;refine Y74 ?_;refine Y17 ?_;refine Rc ?_;exact ToPu.imp (by repeat constructor)
theorem aA6 (n : Int) (s t : Tm) : FCall Tryz.prog G 34 [iv .i64 n, .pu (tmc 0 s), .pu (tmc 0 t)] (.pu (tmc 0 (.mk 10 n Z32 [s, t] []))) := by
 refine Fq 12 Tryz.func34 ?_;intro w0 M ρ0 D0
 refine yR ?_;refine Y75 ?_;refine a8 SS 6 ?_;refine a6 [4, 5, 6] ?_;refine Y40 ?_;refine Y66 ?_;refine yP ?_;refine Y17 ?_;refine Rc ?_;exact ToPu.imp (by repeat constructor)
theorem Q7 : FCall Tryz.prog G 68 [] (.pu (A6 0 (.mk 1 0 Z32 []))) := by
 refine Fq 2 Tryz.func68 ?_;intro w0 M ρ0 D0
 refine yR ?_;refine a8 SS 0 ?_;refine a6 [0] ?_;refine yR ?_;refine yP ?_;refine Y17 ?_;refine Rc ?_;exact ToPu.imp (by repeat constructor)
theorem bI6 (n : Int) : FCall Tryz.prog G 66 [iv .i64 n] (.pu (A6 0 (.mk 2 n Z32 []))) := by
 refine Fq 5 Tryz.func66 ?_;intro w0 M ρ0 D0
 refine yR ?_;refine a8 SS 2 ?_;refine a6 [2] ?_;refine Y1 ?_;refine yP ?_;refine Y17 ?_;refine Rc ?_;exact ToPu.imp (by repeat constructor)
end
section
variable {G : List (Nat × TypeId × Pu)}
def vaT (n : Int) : Tm := .mk 1 n Z32 [] []
def nuT (n : Int) : Tm := .mk 2 n Z32 [] []
def apT (s t : Tm) : Tm := .mk 4 0 Z32 [s, t] []
theorem cb4 : FCall Tryz.prog G 71 [] (.pu (tmc 0 (apT (vaT 0) (vaT 1)))) := by
 refine Fq 4 Tryz.func71 ?_;intro w0 M ρ0 D0
 refine yR ?_;refine a8 SS 0 ?_;refine a6 [0] ?_;refine yR ?_;refine Dq (W3 0) ?_;refine Dq (W3 1) ?_;refine Dq (ae3 (vaT 0) (vaT 1)) ?_;refine Y17 ?_;refine Rc ?_;exact ToPu.imp (by repeat constructor)
theorem aW5 (r : List Int) (n : Int) (t : Tm) : FCall Tryz.prog G 38 [.pu (f5 r), iv .i64 n, .pu (tmc 0 t)] (.pu (tmc 0 (.mk 11 n r [t] []))) := by
 refine Fq 12 Tryz.func38 ?_;intro w0 M ρ0 D0
 refine Y45 ?_;refine o9 SS 5 ?_;refine a8 SS 6 ?_;refine a6 [3, 5, 6] ?_;refine Y5 ?_;refine Y36 ?_;refine Y74 ?_;refine Y17 ?_;refine Rc ?_;exact ToPu.imp (by repeat constructor)
def prT (n : Int) (s t : Tm) : Tm := .mk 10 n Z32 [s, t] []
theorem bS8 : FCall Tryz.prog G 72 [] (.pu (tmc 0 (prT 1 (apT (vaT 0) (nuT 1)) (apT (vaT 0) (nuT 2))))) := by
 refine Fq 8 Tryz.func72 ?_;intro w0 M ρ0 D0
 refine yR ?_;refine a8 SS 0 ?_;refine a6 [0] ?_;refine yR ?_;refine Dq (W3 0) ?_;refine Dq (X5 1) ?_;refine Dq (ae3 (vaT 0) (nuT 1)) ?_;refine Dq (W3 0) ?_;refine Dq (X5 2) ?_;refine Dq (ae3 (vaT 0) (nuT 2)) ?_;refine Dq (aA6 1 (apT (vaT 0) (nuT 1)) (apT (vaT 0) (nuT 2))) ?_;refine Y17 ?_;refine Rc ?_;exact ToPu.imp (by repeat constructor)
end
section
variable {G : List (Nat × TypeId × Pu)}
end
section
variable {G : List (Nat × TypeId × Pu)}
end
section
variable {G : List (Nat × TypeId × Pu)}
def j0 (kind kid : Int) : Int := if kind = 3 ∨ (kind = 5 ∧ kid = 1) ∨ (kind = 12 ∧ kid = 1) then 1 else if kind = 12 ∧ 1 < kid then 2 else 0
theorem aY4 (kind kid : Int) : FCall Tryz.prog G 220 [iv .i64 kind, iv .i64 kid] (iv .i64 (j0 kind kid)) := by
 refine Fq 25 Tryz.func220 ?_;intro w0 M ρ0 D0
 refine Y9 ?_;refine Tri.block ?_;refine Y46 ?_;refine Cq ?_ ?_
 ·intro h0
  refine Y18 ?_;refine Cq ?_ ?_
  ·intro h1
   refine Y9 ?_;refine Rq ?_;exact d4 (by simp_all [j0]; try omega)
  ·intro h1
   refine Y59 ?_;refine Cq ?_ ?_
   ·intro h2
    refine Y9 ?_;refine Rq ?_;exact d4 (by simp_all [j0]; try omega)
   ·intro h2
    refine Y50 ?_;refine Rq ?_;exact d4 (by simp_all [j0]; try omega)
 ·intro h0
  refine Y15 ?_;refine Y28 ?_;refine xI ?_;refine xM ?_;refine xM ?_;refine xI ?_;refine xO ?_;refine yN ?_;refine Y2 ?_;refine Cq ?_ ?_
  ·intro h1
   refine Y9 ?_;refine Rq ?_;exact d4 (by simp_all [j0]; try omega)
  ·intro h1
   refine Y59 ?_;refine Cq ?_ ?_
   ·intro h2
    refine Y9 ?_;refine Rq ?_;exact d4 (by simp_all [j0]; try omega)
   ·intro h2
    refine Y50 ?_;refine Rq ?_;exact d4 (by simp_all [j0]; try omega)
theorem aX6 (kind kid : Int) : FCall Tryz.prog G 192 [iv .i64 kind, iv .i64 kid] (iv .i64 (j0 kind kid)) := by
 refine Fq 27 Tryz.func192 ?_;intro w0 M ρ0 D0
 refine Y9 ?_;refine Tri.block ?_;refine Y46 ?_;refine Cq ?_ ?_
 ·intro h0
  refine Y18 ?_;refine Cq ?_ ?_
  ·intro h2
   refine Y9 ?_;refine Rq ?_;exact d4 (by simp_all [j0]; try omega)
  ·intro h2
   refine Y59 ?_;refine Cq ?_ ?_
   ·intro h3
    refine Y9 ?_;refine Rq ?_;exact d4 (by simp_all [j0]; try omega)
   ·intro h3
    refine Y50 ?_;refine Rq ?_;exact d4 (by simp_all [j0]; try omega)
 ·intro h0
  refine Y59 ?_;refine Cq ?_ ?_
  ·intro h1
   refine Y18 ?_;refine Cq ?_ ?_
   ·intro h2
    refine Y9 ?_;refine Rq ?_;exact d4 (by simp_all [j0]; try omega)
   ·intro h2
    refine Y59 ?_;refine Cq ?_ ?_
    ·intro h3
     refine Y9 ?_;refine Rq ?_;exact d4 (by simp_all [j0]; try omega)
    ·intro h3
     refine Y50 ?_;refine Rq ?_;exact d4 (by simp_all [j0]; try omega)
  ·intro h1
   refine Y59 ?_;refine Cq ?_ ?_
   ·intro h2
    refine Y9 ?_;refine Rq ?_;exact d4 (by simp_all [j0]; try omega)
   ·intro h2
    refine Y59 ?_;refine Cq ?_ ?_
    ·intro h3
     refine Y9 ?_;refine Rq ?_;exact d4 (by simp_all [j0]; try omega)
    ·intro h3
     refine Y50 ?_;refine Rq ?_;exact d4 (by simp_all [j0]; try omega)
mutual
def j2 : Pat → Int
 | .mk k _ _ ks => if k = 1 then 1 else A3 ks
def A3 : List Pat → Int
 | [] => 0
 | p :: ps => j2 p + A3 ps
end
mutual
theorem z8 : ∀ (p : Pat), 0 ≤ j2 p ∧ j2 p ≤ k9 p
 | .mk k n r ks => by
  have := K0 ks
  simp only [j2, k9]
  split <;> omega
theorem K0 : ∀ (ps : List Pat), 0 ≤ A3 ps ∧ A3 ps ≤ n7 ps
 | [] => by simp [A3, n7]
 | p :: ps => by
  have := z8 p
  have := K0 ps
  simp only [A3, n7]
  omega
end
theorem G3 : ∀ {ks : List Pat} {i : Nat} (h : i < ks.length), A3 (ks.take (i + 1)) = A3 (ks.take i) + j2 ks[i]
 | p :: ps, 0, _ => by simp [A3]
 | p :: ps, i + 1, h => by
  have := G3 (ks := ps) (i := i) (by simpa using h)
  simp [A3, this]; omega
theorem aL9 : ∀ (N : Nat) (p : Pat), k9 p ≤ N → N < 2^40 → FCall Tryz.prog G 222 [.pu (A6 0 p)] (iv .i64 (j2 p)) := by
 intro N
 induction N with
 | zero => intro p h; cases p; simp [k9] at h
 | succ N ih =>
 intro p hp hN
 obtain ⟨k, n, r, ks⟩ := p
 simp only [k9] at hp
 have hlen := o4 ks
 refine Fq 22 Tryz.func222 ?_;intro w0 M ρ0 D0
 refine Y44 ?_;refine yB ?_;refine a6 [1] ?_;refine Y37 ?_;refine Y0 ?_;refine Cq ?_ ?_
 ·intro h0
  refine Y9 ?_;refine Rq ?_;exact d4 (by simp_all [j2])
 ·intro h0
  refine Tri.skip ?_;refine Y20 ?_;refine Y22 ?_;refine Y38 ?_;refine Tri.block (Tri.loopW (σ := Nat) (fun i => ⟨[(10, .pu (.sl 0 104 (v6 0 ks))), (11, iv .i64 (v6 0 ks).length), (12, iv .i64 i), (3, iv .i64 (A3 (ks.take i)))], []⟩) (fun i => ks.length - i) 0 ?_ ?_ (fun i => ?_))
  ·exact zW
  ·exact zW
  refine Y30 ?_;refine Cq ?_ ?_
  ·intro h1
   have hi : i < ks.length := by simpa [A4] using h1
   have h1' := K0 (ks.take i)
   have h2 := z8 ks[i]
   have h3 := Q1 (ks := ks) (i := i)
   have h4 := x6 hi
   refine Y76 ?_;refine b5 (j6 SS (h0 := by omega) (hp := L6 hi)) ?_;refine yL ?_;refine a8 SS 5 ?_;refine yS ?_;refine a6 [5] ?_;refine Y40 ?_;refine Dq (ih ks[i] (by omega) (by omega)) ?_;refine yI ?_;refine Y12 ?_;refine Y25 ?_
   refine ⟨i + 1, by omega, k7 ?_ ?_⟩
   ·repeat (first | exact SubE.nil | refine SubE.cons rfl (by first | rfl | (rw [b4 (by omega) (by omega)]; rfl) | (rw [G3 hi, b4 (by omega) (by omega)])) ?_)
   ·repeat (first | exact SubH.nil | refine SubH.cons rfl (by first | rfl | (rw [b4 (by omega) (by omega)]; rfl) | (rw [G3 hi, b4 (by omega) (by omega)])) ?_)
  ·intro h1
   have hi : ks.length ≤ i := by simpa [A4] using h1
   rw [List.take_of_length_le hi];refine Tri.exit ?_;refine Y1 ?_;refine Y2 ?_;refine Rq ?_;exact d4 (by simp_all [j2])
end
section
variable {G : List (Nat × TypeId × Pu)} {lo : Nat}
theorem bD4 {vf : PV} {f : FuncId} {first captured : List PV} {HR : List (Nat × Ob)} (hvf : fnV vf = some (f, first, captured)) (hst : Str vf vf) (hnt : j1 vf = false) (hent : j8 Tryz.prog f = true) (hna : (first ++ captured).any j1 = false)
  (hfree : ∀ l ob, get HR l = some ob → B1 ob = true) {ps : List Pu} (hlen : ps.length < 4611686018427387904) {H H' : List (Nat × Ob)} {r : Option Nat} (hd0 : A8 HR H' = true) (hk : ∀ l ob, get H l = some ob → ∃ ob', get H' l = some ob') (hR : ∀ l ob, get HR l = some ob → get H l = none)
  (h : AnyC Tryz.prog G f first captured HR ps H r H') : HCall Tryz.prog G 184 [.pu (.sl lo 104 ps), vf] HR H (iv .i64 (S6 r)) H' [] := by
 refine HCall.of_tri tbl (n := 19) (L := e9 H' ++ u4 H') Tryz.func184 rfl rfl hfree (fun l ob hl => m6 hd0 hl) (fun l hl => by simp [PV.labs] at hl) (fun l ob hl => L8 hl) hk ?_
 rintro ⟨w0, n', M, G', L, R, ρ0, D0, ro⟩ hn hG hL hR' hro
 simp only at hn hG hL hR' hro
 subst hn hG hL hR' hro
 have hset : ∀ (i : Nat) (H1 : List (Nat × Ob)) (r1 : Option Nat), AnyC Tryz.prog G' f first captured HR (ps.drop i) H1 r1 H' → True := fun _ _ _ _ => trivial
 let σ := {s : Nat × List (Nat × Ob) × Option Nat // AnyC Tryz.prog G' f first captured HR (ps.drop s.1) s.2.1 s.2.2 H' ∧ s.1 ≤ ps.length ∧ S6 r = (match s.2.2 with | some j => ((s.1 + j : Nat) : Int) | none => -1) ∧ (∀ l ob, get s.2.1 l = some ob → l ∉ e9 HR)}
 refine Y48 ?_;refine Y38 ?_;refine Tri.block (Tri.loop (σ := σ) (fun s => ⟨[(0, .pu (.sl lo 104 ps)), (1, vf), (7, iv .i64 ps.length), (8, iv .i64 s.1.1)], HR ++ s.1.2.1⟩) (fun s => ps.length - s.1.1) ⟨(0, H, r), by simpa using h, Nat.zero_le _, by cases r <;> simp [S6], fun l ob hl hm => ?_⟩ ?_ (fun s => ?_))
 ·obtain ⟨ob', ho⟩ := k8 (a := HR) hm
  rw [hR l ob' ho] at hl
  cases hl
 ·exact aq2 (.cons rfl rfl (.cons rfl rfl (.cons rfl rfl (.cons rfl rfl .nil))))
 obtain ⟨⟨i, H1, r1⟩, hA, hi0, hr1, hdisj⟩ := s
 simp only at hA hi0 hr1 hdisj ⊢
 refine Y4 ?_;refine A7 ?_;refine Tri.seq (Tri.cond rfl (fun hb => Tri.skip ?_) (fun hb => Tri.exit ?_))
 ·have hi : i < ps.length := by simpa using hb
  obtain ⟨p, hp⟩ : ∃ p, ps[i]? = some p := ⟨ps[i], by simp [hi]⟩
  have hdr : ps.drop i = p :: ps.drop (i + 1) := by
   rw [List.drop_eq_getElem_cons hi]
   simp only [List.getElem?_eq_getElem hi, Option.some.injEq] at hp
   rw [hp]
  rw [hdr] at hA
  have hHR : ∀ l ob, get HR l = some ob → ∃ ob1, get (HR ++ H1) l = some ob1 ∧ ObImp Tryz.prog ob1 ob := fun l ob hl => ⟨ob, by rw [c8, hl]; rfl, ObImp.refl _⟩
  have hH1 : ∀ l ob, get H1 l = some ob → l ∉ e9 HR ∧ ∃ ob1, get (HR ++ H1) l = some ob1 ∧ ObImp Tryz.prog ob1 ob := fun l ob hl => by
   refine ⟨hdisj l ob hl, ob, ?_, ObImp.refl _⟩
   rw [c8]
   cases hg : get HR l with
   | some o => exact absurd (m4 hg) (hdisj l ob hl)
   | none => simpa using hl
  have hnt2 : (first ++ [PV.pu p] ++ captured).any j1 = false := by
   simp only [List.any_append, Bool.or_eq_false_iff] at hna ⊢
   exact ⟨⟨hna.1, by simp [j1]⟩, hna.2⟩
  refine Tri.seq (Tri.block ?_);refine Y1 ?_;refine Y12 ?_
  cases hA with
  | hit hc hd =>
   refine yR ?_;refine b5 (I9 SS (h := Ev.mk rfl hst)) ?_;refine Y19 ?_;refine Xq hp ?_;refine yL ?_;refine A0 (vf := vf) (first := first) (captured := captured) (vs := [.pu p]) (HR := HR) (H := H1) (news := []) rfl hst hvf hent (.cons (.mk rfl .pu) .nil) rfl (VImps.refl _) hnt2 hHR hH1 hc rfl ?_;refine Y0 ?_;refine Tri.condT rfl ?_;refine Y1 ?_;refine Y12 ?_;refine Tri.ret ⟨.inr rfl, _, Ghost.refl _, A9 rfl b6 (d4 ?_), fun l ob hl => ⟨ob, ?_, ObImp.refl _⟩⟩
   ·rw [hr1]
    simp
   ·rw [c8, hl]; rfl
  | next hc hd t =>
   rename_i H2 r2
   refine yR ?_;refine b5 (I9 SS (h := Ev.mk rfl hst)) ?_;refine Y19 ?_;refine Xq hp ?_;refine yL ?_;refine A0 (vf := vf) (first := first) (captured := captured) (vs := [.pu p]) (HR := HR) (H := H1) (news := []) rfl hst hvf hent (.cons (.mk rfl .pu) .nil) rfl (VImps.refl _) hnt2 hHR hH1 hc rfl ?_;refine Y0 ?_;refine Tri.condF rfl ?_;refine Y52 ?_
   refine ⟨⟨(i + 1, H2, r2), t, hi, ?_, fun l ob hl hm => ?_⟩, by simp; omega, aq3 hd (.cons rfl rfl (.cons rfl rfl (.cons rfl rfl (.cons rfl ?_ .nil))))⟩
   ·rw [hr1]
    cases r2 with
    | none => rfl
    | some j => exact congrArg (fun n : Nat => (n : Int)) (show i + (j + 1) = i + 1 + j by omega)
   ·obtain ⟨ob', ho⟩ := k8 (a := HR) hm
    rw [m6 hd hl] at ho
    cases ho
   ·rw [b4 (by omega) (by omega)]
    rfl
 ·have hi : i = ps.length := by
   have : ps.length ≤ i := by simpa using hb
   omega
  subst hi
  rw [List.drop_length] at hA
  cases hA
  refine Y20 ?_;refine Tri.ret ⟨.inr rfl, _, Ghost.refl _, A9 rfl b6 (d4 (by rw [hr1])), fun l ob hl => ⟨ob, ?_, ObImp.refl _⟩⟩;rw [c8]
  cases hg : get HR l with
  | some o => exact absurd (m4 hg) (hdisj l ob hl)
  | none => simpa using hl
theorem bG7 {vf : PV} {f : FuncId} {first captured : List PV} {HR : List (Nat × Ob)} (hvf : fnV vf = some (f, first, captured)) (hst : Str vf vf) (hnt : j1 vf = false) (hent : j8 Tryz.prog f = true) (hna : (first ++ captured).any j1 = false)
  (hfree : ∀ l ob, get HR l = some ob → B1 ob = true) {ps : List Pu} (hlen : ps.length < 4611686018427387904) {H H' : List (Nat × Ob)} {r : Option Nat} (hd0 : A8 HR H' = true) (hd1 : A8 HR H = true) (hk : ∀ l ob, get H l = some ob → ∃ ob', get H' l = some ob')
  (h : AnyC Tryz.prog G f first captured HR ps H r H') : HCall Tryz.prog G 120 [.pu (.sl lo 104 ps), vf] HR H (bv r.isSome) H' [] := by
 refine HCall.of_tri tbl (n := 9) (L := e9 H' ++ u4 H') Tryz.func120 rfl rfl hfree (fun l ob hl => m6 hd0 hl) (fun l hl => by simp [PV.labs] at hl) (fun l ob hl => L8 hl) hk ?_
 rintro ⟨w0, n', M, G', L, R, ρ0, D0, ro⟩ hn hG hL hR' hro
 simp only at hn hG hL hR' hro
 subst hn hG hL hR' hro
 have hHR : ∀ l ob, get HR l = some ob → ∃ ob1, get (HR ++ H) l = some ob1 ∧ ObImp Tryz.prog ob1 ob := fun l ob hl => ⟨ob, by rw [c8, hl]; rfl, ObImp.refl _⟩
 have hH1 : ∀ l ob, get H l = some ob → l ∉ e9 HR ∧ ∃ ob1, get (HR ++ H) l = some ob1 ∧ ObImp Tryz.prog ob1 ob := fun l ob hl => by
  have hz := m6 hd1 hl
  refine ⟨fun hm => ?_, ob, ?_, ObImp.refl _⟩
  ·obtain ⟨ob', ho⟩ := k8 (a := HR) hm
   rw [hz] at ho; cases ho
  ·rw [c8, hz]; simpa using hl
 refine Y48 ?_;refine b5 (I9 SS (h := Ev.mk rfl hst)) ?_;refine A0 (vf := .pu (.leaf (.func (.func 184) #[] #[]))) (first := []) (captured := []) (vs := [.pu (.sl lo 104 ps), vf]) (HR := HR) (H := H) (news := []) rfl .pu rfl (by kernel_rfl) (.cons (.mk rfl .pu) (.cons (.mk rfl hst) .nil)) (by rw [List.any_cons, List.any_cons, hnt]; rfl) (VImps.refl _) (by rw [List.nil_append, List.append_nil, List.any_cons, List.any_cons, hnt]; rfl) hHR hH1 (bD4 hvf hst hnt hent hna hfree hlen hd0 hk (fun l ob hl => I7 hd1 hl) h) rfl ?_;refine yI ?_;refine Y12 ?_;refine Tri.ret ⟨.inr rfl, _, Ghost.refl _, A9 rfl b6 (l7 ?_), fun l ob hl => ⟨ob, by rw [c8, hl]; rfl, ObImp.refl _⟩⟩
 cases r with
 | none => simp [S6]
 | some j => simp [S6]
theorem aU4 (vf : PV) {f : FuncId} {first captured : List PV} {HR : List (Nat × Ob)} {ps : List Pu} (hlen : ps.length < 4611686018427387904) {H H' : List (Nat × Ob)} {r : Option Nat} (h : AnyC Tryz.prog G f first captured HR ps H r H')
  (hvf : fnV vf = some (f, first, captured) := by rfl) (hst : Str vf vf := by repeat constructor) (hnt : j1 vf = false := by rfl) (hent : j8 Tryz.prog f = true := by kernel_rfl) (hna : (first ++ captured).any j1 = false := by rfl)
  (hfree : HR.all (fun q => B1 q.2) = true := by rfl) (hd0 : A8 HR H' = true := by rfl) (hd1 : A8 HR H = true := by rfl) (hk : ((e9 H).all fun l => (e9 H').contains l) = true := by rfl) :
  HCall Tryz.prog G 120 [.pu (.sl lo 104 ps), vf] HR H (bv r.isSome) H' [] :=
 bG7 hvf hst hnt hent hna (fun l ob hl => List.all_eq_true.1 hfree _ (D1 hl)) hlen hd0 hd1 (fun l ob hl => k8 (by simpa [e9] using List.all_eq_true.1 hk l (m4 hl))) h
theorem bN9 {vf : PV} {f : FuncId} {first captured : List PV} {HR : List (Nat × Ob)} (hvf : fnV vf = some (f, first, captured)) (hst : Str vf vf) (hnt : j1 vf = false) (hent : j8 Tryz.prog f = true) (hna : (first ++ captured).any j1 = false)
  (hfree : ∀ l ob, get HR l = some ob → B1 ob = true) {ps : List Pu} (hlen : ps.length < 4611686018427387904) {H H' : List (Nat × Ob)} {r : Option Nat} (hd0 : A8 HR H' = true) (hk : ∀ l ob, get H l = some ob → ∃ ob', get H' l = some ob') (hR : ∀ l ob, get HR l = some ob → get H l = none)
  (h : AnyC Tryz.prog G f first captured HR ps H r H') : HCall Tryz.prog G 185 [.pu (.sl lo 32 ps), vf] HR H (iv .i64 (S6 r)) H' [] := by
 refine HCall.of_tri tbl (n := 19) (L := e9 H' ++ u4 H') Tryz.func185 rfl rfl hfree (fun l ob hl => m6 hd0 hl) (fun l hl => by simp [PV.labs] at hl) (fun l ob hl => L8 hl) hk ?_
 rintro ⟨w0, n', M, G', L, R, ρ0, D0, ro⟩ hn hG hL hR' hro
 simp only at hn hG hL hR' hro
 subst hn hG hL hR' hro
 have hset : ∀ (i : Nat) (H1 : List (Nat × Ob)) (r1 : Option Nat), AnyC Tryz.prog G' f first captured HR (ps.drop i) H1 r1 H' → True := fun _ _ _ _ => trivial
 let σ := {s : Nat × List (Nat × Ob) × Option Nat // AnyC Tryz.prog G' f first captured HR (ps.drop s.1) s.2.1 s.2.2 H' ∧ s.1 ≤ ps.length ∧ S6 r = (match s.2.2 with | some j => ((s.1 + j : Nat) : Int) | none => -1) ∧ (∀ l ob, get s.2.1 l = some ob → l ∉ e9 HR)}
 refine Y48 ?_;refine Y38 ?_;refine Tri.block (Tri.loop (σ := σ) (fun s => ⟨[(0, .pu (.sl lo 32 ps)), (1, vf), (7, iv .i64 ps.length), (8, iv .i64 s.1.1)], HR ++ s.1.2.1⟩) (fun s => ps.length - s.1.1) ⟨(0, H, r), by simpa using h, Nat.zero_le _, by cases r <;> simp [S6], fun l ob hl hm => ?_⟩ ?_ (fun s => ?_))
 ·obtain ⟨ob', ho⟩ := k8 (a := HR) hm
  rw [hR l ob' ho] at hl
  cases hl
 ·exact aq2 (.cons rfl rfl (.cons rfl rfl (.cons rfl rfl (.cons rfl rfl .nil))))
 obtain ⟨⟨i, H1, r1⟩, hA, hi0, hr1, hdisj⟩ := s
 simp only at hA hi0 hr1 hdisj ⊢
 refine Y4 ?_;refine A7 ?_;refine Tri.seq (Tri.cond rfl (fun hb => Tri.skip ?_) (fun hb => Tri.exit ?_))
 ·have hi : i < ps.length := by simpa using hb
  obtain ⟨p, hp⟩ : ∃ p, ps[i]? = some p := ⟨ps[i], by simp [hi]⟩
  have hdr : ps.drop i = p :: ps.drop (i + 1) := by
   rw [List.drop_eq_getElem_cons hi]
   simp only [List.getElem?_eq_getElem hi, Option.some.injEq] at hp
   rw [hp]
  rw [hdr] at hA
  have hHR : ∀ l ob, get HR l = some ob → ∃ ob1, get (HR ++ H1) l = some ob1 ∧ ObImp Tryz.prog ob1 ob := fun l ob hl => ⟨ob, by rw [c8, hl]; rfl, ObImp.refl _⟩
  have hH1 : ∀ l ob, get H1 l = some ob → l ∉ e9 HR ∧ ∃ ob1, get (HR ++ H1) l = some ob1 ∧ ObImp Tryz.prog ob1 ob := fun l ob hl => by
   refine ⟨hdisj l ob hl, ob, ?_, ObImp.refl _⟩
   rw [c8]
   cases hg : get HR l with
   | some o => exact absurd (m4 hg) (hdisj l ob hl)
   | none => simpa using hl
  have hnt2 : (first ++ [PV.pu p] ++ captured).any j1 = false := by
   simp only [List.any_append, Bool.or_eq_false_iff] at hna ⊢
   exact ⟨⟨hna.1, by simp [j1]⟩, hna.2⟩
  refine Tri.seq (Tri.block ?_);refine Y1 ?_;refine Y12 ?_
  cases hA with
  | hit hc hd =>
   refine yR ?_;refine b5 (I9 SS (h := Ev.mk rfl hst)) ?_;refine Y19 ?_;refine Xq hp ?_;refine yL ?_;refine A0 (vf := vf) (first := first) (captured := captured) (vs := [.pu p]) (HR := HR) (H := H1) (news := []) rfl hst hvf hent (.cons (.mk rfl .pu) .nil) rfl (VImps.refl _) hnt2 hHR hH1 hc rfl ?_;refine Y0 ?_;refine Tri.condT rfl ?_;refine Y1 ?_;refine Y12 ?_;refine Tri.ret ⟨.inr rfl, _, Ghost.refl _, A9 rfl b6 (d4 ?_), fun l ob hl => ⟨ob, ?_, ObImp.refl _⟩⟩
   ·rw [hr1]
    simp
   ·rw [c8, hl]; rfl
  | next hc hd t =>
   rename_i H2 r2
   refine yR ?_;refine b5 (I9 SS (h := Ev.mk rfl hst)) ?_;refine Y19 ?_;refine Xq hp ?_;refine yL ?_;refine A0 (vf := vf) (first := first) (captured := captured) (vs := [.pu p]) (HR := HR) (H := H1) (news := []) rfl hst hvf hent (.cons (.mk rfl .pu) .nil) rfl (VImps.refl _) hnt2 hHR hH1 hc rfl ?_;refine Y0 ?_;refine Tri.condF rfl ?_;refine Y52 ?_
   refine ⟨⟨(i + 1, H2, r2), t, hi, ?_, fun l ob hl hm => ?_⟩, by simp; omega, aq3 hd (.cons rfl rfl (.cons rfl rfl (.cons rfl rfl (.cons rfl ?_ .nil))))⟩
   ·rw [hr1]
    cases r2 with
    | none => rfl
    | some j => exact congrArg (fun n : Nat => (n : Int)) (show i + (j + 1) = i + 1 + j by omega)
   ·obtain ⟨ob', ho⟩ := k8 (a := HR) hm
    rw [m6 hd hl] at ho
    cases ho
   ·rw [b4 (by omega) (by omega)]
    rfl
 ·have hi : i = ps.length := by
   have : ps.length ≤ i := by simpa using hb
   omega
  subst hi
  rw [List.drop_length] at hA
  cases hA
  refine Y20 ?_;refine Tri.ret ⟨.inr rfl, _, Ghost.refl _, A9 rfl b6 (d4 (by rw [hr1])), fun l ob hl => ⟨ob, ?_, ObImp.refl _⟩⟩;rw [c8]
  cases hg : get HR l with
  | some o => exact absurd (m4 hg) (hdisj l ob hl)
  | none => simpa using hl
theorem bQ7 {vf : PV} {f : FuncId} {first captured : List PV} {HR : List (Nat × Ob)} (hvf : fnV vf = some (f, first, captured)) (hst : Str vf vf) (hnt : j1 vf = false) (hent : j8 Tryz.prog f = true) (hna : (first ++ captured).any j1 = false)
  (hfree : ∀ l ob, get HR l = some ob → B1 ob = true) {ps : List Pu} (hlen : ps.length < 4611686018427387904) {H H' : List (Nat × Ob)} {r : Option Nat} (hd0 : A8 HR H' = true) (hd1 : A8 HR H = true) (hk : ∀ l ob, get H l = some ob → ∃ ob', get H' l = some ob')
  (h : AnyC Tryz.prog G f first captured HR ps H r H') : HCall Tryz.prog G 122 [.pu (.sl lo 32 ps), vf] HR H (bv r.isSome) H' [] := by
 refine HCall.of_tri tbl (n := 9) (L := e9 H' ++ u4 H') Tryz.func122 rfl rfl hfree (fun l ob hl => m6 hd0 hl) (fun l hl => by simp [PV.labs] at hl) (fun l ob hl => L8 hl) hk ?_
 rintro ⟨w0, n', M, G', L, R, ρ0, D0, ro⟩ hn hG hL hR' hro
 simp only at hn hG hL hR' hro
 subst hn hG hL hR' hro
 have hHR : ∀ l ob, get HR l = some ob → ∃ ob1, get (HR ++ H) l = some ob1 ∧ ObImp Tryz.prog ob1 ob := fun l ob hl => ⟨ob, by rw [c8, hl]; rfl, ObImp.refl _⟩
 have hH1 : ∀ l ob, get H l = some ob → l ∉ e9 HR ∧ ∃ ob1, get (HR ++ H) l = some ob1 ∧ ObImp Tryz.prog ob1 ob := fun l ob hl => by
  have hz := m6 hd1 hl
  refine ⟨fun hm => ?_, ob, ?_, ObImp.refl _⟩
  ·obtain ⟨ob', ho⟩ := k8 (a := HR) hm
   rw [hz] at ho; cases ho
  ·rw [c8, hz]; simpa using hl
 refine Y48 ?_;refine b5 (I9 SS (h := Ev.mk rfl hst)) ?_;refine A0 (vf := .pu (.leaf (.func (.func 185) #[] #[]))) (first := []) (captured := []) (vs := [.pu (.sl lo 32 ps), vf]) (HR := HR) (H := H) (news := []) rfl .pu rfl (by kernel_rfl) (.cons (.mk rfl .pu) (.cons (.mk rfl hst) .nil)) (by rw [List.any_cons, List.any_cons, hnt]; rfl) (VImps.refl _) (by rw [List.nil_append, List.append_nil, List.any_cons, List.any_cons, hnt]; rfl) hHR hH1 (bN9 hvf hst hnt hent hna hfree hlen hd0 hk (fun l ob hl => I7 hd1 hl) h) rfl ?_;refine yI ?_;refine Y12 ?_;refine Tri.ret ⟨.inr rfl, _, Ghost.refl _, A9 rfl b6 (l7 ?_), fun l ob hl => ⟨ob, by rw [c8, hl]; rfl, ObImp.refl _⟩⟩
 cases r with
 | none => simp [S6]
 | some j => simp [S6]
theorem aJ6 (vf : PV) {f : FuncId} {first captured : List PV} {HR : List (Nat × Ob)} {ps : List Pu} (hlen : ps.length < 4611686018427387904) {H H' : List (Nat × Ob)} {r : Option Nat} (h : AnyC Tryz.prog G f first captured HR ps H r H')
  (hvf : fnV vf = some (f, first, captured) := by rfl) (hst : Str vf vf := by repeat constructor) (hnt : j1 vf = false := by rfl) (hent : j8 Tryz.prog f = true := by kernel_rfl) (hna : (first ++ captured).any j1 = false := by rfl)
  (hfree : HR.all (fun q => B1 q.2) = true := by rfl) (hd0 : A8 HR H' = true := by rfl) (hd1 : A8 HR H = true := by rfl) (hk : ((e9 H).all fun l => (e9 H').contains l) = true := by rfl) :
  HCall Tryz.prog G 122 [.pu (.sl lo 32 ps), vf] HR H (bv r.isSome) H' [] :=
 bQ7 hvf hst hnt hent hna (fun l ob hl => List.all_eq_true.1 hfree _ (D1 hl)) hlen hd0 hd1 (fun l ob hl => k8 (by simpa [e9] using List.all_eq_true.1 hk l (m4 hl))) h
theorem bO1 {vf : PV} {f : FuncId} {first captured : List PV} {HR : List (Nat × Ob)} (hvf : fnV vf = some (f, first, captured)) (hst : Str vf vf) (hnt : j1 vf = false) (hent : j8 Tryz.prog f = true) (hna : (first ++ captured).any j1 = false)
  (hfree : ∀ l ob, get HR l = some ob → B1 ob = true) {ps : List Pu} (hlen : ps.length < 4611686018427387904) {H H' : List (Nat × Ob)} {r : Option Nat} (hd0 : A8 HR H' = true) (hk : ∀ l ob, get H l = some ob → ∃ ob', get H' l = some ob') (hR : ∀ l ob, get HR l = some ob → get H l = none)
  (h : AnyC Tryz.prog G f first captured HR ps H r H') : HCall Tryz.prog G 186 [.pu (.sl lo 106 ps), vf] HR H (iv .i64 (S6 r)) H' [] := by
 refine HCall.of_tri tbl (n := 19) (L := e9 H' ++ u4 H') Tryz.func186 rfl rfl hfree (fun l ob hl => m6 hd0 hl) (fun l hl => by simp [PV.labs] at hl) (fun l ob hl => L8 hl) hk ?_
 rintro ⟨w0, n', M, G', L, R, ρ0, D0, ro⟩ hn hG hL hR' hro
 simp only at hn hG hL hR' hro
 subst hn hG hL hR' hro
 have hset : ∀ (i : Nat) (H1 : List (Nat × Ob)) (r1 : Option Nat), AnyC Tryz.prog G' f first captured HR (ps.drop i) H1 r1 H' → True := fun _ _ _ _ => trivial
 let σ := {s : Nat × List (Nat × Ob) × Option Nat // AnyC Tryz.prog G' f first captured HR (ps.drop s.1) s.2.1 s.2.2 H' ∧ s.1 ≤ ps.length ∧ S6 r = (match s.2.2 with | some j => ((s.1 + j : Nat) : Int) | none => -1) ∧ (∀ l ob, get s.2.1 l = some ob → l ∉ e9 HR)}
 refine Y48 ?_;refine Y38 ?_;refine Tri.block (Tri.loop (σ := σ) (fun s => ⟨[(0, .pu (.sl lo 106 ps)), (1, vf), (7, iv .i64 ps.length), (8, iv .i64 s.1.1)], HR ++ s.1.2.1⟩) (fun s => ps.length - s.1.1) ⟨(0, H, r), by simpa using h, Nat.zero_le _, by cases r <;> simp [S6], fun l ob hl hm => ?_⟩ ?_ (fun s => ?_))
 ·obtain ⟨ob', ho⟩ := k8 (a := HR) hm
  rw [hR l ob' ho] at hl
  cases hl
 ·exact aq2 (.cons rfl rfl (.cons rfl rfl (.cons rfl rfl (.cons rfl rfl .nil))))
 obtain ⟨⟨i, H1, r1⟩, hA, hi0, hr1, hdisj⟩ := s
 simp only at hA hi0 hr1 hdisj ⊢
 refine Y4 ?_;refine A7 ?_;refine Tri.seq (Tri.cond rfl (fun hb => Tri.skip ?_) (fun hb => Tri.exit ?_))
 ·have hi : i < ps.length := by simpa using hb
  obtain ⟨p, hp⟩ : ∃ p, ps[i]? = some p := ⟨ps[i], by simp [hi]⟩
  have hdr : ps.drop i = p :: ps.drop (i + 1) := by
   rw [List.drop_eq_getElem_cons hi]
   simp only [List.getElem?_eq_getElem hi, Option.some.injEq] at hp
   rw [hp]
  rw [hdr] at hA
  have hHR : ∀ l ob, get HR l = some ob → ∃ ob1, get (HR ++ H1) l = some ob1 ∧ ObImp Tryz.prog ob1 ob := fun l ob hl => ⟨ob, by rw [c8, hl]; rfl, ObImp.refl _⟩
  have hH1 : ∀ l ob, get H1 l = some ob → l ∉ e9 HR ∧ ∃ ob1, get (HR ++ H1) l = some ob1 ∧ ObImp Tryz.prog ob1 ob := fun l ob hl => by
   refine ⟨hdisj l ob hl, ob, ?_, ObImp.refl _⟩
   rw [c8]
   cases hg : get HR l with
   | some o => exact absurd (m4 hg) (hdisj l ob hl)
   | none => simpa using hl
  have hnt2 : (first ++ [PV.pu p] ++ captured).any j1 = false := by
   simp only [List.any_append, Bool.or_eq_false_iff] at hna ⊢
   exact ⟨⟨hna.1, by simp [j1]⟩, hna.2⟩
  refine Tri.seq (Tri.block ?_);refine Y1 ?_;refine Y12 ?_
  cases hA with
  | hit hc hd =>
   refine yR ?_;refine b5 (I9 SS (h := Ev.mk rfl hst)) ?_;refine Y19 ?_;refine Xq hp ?_;refine yL ?_;refine A0 (vf := vf) (first := first) (captured := captured) (vs := [.pu p]) (HR := HR) (H := H1) (news := []) rfl hst hvf hent (.cons (.mk rfl .pu) .nil) rfl (VImps.refl _) hnt2 hHR hH1 hc rfl ?_;refine Y0 ?_;refine Tri.condT rfl ?_;refine Y1 ?_;refine Y12 ?_;refine Tri.ret ⟨.inr rfl, _, Ghost.refl _, A9 rfl b6 (d4 ?_), fun l ob hl => ⟨ob, ?_, ObImp.refl _⟩⟩
   ·rw [hr1]
    simp
   ·rw [c8, hl]; rfl
  | next hc hd t =>
   rename_i H2 r2
   refine yR ?_;refine b5 (I9 SS (h := Ev.mk rfl hst)) ?_;refine Y19 ?_;refine Xq hp ?_;refine yL ?_;refine A0 (vf := vf) (first := first) (captured := captured) (vs := [.pu p]) (HR := HR) (H := H1) (news := []) rfl hst hvf hent (.cons (.mk rfl .pu) .nil) rfl (VImps.refl _) hnt2 hHR hH1 hc rfl ?_;refine Y0 ?_;refine Tri.condF rfl ?_;refine Y52 ?_
   refine ⟨⟨(i + 1, H2, r2), t, hi, ?_, fun l ob hl hm => ?_⟩, by simp; omega, aq3 hd (.cons rfl rfl (.cons rfl rfl (.cons rfl rfl (.cons rfl ?_ .nil))))⟩
   ·rw [hr1]
    cases r2 with
    | none => rfl
    | some j => exact congrArg (fun n : Nat => (n : Int)) (show i + (j + 1) = i + 1 + j by omega)
   ·obtain ⟨ob', ho⟩ := k8 (a := HR) hm
    rw [m6 hd hl] at ho
    cases ho
   ·rw [b4 (by omega) (by omega)]
    rfl
 ·have hi : i = ps.length := by
   have : ps.length ≤ i := by simpa using hb
   omega
  subst hi
  rw [List.drop_length] at hA
  cases hA
  refine Y20 ?_;refine Tri.ret ⟨.inr rfl, _, Ghost.refl _, A9 rfl b6 (d4 (by rw [hr1])), fun l ob hl => ⟨ob, ?_, ObImp.refl _⟩⟩;rw [c8]
  cases hg : get HR l with
  | some o => exact absurd (m4 hg) (hdisj l ob hl)
  | none => simpa using hl
theorem bR0 {vf : PV} {f : FuncId} {first captured : List PV} {HR : List (Nat × Ob)} (hvf : fnV vf = some (f, first, captured)) (hst : Str vf vf) (hnt : j1 vf = false) (hent : j8 Tryz.prog f = true) (hna : (first ++ captured).any j1 = false)
  (hfree : ∀ l ob, get HR l = some ob → B1 ob = true) {ps : List Pu} (hlen : ps.length < 4611686018427387904) {H H' : List (Nat × Ob)} {r : Option Nat} (hd0 : A8 HR H' = true) (hd1 : A8 HR H = true) (hk : ∀ l ob, get H l = some ob → ∃ ob', get H' l = some ob')
  (h : AnyC Tryz.prog G f first captured HR ps H r H') : HCall Tryz.prog G 123 [.pu (.sl lo 106 ps), vf] HR H (bv r.isSome) H' [] := by
 refine HCall.of_tri tbl (n := 9) (L := e9 H' ++ u4 H') Tryz.func123 rfl rfl hfree (fun l ob hl => m6 hd0 hl) (fun l hl => by simp [PV.labs] at hl) (fun l ob hl => L8 hl) hk ?_
 rintro ⟨w0, n', M, G', L, R, ρ0, D0, ro⟩ hn hG hL hR' hro
 simp only at hn hG hL hR' hro
 subst hn hG hL hR' hro
 have hHR : ∀ l ob, get HR l = some ob → ∃ ob1, get (HR ++ H) l = some ob1 ∧ ObImp Tryz.prog ob1 ob := fun l ob hl => ⟨ob, by rw [c8, hl]; rfl, ObImp.refl _⟩
 have hH1 : ∀ l ob, get H l = some ob → l ∉ e9 HR ∧ ∃ ob1, get (HR ++ H) l = some ob1 ∧ ObImp Tryz.prog ob1 ob := fun l ob hl => by
  have hz := m6 hd1 hl
  refine ⟨fun hm => ?_, ob, ?_, ObImp.refl _⟩
  ·obtain ⟨ob', ho⟩ := k8 (a := HR) hm
   rw [hz] at ho; cases ho
  ·rw [c8, hz]; simpa using hl
 refine Y48 ?_;refine b5 (I9 SS (h := Ev.mk rfl hst)) ?_;refine A0 (vf := .pu (.leaf (.func (.func 186) #[] #[]))) (first := []) (captured := []) (vs := [.pu (.sl lo 106 ps), vf]) (HR := HR) (H := H) (news := []) rfl .pu rfl (by kernel_rfl) (.cons (.mk rfl .pu) (.cons (.mk rfl hst) .nil)) (by rw [List.any_cons, List.any_cons, hnt]; rfl) (VImps.refl _) (by rw [List.nil_append, List.append_nil, List.any_cons, List.any_cons, hnt]; rfl) hHR hH1 (bO1 hvf hst hnt hent hna hfree hlen hd0 hk (fun l ob hl => I7 hd1 hl) h) rfl ?_;refine yI ?_;refine Y12 ?_;refine Tri.ret ⟨.inr rfl, _, Ghost.refl _, A9 rfl b6 (l7 ?_), fun l ob hl => ⟨ob, by rw [c8, hl]; rfl, ObImp.refl _⟩⟩
 cases r with
 | none => simp [S6]
 | some j => simp [S6]
theorem bk8 (vf : PV) {f : FuncId} {first captured : List PV} {HR : List (Nat × Ob)} {ps : List Pu} (hlen : ps.length < 4611686018427387904) {H H' : List (Nat × Ob)} {r : Option Nat} (h : AnyC Tryz.prog G f first captured HR ps H r H')
  (hvf : fnV vf = some (f, first, captured) := by rfl) (hst : Str vf vf := by repeat constructor) (hnt : j1 vf = false := by rfl) (hent : j8 Tryz.prog f = true := by kernel_rfl) (hna : (first ++ captured).any j1 = false := by rfl)
  (hfree : HR.all (fun q => B1 q.2) = true := by rfl) (hd0 : A8 HR H' = true := by rfl) (hd1 : A8 HR H = true := by rfl) (hk : ((e9 H).all fun l => (e9 H').contains l) = true := by rfl) :
  HCall Tryz.prog G 123 [.pu (.sl lo 106 ps), vf] HR H (bv r.isSome) H' [] :=
 bR0 hvf hst hnt hent hna (fun l ob hl => List.all_eq_true.1 hfree _ (D1 hl)) hlen hd0 hd1 (fun l ob hl => k8 (by simpa [e9] using List.all_eq_true.1 hk l (m4 hl))) h
end
section
variable {G : List (Nat × TypeId × Pu)}
section
variable (mn md : Int)
mutual
def l4 (mn md d c : Int) : Pat → Bool × Int
 | .mk _ _ _ ks => if mn < c + 1 ∨ md < d then (true, c + 1) else x7 mn md (d + 1) (c + 1) ks
def x7 (mn md d c : Int) : List Pat → Bool × Int
 | [] => (false, c)
 | p :: ps => match l4 mn md d c p with
  | (true, c') => (true, c')
  | (false, c') => x7 mn md d c' ps
end
mutual
def n3 (mn md d c : Int) : Tm → Bool × Int
 | .mk _ _ _ ks cs => if mn < c + 1 ∨ md < d then (true, c + 1) else match n8 mn md (d + 1) (c + 1) ks with
  | (true, c') => (true, c')
  | (false, c') => r8 mn md (d + 1) c' cs
def n8 (mn md d c : Int) : List Tm → Bool × Int
 | [] => (false, c)
 | t :: ts => match n3 mn md d c t with
  | (true, c') => (true, c')
  | (false, c') => n8 mn md d c' ts
def G1 (mn md d c : Int) : Cs → Bool × Int
 | .mk p t => match l4 mn md d c p with
  | (true, c') => (true, c')
  | (false, c') => n3 mn md d c' t
def r8 (mn md d c : Int) : List Cs → Bool × Int
 | [] => (false, c)
 | x :: xs => match G1 mn md d c x with
  | (true, c') => (true, c')
  | (false, c') => r8 mn md d c' xs
end
end
variable {mn md d : Int}
theorem am0 : ∀ (ks : List Pat) (c : Int), x7 mn md d c ks = ap6 (l4 mn md d) c ks
 | [], _ => rfl
 | p :: ps, c => by
  simp only [x7, ap6]
  rcases l4 mn md d c p with ⟨b, c'⟩
  cases b
  ·exact am0 ps c'
  ·rfl
theorem al9 : ∀ (ks : List Tm) (c : Int), n8 mn md d c ks = ap6 (n3 mn md d) c ks
 | [], _ => rfl
 | p :: ps, c => by
  simp only [n8, ap6]
  rcases n3 mn md d c p with ⟨b, c'⟩
  cases b
  ·exact al9 ps c'
  ·rfl
theorem am1 : ∀ (ks : List Cs) (c : Int), r8 mn md d c ks = ap6 (G1 mn md d) c ks
 | [], _ => rfl
 | p :: ps, c => by
  simp only [r8, ap6]
  rcases G1 mn md d c p with ⟨b, c'⟩
  cases b
  ·exact am1 ps c'
  ·rfl
def InB (mn c : Int) (r : Bool × Int) : Prop := c ≤ r.2 ∧ r.2 ≤ mn + 1 ∧ (r.1 = false → r.2 ≤ mn)
mutual
theorem ad0 : ∀ (p : Pat) (d c : Int), c ≤ mn → InB mn c (l4 mn md d c p)
 | .mk _ _ _ ks, d, c, hc => by
  simp only [l4]
  split
  ·exact ⟨by simp; omega, by simp; omega, fun e => by cases e⟩
  ·rename_i hn
   obtain ⟨k1, k2, k3⟩ := aQ1 ks (d + 1) (c + 1) (by omega)
   exact ⟨by omega, k2, k3⟩
theorem aQ1 : ∀ (ks : List Pat) (d c : Int), c ≤ mn → InB mn c (x7 mn md d c ks)
 | [], d, c, hc => ⟨by simp [x7], by simp [x7]; omega, fun _ => by simpa [x7] using hc⟩
 | p :: ps, d, c, hc => by
  obtain ⟨h1, h2, h3⟩ := ad0 p d c hc
  simp only [x7]
  rcases hs : l4 mn md d c p with ⟨b, c'⟩
  rw [hs] at h1 h2 h3
  simp only at h1 h2 h3
  cases b
  ·obtain ⟨k1, k2, k3⟩ := aQ1 ps d c' (h3 rfl)
   exact ⟨Int.le_trans h1 k1, k2, k3⟩
  ·exact ⟨h1, h2, fun e => by cases e⟩
end
mutual
theorem ai5 : ∀ (t : Tm) (d c : Int), c ≤ mn → InB mn c (n3 mn md d c t)
 | .mk _ _ _ ks cs, d, c, hc => by
  simp only [n3]
  split
  ·exact ⟨by simp; omega, by simp; omega, fun e => by cases e⟩
  ·rename_i hn
   obtain ⟨h1, h2, h3⟩ := ai4 ks (d + 1) (c + 1) (by omega)
   rcases hs : n8 mn md (d + 1) (c + 1) ks with ⟨b, c'⟩
   rw [hs] at h1 h2 h3
   simp only at h1 h2 h3
   cases b
   ·obtain ⟨k1, k2, k3⟩ := aQ4 cs (d + 1) c' (h3 rfl)
    refine ⟨?_, k2, k3⟩
    show c ≤ (r8 mn md (d + 1) c' cs).2
    omega
   ·exact ⟨by simp; omega, h2, fun e => by cases e⟩
theorem ai4 : ∀ (ks : List Tm) (d c : Int), c ≤ mn → InB mn c (n8 mn md d c ks)
 | [], d, c, hc => ⟨by simp [n8], by simp [n8]; omega, fun _ => by simpa [n8] using hc⟩
 | p :: ps, d, c, hc => by
  obtain ⟨h1, h2, h3⟩ := ai5 p d c hc
  simp only [n8]
  rcases hs : n3 mn md d c p with ⟨b, c'⟩
  rw [hs] at h1 h2 h3
  simp only at h1 h2 h3
  cases b
  ·obtain ⟨k1, k2, k3⟩ := ai4 ps d c' (h3 rfl)
   exact ⟨Int.le_trans h1 k1, k2, k3⟩
  ·exact ⟨h1, h2, fun e => by cases e⟩
theorem aH5 : ∀ (x : Cs) (d c : Int), c ≤ mn → InB mn c (G1 mn md d c x)
 | .mk p t, d, c, hc => by
  obtain ⟨h1, h2, h3⟩ := ad0 (md := md) p d c hc
  simp only [G1]
  rcases hs : l4 mn md d c p with ⟨b, c'⟩
  rw [hs] at h1 h2 h3
  simp only at h1 h2 h3
  cases b
  ·obtain ⟨k1, k2, k3⟩ := ai5 t d c' (h3 rfl)
   exact ⟨Int.le_trans h1 k1, k2, k3⟩
  ·exact ⟨h1, h2, fun e => by cases e⟩
theorem aQ4 : ∀ (ks : List Cs) (d c : Int), c ≤ mn → InB mn c (r8 mn md d c ks)
 | [], d, c, hc => ⟨by simp [r8], by simp [r8]; omega, fun _ => by simpa [r8] using hc⟩
 | p :: ps, d, c, hc => by
  obtain ⟨h1, h2, h3⟩ := aH5 p d c hc
  simp only [r8]
  rcases hs : G1 mn md d c p with ⟨b, c'⟩
  rw [hs] at h1 h2 h3
  simp only at h1 h2 h3
  cases b
  ·obtain ⟨k1, k2, k3⟩ := aQ4 ps d c' (h3 rfl)
   exact ⟨Int.le_trans h1 k1, k2, k3⟩
  ·exact ⟨h1, h2, fun e => by cases e⟩
end
theorem aC2 {ks : List Pat} {k : Pat} (h : k ∈ ks) : k9 k ≤ n7 ks := by
 obtain ⟨i, hi, rfl⟩ := List.getElem_of_mem h
 exact x6 hi
theorem w8 {ks : List Tm} {k : Tm} (h : k ∈ ks) : a5 k ≤ c7 ks := by
 obtain ⟨i, hi, rfl⟩ := List.getElem_of_mem h
 exact K7 hi
theorem L0 {ks : List Cs} {k : Cs} (h : k ∈ ks) : u7 k ≤ d6 ks := by
 obtain ⟨i, hi, rfl⟩ := List.getElem_of_mem h
 exact L1 hi
end
section
variable {G : List (Nat × TypeId × Pu)}
abbrev lgO (c : Int) : List (Nat × Ob) := [(90, .var 203 (.pu (.agg 203 [.leaf (.int .i64 c)])))]
theorem bY9 (p : Pat) (d c : Int) (hd : 0 ≤ d ∧ d ≤ 60) (h : HCall Tryz.prog G 199 [.ptr 90 [] 203, .pu (A6 0 p), iv .i64 (d + 1)] [] (lgO c) (bv (l4 300 60 (d + 1) c p).1) (lgO (l4 300 60 (d + 1) c p).2) []) :
  HCall Tryz.prog G 234 [.pu (A6 0 p), .ptr 3 [] 201, .ptr 5 [] 3] [(3, .var 201 (.ptr 90 [] 203)), (5, .var 3 (iv .i64 d))] (lgO c) (bv (l4 300 60 (d + 1) c p).1) (lgO (l4 300 60 (d + 1) c p).2) [] := by
 refine HCall.of_triD tbl 10 [90, 3, 5] Tryz.func234 rfl rfl rfl fun w0 M ρ0 D0 => ?_
 refine yR ?_;refine o9 SS 31 ?_;refine yB ?_;refine a6 [31] ?_;refine Y43 ?_;refine yL ?_;refine yI ?_;refine a9 (h) ?_;refine Y2 ?_;refine Rqz ?_;exact VImp.refl _
theorem cd7 : ∀ (N : Nat) (p : Pat), k9 p ≤ N → N < 2^40 → ∀ (d c : Int), 0 ≤ c ∧ c ≤ 300 → 0 ≤ d ∧ d ≤ 60 + 1 →
  HCall Tryz.prog G 199 [.ptr 90 [] 203, .pu (A6 0 p), iv .i64 d] [] (lgO c) (bv (l4 300 60 d c p).1) (lgO (l4 300 60 d c p).2) [] := by
 intro N
 induction N with
 | zero => intro p h; cases p; simp [k9] at h
 | succ N ih =>
 intro p hp hN d c hc hd
 obtain ⟨k, n, r, ks⟩ := p
 simp only [k9] at hp
 have hlen := o4 ks
 have key : 0 ≤ d ∧ d ≤ 60 → c + 1 ≤ 300 → ∃ r, r.isSome = (x7 300 60 (d + 1) (c + 1) ks).1 ∧ AnyC Tryz.prog G 234 [] [.ptr 3 [] 201, .ptr 5 [] 3] [(3, .var 201 (.ptr 90 [] 203)), (5, .var 3 (iv .i64 d))] (v6 0 ks) (lgO (c + 1)) r (lgO (x7 300 60 (d + 1) (c + 1) ks).2) := fun hd' hc' => by
  rw [am0, A4];refine AnyC.state (A6 0) (l4 300 60 (d + 1)) lgO (fun c => 0 ≤ c ∧ c ≤ 300) (fun _ => rfl) ks (fun a ha c hc => ?_) (c + 1) ⟨by omega, hc'⟩
  have hb := ad0 (mn := 300) (md := 60) a (d + 1) c hc.2
  exact ⟨bY9 a d c hd' (ih a (by have := aC2 ha; omega) (by omega) (d + 1) c hc (by omega)), fun e => ⟨by have := hb.1; omega, hb.2.2 e⟩⟩
 refine HCall.of_triD tbl 27 [90] Tryz.func199 rfl rfl rfl fun w0 M ρ0 D0 => ?_
 by_cases hcut : 300 < c + 1 ∨ 60 < d
 ·have e : l4 300 60 d c (.mk k n r ks) = (true, c + 1) := by simp only [l4, if_pos hcut]
  rw [e, ← b4 (n := c + 1) (by omega) (by omega)];refine Y45 ?_;refine Y75 ?_;refine yB ?_;refine a6 [3, 4, 5] ?_;refine Y63 ?_;refine Y71 ?_;refine Y63 ?_;refine Y69 ?_;refine Y34 ?_;refine Y0 ?_;refine Cq ?_ ?_
  ·intro h0
   refine Y9 ?_;refine Rqz ?_;exact VImp.refl _
  ·intro h0;exfalso
   rw [b4 (by omega) (by omega)] at h0
   simp at h0
   omega
 ·obtain ⟨r1, hr1, hA⟩ := key (by omega) (by omega)
  have e : l4 300 60 d c (.mk k n r ks) = x7 300 60 (d + 1) (c + 1) ks := by simp only [l4, if_neg hcut]
  rw [e]
  generalize x7 300 60 (d + 1) (c + 1) ks = q1 at hr1 hA ⊢
  obtain ⟨b1, c1⟩ := q1
  simp only at hr1 hA ⊢
  rw [← b4 (n := c + 1) (by omega) (by omega)] at hA
  refine Y45 ?_;refine Y75 ?_;refine yB ?_;refine a6 [3, 4, 5] ?_;refine Y63 ?_;refine Y71 ?_;refine Y63 ?_;refine Y69 ?_;refine Y34 ?_;refine Y0 ?_;refine Cq ?_ ?_
  ·intro h0;exfalso
   rw [b4 (by omega) (by omega)] at h0
   simp at h0
   omega
  ·intro h0
   refine Tri.skip ?_;refine Y22 ?_;refine b5 (H8 SS) ?_;refine a9 (aU4 (lo := 0) (.fn (.func 234) [] [.ptr 3 [] 201, .ptr 5 [] 3]) (by rw [j7]; omega) hA) ?_;refine Y2 ?_;refine Rqz ?_;exact l7 hr1
theorem bB7 (t : Tm) (d c : Int) (hd : 0 ≤ d ∧ d ≤ 60) (h : HCall Tryz.prog G 134 [.ptr 90 [] 203, .pu (tmc 0 t), iv .i64 (d + 1)] [] (lgO c) (bv (n3 300 60 (d + 1) c t).1) (lgO (n3 300 60 (d + 1) c t).2) []) :
  HCall Tryz.prog G 197 [.pu (tmc 0 t), .ptr 3 [] 201, .ptr 5 [] 3] [(3, .var 201 (.ptr 90 [] 203)), (5, .var 3 (iv .i64 d))] (lgO c) (bv (n3 300 60 (d + 1) c t).1) (lgO (n3 300 60 (d + 1) c t).2) [] := by
 refine HCall.of_triD tbl 10 [90, 3, 5] Tryz.func197 rfl rfl rfl fun w0 M ρ0 D0 => ?_
 refine yR ?_;refine o9 SS 31 ?_;refine yB ?_;refine a6 [31] ?_;refine Y43 ?_;refine yL ?_;refine yI ?_;refine a9 (h) ?_;refine Y2 ?_;refine Rqz ?_;exact VImp.refl _
theorem bq4 (mn md d c : Int) (p : Pat) (t : Tm) : G1 mn md d c (.mk p t) = ((l4 mn md d c p).1 || (n3 mn md d (l4 mn md d c p).2 t).1, if (l4 mn md d c p).1 then (l4 mn md d c p).2 else (n3 mn md d (l4 mn md d c p).2 t).2) := by
 simp only [G1]
 rcases l4 mn md d c p with ⟨b, c'⟩
 cases b <;> simp
theorem bY8 (p : Pat) (t : Tm) (d c : Int) (hd : 0 ≤ d ∧ d ≤ 60) (h : HCall Tryz.prog G 199 [.ptr 90 [] 203, .pu (A6 0 p), iv .i64 (d + 1)] [] (lgO c) (bv (l4 300 60 (d + 1) c p).1) (lgO (l4 300 60 (d + 1) c p).2) [])
  (h2 : (l4 300 60 (d + 1) c p).1 = false → HCall Tryz.prog G 134 [.ptr 90 [] 203, .pu (tmc 0 t), iv .i64 (d + 1)] [] (lgO (l4 300 60 (d + 1) c p).2) (bv (n3 300 60 (d + 1) (l4 300 60 (d + 1) c p).2 t).1) (lgO (n3 300 60 (d + 1) (l4 300 60 (d + 1) c p).2 t).2) []) :
  HCall Tryz.prog G 198 [.pu (M6 0 (.mk p t)), .ptr 3 [] 201, .ptr 5 [] 3, .ptr 7 [] 45] [(3, .var 201 (.ptr 90 [] 203)), (5, .var 3 (iv .i64 d)), (7, .var 45 (.fn (.func 197) [] [.ptr 3 [] 201, .ptr 5 [] 3]))] (lgO c) (bv (G1 300 60 (d + 1) c (.mk p t)).1) (lgO (G1 300 60 (d + 1) c (.mk p t)).2) [] := by
 have h2' := fun e => (bB7 t d _ hd (h2 e)).more (HR' := [(3, .var 201 (.ptr 90 [] 203)), (5, .var 3 (iv .i64 d)), (7, .var 45 (.fn (.func 197) [] [.ptr 3 [] 201, .ptr 5 [] 3]))]) (fun l ob hl => (SubH.cons rfl rfl (.cons rfl rfl .nil) : SubH [(3, .var 201 (.ptr 90 [] 203)), (5, .var 3 (iv .i64 d)), (7, .var 45 (.fn (.func 197) [] [.ptr 3 [] 201, .ptr 5 [] 3]))] [(3, .var 201 (.ptr 90 [] 203)), (5, .var 3 (iv .i64 d))]).le l ob hl) rfl
 rw [bq4]
 generalize hb1 : l4 300 60 (d + 1) c p = r1 at h2' ⊢
 obtain ⟨b1, c1⟩ := r1
 simp only at h2' ⊢
 refine HCall.of_triD tbl 18 [90, 3, 5, 7] Tryz.func198 rfl rfl rfl fun w0 M ρ0 D0 => ?_
 rw [hb1] at h
 refine yR ?_;refine o9 SS 41 ?_;refine yB ?_;refine a6 [41] ?_;refine Y5 ?_;refine Y3 ?_;refine yL ?_;refine yI ?_;refine a9 (h) ?_;refine Y69 ?_;refine Y7 ?_;refine I0 zG (f := 197) (args := [.pu (tmc 0 t), .ptr 3 [] 201, .ptr 5 [] 3]) (HR := [(3, .var 201 (.ptr 90 [] 203)), (5, .var 3 (iv .i64 d)), (7, .var 45 (.fn (.func 197) [] [.ptr 3 [] 201, .ptr 5 [] 3]))]) (H := lgO c1) (H' := lgO (if b1 = true then c1 else (n3 300 60 (d + 1) c1 t).2)) (v := bv (n3 300 60 (d + 1) c1 t).1) (fun e => ?_) (fun e => ?_) ?_
 ·have e' : b1 = false := by simpa using e
  have := h2' e'
  simpa [e'] using this
 ·have e' : b1 = true := by simpa using e
  exact .cons rfl (by simp [e']) .nil
 refine yO ?_;refine Y2 ?_;refine Rqz ?_;exact VImp.refl _
theorem bq3 (d c k n : Int) (r : List Int) (ks : List Tm) (cs : List Cs) (h : ¬ (300 < c + 1 ∨ 60 < d)) : n3 300 60 d c (.mk k n r ks cs) = ((n8 300 60 (d + 1) (c + 1) ks).1 || (r8 300 60 (d + 1) (n8 300 60 (d + 1) (c + 1) ks).2 cs).1, if (n8 300 60 (d + 1) (c + 1) ks).1 then (n8 300 60 (d + 1) (c + 1) ks).2 else (r8 300 60 (d + 1) (n8 300 60 (d + 1) (c + 1) ks).2 cs).2) := by
 simp only [n3, if_neg h]
 rcases n8 300 60 (d + 1) (c + 1) ks with ⟨b, c'⟩
 cases b <;> simp
theorem cd6 : ∀ (N : Nat) (t : Tm), a5 t ≤ N → N < 2^40 → ∀ (d c : Int), 0 ≤ c ∧ c ≤ 300 → 0 ≤ d ∧ d ≤ 60 + 1 →
  HCall Tryz.prog G 134 [.ptr 90 [] 203, .pu (tmc 0 t), iv .i64 d] [] (lgO c) (bv (n3 300 60 d c t).1) (lgO (n3 300 60 d c t).2) [] := by
 intro N
 induction N with
 | zero => intro t h; have := r9 t; omega
 | succ N ih =>
 intro t hp hN d c hc hd
 obtain ⟨k, n, r, ks, cs⟩ := t
 simp only [a5] at hp
 have hlen := l8 ks
 have hlenc := s6 cs
 have aA4 : 0 ≤ d ∧ d ≤ 60 → c + 1 ≤ 300 → ∃ r, r.isSome = (n8 300 60 (d + 1) (c + 1) ks).1 ∧ AnyC Tryz.prog G 197 [] [.ptr 3 [] 201, .ptr 5 [] 3] [(3, .var 201 (.ptr 90 [] 203)), (5, .var 3 (iv .i64 d))] (l5 0 ks) (lgO (c + 1)) r (lgO (n8 300 60 (d + 1) (c + 1) ks).2) := fun hd' hc' => by
  rw [al9, o8];refine AnyC.state (tmc 0) (n3 300 60 (d + 1)) lgO (fun c => 0 ≤ c ∧ c ≤ 300) (fun _ => rfl) ks (fun a ha c hc => ?_) (c + 1) ⟨by omega, hc'⟩
  have hb := ai5 (mn := 300) (md := 60) a (d + 1) c hc.2
  exact ⟨bB7 a d c hd' (ih a (by have := w8 ha; omega) (by omega) (d + 1) c hc (by omega)), fun e => ⟨by have := hb.1; omega, hb.2.2 e⟩⟩
 have keyC : 0 ≤ d ∧ d ≤ 60 → ∀ c1, 0 ≤ c1 ∧ c1 ≤ 300 → ∃ r, r.isSome = (r8 300 60 (d + 1) c1 cs).1 ∧ AnyC Tryz.prog G 198 [] [.ptr 3 [] 201, .ptr 5 [] 3, .ptr 7 [] 45] [(3, .var 201 (.ptr 90 [] 203)), (5, .var 3 (iv .i64 d)), (7, .var 45 (.fn (.func 197) [] [.ptr 3 [] 201, .ptr 5 [] 3]))] (C7 0 cs) (lgO c1) r (lgO (r8 300 60 (d + 1) c1 cs).2) := fun hd' c1 hc1 => by
  rw [am1, R8];refine AnyC.state (M6 0) (G1 300 60 (d + 1)) lgO (fun c => 0 ≤ c ∧ c ≤ 300) (fun _ => rfl) cs (fun a ha c hc => ?_) c1 hc1
  have hb := aH5 (mn := 300) (md := 60) a (d + 1) c hc.2
  have hsz := L0 ha
  obtain ⟨q, b⟩ := a
  simp only [u7] at hsz
  have hp1 := ad0 (mn := 300) (md := 60) q (d + 1) c hc.2
  have htp := r9 b
  exact ⟨bY8 q b d c hd' (cd7 _ q (Nat.le_refl _) (by omega) (d + 1) c hc (by omega)) (fun e => ih b (by omega) (by omega) (d + 1) _ ⟨by have := hp1.1; omega, hp1.2.2 e⟩ (by omega)), fun e => ⟨by have := hb.1; omega, hb.2.2 e⟩⟩
 refine HCall.of_triD tbl 35 [90] Tryz.func134 rfl rfl rfl fun w0 M ρ0 D0 => ?_
 by_cases hcut : 300 < c + 1 ∨ 60 < d
 ·have e : n3 300 60 d c (.mk k n r ks cs) = (true, c + 1) := by simp only [n3, if_pos hcut]
  rw [e, ← b4 (n := c + 1) (by omega) (by omega)];refine Y45 ?_;refine Y75 ?_;refine yB ?_;refine a6 [3, 4, 5] ?_;refine Y63 ?_;refine Y71 ?_;refine Y63 ?_;refine Y69 ?_;refine Y34 ?_;refine Y0 ?_;refine Cq ?_ ?_
  ·intro h0
   refine Y9 ?_;refine Rqz ?_;exact VImp.refl _
  ·intro h0;exfalso
   rw [b4 (by omega) (by omega)] at h0
   simp at h0
   omega
 ·obtain ⟨r1, hr1, hA⟩ := aA4 (by omega) (by omega)
  have hb1 := ai4 (mn := 300) (md := 60) ks (d + 1) (c + 1) (by omega)
  rw [bq3 d c k n r ks cs hcut]
  generalize n8 300 60 (d + 1) (c + 1) ks = q1 at hr1 hA hb1 ⊢
  obtain ⟨b1, c1⟩ := q1
  obtain ⟨hb1, _, hb2⟩ := hb1
  simp only at hr1 hA hb1 hb2 ⊢
  rw [← b4 (n := c + 1) (by omega) (by omega)] at hA
  have hC : b1 = false → ∃ r2 : Option Nat, r2.isSome = (r8 300 60 (d + 1) c1 cs).1 ∧ _ := fun e => keyC (by omega) c1 ⟨by omega, hb2 e⟩
  refine Y45 ?_;refine Y75 ?_;refine yB ?_;refine a6 [3, 4, 5] ?_;refine Y63 ?_;refine Y71 ?_;refine Y63 ?_;refine Y69 ?_;refine Y34 ?_;refine Y0 ?_;refine Cq ?_ ?_
  ·intro h0;exfalso
   rw [b4 (by omega) (by omega)] at h0
   simp at h0
   omega
  ·intro h0
   refine Tri.skip ?_;refine Y27 ?_;refine a8 SS 7 ?_;refine yS ?_;refine a6 [7] ?_;refine Y22 ?_;refine yL ?_;refine a9 (hr1 ▸ aJ6 (lo := 0) (.fn (.func 197) [] [.ptr 3 [] 201, .ptr 5 [] 3]) (by rw [a7]; omega) hA) ?_;refine Y11 ?_;refine q8 zG (H8 SS) ?_;refine I0 zG (f := 123) (args := [.pu (.sl 0 106 (C7 0 cs)), .fn (.func 198) [] [.ptr 3 [] 201, .ptr 5 [] 3, .ptr 7 [] 45]]) (HR := [(3, .var 201 (.ptr 90 [] 203)), (5, .var 3 (iv .i64 d)), (7, .var 45 (.fn (.func 197) [] [.ptr 3 [] 201, .ptr 5 [] 3]))]) (H := lgO c1) (H' := lgO (if b1 = true then c1 else (r8 300 60 (d + 1) c1 cs).2)) (v := bv (r8 300 60 (d + 1) c1 cs).1) (fun e => ?_) (fun e => ?_) ?_
   ·have e' : b1 = false := by simpa using e
    obtain ⟨r2, hr2, hA2⟩ := hC e'
    have := bk8 (lo := 0) (.fn (.func 198) [] [.ptr 3 [] 201, .ptr 5 [] 3, .ptr 7 [] 45]) (by rw [o5]; omega) hA2
    rw [hr2] at this
    simpa [e'] using this
   ·have e' : b1 = true := by simpa using e
    exact .cons rfl (by simp [e']) .nil
   refine yO ?_;refine Y2 ?_;refine Rqz ?_;exact VImp.refl _
end
section
variable {G : List (Nat × TypeId × Pu)}
abbrev grO (c : Int) : List (Nat × Ob) := [(91, .var 240 (.pu (.agg 240 [.leaf (.int .i64 c)])))]
theorem bZ9 (p : Pat) (d c : Int) (hd : 0 ≤ d ∧ d ≤ 200) (h : HCall Tryz.prog G 231 [.ptr 91 [] 240, .pu (A6 0 p), iv .i64 (d + 1)] [] (grO c) (bv (l4 3000 200 (d + 1) c p).1) (grO (l4 3000 200 (d + 1) c p).2) []) :
  HCall Tryz.prog G 245 [.pu (A6 0 p), .ptr 3 [] 238, .ptr 5 [] 3] [(3, .var 238 (.ptr 91 [] 240)), (5, .var 3 (iv .i64 d))] (grO c) (bv (l4 3000 200 (d + 1) c p).1) (grO (l4 3000 200 (d + 1) c p).2) [] := by
 refine HCall.of_triD tbl 10 [91, 3, 5] Tryz.func245 rfl rfl rfl fun w0 M ρ0 D0 => ?_
 refine yR ?_;refine o9 SS 31 ?_;refine yB ?_;refine a6 [31] ?_;refine Y43 ?_;refine yL ?_;refine yI ?_;refine a9 (h) ?_;refine Y2 ?_;refine Rqz ?_;exact VImp.refl _
theorem ce6 : ∀ (N : Nat) (p : Pat), k9 p ≤ N → N < 2^40 → ∀ (d c : Int), 0 ≤ c ∧ c ≤ 3000 → 0 ≤ d ∧ d ≤ 200 + 1 →
  HCall Tryz.prog G 231 [.ptr 91 [] 240, .pu (A6 0 p), iv .i64 d] [] (grO c) (bv (l4 3000 200 d c p).1) (grO (l4 3000 200 d c p).2) [] := by
 intro N
 induction N with
 | zero => intro p h; cases p; simp [k9] at h
 | succ N ih =>
 intro p hp hN d c hc hd
 obtain ⟨k, n, r, ks⟩ := p
 simp only [k9] at hp
 have hlen := o4 ks
 have key : 0 ≤ d ∧ d ≤ 200 → c + 1 ≤ 3000 → ∃ r, r.isSome = (x7 3000 200 (d + 1) (c + 1) ks).1 ∧ AnyC Tryz.prog G 245 [] [.ptr 3 [] 238, .ptr 5 [] 3] [(3, .var 238 (.ptr 91 [] 240)), (5, .var 3 (iv .i64 d))] (v6 0 ks) (grO (c + 1)) r (grO (x7 3000 200 (d + 1) (c + 1) ks).2) := fun hd' hc' => by
  rw [am0, A4];refine AnyC.state (A6 0) (l4 3000 200 (d + 1)) grO (fun c => 0 ≤ c ∧ c ≤ 3000) (fun _ => rfl) ks (fun a ha c hc => ?_) (c + 1) ⟨by omega, hc'⟩
  have hb := ad0 (mn := 3000) (md := 200) a (d + 1) c hc.2
  exact ⟨bZ9 a d c hd' (ih a (by have := aC2 ha; omega) (by omega) (d + 1) c hc (by omega)), fun e => ⟨by have := hb.1; omega, hb.2.2 e⟩⟩
 refine HCall.of_triD tbl 29 [91] Tryz.func231 rfl rfl rfl fun w0 M ρ0 D0 => ?_
 by_cases hcut : 3000 < c + 1 ∨ 200 < d
 ·have e : l4 3000 200 d c (.mk k n r ks) = (true, c + 1) := by simp only [l4, if_pos hcut]
  rw [e, ← b4 (n := c + 1) (by omega) (by omega)]
  have hb0 : (decide (IntKind.i64.wrap (c + 1) > 3000) || decide (d > 200)) = true := by rw [b4 (by omega) (by omega)]; simp; omega
  refine Y45 ?_;refine Y75 ?_;refine yB ?_;refine a6 [3, 4, 5] ?_;refine Y63 ?_;refine Y71 ?_;refine Y63 ?_;refine Y69 ?_;refine Y47 ?_;refine q8 zG (H8 SS) ?_;refine I0 zG (f := 120) (args := [.pu (.sl 0 104 (v6 0 ks)), .fn (.func 245) [] [.ptr 3 [] 238, .ptr 5 [] 3]]) (HR := []) (H := []) (H' := []) (v := bv false) (fun e => by simp [hb0] at e) (fun _ => .nil) ?_;refine yO ?_;refine Y2 ?_;refine Rqz ?_;exact l7 (by rw [hb0]; rfl)
 ·obtain ⟨r1, hr1, hA⟩ := key (by omega) (by omega)
  have e : l4 3000 200 d c (.mk k n r ks) = x7 3000 200 (d + 1) (c + 1) ks := by simp only [l4, if_neg hcut]
  have hb0 : (decide (IntKind.i64.wrap (c + 1) > 3000) || decide (d > 200)) = false := by rw [b4 (by omega) (by omega)]; simp; omega
  rw [e]
  generalize x7 3000 200 (d + 1) (c + 1) ks = q1 at hr1 hA ⊢
  obtain ⟨b1, c1⟩ := q1
  simp only at hr1 hA ⊢
  rw [← b4 (n := c + 1) (by omega) (by omega)] at hA
  refine Y45 ?_;refine Y75 ?_;refine yB ?_;refine a6 [3, 4, 5] ?_;refine Y63 ?_;refine Y71 ?_;refine Y63 ?_;refine Y69 ?_;refine Y47 ?_;refine q8 zG (H8 SS) ?_;refine I0 zG (f := 120) (args := [.pu (.sl 0 104 (v6 0 ks)), .fn (.func 245) [] [.ptr 3 [] 238, .ptr 5 [] 3]]) (HR := [(3, .var 238 (.ptr 91 [] 240)), (5, .var 3 (iv .i64 d))]) (H := grO (IntKind.i64.wrap (c + 1))) (H' := grO c1) (v := bv b1) (fun _ => hr1 ▸ aU4 (lo := 0) (.fn (.func 245) [] [.ptr 3 [] 238, .ptr 5 [] 3]) (by rw [j7]; omega) hA) (fun e => by simp [hb0] at e) ?_;refine yO ?_;refine Y2 ?_
  refine Rqz ?_;exact l7 (by rw [hb0]; rfl)
theorem bE3 (t : Tm) (d c : Int) (hd : 0 ≤ d ∧ d ≤ 200) (h : HCall Tryz.prog G 180 [.ptr 91 [] 240, .pu (tmc 0 t), iv .i64 (d + 1)] [] (grO c) (bv (n3 3000 200 (d + 1) c t).1) (grO (n3 3000 200 (d + 1) c t).2) []) :
  HCall Tryz.prog G 229 [.pu (tmc 0 t), .ptr 3 [] 238, .ptr 5 [] 3] [(3, .var 238 (.ptr 91 [] 240)), (5, .var 3 (iv .i64 d))] (grO c) (bv (n3 3000 200 (d + 1) c t).1) (grO (n3 3000 200 (d + 1) c t).2) [] := by
 refine HCall.of_triD tbl 10 [91, 3, 5] Tryz.func229 rfl rfl rfl fun w0 M ρ0 D0 => ?_
 refine yR ?_;refine o9 SS 31 ?_;refine yB ?_;refine a6 [31] ?_;refine Y43 ?_;refine yL ?_;refine yI ?_;refine a9 (h) ?_;refine Y2 ?_;refine Rqz ?_;exact VImp.refl _
theorem br9 (mn md d c : Int) (p : Pat) (t : Tm) : G1 mn md d c (.mk p t) = ((l4 mn md d c p).1 || (n3 mn md d (l4 mn md d c p).2 t).1, if (l4 mn md d c p).1 then (l4 mn md d c p).2 else (n3 mn md d (l4 mn md d c p).2 t).2) := by
 simp only [G1]
 rcases l4 mn md d c p with ⟨b, c'⟩
 cases b <;> simp
theorem bZ8 (p : Pat) (t : Tm) (d c : Int) (hd : 0 ≤ d ∧ d ≤ 200) (h : HCall Tryz.prog G 231 [.ptr 91 [] 240, .pu (A6 0 p), iv .i64 (d + 1)] [] (grO c) (bv (l4 3000 200 (d + 1) c p).1) (grO (l4 3000 200 (d + 1) c p).2) [])
  (h2 : (l4 3000 200 (d + 1) c p).1 = false → HCall Tryz.prog G 180 [.ptr 91 [] 240, .pu (tmc 0 t), iv .i64 (d + 1)] [] (grO (l4 3000 200 (d + 1) c p).2) (bv (n3 3000 200 (d + 1) (l4 3000 200 (d + 1) c p).2 t).1) (grO (n3 3000 200 (d + 1) (l4 3000 200 (d + 1) c p).2 t).2) []) :
  HCall Tryz.prog G 230 [.pu (M6 0 (.mk p t)), .ptr 3 [] 238, .ptr 5 [] 3, .ptr 7 [] 45] [(3, .var 238 (.ptr 91 [] 240)), (5, .var 3 (iv .i64 d)), (7, .var 45 (.fn (.func 229) [] [.ptr 3 [] 238, .ptr 5 [] 3]))] (grO c) (bv (G1 3000 200 (d + 1) c (.mk p t)).1) (grO (G1 3000 200 (d + 1) c (.mk p t)).2) [] := by
 have h2' := fun e => (bE3 t d _ hd (h2 e)).more (HR' := [(3, .var 238 (.ptr 91 [] 240)), (5, .var 3 (iv .i64 d)), (7, .var 45 (.fn (.func 229) [] [.ptr 3 [] 238, .ptr 5 [] 3]))]) (fun l ob hl => (SubH.cons rfl rfl (.cons rfl rfl .nil) : SubH [(3, .var 238 (.ptr 91 [] 240)), (5, .var 3 (iv .i64 d)), (7, .var 45 (.fn (.func 229) [] [.ptr 3 [] 238, .ptr 5 [] 3]))] [(3, .var 238 (.ptr 91 [] 240)), (5, .var 3 (iv .i64 d))]).le l ob hl) rfl
 rw [br9]
 generalize hb1 : l4 3000 200 (d + 1) c p = r1 at h2' ⊢
 obtain ⟨b1, c1⟩ := r1
 simp only at h2' ⊢
 refine HCall.of_triD tbl 18 [91, 3, 5, 7] Tryz.func230 rfl rfl rfl fun w0 M ρ0 D0 => ?_
 rw [hb1] at h
 refine yR ?_;refine o9 SS 41 ?_;refine yB ?_;refine a6 [41] ?_;refine Y5 ?_;refine Y3 ?_;refine yL ?_;refine yI ?_;refine a9 (h) ?_;refine Y69 ?_;refine Y7 ?_;refine I0 zG (f := 229) (args := [.pu (tmc 0 t), .ptr 3 [] 238, .ptr 5 [] 3]) (HR := [(3, .var 238 (.ptr 91 [] 240)), (5, .var 3 (iv .i64 d)), (7, .var 45 (.fn (.func 229) [] [.ptr 3 [] 238, .ptr 5 [] 3]))]) (H := grO c1) (H' := grO (if b1 = true then c1 else (n3 3000 200 (d + 1) c1 t).2)) (v := bv (n3 3000 200 (d + 1) c1 t).1) (fun e => ?_) (fun e => ?_) ?_
 ·have e' : b1 = false := by simpa using e
  have := h2' e'
  simpa [e'] using this
 ·have e' : b1 = true := by simpa using e
  exact .cons rfl (by simp [e']) .nil
 refine yO ?_;refine Y2 ?_;refine Rqz ?_;exact VImp.refl _
theorem br8 (d c k n : Int) (r : List Int) (ks : List Tm) (cs : List Cs) (h : ¬ (3000 < c + 1 ∨ 200 < d)) : n3 3000 200 d c (.mk k n r ks cs) = ((n8 3000 200 (d + 1) (c + 1) ks).1 || (r8 3000 200 (d + 1) (n8 3000 200 (d + 1) (c + 1) ks).2 cs).1, if (n8 3000 200 (d + 1) (c + 1) ks).1 then (n8 3000 200 (d + 1) (c + 1) ks).2 else (r8 3000 200 (d + 1) (n8 3000 200 (d + 1) (c + 1) ks).2 cs).2) := by
 simp only [n3, if_neg h]
 rcases n8 3000 200 (d + 1) (c + 1) ks with ⟨b, c'⟩
 cases b <;> simp
theorem ce5 : ∀ (N : Nat) (t : Tm), a5 t ≤ N → N < 2^40 → ∀ (d c : Int), 0 ≤ c ∧ c ≤ 3000 → 0 ≤ d ∧ d ≤ 200 + 1 →
  HCall Tryz.prog G 180 [.ptr 91 [] 240, .pu (tmc 0 t), iv .i64 d] [] (grO c) (bv (n3 3000 200 d c t).1) (grO (n3 3000 200 d c t).2) [] := by
 intro N
 induction N with
 | zero => intro t h; have := r9 t; omega
 | succ N ih =>
 intro t hp hN d c hc hd
 obtain ⟨k, n, r, ks, cs⟩ := t
 simp only [a5] at hp
 have hlen := l8 ks
 have hlenc := s6 cs
 have aA4 : 0 ≤ d ∧ d ≤ 200 → c + 1 ≤ 3000 → ∃ r, r.isSome = (n8 3000 200 (d + 1) (c + 1) ks).1 ∧ AnyC Tryz.prog G 229 [] [.ptr 3 [] 238, .ptr 5 [] 3] [(3, .var 238 (.ptr 91 [] 240)), (5, .var 3 (iv .i64 d))] (l5 0 ks) (grO (c + 1)) r (grO (n8 3000 200 (d + 1) (c + 1) ks).2) := fun hd' hc' => by
  rw [al9, o8];refine AnyC.state (tmc 0) (n3 3000 200 (d + 1)) grO (fun c => 0 ≤ c ∧ c ≤ 3000) (fun _ => rfl) ks (fun a ha c hc => ?_) (c + 1) ⟨by omega, hc'⟩
  have hb := ai5 (mn := 3000) (md := 200) a (d + 1) c hc.2
  exact ⟨bE3 a d c hd' (ih a (by have := w8 ha; omega) (by omega) (d + 1) c hc (by omega)), fun e => ⟨by have := hb.1; omega, hb.2.2 e⟩⟩
 have keyC : 0 ≤ d ∧ d ≤ 200 → ∀ c1, 0 ≤ c1 ∧ c1 ≤ 3000 → ∃ r, r.isSome = (r8 3000 200 (d + 1) c1 cs).1 ∧ AnyC Tryz.prog G 230 [] [.ptr 3 [] 238, .ptr 5 [] 3, .ptr 7 [] 45] [(3, .var 238 (.ptr 91 [] 240)), (5, .var 3 (iv .i64 d)), (7, .var 45 (.fn (.func 229) [] [.ptr 3 [] 238, .ptr 5 [] 3]))] (C7 0 cs) (grO c1) r (grO (r8 3000 200 (d + 1) c1 cs).2) := fun hd' c1 hc1 => by
  rw [am1, R8];refine AnyC.state (M6 0) (G1 3000 200 (d + 1)) grO (fun c => 0 ≤ c ∧ c ≤ 3000) (fun _ => rfl) cs (fun a ha c hc => ?_) c1 hc1
  have hb := aH5 (mn := 3000) (md := 200) a (d + 1) c hc.2
  have hsz := L0 ha
  obtain ⟨q, b⟩ := a
  simp only [u7] at hsz
  have hp1 := ad0 (mn := 3000) (md := 200) q (d + 1) c hc.2
  have htp := r9 b
  exact ⟨bZ8 q b d c hd' (ce6 _ q (Nat.le_refl _) (by omega) (d + 1) c hc (by omega)) (fun e => ih b (by omega) (by omega) (d + 1) _ ⟨by have := hp1.1; omega, hp1.2.2 e⟩ (by omega)), fun e => ⟨by have := hb.1; omega, hb.2.2 e⟩⟩
 refine HCall.of_triD tbl 37 [91] Tryz.func180 rfl rfl rfl fun w0 M ρ0 D0 => ?_
 by_cases hcut : 3000 < c + 1 ∨ 200 < d
 ·have e : n3 3000 200 d c (.mk k n r ks cs) = (true, c + 1) := by simp only [n3, if_pos hcut]
  rw [e, ← b4 (n := c + 1) (by omega) (by omega)]
  have hb0 : (decide (IntKind.i64.wrap (c + 1) > 3000) || decide (d > 200)) = true := by rw [b4 (by omega) (by omega)]; simp; omega
  refine Y45 ?_;refine Y75 ?_;refine yB ?_;refine a6 [3, 4, 5] ?_;refine Y63 ?_;refine Y71 ?_;refine Y27 ?_;refine a8 SS 7 ?_;refine yS ?_;refine a6 [7] ?_;refine Y63 ?_;refine Y69 ?_;refine Y47 ?_;refine xL ?_;refine I0 zG (f := 122) (args := [.pu (.sl 0 32 (l5 0 ks)), .fn (.func 229) [] [.ptr 3 [] 238, .ptr 5 [] 3]]) (HR := []) (H := []) (H' := []) (v := bv false) (fun e => by simp [hb0] at e) (fun _ => .nil) ?_;refine yO ?_;refine Y11 ?_;refine q8 zG (H8 SS) ?_
  refine I0 zG (f := 123) (args := [.pu (.sl 0 106 (C7 0 cs)), .fn (.func 230) [] [.ptr 3 [] 238, .ptr 5 [] 3, .ptr 7 [] 45]]) (HR := []) (H := []) (H' := []) (v := bv false) (fun e => by simp [hb0] at e) (fun _ => .nil) ?_;refine yO ?_;refine Y2 ?_;refine Rqz ?_;exact l7 (by rw [hb0]; rfl)
 ·obtain ⟨r1, hr1, hA⟩ := aA4 (by omega) (by omega)
  have hb1 := ai4 (mn := 3000) (md := 200) ks (d + 1) (c + 1) (by omega)
  have hb0 : (decide (IntKind.i64.wrap (c + 1) > 3000) || decide (d > 200)) = false := by rw [b4 (by omega) (by omega)]; simp; omega
  rw [br8 d c k n r ks cs hcut]
  generalize n8 3000 200 (d + 1) (c + 1) ks = q1 at hr1 hA hb1 ⊢
  obtain ⟨b1, c1⟩ := q1
  obtain ⟨hb1, _, hb2⟩ := hb1
  simp only at hr1 hA hb1 hb2 ⊢
  rw [← b4 (n := c + 1) (by omega) (by omega)] at hA
  have hC : b1 = false → ∃ r2 : Option Nat, r2.isSome = (r8 3000 200 (d + 1) c1 cs).1 ∧ _ := fun e => keyC (by omega) c1 ⟨by omega, hb2 e⟩
  refine Y45 ?_;refine Y75 ?_;refine yB ?_;refine a6 [3, 4, 5] ?_;refine Y63 ?_;refine Y71 ?_;refine Y27 ?_;refine a8 SS 7 ?_;refine yS ?_;refine a6 [7] ?_;refine Y63 ?_;refine Y69 ?_;refine Y47 ?_;refine xL ?_;refine I0 zG (f := 122) (args := [.pu (.sl 0 32 (l5 0 ks)), .fn (.func 229) [] [.ptr 3 [] 238, .ptr 5 [] 3]]) (HR := [(3, .var 238 (.ptr 91 [] 240)), (5, .var 3 (iv .i64 d))]) (H := grO (IntKind.i64.wrap (c + 1))) (H' := grO c1) (v := bv b1) (fun _ => hr1 ▸ aJ6 (lo := 0) (.fn (.func 229) [] [.ptr 3 [] 238, .ptr 5 [] 3]) (by rw [a7]; omega) hA) (fun e => by simp [hb0] at e) ?_
  refine yO ?_;refine Y11 ?_;refine q8 zG (H8 SS) ?_;refine I0 zG (f := 123) (args := [.pu (.sl 0 106 (C7 0 cs)), .fn (.func 230) [] [.ptr 3 [] 238, .ptr 5 [] 3, .ptr 7 [] 45]]) (HR := [(3, .var 238 (.ptr 91 [] 240)), (5, .var 3 (iv .i64 d)), (7, .var 45 (.fn (.func 229) [] [.ptr 3 [] 238, .ptr 5 [] 3]))]) (H := grO c1) (H' := grO (if b1 = true then c1 else (r8 3000 200 (d + 1) c1 cs).2)) (v := bv (r8 3000 200 (d + 1) c1 cs).1) (fun e => ?_) (fun e => ?_) ?_
  ·have e' : b1 = false := by rw [hb0] at e; simpa using e
   obtain ⟨r2, hr2, hA2⟩ := hC e'
   have := bk8 (lo := 0) (.fn (.func 230) [] [.ptr 3 [] 238, .ptr 5 [] 3, .ptr 7 [] 45]) (by rw [o5]; omega) hA2
   rw [hr2] at this
   simpa [e'] using this
  ·have e' : b1 = true := by rw [hb0] at e; simpa using e
   exact .cons rfl (by simp [e']) .nil
  refine yO ?_;refine Y2 ?_;refine Rqz ?_;exact l7 (by rw [hb0]; rfl)
end
section
variable {G : List (Nat × TypeId × Pu)}
def B9 (n lo hi : Int) : Bool := decide (n < lo) || decide (n > hi)
theorem O5 (n lo hi : Int) : FCall Tryz.prog G 235 [iv .i64 n, iv .i64 lo, iv .i64 hi] (bv (B9 n lo hi)) := by
 refine Fq 15 Tryz.func235 ?_;intro w0 M ρ0 D0
 refine Y20 ?_;refine Y32 ?_;refine yI ?_;refine Y28 ?_;refine xM ?_;refine Y34 ?_;refine Y2 ?_;refine Rq ?_;exact VImp.refl _
def y8 (k : Int) : Bool := k == 1 || k == 2 || k == 7 || k == 10 || k == 8 || k == 11
def C9 (k : Int) : Bool := k == 8 || k == 11 || k == 6 || k == 12
def x4 (k : Int) : Bool := k == 9
def flP (a b c : Bool) : Pu := .agg 278 [.leaf (.bool a), .leaf (.bool b), .leaf (.bool c)]
theorem ab1 {a b c a' b' c' : Bool} {P : Program} (h1 : a = a') (h2 : b = b') (h3 : c = c') : VImp P (.pu (flP a b c)) (.pu (flP a' b' c')) := by rw [h1, h2, h3]; exact VImp.refl _
instance (a b c : Bool) : TyV Tryz.prog 278 (.pu (flP a b c)) := inferInstanceAs (TyV Tryz.prog 278 (.pu (.agg _ _)))
theorem bF0 (k : Int) : FCall Tryz.prog G 237 [iv .i64 k] (.pu (flP (y8 k) (C9 k) (x4 k))) := by
 refine Fq 24 Tryz.func237 ?_;intro w0 M ρ0 D0
 refine yR ?_;refine a8 SS 2 ?_;refine a6 [2] ?_;refine yR ?_;refine a8 SS 3 ?_;refine a6 [3] ?_;refine Y1 ?_;refine Y0 ?_;refine Tri.block ?_;refine Y16 ?_;refine Tri.cutT ⟨[(2, .ptr 2 [] 278), (3, .ptr 3 [] 278), (4, iv .i64 k), (5, bv (k == 1 || k == 2 || k == 7 || k == 10))], [(2, .var 278 (.pu (flP false false false))), (3, .var 278 (.pu (flP false false false)))]⟩ ?_ ?_
 ·skip
  refine tQ ?_;refine Cq ?_ ?_
  ·intro h0
   refine Tri.skip ?_;refine k7 ?_ ?_
   ·exact zk0
   ·exact zk1
  ·intro h0
   refine Y16 ?_;refine Cq ?_ ?_
   ·intro h1
    refine Tri.skip ?_;refine k7 ?_ ?_
    ·exact zk0
    ·exact zk1
   ·intro h1
    refine Y16 ?_;refine Cq ?_ ?_
    ·intro h2
     refine Tri.skip ?_;refine k7 ?_ ?_
     ·exact zk0
     ·exact zk1
    ·intro h2
     refine Y4 ?_;refine Y12 ?_;refine k7 ?_ ?_
     ·exact zk0
     ·exact zk1
 ·skip
  refine tQ ?_;refine Cq ?_ ?_
  ·intro h3
   refine yR ?_;refine b5 (ae4 SS) ?_;refine Y17 ?_;refine Y61 ?_;refine Rc ?_;exact ab1 (by simp_all [y8]; try omega) (by simp_all [C9]; try omega) (by simp_all [x4]; try omega)
  ·intro h3
   refine Y16 ?_;refine Tri.cutT ⟨[(2, .ptr 2 [] 278), (3, .ptr 3 [] 278), (4, iv .i64 k), (11, bv (k == 8 || k == 11))], [(2, .var 278 (.pu (flP false false false))), (3, .var 278 (.pu (flP false false false)))]⟩ ?_ ?_
   ·skip
    refine tQ ?_;refine Cq ?_ ?_
    ·intro h4
     refine Tri.skip ?_;refine k7 ?_ ?_
     ·exact zk0
     ·exact zk1
    ·intro h4
     refine Y4 ?_;refine Y12 ?_;refine k7 ?_ ?_
     ·exact zk0
     ·exact zk1
   ·skip
    refine tQ ?_;refine Cq ?_ ?_
    ·intro h5
     refine yR ?_;refine b5 (ae4 SS) ?_;refine yS ?_;refine b5 (ae4 SS) ?_;refine Y17 ?_;refine Y61 ?_;refine Rc ?_;exact ab1 (by simp_all [y8]; try omega) (by simp_all [C9]; try omega) (by simp_all [x4]; try omega)
    ·intro h5
     refine Y16 ?_;refine Tri.cutT ⟨[(2, .ptr 2 [] 278), (3, .ptr 3 [] 278), (4, iv .i64 k), (16, bv (k == 6 || k == 12))], [(2, .var 278 (.pu (flP false false false))), (3, .var 278 (.pu (flP false false false)))]⟩ ?_ ?_
     ·skip
      refine tQ ?_;refine Cq ?_ ?_
      ·intro h6
       refine Tri.skip ?_;refine k7 ?_ ?_
       ·exact zk0
       ·exact zk1
      ·intro h6
       refine Y4 ?_;refine Y12 ?_;refine k7 ?_ ?_
       ·exact zk0
       ·exact zk1
     ·skip
      refine tQ ?_;refine Cq ?_ ?_
      ·intro h7
       refine yR ?_;refine b5 (ae4 SS) ?_;refine Y17 ?_;refine Y61 ?_;refine Rc ?_;exact ab1 (by simp_all [y8]; try omega) (by simp_all [C9]; try omega) (by simp_all [x4]; try omega)
      ·intro h7
       refine Y16 ?_;refine Cq ?_ ?_
       ·intro h8
        refine yR ?_;refine b5 (ae4 SS) ?_;refine Y17 ?_;refine Y61 ?_;refine Rc ?_;exact ab1 (by simp_all [y8]; try omega) (by simp_all [C9]; try omega) (by simp_all [x4]; try omega)
       ·intro h8
        refine Tri.skip ?_;refine Y61 ?_;refine Rc ?_;exact ab1 (by simp_all [y8]; try omega) (by simp_all [C9]; try omega) (by simp_all [x4]; try omega)
end
section
variable {G : List (Nat × TypeId × Pu)}
theorem ap2 (k : Int) : FCall Tryz.prog G 247 [iv .i64 k] (.pu (flP (k == 2 || k == 3) (k == 3) false)) := by
 refine Fq 11 Tryz.func247 ?_;intro w0 M ρ0 D0
 refine yR ?_;refine a8 SS 2 ?_;refine a6 [2] ?_;refine Y1 ?_;refine Y0 ?_;refine Tri.block ?_;refine Y16 ?_;refine Cq ?_ ?_
 ·intro h0
  refine yR ?_;refine Y49 ?_;refine Rc ?_;exact ab1 (by simp_all) (by simp_all) rfl
 ·intro h0
  refine Y16 ?_;refine Cq ?_ ?_
  ·intro h1
   refine yR ?_;refine Y49 ?_;refine Rc ?_;exact ab1 (by simp_all) (by simp_all) rfl
  ·intro h1
   refine Tri.skip ?_;refine yR ?_;refine yT ?_;refine Y10 ?_;refine Rc ?_;exact ab1 (by simp_all) (by simp_all) rfl
def s8 (k n : Int) : Bool := if k == 3 || k == 9 || k == 11 then n == 1 else if k == 4 || k == 5 || k == 10 then n == 2 else if k == 8 then decide (n ≤ 4) else if k == 12 then !B9 n 2 10 else n == 0
theorem bZ7 (k n : Int) : FCall Tryz.prog G 238 [iv .i64 k, iv .i64 n] (bv (s8 k n)) := by
 refine Fq 29 Tryz.func238 ?_;intro w0 M ρ0 D0
 refine Y48 ?_;refine Y0 ?_;refine Tri.block ?_;refine Y16 ?_;refine Tri.cutT ⟨[(1, iv .i64 n), (5, iv .i64 k), (6, bv (k == 3 || k == 9 || k == 11))], []⟩ ?_ ?_
 ·skip
  refine tQ ?_;refine Cq ?_ ?_
  ·intro h0
   refine Tri.skip ?_;refine k7 ?_ ?_
   ·exact zk0
   ·exact zk1
  ·intro h0
   refine Y16 ?_;refine Cq ?_ ?_
   ·intro h1
    refine Tri.skip ?_;refine k7 ?_ ?_
    ·exact zk0
    ·exact zk1
   ·intro h1
    refine Y4 ?_;refine Y12 ?_;refine k7 ?_ ?_
    ·exact zk0
    ·exact zk1
 ·skip
  refine tQ ?_;refine Cq ?_ ?_
  ·intro h2
   refine Y46 ?_;refine Rq ?_;exact l7 (by simp_all [s8])
  ·intro h2
   refine Y16 ?_;refine Tri.cutT ⟨[(1, iv .i64 n), (5, iv .i64 k), (12, bv (k == 4 || k == 5 || k == 10))], []⟩ ?_ ?_
   ·skip
    refine tQ ?_;refine Cq ?_ ?_
    ·intro h3
     refine Tri.skip ?_;refine k7 ?_ ?_
     ·exact zk0
     ·exact zk1
    ·intro h3
     refine Y16 ?_;refine Cq ?_ ?_
     ·intro h4
      refine Tri.skip ?_;refine k7 ?_ ?_
      ·exact zk0
      ·exact zk1
     ·intro h4
      refine Y4 ?_;refine Y12 ?_;refine k7 ?_ ?_
      ·exact zk0
      ·exact zk1
   ·skip
    refine tQ ?_;refine Cq ?_ ?_
    ·intro h5
     refine Y46 ?_;refine Rq ?_;exact l7 (by simp_all [s8])
    ·intro h5
     refine Y16 ?_;refine Cq ?_ ?_
     ·intro h6
      refine Y46 ?_;refine Rq ?_;exact l7 (by simp_all [s8])
     ·intro h6
      refine Y16 ?_;refine Cq ?_ ?_
      ·intro h7
       refine Y1 ?_;refine Dq (O5 n 2 10) ?_;refine yQ ?_;refine Y2 ?_;refine Rq ?_;exact l7 (by simp_all [s8])
      ·intro h7
       refine Tri.skip ?_;refine Y46 ?_;refine Rq ?_;exact l7 (by simp_all [s8])
def u5 (a b c : Bool) (num : Int) (ref : List Int) (cases : Int) : Bool := (num != 0 && !a) || (!(ref == Z32) && !b) || (decide (cases > 0) && !c)
theorem bs0 (a b c a' b' c' : Bool) : Tryz.prog.eqGuardType Tryz.prog.depth 278 = false ∧ 278 < Tryz.prog.types.size ∧ tyP Tryz.prog 278 (flP a b c) = true ∧ tyP Tryz.prog 278 (flP a' b' c') = true :=
 ⟨by kernel_rfl, of_decide_eq_true (by kernel_rfl), (show tyV Tryz.prog 278 (.pu (flP a b c)) = true from TyV.ok), (show tyV Tryz.prog 278 (.pu (flP a' b' c')) = true from TyV.ok)⟩
theorem bA0 (d : Nat) (a b c a' b' c' : Bool) : peqT Tryz.prog (d + 2) 278 (flP a b c) (flP a' b' c') = some ((a == a') && ((b == b') && ((c == c') && true))) := by
 have hu : Tryz.prog.underlying 278 = some (.array 3 4) := by kernel_rfl
 have hb : Tryz.prog.underlying 4 = some .bool := by kernel_rfl
 unfold flP
 simp only [peqT, hu, aA3, hb]
theorem bR9 (a b c a' b' c' : Bool) : R9 Tryz.prog .neq 278 (.pu (flP a b c)) (.pu (flP a' b' c')) = some (bv (!((a == a') && ((b == b') && ((c == c') && true))))) := by
 have h1 := bs0 a b c a' b' c'
 have h2 := fun e => bA0 e a b c a' b' c'
 unfold flP at h1 h2 ⊢
 simp only [R9, if_pos h1]
 generalize hd : (100 : Nat) = d
 obtain ⟨e, rfl⟩ : ∃ e, d = e + 2 := ⟨98, by omega⟩
 rw [h2 e]
theorem bk9 (a b c : Bool) (num : Int) (ref : List Int) (cases : Int) : FCall Tryz.prog G 236 [.pu (flP a b c), iv .i64 num, .pu (f5 ref), iv .i64 cases] (bv (u5 a b c num ref cases)) := by
 refine Fq 38 Tryz.func236 ?_;intro w0 M ρ0 D0
 refine Tri.fact (i := 2) rfl (fun D w x h => U7 h) (fun hr => ?_);refine yR ?_;refine o9 SS 4 ?_;refine o9 SS 6 ?_;refine yB ?_;refine a6 [4, 6] ?_;refine Y15 ?_;refine yL ?_;refine yT ?_;refine b5 (z7 SS (h := aJ8 (by rw [hr]; rfl))) ?_;refine yM ?_;refine yI ?_;refine yP ?_;refine a8 SS 9 ?_;refine yS ?_;refine a6 [9] ?_;refine Y5 ?_;refine a8 SS 10 ?_;refine yS ?_;refine a6 [10] ?_;refine yR ?_;refine Y31 ?_
 refine Tri.block (Tri.loopW (σ := Nat) (fun i => ⟨[(4, .ptr 4 [] 278), (9, .ptr 9 [] 278), (10, .ptr 10 [] 278), (21, iv .i64 i)], [(4, .var 278 (.pu (flP a b c))), (9, .var 278 (.pu (flP (num != 0) (!(ref == Z32)) (decide (cases > 0))))), (10, .var 278 (.pu (flP (if 0 < i then num != 0 && a else num != 0) (if 1 < i then !(ref == Z32) && b else !(ref == Z32)) (if 2 < i then decide (cases > 0) && c else decide (cases > 0)))))]⟩) (fun i => 3 - i) 0 ?_ ?_ (fun i => ?_))
 ·exact zW
 ·exact zW
 refine Y30 ?_;refine Cq ?_ ?_
 ·intro h0
  have hi : i < 3 := by have := of_decide_eq_true h0; omega
  obtain ⟨j, hj⟩ : ∃ j, j = i + 1 := ⟨_, rfl⟩
  obtain rfl | rfl | rfl : i = 0 ∨ i = 1 ∨ i = 2 := by omega
  all_goals
   refine Y57 ?_;refine Y12 ?_;refine Y32 ?_;refine b5 (ae4 SS) ?_;refine yL ?_;refine Y28 ?_;refine q8 zG (ae4 SS) ?_;refine xL ?_;refine yN ?_;refine b5 (ae4 SS) ?_;refine Y17 ?_;refine Y25 ?_
   refine ⟨j, by omega, k7 ?_ ?_⟩
   ·repeat (first | exact SubE.nil | refine SubE.cons rfl (by first | rfl | (rw [b4 (by omega) (by omega)]; rfl) | (subst hj; rfl)) ?_)
   ·repeat (first | exact SubH.nil | refine SubH.cons rfl (by first | rfl | (rw [b4 (by omega) (by omega)]; rfl) | (subst hj; rfl)) ?_)
 ·intro h0
  have hi : 3 ≤ i := by have := of_decide_eq_false h0; omega
  refine Tri.exit ?_;refine Y43 ?_;refine b5 (z7 SS (h := bR9 _ _ _ _ _ _)) ?_;refine Y2 ?_;refine Rq ?_;exact l7 (by rw [if_pos (by omega), if_pos (by omega), if_pos (by omega)]; unfold u5; generalize (num != 0) = p; generalize (ref == Z32) = q; generalize decide (cases > 0) = s; cases p <;> cases q <;> cases s <;> cases a <;> cases b <;> cases c <;> rfl)
def C6 (k num : Int) (ref : List Int) (n : Int) : Int :=
 if B9 k 1 3 then 3 else if u5 (k == 2 || k == 3) (k == 3) false num ref 0 then 7 else if decide (n > (if k == 3 then 4 else 0)) then 2
 else if (k == 2 && B9 num 0 1073741824) || (k == 3 && B9 num 0 7) then 3 else 0
theorem av1 (k n : Int) (r : List Int) (ks : List Pat) : FCall Tryz.prog G 239 [.pu (A6 0 (.mk k n r ks))] (iv .i64 (C6 k n r ks.length)) := by
 refine Fq 43 Tryz.func239 ?_;intro w0 M ρ0 D0
 refine Y44 ?_;refine yB ?_;refine a6 [1] ?_;refine Y20 ?_;refine Y37 ?_;refine Y0 ?_;refine Tri.cutT ⟨[(1, .ptr 1 [] 104), (3, iv .i64 (if k == 3 then 4 else 0))], [(1, .var 104 (.pu (A6 0 (.mk k n r ks))))]⟩ ?_ ?_
 ·skip
  refine tQ ?_;refine Cq ?_ ?_
  ·intro h0
   refine Y20 ?_;refine k7 ?_ ?_
   ·repeat (first | exact SubE.nil | refine SubE.cons rfl (by first | rfl | (rw [b4 (by omega) (by omega)]; rfl) | (rw [h0]; rfl)) ?_)
   ·repeat (first | exact SubH.nil | refine SubH.cons rfl (by first | rfl | (rw [b4 (by omega) (by omega)]; rfl) | (rw [h0]; rfl)) ?_)
  ·intro h0
   refine Tri.skip ?_;refine k7 ?_ ?_
   ·repeat (first | exact SubE.nil | refine SubE.cons rfl (by first | rfl | (rw [b4 (by omega) (by omega)]; rfl) | (rw [h0]; rfl)) ?_)
   ·repeat (first | exact SubH.nil | refine SubH.cons rfl (by first | rfl | (rw [b4 (by omega) (by omega)]; rfl) | (rw [h0]; rfl)) ?_)
 ·skip
  refine Y77 ?_;refine Y14 ?_;refine Dq (O5 k 1 3) ?_;refine Y2 ?_;refine Cq ?_ ?_
  ·intro h1
   refine Y9 ?_;refine Rq ?_;exact d4 (by (try rw [j7] at h3); unfold C6; (repeat' split) <;> simp_all <;> omega)
  ·intro h1
   refine Y14 ?_;refine Dq (ap2 k) ?_;refine Y3 ?_;refine Y3 ?_;refine Dq (bk9 (k == 2 || k == 3) (k == 3) false n r 0) ?_;refine yA ?_;refine Y23 ?_;refine Cq ?_ ?_
   ·intro h2
    refine Y9 ?_;refine Rq ?_;exact d4 (by (try rw [j7] at h3); unfold C6; (repeat' split) <;> simp_all <;> omega)
   ·intro h2
    refine Y22 ?_;refine yC ?_;refine yM ?_;refine yI ?_;refine Y2 ?_;refine Cq ?_ ?_
    ·intro h3
     refine Y9 ?_;refine Rq ?_;exact d4 (by (try rw [j7] at h3); unfold C6; (repeat' split) <;> simp_all <;> omega)
    ·intro h3
     refine Y78 ?_;refine q8 zG (o6 (fun _ => O5 n 0 1073741824)) ?_;refine yN ?_;refine Y2 ?_;refine Cq ?_ ?_
     ·intro h4
      refine Y18 ?_;refine Cq ?_ ?_
      ·intro h5
       refine Y9 ?_;refine Rq ?_;exact d4 (by (try rw [j7] at h3); unfold C6; (repeat' split) <;> simp_all <;> omega)
      ·intro h5
       refine Y50 ?_;refine Rq ?_;exact d4 (by (try rw [j7] at h3); unfold C6; (repeat' split) <;> simp_all <;> omega)
     ·intro h4
      refine Y78 ?_;refine q8 zG (o6 (fun _ => O5 n 0 7)) ?_;refine yN ?_;refine Y2 ?_;refine Cq ?_ ?_
      ·intro h5
       refine Y9 ?_;refine Rq ?_;exact d4 (by (try rw [j7] at h3); unfold C6; (repeat' split) <;> simp_all <;> omega)
      ·intro h5
       refine Y50 ?_;refine Rq ?_;exact d4 (by (try rw [j7] at h3); unfold C6; (repeat' split) <;> simp_all <;> omega)
end
section
variable {G : List (Nat × TypeId × Pu)}
def m9 {α : Type} (f : α → Int) : List α → Int
 | [] => 0
 | a :: l => if f a = 0 then m9 f l else f a
theorem G2 {α : Type} (f : α → Int) : ∀ {l : List α} {i : Nat} (h : i < l.length), m9 f (l.take (i + 1)) = if m9 f (l.take i) = 0 then f l[i] else m9 f (l.take i)
 | a :: l, 0, _ => by
  simp only [List.take_zero, List.take_succ_cons, m9, List.getElem_cons_zero, if_true]
  split <;> simp_all
 | a :: l, i + 1, h => by
  have ih := G2 f (l := l) (i := i) (by simpa using h)
  simp only [List.take_succ_cons, m9, List.getElem_cons_succ]
  split
  ·exact ih
  ·rfl
theorem V8 {α : Type} (f : α → Int) : ∀ {l : List α} {i : Nat}, m9 f (l.take i) ≠ 0 → m9 f l = m9 f (l.take i)
 | [], i, h => by simp [m9] at h
 | a :: l, 0, h => by simp [m9] at h
 | a :: l, i + 1, h => by
  simp only [List.take_succ_cons, m9] at h ⊢
  split
  ·rename_i h0
   rw [if_pos h0] at h
   exact V8 f h
  ·rfl
mutual
def E9 : Pat → Int
 | .mk k n r ks => if C6 k n r ks.length = 0 then W9 ks else C6 k n r ks.length
def W9 : List Pat → Int
 | [] => 0
 | p :: ps => if E9 p = 0 then W9 ps else E9 p
end
theorem au9 : ∀ ks, W9 ks = m9 E9 ks
 | [] => rfl
 | p :: ps => by simp only [W9, m9, au9 ps]
theorem wk0 (x : Int) (ks : List Pat) : Wk (iv .i64 x) (iv .i64 (if x = 0 then m9 E9 (ks.take 0) else x)) := by
 have e : (if x = 0 then m9 E9 (ks.take 0) else x) = x := by split <;> simp_all [m9]
 rw [e];exact .refl
theorem ap1 : ∀ (N : Nat) (p : Pat), k9 p ≤ N → N < 2^40 → FCall Tryz.prog G 201 [.pu (A6 0 p)] (iv .i64 (E9 p)) := by
 intro N
 induction N with
 | zero => intro p h; cases p; simp [k9] at h
 | succ N ih =>
 intro p hp hN
 obtain ⟨k, n, r, ks⟩ := p
 simp only [k9] at hp
 have hlen := o4 ks
 refine Fq 25 Tryz.func201 ?_;intro w0 M ρ0 D0
 refine Y44 ?_;refine yB ?_;refine a6 [1] ?_;refine Y5 ?_;refine Dq (av1 k n r ks) ?_;refine Y12 ?_;refine Y9 ?_;refine Tri.block (Tri.loopW (σ := Nat) (fun i => ⟨[(1, .ptr 1 [] 104), (4, iv .i64 i), (3, iv .i64 (if C6 k n r ks.length = 0 then m9 E9 (ks.take i) else C6 k n r ks.length))], [(1, .var 104 (.pu (A6 0 (.mk k n r ks))))]⟩) (fun i => ks.length - i) 0 ?_ ?_ (fun i => ?_))
 ·repeat (first | exact .nil | refine .cons rfl (by first | exact .refl | (focus ((repeat constructor); done)) | (exact wk0 _ _)) ?_)
 ·repeat (first | exact .nil | refine .cons rfl (by first | exact .refl | (focus ((repeat constructor); done)) | (exact wk0 _ _)) ?_)
 refine Y1 ?_;refine Y64 ?_;refine yI ?_;refine Y41 ?_;refine Y0 ?_;refine Cq ?_ ?_
 ·intro h0
  simp only [Bool.and_eq_true, decide_eq_true_eq, beq_iff_eq] at h0
  obtain ⟨h0, he⟩ := h0
  have hi : i < ks.length := by rw [j7] at h0; omega
  have he0 : C6 k n r ks.length = 0 := by split at he <;> simp_all
  rw [if_pos he0] at he
  refine Y26 ?_;refine Y22 ?_;refine yM ?_;refine b5 (j6 SS (h0 := by omega) (hp := L6 hi)) ?_;refine yL ?_;refine Dq (ih ks[i] (by have := x6 hi; omega) (by omega)) ?_;refine Y12 ?_;refine Y15 ?_;refine Y12 ?_
  refine ⟨i + 1, by omega, k7 ?_ ?_⟩
  ·repeat (first | exact SubE.nil | refine SubE.cons rfl (by first | rfl | (rw [b4 (by omega) (by omega)]; rfl) | (rw [if_pos he0, G2 E9 hi, if_pos he])) ?_)
  ·repeat (first | exact SubH.nil | refine SubH.cons rfl (by first | rfl | (rw [b4 (by omega) (by omega)]; rfl) | (rw [if_pos he0, G2 E9 hi, if_pos he])) ?_)
 ·intro h0
  have hfin : (if C6 k n r ks.length = 0 then m9 E9 (ks.take i) else C6 k n r ks.length) = E9 (.mk k n r ks) := by
   simp only [E9, au9]
   split
   ·rename_i he0
    by_cases hz : m9 E9 (ks.take i) = 0
    ·rw [he0, if_pos rfl, hz] at h0
     simp only [j7] at h0
     rw [List.take_of_length_le (by simp at h0; omega)]
    ·rw [V8 E9 hz]
   ·rfl
  refine Tri.exit ?_;refine Y1 ?_;refine Y2 ?_;refine Rq ?_;exact d4 hfin
end
section
variable {G : List (Nat × TypeId × Pu)}
theorem aL4 : ∀ (N : Nat) (p : Pat), k9 p ≤ N → N < 2^40 → FCall Tryz.prog G 193 [.pu (A6 0 p)] (iv .i64 (j2 p)) := by
 intro N
 induction N with
 | zero => intro p h; cases p; simp [k9] at h
 | succ N ih =>
 intro p hp hN
 obtain ⟨k, n, r, ks⟩ := p
 simp only [k9] at hp
 have hlen := o4 ks
 refine Fq 22 Tryz.func193 ?_;intro w0 M ρ0 D0
 refine Y44 ?_;refine yB ?_;refine a6 [1] ?_;refine Y37 ?_;refine Y0 ?_;refine Cq ?_ ?_
 ·intro h0
  refine Y9 ?_;refine Rq ?_;exact d4 (by simp_all [j2])
 ·intro h0
  refine Tri.skip ?_;refine Y20 ?_;refine Y22 ?_;refine Y38 ?_;refine Tri.block (Tri.loopW (σ := Nat) (fun i => ⟨[(10, .pu (.sl 0 104 (v6 0 ks))), (11, iv .i64 (v6 0 ks).length), (12, iv .i64 i), (3, iv .i64 (A3 (ks.take i)))], []⟩) (fun i => ks.length - i) 0 ?_ ?_ (fun i => ?_))
  ·exact zW
  ·exact zW
  refine Y30 ?_;refine Cq ?_ ?_
  ·intro h1
   have hi : i < ks.length := by simpa [A4] using h1
   have h1' := K0 (ks.take i)
   have h2 := z8 ks[i]
   have h3 := Q1 (ks := ks) (i := i)
   have h4 := x6 hi
   refine Y76 ?_;refine b5 (j6 SS (h0 := by omega) (hp := L6 hi)) ?_;refine yL ?_;refine a8 SS 5 ?_;refine yS ?_;refine a6 [5] ?_;refine Y40 ?_;refine Dq (ih ks[i] (by omega) (by omega)) ?_;refine yI ?_;refine Y12 ?_;refine Y25 ?_
   refine ⟨i + 1, by omega, k7 ?_ ?_⟩
   ·repeat (first | exact SubE.nil | refine SubE.cons rfl (by first | rfl | (rw [b4 (by omega) (by omega)]; rfl) | (rw [G3 hi, b4 (by omega) (by omega)])) ?_)
   ·repeat (first | exact SubH.nil | refine SubH.cons rfl (by first | rfl | (rw [b4 (by omega) (by omega)]; rfl) | (rw [G3 hi, b4 (by omega) (by omega)])) ?_)
  ·intro h1
   have hi : ks.length ≤ i := by simpa [A4] using h1
   rw [List.take_of_length_le hi];refine Tri.exit ?_;refine Y1 ?_;refine Y2 ?_;refine Rq ?_;exact d4 (by simp_all [j2])
def aa6 (depth n bound : Int) : Bool := decide (n ≥ 0) && (decide (n < bound) || decide (IntKind.wrap .i64 (n - bound) < depth))
abbrev dpO (depth : Int) : List (Nat × Ob) := [(901, .var 3 (iv .i64 depth))]
theorem bi3 (depth n bound : Int) : HCall Tryz.prog G 135 [iv .i64 n, iv .i64 bound, .ptr 901 [] 3] (dpO depth) [] (bv (aa6 depth n bound)) [] [] := by
 refine HCall.of_triD tbl 20 [] Tryz.func135 rfl rfl rfl fun w0 M ρ0 D0 => ?_
 refine Y20 ?_;refine Y15 ?_;refine Y28 ?_;refine xM ?_;refine xI ?_;refine xM ?_;refine xM ?_;refine xM ?_;refine xI ?_;refine xL ?_;refine xI ?_;refine xO ?_;refine yN ?_;refine Y2 ?_;refine Rqz ?_;exact l7 (by simp only [aa6])
abbrev chV (members : Int) : PV := .agg 206 [iv .i64 members, .fn (.func 135) [] [.ptr 901 [] 3]]
def d8 (members depth bound k n : Int) (r : List Int) (nk nc : Int) : Int :=
 if B9 k 1 12 then 3 else if u5 (y8 k) (C9 k) (x4 k) n r nc then 7 else if !s8 k nk || decide (nc > 8) then 2
 else if k == 10 && B9 n 1 5 then 3
 else if k == 1 && !aa6 depth n bound then 1
 else if k == 7 && (decide (n < 0) || decide (n ≥ members)) then 1
 else if (k == 2 || k == 8 || k == 11) && B9 n 0 (if k == 8 || k == 11 then 7 else 1073741824) then 3 else 0
set_option maxHeartbeats 2000000 in
theorem bG2 (members depth bound : Int) (k n : Int) (r : List Int) (ks : List Tm) (cs : List Cs) :
  HCall Tryz.prog G 200 [chV members, .pu (tmc 0 (.mk k n r ks cs)), iv .i64 bound] (dpO depth) [] (iv .i64 (d8 members depth bound k n r (l5 0 ks).length (C7 0 cs).length)) [] [] := by
 refine HCall.of_triD tbl 88 [] Tryz.func200 rfl rfl rfl fun w0 M ρ0 D0 => ?_
 refine Y45 ?_;refine o9 SS 4 ?_;refine yB ?_;refine a6 [3, 4] ?_;refine Y77 ?_;refine Y14 ?_;refine Dq (O5 k 1 12) ?_;refine Y2 ?_;refine Cq ?_ ?_
 ·intro h0
  refine Y9 ?_;refine Rqz ?_;exact d4 (by first | (simp only [d8, *, Bool.false_eq_true, Bool.true_and, Bool.false_and, Bool.or_false, Bool.or_true, Bool.true_or, Bool.false_or, if_false, if_true]; done) | (exfalso; simp_all; done) | (unfold d8; (repeat' split) <;> simp_all <;> omega))
 ·intro h0
  refine Y14 ?_;refine Dq (bF0 k) ?_;refine Y3 ?_;refine Y3 ?_;refine Y64 ?_;refine Dq (bk9 (y8 k) (C9 k) (x4 k) n r ((C7 0 cs).length : Int)) ?_;refine yA ?_;refine Y23 ?_;refine Cq ?_ ?_
  ·intro h1
   refine Y9 ?_;refine Rqz ?_;exact d4 (by first | (simp only [d8, *, Bool.false_eq_true, Bool.true_and, Bool.false_and, Bool.or_false, Bool.or_true, Bool.true_or, Bool.false_or, if_false, if_true]; done) | (exfalso; simp_all; done) | (unfold d8; (repeat' split) <;> simp_all <;> omega))
  ·intro h1
   refine Y14 ?_;refine Y64 ?_;refine Dq (bZ7 k ((l5 0 ks).length : Int)) ?_;refine yQ ?_;refine Y11 ?_;refine xC ?_;refine Y34 ?_;refine Y2 ?_;refine Cq ?_ ?_
   ·intro h2
    refine Y9 ?_;refine Rqz ?_;exact d4 (by first | (simp only [d8, *, Bool.false_eq_true, Bool.true_and, Bool.false_and, Bool.or_false, Bool.or_true, Bool.true_or, Bool.false_or, if_false, if_true]; done) | (exfalso; simp_all; done) | (unfold d8; (repeat' split) <;> simp_all <;> omega))
   ·intro h2
    refine Tri.skip ?_;refine Y20 ?_;refine Y14 ?_;refine Y0 ?_;refine Tri.block ?_;refine Y16 ?_;refine Cq ?_ ?_
    ·intro h3
     refine Y14 ?_;refine Dq (O5 n 1 5) ?_;refine Y0 ?_;refine Cq ?_ ?_
     ·intro h4
      refine Y9 ?_;refine Rqz ?_;exact d4 (by first | (simp only [d8, *, Bool.false_eq_true, Bool.true_and, Bool.false_and, Bool.or_false, Bool.or_true, Bool.true_or, Bool.false_or, if_false, if_true]; done) | (exfalso; simp_all; done) | (unfold d8; (repeat' split) <;> simp_all <;> omega))
     ·intro h4
      refine Tri.skip ?_;refine Y78 ?_;refine Y47 ?_;refine Y47 ?_;refine xM ?_;refine q8 zG (o6 (fun _ => O5 n 0 _)) ?_;refine yN ?_;refine Y0 ?_;refine Cq ?_ ?_
      ·intro h11
       refine Y9 ?_;refine Rqz ?_;exact d4 (by first | (simp only [d8, *, Bool.false_eq_true, Bool.true_and, Bool.false_and, Bool.or_false, Bool.or_true, Bool.true_or, Bool.false_or, if_false, if_true]; done) | (exfalso; simp_all; done) | (unfold d8; (repeat' split) <;> simp_all <;> omega))
      ·intro h11
       refine Y50 ?_;refine Rqz ?_;exact d4 (by first | (simp only [d8, *, Bool.false_eq_true, Bool.true_and, Bool.false_and, Bool.or_false, Bool.or_true, Bool.true_or, Bool.false_or, if_false, if_true]; done) | (exfalso; simp_all; done) | (unfold d8; (repeat' split) <;> simp_all <;> omega))
    ·intro h3
     refine Y16 ?_;refine Cq ?_ ?_
     ·intro h5
      refine Y18 ?_;refine Cq ?_ ?_
      ·intro h6
       refine Y20 ?_;refine Y78 ?_;refine Y47 ?_;refine Y47 ?_;refine xM ?_;refine q8 zG (o6 (fun _ => O5 n 0 _)) ?_;refine yN ?_;refine Y0 ?_;refine Cq ?_ ?_
       ·intro h11
        refine Y9 ?_;refine Rqz ?_;exact d4 (by first | (simp only [d8, *, Bool.false_eq_true, Bool.true_and, Bool.false_and, Bool.or_false, Bool.or_true, Bool.true_or, Bool.false_or, if_false, if_true]; done) | (exfalso; simp_all; done) | (unfold d8; (repeat' split) <;> simp_all <;> omega))
       ·intro h11
        refine Y50 ?_;refine Rqz ?_;exact d4 (by first | (simp only [d8, *, Bool.false_eq_true, Bool.true_and, Bool.false_and, Bool.or_false, Bool.or_true, Bool.true_or, Bool.false_or, if_false, if_true]; done) | (exfalso; simp_all; done) | (unfold d8; (repeat' split) <;> simp_all <;> omega))
      ·intro h6
       refine Y16 ?_;refine Cq ?_ ?_
       ·intro h7
        refine Y14 ?_;refine Y3 ?_;refine yM ?_;refine b5 (p6 (fun _ => bi3 depth n bound)) ?_;refine yQ ?_;refine Y0 ?_;refine Cq ?_ ?_
        ·intro h8
         refine Y9 ?_;refine Rqz ?_;exact d4 (by first | (simp only [d8, *, Bool.false_eq_true, Bool.true_and, Bool.false_and, Bool.or_false, Bool.or_true, Bool.true_or, Bool.false_or, if_false, if_true]; done) | (exfalso; simp_all; done) | (unfold d8; (repeat' split) <;> simp_all <;> omega))
        ·intro h8
         refine Tri.skip ?_;refine Y78 ?_;refine Y47 ?_;refine Y47 ?_;refine xM ?_;refine q8 zG (o6 (fun _ => O5 n 0 _)) ?_;refine yN ?_;refine Y0 ?_;refine Cq ?_ ?_
         ·intro h11
          refine Y9 ?_;refine Rqz ?_;exact d4 (by first | (simp only [d8, *, Bool.false_eq_true, Bool.true_and, Bool.false_and, Bool.or_false, Bool.or_true, Bool.true_or, Bool.false_or, if_false, if_true]; done) | (exfalso; simp_all; done) | (unfold d8; (repeat' split) <;> simp_all <;> omega))
         ·intro h11
          refine Y50 ?_;refine Rqz ?_;exact d4 (by first | (simp only [d8, *, Bool.false_eq_true, Bool.true_and, Bool.false_and, Bool.or_false, Bool.or_true, Bool.true_or, Bool.false_or, if_false, if_true]; done) | (exfalso; simp_all; done) | (unfold d8; (repeat' split) <;> simp_all <;> omega))
       ·intro h7
        refine Y16 ?_;refine Cq ?_ ?_
        ·intro h9
         refine Y37 ?_;refine Y42 ?_;refine Y34 ?_;refine Y0 ?_;refine Cq ?_ ?_
         ·intro h10
          refine Y9 ?_;refine Rqz ?_;exact d4 (by first | (simp only [d8, *, Bool.false_eq_true, Bool.true_and, Bool.false_and, Bool.or_false, Bool.or_true, Bool.true_or, Bool.false_or, if_false, if_true]; done) | (exfalso; simp_all; done) | (unfold d8; (repeat' split) <;> simp_all <;> omega))
         ·intro h10
          refine Tri.skip ?_;refine Y78 ?_;refine Y47 ?_;refine Y47 ?_;refine xM ?_;refine q8 zG (o6 (fun _ => O5 n 0 _)) ?_;refine yN ?_;refine Y0 ?_;refine Cq ?_ ?_
          ·intro h11
           refine Y9 ?_;refine Rqz ?_;exact d4 (by first | (simp only [d8, *, Bool.false_eq_true, Bool.true_and, Bool.false_and, Bool.or_false, Bool.or_true, Bool.true_or, Bool.false_or, if_false, if_true]; done) | (exfalso; simp_all; done) | (unfold d8; (repeat' split) <;> simp_all <;> omega))
          ·intro h11
           refine Y50 ?_;refine Rqz ?_;exact d4 (by first | (simp only [d8, *, Bool.false_eq_true, Bool.true_and, Bool.false_and, Bool.or_false, Bool.or_true, Bool.true_or, Bool.false_or, if_false, if_true]; done) | (exfalso; simp_all; done) | (unfold d8; (repeat' split) <;> simp_all <;> omega))
        ·intro h9
         refine Tri.skip ?_;refine Y78 ?_;refine Y47 ?_;refine Y47 ?_;refine xM ?_;refine q8 zG (o6 (fun _ => O5 n 0 _)) ?_;refine yN ?_;refine Y0 ?_;refine Cq ?_ ?_
         ·intro h11
          refine Y9 ?_;refine Rqz ?_;exact d4 (by first | (simp only [d8, *, Bool.false_eq_true, Bool.true_and, Bool.false_and, Bool.or_false, Bool.or_true, Bool.true_or, Bool.false_or, if_false, if_true]; done) | (exfalso; simp_all; done) | (unfold d8; (repeat' split) <;> simp_all <;> omega))
         ·intro h11
          refine Y50 ?_;refine Rqz ?_;exact d4 (by first | (simp only [d8, *, Bool.false_eq_true, Bool.true_and, Bool.false_and, Bool.or_false, Bool.or_true, Bool.true_or, Bool.false_or, if_false, if_true]; done) | (exfalso; simp_all; done) | (unfold d8; (repeat' split) <;> simp_all <;> omega))
     ·intro h5
      refine Y16 ?_;refine Cq ?_ ?_
      ·intro h6
       refine Y20 ?_;refine Y78 ?_;refine Y47 ?_;refine Y47 ?_;refine xM ?_;refine q8 zG (o6 (fun _ => O5 n 0 _)) ?_;refine yN ?_;refine Y0 ?_;refine Cq ?_ ?_
       ·intro h11
        refine Y9 ?_;refine Rqz ?_;exact d4 (by first | (simp only [d8, *, Bool.false_eq_true, Bool.true_and, Bool.false_and, Bool.or_false, Bool.or_true, Bool.true_or, Bool.false_or, if_false, if_true]; done) | (exfalso; simp_all; done) | (unfold d8; (repeat' split) <;> simp_all <;> omega))
       ·intro h11
        refine Y50 ?_;refine Rqz ?_;exact d4 (by first | (simp only [d8, *, Bool.false_eq_true, Bool.true_and, Bool.false_and, Bool.or_false, Bool.or_true, Bool.true_or, Bool.false_or, if_false, if_true]; done) | (exfalso; simp_all; done) | (unfold d8; (repeat' split) <;> simp_all <;> omega))
      ·intro h6
       refine Y16 ?_;refine Cq ?_ ?_
       ·intro h7
        refine Y14 ?_;refine Y3 ?_;refine yM ?_;refine b5 (p6 (fun _ => bi3 depth n bound)) ?_;refine yQ ?_;refine Y0 ?_;refine Cq ?_ ?_
        ·intro h8
         refine Y9 ?_;refine Rqz ?_;exact d4 (by first | (simp only [d8, *, Bool.false_eq_true, Bool.true_and, Bool.false_and, Bool.or_false, Bool.or_true, Bool.true_or, Bool.false_or, if_false, if_true]; done) | (exfalso; simp_all; done) | (unfold d8; (repeat' split) <;> simp_all <;> omega))
        ·intro h8
         refine Tri.skip ?_;refine Y78 ?_;refine Y47 ?_;refine Y47 ?_;refine xM ?_;refine q8 zG (o6 (fun _ => O5 n 0 _)) ?_;refine yN ?_;refine Y0 ?_;refine Cq ?_ ?_
         ·intro h11
          refine Y9 ?_;refine Rqz ?_;exact d4 (by first | (simp only [d8, *, Bool.false_eq_true, Bool.true_and, Bool.false_and, Bool.or_false, Bool.or_true, Bool.true_or, Bool.false_or, if_false, if_true]; done) | (exfalso; simp_all; done) | (unfold d8; (repeat' split) <;> simp_all <;> omega))
         ·intro h11
          refine Y50 ?_;refine Rqz ?_;exact d4 (by first | (simp only [d8, *, Bool.false_eq_true, Bool.true_and, Bool.false_and, Bool.or_false, Bool.or_true, Bool.true_or, Bool.false_or, if_false, if_true]; done) | (exfalso; simp_all; done) | (unfold d8; (repeat' split) <;> simp_all <;> omega))
       ·intro h7
        refine Y16 ?_;refine Cq ?_ ?_
        ·intro h9
         refine Y37 ?_;refine Y42 ?_;refine Y34 ?_;refine Y0 ?_;refine Cq ?_ ?_
         ·intro h10
          refine Y9 ?_;refine Rqz ?_;exact d4 (by first | (simp only [d8, *, Bool.false_eq_true, Bool.true_and, Bool.false_and, Bool.or_false, Bool.or_true, Bool.true_or, Bool.false_or, if_false, if_true]; done) | (exfalso; simp_all; done) | (unfold d8; (repeat' split) <;> simp_all <;> omega))
         ·intro h10
          refine Tri.skip ?_;refine Y78 ?_;refine Y47 ?_;refine Y47 ?_;refine xM ?_;refine q8 zG (o6 (fun _ => O5 n 0 _)) ?_;refine yN ?_;refine Y0 ?_;refine Cq ?_ ?_
          ·intro h11
           refine Y9 ?_;refine Rqz ?_;exact d4 (by first | (simp only [d8, *, Bool.false_eq_true, Bool.true_and, Bool.false_and, Bool.or_false, Bool.or_true, Bool.true_or, Bool.false_or, if_false, if_true]; done) | (exfalso; simp_all; done) | (unfold d8; (repeat' split) <;> simp_all <;> omega))
          ·intro h11
           refine Y50 ?_;refine Rqz ?_;exact d4 (by first | (simp only [d8, *, Bool.false_eq_true, Bool.true_and, Bool.false_and, Bool.or_false, Bool.or_true, Bool.true_or, Bool.false_or, if_false, if_true]; done) | (exfalso; simp_all; done) | (unfold d8; (repeat' split) <;> simp_all <;> omega))
        ·intro h9
         refine Tri.skip ?_;refine Y78 ?_;refine Y47 ?_;refine Y47 ?_;refine xM ?_;refine q8 zG (o6 (fun _ => O5 n 0 _)) ?_;refine yN ?_;refine Y0 ?_;refine Cq ?_ ?_
         ·intro h11
          refine Y9 ?_;refine Rqz ?_;exact d4 (by first | (simp only [d8, *, Bool.false_eq_true, Bool.true_and, Bool.false_and, Bool.or_false, Bool.or_true, Bool.true_or, Bool.false_or, if_false, if_true]; done) | (exfalso; simp_all; done) | (unfold d8; (repeat' split) <;> simp_all <;> omega))
         ·intro h11
          refine Y50 ?_;refine Rqz ?_;exact d4 (by first | (simp only [d8, *, Bool.false_eq_true, Bool.true_and, Bool.false_and, Bool.or_false, Bool.or_true, Bool.true_or, Bool.false_or, if_false, if_true]; done) | (exfalso; simp_all; done) | (unfold d8; (repeat' split) <;> simp_all <;> omega))
theorem bQ3 (members depth bound : Int) (k n : Int) (r : List Int) (ks : List Tm) (cs : List Cs) :
  HCall Tryz.prog G 200 [chV members, .pu (tmc 0 (.mk k n r ks cs)), iv .i64 bound] (dpO depth) [] (iv .i64 (d8 members depth bound k n r ks.length cs.length)) [] [] := by
 have := bG2 (G := G) members depth bound k n r ks cs
 rwa [a7, o5] at this
end
section
variable {G : List (Nat × TypeId × Pu)}
def csT : Cs → Tm
 | .mk _ t => t
def csB : Cs → Int
 | .mk p _ => j2 p
structure It where
 i : Int
 t : Tm
 more : Int
def aa7 (k : Int) (ks : List Tm) : List It := ks.mapIdx fun i x => ⟨i, x, j0 k i⟩
def W1 (n : Nat) (cs : List Cs) : List It := cs.mapIdx fun i c => ⟨(n : Int) + i, csT c, csB c⟩
def K6 : Tm → List It
 | .mk k _ _ ks cs => aa7 k ks ++ W1 ks.length cs
def bT6 (t : Tm) (m : Int) : Pu := .agg 200 [tmc 0 t, .leaf (.int .i64 m)]
def itE (x : It) : List PV := [iv .i64 x.i, .pu (bT6 x.t x.more)]
theorem bL6 (t : Tm) : HCall Tryz.prog G 132 [.pu (tmc 0 t)] [] [] (.fn (.func 191) [] [.ptr 801 [] 32]) [(801, .var 32 (.pu (tmc 0 t)))] [801] := by
 refine HCall.of_triD tbl 4 [] Tryz.func132 rfl rfl rfl fun w0 M ρ0 D0 => ?_
 refine yR ?_;refine o9 SS 801 ?_;refine yB ?_;refine a6 [801] ?_;refine Y35 ?_;refine Rqz ?_;exact VImp.refl _
abbrev foO (e : Int) : List (Nat × Ob) := [(6, .var 37 (iv .i64 e))]
def rOf (r : Loop) : Option Int → Loop
 | none => r
 | some _ => aE3 r .ret
def zOf : Option Int → Int
 | none => 0
 | some e => e
theorem aK6 {P : Program} {X : Ctx} {l lam : Nat} {r : Loop} {HR : List (Nat × Ob)} {enc : It → List PV} {out : It → Option Int} {x : It} (h : YC P X l lam r HR (foO 0) enc out (fun _ => .ret) foO x) : aW2 P X l (enc x) HR ((lam, .loop r) :: foO 0) (bv (out x).isNone) [(lam, .loop (rOf r (out x))), (6, .var 37 (iv .i64 (zOf (out x))))] := by
 unfold YC at h
 cases ho : out x with
 | none => rw [ho] at h; exact h
 | some e => rw [ho] at h; exact h
theorem aI8 {α β : Type} {out : α → Option β} {l : List α} {i : Nat} (hi : i < l.length) (h : ∀ j (hj : j < i), out (l[j]'(by omega)) = none) {e : β} (he : out l[i] = some e) : l.findSome? out = some e := by
 induction l generalizing i with
 | nil => simp at hi
 | cons a l ih =>
  cases i with
  | zero => simp at he; simp [he]
  | succ i =>
   have h0 := h 0 (by omega)
   simp at h0
   simp only [List.findSome?_cons, h0]
   exact ih (by simpa using hi) (fun j hj => by have := h (j + 1) (by omega); simpa using this) (by simpa using he)
theorem aD6 {α β : Type} {out : α → Option β} {l : List α} (h : ∀ j (hj : j < l.length), out l[j] = none) : l.findSome? out = none := by
 rw [List.findSome?_eq_none_iff]
 intro x hx
 obtain ⟨j, hj, rfl⟩ := List.getElem_of_mem hx
 exact h j hj
abbrev paO (t : Tm) (members depth bound : Int) : List (Nat × Ob) := [(801, .var 32 (.pu (tmc 0 t))), (3, .var 206 (chV members)), (5, .var 3 (iv .i64 bound)), (901, .var 3 (iv .i64 depth))]
theorem bA3 (t : Tm) (hs : a5 t < 2^40) (members depth bound : Int) (out : It → Option Int) :
  IterC Tryz.prog G 191 [.ptr 801 [] 32] 900 [801, 3, 5, 901, 6, 900] (paO t members depth bound) (foO 0) (K6 t) itE out (fun _ => .ret) foO := by
 obtain ⟨k, n, r, ks, cs⟩ := t
 refine IterC.of_tri tbl 49 Tryz.func191 rfl rfl (fun r z => by cases z <;> rfl) fun l rc w0 M ρ0 D0 hy => ?_
 simp only [a5] at hs
 have hlen := l8 ks
 have hlenc := s6 cs
 have hk : ∀ i (hi : i < ks.length), (K6 (.mk k n r ks cs))[i]'(by simp [K6, aa7, W1]; omega) = ⟨i, ks[i], j0 k i⟩ := fun i hi => by
  simp [K6, aa7, List.getElem_append_left, hi]
 have hc : ∀ i (hi : i < cs.length), (K6 (.mk k n r ks cs))[ks.length + i]'(by simp [K6, aa7, W1]; omega) = ⟨(ks.length : Int) + i, csT cs[i], csB cs[i]⟩ := fun i hi => by
  simp [K6, aa7, W1, List.getElem_append_right]
 have hL : (K6 (.mk k n r ks cs)).length = ks.length + cs.length := by simp [K6, aa7, W1]
 refine Y22 ?_;refine Y38 ?_;refine Tri.block (Tri.loopW (σ := {i : Nat // ∀ j (hj : j < i) (hl : j < ks.length), out ⟨j, ks[j], j0 k j⟩ = none}) (fun i => ⟨[(0, .fn (.yield l) [] []), (1, .ptr 801 [] 32), (8, .pu (.sl 0 32 (l5 0 ks))), (9, iv .i64 (l5 0 ks).length), (10, iv .i64 i.1)], [(801, .var 32 (.pu (tmc 0 (.mk k n r ks cs)))), (3, .var 206 (chV members)), (5, .var 3 (iv .i64 bound)), (901, .var 3 (iv .i64 depth)), (900, .loop rc), (6, .var 37 (iv .i64 0))]⟩) (fun i => ks.length - i.1) ⟨0, by intro j hj; omega⟩ ?_ ?_ (fun i => ?_))
 ·exact zW
 ·exact zW
 refine Y30 ?_;refine Cq ?_ ?_
 ·intro h0
  have hi : i.1 < ks.length := by rw [a7] at h0; simpa using h0
  have hy' := aK6 (hy ⟨i.1, ks[i.1], j0 k i.1⟩ (by rw [← hk i.1 hi]; exact List.getElem_mem _))
  refine Y57 ?_;refine b5 (j6 SS (h0 := by omega) (hp := B6 hi)) ?_;refine yL ?_;refine a8 SS 4 ?_;refine yA ?_;refine yS ?_;refine a6 [4] ?_;refine Y32 ?_;refine yL ?_;refine Y3 ?_;refine yM ?_;refine Dq (aX6 k i.1) ?_;refine yP ?_;refine aG6 hy' ?_;refine yQ ?_;refine Y23 ?_;refine Cq ?_ ?_
  ·intro h1
   obtain ⟨e, he⟩ : ∃ e, out ⟨i.1, ks[i.1], j0 k i.1⟩ = some e := by
    cases ho : out ⟨i.1, ks[i.1], j0 k i.1⟩ with
    | none => rw [ho] at h1; cases h1
    | some e => exact ⟨e, rfl⟩
   have hfin : (K6 (.mk k n r ks cs)).findSome? out = some e := aI8 (i := i.1) (by rw [hL]; omega) (fun j hj => by rw [hk j (by omega)]; exact i.2 j hj (by omega)) (by rw [hk i.1 hi]; exact he)
   rw [hfin];refine tQ ?_;exact Tri.ret ⟨.inr rfl, bz0, .cons rfl (by rw [he]; exact ObImp.refl _) (.cons rfl (by rw [he]; exact ObImp.refl _) .nil)⟩
  ·intro h1
   have he : out ⟨i.1, ks[i.1], j0 k i.1⟩ = none := by
    cases ho : out ⟨i.1, ks[i.1], j0 k i.1⟩ with
    | none => rfl
    | some e => rw [ho] at h1; cases h1
   have hnext : ∀ j (hj : j < i.1 + 1) (hl : j < ks.length), out ⟨j, ks[j], j0 k j⟩ = none := fun j hj hl => by
    rcases Nat.lt_or_ge j i.1 with h' | h'
    ·exact i.2 j h' hl
    ·obtain rfl : j = i.1 := by omega
     exact he
   refine Y52 ?_
   refine ⟨⟨i.1 + 1, hnext⟩, by show ks.length - (i.1 + 1) < ks.length - i.1; omega, k7 ?_ ?_⟩
   ·repeat (first | exact SubE.nil | refine SubE.cons rfl (by first | rfl | (rw [b4 (by omega) (by omega)]; rfl) | (rw [he]; rfl)) ?_)
   ·repeat (first | exact SubH.nil | refine SubH.cons rfl (by first | rfl | (rw [b4 (by omega) (by omega)]; rfl) | (rw [he]; rfl)) ?_)
 ·intro h0
  have hK : ∀ j (hj : j < ks.length), out ⟨j, ks[j], j0 k j⟩ = none := fun j hj => i.2 j (by rw [a7] at h0; simp at h0; omega) hj
  refine Tri.exit ?_;refine Y22 ?_;refine Y38 ?_;refine Tri.block (Tri.loopW (σ := {i : Nat // ∀ j (hj : j < i) (hl : j < cs.length), out ⟨(ks.length : Int) + j, csT cs[j], csB cs[j]⟩ = none}) (fun i => ⟨[(0, .fn (.yield l) [] []), (1, .ptr 801 [] 32), (27, .pu (.sl 0 106 (C7 0 cs))), (28, iv .i64 (C7 0 cs).length), (29, iv .i64 i.1)], [(801, .var 32 (.pu (tmc 0 (.mk k n r ks cs)))), (3, .var 206 (chV members)), (5, .var 3 (iv .i64 bound)), (901, .var 3 (iv .i64 depth)), (900, .loop rc), (6, .var 37 (iv .i64 0))]⟩) (fun i => cs.length - i.1) ⟨0, by intro j hj; omega⟩ ?_ ?_ (fun i => ?_))
  ·exact zW
  ·exact zW
  refine Y30 ?_;refine Cq ?_ ?_
  ·intro h2
   have hi : i.1 < cs.length := by rw [o5] at h2; simpa using h2
   have hy' := hc i.1 hi ▸ aK6 (hy _ (List.getElem_mem (l := K6 (.mk k n r ks cs)) (n := ks.length + i.1) (by rw [hL]; omega)))
   have hget := ad7 (lo := 0) hi
   have hsz := L0 (List.getElem_mem hi)
   have hcm := i.2
   generalize hci : cs[i.1] = ci at hy' hget hsz
   obtain ⟨q, b⟩ := ci
   simp only [csT, csB] at hy'
   have hw : IntKind.wrap .i64 (((l5 0 ks).length : Int) + (i.1 : Int)) = (ks.length : Int) + i.1 := by rw [a7, b4 (by omega) (by omega)]
   refine Y57 ?_;refine Xq hget ?_;refine yL ?_;refine a8 SS 66 ?_;refine yA ?_;refine yS ?_;refine a6 [66] ?_;refine Y1 ?_;refine Y64 ?_;refine yM ?_;refine yI ?_;refine Y3 ?_;refine Y3 ?_;refine Dq (aL4 _ q (Nat.le_refl _) (by simp only [u7] at hsz; omega)) ?_;refine yP ?_;refine aG6 hy' (himp := .cons (d4 hw) (.cons (VImp.refl _) .nil)) ?_;refine yQ ?_;refine Y23 ?_;refine Cq ?_ ?_
   ·intro h3
    obtain ⟨e, he⟩ : ∃ e, out ⟨(ks.length : Int) + i.1, b, j2 q⟩ = some e := by
     cases ho : out ⟨(ks.length : Int) + i.1, b, j2 q⟩ with
     | none => rw [ho] at h3; cases h3
     | some e => exact ⟨e, rfl⟩
    have hfin : (K6 (.mk k n r ks cs)).findSome? out = some e := aI8 (i := ks.length + i.1) (by rw [hL]; omega) (fun j hj => by
     rcases Nat.lt_or_ge j ks.length with h' | h'
     ·rw [hk j h']; exact hK j h'
     ·obtain ⟨j', rfl⟩ := Nat.exists_eq_add_of_le h'
      rw [hc j' (by omega)]; exact hcm j' (by omega) (by omega)) (by rw [hc i.1 hi, hci]; exact he)
    rw [hfin];refine tQ ?_;exact Tri.ret ⟨.inr rfl, bz0, .cons rfl (by rw [he]; exact ObImp.refl _) (.cons rfl (by rw [he]; exact ObImp.refl _) .nil)⟩
   ·intro h3
    have he : out ⟨(ks.length : Int) + i.1, b, j2 q⟩ = none := by
     cases ho : out ⟨(ks.length : Int) + i.1, b, j2 q⟩ with
     | none => rfl
     | some e => rw [ho] at h3; cases h3
    have hnext : ∀ j (hj : j < i.1 + 1) (hl : j < cs.length), out ⟨(ks.length : Int) + j, csT cs[j], csB cs[j]⟩ = none := fun j hj hl => by
     rcases Nat.lt_or_ge j i.1 with h' | h'
     ·exact hcm j h' hl
     ·obtain rfl : j = i.1 := by omega
      rw [hci]; exact he
    refine Y52 ?_
    refine ⟨⟨i.1 + 1, hnext⟩, by show cs.length - (i.1 + 1) < cs.length - i.1; omega, k7 ?_ ?_⟩
    ·repeat (first | exact SubE.nil | refine SubE.cons rfl (by first | rfl | (rw [b4 (by omega) (by omega)]; rfl) | (rw [he]; rfl)) ?_)
    ·repeat (first | exact SubH.nil | refine SubH.cons rfl (by first | rfl | (rw [b4 (by omega) (by omega)]; rfl) | (rw [he]; rfl)) ?_)
  ·intro h2
   have hC : ∀ j (hj : j < cs.length), out ⟨(ks.length : Int) + j, csT cs[j], csB cs[j]⟩ = none := fun j hj => i.2 j (by rw [o5] at h2; simp at h2; omega) hj
   have hfin : (K6 (.mk k n r ks cs)).findSome? out = none := aD6 fun j hj => by
    rcases Nat.lt_or_ge j ks.length with h' | h'
    ·rw [hk j h']; exact hK j h'
    ·obtain ⟨j', rfl⟩ := Nat.exists_eq_add_of_le h'
     rw [hL] at hj
     rw [hc j' (by omega)]; exact hC j' (by omega)
   rw [hfin];refine Tri.exit ?_;exact ⟨.inl rfl, bz0, .cons rfl (ObImp.refl _) (.cons rfl (ObImp.refl _) .nil)⟩
end
section
variable {G : List (Nat × TypeId × Pu)}
def csP : Cs → Pat
 | .mk p _ => p
def orE (a b : Int) : Int := if a = 0 then b else a
mutual
def N0 (m d b : Int) : Tm → Int
 | .mk k n r ks cs => orE (d8 m d b k n r ks.length cs.length) (orE (m9 (fun c => E9 (csP c)) cs) (orE (T4 m d b k 0 ks) (T5 m d b cs)))
def T4 (m d b k : Int) (i : Nat) : List Tm → Int
 | [] => 0
 | t :: ts => orE (N0 m d (b + j0 k i) t) (T4 m d b k (i + 1) ts)
def T5 (m d b : Int) : List Cs → Int
 | [] => 0
 | c :: cs => orE (am8 m d b c) (T5 m d b cs)
def am8 (m d b : Int) : Cs → Int
 | .mk p t => N0 m d (b + j2 p) t
end
def U8 (m d b : Int) (x : It) : Option Int := if N0 m d (b + x.more) x.t = 0 then none else some (N0 m d (b + x.more) x.t)
theorem ar4 {out : It → Option Int} (h : ∀ x e, out x = some e → e ≠ 0) : ∀ (l l' : List It), zOf ((l ++ l').findSome? out) = orE (zOf (l.findSome? out)) (zOf (l'.findSome? out))
 | [], l' => by simp [orE, zOf]
 | x :: l, l' => by
  simp only [List.cons_append, List.findSome?_cons]
  cases ho : out x with
  | none => exact ar4 h l l'
  | some e => have := h x e ho; simp [zOf, orE, this]
theorem bL7 {m d b : Int} : ∀ x e, U8 m d b x = some e → e ≠ 0 := fun x e h => by
 unfold U8 at h
 split at h
 ·cases h
 ·rename_i h0; cases h; exact h0
theorem zK (m d b k : Int) : ∀ (ks : List Tm) (i : Nat), zOf ((ks.mapIdx fun j x => (⟨((i + j : Nat) : Int), x, j0 k ((i + j : Nat) : Int)⟩ : It)).findSome? (U8 m d b)) = T4 m d b k i ks
 | [], i => rfl
 | t :: ts, i => by
  have ih := zK m d b k ts (i + 1)
  simp only [List.mapIdx_cons, List.findSome?_cons, T4, Nat.add_zero]
  have e : (fun (j : Nat) (x : Tm) => (⟨((i + (j + 1) : Nat) : Int), x, j0 k ((i + (j + 1) : Nat) : Int)⟩ : It)) = fun j x => ⟨((i + 1 + j : Nat) : Int), x, j0 k ((i + 1 + j : Nat) : Int)⟩ := by funext j x; rw [show i + (j + 1) = i + 1 + j by omega]
  rw [e]
  unfold orE
  by_cases h : N0 m d (b + j0 k i) t = 0
  ·rw [show U8 m d b ⟨(i : Int), t, j0 k i⟩ = none by simp [U8, h], if_pos h]
   exact ih
  ·rw [show U8 m d b ⟨(i : Int), t, j0 k i⟩ = some (N0 m d (b + j0 k i) t) by simp [U8, h], if_neg h]
   rfl
theorem zC (m d b : Int) (n : Nat) : ∀ (cs : List Cs) (i : Nat), zOf ((cs.mapIdx fun j c => (⟨(n : Int) + ((i + j : Nat) : Int), csT c, csB c⟩ : It)).findSome? (U8 m d b)) = T5 m d b cs
 | [], i => rfl
 | .mk q t :: cs, i => by
  have ih := zC m d b n cs (i + 1)
  simp only [List.mapIdx_cons, List.findSome?_cons, T5, am8, Nat.add_zero]
  have e : (fun (j : Nat) (c : Cs) => (⟨(n : Int) + ((i + (j + 1) : Nat) : Int), csT c, csB c⟩ : It)) = fun j c => ⟨(n : Int) + ((i + 1 + j : Nat) : Int), csT c, csB c⟩ := by funext j c; rw [show i + (j + 1) = i + 1 + j by omega]
  rw [e];rw [show csT (.mk q t) = t from rfl, show csB (.mk q t) = j2 q from rfl]
  unfold orE
  by_cases h : N0 m d (b + j2 q) t = 0
  ·rw [show U8 m d b ⟨(n : Int) + (i : Int), t, j2 q⟩ = none by simp [U8, h], if_pos h]
   exact ih
  ·rw [show U8 m d b ⟨(n : Int) + (i : Int), t, j2 q⟩ = some (N0 m d (b + j2 q) t) by simp [U8, h], if_neg h]
   rfl
theorem cb7 (m d b k n : Int) (r : List Int) (ks : List Tm) (cs : List Cs) : zOf ((K6 (.mk k n r ks cs)).findSome? (U8 m d b)) = orE (T4 m d b k 0 ks) (T5 m d b cs) := by
 have h1 := zK m d b k ks 0
 have h2 := zC m d b ks.length cs 0
 simp only [Nat.zero_add] at h1 h2
 unfold K6 aa7 W1
 rw [ar4 bL7, h1, h2]
theorem bD1 {k n : Int} {r : List Int} {ks : List Tm} {cs : List Cs} {x : It} (h : x ∈ K6 (.mk k n r ks cs)) : a5 x.t ≤ c7 ks + d6 cs ∧ 0 ≤ x.more ∧ x.more + 2 * a5 x.t ≤ 2 * (1 + c7 ks + d6 cs) := by
 unfold K6 aa7 W1 at h
 rcases List.mem_append.1 h with h | h
 ·obtain ⟨i, hi, rfl⟩ := List.mem_mapIdx.1 h
  have := w8 (List.getElem_mem hi)
  have : j0 k i = 0 ∨ j0 k i = 1 ∨ j0 k i = 2 := by unfold j0; split <;> (try split) <;> simp
  simp only
  omega
 ·obtain ⟨i, hi, rfl⟩ := List.mem_mapIdx.1 h
  have := L0 (List.getElem_mem hi)
  generalize cs[i] = c at this ⊢
  obtain ⟨q, t⟩ := c
  have hb := z8 q
  simp only [csT, csB, u7] at this ⊢
  omega
instance (t : Tm) (m : Int) : TyV Tryz.prog 200 (.pu (bT6 t m)) := inferInstanceAs (TyV Tryz.prog 200 (.pu (.agg _ _)))
theorem bQ5 {lo : Nat} {c : Cs} : M6 lo c = .agg 106 [A6 lo (csP c), tmc lo (csT c)] := by cases c; rfl
theorem cg8 (members depth : Int) : ∀ (N : Nat) (t : Tm), a5 t ≤ N → N < 2^40 → ∀ bound : Int, 0 ≤ bound → bound + 2 * a5 t ≤ 2^42 →
  HCall Tryz.prog G 136 [chV members, .pu (tmc 0 t), iv .i64 bound] (dpO depth) [] (iv .i64 (N0 members depth bound t)) [] [] := by
 intro N
 induction N with
 | zero => intro t h; have := r9 t; omega
 | succ N ih =>
 intro t hp hN bound hb0 hb1
 obtain ⟨k, n, r, ks, cs⟩ := t
 have hsz : a5 (.mk k n r ks cs) < 2^40 := by omega
 simp only [a5] at hp hb1
 have hlen := l8 ks
 have hlenc := s6 cs
 refine HCall.of_triD tbl 50 [] Tryz.func136 rfl rfl rfl fun w0 M ρ0 D0 => ?_
 refine Y45 ?_;refine Y75 ?_;refine a8 SS 6 ?_;refine a6 [3, 4, 5, 6] ?_;refine Y43 ?_;refine yL ?_;refine b5 (p6 (fun _ => bQ3 members depth bound k n r ks cs)) ?_;refine Y12 ?_;refine Y15 ?_;refine Y0 ?_;refine Cq ?_ ?_
 ·intro h0
  have h0' : d8 members depth bound k n r ks.length cs.length ≠ 0 := by simpa using h0
  refine Y1 ?_;refine Y10 ?_;refine Rcz ?_;exact d4 (by simp [N0, orE, h0'])
 ·intro h0
  have h0' : d8 members depth bound k n r ks.length cs.length = 0 := by simpa using h0
  refine Tri.skip ?_;refine Y22 ?_;refine Y38 ?_;refine Tri.block (Tri.loopW (σ := {i : Nat // m9 (fun c => E9 (csP c)) (cs.take i) = 0}) (fun i => ⟨[(3, .ptr 3 [] 206), (4, .ptr 4 [] 32), (5, .ptr 5 [] 3), (6, .ptr 6 [] 37), (22, .pu (.sl 0 106 (C7 0 cs))), (23, iv .i64 (C7 0 cs).length), (24, iv .i64 i.1)], [(3, .var 206 (chV members)), (4, .var 32 (.pu (tmc 0 (.mk k n r ks cs)))), (5, .var 3 (iv .i64 bound)), (6, .var 37 (iv .i64 0)), (901, .var 3 (iv .i64 depth))]⟩) (fun i => cs.length - i.1) ⟨0, rfl⟩ ?_ ?_ (fun i => ?_))
  ·exact zW
  ·exact zW
  refine Y30 ?_;refine Cq ?_ ?_
  ·intro h1
   have hi : i.1 < cs.length := by rw [o5] at h1; simpa using h1
   have hcz := L0 (List.getElem_mem hi)
   have hpz : k9 (csP cs[i.1]) ≤ u7 cs[i.1] := by generalize cs[i.1] = c; cases c; simp only [csP, u7]; omega
   have hget := ad7 (lo := 0) hi
   rw [bQ5] at hget
   refine Y76 ?_;refine Xq hget ?_;refine yL ?_;refine a8 SS 9 ?_;refine yS ?_;refine a6 [9] ?_;refine Y14 ?_;refine Dq (ap1 _ (csP cs[i.1]) (Nat.le_refl _) (by omega)) ?_;refine Y12 ?_;refine Y15 ?_;refine Y0 ?_;refine Cq ?_ ?_
   ·intro h2
    have h2' : E9 (csP cs[i.1]) ≠ 0 := by simpa using h2
    have hf : m9 (fun c => E9 (csP c)) (cs.take (i.1 + 1)) = E9 (csP cs[i.1]) := by rw [G2 _ hi, if_pos i.2]
    have hf2 := V8 (fun c => E9 (csP c)) (l := cs) (i := i.1 + 1) (by rw [hf]; exact h2')
    refine Y1 ?_;refine Y10 ?_;refine Rcz ?_;exact d4 (by simp [N0, orE, h0', hf2, hf, h2'])
   ·intro h2
    have h2' : E9 (csP cs[i.1]) = 0 := by simpa using h2
    have hnext : m9 (fun c => E9 (csP c)) (cs.take (i.1 + 1)) = 0 := by rw [G2 _ hi, if_pos i.2, h2']
    refine Y52 ?_
    refine ⟨⟨i.1 + 1, hnext⟩, by show cs.length - (i.1 + 1) < cs.length - i.1; omega, k7 ?_ ?_⟩
    ·exact zE
    ·exact zH
  ·intro h1
   have hz1 : m9 (fun c => E9 (csP c)) cs = 0 := by have := i.2; rwa [List.take_of_length_le (by rw [o5] at h1; simp at h1; omega)] at this
   have hz2 := cb7 members depth bound k n r ks cs
   have haerr : N0 members depth bound (.mk k n r ks cs) = zOf ((K6 (.mk k n r ks cs)).findSome? (U8 members depth bound)) := by rw [hz2]; simp [N0, orE, h0', hz1]
   refine Tri.exit ?_;refine Y5 ?_;refine a9 (bL6 (.mk k n r ks cs)) ?_;refine a6 [801] ?_;refine Y77 ?_;refine tQ ?_;refine Tri.overFunc 900 [801, 3, 5, 901, 6, 900] [6, 900] [(3, .ptr 3 [] 206), (5, .ptr 5 [] 3), (6, .ptr 6 [] 37)] (bA3 (.mk k n r ks cs) hsz members depth bound (U8 members depth bound)) (by intro x _; rfl) (fun x hx r w0 M ρ0 D0 l => ?_) (fun hdone => ?_) (fun z hz => ?_)
   ·skip
    refine yR ?_;refine a8 SS 12 ?_;refine yS ?_;refine a6 [12] ?_
    refine ⟨rfl, ?_⟩
    have hit := bD1 hx
    have hcall := ih x.t (by omega) (by omega) (bound + x.more) (by omega) (by omega)
    refine Y77 ?_;refine Y5 ?_;refine Y3 ?_;refine yL ?_;refine Y3 ?_;refine yI ?_;refine b5 (p6 (fun _ => hcall)) ?_;refine Y12 ?_;refine Y15 ?_;refine Y0 ?_;refine Cq ?_ ?_
    ·intro h3
     have h3' : U8 members depth bound x = some (N0 members depth (bound + x.more) x.t) := by unfold U8; rw [if_neg (by simpa using h3)]
     refine Y1 ?_;refine Y10 ?_;refine Tri.ret ⟨rfl, ?_, ?_⟩
     ·rw [h3']; rfl
     ·rw [h3']; exact .cons rfl (ObImp.refl _) .nil
    ·intro h3
     have h3' : U8 members depth bound x = none := by unfold U8; rw [if_pos (by simpa using h3)]
     refine Tri.skip ?_
     refine ⟨rfl, ?_, ?_⟩
     ·rw [h3']; rfl
     ·rw [h3']; exact .cons rfl (ObImp.refl _) .nil
   ·skip
    refine yR ?_;refine Y10 ?_;refine Rcz ?_;exact d4 (by rw [haerr, hdone]; rfl)
   ·skip
    exact Tri.ret ⟨.inr rfl, A9 rfl n9 (d4 (by rw [haerr, hz]; rfl)), .nil⟩
end
section
variable {G : List (Nat × TypeId × Pu)}
def p9 (t : Tm) (depth members : Int) : Int := if (n3 300 60 1 0 t).1 then 11 else N0 members depth 0 t
theorem aJ7 (t : Tm) (hN : a5 t < 2^40) (depth members : Int) : FCall Tryz.prog G 60 [.pu (tmc 0 t), iv .i64 depth, iv .i64 members] (iv .i64 (p9 t depth members)) := by
 refine Fq 18 Tryz.func60 ?_;intro w0 M ρ0 D0
 refine Y45 ?_;refine o9 SS 901 ?_;refine yB ?_;refine a6 [3, 901] ?_;refine yR ?_;refine yT ?_;refine o9 SS 90 ?_;refine yL ?_;refine a9 (cd6 _ t (Nat.le_refl _) hN 1 0 (by omega) (by omega)) ?_;refine a6 [90] ?_;refine tQ ?_;refine Cq ?_ ?_
 ·intro h0
  refine Y9 ?_;refine Rq ?_;exact d4 (by simp [p9, h0])
 ·intro h0
  refine Y72 ?_;refine b5 (H8 SS) ?_;refine yP ?_;refine a8 SS 7 ?_;refine yS ?_;refine a6 [7] ?_;refine Y43 ?_;refine b5 (p6 (fun _ => cg8 members depth _ t (Nat.le_refl _) hN 0 (by omega) (by omega))) ?_;refine Y2 ?_;refine Rq ?_;exact d4 (by simp [p9, h0])
abbrev KT := List Int × Tm
def ktP (x : KT) : Pu := .agg 116 [f5 x.1, tmc 0 x.2]
def wdP (a b : Pu) (ts : List KT) : Pu := .agg 26 [a, b, .sl 0 116 (ts.map ktP)]
instance (x : KT) : TyV Tryz.prog 116 (.pu (ktP x)) := inferInstanceAs (TyV Tryz.prog 116 (.pu (.agg _ _)))
instance (a b : Pu) (ts : List KT) : TyV Tryz.prog 26 (.pu (wdP a b ts)) := inferInstanceAs (TyV Tryz.prog 26 (.pu (.agg _ _)))
theorem bb0 {ts : List KT} {i : Nat} (h : i < ts.length) : (ts.map ktP)[i]? = some (ktP ts[i]) := by simp [h]
theorem bC5 {D : Nat → Nat → Prop} {w : World} : ∀ {ts : List KT} {cs : List (Nat × TypeId)} {x : List Value}, PRs Tryz.prog D w cs (ts.map ktP) x → ∀ x ∈ ts, x.1.length = 32
 | [], _, _, _, x, hx => by cases hx
 | t :: ts, _, _, h, x, hx => by
  obtain ⟨⟨_, h1⟩, _, _, h2⟩ := l6 h
  rcases List.mem_cons.1 hx with rfl | hx
  ·obtain ⟨_, h1⟩ := W4 h1
   obtain ⟨⟨_, h1⟩, _⟩ := l6 h1
   exact U7 h1
  ·exact bC5 h2 x hx
theorem bd9 {D : Nat → Nat → Prop} {w : World} {a b : Pu} {ts : List KT} {x : List Value} (h : PR Tryz.prog D w (wdP a b ts) x) : ∀ x ∈ ts, x.1.length = 32 := by
 obtain ⟨_, h⟩ := W4 h
 obtain ⟨_, _, _, h⟩ := l6 h
 obtain ⟨_, _, _, h⟩ := l6 h
 obtain ⟨⟨_, h⟩, _⟩ := l6 h
 obtain ⟨_, _, h⟩ := aE9 h
 exact bC5 h
def R3 (l : List (List Int × PV)) : List (Pu × PV) := l.map fun x => (f5 x.1, x.2)
def Q4 (s : List Int) : List (List Int × PV) → Option PV
 | [] => none
 | x :: l => if s = x.1 then some x.2 else Q4 s l
theorem V9 {s : List Int} (hs : s.length = 32) : ∀ {l : List (List Int × PV)} {i : Nat}, (∀ x ∈ l, x.1.length = 32) → Q4 s l = none → ab3 Tryz.prog 28 (f5 s) (R3 l) i = some none
 | [], _, _, _ => rfl
 | x :: l, i, h, hn => by
  simp only [Q4] at hn
  split at hn
  ·cases hn
  ·rename_i hne
   simp only [R3, List.map_cons, ab3, ap9 (hs.trans (h x (by simp)).symm)]
   rw [show (s == x.1) = false by simpa using hne];exact V9 hs (fun y hy => h y (by simp [hy])) hn
theorem ax7 {s : List Int} (hs : s.length = 32) : ∀ {l : List (List Int × PV)} {i : Nat} {v : PV}, (∀ x ∈ l, x.1.length = 32) → Q4 s l = some v → ∃ j, ab3 Tryz.prog 28 (f5 s) (R3 l) i = some (some (j, v))
 | [], _, _, _, h => by cases h
 | x :: l, i, v, h, hn => by
  simp only [Q4] at hn
  simp only [R3, List.map_cons, ab3, ap9 (hs.trans (h x (by simp)).symm)]
  split at hn
  ·rename_i he
   simp at hn
   rw [show (s == x.1) = true by simpa using he];exact ⟨i, by rw [hn]⟩
  ·rename_i hne
   rw [show (s == x.1) = false by simpa using hne];exact ax7 hs (fun y hy => h y (by simp [hy])) hn
theorem ao2 {s : List Int} {V : TypeId} {z : PV} {l : List (List Int × PV)} (hz : SS.Z V = some z) (hs : s.length = 32) (h : ∀ x ∈ l, x.1.length = 32) (hn : Q4 s l = none) : V1 Tryz.prog SS 28 V (f5 s) (R3 l) = some (z, false) := by
 unfold V1
 rw [V9 hs h hn, hz]
theorem aa2 {s : List Int} {V : TypeId} {v : PV} {l : List (List Int × PV)} (hs : s.length = 32) (h : ∀ x ∈ l, x.1.length = 32) (hn : Q4 s l = some v) : V1 Tryz.prog SS 28 V (f5 s) (R3 l) = some (v, true) := by
 unfold V1
 obtain ⟨j, hj⟩ := ax7 (i := 0) hs h hn
 rw [hj]
theorem ac8 (l : List (List Int × PV)) : ∀ q ∈ R3 l, tyP Tryz.prog 28 q.1 = true := by
 intro q hq
 obtain ⟨x, _, rfl⟩ := List.mem_map.1 hq
 exact (J2 x.1 x.1).2.2.1
theorem Q3 (l : List (List Int × PV)) (s : List Int) (v : PV) : R3 (l ++ [(s, v)]) = R3 l ++ [(f5 s, v)] := by simp [R3]
instance {V : TypeId} {α : Type} {l : List α} {f : α → List Int} {g : α → Pu} : NoLab (.map 28 V (R3 (l.map fun x => (f x, .pu (g x))))) := ⟨by
 have := (NoLab.map (K := 28) (V := V) (l := l) (f := fun x => f5 (f x)) (g := fun x => .pu (g x)) (fun _ => rfl)).ok
 unfold R3
 rw [List.map_map]
 exact this⟩
instance {K V : TypeId} {es : List (Pu × PV)} {k p : Pu} [h : NoLab (.map K V es)] : NoLab (.map K V (es ++ [(k, .pu p)])) := ⟨by
 have h1 : PV.labsL (es.map (·.2)) = [] := h.ok
 show PV.labsL ((es ++ [(k, PV.pu p)]).map (·.2)) = []
 rw [List.map_append]
 generalize es.map (·.2) = l at h1 ⊢
 induction l with
 | nil => rfl
 | cons a l ih => simp only [PV.labsL, List.append_eq_nil_iff, List.cons_append] at h1 ⊢; exact ⟨h1.1, ih h1.2⟩⟩
def av6 (ts : List KT) : List (List Int × PV) := ts.map fun x => (x.1, bv true)
theorem ai3 {s : List Int} : ∀ {ts : List KT}, Q4 s (av6 ts) = if s ∈ ts.map (·.1) then some (bv true) else none
 | [] => by simp [av6, Q4]
 | x :: ts => by
  have ih := ai3 (s := s) (ts := ts)
  unfold av6 at ih ⊢
  simp only [List.map_cons, Q4, ih, List.mem_cons]
  by_cases h : s = x.1
  ·simp [h]
  ·simp only [h, if_false, false_or]
instance {V : TypeId} {ts : List KT} : NoLab (.map 28 V (R3 (av6 ts))) := inferInstanceAs (NoLab (.map 28 V (R3 (ts.map fun x => (x.1, .pu (.leaf (.bool true)))))))
theorem aC7 {ts : List KT} {i : Nat} (h : i < ts.length) : av6 (ts.take (i + 1)) = av6 (ts.take i) ++ [(ts[i].1, bv true)] := by
 unfold av6
 rw [List.take_succ_eq_append_getElem h, List.map_append]; rfl
theorem bM4 {ts : List KT} (h : ∀ x ∈ ts, x.1.length = 32) : ∀ x ∈ av6 ts, x.1.length = 32 := by
 intro x hx
 obtain ⟨y, hy, rfl⟩ := List.mem_map.1 hx
 exact h y hy
def bs7 (ts : List KT) : Bool := !decide (ts.map (·.1)).Nodup
def i9 (ts : List KT) (t : Tm) : Int := if decide ((ts.length : Int) > 40) then 2 else orE (m9 (fun x => p9 x.2 0 0) ts) (if bs7 ts then 5 else p9 t 0 0)
theorem av4 {α : Type} {l : List α} {i : Nat} (h : i < l.length) : (l.take (i + 1)).Nodup ↔ (l.take i).Nodup ∧ l[i] ∉ l.take i := by
 rw [List.take_succ_eq_append_getElem h, List.nodup_append]
 simp only [List.nodup_cons, List.not_mem_nil, not_false_eq_true, List.nodup_nil, and_self, true_and, List.mem_singleton]
 exact ⟨fun ⟨h1, h2⟩ => ⟨h1, fun hm => h2 _ hm _ rfl rfl⟩, fun ⟨h1, h2⟩ => ⟨h1, fun a ha b hb e => h2 (by rw [← hb, ← e]; exact ha)⟩⟩
theorem Z3 (a b : Pu) (ts : List KT) (t : Tm) (hts : ∀ x ∈ ts, a5 x.2 < 2^40) (hN : a5 t < 2^40) : FCall Tryz.prog G 19 [.pu (wdP a b ts), .pu (tmc 0 t)] (iv .i64 (i9 ts t)) := by
 refine Fq 47 Tryz.func19 ?_;intro w0 M ρ0 D0
 refine Tri.fact (i := 0) rfl (fun D w x h => bd9 h) (fun hr => ?_);refine Y65 ?_;refine yB ?_;refine a6 [2, 3] ?_;refine Y22 ?_;refine yC ?_;refine Y53 ?_;refine Cq ?_ ?_
 ·intro h0
  refine Y9 ?_;refine Rq ?_;exact d4 (by simp at h0; simp [i9, h0])
 ·intro h0
  have hts40 : ¬ ((ts.length : Int) > 40) := by simpa using h0
  refine Tri.skip ?_;refine Y22 ?_;refine Y38 ?_;refine Tri.block (Tri.loopW (σ := {i : Nat // m9 (fun x : KT => p9 x.2 0 0) (ts.take i) = 0}) (fun i => ⟨[(2, .ptr 2 [] 26), (3, .ptr 3 [] 32), (16, .pu (.sl 0 116 (ts.map ktP))), (17, iv .i64 (ts.map ktP).length), (18, iv .i64 i.1)], [(2, .var 26 (.pu (wdP a b ts))), (3, .var 32 (.pu (tmc 0 t)))]⟩) (fun i => ts.length - i.1) ⟨0, rfl⟩ ?_ ?_ (fun i => ?_))
  ·exact zW
  ·exact zW
  refine Y30 ?_;refine Cq ?_ ?_
  ·intro h1
   have hi : i.1 < ts.length := by simpa using h1
   refine Y76 ?_;refine b5 (j6 SS (h0 := by omega) (hp := bb0 hi)) ?_;refine yL ?_;refine a8 SS 6 ?_;refine yS ?_;refine a6 [6] ?_;refine Y14 ?_;refine Dq (aJ7 ts[i.1].2 (hts _ (List.getElem_mem hi)) 0 0) ?_;refine Y12 ?_;refine Y15 ?_;refine Y0 ?_;refine Cq ?_ ?_
   ·intro h2
    have h2' : p9 ts[i.1].2 0 0 ≠ 0 := by simpa using h2
    have hf : m9 (fun x : KT => p9 x.2 0 0) (ts.take (i.1 + 1)) = p9 ts[i.1].2 0 0 := by rw [G2 _ hi, if_pos i.2]
    have hf2 := V8 (fun x : KT => p9 x.2 0 0) (l := ts) (i := i.1 + 1) (by rw [hf]; exact h2')
    refine Y1 ?_;refine Y2 ?_;refine Rq ?_;exact d4 (by simp [i9, hts40, orE, hf2, hf, h2'])
   ·intro h2
    have h2' : p9 ts[i.1].2 0 0 = 0 := by simpa using h2
    have hnext : m9 (fun x : KT => p9 x.2 0 0) (ts.take (i.1 + 1)) = 0 := by rw [G2 _ hi, if_pos i.2, h2']
    refine Y52 ?_
    refine ⟨⟨i.1 + 1, hnext⟩, by show ts.length - (i.1 + 1) < ts.length - i.1; omega, k7 ?_ ?_⟩
    ·exact zE
    ·exact zH
  ·intro h1
   have hz1 : m9 (fun x : KT => p9 x.2 0 0) ts = 0 := by have := i.2; rwa [List.take_of_length_le (by simp at h1; omega)] at this
   refine Tri.exit ?_;refine yR ?_;refine aB6 29 ?_;refine yA ?_;refine a6 [29] ?_;refine Y22 ?_;refine Y38 ?_;refine Tri.block (Tri.loopW (σ := {i : Nat // ((ts.take i).map (·.1)).Nodup}) (fun i => ⟨[(2, .ptr 2 [] 26), (3, .ptr 3 [] 32), (31, .pu (.sl 0 116 (ts.map ktP))), (32, iv .i64 (ts.map ktP).length), (33, iv .i64 i.1), (8, .mp 29 28 4)], [(2, .var 26 (.pu (wdP a b ts))), (3, .var 32 (.pu (tmc 0 t))), (29, .map 28 4 (R3 (av6 (ts.take i.1))))]⟩) (fun i => ts.length - i.1) ⟨0, by simp⟩ ?_ ?_ (fun i => ?_))
   ·exact zW
   ·exact zW
   refine Y30 ?_;refine Cq ?_ ?_
   ·intro h3
    have hi : i.1 < ts.length := by simpa using h3
    have hr1 := hr _ (List.getElem_mem hi)
    have hr2 := bM4 (fun x hx => hr x (List.mem_of_mem_take hx)) (ts := ts.take i.1)
    have hdup := av4 (l := ts.map (·.1)) (i := i.1) (by simpa using hi)
    rw [List.map_take.symm, List.map_take.symm, List.getElem_map] at hdup
    have hget : V1 Tryz.prog SS 28 4 (f5 ts[i.1].1) (R3 (av6 (ts.take i.1))) = some (bv (decide (ts[i.1].1 ∈ (ts.take i.1).map (·.1))), decide (ts[i.1].1 ∈ (ts.take i.1).map (·.1))) := by
     by_cases hm : ts[i.1].1 ∈ (ts.take i.1).map (·.1)
     ·rw [aa2 hr1 hr2 (by rw [ai3, if_pos hm]), decide_eq_true hm]
     ·rw [ao2 (z := bv false) (by kernel_rfl) hr1 hr2 (by rw [ai3, if_neg hm]), decide_eq_false hm]
    refine Y76 ?_;refine b5 (j6 SS (h0 := by omega) (hp := bb0 hi)) ?_;refine yL ?_;refine a8 SS 10 ?_;refine yS ?_;refine a6 [10] ?_;refine Y1 ?_;refine Y3 ?_;refine b5 (ag7 SS rfl rfl rfl (VImp.refl _) (ac8 _) (J2 _ [] ).2.2.1 hget) ?_;refine Y0 ?_;refine Cq ?_ ?_
    ·intro h4
     have hm : ts[i.1].1 ∈ (ts.take i.1).map (·.1) := by simpa using h4
     have hnd : ¬ (ts.map (·.1)).Nodup := fun hn => by
      have h2 : ((ts.take (i.1 + 1)).map (·.1)).Nodup := by rw [List.map_take]; exact hn.sublist (List.take_sublist _ _)
      exact (hdup.1 h2).2 hm
     refine Y9 ?_;refine Rq ?_;exact d4 (by simp [i9, hts40, orE, hz1, bs7, hnd])
    ·intro h4
     have hm : ts[i.1].1 ∉ (ts.take i.1).map (·.1) := by simpa using h4
     have hnone : Q4 ts[i.1].1 (av6 (ts.take i.1)) = none := by rw [ai3, if_neg hm]
     have hnext : ((ts.take (i.1 + 1)).map (·.1)).Nodup := hdup.2 ⟨i.2, hm⟩
     refine Y72 ?_;refine Y3 ?_;refine an4 SS (u := bv true) rfl rfl rfl rfl (VImp.refl _) rfl (VImp.refl _) rfl (ac8 _) (J2 _ [] ).2.2.1 (V9 hr1 hr2 hnone) (labs := []) (fun l' h => by rw [NoLab.ok] at h; exact h) ?_;refine A7 ?_;refine Y25 ?_
     refine ⟨⟨i.1 + 1, hnext⟩, by show ts.length - (i.1 + 1) < ts.length - i.1; omega, k7 ?_ ?_⟩
     ·repeat (first | exact SubE.nil | refine SubE.cons rfl (by first | rfl | (rw [b4 (by omega) (by omega)]; rfl) | (simp only [aC7 hi, Q3])) ?_)
     ·repeat (first | exact SubH.nil | refine SubH.cons rfl (by first | rfl | (rw [b4 (by omega) (by omega)]; rfl) | (simp only [aC7 hi, Q3])) ?_)
   ·intro h3
    have hnd : (ts.map (·.1)).Nodup := by have := i.2; rwa [List.take_of_length_le (by simp at h3; omega)] at this
    refine Tri.exit ?_;refine Y5 ?_;refine Dq (aJ7 t hN 0 0) ?_;refine Y2 ?_;refine Rq ?_;exact d4 (by simp [i9, hts40, orE, hz1, bs7, hnd])
end
section
variable {G : List (Nat × TypeId × Pu)}
theorem ah2 : ∀ (N : Nat) (p : Pat), k9 p ≤ N → N < 2^30 → FCallN Tryz.prog G 221 [.pu (A6 0 p)] (fun n => .pu (A6 n p)) := by
 intro N
 induction N with
 | zero => intro p h; cases p; simp [k9] at h
 | succ N ih =>
 intro p hp hN
 obtain ⟨k, n, r, ks⟩ := p
 simp only [k9] at hp
 have hlen := o4 ks
 refine FCallN.of_tri tbl 24 Tryz.func221 rfl rfl (fun _ => rfl) fun w0 M ρ0 D0 hM => ?_
 refine Y68 ?_;refine Y22 ?_;refine Y12 ?_;refine yR ?_;refine yF ?_;refine Y17 ?_;refine Y1 ?_;refine yC ?_;refine yJ ?_;refine A7 ?_
 refine Tri.ghost (Ghost.wk (env' := [(1, .ptr 1 [] 104), (2, .ptr 2 [] 104), (9, .pu (.sl 0 104 (v6 0 ks))), (10, iv .i64 (v6 0 ks).length), (11, iv .i64 0)])
  (heap' := [(1, .var 104 (.agg 104 [iv .i64 k, iv .i64 n, .pu (f5 r), .ow w0.heap.size 104 []])), (2, .var 104 (.agg 104 [iv .i64 0, iv .i64 0, .pu (f5 Z32), .nilc]))])
  (.cons rfl .refl (.cons rfl .refl (.cons rfl .refl (.cons rfl .refl (.cons rfl .refl .nil))))) (.cons rfl (.var (.agg (.cons .refl (.cons .refl (.cons .refl (.cons .nilcOw .nil)))))) (.cons rfl .refl .nil))) ?_
 refine tQ ?_
 refine Tri.block (Tri.loop (σ := Nat) (fun i => ⟨[(1, .ptr 1 [] 104), (2, .ptr 2 [] 104), (9, .pu (.sl 0 104 (v6 0 ks))), (10, iv .i64 (v6 0 ks).length), (11, iv .i64 i)],
  [(1, .var 104 (.agg 104 [iv .i64 k, iv .i64 n, .pu (f5 r), .ow w0.heap.size 104 (v6 w0.heap.size (ks.take i))])), (2, .var 104 (.agg 104 [iv .i64 0, iv .i64 0, .pu (f5 Z32), .nilc]))]⟩) (fun i => ks.length - i) 0 ?_ (fun i => ?_))
 ·exact k7 (.cons rfl rfl (.cons rfl rfl (.cons rfl rfl (.cons rfl rfl (.cons rfl rfl .nil))))) (.cons rfl rfl (.cons rfl rfl .nil))
 refine Y4 ?_;refine A7 ?_;refine Tri.seq (Tri.cond rfl (fun hb => Tri.skip ?_) (fun hb => Tri.exit ?_))
 ·have hi : i < ks.length := by simpa [A4] using hb
  refine Tri.seq (Tri.block ?_);refine yR ?_;refine b5 (j6 SS (h0 := by omega) (hp := L6 hi)) ?_;refine yL ?_;refine a8 SS 5 ?_;refine yS ?_;refine a6 [5] ?_;refine Y22 ?_;refine yL ?_;refine b5 (F2 (fun m n h => (ah9 h _).imp) (fun _ => ih ks[i] (by have := x6 hi; omega) (by omega))) ?_;refine yZ ?_;refine O1 1 [3] ?_ ?_
  ·simp [A4]; omega
  refine yF ?_;refine yW ?_;refine x8 ?_;refine Y25 ?_
  refine ⟨i + 1, by omega, k7 (.cons rfl rfl (.cons rfl rfl (.cons rfl rfl (.cons rfl rfl (.cons rfl ?_ .nil))))) (.cons rfl ?_ (.cons rfl rfl .nil))⟩
  ·rw [b4 (by omega) (by omega)]
   rfl
  ·have : v6 w0.heap.size (ks.take (i + 1)) = v6 w0.heap.size (ks.take i) ++ [A6 w0.heap.size ks[i]] := by
    rw [A4, A4, List.take_succ_eq_append_getElem hi, List.map_append]; rfl
   rw [this]
   rfl
 have hi : ks.length ≤ i := by simpa [A4] using hb
 refine Y5 ?_;refine Y17 ?_;refine Tri.ret ⟨.inr rfl, A9 rfl n9 (ToPu.imp ?_)⟩;rw [List.take_of_length_le hi]
 repeat constructor
end
section
variable {G : List (Nat × TypeId × Pu)}
theorem aE8 {α : Type} (φ : α → Bool) (c : Int) : ∀ l : List α, ap6 (fun c a => (φ a, c)) c l = (l.any φ, c)
 | [] => rfl
 | a :: l => by
  have ih := aE8 φ c l
  simp only [ap6, List.any_cons]
  cases φ a
  ·simpa using ih
  ·rfl
abbrev fV (f : FuncId) : PV := .pu (.leaf (.func (.func f) #[] #[]))
theorem bF3 (f : FuncId) (he : j8 Tryz.prog f = true) (x : Tm) (b : Bool) (h : FCall Tryz.prog G f [.pu (tmc 0 x)] (bv b)) :
  HCall Tryz.prog G 165 [.pu (tmc 0 x), .ptr 3 [] 45] [(3, .var 45 (fV f))] [] (bv (!b)) [] [] := by
 refine HCall.of_triD tbl 8 [3] Tryz.func165 rfl rfl rfl fun w0 M ρ0 D0 => ?_
 refine yR ?_;refine o9 SS 31 ?_;refine yB ?_;refine a6 [31] ?_;refine Y43 ?_;refine b5 (p6 (fun _ => h) (he := he)) ?_;refine yQ ?_;refine Y2 ?_;refine Rqz ?_;exact VImp.refl _
theorem bj6 (f : FuncId) (he : j8 Tryz.prog f = true) (φ : Tm → Bool) (ks : List Tm) (hl : ks.length < 2^60) (h : ∀ x ∈ ks, FCall Tryz.prog G f [.pu (tmc 0 x)] (bv (φ x))) :
  FCall Tryz.prog G 96 [.pu (.sl 0 32 (l5 0 ks)), fV f] (bv (ks.all φ)) := by
 have hA : ∃ r : Option Nat, r.isSome = !(ks.all φ) ∧ AnyC Tryz.prog G 165 [] [.ptr 3 [] 45] [(3, .var 45 (fV f))] (l5 0 ks) [] r [] := by
  have := AnyC.state (P := Tryz.prog) (G := G) (f := 165) (first := []) (captured := [.ptr 3 [] 45]) (HR := [(3, .var 45 (fV f))]) (tmc 0) (fun c a => (!φ a, c)) (fun _ => []) (fun _ => True) (fun _ => rfl) ks (fun a ha c _ => ⟨bF3 f he a (φ a) (h a ha), fun _ => trivial⟩) 0 trivial
  rw [aE8] at this
  obtain ⟨r, h1, h2⟩ := this
  refine ⟨r, by rw [h1, List.not_all_eq_any_not], ?_⟩
  rw [o8]; exact h2
 obtain ⟨r, hr, hA⟩ := hA
 refine Fq 9 Tryz.func96 ?_;intro w0 M ρ0 D0
 refine Y45 ?_;refine yB ?_;refine a6 [3] ?_;refine Y1 ?_;refine b5 (H8 SS) ?_;refine a9 (aJ6 (lo := 0) (.fn (.func 165) [] [.ptr 3 [] 45]) (by rw [a7]; omega) hA) ?_;refine yQ ?_;refine Y2 ?_;refine Rq ?_;exact l7 (by rw [hr]; simp)
mutual
def P2 : Tm → Bool
 | .mk k _ _ ks _ => k == 2 || k == 3 || (k == 8 && aW8 ks)
def aW8 : List Tm → Bool
 | [] => true
 | t :: ts => P2 t && aW8 ts
end
theorem be1 : ∀ ks, aW8 ks = ks.all P2
 | [] => rfl
 | t :: ts => by simp [aW8, be1 ts]
theorem aF1 : ∀ (N : Nat) (t : Tm), a5 t ≤ N → N < 2^40 → FCall Tryz.prog G 21 [.pu (tmc 0 t)] (bv (P2 t)) := by
 intro N
 induction N with
 | zero => intro t h; have := r9 t; omega
 | succ N ih =>
 intro t hp hN
 obtain ⟨k, n, r, ks, cs⟩ := t
 simp only [a5] at hp
 have hlen := l8 ks
 refine Fq 21 Tryz.func21 ?_;intro w0 M ρ0 D0
 refine Y44 ?_;refine yB ?_;refine a6 [1] ?_;refine Y78 ?_;refine Y47 ?_;refine xI ?_;refine xM ?_;refine Y7 ?_;refine q8 zG (o6 (fun _ => bj6 21 (by kernel_rfl) P2 ks (by omega) (fun x hx => ih x (by have := w8 hx; omega) (by omega)))) ?_;refine xN ?_;refine yO ?_;refine Y2 ?_;refine Rq ?_;exact l7 (by simp only [P2, be1])
end
section
variable {G : List (Nat × TypeId × Pu)}
mutual
def A1 (vs : List Tm) (d : Int) : Tm → Tm
 | .mk k n r ks cs =>
  if hC : k = 1 ∧ 0 ≤ IntKind.wrap .i64 (n - d) ∧ 0 < vs.length then
   if h : IntKind.wrap .i64 (n - d) < vs.length then vs[vs.length - 1 - (IntKind.wrap .i64 (n - d)).toNat]'(by omega)
   else .mk k (IntKind.wrap .i64 (n - vs.length)) r (P4 vs d k 0 ks) (L5 vs d cs)
  else .mk k n r (P4 vs d k 0 ks) (L5 vs d cs)
def P4 (vs : List Tm) (d k : Int) (i : Nat) : List Tm → List Tm
 | [] => []
 | t :: ts => A1 vs (d + j0 k i) t :: P4 vs d k (i + 1) ts
def L5 (vs : List Tm) (d : Int) : List Cs → List Cs
 | [] => []
 | c :: cs => aA2 vs d c :: L5 vs d cs
def aA2 (vs : List Tm) (d : Int) : Cs → Cs
 | .mk q t => .mk q (A1 vs (d + j2 q) t)
end
theorem S4 (vs : List Tm) (d k : Int) : ∀ (ks : List Tm) (i : Nat), (P4 vs d k i ks).length = ks.length
 | [], _ => rfl
 | t :: ts, i => by simp [P4, S4 vs d k ts]
theorem aN8 (vs : List Tm) (d k : Int) : ∀ (ks : List Tm) (i j : Nat) (h : j < ks.length), (P4 vs d k i ks)[j]'(by rw [S4]; exact h) = A1 vs (d + j0 k ((i + j : Nat) : Int)) ks[j]
 | t :: ts, i, 0, _ => by simp [P4]
 | t :: ts, i, j + 1, h => by
  have := aN8 vs d k ts (i + 1) j (by simpa using h)
  simp only [P4, List.getElem_cons_succ, this]
  rw [show i + 1 + j = i + (j + 1) by omega]
theorem Z7 (vs : List Tm) (d : Int) : ∀ (cs : List Cs), (L5 vs d cs).length = cs.length
 | [] => rfl
 | t :: ts => by simp [L5, Z7 vs d ts]
theorem aO0 (vs : List Tm) (d : Int) : ∀ (cs : List Cs) (j : Nat) (h : j < cs.length), (L5 vs d cs)[j]'(by rw [Z7]; exact h) = aA2 vs d cs[j]
 | t :: ts, 0, _ => by simp [L5]
 | t :: ts, j + 1, h => by simpa [L5] using aO0 vs d ts j (by simpa using h)
def at4 (lo : Nat) (out ks : List Tm) (i : Nat) : List PV := ((out.take i).map (tmc lo) ++ (ks.drop i).map (tmc 0)).map .pu
theorem bo6 (lo : Nat) (out ks : List Tm) : at4 lo out ks 0 = (l5 0 ks).map .pu := by simp [at4, o8]
theorem by9 (lo : Nat) (out ks : List Tm) (h : out.length = ks.length) {i : Nat} (hi : ks.length ≤ i) : at4 lo out ks i = (l5 lo out).map .pu := by
 simp [at4, o8, List.take_of_length_le (show out.length ≤ i by omega), List.drop_of_length_le hi]
theorem by8 (lo : Nat) (out ks : List Tm) (h : out.length = ks.length) {i : Nat} (hi : i < ks.length) : (at4 lo out ks i)[i]? = some (.pu (tmc 0 ks[i])) := by
 unfold at4
 rw [List.getElem?_map, List.getElem?_append_right (by simp; omega)]
 simp [List.length_take, Nat.min_eq_left (show i ≤ out.length by omega), hi]
theorem by7 (lo : Nat) (out ks : List Tm) (h : out.length = ks.length) {i : Nat} (hi : i < ks.length) : (at4 lo out ks i).set i (.pu (tmc lo (out[i]'(by omega)))) = at4 lo out ks (i + 1) := by
 unfold at4
 have e1 : ks.drop i = ks[i] :: ks.drop (i + 1) := List.drop_eq_getElem_cons hi
 rw [List.take_succ_eq_append_getElem (show i < out.length by omega), e1]
 simp only [List.map_append, List.map_cons, List.map_nil, List.append_assoc, List.cons_append, List.nil_append, List.map_take, List.map_drop]
 rw [List.set_append_right _ _ (by simp; omega)]
 simp [List.length_take, Nat.min_eq_left (show i ≤ out.length by omega)]
instance {lo : Nat} {out ks : List Tm} {i : Nat} : NoLab (.row 32 (at4 lo out ks i)) := NoLab.row (f := id)
theorem ba6 (k : Int) (i : Int) : 0 ≤ j0 k i ∧ j0 k i ≤ 2 := by unfold j0; split <;> (try split) <;> simp
set_option maxHeartbeats 1000000 in
theorem bz3 (vs : List Tm) (hvl : vs.length < 2^30) (hvs : ∀ v ∈ vs, FCallN Tryz.prog G 156 [.pu (tmc 0 v), iv .i64 0, .pu (.sl 0 32 [])] (fun m => .pu (tmc m v))) : ∀ (N : Nat) (t : Tm), a5 t ≤ N → N < 2^30 → ∀ d : Int, 0 ≤ d → d + 2 * a5 t ≤ 2^42 →
  FCallN Tryz.prog G 156 [.pu (tmc 0 t), iv .i64 d, .pu (.sl 0 32 (l5 0 vs))] (fun m => .pu (tmc m (A1 vs d t))) := by
 intro N
 induction N with
 | zero => intro t h; have := r9 t; omega
 | succ N ih =>
 intro t hp hN d hd0 hd1
 obtain ⟨k, n, r, ks, cs⟩ := t
 simp only [a5] at hp hd1
 have hlen := l8 ks
 have hlenc := s6 cs
 obtain ⟨out, hout⟩ : ∃ out, out = P4 vs d k 0 ks := ⟨_, rfl⟩
 have houtl : out.length = ks.length := by rw [hout, S4]
 refine FCallN.of_tri tbl 109 Tryz.func156 rfl rfl (fun _ => rfl) fun w0 M ρ0 D0 hM => ?_
 refine Y45 ?_;refine a8 SS 6 ?_;refine a6 [3, 6] ?_;refine Y14 ?_;refine yM ?_;refine yI ?_;refine Y12 ?_;refine Y37 ?_;refine Y41 ?_;refine Y28 ?_;refine xC ?_;refine Y21 ?_;refine Y0 ?_;refine Tri.cutW (σ := {n' : Int // A1 vs d (.mk k n r ks cs) = .mk k n' r (P4 vs d k 0 ks) (L5 vs d cs)}) (fun n' => ⟨[(1, iv .i64 d), (2, .pu (.sl 0 32 (l5 0 vs))), (3, .ptr 3 [] 32), (6, .ptr 6 [] 32)], [(3, .var 32 (.pu (tmc 0 (.mk k n'.1 r ks cs)))), (6, .var 32 (.agg 32 [iv .i64 0, iv .i64 0, .pu (f5 Z32), .nilc, .nilc]))]⟩) ?_ (fun n' => ?_)
 ·skip
  refine tQ ?_;refine Cq ?_ ?_
  ·intro h0
   have hC : k = 1 ∧ 0 ≤ IntKind.wrap .i64 (n - d) ∧ 0 < vs.length := by rw [a7] at h0; simp at h0; omega
   obtain ⟨m, hm⟩ : ∃ m, m = IntKind.wrap .i64 (n - d) := ⟨_, rfl⟩
   rw [← hm] at hC
   refine Y32 ?_;refine yC ?_;refine Y53 ?_;refine Cq ?_ ?_
   ·intro h1
    have h1' : IntKind.wrap .i64 (n - d) < vs.length := by rw [a7] at h1; simpa using h1
    rw [← hm] at h1'
    have hj : vs.length - 1 - m.toNat < vs.length := by omega
    have hidx : IntKind.wrap .i64 (IntKind.wrap .i64 (((l5 0 vs).length : Int) - 1) - IntKind.wrap .i64 (n - d)) = ((vs.length - 1 - m.toNat : Nat) : Int) := by
     rw [← hm, a7, b4 (n := (vs.length : Int) - 1) (by omega) (by omega), b4 (by omega) (by omega)]; omega
    have hput : A1 vs d (.mk k n r ks cs) = vs[vs.length - 1 - m.toNat] := by
     simp only [A1, ← hm]; rw [dif_pos hC, dif_pos h1']
    refine Y32 ?_;refine yC ?_;refine yI ?_;refine yM ?_;refine yI ?_;refine b5 (j6 SS (h0 := by rw [hidx]; omega) (hp := by rw [hidx]; exact B6 hj)) ?_;refine yL ?_;refine b5 (F2 (fun m n h => (E6 h _).imp) (fun _ => hvs _ (List.getElem_mem hj))) ?_;refine Y10 ?_;refine Rc ?_;exact VImp.of_eq (by rw [hput])
   ·intro h1
    have h1' : ¬ IntKind.wrap .i64 (n - d) < vs.length := by rw [a7] at h1; simpa using h1
    have hput : A1 vs d (.mk k n r ks cs) = .mk k (IntKind.wrap .i64 (n - (l5 0 vs).length)) r (P4 vs d k 0 ks) (L5 vs d cs) := by
     rw [hm] at hC
     simp only [A1]; rw [dif_pos hC, dif_neg h1', a7]
    refine Tri.skip ?_;refine Y14 ?_;refine yM ?_;refine yC ?_;refine yI ?_;refine yF ?_;refine Y17 ?_
    refine ⟨⟨_, hput⟩, ?_, ?_⟩
    ·exact zW
    ·exact zW
  ·intro h0
   have hC : ¬ (k = 1 ∧ 0 ≤ IntKind.wrap .i64 (n - d) ∧ 0 < vs.length) := fun hC => by
    obtain ⟨a, b, c⟩ := hC
    have c' : (0 : Int) < vs.length := by omega
    rw [a7] at h0
    simp [a, b, c'] at h0
    try (rw [h0] at c; simp at c)
   have hput : A1 vs d (.mk k n r ks cs) = .mk k n r (P4 vs d k 0 ks) (L5 vs d cs) := by
    simp only [A1]; rw [dif_neg hC]
   refine Tri.skip ?_
   refine ⟨⟨_, hput⟩, ?_, ?_⟩
   ·exact zW
   ·exact zW
 ·skip
  obtain ⟨n', hput⟩ := n'
  refine Y22 ?_;refine Y8 ?_;refine yA ?_;refine yA ?_;refine x8 ?_;refine Y1 ?_;refine yC ?_;refine aZ0 SS (n := (l5 0 ks).length) 55 (by rw [a7]; omega) (by rw [a7]; omega) ?_;refine yF ?_;refine yW ?_;refine yF ?_;refine yS ?_;refine a6 [55] ?_;refine Y22 ?_;refine yM ?_;refine by3 SS ?_;refine A7 ?_;refine Y1 ?_;refine yC ?_;refine yJ ?_;refine A7 ?_;rw [← bo6 w0.heap.size out ks];refine tQ ?_
  refine Tri.block (Tri.loopW (σ := Nat) (fun i => ⟨[(1, iv .i64 d), (2, .pu (.sl 0 32 (l5 0 vs))), (3, .ptr 3 [] 32), (6, .ptr 6 [] 32), (9, .pu (.sl 0 106 (C7 0 cs))), (62, .pu (.sl 0 32 (l5 0 ks))), (63, iv .i64 (l5 0 ks).length), (64, iv .i64 i)], [(3, .var 32 (.agg 32 [iv .i64 k, iv .i64 n', .pu (f5 r), .arr 55 32 0 (l5 0 ks).length, .nilc])), (6, .var 32 (.agg 32 [iv .i64 0, iv .i64 0, .pu (f5 Z32), .nilc, .nilc])), (55, .row 32 (at4 w0.heap.size out ks i))]⟩) (fun i => ks.length - i) 0 ?_ ?_ (fun i => ?_))
  ·exact zW
  ·exact zW
  refine Y30 ?_;refine Cq ?_ ?_
  ·intro h2
   have hlt : i < (l5 0 ks).length := by simpa using h2
   have hi : i < ks.length := by rwa [a7] at hlt
   have hmo := ba6 k i
   have hsz := w8 (List.getElem_mem hi)
   have hrow := by7 w0.heap.size out ks houtl hi
   have hel : out[i]'(by omega) = A1 vs (d + j0 k i) ks[i] := by
    have := aN8 vs d k ks 0 i hi
    rw [Nat.zero_add] at this
    rw [← this]; congr 1
   rw [hel] at hrow
   refine Y57 ?_;refine b5 (j6 SS (h0 := by omega) (hp := B6 hi)) ?_;refine yL ?_;refine a8 SS 11 ?_;refine yA ?_;refine yS ?_;refine a6 [11] ?_;refine Y22 ?_;refine Y36 ?_;refine yM ?_;refine Y3 ?_;refine yM ?_;refine Dq (aY4 k i) ?_;refine yI ?_;refine yM ?_;refine b5 (F2 (fun m n h => (E6 h _).imp) (fun _ => ih ks[i] (by omega) (by omega) (d + j0 k i) (by omega) (by omega))) ?_;refine b5 (aK9 SS) ?_;refine ah5 SS (by8 w0.heap.size out ks houtl hi) ?_;refine x8 ?_;refine Y25 ?_
   refine ⟨i + 1, by omega, k7 ?_ ?_⟩
   ·repeat (first | exact SubE.nil | refine SubE.cons rfl (by first | rfl | (rw [b4 (by omega) (by omega)]; rfl) | (simp only [← hrow])) ?_)
   ·repeat (first | exact SubH.nil | refine SubH.cons rfl (by first | rfl | (rw [b4 (by omega) (by omega)]; rfl) | (simp only [← hrow])) ?_)
  ·intro h2
   have hi : ks.length ≤ i := by rw [a7] at h2; simpa using h2
   rw [by9 _ _ _ houtl hi];refine Tri.exit ?_;refine Tri.freeze (lo := w0.heap.size) (l := 55) (E := 32) (ps := l5 w0.heap.size out) (env' := [(1, iv .i64 d), (2, .pu (.sl 0 32 (l5 0 vs))), (3, .ptr 3 [] 32), (6, .ptr 6 [] 32), (9, .pu (.sl 0 106 (C7 0 cs)))]) (heap' := [(3, .var 32 (.agg 32 [iv .i64 k, iv .i64 n', .pu (f5 r), .pu (.sl w0.heap.size 32 (l5 w0.heap.size out)), .nilc])), (6, .var 32 (.agg 32 [iv .i64 0, iv .i64 0, .pu (f5 Z32), .nilc, .nilc]))]) rfl (.inr ⟨Nat.le_refl _, hM⟩) ?_ (h2 := .cons rfl rfl (by simp [aD5, am4, bE8, a7, houtl]) (.cons rfl rfl rfl .nil));refine Y1 ?_;refine Y38 ?_
   refine Tri.block (Tri.loopW (σ := Nat) (fun i => ⟨[(1, iv .i64 d), (2, .pu (.sl 0 32 (l5 0 vs))), (3, .ptr 3 [] 32), (6, .ptr 6 [] 32), (83, .pu (.sl 0 106 (C7 0 cs))), (84, iv .i64 (C7 0 cs).length), (85, iv .i64 i)], [(3, .var 32 (.agg 32 [iv .i64 k, iv .i64 n', .pu (f5 r), .pu (.sl w0.heap.size 32 (l5 w0.heap.size out)), .ow w0.heap.size 106 (C7 w0.heap.size ((L5 vs d cs).take i))])), (6, .var 32 (.agg 32 [iv .i64 0, iv .i64 0, .pu (f5 Z32), .nilc, .nilc]))]⟩) (fun i => cs.length - i) 0 ?_ ?_ (fun i => ?_))
   ·exact zW
   ·exact zW
   refine Y30 ?_;refine Cq ?_ ?_
   ·intro h3
    have hi : i < cs.length := by rw [o5] at h3; simpa using h3
    have hsz := L0 (List.getElem_mem hi)
    have hget := ad7 (lo := 0) hi
    have hpc := aO0 vs d cs i hi
    generalize hci : cs[i] = ci at hget hsz hpc
    obtain ⟨q, b⟩ := ci
    simp only [u7] at hsz
    have hbb := z8 q
    have hcs : C7 w0.heap.size ((L5 vs d cs).take (i + 1)) = C7 w0.heap.size ((L5 vs d cs).take i) ++ [M6 w0.heap.size (.mk q (A1 vs (d + j2 q) b))] := by
     rw [R8, R8, List.take_succ_eq_append_getElem (by rw [Z7]; exact hi), List.map_append, hpc]; rfl
    refine Y76 ?_;refine Xq hget ?_;refine yL ?_;refine a8 SS 13 ?_;refine yS ?_;refine a6 [13] ?_;refine Y22 ?_;refine Y3 ?_;refine b5 (F2 (fun m n h => (ah9 h _).imp) (fun _ => ah2 _ q (Nat.le_refl _) (by omega))) ?_;refine Y3 ?_;refine yM ?_;refine Y3 ?_;refine Dq (aL9 _ q (Nat.le_refl _) (by omega)) ?_;refine yI ?_;refine yM ?_;refine b5 (F2 (fun m n h => (E6 h _).imp) (fun _ => ih b (by omega) (by omega) (d + j2 q) (by omega) (by omega))) ?_;refine yP ?_;refine yZ ?_;refine O1 3 [4] ?_ ?_
    ·simp [R8, Z7]; omega
    refine yF ?_;refine yW ?_;refine x8 ?_;refine Y25 ?_
    refine ⟨i + 1, by omega, k7 ?_ ?_⟩
    ·repeat (first | exact SubE.nil | refine SubE.cons rfl (by first | rfl | (rw [b4 (by omega) (by omega)]; rfl) | (rw [hcs]; rfl)) ?_)
    ·repeat (first | exact SubH.nil | refine SubH.cons rfl (by first | rfl | (rw [b4 (by omega) (by omega)]; rfl) | (rw [hcs]; rfl)) ?_)
   ·intro h3
    have hi : cs.length ≤ i := by rw [o5] at h3; simpa using h3
    rw [List.take_of_length_le (by rw [Z7]; exact hi)];refine Tri.exit ?_;refine Y61 ?_;refine Rc ?_;exact (by rw [hput, ← hout]; exact ToPu.imp (by repeat constructor))
mutual
theorem au2 (d : Int) : ∀ t : Tm, A1 [] d t = t
 | .mk k n r ks cs => by
  simp only [A1, List.length_nil, Nat.lt_irrefl, and_false, dite_false]
  rw [aN7 d k ks 0, aN9 d cs]
theorem aN7 (d k : Int) : ∀ (ks : List Tm) (i : Nat), P4 [] d k i ks = ks
 | [], _ => rfl
 | t :: ts, i => by simp only [P4]; rw [au2 _ t, aN7 d k ts (i + 1)]
theorem aN9 (d : Int) : ∀ (cs : List Cs), L5 [] d cs = cs
 | [] => rfl
 | c :: cs => by simp only [L5]; rw [bz4 d c, aN9 d cs]
theorem bz4 (d : Int) : ∀ (c : Cs), aA2 [] d c = c
 | .mk q t => by simp only [aA2]; rw [au2 _ t]
end
theorem bz5 (t : Tm) (h : a5 t < 2^30) : FCallN Tryz.prog G 156 [.pu (tmc 0 t), iv .i64 0, .pu (.sl 0 32 [])] (fun m => .pu (tmc m t)) := by
 have := bz3 (G := G) [] (by simp) (fun v hv => by cases hv) _ t (Nat.le_refl _) h 0 (by omega) (by omega)
 rwa [au2] at this
theorem aN6 (vs : List Tm) (hvl : vs.length < 2^30) (hvs : ∀ v ∈ vs, a5 v < 2^30) (t : Tm) (h : a5 t < 2^30) : FCallN Tryz.prog G 156 [.pu (tmc 0 t), iv .i64 0, .pu (.sl 0 32 (l5 0 vs))] (fun m => .pu (tmc m (A1 vs 0 t))) :=
 bz3 vs hvl (fun v hv => bz5 v (hvs v hv)) _ t (Nat.le_refl _) h 0 (by omega) (by omega)
theorem bT7 (t : Tm) (h : a5 t < 2^30) : FCallN Tryz.prog G 114 [.pu (tmc 0 t)] (fun m => .pu (tmc m t)) := by
 refine FCallN.of_tri tbl 5 Tryz.func114 rfl rfl (fun _ => rfl) fun w0 M ρ0 D0 hM => ?_
 refine Y68 ?_;refine Y5 ?_;refine b5 (F2 (fun m n h => (E6 h _).imp) (fun _ => bz5 t h)) ?_;refine Y10 ?_;refine Rc ?_;exact ToPu.imp (by repeat constructor)
end
section
variable {G : List (Nat × TypeId × Pu)}
def Tm.kind : Tm → Int
 | .mk k _ _ _ _ => k
def Tm.num : Tm → Int
 | .mk _ n _ _ _ => n
def Tm.ref : Tm → List Int
 | .mk _ _ r _ _ => r
def Tm.kids : Tm → List Tm
 | .mk _ _ _ ks _ => ks
def Tm.cases : Tm → List Cs
 | .mk _ _ _ _ cs => cs
def H4 (a b : List Tm × Bool) : List Tm × Bool := if a.2 && b.2 then (a.1 ++ b.1, true) else ([], false)
mutual
def t9 : Pat → Tm → List Tm × Bool
 | .mk k n r ks, v => if k = 1 then ([v], true) else if k = 2 then ([], v.kind == 2 && v.num == n)
  else if k = 3 then (if v.kind != 8 || !(v.ref == r) || v.num != n || ((v.kids.length : Int) != ks.length) then ([], false) else n5 ks v.kids) else ([], false)
def n5 : List Pat → List Tm → List Tm × Bool
 | [], _ => ([], true)
 | _ :: _, [] => ([], false)
 | p :: ps, v :: vs => H4 (t9 p v) (n5 ps vs)
end
mutual
theorem aI6 : ∀ (p : Pat) (v : Tm), (t9 p v).1.length ≤ a5 v
 | .mk k n r ks, v => by
  have hv := r9 v
  simp only [t9]
  split
  ·simp; omega
  ·split
   ·simp
   ·split
    ·split
     ·simp
     ·have := aI7 ks v.kids
      obtain ⟨k', n', r', ks', cs'⟩ := v
      simp only [Tm.kids, a5] at this ⊢
      omega
    ·simp
theorem aI7 : ∀ (ps : List Pat) (vs : List Tm), (n5 ps vs).1.length ≤ c7 vs
 | [], vs => by simp [n5]
 | _ :: _, [] => by simp [n5]
 | p :: ps, v :: vs => by
  have h1 := aI6 p v
  have h2 := aI7 ps vs
  simp only [n5, H4, c7]
  split
  ·simp; omega
  ·simp
end
theorem ax4 : ∀ {ps : List Pat} {vs : List Tm} {i : Nat} (h : i < ps.length) (h2 : i < vs.length), n5 (ps.take (i + 1)) (vs.take (i + 1)) = H4 (n5 (ps.take i) (vs.take i)) (t9 ps[i] vs[i])
 | p :: ps, v :: vs, 0, _, _ => by
  simp only [List.take_zero, List.take_succ_cons, n5, List.getElem_cons_zero]
  rcases t9 p v with ⟨l, b⟩
  cases b <;> simp [H4]
 | p :: ps, v :: vs, i + 1, h, h2 => by
  have h' : i < ps.length := by simpa using h
  have h2' : i < vs.length := by simpa using h2
  have ih := ax4 (ps := ps) (vs := vs) (i := i) h' h2'
  simp only [List.take_succ_cons, n5, List.getElem_cons_succ, ih]
  rcases t9 p v with ⟨l, b⟩
  rcases n5 (ps.take i) (vs.take i) with ⟨l2, b2⟩
  rcases t9 ps[i] vs[i] with ⟨l3, b3⟩
  cases b <;> cases b2 <;> cases b3 <;> simp [H4]
theorem ax5 : ∀ {ps : List Pat} {vs : List Tm} {i : Nat}, (n5 (ps.take i) (vs.take i)).2 = false → n5 ps vs = ([], false)
 | [], vs, i, h => by simp [n5] at h
 | p :: ps, vs, 0, h => by simp [n5] at h
 | p :: ps, [], i + 1, h => by simp [n5]
 | p :: ps, v :: vs, i + 1, h => by
  simp only [List.take_succ_cons, n5] at h ⊢
  rcases hpv : t9 p v with ⟨l, b⟩
  rw [hpv] at h
  cases b
  ·simp [H4]
  ·have : (n5 (ps.take i) (vs.take i)).2 = false := by
    rcases hq : n5 (ps.take i) (vs.take i) with ⟨l2, b2⟩
    cases b2
    ·rfl
    ·rw [hq] at h; revert h; simp only [H4]; split <;> simp_all
   rw [ax5 this]
   simp [H4]
abbrev ca3 (m : Nat) (x : List Tm × Bool) : PV := .tup [.pu (.sl m 32 (l5 m x.1)), bv x.2]
theorem aS9 {P : Program} {m n : Nat} (h : n ≤ m) (x : List Tm × Bool) : VImp P (ca3 m x) (ca3 n x) := VImps.tup (.cons (Low.imp (.sl h (ag9 h _))) (.cons (VImp.refl _) .nil)) (M5 rfl)
theorem ca2 : ∀ (N : Nat) (p : Pat), k9 p ≤ N → ∀ (t : Tm), a5 t < 2^30 → FCallN Tryz.prog G 138 [.pu (A6 0 p), .pu (tmc 0 t)] (fun m => ca3 m (t9 p t)) := by
 intro N
 induction N with
 | zero => intro p h; cases p; simp [k9] at h
 | succ N ih =>
 intro p hp t hN
 obtain ⟨k, n, r, ks⟩ := p
 obtain ⟨k', n', r', ks', cs'⟩ := t
 simp only [k9] at hp
 have hsz : 1 + c7 ks' + d6 cs' < 2^30 := by simpa only [a5] using hN
 have hlen := o4 ks
 have hlen' := l8 ks'
 refine FCallN.of_tri tbl 83 Tryz.func138 rfl rfl (fun _ => rfl) fun w0 M ρ0 D0 hM => ?_
 refine Tri.fact (i := 0) rfl (fun D w x h => af8 h) (fun hr => ?_);refine Tri.fact (i := 1) rfl (fun D w x h => an3 h) (fun hr' => ?_)
 simp only [wfP, wfT] at hr hr'
 refine Y65 ?_;refine yB ?_;refine yB ?_;refine a6 [2, 3] ?_;refine Y14 ?_;refine Y0 ?_;refine Tri.block ?_;refine Y16 ?_;refine Cq ?_ ?_
 ·intro h0
  have hf : t9 (.mk k n r ks) (.mk k' n' r' ks' cs') = ([.mk k' n' r' ks' cs'], true) := by simp at h0; simp [t9, h0]
  refine Y5 ?_;refine b5 (F2 (fun m n h => (E6 h _).imp) (fun _ => bT7 (.mk k' n' r' ks' cs') hN)) ?_;refine aN1 SS (lo := w0.heap.size) ?_;refine yA ?_;refine Y62 ?_;rw [hf];exact Tri.ret ⟨.inr rfl, K8 rfl b6 (ToPu.imp (by repeat constructor)) b6 (VImp.refl _)⟩
 ·intro h0
  refine Y16 ?_;refine Cq ?_ ?_
  ·intro h1
   have hf : t9 (.mk k n r ks) (.mk k' n' r' ks' cs') = ([], k' == 2 && n' == n) := by simp at h1; simp [t9, h1, Tm.kind, Tm.num]
   refine Y37 ?_;refine Y42 ?_;refine Y21 ?_;refine yB ?_;refine yA ?_;refine Y23 ?_;rw [hf];exact Tri.ret ⟨.inr rfl, K8 rfl b6 (ToPu.imp (by repeat constructor)) b6 (VImp.refl _)⟩
  ·intro h1
   refine Y16 ?_;refine Cq ?_ ?_
   ·intro h2
    refine Y37 ?_;refine Y42 ?_;refine q8 zG (z7 SS (h := aJ8 (hr'.1.trans hr.1.symm))) ?_;refine yO ?_;refine Y42 ?_;refine Y47 ?_;refine xC ?_;refine Y7 ?_;refine xC ?_;refine Y34 ?_;refine Y0 ?_;refine Cq ?_ ?_
    ·intro h3
     have hf : t9 (.mk k n r ks) (.mk k' n' r' ks' cs') = ([], false) := by
      rw [a7, j7] at h3
      simp only [beq_iff_eq] at h2
      rw [h2]
      show (if (k' != 8 || !(r' == r) || n' != n || ((ks'.length : Int) != ks.length)) = true then (([], false) : List Tm × Bool) else n5 ks ks') = _
      exact if_pos h3
     refine Y6 ?_;refine Y62 ?_;rw [hf];exact Tri.ret ⟨.inr rfl, K8 rfl b6 (ToPu.imp (by repeat constructor)) b6 (VImp.refl _)⟩
    ·intro h3
     have hf : t9 (.mk k n r ks) (.mk k' n' r' ks' cs') = n5 ks ks' := by
      rw [a7, j7] at h3
      simp only [beq_iff_eq] at h2
      rw [h2]
      show (if (k' != 8 || !(r' == r) || n' != n || ((ks'.length : Int) != ks.length)) = true then (([], false) : List Tm × Bool) else n5 ks ks') = _
      exact if_neg (by rw [h3]; simp)
     have hll : ks'.length = ks.length := by
      rw [a7, j7] at h3
      simp only [Bool.or_eq_false_iff, bne_eq_false_iff_eq] at h3
      omega
     refine Tri.skip ?_;refine Y20 ?_;refine Y22 ?_;refine Y38 ?_;refine Tri.block (Tri.loopW (σ := {x : Nat × List Tm // n5 (ks.take x.1) (ks'.take x.1) = (x.2, true)}) (fun i => ⟨[(2, .ptr 2 [] 104), (3, .ptr 3 [] 32), (6, .ow w0.heap.size 32 (l5 w0.heap.size i.1.2)), (59, .pu (.sl 0 104 (v6 0 ks))), (60, iv .i64 (v6 0 ks).length), (61, iv .i64 i.1.1)], [(2, .var 104 (.pu (A6 0 (.mk k n r ks)))), (3, .var 32 (.pu (tmc 0 (.mk k' n' r' ks' cs'))))]⟩) (fun i => ks.length - i.1.1) ⟨(0, []), by simp [n5]⟩ ?_ ?_ (fun i => ?_))
     ·repeat (first | exact .nil | refine .cons rfl (by first | exact .refl | (focus ((repeat constructor); done)) | (exact .nilcOw)) ?_)
     ·repeat (first | exact .nil | refine .cons rfl (by first | exact .refl | (focus ((repeat constructor); done)) | (exact .nilcOw)) ?_)
     refine Y30 ?_;refine Cq ?_ ?_
     ·intro h4
      have hi : i.1.1 < ks.length := by rw [j7] at h4; simpa using h4
      have hi' : i.1.1 < ks'.length := by omega
      have htk := ax4 hi hi'
      rw [i.2] at htk
      have hsp := x6 hi
      have hst := w8 (List.getElem_mem hi')
      refine Y57 ?_;refine b5 (j6 SS (h0 := by omega) (hp := L6 hi)) ?_;refine yL ?_;refine a8 SS 8 ?_;refine yA ?_;refine yS ?_;refine a6 [8] ?_;refine Y5 ?_;refine Y8 ?_;refine yM ?_;refine b5 (j6 SS (h0 := by omega) (hp := B6 hi')) ?_;refine yL ?_;refine b5 (F2 (fun m n h => aS9 h _) (fun _ => ih ks[i.1.1] (by omega) ks'[i.1.1] (by omega))) ?_;refine Y58 ?_;refine yA ?_;refine yA ?_;refine x8 ?_;refine Y1 ?_;refine yQ ?_;refine Y0 ?_;refine Cq ?_ ?_
      ·intro h5
       have hf2 : n5 ks ks' = ([], false) := ax5 (i := i.1.1 + 1) (by
        rw [htk]; simp at h5; simp [H4, h5])
       rw [hf2] at hf
       refine Y6 ?_;refine Y62 ?_;rw [hf];exact Tri.ret ⟨.inr rfl, K8 rfl b6 (ToPu.imp (by repeat constructor)) b6 (VImp.refl _)⟩
      ·intro h5
       have hnext : n5 (ks.take (i.1.1 + 1)) (ks'.take (i.1.1 + 1)) = (i.1.2 ++ (t9 ks[i.1.1] ks'[i.1.1]).1, true) := by
        rw [htk]; simp at h5; simp [H4, h5]
       refine Tri.skip ?_;refine Y32 ?_;refine by5 6 ?_ ?_
       ·have h1 := aI7 (ks.take i.1.1) (ks'.take i.1.1)
        have h2 := aI6 ks[i.1.1] ks'[i.1.1]
        have h3 := an2 (ks := ks') (i := i.1.1)
        rw [i.2] at h1
        simp only [a7] at h1 ⊢
        omega
       refine Y12 ?_;refine Y25 ?_
       refine ⟨⟨(i.1.1 + 1, i.1.2 ++ (t9 ks[i.1.1] ks'[i.1.1]).1), hnext⟩, by show ks.length - (i.1.1 + 1) < ks.length - i.1.1; omega, k7 ?_ ?_⟩
       ·repeat (first | exact SubE.nil | refine SubE.cons rfl (by first | rfl | (rw [b4 (by omega) (by omega)]; rfl) | (simp only [o8, List.map_append])) ?_)
       ·repeat (first | exact SubH.nil | refine SubH.cons rfl (by first | rfl | (rw [b4 (by omega) (by omega)]; rfl) | (simp only [o8, List.map_append])) ?_)
     ·intro h4
      have hf2 : n5 ks ks' = (i.1.2, true) := by
       have := i.2
       rwa [List.take_of_length_le (by rw [j7] at h4; simp at h4; omega), List.take_of_length_le (by rw [j7] at h4; simp at h4; omega)] at this
      rw [hf2] at hf
      refine Tri.exit ?_;refine Y1 ?_;refine yA ?_;refine Y62 ?_;rw [hf];exact Tri.ret ⟨.inr rfl, K8 rfl b6 (ToPu.imp (by repeat constructor)) b6 (VImp.refl _)⟩
   ·intro h2
    have hf : t9 (.mk k n r ks) (.mk k' n' r' ks' cs') = ([], false) := by
     simp at h0 h1 h2
     simp [t9, h0, h1, h2]
    refine Tri.skip ?_;refine Y6 ?_;refine Y62 ?_;rw [hf];exact Tri.ret ⟨.inr rfl, K8 rfl b6 (ToPu.imp (by repeat constructor)) b6 (VImp.refl _)⟩
end
section
variable {G : List (Nat × TypeId × Pu)}
def aP5 (n : Int) : Tm := .mk 2 n Z32 [] []
def W8 (op a b : Int) : Int :=
 if op = 1 then IntKind.wrap .i64 (a + b) else if op = 2 then IntKind.wrap .i64 (a - b) else if op = 3 then IntKind.wrap .i64 (a * b)
 else if op = 4 then (if a = b then 1 else 0) else if op = 5 then (if a < b then 1 else 0) else 0
def bt8 (x : Int) : Int := if 1073741824 < (if x < 0 then 0 else x) then 1073741824 else (if x < 0 then 0 else x)
def Z8 (op a b : Int) : Tm := aP5 (bt8 (W8 op a b))
theorem an9 {P : Program} (m : Nat) (op a b : Int) {x : Int} (xk yk : Int) (xr yr : List Int) (xs ys : List Tm) (xc yc : List Cs) (h : x = W8 op a b) :
  VImp P (.agg 32 [iv .i64 2, iv .i64 (if 1073741824 < (if x < 0 then 0 else x) then 1073741824 else (if x < 0 then 0 else x)), .pu (f5 Z32), .nilc, .nilc]) (.pu (tmc m (Z8 op (Tm.mk xk a xr xs xc).num (Tm.mk yk b yr ys yc).num))) := by
 subst h;exact ToPu.imp (by unfold Z8 aP5 bt8 Tm.num; repeat constructor)
theorem bX6 (k n : Int) (r : List Int) (ks : List Tm) (cs : List Cs) (h2 : 2 ≤ ks.length) : FCallN Tryz.prog G 159 [.pu (tmc 0 (.mk k n r ks cs))] (fun m => .pu (tmc m (Z8 n ks[0].num ks[1].num))) := by
 have hg0 := B6 (lo := 0) (ks := ks) (i := 0) (by omega)
 have hg1 := B6 (lo := 0) (ks := ks) (i := 1) (by omega)
 generalize ks[0] = x at hg0 ⊢
 generalize ks[1] = y at hg1 ⊢
 obtain ⟨xk, xn, xr, xs, xc⟩ := x
 obtain ⟨yk, yn, yr, ys, yc⟩ := y
 refine FCallN.of_tri tbl 47 Tryz.func159 rfl rfl (fun _ => rfl) fun w0 M ρ0 D0 hM => ?_
 refine Y68 ?_;refine Y22 ?_;refine Xq hg0 ?_;refine Y3 ?_;refine Y8 ?_;refine Xq hg1 ?_;refine Y3 ?_;refine yA ?_;refine yA ?_;refine x8 ?_;refine Y20 ?_;refine Y14 ?_;refine Y0 ?_;refine Tri.block ?_;refine Y16 ?_;refine Cq ?_ ?_
 ·intro h0
  refine Y32 ?_;refine yI ?_;refine Y12 ?_;refine Y1 ?_;refine b5 (X9) ?_;refine b5 (T9) ?_;refine Y49 ?_;refine Rc ?_;exact (by first | exact an9 _ _ _ _ _ _ _ _ _ _ _ _ (by simp only [beq_iff_eq, beq_eq_false_iff_ne, ne_eq, decide_eq_true_eq, decide_eq_false_iff_not] at *; simp_all [W8]))
 ·intro h0
  refine Y16 ?_;refine Cq ?_ ?_
  ·intro h1
   refine Y32 ?_;refine yI ?_;refine Y12 ?_;refine Y1 ?_;refine b5 (X9) ?_;refine b5 (T9) ?_;refine Y49 ?_;refine Rc ?_;exact (by first | exact an9 _ _ _ _ _ _ _ _ _ _ _ _ (by simp only [beq_iff_eq, beq_eq_false_iff_ne, ne_eq, decide_eq_true_eq, decide_eq_false_iff_not] at *; simp_all [W8]))
  ·intro h1
   refine Y16 ?_;refine Cq ?_ ?_
   ·intro h2
    refine Y32 ?_;refine yI ?_;refine Y12 ?_;refine Y1 ?_;refine b5 (X9) ?_;refine b5 (T9) ?_;refine Y49 ?_;refine Rc ?_;exact (by first | exact an9 _ _ _ _ _ _ _ _ _ _ _ _ (by simp only [beq_iff_eq, beq_eq_false_iff_ne, ne_eq, decide_eq_true_eq, decide_eq_false_iff_not] at *; simp_all [W8]))
   ·intro h2
    refine Y16 ?_;refine Cq ?_ ?_
    ·intro h3
     refine Y32 ?_;refine Y53 ?_;refine Cq ?_ ?_
     ·intro h4
      refine Y48 ?_;refine b5 (X9) ?_;refine b5 (T9) ?_;refine Y49 ?_;refine Rc ?_;exact (by first | exact an9 _ _ _ _ _ _ _ _ _ _ _ _ (by simp only [beq_iff_eq, beq_eq_false_iff_ne, ne_eq, decide_eq_true_eq, decide_eq_false_iff_not] at *; simp_all [W8]))
     ·intro h4
      refine Y72 ?_;refine b5 (X9) ?_;refine b5 (T9) ?_;refine Y49 ?_;refine Rc ?_;exact (by first | exact an9 _ _ _ _ _ _ _ _ _ _ _ _ (by simp only [beq_iff_eq, beq_eq_false_iff_ne, ne_eq, decide_eq_true_eq, decide_eq_false_iff_not] at *; simp_all [W8]))
    ·intro h3
     refine Y16 ?_;refine Cq ?_ ?_
     ·intro h5
      refine Y32 ?_;refine Y53 ?_;refine Cq ?_ ?_
      ·intro h6
       refine Y48 ?_;refine b5 (X9) ?_;refine b5 (T9) ?_;refine Y49 ?_;refine Rc ?_;exact (by first | exact an9 _ _ _ _ _ _ _ _ _ _ _ _ (by simp only [beq_iff_eq, beq_eq_false_iff_ne, ne_eq, decide_eq_true_eq, decide_eq_false_iff_not] at *; simp_all [W8]))
      ·intro h6
       refine Y72 ?_;refine b5 (X9) ?_;refine b5 (T9) ?_;refine Y49 ?_;refine Rc ?_;exact (by first | exact an9 _ _ _ _ _ _ _ _ _ _ _ _ (by simp only [beq_iff_eq, beq_eq_false_iff_ne, ne_eq, decide_eq_true_eq, decide_eq_false_iff_not] at *; simp_all [W8]))
     ·intro h5
      refine Y72 ?_;refine b5 (X9) ?_;refine b5 (T9) ?_;refine Y49 ?_;refine Rc ?_;exact (by first | exact an9 _ _ _ _ _ _ _ _ _ _ _ _ (by simp only [beq_iff_eq, beq_eq_false_iff_ne, ne_eq, decide_eq_true_eq, decide_eq_false_iff_not] at *; simp_all [W8]))
def p7 : Tm := .mk 0 0 Z32 [] []
def q9 : List Cs → Tm → Tm
 | [], _ => p7
 | .mk q b :: cs, v => if (t9 q v).2 then A1 (t9 q v).1 0 b else q9 cs v
mutual
theorem aI5 : ∀ (p : Pat) (v : Tm), ∀ x ∈ (t9 p v).1, a5 x ≤ a5 v
 | .mk k n r ks, v, x, hx => by
  simp only [t9] at hx
  split at hx
  ·simp at hx; rw [hx]; omega
  ·split at hx
   ·simp at hx
   ·split at hx
    ·split at hx
     ·simp at hx
     ·have := aS7 ks v.kids x hx
      obtain ⟨k', n', r', ks', cs'⟩ := v
      simp only [Tm.kids, a5] at this ⊢
      omega
    ·simp at hx
theorem aS7 : ∀ (ps : List Pat) (vs : List Tm), ∀ x ∈ (n5 ps vs).1, a5 x ≤ c7 vs
 | [], vs, x, hx => by simp [n5] at hx
 | _ :: _, [], x, hx => by simp [n5] at hx
 | p :: ps, v :: vs, x, hx => by
  simp only [n5, H4] at hx
  simp only [c7]
  split at hx
  ·rcases List.mem_append.1 hx with h | h
   ·have := aI5 p v x h; omega
   ·have := aS7 ps vs x h; omega
  ·simp at hx
end
theorem aC8 (k n : Int) (r : List Int) (ks : List Tm) (cs : List Cs) (h1 : 1 ≤ ks.length) (hN : a5 (.mk k n r ks cs) < 2^30) : FCallN Tryz.prog G 160 [.pu (tmc 0 (.mk k n r ks cs))] (fun m => .pu (tmc m (q9 cs ks[0]))) := by
 have hg0 := B6 (lo := 0) (ks := ks) (i := 0) (by omega)
 have hs0 := w8 (List.getElem_mem (l := ks) (n := 0) (by omega))
 generalize ks[0] = v at hg0 hs0 ⊢
 have hsz : 1 + c7 ks + d6 cs < 2^30 := by simpa only [a5] using hN
 have hlenc := s6 cs
 refine FCallN.of_tri tbl 31 Tryz.func160 rfl rfl (fun _ => rfl) fun w0 M ρ0 D0 hM => ?_
 refine Y68 ?_;refine Y22 ?_;refine Y38 ?_;refine Tri.block (Tri.loopW (σ := {i : Nat // q9 cs v = q9 (cs.drop i) v}) (fun i => ⟨[(1, .ptr 1 [] 32), (2, .ptr 2 [] 32), (8, .pu (.sl 0 106 (C7 0 cs))), (9, iv .i64 (C7 0 cs).length), (10, iv .i64 i.1)], [(1, .var 32 (.pu (tmc 0 (.mk k n r ks cs)))), (2, .var 32 (.agg 32 [iv .i64 0, iv .i64 0, .pu (f5 Z32), .nilc, .nilc]))]⟩) (fun i => cs.length - i.1) ⟨0, rfl⟩ ?_ ?_ (fun i => ?_))
 ·exact zW
 ·exact zW
 refine Y30 ?_;refine Cq ?_ ?_
 ·intro h0
  have hi : i.1 < cs.length := by rw [o5] at h0; simpa using h0
  have hget := ad7 (lo := 0) hi
  have hcz := L0 (List.getElem_mem hi)
  have hdrop := i.2
  rw [List.drop_eq_getElem_cons hi] at hdrop
  generalize hci : cs[i.1] = ci at hget hcz hdrop
  obtain ⟨q, b⟩ := ci
  simp only [u7] at hcz
  have hfb := aI6 q v
  refine Y76 ?_;refine Xq hget ?_;refine yL ?_;refine a8 SS 4 ?_;refine yS ?_;refine a6 [4] ?_;refine Y14 ?_;refine Y8 ?_;refine Xq hg0 ?_;refine yL ?_;refine b5 (F2 (fun m n h => aS9 h _) (fun _ => ca2 _ q (Nat.le_refl _) v (by omega))) ?_;refine Y58 ?_;refine yA ?_;refine yA ?_;refine x8 ?_;refine Y1 ?_;refine Y0 ?_;refine Cq ?_ ?_
  ·intro h1
   have hm : q9 cs v = A1 (t9 q v).1 0 b := hdrop.trans (by simp only [q9, h1, if_true])
   refine Y14 ?_;refine yM ?_;refine b5 (F2 (fun m n h => (E6 h _).imp) (fun _ => aN6 (t9 q v).1 (by omega) (fun x hx => by have := aI5 q v x hx; omega) b (by omega)) (himp := .cons (VImp.refl _) (.cons (VImp.refl _) (.cons (Low.imp (.sl (Nat.zero_le _) (ag9 (Nat.zero_le _) _))) .nil)))) ?_;refine Y10 ?_;refine Rc ?_;exact (by rw [hm]; exact VImp.refl _)
  ·intro h1
   have hnext : q9 cs v = q9 (cs.drop (i.1 + 1)) v := hdrop.trans (by simp only [q9, h1, Bool.false_eq_true, if_false])
   refine Y52 ?_
   refine ⟨⟨i.1 + 1, hnext⟩, by show cs.length - (i.1 + 1) < cs.length - i.1; omega, k7 ?_ ?_⟩
   ·exact zE
   ·exact zH
 ·intro h0
  have hm : q9 cs v = p7 := by have := i.2; rwa [List.drop_of_length_le (by rw [o5] at h0; simp at h0; omega)] at this
  refine Tri.exit ?_;refine yR ?_;refine yT ?_;refine Y10 ?_;refine Rc ?_;exact (by rw [hm]; exact ToPu.imp (by repeat constructor))
end
section
variable {G : List (Nat × TypeId × Pu)}
def F5 (path : List Nat) : List Pu := path.map fun (n : Nat) => .leaf (.int .i64 (n : Int))
def E3 (path : List Nat) (way : List Tm) : Pu := .agg 147 [.sl 0 3 (F5 path), .sl 0 32 (l5 0 way)]
instance (path : List Nat) (way : List Tm) : TyV Tryz.prog 147 (.pu (E3 path way)) := inferInstanceAs (TyV Tryz.prog 147 (.pu (.agg _ _)))
theorem B8 (path : List Nat) : (F5 path).length = path.length := by simp [F5]
theorem ah8 {path : List Nat} {i : Nat} (h : i < path.length) : (F5 path)[i]? = some (.leaf (.int .i64 (path[i] : Nat))) := by simp [F5, h]
theorem be9 {D : Nat → Nat → Prop} {w : World} {path : List Nat} {way : List Tm} {x : List Value} (h : PR Tryz.prog D w (E3 path way) x) : bu4 way := by
 obtain ⟨_, h⟩ := W4 h
 obtain ⟨_, _, _, h⟩ := l6 h
 obtain ⟨⟨_, h⟩, _⟩ := l6 h
 obtain ⟨_, _, h⟩ := aE9 h
 exact aX5 h
theorem aJ9 (path : List Nat) (way : List Tm) (h : path.length < way.length) : FCall Tryz.prog G 154 [.pu (E3 path way)] (.pu (tmc 0 way[path.length])) := by
 refine Fq 10 Tryz.func154 ?_;intro w0 M ρ0 D0
 refine Y68 ?_;refine Y22 ?_;refine Y64 ?_;refine b5 (j6 SS (h0 := by omega) (hp := by rw [B8]; exact B6 h)) ?_;refine yL ?_;refine Y10 ?_;refine Rc ?_;exact VImp.refl _
def opP (r : List Int) (n : Int) : Pu := .agg 227 [f5 r, .leaf (.int .i64 n)]
instance (r : List Int) (n : Int) : TyV Tryz.prog 227 (.pu (opP r n)) := inferInstanceAs (TyV Tryz.prog 227 (.pu (.agg _ _)))
theorem bL9 (r : List Int) (n : Int) (r' : List Int) (n' : Int) : Tryz.prog.eqGuardType Tryz.prog.depth 227 = false ∧ 227 < Tryz.prog.types.size ∧ tyP Tryz.prog 227 (opP r n) = true ∧ tyP Tryz.prog 227 (opP r' n') = true :=
 ⟨by kernel_rfl, of_decide_eq_true (by kernel_rfl), (show tyV Tryz.prog 227 (.pu (opP r n)) = true from TyV.ok), (show tyV Tryz.prog 227 (.pu (opP r' n')) = true from TyV.ok)⟩
theorem cd5 {α : Type} : ∀ {l : List α}, l.length = 2 → ∃ a b, l = [a, b]
 | [a, b], _ => ⟨a, b, rfl⟩
theorem bq0 : ∃ f1 f2 : Field, Tryz.prog.underlying 227 = some (.struct #[f1, f2]) ∧ f1.name ≠ "_" ∧ f2.name ≠ "_" ∧ f1.type = 28 ∧ f2.type = 3 := by
 have h : (match Tryz.prog.underlying 227 with | some (.struct fs) => (fs.toList.map (·.type) == [28, 3]) && fs.toList.all (fun f => f.name != "_") | _ => false) = true := by kernel_rfl
 split at h
 ·rename_i fs hfs
  obtain ⟨l⟩ := fs
  simp only [Bool.and_eq_true, beq_iff_eq] at h
  obtain ⟨h1, h2⟩ := h
  obtain ⟨f1, f2, rfl⟩ : ∃ f1 f2, l = [f1, f2] := cd5 (by simpa using congrArg List.length h1)
  simp only [List.map_cons, List.map_nil, List.cons.injEq, and_true] at h1
  simp only [List.all_cons, List.all_nil, Bool.and_true, Bool.and_eq_true, bne_iff_ne] at h2
  exact ⟨f1, f2, hfs, h2.1, h2.2, h1.1, h1.2⟩
 ·cases h
theorem bX8 (d : Nat) {r : List Int} (n : Int) {r' : List Int} (n' : Int) (h : r.length = r'.length) : peqT Tryz.prog (d + 4) 227 (opP r n) (opP r' n') = some ((r == r') && ((n == n') && true)) := by
 obtain ⟨f1, f2, hu, a1, a2, b1, b2⟩ := bq0
 have hs : Tryz.prog.stoodInHeld 227 = false := by kernel_rfl
 have hi : Tryz.prog.underlying 3 = some (.int .i64) := by kernel_rfl
 have hr := av0 (d + 1) h
 have hn : peqT Tryz.prog (d + 3) 3 (.leaf (.int .i64 n)) (.leaf (.int .i64 n')) = some (n == n') := by simp only [peqT, hi, if_true]
 unfold opP
 rw [peqT.eq_def]
 simp only [hu, hs, Bool.false_eq_true, if_false, aO6, a1, a2, b1, b2, hr, hn]
theorem bS1 {r : List Int} {n : Int} {r' : List Int} {n' : Int} (h : r.length = r'.length) : R9 Tryz.prog .eql 227 (.pu (opP r n)) (.pu (opP r' n')) = some (bv ((r == r') && ((n == n') && true))) := by
 have h1 := bL9 r n r' n'
 have h2 := fun e => bX8 e n n' h
 unfold opP at h1 h2 ⊢
 simp only [R9, if_pos h1]
 generalize hd : (100 : Nat) = d
 obtain ⟨e, rfl⟩ : ∃ e, d = e + 4 := ⟨96, by omega⟩
 rw [h2 e]
theorem cc6 {D : Nat → Nat → Prop} {w : World} {r : List Int} {n : Int} {x : List Value} (h : PR Tryz.prog D w (opP r n) x) : r.length = 32 := by
 obtain ⟨_, h⟩ := W4 h
 obtain ⟨⟨_, h⟩, _⟩ := l6 h
 exact U7 h
def r7 (way : List Tm) (r : List Int) : Nat → Int
 | 0 => -1
 | n + 1 => match way[n]? with
  | some x => if x.kind == 12 && x.ref == r then n else r7 way r n
  | none => r7 way r n
theorem aD3 (path : List Nat) (way : List Tm) (r : List Int) (n : Int) (h : path.length ≤ way.length) (hl : way.length < 2^40) : FCall Tryz.prog G 164 [.pu (E3 path way), .pu (opP r n)] (iv .i64 (r7 way r path.length)) := by
 refine Fq 33 Tryz.func164 ?_;intro w0 M ρ0 D0
 refine Tri.fact (i := 0) rfl (fun D w x h => be9 h) (fun hr => ?_);refine Tri.fact (i := 1) rfl (fun D w x h => cc6 h) (fun hr' => ?_);refine Y65 ?_;refine yB ?_;refine a6 [2, 3] ?_;refine Y22 ?_;refine yC ?_;refine yI ?_;refine Y2 ?_;refine Tri.block (Tri.loopW (σ := {j : Nat // j ≤ path.length ∧ r7 way r path.length = r7 way r j}) (fun i => ⟨[(2, .ptr 2 [] 147), (3, .ptr 3 [] 227), (5, iv .i64 ((i.1 : Int) - 1))], [(2, .var 147 (.pu (E3 path way))), (3, .var 227 (.pu (opP r n)))]⟩) (fun i => i.1) ⟨path.length, Nat.le_refl _, rfl⟩ ?_ ?_ (fun i => ?_))
 ·repeat (first | exact .nil | refine .cons rfl (by first | exact .refl | (focus ((repeat constructor); done)) | (rw [B8, b4 (by omega) (by omega)]; exact .refl)) ?_)
 ·repeat (first | exact .nil | refine .cons rfl (by first | exact .refl | (focus ((repeat constructor); done)) | (rw [B8, b4 (by omega) (by omega)]; exact .refl)) ?_)
 refine Y15 ?_;refine Y0 ?_;refine Cq ?_ ?_
 ·intro h0
  have hj : 0 < i.1 := by simp at h0; omega
  obtain ⟨j, hj⟩ : ∃ j, i.1 = j + 1 := ⟨i.1 - 1, by omega⟩
  have hjw : j < way.length := by have := i.2.1; omega
  have hx := B6 (lo := 0) hjw
  have hxl := ar9 hr _ (List.getElem_mem hjw)
  have hst := i.2.2
  rw [hj] at hst
  simp only [r7, List.getElem?_eq_getElem hjw] at hst
  generalize way[j] = x at hx hxl hst
  obtain ⟨xk, xn, xr, xs, xc⟩ := x
  refine Y26 ?_;refine Y22 ?_;refine yM ?_;refine b5 (j6 SS (h0 := by omega) (hp := by rw [show ((i.1 : Int) - 1).toNat = j by omega]; exact hx)) ?_;refine yL ?_;refine a8 SS 6 ?_;refine yS ?_;refine a6 [6] ?_;refine Y37 ?_;refine Y42 ?_;refine xP ?_;refine xL ?_;refine q8 zG (z7 SS (h := bS1 (hxl.1.trans hr'.symm))) ?_;refine yN ?_;refine Y0 ?_;refine Cq ?_ ?_
  ·intro h1
   refine Y1 ?_;refine Y2 ?_;refine Rq ?_;exact d4 (by simp_all [Tm.kind, Tm.ref])
  ·intro h1
   have hnext : r7 way r path.length = r7 way r j := by simp_all [Tm.kind, Tm.ref]
   refine Tri.skip ?_;refine Y15 ?_;refine Y12 ?_
   refine ⟨⟨j, by omega, hnext⟩, by show j < i.1; omega, k7 ?_ ?_⟩
   ·repeat (first | exact SubE.nil | refine SubE.cons rfl (by first | rfl | (rw [b4 (by omega) (by omega)]; rfl) | (rw [b4 (by omega) (by omega)]; rw [show ((i.1 : Int) - 1 - 1) = (j : Int) - 1 by omega])) ?_)
   ·repeat (first | exact SubH.nil | refine SubH.cons rfl (by first | rfl | (rw [b4 (by omega) (by omega)]; rfl) | (rw [b4 (by omega) (by omega)]; rw [show ((i.1 : Int) - 1 - 1) = (j : Int) - 1 by omega])) ?_)
 ·intro h0
  refine Tri.exit ?_;refine Y9 ?_;refine Rq ?_;exact d4 (by have := i.2.2; simp at h0; rw [this, show i.1 = 0 by omega]; rfl)
end
section
variable {G : List (Nat × TypeId × Pu)}
def J3 : Tm → Nat → Tm → Tm
 | .mk k n r ks cs, j, x => .mk k n r (ks.set j x) cs
def q7 (way : List Tm) (path : List Nat) (lo : Nat) : Nat → Tm → Tm
 | 0, x => x
 | n + 1, x => if n < lo then x else match way[n]?, path[n]? with
  | some t, some k => q7 way path lo n (J3 t k x)
  | _, _ => x
theorem bJ2 (lo : Nat) (ks : List Tm) (j : Nat) (x : Tm) : ((l5 lo ks).map PV.pu).set j (.pu (tmc lo x)) = (l5 lo (ks.set j x)).map .pu := by
 rw [o8, o8, List.map_set, List.map_set]
theorem bw0 (ks : List Tm) (j : Nat) (x : Tm) : (ks.set j x).length = ks.length := by simp
theorem aT1 (path : List Nat) (way : List Tm) (lo hi : Nat) (x : Tm) (h1 : hi ≤ path.length) (h2 : hi ≤ way.length) (hp : ∀ i (h : i < hi), path[i] < way[i].kids.length) (hw : ∀ t ∈ way, t.kids.length < 2^30) (hl : path.length < 2^30) (hlo : lo < 2^40) :
  FCall Tryz.prog G 153 [.pu (E3 path way), iv .i64 lo, iv .i64 hi, .pu (tmc 0 x)] (.pu (tmc 0 (q7 way path lo hi x))) := by
 refine Fq 44 Tryz.func153 ?_;intro w0 M ρ0 D0
 refine yR ?_;refine o9 SS 4 ?_;refine o9 SS 7 ?_;refine a8 SS 8 ?_;refine a6 [4, 7, 8] ?_;refine Y46 ?_;refine Tri.block (Tri.loopW (σ := {q : Nat × Tm // q.1 ≤ hi ∧ q7 way path lo hi x = q7 way path lo q.1 q.2}) (fun i => ⟨[(1, iv .i64 lo), (4, .ptr 4 [] 147), (7, .ptr 7 [] 32), (8, .ptr 8 [] 32), (9, iv .i64 ((i.1.1 : Int) - 1))], [(4, .var 147 (.pu (E3 path way))), (7, .var 32 (.pu (tmc 0 i.1.2))), (8, .var 32 (.agg 32 [iv .i64 0, iv .i64 0, .pu (f5 Z32), .nilc, .nilc]))]⟩) (fun i => i.1.1) ⟨(hi, x), Nat.le_refl _, rfl⟩ ?_ ?_ (fun i => ?_))
 ·exact zk4
 ·exact zk4
 refine Y32 ?_;refine Y53 ?_;refine Cq ?_ ?_
 ·intro h0
  have hlj : (lo : Int) ≤ (i.1.1 : Int) - 1 := by simpa using h0
  obtain ⟨j, hj⟩ : ∃ j, i.1.1 = j + 1 := ⟨i.1.1 - 1, by omega⟩
  have hi1 := i.2.1
  have hjw : j < way.length := by omega
  have hjp : j < path.length := by omega
  have hx := B6 (lo := 0) hjw
  have hk := hp j (by omega)
  have hkl := hw _ (List.getElem_mem hjw)
  have hpg := ah8 hjp
  have hst := i.2.2
  rw [hj] at hst
  simp only [q7, List.getElem?_eq_getElem hjw, List.getElem?_eq_getElem hjp, if_neg (show ¬ j < lo by omega)] at hst
  generalize path[j] = m at hk hpg hst
  generalize way[j] = t at hx hk hkl hst
  obtain ⟨k, n, r, ks, cs⟩ := t
  simp only [Tm.kids] at hk hkl
  have hnext := hst
  have hkt : m < (l5 0 ks).length := by rw [a7]; exact hk
  have hto : ((i.1.1 : Int) - 1).toNat = j := by omega
  refine Y26 ?_;refine Y22 ?_;refine yM ?_;refine b5 (j6 SS (h0 := by omega) (hp := by rw [hto]; exact hx)) ?_;refine yL ?_;refine a8 SS 10 ?_;refine yS ?_;refine a6 [10] ?_;refine Y22 ?_;refine yC ?_;refine aZ0 SS (n := (l5 0 ks).length) 27 (by rw [a7]; omega) (by rw [a7]; omega) ?_;refine yA ?_;refine a6 [27] ?_;refine Y1 ?_;refine Y8 ?_;refine by3 SS ?_;refine A7 ?_;refine Y1 ?_;refine Y8 ?_;refine yM ?_;refine b5 (j6 SS (h0 := by omega) (hp := by rw [hto]; exact hpg)) ?_;refine yL ?_;refine yL ?_;refine b5 (aK9 SS) ?_;refine ah5 SS (i := m) (vs := (l5 0 ks).map .pu) (u0 := .pu (tmc 0 ks[m])) (by simp [o8, hk]) ?_;refine x8 ?_;rw [bJ2];refine Y1 ?_;refine yF ?_;refine yW ?_;refine A7 ?_
  refine Y5 ?_;refine Y17 ?_;refine Tri.freeze (lo := 0) (l := 27) (E := 32) (ps := l5 0 (ks.set m i.1.2)) (env' := [(1, iv .i64 lo), (4, .ptr 4 [] 147), (7, .ptr 7 [] 32), (8, .ptr 8 [] 32), (9, iv .i64 ((i.1.1 : Int) - 1))]) (heap' := [(4, .var 147 (.pu (E3 path way))), (7, .var 32 (.agg 32 [.pu (.leaf (.int .i64 k)), .pu (.leaf (.int .i64 n)), .pu (f5 r), .pu (.sl 0 32 (l5 0 (ks.set m i.1.2))), .pu (.sl 0 106 (C7 0 cs))])), (8, .var 32 (.agg 32 [iv .i64 0, iv .i64 0, .pu (f5 Z32), .nilc, .nilc]))]) rfl (.inl rfl) ?_ (h2 := .cons rfl rfl rfl (.cons rfl rfl (by simp [aD5, am4, bE8, a7, bw0]) (.cons rfl rfl rfl .nil)))
  refine Tri.ghost (Ghost.wk (env' := [(1, iv .i64 lo), (4, .ptr 4 [] 147), (7, .ptr 7 [] 32), (8, .ptr 8 [] 32), (9, iv .i64 ((i.1.1 : Int) - 1))]) (heap' := [(4, .var 147 (.pu (E3 path way))), (7, .var 32 (.pu (tmc 0 (J3 (.mk k n r ks cs) m i.1.2)))), (8, .var 32 (.agg 32 [iv .i64 0, iv .i64 0, .pu (f5 Z32), .nilc, .nilc]))]) (by repeat (first | exact .nil | refine .cons rfl .refl ?_)) (.cons rfl .refl (.cons rfl (by repeat constructor) (.cons rfl .refl .nil)))) ?_;refine Y15 ?_;refine Y12 ?_
  refine ⟨⟨(j, J3 (.mk k n r ks cs) m i.1.2), by omega, hnext⟩, by show j < i.1.1; omega, k7 ?_ ?_⟩
  ·repeat (first | exact SubE.nil | refine SubE.cons rfl (by first | rfl | (rw [b4 (by omega) (by omega)]; rfl) | (rw [b4 (by omega) (by omega)]; rw [show ((i.1.1 : Int) - 1 - 1) = (j : Int) - 1 by omega])) ?_)
  ·repeat (first | exact SubH.nil | refine SubH.cons rfl (by first | rfl | (rw [b4 (by omega) (by omega)]; rfl) | (rw [b4 (by omega) (by omega)]; rw [show ((i.1.1 : Int) - 1 - 1) = (j : Int) - 1 by omega])) ?_)
 ·intro h0
  have hlj : (i.1.1 : Int) - 1 < (lo : Int) := by simpa using h0
  have hfin : q7 way path lo hi x = i.1.2 := i.2.2.trans (by
   cases hq : i.1.1 with
   | zero => rfl
   | succ j => rw [hq] at hlj; simp only [q7]; rw [if_pos (by omega)])
  refine Tri.exit ?_;refine Y61 ?_;refine Rc ?_;exact VImp.of_eq (congrArg (fun t => PV.pu (tmc 0 t)) hfin.symm)
end
end Go.Proofs.YtkcgkignhpepkaaGreatDoor
