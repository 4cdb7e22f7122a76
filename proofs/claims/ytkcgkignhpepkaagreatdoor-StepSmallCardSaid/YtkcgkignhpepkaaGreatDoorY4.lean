/- Part 4 of the proof: lemmas on walks and the walks of the functions, in their order. -/
import Derived.Test.YtkcgkignhpepkaaGreatDoorY3
import Derived.Test.YtkcgkignhpepkaaGreatDoorProg
set_option linter.unusedSimpArgs false
set_option linter.unusedVariables false
set_option linter.unusedSectionVars false
set_option linter.constructorNameAsVariable false
/- Terms and patterns as trees, and how they stand in memory. -/
namespace Go.Proofs.YtkcgkignhpepkaaGreatDoor
open Go Hs
section
inductive Pat where
 | mk (kind num : Int) (ref : List Int) (kids : List Pat)
mutual
inductive Tm where
 | mk (kind num : Int) (ref : List Int) (kids : List Tm) (cases : List Cs)
inductive Cs where
 | mk (pat : Pat) (body : Tm)
end
def l4 (r : List Int) : Pu := .agg 28 (r.map fun n => .leaf (.int .u8 n))
def Z32 : List Int := List.replicate 32 0
mutual
def v7 (lo : Nat) : Pat → Pu
 | .mk k n r ks => .agg 104 [.leaf (.int .i64 k), .leaf (.int .i64 n), l4 r, .sl lo 104 (u6 lo ks)]
def u6 (lo : Nat) : List Pat → List Pu
 | [] => []
 | p :: ps => v7 lo p :: u6 lo ps
end
mutual
def tmc (lo : Nat) : Tm → Pu
 | .mk k n r ks cs => .agg 32 [.leaf (.int .i64 k), .leaf (.int .i64 n), l4 r, .sl lo 32 (l8 lo ks), .sl lo 106 (z8 lo cs)]
def l8 (lo : Nat) : List Tm → List Pu
 | [] => []
 | t :: ts => tmc lo t :: l8 lo ts
def J3 (lo : Nat) : Cs → Pu
 | .mk p t => .agg 106 [v7 lo p, tmc lo t]
def z8 (lo : Nat) : List Cs → List Pu
 | [] => []
 | c :: cs => J3 lo c :: z8 lo cs
end
variable {lo : Nat}
theorem t9 : ∀ ks, u6 lo ks = ks.map (v7 lo)
 | [] => rfl
 | p :: ps => by simp [u6, t9 ps]
theorem l6 : ∀ ks, l8 lo ks = ks.map (tmc lo)
 | [] => rfl
 | p :: ps => by simp [l8, l6 ps]
theorem A9 : ∀ ks, z8 lo ks = ks.map (J3 lo)
 | [] => rfl
 | p :: ps => by simp [z8, A9 ps]
mutual
theorem as6 {l m : Nat} (h : m ≤ l) : ∀ p, Low (v7 l p) (v7 m p)
 | .mk _ _ _ ks => .agg (.cons .refl (.cons .refl (.cons .refl (.cons (.sl h (aQ7 h ks)) .nil))))
theorem aQ7 {l m : Nat} (h : m ≤ l) : ∀ ps, Lows (u6 l ps) (u6 m ps)
 | [] => .nil
 | p :: ps => .cons (as6 h p) (aQ7 h ps)
end
mutual
theorem A0 {l m : Nat} (h : m ≤ l) : ∀ t, Low (tmc l t) (tmc m t)
 | .mk _ _ _ ks cs => .agg (.cons .refl (.cons .refl (.cons .refl (.cons (.sl h (ab6 h ks)) (.cons (.sl h (bi1 h cs)) .nil)))))
theorem ab6 {l m : Nat} (h : m ≤ l) : ∀ ts, Lows (l8 l ts) (l8 m ts)
 | [] => .nil
 | t :: ts => .cons (A0 h t) (ab6 h ts)
theorem bP9 {l m : Nat} (h : m ≤ l) : ∀ c, Low (J3 l c) (J3 m c)
 | .mk p t => .agg (.cons (as6 h p) (.cons (A0 h t) .nil))
theorem bi1 {l m : Nat} (h : m ≤ l) : ∀ cs, Lows (z8 l cs) (z8 m cs)
 | [] => .nil
 | c :: cs => .cons (bP9 h c) (bi1 h cs)
end
instance (t : Tm) : LowI (tmc lo t) (tmc 0 t) := ⟨A0 (Nat.zero_le _) t⟩
instance (E : TypeId) (ts : List Tm) : LowI (.sl lo E (l8 lo ts)) (.sl 0 E (l8 0 ts)) := ⟨.sl (Nat.zero_le _) (ab6 (Nat.zero_le _) ts)⟩
theorem D9 {ks : List Pat} {i : Nat} (h : i < ks.length) : (u6 lo ks)[i]? = some (v7 lo ks[i]) := by simp [t9, h]
theorem q7 {ks : List Tm} {i : Nat} (h : i < ks.length) : (l8 lo ks)[i]? = some (tmc lo ks[i]) := by simp [l6, h]
theorem G2 {ks : List Cs} {i : Nat} (h : i < ks.length) : (z8 lo ks)[i]? = some (J3 lo ks[i]) := by simp [A9, h]
theorem f5 (ks : List Pat) : (u6 lo ks).length = ks.length := by simp [t9]
theorem a9 (ks : List Tm) : (l8 lo ks).length = ks.length := by simp [l6]
theorem j3 (ks : List Cs) : (z8 lo ks).length = ks.length := by simp [A9]
mutual
def l9 : Pat → Nat
 | .mk _ _ _ ks => 1 + u5 ks
def u5 : List Pat → Nat
 | [] => 0
 | p :: ps => l9 p + u5 ps
end
mutual
def a8 : Tm → Nat
 | .mk _ _ _ ks cs => 1 + d7 ks + f6 cs
def d7 : List Tm → Nat
 | [] => 0
 | t :: ts => a8 t + d7 ts
def p9 : Cs → Nat
 | .mk p t => l9 p + a8 t
def f6 : List Cs → Nat
 | [] => 0
 | c :: cs => p9 c + f6 cs
end
theorem al4 (p : Pat) : 1 ≤ l9 p := by cases p; simp [l9]
theorem m8 (t : Tm) : 1 ≤ a8 t := by cases t; simp [a8]; omega
theorem bE6 (c : Cs) : 1 ≤ p9 c := by cases c with | mk p t => have := al4 p; simp [p9]; omega
theorem q9 : ∀ {ks : List Pat} {i : Nat} (h : i < ks.length), l9 ks[i] ≤ u5 ks
 | p :: ps, 0, _ => by simp [u5]
 | p :: ps, i + 1, h => by
  have := q9 (ks := ps) (i := i) (by simpa using h)
  simp [u5]; omega
theorem D5 : ∀ {ks : List Tm} {i : Nat} (h : i < ks.length), a8 ks[i] ≤ d7 ks
 | p :: ps, 0, _ => by simp [d7]
 | p :: ps, i + 1, h => by
  have := D5 (ks := ps) (i := i) (by simpa using h)
  simp [d7]; omega
theorem E4 : ∀ {ks : List Cs} {i : Nat} (h : i < ks.length), p9 ks[i] ≤ f6 ks
 | p :: ps, 0, _ => by simp [f6]
 | p :: ps, i + 1, h => by
  have := E4 (ks := ps) (i := i) (by simpa using h)
  simp [f6]; omega
theorem m4 : ∀ (ks : List Pat), ks.length ≤ u5 ks
 | [] => by simp [u5]
 | p :: ps => by
  have := m4 ps
  have := al4 p
  simp [u5]; omega
theorem f9 : ∀ (ks : List Tm), ks.length ≤ d7 ks
 | [] => by simp [d7]
 | p :: ps => by
  have := f9 ps
  have := m8 p
  simp [d7]; omega
theorem m5 : ∀ (ks : List Cs), ks.length ≤ f6 ks
 | [] => by simp [f6]
 | p :: ps => by
  have := m5 ps
  have := bE6 p
  simp [f6]; omega
theorem S0 : ∀ {ks : List Pat} {i : Nat}, u5 (ks.take i) ≤ u5 ks
 | [], i => by simp [u5]
 | p :: ps, 0 => by simp [u5]
 | p :: ps, i + 1 => by
  have := S0 (ks := ps) (i := i)
  simp [u5]; omega
theorem aa2 : ∀ {ks : List Tm} {i : Nat}, d7 (ks.take i) ≤ d7 ks
 | [], i => by simp [d7]
 | p :: ps, 0 => by simp [d7]
 | p :: ps, i + 1 => by
  have := aa2 (ks := ps) (i := i)
  simp [d7]; omega
theorem tbl : k9 Tryz.prog = true := by kernel_rfl
theorem ci9 : Tryz.prog.follows .mixedOrders = true := by kernel_rfl
noncomputable def SS : Seat Tryz.prog := Seat.auto [] tbl
theorem zG {p : Prop} (h : p := by first | exact Guard.T rfl rfl rfl | exact Guard.F rfl rfl rfl | exact Guard.gT rfl rfl rfl | exact Guard.gF rfl rfl rfl) : p := h
theorem yM {n g : Prop} (c : n) (h : n → g := by exact fun c => cd7 SS c) : g := h c
theorem yL {n g : Prop} (c : n) (h : n → g := by first | exact fun c => b5 (bG1 SS) c | exact fun c => b5 (N9 SS) c) : g := h c
theorem yI {n g : Prop} (c : n) (h : n → g := by exact fun c => b5 (az0 SS) c) : g := h c
theorem yA {n g : Prop} (c : n) (h : n → g := by first | exact fun c => bm0 c | exact fun c => b5 (aZ6 SS) c) : g := h c
theorem yF {n g : Prop} (c : n) (h : n → g := by first | exact fun c => b5 (bq7 SS) c | exact fun c => b5 (aZ5 SS) c) : g := h c
theorem yB {n g : Prop} (c : n) (h : n → g := by exact fun c => b5 (aZ6 SS) c) : g := h c
theorem yS {n g : Prop} (c : n) (h : n → g := by exact fun c => aU7 SS c) : g := h c
theorem xL {n g : Prop} (c : n) (h : n → g := by first | exact fun c => f7 zG (bG1 SS) c | exact fun c => f7 zG (N9 SS) c) : g := h c
theorem xF {n g : Prop} (c : n) (h : n → g := by first | exact fun c => f7 zG (bq7 SS) c | exact fun c => f7 zG (aZ5 SS) c) : g := h c
theorem yK {n g : Prop} (c : n) (h : n → g := by first | exact fun c => cd8 SS c | exact fun c => b5 (N9 SS) c) : g := h c
theorem xI {n g : Prop} (c : n) (h : n → g := by exact fun c => f7 zG (az0 SS) c) : g := h c
theorem xM {n g : Prop} (c : n) (h : n → g := by exact fun c => f7 zG (N8 SS) c) : g := h c
theorem yN {n g : Prop} (c : n) (h : n → g := by exact fun c => b5 (ca4 SS) c) : g := h c
theorem yC {n g : Prop} (c : n) (h : n → g := by first | exact fun c => b5 (ca3 SS) c | exact fun c => b5 (bG2 SS) c | exact fun c => b5 (bG4 SS) c | exact fun c => b5 (bG3 SS) c) : g := h c
theorem yZ {n g : Prop} (c : n) (h : n → g := by exact fun c => aU8 SS c) : g := h c
theorem yX {n g : Prop} (c : n) (h : n → g := by exact fun c => b5 (by4 SS) c) : g := h c
theorem yP {n g : Prop} (c : n) (h : n → g := by first | exact fun c => b5 (aG1 SS) c | exact fun c => b5 (aG2 SS) c) : g := h c
theorem yO {n g : Prop} (c : n) (h : n → g := by exact fun c => b5 (ch9 SS) c) : g := h c
theorem yG {n g : Prop} (c : n) (h : n → g := by exact fun c => b5 (N9 SS) c) : g := h c
theorem yJ {n g : Prop} (c : n) (h : n → g := by exact fun c => b5 (N8 SS) c) : g := h c
theorem yY {n g : Prop} (c : n) (h : n → g := by exact fun c => b5 (bk3 SS) c) : g := h c
theorem yQ {n g : Prop} (c : n) (h : n → g := by exact fun c => b5 (ca2 SS) c) : g := h c
theorem yW {n g : Prop} (c : n) (h : n → g := by first | exact fun c => bz8 SS c | exact fun c => aU7 SS c) : g := h c
theorem yT {n g : Prop} (c : n) (h : n → g := by first | exact fun c => b5 (bk4 SS) c | exact fun c => b5 (aG1 SS) c | exact fun c => b5 (aG2 SS) c) : g := h c
theorem xQ {n g : Prop} (c : n) (h : n → g := by exact fun c => f7 zG (ca2 SS) c) : g := h c
theorem xC {n g : Prop} (c : n) (h : n → g := by first | exact fun c => f7 zG (ca3 SS) c | exact fun c => f7 zG (bG2 SS) c | exact fun c => f7 zG (bG4 SS) c | exact fun c => f7 zG (bG3 SS) c) : g := h c
theorem xN {n g : Prop} (c : n) (h : n → g := by exact fun c => f7 zG (cc9 SS) c) : g := h c
theorem xP {n g : Prop} (c : n) (h : n → g := by first | exact fun c => f7 zG (aG1 SS) c | exact fun c => f7 zG (aG2 SS) c) : g := h c
theorem xO {n g : Prop} (c : n) (h : n → g := by exact fun c => f7 zG (ch8 SS) c) : g := h c
theorem zW {p : Prop} (h : p := by repeat (first | exact .nil | refine .cons rfl (by first | exact .refl | (focus ((repeat constructor); done))) ?_)) : p := h
theorem zE {p : Prop} (h : p := by repeat (first | exact SubE.nil | refine SubE.cons rfl (by first | rfl | (rw [b7 (by omega) (by omega)]; rfl)) ?_)) : p := h
theorem zH {p : Prop} (h : p := by repeat (first | exact SubH.nil | refine SubH.cons rfl (by first | rfl | (rw [b7 (by omega) (by omega)]; rfl)) ?_)) : p := h
theorem tQ {n g : Prop} (c : n) (h : n → g := by intro c; (repeat refine Tri.seq ?_); exact c) : g := h c
theorem Cq {P : Program} {X : Ctx} {st : St} {Q : Exit → St → Prop} {c : Operand} {x y : Code} {b : Bool} (hx : b = true → Tri P X x st Q) (hy : b = false → Tri P X y st Q) (hc : d6 X.G st.env c = some (bv b) := by rfl) : Tri P X (.cond c x y) st Q := Tri.cond hc hx hy
theorem Fq {G : List (Nat × TypeId × Pu)} {f : FuncId} {fn : Func} {c : Code} (n : Nat) (hf : Tryz.prog.funcs[f]? = some fn) {args : List PV} {v : PV} (h : ∀ w0 M ρ0 D0, Tri Tryz.prog ⟨w0, n, M, G, [], [], ρ0, D0, none⟩ c ⟨T5 0 args, []⟩ fun e st => (e = .normal ∨ e = .ret) ∧ ∃ u, res Tryz.prog st fn.results.toList = some u ∧ VImp Tryz.prog u v) (hb : fn.body = some c := by exact rfl) (hn : n = args.length + (fn.ntmps - args.length) := by exact rfl) (hv : v.labs = [] := by exact rfl) : FCall Tryz.prog G f args v := FCall.of_tri tbl n hf hb hn hv h
theorem Rq {n g : Prop} (c : n) (h : n → g := by exact fun c => Tri.ret ⟨.inr rfl, B8 rfl b4 c⟩) : g := h c
theorem Rqz {n g : Prop} (c : n) (h : n → g := by exact fun c => Tri.ret ⟨.inr rfl, B8 rfl b4 c, zO⟩) : g := h c
theorem Rc {n g : Prop} (c : n) (h : n → g := by exact fun c => Tri.ret ⟨.inr rfl, B8 rfl j6 c⟩) : g := h c
theorem Rcz {n g : Prop} (c : n) (h : n → g := by exact fun c => Tri.ret ⟨.inr rfl, B8 rfl j6 c, zO⟩) : g := h c
theorem Dq {p n g : Prop} (k : p) (c : n) (h : p → n → g := by exact fun k c => b5 (c8 (fun _ => k)) c) : g := h k c
theorem Xq {p n g : Prop} (k : p) (c : n) (h : p → n → g := by exact fun k c => b5 (g9 SS (h0 := by omega) (hp := k)) c) : g := h k c
theorem zk0 {p : Prop} (h : p := by repeat (first | exact SubE.nil | refine SubE.cons rfl (by first | rfl | (rw [b7 (by omega) (by omega)]; rfl) | (simp only [*, Bool.true_or, Bool.or_true, Bool.false_or])) ?_)) : p := h
theorem zk1 {p : Prop} (h : p := by repeat (first | exact SubH.nil | refine SubH.cons rfl (by first | rfl | (rw [b7 (by omega) (by omega)]; rfl) | (simp only [*, Bool.true_or, Bool.or_true, Bool.false_or])) ?_)) : p := h
theorem zk2 {p : Prop} (h : p := by repeat (first | exact .nil | refine .cons rfl (by first | exact .refl | (focus ((repeat constructor); done)) | (exact .nilcOw)) ?_)) : p := h
theorem zk4 {p : Prop} (h : p := by repeat (first | exact .nil | refine .cons rfl (by first | exact .refl | (focus ((repeat constructor); done)) | (rw [b7 (by omega) (by omega)]; exact .refl)) ?_)) : p := h
theorem zk5 {p : Prop} (h : p := by repeat (first | exact .nil | refine .cons rfl (by first | exact .refl | (focus ((repeat constructor); done)) | (exact .var (.agg (.cons .refl (.cons .refl (.cons .refl (.cons .nilcOw (.cons .nilcOw .nil)))))))) ?_)) : p := h
theorem zk8 {p : Prop} (h : p := by repeat (first | exact .nil | refine .cons rfl (by first | exact .refl | (focus ((repeat constructor); done)) | (exact .xsOw)) ?_)) : p := h
theorem zk9 {p : Prop} (h : p := by repeat (first | exact .nil | refine .cons rfl (by first | exact .refl | (focus ((repeat constructor); done)) | (exact .var (.agg (.cons .refl (.cons .refl (.cons .refl (.cons .nilcOw (.cons .refl .nil)))))))) ?_)) : p := h
theorem zO {p : Prop} (h : p := by repeat (first | exact OutH.nil | refine OutH.cons rfl (by first | exact ObImp.refl _ | exact OWk.imp (by repeat constructor)) ?_)) : p := h
theorem yR {n g : Prop} (c : n) (h : n → g := by intro c; (repeat refine Tri.seq ?_); exact Tri.region ci9 c) : g := h c
theorem Y0 {n g : Prop} (c : n) (h : n → g := by intro c; refine B5 ?_; refine tQ ?_; exact c) : g := h c
theorem Y1 {n g : Prop} (c : n) (h : n → g := by intro c; refine yR ?_; refine yM ?_; exact c) : g := h c
theorem Y2 {n g : Prop} (c : n) (h : n → g := by intro c; refine yA ?_; refine Y0 ?_; exact c) : g := h c
theorem Y3 {n g : Prop} (c : n) (h : n → g := by intro c; refine yR ?_; refine yB ?_; exact c) : g := h c
theorem Y4 {n g : Prop} (c : n) (h : n → g := by intro c; refine yR ?_; refine yL ?_; exact c) : g := h c
theorem Y5 {n g : Prop} (c : n) (h : n → g := by intro c; refine yF ?_; refine yL ?_; exact c) : g := h c
theorem Y6 {n g : Prop} (c : n) (h : n → g := by intro c; refine xF ?_; refine xL ?_; exact c) : g := h c
theorem Y7 {n g : Prop} (c : n) (h : n → g := by intro c; refine yF ?_; refine yK ?_; exact c) : g := h c
theorem Y8 {n g : Prop} (c : n) (h : n → g := by intro c; refine yA ?_; refine B5 ?_; exact c) : g := h c
theorem Y9 {n g : Prop} (c : n) (h : n → g := by intro c; refine yR ?_; refine yI ?_; exact c) : g := h c
theorem Y10 {n g : Prop} (c : n) (h : n → g := by intro c; refine Y3 ?_; refine Y0 ?_; exact c) : g := h c
theorem Y11 {n g : Prop} (c : n) (h : n → g := by intro c; refine Y1 ?_; refine yI ?_; exact c) : g := h c
theorem Y12 {n g : Prop} (c : n) (h : n → g := by intro c; refine yM ?_; refine Y6 ?_; exact c) : g := h c
theorem Y13 {n g : Prop} (c : n) (h : n → g := by intro c; refine yR ?_; refine Y5 ?_; exact c) : g := h c
theorem Y14 {n g : Prop} (c : n) (h : n → g := by intro c; refine yR ?_; refine Y7 ?_; exact c) : g := h c
theorem Y15 {n g : Prop} (c : n) (h : n → g := by intro c; refine Tri.skip ?_; refine tQ ?_; exact c) : g := h c
theorem Y16 {n g : Prop} (c : n) (h : n → g := by intro c; refine yS ?_; refine B5 ?_; exact c) : g := h c
theorem Y17 {n g : Prop} (c : n) (h : n → g := by intro c; refine Y1 ?_; refine yM ?_; exact c) : g := h c
theorem Y18 {n g : Prop} (c : n) (h : n → g := by intro c; refine Y9 ?_; refine Y2 ?_; exact c) : g := h c
theorem Y19 {n g : Prop} (c : n) (h : n → g := by intro c; refine xM ?_; refine xI ?_; exact c) : g := h c
theorem Y20 {n g : Prop} (c : n) (h : n → g := by intro c; refine Y15 ?_; refine Tri.block ?_; exact c) : g := h c
theorem Y21 {n g : Prop} (c : n) (h : n → g := by intro c; refine Y3 ?_; refine B5 ?_; exact c) : g := h c
theorem Y22 {n g : Prop} (c : n) (h : n → g := by intro c; refine Y4 ?_; refine yL ?_; exact c) : g := h c
theorem Y23 {n g : Prop} (c : n) (h : n → g := by intro c; refine yS ?_; refine Y0 ?_; exact c) : g := h c
theorem Y24 {n g : Prop} (c : n) (h : n → g := by intro c; refine Y13 ?_; refine yI ?_; exact c) : g := h c
theorem Y25 {n g : Prop} (c : n) (h : n → g := by intro c; refine yB ?_; refine Y0 ?_; exact c) : g := h c
theorem Y26 {n g : Prop} (c : n) (h : n → g := by intro c; refine yC ?_; refine yI ?_; exact c) : g := h c
theorem Y27 {n g : Prop} (c : n) (h : n → g := by intro c; refine yM ?_; refine yX ?_; exact c) : g := h c
theorem Y28 {n g : Prop} (c : n) (h : n → g := by intro c; refine Y27 ?_; refine yX ?_; exact c) : g := h c
theorem Y29 {n g : Prop} (c : n) (h : n → g := by intro c; refine xI ?_; refine yO ?_; exact c) : g := h c
theorem Y30 {n g : Prop} (c : n) (h : n → g := by intro c; refine Y11 ?_; refine Y0 ?_; exact c) : g := h c
theorem Y31 {n g : Prop} (c : n) (h : n → g := by intro c; refine yR ?_; refine p7 SS 1 ?_; exact c) : g := h c
theorem Y32 {n g : Prop} (c : n) (h : n → g := by intro c; refine Y9 ?_; refine yM ?_; exact c) : g := h c
theorem Y33 {n g : Prop} (c : n) (h : n → g := by intro c; refine Y32 ?_; refine B5 ?_; exact c) : g := h c
theorem Y34 {n g : Prop} (c : n) (h : n → g := by intro c; refine yJ ?_; refine Y0 ?_; exact c) : g := h c
theorem Y35 {n g : Prop} (c : n) (h : n → g := by intro c; refine yM ?_; refine Y19 ?_; exact c) : g := h c
theorem Y36 {n g : Prop} (c : n) (h : n → g := by intro c; refine yR ?_; refine p7 SS 2 ?_; exact c) : g := h c
theorem Y37 {n g : Prop} (c : n) (h : n → g := by intro c; refine yM ?_; refine xL ?_; exact c) : g := h c
theorem Y38 {n g : Prop} (c : n) (h : n → g := by intro c; refine yR ?_; refine b5 (J7 SS) ?_; exact c) : g := h c
theorem Y39 {n g : Prop} (c : n) (h : n → g := by intro c; refine Y12 ?_; refine Y6 ?_; exact c) : g := h c
theorem Y40 {n g : Prop} (c : n) (h : n → g := by intro c; refine Y11 ?_; refine Y8 ?_; exact c) : g := h c
theorem Y41 {n g : Prop} (c : n) (h : n → g := by intro c; refine Y9 ?_; refine Y0 ?_; exact c) : g := h c
theorem Y42 {n g : Prop} (c : n) (h : n → g := by intro c; refine J2 ?_; refine tQ ?_; exact c) : g := h c
theorem Y43 {n g : Prop} (c : n) (h : n → g := by intro c; refine yC ?_; refine Y34 ?_; exact c) : g := h c
theorem Y44 {n g : Prop} (c : n) (h : n → g := by intro c; refine yN ?_; refine Y2 ?_; exact c) : g := h c
theorem Y45 {n g : Prop} (c : n) (h : n → g := by intro c; refine Tri.skip ?_; refine Y10 ?_; exact c) : g := h c
theorem Y46 {n g : Prop} (c : n) (h : n → g := by intro c; refine Y38 ?_; refine Y2 ?_; exact c) : g := h c
theorem Y47 {n g : Prop} (c : n) (h : n → g := by intro c; refine Y26 ?_; refine Y0 ?_; exact c) : g := h c
theorem Y48 {n g : Prop} (c : n) (h : n → g := by intro c; refine yM ?_; refine yM ?_; exact c) : g := h c
theorem Y49 {n g : Prop} (c : n) (h : n → g := by intro c; refine yR ?_; refine p7 SS 3 ?_; exact c) : g := h c
theorem Y50 {n g : Prop} (c : n) (h : n → g := by intro c; refine Y1 ?_; refine Y7 ?_; exact c) : g := h c
theorem Y51 {n g : Prop} (c : n) (h : n → g := by intro c; refine yR ?_; refine yT ?_; exact c) : g := h c
theorem Y52 {n g : Prop} (c : n) (h : n → g := by intro c; refine Y8 ?_; refine Y30 ?_; exact c) : g := h c
theorem Y53 {n g : Prop} (c : n) (h : n → g := by intro c; refine xI ?_; refine yN ?_; exact c) : g := h c
theorem Y54 {n g : Prop} (c : n) (h : n → g := by intro c; refine Y5 ?_; refine yI ?_; exact c) : g := h c
theorem Y55 {n g : Prop} (c : n) (h : n → g := by intro c; refine Y24 ?_; refine Y12 ?_; exact c) : g := h c
theorem Y56 {n g : Prop} (c : n) (h : n → g := by intro c; refine yS ?_; refine Y25 ?_; exact c) : g := h c
theorem Y57 {n g : Prop} (c : n) (h : n → g := by intro c; refine Y36 ?_; refine p7 SS 3 ?_; exact c) : g := h c
theorem Y58 {n g : Prop} (c : n) (h : n → g := by intro c; refine Y11 ?_; refine Y35 ?_; exact c) : g := h c
theorem Y59 {n g : Prop} (c : n) (h : n → g := by intro c; refine Y29 ?_; refine Y12 ?_; exact c) : g := h c
theorem Y60 {n g : Prop} (c : n) (h : n → g := by intro c; refine Y14 ?_; refine yM ?_; exact c) : g := h c
theorem Y61 {n g : Prop} (c : n) (h : n → g := by intro c; refine yA ?_; refine Y8 ?_; exact c) : g := h c
theorem Y62 {n g : Prop} (c : n) (h : n → g := by intro c; refine Y17 ?_; refine yI ?_; exact c) : g := h c
theorem Y63 {n g : Prop} (c : n) (h : n → g := by intro c; refine Tri.exit ?_; refine Y10 ?_; exact c) : g := h c
theorem Y64 {n g : Prop} (c : n) (h : n → g := by intro c; refine Y31 ?_; refine b9 SS 2 ?_; exact c) : g := h c
theorem Y65 {n g : Prop} (c : n) (h : n → g := by intro c; refine Y4 ?_; refine yM ?_; exact c) : g := h c
theorem Y66 {n g : Prop} (c : n) (h : n → g := by intro c; refine Tri.skip ?_; refine Y33 ?_; exact c) : g := h c
theorem Y67 {n g : Prop} (c : n) (h : n → g := by intro c; refine Y64 ?_; refine b8 [1, 2] ?_; exact c) : g := h c
theorem Y68 {n g : Prop} (c : n) (h : n → g := by intro c; refine Y7 ?_; refine yM ?_; exact c) : g := h c
theorem Y69 {n g : Prop} (c : n) (h : n → g := by intro c; refine yM ?_; refine xM ?_; exact c) : g := h c
theorem Y70 {n g : Prop} (c : n) (h : n → g := by intro c; refine Y5 ?_; refine Y5 ?_; exact c) : g := h c
theorem Y71 {n g : Prop} (c : n) (h : n → g := by intro c; refine Y21 ?_; refine Y1 ?_; exact c) : g := h c
theorem Y72 {n g : Prop} (c : n) (h : n → g := by intro c; refine Tri.skip ?_; refine Y4 ?_; exact c) : g := h c
theorem Y73 {n g : Prop} (c : n) (h : n → g := by intro c; refine Y57 ?_; refine yB ?_; exact c) : g := h c
theorem Y74 {n g : Prop} (c : n) (h : n → g := by intro c; refine yF ?_; refine yW ?_; exact c) : g := h c
theorem Y75 {n g : Prop} (c : n) (h : n → g := by intro c; refine yP ?_; refine Y23 ?_; exact c) : g := h c
theorem Y76 {n g : Prop} (c : n) (h : n → g := by intro c; refine Y11 ?_; refine Y2 ?_; exact c) : g := h c
theorem Y77 {n g : Prop} (c : n) (h : n → g := by intro c; refine Y31 ?_; refine yB ?_; exact c) : g := h c
theorem Y78 {n g : Prop} (c : n) (h : n → g := by intro c; refine Y4 ?_; refine yY ?_; exact c) : g := h c
theorem Y79 {n g : Prop} (c : n) (h : n → g := by intro c; refine yO ?_; refine Y2 ?_; exact c) : g := h c
theorem Y80 {n g : Prop} (c : n) (h : n → g := by intro c; refine Y28 ?_; refine Y61 ?_; exact c) : g := h c
theorem Y81 {n g : Prop} (c : n) (h : n → g := by intro c; refine yZ ?_; refine yP ?_; exact c) : g := h c
theorem Y82 {n g : Prop} (c : n) (h : n → g := by intro c; refine yL ?_; refine yL ?_; exact c) : g := h c
theorem Y83 {n g : Prop} (c : n) (h : n → g := by intro c; refine yF ?_; refine Y16 ?_; exact c) : g := h c
theorem Y84 {n g : Prop} (c : n) (h : n → g := by intro c; refine tQ ?_; refine Tri.block ?_; exact c) : g := h c
theorem Y85 {n g : Prop} (c : n) (h : n → g := by intro c; refine Y77 ?_; refine b8 [1] ?_; exact c) : g := h c
theorem Y86 {n g : Prop} (c : n) (h : n → g := by intro c; refine Y20 ?_; refine yR ?_; exact c) : g := h c
theorem Y87 {n g : Prop} (c : n) (h : n → g := by intro c; refine Tri.skip ?_; refine Y1 ?_; exact c) : g := h c
theorem Y88 {n g : Prop} (c : n) (h : n → g := by intro c; refine Y1 ?_; refine Y2 ?_; exact c) : g := h c
theorem Y89 {n g : Prop} (c : n) (h : n → g := by intro c; refine Y49 ?_; refine p7 SS 4 ?_; exact c) : g := h c
theorem Y90 {n g : Prop} (c : n) (h : n → g := by intro c; refine Y20 ?_; refine Y60 ?_; exact c) : g := h c
theorem Y91 {n g : Prop} (c : n) (h : n → g := by intro c; refine Y73 ?_; refine b8 [2, 3] ?_; exact c) : g := h c
theorem Y92 {n g : Prop} (c : n) (h : n → g := by intro c; refine yO ?_; refine Y0 ?_; exact c) : g := h c
theorem Y93 {n g : Prop} (c : n) (h : n → g := by intro c; refine Y50 ?_; refine Y47 ?_; exact c) : g := h c
theorem Y94 {n g : Prop} (c : n) (h : n → g := by intro c; refine Y74 ?_; refine J2 ?_; exact c) : g := h c
theorem Y95 {n g : Prop} (c : n) (h : n → g := by intro c; refine Y1 ?_; refine Y8 ?_; exact c) : g := h c
theorem Y96 {n g : Prop} (c : n) (h : n → g := by intro c; refine Y78 ?_; refine Y54 ?_; exact c) : g := h c
theorem Y97 {n g : Prop} (c : n) (h : n → g := by intro c; refine yN ?_; refine Y0 ?_; exact c) : g := h c
theorem Y98 {n g : Prop} (c : n) (h : n → g := by intro c; refine yQ ?_; refine Y0 ?_; exact c) : g := h c
theorem Y99 {n g : Prop} (c : n) (h : n → g := by intro c; refine Tri.skip ?_; refine Y40 ?_; exact c) : g := h c
theorem aq6 {n g : Prop} (c : n) (h : n → g := by intro c; refine Y4 ?_; refine Y23 ?_; exact c) : g := h c
theorem aq5 {n g : Prop} (c : n) (h : n → g := by intro c; refine Y3 ?_; refine Y25 ?_; exact c) : g := h c
theorem aq4 {n g : Prop} (c : n) (h : n → g := by intro c; refine Y16 ?_; refine Y46 ?_; exact c) : g := h c
theorem ch1 {n g : Prop} (c : n) (h : n → g := by intro c; refine yA ?_; refine Y2 ?_; exact c) : g := h c
theorem aq3 {n g : Prop} (c : n) (h : n → g := by intro c; refine xQ ?_; refine yO ?_; exact c) : g := h c
theorem av1 {n g : Prop} (c : n) (h : n → g := by intro c; refine yA ?_; refine J2 ?_; exact c) : g := h c
theorem ay8 {n g : Prop} (c : n) (h : n → g := by intro c; refine Y14 ?_; refine Y43 ?_; exact c) : g := h c
theorem ay7 {n g : Prop} (c : n) (h : n → g := by intro c; refine Y69 ?_; refine Y19 ?_; exact c) : g := h c
theorem ay6 {n g : Prop} (c : n) (h : n → g := by intro c; refine b9 SS 9 ?_; refine yS ?_; exact c) : g := h c
theorem ay5 {n g : Prop} (c : n) (h : n → g := by intro c; refine yS ?_; refine Y42 ?_; exact c) : g := h c
theorem ay4 {n g : Prop} (c : n) (h : n → g := by intro c; refine Y51 ?_; refine Y56 ?_; exact c) : g := h c
theorem ay3 {n g : Prop} (c : n) (h : n → g := by intro c; refine Y17 ?_; refine ch1 ?_; exact c) : g := h c
theorem ay2 {n g : Prop} (c : n) (h : n → g := by intro c; refine Y37 ?_; refine xL ?_; exact c) : g := h c
theorem Y113 {n g : Prop} (c : n) (h : n → g := by intro c; refine b9 SS 5 ?_; refine yS ?_; exact c) : g := h c
theorem aC5 {n g : Prop} (c : n) (h : n → g := by intro c; refine Y113 ?_; refine b8 [5] ?_; exact c) : g := h c
theorem aC4 {n g : Prop} (c : n) (h : n → g := by intro c; refine Y58 ?_; refine Y44 ?_; exact c) : g := h c
instance : Okt Tryz.prog 3 3 := ⟨by kernel_rfl⟩
instance : Sc Tryz.prog 3 := ⟨by kernel_rfl⟩
instance : Zr SS 3 (.pu (.leaf (.int .i64 0))) := ⟨by kernel_rfl⟩
instance : Okt Tryz.prog 4 4 := ⟨by kernel_rfl⟩
instance : Sc Tryz.prog 4 := ⟨by kernel_rfl⟩
instance : Sc Tryz.prog 5 := ⟨by kernel_rfl⟩
instance : Sc Tryz.prog 9 := ⟨by kernel_rfl⟩
instance : Okt Tryz.prog 22 22 := ⟨by kernel_rfl⟩
instance : Sc Tryz.prog 22 := ⟨by kernel_rfl⟩
instance : Sl Tryz.prog 22 130 := ⟨by kernel_rfl⟩
instance : Okt Tryz.prog 23 23 := ⟨by kernel_rfl⟩
instance : Sc Tryz.prog 23 := ⟨by kernel_rfl⟩
instance : Sl Tryz.prog 23 136 := ⟨by kernel_rfl⟩
instance : Okt Tryz.prog 24 24 := ⟨by kernel_rfl⟩
instance : Sc Tryz.prog 24 := ⟨by kernel_rfl⟩
instance : Sl Tryz.prog 24 116 := ⟨by kernel_rfl⟩
instance : El Tryz.prog 24 116 128 := ⟨by kernel_rfl⟩
instance : Okt Tryz.prog 26 26 := ⟨by kernel_rfl⟩
instance : Ag Tryz.prog 26 := ⟨by kernel_rfl⟩
instance : AgT Tryz.prog 26 [22, 23, 24] := ⟨by kernel_rfl⟩
instance : Fld Tryz.prog 26 0 22 := ⟨by kernel_rfl⟩
instance : Fld Tryz.prog 26 1 23 := ⟨by kernel_rfl⟩
instance : Fld Tryz.prog 26 2 24 := ⟨by kernel_rfl⟩
instance : Zr SS 26 (.agg 26 [.nilc, .nilc, .nilc]) := ⟨by kernel_rfl⟩
instance : Okt Tryz.prog 28 28 := ⟨by kernel_rfl⟩
instance : Ag Tryz.prog 28 := ⟨by kernel_rfl⟩
instance : Zr SS 28 (.pu (l4 Z32)) := ⟨by kernel_rfl⟩
instance : Okt Tryz.prog 29 29 := ⟨by kernel_rfl⟩
instance : Sc Tryz.prog 29 := ⟨by kernel_rfl⟩
instance : Sl Tryz.prog 29 32 := ⟨by kernel_rfl⟩
instance : El Tryz.prog 29 32 96 := ⟨by kernel_rfl⟩
instance : Okt Tryz.prog 30 30 := ⟨by kernel_rfl⟩
instance : Sc Tryz.prog 30 := ⟨by kernel_rfl⟩
instance : Sl Tryz.prog 30 106 := ⟨by kernel_rfl⟩
instance : El Tryz.prog 30 106 168 := ⟨by kernel_rfl⟩
instance : Okt Tryz.prog 32 32 := ⟨by kernel_rfl⟩
instance : Ag Tryz.prog 32 := ⟨by kernel_rfl⟩
instance : AgT Tryz.prog 32 [3, 3, 28, 29, 30] := ⟨by kernel_rfl⟩
instance : Fld Tryz.prog 32 0 3 := ⟨by kernel_rfl⟩
instance : Fld Tryz.prog 32 1 3 := ⟨by kernel_rfl⟩
instance : Fld Tryz.prog 32 2 28 := ⟨by kernel_rfl⟩
instance : Fld Tryz.prog 32 3 29 := ⟨by kernel_rfl⟩
instance : Fld Tryz.prog 32 4 30 := ⟨by kernel_rfl⟩
instance : Zr SS 32 (.agg 32 [(.pu (.leaf (.int .i64 0))), (.pu (.leaf (.int .i64 0))), (.pu (l4 Z32)), .nilc, .nilc]) := ⟨by kernel_rfl⟩
instance : Okt Tryz.prog 36 36 := ⟨by kernel_rfl⟩
instance : Sc Tryz.prog 36 := ⟨by kernel_rfl⟩
instance : Okt Tryz.prog 37 37 := ⟨by kernel_rfl⟩
instance : Sc Tryz.prog 37 := ⟨by kernel_rfl⟩
instance : Zr SS 37 (.pu (.leaf (.int .i64 0))) := ⟨by kernel_rfl⟩
instance : Okt Tryz.prog 39 39 := ⟨by kernel_rfl⟩
instance : Sc Tryz.prog 39 := ⟨by kernel_rfl⟩
instance : Sl Tryz.prog 39 3 := ⟨by kernel_rfl⟩
instance : El Tryz.prog 39 3 8 := ⟨by kernel_rfl⟩
instance : Zr SS 39 .nilc := ⟨by kernel_rfl⟩
instance : Okt Tryz.prog 45 45 := ⟨by kernel_rfl⟩
instance : Sc Tryz.prog 45 := ⟨by kernel_rfl⟩
instance : Zr SS 45 (.pu (.leaf .nilFunc)) := ⟨by kernel_rfl⟩
instance : Sc Tryz.prog 53 := ⟨by kernel_rfl⟩
instance : Sl Tryz.prog 53 58 := ⟨by kernel_rfl⟩
instance : Zr SS 53 .nilc := ⟨by kernel_rfl⟩
instance : Sl Tryz.prog 54 28 := ⟨by kernel_rfl⟩
instance : Okt Tryz.prog 58 58 := ⟨by kernel_rfl⟩
instance : Ag Tryz.prog 58 := ⟨by kernel_rfl⟩
instance : AgT Tryz.prog 58 [3, 3, 28, 53, 56] := ⟨by kernel_rfl⟩
instance : Zr SS 58 (.agg 58 [(.pu (.leaf (.int .i64 0))), (.pu (.leaf (.int .i64 0))), (.pu (l4 Z32)), .nilc, (.agg 56 [.nilc, (.pu (.leaf (.bool false))), (.pu (.leaf (.int .i64 0)))])]) := ⟨by kernel_rfl⟩
instance : Okt Tryz.prog 65 65 := ⟨by kernel_rfl⟩
instance : Ag Tryz.prog 65 := ⟨by kernel_rfl⟩
instance : AgT Tryz.prog 65 [3, 3, 32, 28, 3] := ⟨by kernel_rfl⟩
instance : Fld Tryz.prog 65 0 3 := ⟨by kernel_rfl⟩
instance : Fld Tryz.prog 65 1 3 := ⟨by kernel_rfl⟩
instance : Fld Tryz.prog 65 2 32 := ⟨by kernel_rfl⟩
instance : Fld Tryz.prog 65 3 28 := ⟨by kernel_rfl⟩
instance : Fld Tryz.prog 65 4 3 := ⟨by kernel_rfl⟩
instance : Zr SS 65 (.agg 65 [(.pu (.leaf (.int .i64 0))), (.pu (.leaf (.int .i64 0))), (.agg 32 [(.pu (.leaf (.int .i64 0))), (.pu (.leaf (.int .i64 0))), (.pu (l4 Z32)), .nilc, .nilc]), (.pu (l4 Z32)), (.pu (.leaf (.int .i64 0)))]) := ⟨by kernel_rfl⟩
instance : Okt Tryz.prog 87 87 := ⟨by kernel_rfl⟩
instance : Ag Tryz.prog 87 := ⟨by kernel_rfl⟩
instance : AgT Tryz.prog 87 [3, 3, 32, 28, 3] := ⟨by kernel_rfl⟩
instance : Fld Tryz.prog 87 0 3 := ⟨by kernel_rfl⟩
instance : Fld Tryz.prog 87 1 3 := ⟨by kernel_rfl⟩
instance : Fld Tryz.prog 87 2 32 := ⟨by kernel_rfl⟩
instance : Fld Tryz.prog 87 3 28 := ⟨by kernel_rfl⟩
instance : Fld Tryz.prog 87 4 3 := ⟨by kernel_rfl⟩
instance : Zr SS 87 (.agg 87 [(.pu (.leaf (.int .i64 0))), (.pu (.leaf (.int .i64 0))), (.agg 32 [(.pu (.leaf (.int .i64 0))), (.pu (.leaf (.int .i64 0))), (.pu (l4 Z32)), .nilc, .nilc]), (.pu (l4 Z32)), (.pu (.leaf (.int .i64 0)))]) := ⟨by kernel_rfl⟩
instance : Okt Tryz.prog 102 102 := ⟨by kernel_rfl⟩
instance : Sc Tryz.prog 102 := ⟨by kernel_rfl⟩
instance : Sl Tryz.prog 102 104 := ⟨by kernel_rfl⟩
instance : El Tryz.prog 102 104 72 := ⟨by kernel_rfl⟩
instance : Okt Tryz.prog 104 104 := ⟨by kernel_rfl⟩
instance : Ag Tryz.prog 104 := ⟨by kernel_rfl⟩
instance : AgT Tryz.prog 104 [3, 3, 28, 102] := ⟨by kernel_rfl⟩
instance : Fld Tryz.prog 104 0 3 := ⟨by kernel_rfl⟩
instance : Fld Tryz.prog 104 1 3 := ⟨by kernel_rfl⟩
instance : Fld Tryz.prog 104 2 28 := ⟨by kernel_rfl⟩
instance : Fld Tryz.prog 104 3 102 := ⟨by kernel_rfl⟩
instance : Zr SS 104 (.agg 104 [(.pu (.leaf (.int .i64 0))), (.pu (.leaf (.int .i64 0))), (.pu (l4 Z32)), .nilc]) := ⟨by kernel_rfl⟩
instance : Okt Tryz.prog 106 106 := ⟨by kernel_rfl⟩
instance : Ag Tryz.prog 106 := ⟨by kernel_rfl⟩
instance : AgT Tryz.prog 106 [104, 32] := ⟨by kernel_rfl⟩
instance : Fld Tryz.prog 106 0 104 := ⟨by kernel_rfl⟩
instance : Fld Tryz.prog 106 1 32 := ⟨by kernel_rfl⟩
instance : Zr SS 106 (.agg 106 [(.agg 104 [(.pu (.leaf (.int .i64 0))), (.pu (.leaf (.int .i64 0))), (.pu (l4 Z32)), .nilc]), (.agg 32 [(.pu (.leaf (.int .i64 0))), (.pu (.leaf (.int .i64 0))), (.pu (l4 Z32)), .nilc, .nilc])]) := ⟨by kernel_rfl⟩
instance : Okt Tryz.prog 116 116 := ⟨by kernel_rfl⟩
instance : Ag Tryz.prog 116 := ⟨by kernel_rfl⟩
instance : AgT Tryz.prog 116 [28, 32] := ⟨by kernel_rfl⟩
instance : Fld Tryz.prog 116 0 28 := ⟨by kernel_rfl⟩
instance : Fld Tryz.prog 116 1 32 := ⟨by kernel_rfl⟩
instance : Zr SS 116 (.agg 116 [(.pu (l4 Z32)), (.agg 32 [(.pu (.leaf (.int .i64 0))), (.pu (.leaf (.int .i64 0))), (.pu (l4 Z32)), .nilc, .nilc])]) := ⟨by kernel_rfl⟩
instance : Sc Tryz.prog 126 := ⟨by kernel_rfl⟩
instance : Sl Tryz.prog 126 53 := ⟨by kernel_rfl⟩
instance : Ag Tryz.prog 128 := ⟨by kernel_rfl⟩
instance : AgT Tryz.prog 128 [9, 3, 126] := ⟨by kernel_rfl⟩
instance : Zr SS 128 (.agg 128 [(.pu (.leaf (.string ⟨#[]⟩))), (.pu (.leaf (.int .i64 0))), .nilc]) := ⟨by kernel_rfl⟩
instance : Ag Tryz.prog 130 := ⟨by kernel_rfl⟩
instance : AgT Tryz.prog 130 [28, 128] := ⟨by kernel_rfl⟩
instance : Zr SS 130 (.agg 130 [(.pu (l4 Z32)), (.agg 128 [(.pu (.leaf (.string ⟨#[]⟩))), (.pu (.leaf (.int .i64 0))), .nilc])]) := ⟨by kernel_rfl⟩
instance : Sc Tryz.prog 132 := ⟨by kernel_rfl⟩
instance : Sl Tryz.prog 132 167 := ⟨by kernel_rfl⟩
instance : Ag Tryz.prog 134 := ⟨by kernel_rfl⟩
instance : AgT Tryz.prog 134 [9, 132] := ⟨by kernel_rfl⟩
instance : Zr SS 134 (.agg 134 [(.pu (.leaf (.string ⟨#[]⟩))), .nilc]) := ⟨by kernel_rfl⟩
instance : Ag Tryz.prog 136 := ⟨by kernel_rfl⟩
instance : AgT Tryz.prog 136 [28, 134] := ⟨by kernel_rfl⟩
instance : Zr SS 136 (.agg 136 [(.pu (l4 Z32)), (.agg 134 [(.pu (.leaf (.string ⟨#[]⟩))), .nilc])]) := ⟨by kernel_rfl⟩
instance : Okt Tryz.prog 147 147 := ⟨by kernel_rfl⟩
instance : Ag Tryz.prog 147 := ⟨by kernel_rfl⟩
instance : AgT Tryz.prog 147 [39, 29] := ⟨by kernel_rfl⟩
instance : Fld Tryz.prog 147 0 39 := ⟨by kernel_rfl⟩
instance : Fld Tryz.prog 147 1 29 := ⟨by kernel_rfl⟩
instance : Zr SS 147 (.agg 147 [.nilc, .nilc]) := ⟨by kernel_rfl⟩
instance : Okt Tryz.prog 149 149 := ⟨by kernel_rfl⟩
instance : Sc Tryz.prog 149 := ⟨by kernel_rfl⟩
instance : Zr SS 149 (.pu (.leaf (.pointer none))) := ⟨by kernel_rfl⟩
instance : Mp Tryz.prog 152 28 4 := ⟨by kernel_rfl⟩
instance : Ag Tryz.prog 167 := ⟨by kernel_rfl⟩
instance : AgT Tryz.prog 167 [58, 58] := ⟨by kernel_rfl⟩
instance : Zr SS 167 (.agg 167 [(.agg 58 [(.pu (.leaf (.int .i64 0))), (.pu (.leaf (.int .i64 0))), (.pu (l4 Z32)), .nilc, (.agg 56 [.nilc, (.pu (.leaf (.bool false))), (.pu (.leaf (.int .i64 0)))])]), (.agg 58 [(.pu (.leaf (.int .i64 0))), (.pu (.leaf (.int .i64 0))), (.pu (l4 Z32)), .nilc, (.agg 56 [.nilc, (.pu (.leaf (.bool false))), (.pu (.leaf (.int .i64 0)))])])]) := ⟨by kernel_rfl⟩
instance : Okt Tryz.prog 177 177 := ⟨by kernel_rfl⟩
instance : Sc Tryz.prog 177 := ⟨by kernel_rfl⟩
instance : Okt Tryz.prog 178 178 := ⟨by kernel_rfl⟩
instance : Sc Tryz.prog 178 := ⟨by kernel_rfl⟩
instance : Mp Tryz.prog 178 28 32 := ⟨by kernel_rfl⟩
instance : Okt Tryz.prog 179 179 := ⟨by kernel_rfl⟩
instance : Ag Tryz.prog 179 := ⟨by kernel_rfl⟩
instance : AgT Tryz.prog 179 [177, 177, 177, 177, 177, 177, 177, 177] := ⟨by kernel_rfl⟩
instance : Arr Tryz.prog 179 8 177 := ⟨by kernel_rfl⟩
instance : Zr SS 179 (.pu (.agg 179 (List.replicate 8 (.leaf .nilFunc)))) := ⟨by kernel_rfl⟩
instance : Okt Tryz.prog 181 181 := ⟨by kernel_rfl⟩
instance : Ag Tryz.prog 181 := ⟨by kernel_rfl⟩
instance : AgT Tryz.prog 181 [26, 178, 179] := ⟨by kernel_rfl⟩
instance : Fld Tryz.prog 181 0 26 := ⟨by kernel_rfl⟩
instance : Fld Tryz.prog 181 1 178 := ⟨by kernel_rfl⟩
instance : Fld Tryz.prog 181 2 179 := ⟨by kernel_rfl⟩
instance : Zr SS 181 (.agg 181 [(.agg 26 [.nilc, .nilc, .nilc]), (.pu (.leaf (.map none))), (.pu (.agg 179 (List.replicate 8 (.leaf .nilFunc))))]) := ⟨by kernel_rfl⟩
instance : Okt Tryz.prog 185 185 := ⟨by kernel_rfl⟩
instance : Sc Tryz.prog 185 := ⟨by kernel_rfl⟩
instance : Zr SS 185 (.pu (.leaf .nilFunc)) := ⟨by kernel_rfl⟩
instance : Ag Tryz.prog 193 := ⟨by kernel_rfl⟩
instance : AgT Tryz.prog 193 [3, 3] := ⟨by kernel_rfl⟩
instance : Zr SS 193 (.pu (.agg 193 (List.replicate 2 (.leaf (.int .i64 0))))) := ⟨by kernel_rfl⟩
instance : Okt Tryz.prog 200 200 := ⟨by kernel_rfl⟩
instance : Ag Tryz.prog 200 := ⟨by kernel_rfl⟩
instance : AgT Tryz.prog 200 [32, 3] := ⟨by kernel_rfl⟩
instance : Fld Tryz.prog 200 0 32 := ⟨by kernel_rfl⟩
instance : Fld Tryz.prog 200 1 3 := ⟨by kernel_rfl⟩
instance : Zr SS 200 (.agg 200 [(.agg 32 [(.pu (.leaf (.int .i64 0))), (.pu (.leaf (.int .i64 0))), (.pu (l4 Z32)), .nilc, .nilc]), (.pu (.leaf (.int .i64 0)))]) := ⟨by kernel_rfl⟩
instance : Okt Tryz.prog 201 201 := ⟨by kernel_rfl⟩
instance : Sc Tryz.prog 201 := ⟨by kernel_rfl⟩
instance : Okt Tryz.prog 203 203 := ⟨by kernel_rfl⟩
instance : Ag Tryz.prog 203 := ⟨by kernel_rfl⟩
instance : Fld Tryz.prog 203 0 3 := ⟨by kernel_rfl⟩
instance : Zr SS 203 (.pu (.agg 203 [(.leaf (.int .i64 0))])) := ⟨by kernel_rfl⟩
instance : Okt Tryz.prog 204 204 := ⟨by kernel_rfl⟩
instance : Sc Tryz.prog 204 := ⟨by kernel_rfl⟩
instance : Okt Tryz.prog 206 206 := ⟨by kernel_rfl⟩
instance : Ag Tryz.prog 206 := ⟨by kernel_rfl⟩
instance : AgT Tryz.prog 206 [3, 204] := ⟨by kernel_rfl⟩
instance : Fld Tryz.prog 206 0 3 := ⟨by kernel_rfl⟩
instance : Fld Tryz.prog 206 1 204 := ⟨by kernel_rfl⟩
instance : Zr SS 206 (.pu (.agg 206 [(.leaf (.int .i64 0)), (.leaf .nilFunc)])) := ⟨by kernel_rfl⟩
instance : Okt Tryz.prog 227 227 := ⟨by kernel_rfl⟩
instance : Ag Tryz.prog 227 := ⟨by kernel_rfl⟩
instance : AgT Tryz.prog 227 [28, 3] := ⟨by kernel_rfl⟩
instance : Fld Tryz.prog 227 1 3 := ⟨by kernel_rfl⟩
instance : Zr SS 227 (.pu (.agg 227 [(l4 Z32), (.leaf (.int .i64 0))])) := ⟨by kernel_rfl⟩
instance : Okt Tryz.prog 238 238 := ⟨by kernel_rfl⟩
instance : Sc Tryz.prog 238 := ⟨by kernel_rfl⟩
instance : Okt Tryz.prog 240 240 := ⟨by kernel_rfl⟩
instance : Ag Tryz.prog 240 := ⟨by kernel_rfl⟩
instance : Fld Tryz.prog 240 0 3 := ⟨by kernel_rfl⟩
instance : Zr SS 240 (.pu (.agg 240 [(.leaf (.int .i64 0))])) := ⟨by kernel_rfl⟩
instance : Ag Tryz.prog 275 := ⟨by kernel_rfl⟩
instance : AgT Tryz.prog 275 [3, 3, 28] := ⟨by kernel_rfl⟩
instance : Zr SS 275 (.pu (.agg 275 [(.leaf (.int .i64 0)), (.leaf (.int .i64 0)), (l4 Z32)])) := ⟨by kernel_rfl⟩
instance : Okt Tryz.prog 278 278 := ⟨by kernel_rfl⟩
instance : Ag Tryz.prog 278 := ⟨by kernel_rfl⟩
instance : AgT Tryz.prog 278 [4, 4, 4] := ⟨by kernel_rfl⟩
instance : Arr Tryz.prog 278 3 4 := ⟨by kernel_rfl⟩
instance : Zr SS 278 (.pu (.agg 278 (List.replicate 3 (.leaf (.bool false))))) := ⟨by kernel_rfl⟩
instance (p : Pat) : TyV Tryz.prog 104 (.pu (v7 lo p)) := by cases p; exact inferInstanceAs (TyV Tryz.prog 104 (.pu (.agg _ _)))
instance (t : Tm) : TyV Tryz.prog 32 (.pu (tmc lo t)) := by cases t; exact inferInstanceAs (TyV Tryz.prog 32 (.pu (.agg _ _)))
instance (c : Cs) : TyV Tryz.prog 106 (.pu (J3 lo c)) := by cases c; exact inferInstanceAs (TyV Tryz.prog 106 (.pu (.agg _ _)))
instance (r : List Int) : TyV Tryz.prog 28 (.pu (l4 r)) := inferInstanceAs (TyV Tryz.prog 28 (.pu (.agg _ _)))
end
section
variable {lo : Nat}
theorem R3 {D : Nat → Nat → Prop} {w : World} {r : List Int} {x : List Value} (h : PR Tryz.prog D w (l4 r) x) : r.length = 32 := by
 have hc : l7 Tryz.prog 28 = some (List.replicate 32 (1, 5)) := by kernel_rfl
 unfold l4 at h
 cases h with
 | agg h1 h2 =>
  rw [hc] at h1
  simp only [Option.some.injEq] at h1
  subst h1
  have := h2.length.2
  simpa using this
mutual
def wfP : Pat → Prop
 | .mk _ _ r ks => r.length = 32 ∧ cc4 ks
def cc4 : List Pat → Prop
 | [] => True
 | p :: ps => wfP p ∧ cc4 ps
end
mutual
def wfT : Tm → Prop
 | .mk _ _ r ks cs => r.length = 32 ∧ bF6 ks ∧ cc5 cs
def bF6 : List Tm → Prop
 | [] => True
 | t :: ts => wfT t ∧ bF6 ts
def wfC : Cs → Prop
 | .mk p t => wfP p ∧ wfT t
def cc5 : List Cs → Prop
 | [] => True
 | c :: cs => wfC c ∧ cc5 cs
end
theorem ah4 : ∀ {ks : List Tm}, bF6 ks → ∀ k ∈ ks, wfT k
 | [], _, k, h => by cases h
 | p :: ps, h, k, hk => by
  rcases List.mem_cons.1 hk with rfl | hk
  ·exact h.1
  ·exact ah4 h.2 k hk
theorem Z7 {D : Nat → Nat → Prop} {w : World} {T : TypeId} {ps : List Pu} {x : List Value} (h : PR Tryz.prog D w (.agg T ps) x) : ∃ cs, PRs Tryz.prog D w cs ps x := by
 cases h with
 | agg _ h => exact ⟨_, h⟩
theorem n8 {D : Nat → Nat → Prop} {w : World} {cs : List (Nat × TypeId)} {p : Pu} {ps : List Pu} {x : List Value} (h : PRs Tryz.prog D w cs (p :: ps) x) : (∃ y, PR Tryz.prog D w p y) ∧ ∃ cs' y, PRs Tryz.prog D w cs' ps y := by
 cases h with
 | cons h _ _ t => exact ⟨⟨_, h⟩, _, _, t⟩
theorem aT0 {D : Nat → Nat → Prop} {w : World} {E : TypeId} {ps : List Pu} {x : List Value} (h : PR Tryz.prog D w (.sl lo E ps) x) : ∃ cs y, PRs Tryz.prog D w cs ps y := by
 cases h with
 | sl0 => exact ⟨[], [], .nil⟩
 | sl _ _ h _ _ => exact ⟨_, _, h⟩
mutual
theorem W8 {D : Nat → Nat → Prop} {w : World} : ∀ {p : Pat} {x : List Value}, PR Tryz.prog D w (v7 lo p) x → wfP p
 | .mk k n r ks, x, h => by
  obtain ⟨_, h⟩ := Z7 h
  obtain ⟨_, _, _, h⟩ := n8 h
  obtain ⟨_, _, _, h⟩ := n8 h
  obtain ⟨⟨_, h1⟩, _, _, h⟩ := n8 h
  obtain ⟨⟨_, h2⟩, _⟩ := n8 h
  obtain ⟨_, _, h2⟩ := aT0 h2
  exact ⟨R3 h1, bt5 h2⟩
theorem bt5 {D : Nat → Nat → Prop} {w : World} : ∀ {ks : List Pat} {cs : List (Nat × TypeId)} {x : List Value}, PRs Tryz.prog D w cs (u6 lo ks) x → cc4 ks
 | [], _, _, _ => trivial
 | p :: ps, _, _, h => by
  obtain ⟨⟨_, h1⟩, _, _, h2⟩ := n8 h
  exact ⟨W8 h1, bt5 h2⟩
end
mutual
theorem ab7 {D : Nat → Nat → Prop} {w : World} : ∀ {t : Tm} {x : List Value}, PR Tryz.prog D w (tmc lo t) x → wfT t
 | .mk k n r ks cs, x, h => by
  obtain ⟨_, h⟩ := Z7 h
  obtain ⟨_, _, _, h⟩ := n8 h
  obtain ⟨_, _, _, h⟩ := n8 h
  obtain ⟨⟨_, h1⟩, _, _, h⟩ := n8 h
  obtain ⟨⟨_, h2⟩, _, _, h⟩ := n8 h
  obtain ⟨⟨_, h3⟩, _⟩ := n8 h
  obtain ⟨_, _, h2⟩ := aT0 h2
  obtain ⟨_, _, h3⟩ := aT0 h3
  exact ⟨R3 h1, bk6 h2, bP8 h3⟩
theorem bk6 {D : Nat → Nat → Prop} {w : World} : ∀ {ks : List Tm} {cs : List (Nat × TypeId)} {x : List Value}, PRs Tryz.prog D w cs (l8 lo ks) x → bF6 ks
 | [], _, _, _ => trivial
 | p :: ps, _, _, h => by
  obtain ⟨⟨_, h1⟩, _, _, h2⟩ := n8 h
  exact ⟨ab7 h1, bk6 h2⟩
theorem ck6 {D : Nat → Nat → Prop} {w : World} : ∀ {c : Cs} {x : List Value}, PR Tryz.prog D w (J3 lo c) x → wfC c
 | .mk p t, x, h => by
  obtain ⟨_, h⟩ := Z7 h
  obtain ⟨⟨_, h1⟩, _, _, h⟩ := n8 h
  obtain ⟨⟨_, h2⟩, _⟩ := n8 h
  exact ⟨W8 h1, ab7 h2⟩
theorem bP8 {D : Nat → Nat → Prop} {w : World} : ∀ {ks : List Cs} {cs : List (Nat × TypeId)} {x : List Value}, PRs Tryz.prog D w cs (z8 lo ks) x → cc5 ks
 | [], _, _, _ => trivial
 | p :: ps, _, _, h => by
  obtain ⟨⟨_, h1⟩, _, _, h2⟩ := n8 h
  exact ⟨ck6 h1, bP8 h2⟩
end
theorem ce7 (d : Nat) (a b : Int) : peqT Tryz.prog (d + 1) 5 (.leaf (.int .u8 a)) (.leaf (.int .u8 b)) = some (a == b) := by
 have hu : Tryz.prog.underlying 5 = some (.int .u8) := by kernel_rfl
 simp [peqT, hu]
theorem bt4 (d : Nat) : ∀ (r s : List Int), r.length = s.length → aN6 (peqT Tryz.prog (d + 1) 5) (r.map fun n => .leaf (.int .u8 n)) (s.map fun n => .leaf (.int .u8 n)) = some (r == s)
 | [], [], _ => rfl
 | a :: r, b :: s, h => by
  simp only [List.map_cons, aN6, ce7, bt4 d r s (by simpa using h)]
  rfl
 | [], _ :: _, h => by simp at h
 | _ :: _, [], h => by simp at h
theorem aJ6 (d : Nat) {r s : List Int} (h : r.length = s.length) : peqT Tryz.prog (d + 2) 28 (l4 r) (l4 s) = some (r == s) := by
 have hu : Tryz.prog.underlying 28 = some (.array 32 5) := by kernel_rfl
 rw [← bt4 d r s h]
 unfold l4
 rw [peqT.eq_def]
 simp only [hu]
theorem aD6 {r s : List Int} (h : r.length = s.length) : peqT Tryz.prog 100 28 (l4 r) (l4 s) = some (r == s) := by
 generalize hd : (100 : Nat) = d
 obtain ⟨e, rfl⟩ : ∃ e, d = e + 2 := ⟨98, by omega⟩
 exact aJ6 e h
theorem O2 (r s : List Int) : Tryz.prog.eqGuardType Tryz.prog.depth 28 = false ∧ 28 < Tryz.prog.types.size ∧ tyP Tryz.prog 28 (l4 r) = true ∧ tyP Tryz.prog 28 (l4 s) = true :=
 ⟨by kernel_rfl, of_decide_eq_true (by kernel_rfl), (show tyV Tryz.prog 28 (.pu (l4 r)) = true from TyV.ok), (show tyV Tryz.prog 28 (.pu (l4 s)) = true from TyV.ok)⟩
theorem U6 {r s : List Int} (h : r.length = s.length) : M2 Tryz.prog .eql 28 (.pu (l4 r)) (.pu (l4 s)) = some (bv (r == s)) := by
 have h1 := O2 r s
 have h2 := aD6 h
 unfold l4 at h1 h2 ⊢
 simp only [M2, if_pos h1, h2]
theorem ag4 {r s : List Int} (h : r.length = s.length) : M2 Tryz.prog .neq 28 (.pu (l4 r)) (.pu (l4 s)) = some (bv (!(r == s))) := by
 have h1 := O2 r s
 have h2 := aD6 h
 unfold l4 at h1 h2 ⊢
 simp only [M2, if_pos h1, h2]
end
section
variable {G : List (Nat × TypeId × Pu)}
theorem F8 (n : Int) : FCall Tryz.prog G 33 [iv .i64 n] (.pu (tmc 0 (.mk 2 n Z32 [] []))) := by
 refine Fq 5 Tryz.func33 ?_;intro w0 M ρ0 D0
 refine yR ?_;refine b9 SS 2 ?_;refine b8 [2] ?_;refine Y1 ?_;refine yP ?_;refine Y16 ?_;refine Rc ?_;exact ToPu.imp (by repeat constructor)
theorem P6 (n : Int) : FCall Tryz.prog G 32 [iv .i64 n] (.pu (tmc 0 (.mk 1 n Z32 [] []))) := by
 refine Fq 5 Tryz.func32 ?_;intro w0 M ρ0 D0
 refine yR ?_;refine b9 SS 2 ?_;refine b8 [2] ?_;refine Y1 ?_;refine yP ?_;refine Y16 ?_;refine Rc ?_;exact ToPu.imp (by repeat constructor)
theorem bq1 (p : Pat) (t : Tm) : FCall Tryz.prog G 65 [.pu (v7 0 p), .pu (tmc 0 t)] (.pu (J3 0 (.mk p t))) := by
 refine Fq 8 Tryz.func65 ?_;intro w0 M ρ0 D0
 refine Y57 ?_;refine b9 SS 4 ?_;refine b8 [2, 3, 4] ?_;refine Y22 ?_;refine yP ?_;refine Y16 ?_;refine Rc ?_;exact ToPu.imp (by repeat constructor)
theorem bR8 (t : Tm) (cs : List Cs) : FCall Tryz.prog G 62 [.pu (tmc 0 t), .pu (.sl 0 106 (z8 0 cs))] (.pu (tmc 0 (.mk 9 0 Z32 [t] cs))) := by
 refine Fq 9 Tryz.func62 ?_;intro w0 M ρ0 D0
 refine Y36 ?_;refine b9 SS 4 ?_;refine b8 [2, 4] ?_;refine Y4 ?_;refine yZ ?_;refine yM ?_;refine yP ?_;refine Y16 ?_;refine Rc ?_;exact ToPu.imp (by repeat constructor)
theorem aq8 (s t : Tm) : FCall Tryz.prog G 31 [.pu (tmc 0 s), .pu (tmc 0 t)] (.pu (tmc 0 (.mk 4 0 Z32 [s, t] []))) := by
 refine Fq 9 Tryz.func31 ?_;intro w0 M ρ0 D0
 refine Y57 ?_;refine b9 SS 4 ?_;refine b8 [2, 3, 4] ?_;refine Y22 ?_;refine Y81 ?_;refine Y16 ?_;refine Rc ?_;exact ToPu.imp (by repeat constructor)
theorem aq7 (r : List Int) : FCall Tryz.prog G 61 [.pu (l4 r)] (.pu (tmc 0 (.mk 6 0 r [] []))) := by
 refine Fq 5 Tryz.func61 ?_;intro w0 M ρ0 D0
 refine Y67 ?_;refine Y4 ?_;refine yP ?_;refine Y16 ?_;refine Rc ?_;exact ToPu.imp (by repeat constructor)
theorem bp9 (r : List Int) (n : Int) (ks : List Tm) : FCall Tryz.prog G 43 [.pu (l4 r), iv .i64 n, .pu (.sl 0 32 (l8 0 ks))] (.pu (tmc 0 (.mk 8 n r ks []))) := by
 refine Fq 11 Tryz.func43 ?_;intro w0 M ρ0 D0
 refine Y49 ?_;refine b9 SS 6 ?_;refine b8 [3, 6] ?_;refine Y4 ?_;refine Y48 ?_;refine yP ?_;refine Y16 ?_;refine Rc ?_;exact ToPu.imp (by repeat constructor)
theorem aO2 (t : Tm) : FCall Tryz.prog G 30 [.pu (tmc 0 t)] (.pu (tmc 0 (.mk 3 0 Z32 [t] []))) := by
 refine Fq 6 Tryz.func30 ?_;intro w0 M ρ0 D0
 refine Y67 ?_;refine Y4 ?_;refine Y81 ?_;refine Y16 ?_;refine Rc ?_;exact ToPu.imp (by repeat constructor)
theorem ah1 (n : Int) (s t : Tm) : FCall Tryz.prog G 34 [iv .i64 n, .pu (tmc 0 s), .pu (tmc 0 t)] (.pu (tmc 0 (.mk 10 n Z32 [s, t] []))) := by
 refine Fq 12 Tryz.func34 ?_;intro w0 M ρ0 D0
 refine yR ?_;refine p7 SS 4 ?_;refine p7 SS 5 ?_;refine b9 SS 6 ?_;refine b8 [4, 5, 6] ?_;refine Y1 ?_;refine Y82 ?_;refine Y81 ?_;refine Y16 ?_;refine Rc ?_;exact ToPu.imp (by repeat constructor)
theorem aT1 : FCall Tryz.prog G 68 [] (.pu (v7 0 (.mk 1 0 Z32 []))) := by
 refine Fq 2 Tryz.func68 ?_;intro w0 M ρ0 D0
 refine yR ?_;refine b9 SS 0 ?_;refine b8 [0] ?_;refine yR ?_;refine yP ?_;refine Y16 ?_;refine Rc ?_;exact ToPu.imp (by repeat constructor)
theorem ch4 (n : Int) : FCall Tryz.prog G 66 [iv .i64 n] (.pu (v7 0 (.mk 2 n Z32 []))) := by
 refine Fq 5 Tryz.func66 ?_;intro w0 M ρ0 D0
 refine yR ?_;refine b9 SS 2 ?_;refine b8 [2] ?_;refine Y1 ?_;refine yP ?_;refine Y16 ?_;refine Rc ?_;exact ToPu.imp (by repeat constructor)
end
section
variable {G : List (Nat × TypeId × Pu)}
def vaT (n : Int) : Tm := .mk 1 n Z32 [] []
def nuT (n : Int) : Tm := .mk 2 n Z32 [] []
def apT (s t : Tm) : Tm := .mk 4 0 Z32 [s, t] []
theorem aN2 : FCall Tryz.prog G 71 [] (.pu (tmc 0 (apT (vaT 0) (vaT 1)))) := by
 refine Fq 4 Tryz.func71 ?_;intro w0 M ρ0 D0
 refine yR ?_;refine b9 SS 0 ?_;refine b8 [0] ?_;refine yR ?_;refine Dq (P6 0) ?_;refine Dq (P6 1) ?_;refine Dq (aq8 (vaT 0) (vaT 1)) ?_;refine Y16 ?_;refine Rc ?_;exact ToPu.imp (by repeat constructor)
theorem aN4 (r : List Int) (n : Int) (t : Tm) : FCall Tryz.prog G 38 [.pu (l4 r), iv .i64 n, .pu (tmc 0 t)] (.pu (tmc 0 (.mk 11 n r [t] []))) := by
 refine Fq 12 Tryz.func38 ?_;intro w0 M ρ0 D0
 refine Y49 ?_;refine p7 SS 5 ?_;refine b9 SS 6 ?_;refine b8 [3, 5, 6] ?_;refine Y65 ?_;refine yL ?_;refine Y81 ?_;refine Y16 ?_;refine Rc ?_;exact ToPu.imp (by repeat constructor)
def prT (n : Int) (s t : Tm) : Tm := .mk 10 n Z32 [s, t] []
theorem aF2 : FCall Tryz.prog G 72 [] (.pu (tmc 0 (prT 1 (apT (vaT 0) (nuT 1)) (apT (vaT 0) (nuT 2))))) := by
 refine Fq 8 Tryz.func72 ?_;intro w0 M ρ0 D0
 refine yR ?_;refine b9 SS 0 ?_;refine b8 [0] ?_;refine yR ?_;refine Dq (P6 0) ?_;refine Dq (F8 1) ?_;refine Dq (aq8 (vaT 0) (nuT 1)) ?_;refine Dq (P6 0) ?_;refine Dq (F8 2) ?_;refine Dq (aq8 (vaT 0) (nuT 2)) ?_;refine Dq (ah1 1 (apT (vaT 0) (nuT 1)) (apT (vaT 0) (nuT 2))) ?_;refine Y16 ?_;refine Rc ?_;exact ToPu.imp (by repeat constructor)
end
section
variable {G : List (Nat × TypeId × Pu)}
theorem ag7 : ∀ (N : Nat) (p : Pat), l9 p ≤ N → N < 2^30 → FCall Tryz.prog G 85 [.pu (v7 0 p)] (.pu (v7 0 p)) := by
 intro N
 induction N with
 | zero => intro p h; cases p; simp [l9] at h
 | succ N ih =>
 intro p hp hN
 obtain ⟨k, n, r, ks⟩ := p
 simp only [l9] at hp
 have hlen := m4 ks
 refine Fq 24 Tryz.func85 ?_;intro w0 M ρ0 D0
 refine Y67 ?_;refine Y14 ?_;refine Y8 ?_;refine yR ?_;refine Y83 ?_;refine Y1 ?_;refine yC ?_;refine yJ ?_;refine B5 ?_
 refine Tri.ghost (Ghost.wk (env' := [(1, .ptr 1 [] 104), (2, .ptr 2 [] 104), (9, .pu (.sl 0 104 (u6 0 ks))), (10, iv .i64 (u6 0 ks).length), (11, iv .i64 0)])
  (heap' := [(1, .var 104 (.agg 104 [iv .i64 k, iv .i64 n, .pu (l4 r), .ow 0 104 []])), (2, .var 104 (.agg 104 [iv .i64 0, iv .i64 0, .pu (l4 Z32), .nilc]))])
  (.cons rfl .refl (.cons rfl .refl (.cons rfl .refl (.cons rfl .refl (.cons rfl .refl .nil))))) (.cons rfl (.var (.agg (.cons .refl (.cons .refl (.cons .refl (.cons .nilcOw .nil)))))) (.cons rfl .refl .nil))) ?_
 refine tQ ?_
 refine Tri.block (Tri.loop (σ := Nat) (fun i => ⟨[(1, .ptr 1 [] 104), (2, .ptr 2 [] 104), (9, .pu (.sl 0 104 (u6 0 ks))), (10, iv .i64 (u6 0 ks).length), (11, iv .i64 i)],
  [(1, .var 104 (.agg 104 [iv .i64 k, iv .i64 n, .pu (l4 r), .ow 0 104 (u6 0 (ks.take i))])), (2, .var 104 (.agg 104 [iv .i64 0, iv .i64 0, .pu (l4 Z32), .nilc]))]⟩) (fun i => ks.length - i) 0 ?_ (fun i => ?_))
 ·exact i9 (.cons rfl rfl (.cons rfl rfl (.cons rfl rfl (.cons rfl rfl (.cons rfl rfl .nil))))) (.cons rfl rfl (.cons rfl rfl .nil))
 refine Y9 ?_;refine B5 ?_;refine Tri.seq (Tri.cond rfl (fun hb => Tri.skip ?_) (fun hb => Tri.exit ?_))
 ·have hi : i < ks.length := by simpa [t9] using hb
  refine Tri.seq (Tri.block ?_);refine yR ?_;refine b5 (g9 SS (h0 := by omega) (hp := D9 hi)) ?_;refine yL ?_;refine aC5 ?_;refine Y14 ?_;refine yL ?_;refine Dq (ih ks[i] (by have := q9 hi; omega) (by omega)) ?_;refine yZ ?_;refine I2 1 [3] ?_ ?_
  ·simp [t9]; omega
  refine Y94 ?_;refine Y33 ?_
  refine ⟨i + 1, by omega, i9 (.cons rfl rfl (.cons rfl rfl (.cons rfl rfl (.cons rfl rfl (.cons rfl ?_ .nil))))) (.cons rfl ?_ (.cons rfl rfl .nil))⟩
  ·rw [b7 (by omega) (by omega)]
   rfl
  ·have : u6 0 (ks.take (i + 1)) = u6 0 (ks.take i) ++ [v7 0 ks[i]] := by
    rw [t9, t9, List.take_succ_eq_append_getElem hi, List.map_append]; rfl
   rw [this]
   rfl
 have hi : ks.length ≤ i := by simpa [t9] using hb
 refine Y4 ?_;refine Y16 ?_;refine Tri.ret ⟨.inr rfl, B8 rfl j6 (ToPu.imp ?_)⟩;rw [List.take_of_length_le hi]
 repeat constructor
theorem S7 : ∀ (N : Nat) (p : Pat), l9 p ≤ N → N < 2^30 → FCall Tryz.prog G 240 [.pu (v7 0 p)] (.pu (v7 0 p)) := by
 intro N
 induction N with
 | zero => intro p h; cases p; simp [l9] at h
 | succ N ih =>
 intro p hp hN
 obtain ⟨k, n, r, ks⟩ := p
 simp only [l9] at hp
 have hlen := m4 ks
 refine Fq 31 Tryz.func240 ?_;intro w0 M ρ0 D0
 refine Y67 ?_;refine Y13 ?_;refine Y70 ?_;refine yP ?_;refine b9 SS 3 ?_;refine yS ?_;refine b8 [3] ?_;refine Y21 ?_
 refine Tri.ghost (Ghost.wk (env' := [(1, .ptr 1 [] 104), (2, .ptr 2 [] 104), (3, .ptr 3 [] 104), (4, iv .i64 0)])
  (heap' := [(1, .var 104 (.pu (v7 0 (.mk k n r ks)))), (3, .var 104 (.agg 104 [iv .i64 k, iv .i64 n, .pu (l4 r), .ow 0 104 []])), (2, .var 104 (.agg 104 [iv .i64 0, iv .i64 0, .pu (l4 Z32), .nilc]))])
  (.cons rfl .refl (.cons rfl .refl (.cons rfl .refl (.cons rfl .refl .nil)))) (.cons rfl .refl (.cons rfl (.var (.agg (.cons .refl (.cons .refl (.cons .refl (.cons .nilcOw .nil)))))) (.cons rfl .refl .nil)))) ?_
 refine tQ ?_
 refine Tri.block (Tri.loop (σ := Nat) (fun i => ⟨[(1, .ptr 1 [] 104), (2, .ptr 2 [] 104), (3, .ptr 3 [] 104), (4, iv .i64 i)],
  [(1, .var 104 (.pu (v7 0 (.mk k n r ks)))), (3, .var 104 (.agg 104 [iv .i64 k, iv .i64 n, .pu (l4 r), .ow 0 104 (u6 0 (ks.take i))])), (2, .var 104 (.agg 104 [iv .i64 0, iv .i64 0, .pu (l4 Z32), .nilc]))]⟩) (fun i => ks.length - i) 0 ?_ (fun i => ?_))
 ·exact i9 (.cons rfl rfl (.cons rfl rfl (.cons rfl rfl (.cons rfl rfl .nil)))) (.cons rfl rfl (.cons rfl rfl (.cons rfl rfl .nil)))
 refine Y50 ?_;refine Y26 ?_;refine B5 ?_;refine Tri.cond rfl (fun hb => Tri.skip ?_) (fun hb => Tri.exit ?_)
 ·have hi : i < ks.length := by simpa [t9] using hb
  refine Y84 ?_;refine Y14 ?_;refine Y68 ?_;refine b5 (g9 SS (h0 := by omega) (hp := D9 hi)) ?_;refine yL ?_;refine Dq (ih ks[i] (by have := q9 hi; omega) (by omega)) ?_;refine yZ ?_;refine I2 3 [3] ?_ ?_
  ·simp [t9]; omega
  refine Y94 ?_;refine Y40 ?_
  refine ⟨i + 1, by omega, i9 (.cons rfl rfl (.cons rfl rfl (.cons rfl rfl (.cons rfl ?_ .nil)))) (.cons rfl rfl (.cons rfl ?_ (.cons rfl rfl .nil)))⟩
  ·rw [b7 (by omega) (by omega)]
   rfl
  ·have : u6 0 (ks.take (i + 1)) = u6 0 (ks.take i) ++ [v7 0 ks[i]] := by
    rw [t9, t9, List.take_succ_eq_append_getElem hi, List.map_append]; rfl
   rw [this]
   rfl
 have hi : ks.length ≤ i := by simpa [t9] using hb
 refine Y4 ?_;refine Y16 ?_;refine Tri.ret ⟨.inr rfl, B8 rfl j6 (ToPu.imp ?_)⟩;rw [List.take_of_length_le hi]
 repeat constructor
end
section
variable {G : List (Nat × TypeId × Pu)}
theorem K4 : ∀ (N : Nat) (t : Tm), a8 t ≤ N → N < 2^30 → FCall Tryz.prog G 15 [.pu (tmc 0 t)] (.pu (tmc 0 t)) := by
 intro N
 induction N with
 | zero => intro t h; have := m8 t; omega
 | succ N ih =>
 intro t hp hN
 obtain ⟨k, n, r, ks, cs⟩ := t
 simp only [a8] at hp
 have hlen := f9 ks
 have hlenc := m5 cs
 refine Fq 49 Tryz.func15 ?_;intro w0 M ρ0 D0
 refine Y67 ?_;refine Y14 ?_;refine Y7 ?_;refine yA ?_;refine av1 ?_;refine yR ?_;refine yF ?_;refine yS ?_;refine Y83 ?_;refine Y1 ?_;refine yC ?_;refine yJ ?_;refine B5 ?_
 refine Tri.ghost (Ghost.wk (env' := [(1, .ptr 1 [] 32), (2, .ptr 2 [] 32), (4, .pu (.sl 0 106 (z8 0 cs))), (15, .pu (.sl 0 32 (l8 0 ks))), (16, iv .i64 (l8 0 ks).length), (17, iv .i64 0)])
  (heap' := [(1, .var 32 (.agg 32 [iv .i64 k, iv .i64 n, .pu (l4 r), .ow 0 32 ([]), .ow 0 106 ([])])), (2, .var 32 (.agg 32 [iv .i64 0, iv .i64 0, .pu (l4 Z32), .nilc, .nilc]))])
  (.cons rfl .refl (.cons rfl .refl (.cons rfl .refl (.cons rfl .refl (.cons rfl .refl (.cons rfl .refl .nil)))))) (.cons rfl (.var (.agg (.cons .refl (.cons .refl (.cons .refl (.cons .nilcOw (.cons .nilcOw .nil))))))) (.cons rfl .refl .nil))) ?_
 refine tQ ?_
 refine Tri.block (Tri.loop (σ := Nat) (fun i => ⟨[(1, .ptr 1 [] 32), (2, .ptr 2 [] 32), (4, .pu (.sl 0 106 (z8 0 cs))), (15, .pu (.sl 0 32 (l8 0 ks))), (16, iv .i64 (l8 0 ks).length), (17, iv .i64 i)],
  [(1, .var 32 (.agg 32 [iv .i64 k, iv .i64 n, .pu (l4 r), .ow 0 32 (l8 0 (ks.take i)), .ow 0 106 ([])])), (2, .var 32 (.agg 32 [iv .i64 0, iv .i64 0, .pu (l4 Z32), .nilc, .nilc]))]⟩) (fun i => ks.length - i) 0 ?_ (fun i => ?_))
 ·exact i9 (.cons rfl rfl (.cons rfl rfl (.cons rfl rfl (.cons rfl rfl (.cons rfl rfl (.cons rfl rfl .nil)))))) (.cons rfl rfl (.cons rfl rfl .nil))
 refine Y9 ?_;refine B5 ?_;refine Tri.seq (Tri.cond rfl (fun hb => Tri.skip ?_) (fun hb => Tri.exit ?_))
 ·have hi : i < ks.length := by simpa [l6] using hb
  refine Tri.seq (Tri.block ?_);refine yR ?_;refine b5 (g9 SS (h0 := by omega) (hp := q7 hi)) ?_;refine yL ?_;refine b9 SS 6 ?_;refine yS ?_;refine b8 [6] ?_;refine Y14 ?_;refine yL ?_;refine Dq (ih ks[i] (by have := D5 hi; omega) (by omega)) ?_;refine yZ ?_;refine I2 1 [3] ?_ ?_
  ·simp [l6]; omega
  refine Y94 ?_;refine Y33 ?_
  refine ⟨i + 1, by omega, i9 (.cons rfl rfl (.cons rfl rfl (.cons rfl rfl (.cons rfl rfl (.cons rfl rfl (.cons rfl ?_ .nil)))))) (.cons rfl ?_ (.cons rfl rfl .nil))⟩
  ·rw [b7 (by omega) (by omega)]
   rfl
  ·have : l8 0 (ks.take (i + 1)) = l8 0 (ks.take i) ++ [tmc 0 ks[i]] := by
    rw [l6, l6, List.take_succ_eq_append_getElem hi, List.map_append]; rfl
   rw [this]
   rfl
 have hi : ks.length ≤ i := by simpa [l6] using hb
 rw [List.take_of_length_le hi];refine Y1 ?_;refine Y43 ?_
 refine Tri.block (Tri.loop (σ := Nat) (fun i => ⟨[(1, .ptr 1 [] 32), (2, .ptr 2 [] 32), (29, .pu (.sl 0 106 (z8 0 cs))), (30, iv .i64 (z8 0 cs).length), (31, iv .i64 i)],
  [(1, .var 32 (.agg 32 [iv .i64 k, iv .i64 n, .pu (l4 r), .ow 0 32 (l8 0 ks), .ow 0 106 (z8 0 (cs.take i))])), (2, .var 32 (.agg 32 [iv .i64 0, iv .i64 0, .pu (l4 Z32), .nilc, .nilc]))]⟩) (fun i => cs.length - i) 0 ?_ (fun i => ?_))
 ·exact i9 (.cons rfl rfl (.cons rfl rfl (.cons rfl rfl (.cons rfl rfl (.cons rfl rfl .nil))))) (.cons rfl rfl (.cons rfl rfl .nil))
 refine Y9 ?_;refine B5 ?_;refine Tri.seq (Tri.cond rfl (fun hb => Tri.skip ?_) (fun hb => Tri.exit ?_))
 ·have hi : i < cs.length := by simpa [A9] using hb
  have hsz := E4 hi
  rcases hc : cs[i] with ⟨q, b⟩
  simp only [hc, p9] at hsz
  refine Tri.seq (Tri.block ?_);refine yR ?_;refine b5 (g9 SS (h0 := by omega) (hp := (G2 hi).trans (by rw [hc]))) ?_;refine yL ?_;refine b9 SS 8 ?_;refine yS ?_;refine b8 [8] ?_;refine Y14 ?_;refine Y5 ?_;refine Dq (ag7 _ q (Nat.le_refl _) (by omega)) ?_;refine Y5 ?_;refine Dq (ih b (by omega) (by omega)) ?_;refine yP ?_;refine yZ ?_;refine I2 1 [4] ?_ ?_
  ·simp [A9]; omega
  refine Y94 ?_;refine Y33 ?_
  refine ⟨i + 1, by omega, i9 (.cons rfl rfl (.cons rfl rfl (.cons rfl rfl (.cons rfl rfl (.cons rfl ?_ .nil))))) (.cons rfl ?_ (.cons rfl rfl .nil))⟩
  ·rw [b7 (by omega) (by omega)]
   rfl
  ·have : z8 0 (cs.take (i + 1)) = z8 0 (cs.take i) ++ [J3 0 (.mk q b)] := by
    rw [A9, A9, List.take_succ_eq_append_getElem hi, List.map_append, hc]; rfl
   rw [this]
   rfl
 have hi : cs.length ≤ i := by simpa [A9] using hb
 refine Y4 ?_;refine Y16 ?_;refine Tri.ret ⟨.inr rfl, B8 rfl j6 (ToPu.imp ?_)⟩;rw [List.take_of_length_le hi]
 repeat constructor
theorem bK0 : ∀ (N : Nat) (t : Tm), a8 t ≤ N → N < 2^30 → FCall Tryz.prog G 202 [.pu (tmc 0 t)] (.pu (tmc 0 t)) := by
 intro N
 induction N with
 | zero => intro t h; have := m8 t; omega
 | succ N ih =>
 intro t hp hN
 obtain ⟨k, n, r, ks, cs⟩ := t
 simp only [a8] at hp
 have hlen := f9 ks
 have hlenc := m5 cs
 refine Fq 59 Tryz.func202 ?_;intro w0 M ρ0 D0
 refine Y67 ?_;refine Y13 ?_;refine Y70 ?_;refine yP ?_;refine b9 SS 3 ?_;refine yS ?_;refine b8 [3] ?_;refine Y21 ?_
 refine Tri.ghost (Ghost.wk (env' := [(1, .ptr 1 [] 32), (2, .ptr 2 [] 32), (3, .ptr 3 [] 32), (4, iv .i64 0)])
  (heap' := [(1, .var 32 (.pu (tmc 0 (.mk k n r ks cs)))), (3, .var 32 (.agg 32 [iv .i64 k, iv .i64 n, .pu (l4 r), .ow 0 32 ([]), .ow 0 106 ([])])), (2, .var 32 (.agg 32 [iv .i64 0, iv .i64 0, .pu (l4 Z32), .nilc, .nilc]))])
  (.cons rfl .refl (.cons rfl .refl (.cons rfl .refl (.cons rfl .refl .nil)))) (.cons rfl .refl (.cons rfl (.var (.agg (.cons .refl (.cons .refl (.cons .refl (.cons .nilcOw (.cons .nilcOw .nil))))))) (.cons rfl .refl .nil)))) ?_
 refine tQ ?_
 refine Tri.block (Tri.loop (σ := Nat) (fun i => ⟨[(1, .ptr 1 [] 32), (2, .ptr 2 [] 32), (3, .ptr 3 [] 32), (4, iv .i64 i)],
  [(1, .var 32 (.pu (tmc 0 (.mk k n r ks cs)))), (3, .var 32 (.agg 32 [iv .i64 k, iv .i64 n, .pu (l4 r), .ow 0 32 (l8 0 (ks.take i)), .ow 0 106 ([])])), (2, .var 32 (.agg 32 [iv .i64 0, iv .i64 0, .pu (l4 Z32), .nilc, .nilc]))]⟩) (fun i => ks.length - i) 0 ?_ (fun i => ?_))
 ·exact i9 (.cons rfl rfl (.cons rfl rfl (.cons rfl rfl (.cons rfl rfl .nil)))) (.cons rfl rfl (.cons rfl rfl (.cons rfl rfl .nil)))
 refine Y50 ?_;refine Y26 ?_;refine B5 ?_;refine Tri.cond rfl (fun hb => Tri.skip ?_) (fun hb => Tri.exit ?_)
 ·have hi : i < ks.length := by simpa [l6] using hb
  refine Y84 ?_;refine Y14 ?_;refine Y68 ?_;refine b5 (g9 SS (h0 := by omega) (hp := q7 hi)) ?_;refine yL ?_;refine Dq (ih ks[i] (by have := D5 hi; omega) (by omega)) ?_;refine yZ ?_;refine I2 3 [3] ?_ ?_
  ·simp [l6]; omega
  refine Y94 ?_;refine Y40 ?_
  refine ⟨i + 1, by omega, i9 (.cons rfl rfl (.cons rfl rfl (.cons rfl rfl (.cons rfl ?_ .nil)))) (.cons rfl rfl (.cons rfl ?_ (.cons rfl rfl .nil)))⟩
  ·rw [b7 (by omega) (by omega)]
   rfl
  ·have : l8 0 (ks.take (i + 1)) = l8 0 (ks.take i) ++ [tmc 0 ks[i]] := by
    rw [l6, l6, List.take_succ_eq_append_getElem hi, List.map_append]; rfl
   rw [this]
   rfl
 have hi : ks.length ≤ i := by simpa [l6] using hb
 rw [List.take_of_length_le hi];refine Y10 ?_
 refine Tri.block (Tri.loop (σ := Nat) (fun i => ⟨[(1, .ptr 1 [] 32), (2, .ptr 2 [] 32), (3, .ptr 3 [] 32), (5, iv .i64 i)],
  [(1, .var 32 (.pu (tmc 0 (.mk k n r ks cs)))), (3, .var 32 (.agg 32 [iv .i64 k, iv .i64 n, .pu (l4 r), .ow 0 32 (l8 0 ks), .ow 0 106 (z8 0 (cs.take i))])), (2, .var 32 (.agg 32 [iv .i64 0, iv .i64 0, .pu (l4 Z32), .nilc, .nilc]))]⟩) (fun i => cs.length - i) 0 ?_ (fun i => ?_))
 ·exact i9 (.cons rfl rfl (.cons rfl rfl (.cons rfl rfl (.cons rfl rfl .nil)))) (.cons rfl rfl (.cons rfl rfl (.cons rfl rfl .nil)))
 refine Y50 ?_;refine Y26 ?_;refine B5 ?_;refine Tri.cond rfl (fun hb => Tri.skip ?_) (fun hb => Tri.exit ?_)
 ·have hi : i < cs.length := by simpa [A9] using hb
  have hsz := E4 hi
  rcases hc : cs[i] with ⟨q, b⟩
  simp only [hc, p9] at hsz
  have hg : (z8 0 cs)[i]? = some (J3 0 (.mk q b)) := (G2 hi).trans (by rw [hc])
  refine Y84 ?_;refine Y14 ?_;refine Y68 ?_;refine Xq hg ?_;refine Y5 ?_;refine Dq (S7 _ q (Nat.le_refl _) (by omega)) ?_;refine Y68 ?_;refine Xq hg ?_;refine Y5 ?_;refine Dq (ih b (by omega) (by omega)) ?_;refine yP ?_;refine yZ ?_;refine I2 3 [4] ?_ ?_
  ·simp [A9]; omega
  refine Y94 ?_;refine Y40 ?_
  refine ⟨i + 1, by omega, i9 (.cons rfl rfl (.cons rfl rfl (.cons rfl rfl (.cons rfl ?_ .nil)))) (.cons rfl rfl (.cons rfl ?_ (.cons rfl rfl .nil)))⟩
  ·rw [b7 (by omega) (by omega)]
   rfl
  ·have : z8 0 (cs.take (i + 1)) = z8 0 (cs.take i) ++ [J3 0 (.mk q b)] := by
    rw [A9, A9, List.take_succ_eq_append_getElem hi, List.map_append, hc]; rfl
   rw [this]
   rfl
 have hi : cs.length ≤ i := by simpa [A9] using hb
 refine Y4 ?_;refine Y16 ?_;refine Tri.ret ⟨.inr rfl, B8 rfl j6 (ToPu.imp ?_)⟩;rw [List.take_of_length_le hi]
 repeat constructor
end
section
variable {G : List (Nat × TypeId × Pu)}
def j8 (kind kid : Int) : Int := if kind = 3 ∨ (kind = 5 ∧ kid = 1) ∨ (kind = 12 ∧ kid = 1) then 1 else if kind = 12 ∧ 1 < kid then 2 else 0
theorem bl4 (kind kid : Int) : FCall Tryz.prog G 220 [iv .i64 kind, iv .i64 kid] (iv .i64 (j8 kind kid)) := by
 refine Fq 25 Tryz.func220 ?_;intro w0 M ρ0 D0
 refine Y10 ?_;refine Tri.block ?_;refine Y76 ?_;refine Cq ?_ ?_
 ·intro h0
  refine Y15 ?_;refine Cq ?_ ?_
  ·intro h1
   refine Y10 ?_;refine Rq ?_;exact c7 (by simp_all [j8]; try omega)
  ·intro h1
   refine aC4 ?_;refine Cq ?_ ?_
   ·intro h2
    refine Y10 ?_;refine Rq ?_;exact c7 (by simp_all [j8]; try omega)
   ·intro h2
    refine Y45 ?_;refine Rq ?_;exact c7 (by simp_all [j8]; try omega)
 ·intro h0
  refine Y58 ?_;refine xM ?_;refine Y19 ?_;refine xO ?_;refine Y44 ?_;refine Cq ?_ ?_
  ·intro h1
   refine Y10 ?_;refine Rq ?_;exact c7 (by simp_all [j8]; try omega)
  ·intro h1
   refine aC4 ?_;refine Cq ?_ ?_
   ·intro h2
    refine Y10 ?_;refine Rq ?_;exact c7 (by simp_all [j8]; try omega)
   ·intro h2
    refine Y45 ?_;refine Rq ?_;exact c7 (by simp_all [j8]; try omega)
theorem bk7 (kind kid : Int) : FCall Tryz.prog G 192 [iv .i64 kind, iv .i64 kid] (iv .i64 (j8 kind kid)) := by
 refine Fq 27 Tryz.func192 ?_;intro w0 M ρ0 D0
 refine Y10 ?_;refine Tri.block ?_;refine Y76 ?_;refine Cq ?_ ?_
 ·intro h0
  refine Y15 ?_;refine Cq ?_ ?_
  ·intro h2
   refine Y10 ?_;refine Rq ?_;exact c7 (by simp_all [j8]; try omega)
  ·intro h2
   refine aC4 ?_;refine Cq ?_ ?_
   ·intro h3
    refine Y10 ?_;refine Rq ?_;exact c7 (by simp_all [j8]; try omega)
   ·intro h3
    refine Y45 ?_;refine Rq ?_;exact c7 (by simp_all [j8]; try omega)
 ·intro h0
  refine aC4 ?_;refine Cq ?_ ?_
  ·intro h1
   refine Y15 ?_;refine Cq ?_ ?_
   ·intro h2
    refine Y10 ?_;refine Rq ?_;exact c7 (by simp_all [j8]; try omega)
   ·intro h2
    refine aC4 ?_;refine Cq ?_ ?_
    ·intro h3
     refine Y10 ?_;refine Rq ?_;exact c7 (by simp_all [j8]; try omega)
    ·intro h3
     refine Y45 ?_;refine Rq ?_;exact c7 (by simp_all [j8]; try omega)
  ·intro h1
   refine aC4 ?_;refine Cq ?_ ?_
   ·intro h2
    refine Y10 ?_;refine Rq ?_;exact c7 (by simp_all [j8]; try omega)
   ·intro h2
    refine aC4 ?_;refine Cq ?_ ?_
    ·intro h3
     refine Y10 ?_;refine Rq ?_;exact c7 (by simp_all [j8]; try omega)
    ·intro h3
     refine Y45 ?_;refine Rq ?_;exact c7 (by simp_all [j8]; try omega)
mutual
def m7 : Pat → Int
 | .mk k _ _ ks => if k = 1 then 1 else J5 ks
def J5 : List Pat → Int
 | [] => 0
 | p :: ps => m7 p + J5 ps
end
mutual
theorem y5 : ∀ (p : Pat), 0 ≤ m7 p ∧ m7 p ≤ l9 p
 | .mk k n r ks => by
  have := P4 ks
  simp only [m7, l9]
  split <;> omega
theorem P4 : ∀ (ps : List Pat), 0 ≤ J5 ps ∧ J5 ps ≤ u5 ps
 | [] => by simp [J5, u5]
 | p :: ps => by
  have := y5 p
  have := P4 ps
  simp only [J5, u5]
  omega
end
theorem J4 : ∀ {ks : List Pat} {i : Nat} (h : i < ks.length), J5 (ks.take (i + 1)) = J5 (ks.take i) + m7 ks[i]
 | p :: ps, 0, _ => by simp [J5]
 | p :: ps, i + 1, h => by
  have := J4 (ks := ps) (i := i) (by simpa using h)
  simp [J5, this]; omega
theorem ba5 : ∀ (N : Nat) (p : Pat), l9 p ≤ N → N < 2^40 → FCall Tryz.prog G 222 [.pu (v7 0 p)] (iv .i64 (m7 p)) := by
 intro N
 induction N with
 | zero => intro p h; cases p; simp [l9] at h
 | succ N ih =>
 intro p hp hN
 obtain ⟨k, n, r, ks⟩ := p
 simp only [l9] at hp
 have hlen := m4 ks
 refine Fq 22 Tryz.func222 ?_;intro w0 M ρ0 D0
 refine Y85 ?_;refine Y24 ?_;refine Y0 ?_;refine Cq ?_ ?_
 ·intro h0
  refine Y10 ?_;refine Rq ?_;exact c7 (by simp_all [m7])
 ·intro h0
  refine Tri.skip ?_;refine Y21 ?_;refine ay8 ?_;refine Tri.block (Tri.loopW (σ := Nat) (fun i => ⟨[(10, .pu (.sl 0 104 (u6 0 ks))), (11, iv .i64 (u6 0 ks).length), (12, iv .i64 i), (3, iv .i64 (J5 (ks.take i)))], []⟩) (fun i => ks.length - i) 0 ?_ ?_ (fun i => ?_))
  ·exact zW
  ·exact zW
  refine Y41 ?_;refine Cq ?_ ?_
  ·intro h1
   have hi : i < ks.length := by simpa [t9] using h1
   have h1' := P4 (ks.take i)
   have h2 := y5 ks[i]
   have h3 := S0 (ks := ks) (i := i)
   have h4 := q9 hi
   refine Y86 ?_;refine b5 (g9 SS (h0 := by omega) (hp := D9 hi)) ?_;refine yL ?_;refine aC5 ?_;refine Y1 ?_;refine yL ?_;refine Dq (ih ks[i] (by omega) (by omega)) ?_;refine yI ?_;refine Y8 ?_;refine Y33 ?_
   refine ⟨i + 1, by omega, i9 ?_ ?_⟩
   ·repeat (first | exact SubE.nil | refine SubE.cons rfl (by first | rfl | (rw [b7 (by omega) (by omega)]; rfl) | (rw [J4 hi, b7 (by omega) (by omega)])) ?_)
   ·repeat (first | exact SubH.nil | refine SubH.cons rfl (by first | rfl | (rw [b7 (by omega) (by omega)]; rfl) | (rw [J4 hi, b7 (by omega) (by omega)])) ?_)
  ·intro h1
   have hi : ks.length ≤ i := by simpa [t9] using h1
   rw [List.take_of_length_le hi];refine Tri.exit ?_;refine Y88 ?_;refine Rq ?_;exact c7 (by simp_all [m7])
end
section
variable {G : List (Nat × TypeId × Pu)} {lo : Nat}
theorem bN7 {vf : PV} {f : FuncId} {first captured : List PV} {HR : List (Nat × Ob)} (hvf : fnV vf = some (f, first, captured)) (hst : Str vf vf) (hnt : m3 vf = false) (hent : n9 Tryz.prog f = true) (hna : (first ++ captured).any m3 = false)
  (hfree : ∀ l ob, get HR l = some ob → B2 ob = true) {ps : List Pu} (hlen : ps.length < 4611686018427387904) {H H' : List (Nat × Ob)} {r : Option Nat} (hd0 : E9 HR H' = true) (hk : ∀ l ob, get H l = some ob → ∃ ob', get H' l = some ob') (hR : ∀ l ob, get HR l = some ob → get H l = none)
  (h : AnyC Tryz.prog G f first captured HR ps H r H') : HCall Tryz.prog G 184 [.pu (.sl lo 104 ps), vf] HR H (iv .i64 (ac5 r)) H' [] := by
 refine HCall.of_tri tbl (n := 19) (L := j4 H' ++ y4 H') Tryz.func184 rfl rfl hfree (fun l ob hl => r6 hd0 hl) (fun l hl => by simp [PV.labs] at hl) (fun l ob hl => S1 hl) hk ?_
 rintro ⟨w0, n', M, G', L, R, ρ0, D0, ro⟩ hn hG hL hR' hro
 simp only at hn hG hL hR' hro
 subst hn hG hL hR' hro
 have hset : ∀ (i : Nat) (H1 : List (Nat × Ob)) (r1 : Option Nat), AnyC Tryz.prog G' f first captured HR (ps.drop i) H1 r1 H' → True := fun _ _ _ _ => trivial
 let σ := {s : Nat × List (Nat × Ob) × Option Nat // AnyC Tryz.prog G' f first captured HR (ps.drop s.1) s.2.1 s.2.2 H' ∧ s.1 ≤ ps.length ∧ ac5 r = (match s.2.2 with | some j => ((s.1 + j : Nat) : Int) | none => -1) ∧ (∀ l ob, get s.2.1 l = some ob → l ∉ j4 HR)}
 refine Y71 ?_;refine Y43 ?_;refine Tri.block (Tri.loop (σ := σ) (fun s => ⟨[(0, .pu (.sl lo 104 ps)), (1, vf), (7, iv .i64 ps.length), (8, iv .i64 s.1.1)], HR ++ s.1.2.1⟩) (fun s => ps.length - s.1.1) ⟨(0, H, r), by simpa using h, Nat.zero_le _, by cases r <;> simp [ac5], fun l ob hl hm => ?_⟩ ?_ (fun s => ?_))
 ·obtain ⟨ob', ho⟩ := n7 (a := HR) hm
  rw [hR l ob' ho] at hl
  cases hl
 ·exact aD8 (.cons rfl rfl (.cons rfl rfl (.cons rfl rfl (.cons rfl rfl .nil))))
 obtain ⟨⟨i, H1, r1⟩, hA, hi0, hr1, hdisj⟩ := s
 simp only at hA hi0 hr1 hdisj ⊢
 refine Y9 ?_;refine B5 ?_;refine Tri.seq (Tri.cond rfl (fun hb => Tri.skip ?_) (fun hb => Tri.exit ?_))
 ·have hi : i < ps.length := by simpa using hb
  obtain ⟨p, hp⟩ : ∃ p, ps[i]? = some p := ⟨ps[i], by simp [hi]⟩
  have hdr : ps.drop i = p :: ps.drop (i + 1) := by
   rw [List.drop_eq_getElem_cons hi]
   simp only [List.getElem?_eq_getElem hi, Option.some.injEq] at hp
   rw [hp]
  rw [hdr] at hA
  have hHR : ∀ l ob, get HR l = some ob → ∃ ob1, get (HR ++ H1) l = some ob1 ∧ ObImp Tryz.prog ob1 ob := fun l ob hl => ⟨ob, by rw [d8, hl]; rfl, ObImp.refl _⟩
  have hH1 : ∀ l ob, get H1 l = some ob → l ∉ j4 HR ∧ ∃ ob1, get (HR ++ H1) l = some ob1 ∧ ObImp Tryz.prog ob1 ob := fun l ob hl => by
   refine ⟨hdisj l ob hl, ob, ?_, ObImp.refl _⟩
   rw [d8]
   cases hg : get HR l with
   | some o => exact absurd (o9 hg) (hdisj l ob hl)
   | none => simpa using hl
  have hnt2 : (first ++ [PV.pu p] ++ captured).any m3 = false := by
   simp only [List.any_append, Bool.or_eq_false_iff] at hna ⊢
   exact ⟨⟨hna.1, by simp [m3]⟩, hna.2⟩
  refine Tri.seq (Tri.block ?_);refine Y95 ?_
  cases hA with
  | hit hc hd =>
   refine yR ?_;refine b5 (N8 SS (h := Ev.mk rfl hst)) ?_;refine Y48 ?_;refine Xq hp ?_;refine yL ?_;refine C9 (vf := vf) (first := first) (captured := captured) (vs := [.pu p]) (HR := HR) (H := H1) (news := []) rfl hst hvf hent (.cons (.mk rfl .pu) .nil) rfl (VImps.refl _) hnt2 hHR hH1 hc rfl ?_;refine Y0 ?_;refine Tri.condT rfl ?_;refine Y95 ?_;refine Tri.ret ⟨.inr rfl, _, Ghost.refl _, B8 rfl b4 (c7 ?_), fun l ob hl => ⟨ob, ?_, ObImp.refl _⟩⟩
   ·rw [hr1]
    simp
   ·rw [d8, hl]; rfl
  | next hc hd t =>
   rename_i H2 r2
   refine yR ?_;refine b5 (N8 SS (h := Ev.mk rfl hst)) ?_;refine Y48 ?_;refine Xq hp ?_;refine yL ?_;refine C9 (vf := vf) (first := first) (captured := captured) (vs := [.pu p]) (HR := HR) (H := H1) (news := []) rfl hst hvf hent (.cons (.mk rfl .pu) .nil) rfl (VImps.refl _) hnt2 hHR hH1 hc rfl ?_;refine Y0 ?_;refine Tri.condF rfl ?_;refine Y66 ?_
   refine ⟨⟨(i + 1, H2, r2), t, hi, ?_, fun l ob hl hm => ?_⟩, by simp; omega, aD9 hd (.cons rfl rfl (.cons rfl rfl (.cons rfl rfl (.cons rfl ?_ .nil))))⟩
   ·rw [hr1]
    cases r2 with
    | none => rfl
    | some j => exact congrArg (fun n : Nat => (n : Int)) (show i + (j + 1) = i + 1 + j by omega)
   ·obtain ⟨ob', ho⟩ := n7 (a := HR) hm
    rw [r6 hd hl] at ho
    cases ho
   ·rw [b7 (by omega) (by omega)]
    rfl
 ·have hi : i = ps.length := by
   have : ps.length ≤ i := by simpa using hb
   omega
  subst hi
  rw [List.drop_length] at hA
  cases hA
  refine Y21 ?_;refine Tri.ret ⟨.inr rfl, _, Ghost.refl _, B8 rfl b4 (c7 (by rw [hr1])), fun l ob hl => ⟨ob, ?_, ObImp.refl _⟩⟩;rw [d8]
  cases hg : get HR l with
  | some o => exact absurd (o9 hg) (hdisj l ob hl)
  | none => simpa using hl
theorem bQ2 {vf : PV} {f : FuncId} {first captured : List PV} {HR : List (Nat × Ob)} (hvf : fnV vf = some (f, first, captured)) (hst : Str vf vf) (hnt : m3 vf = false) (hent : n9 Tryz.prog f = true) (hna : (first ++ captured).any m3 = false)
  (hfree : ∀ l ob, get HR l = some ob → B2 ob = true) {ps : List Pu} (hlen : ps.length < 4611686018427387904) {H H' : List (Nat × Ob)} {r : Option Nat} (hd0 : E9 HR H' = true) (hd1 : E9 HR H = true) (hk : ∀ l ob, get H l = some ob → ∃ ob', get H' l = some ob')
  (h : AnyC Tryz.prog G f first captured HR ps H r H') : HCall Tryz.prog G 120 [.pu (.sl lo 104 ps), vf] HR H (bv r.isSome) H' [] := by
 refine HCall.of_tri tbl (n := 9) (L := j4 H' ++ y4 H') Tryz.func120 rfl rfl hfree (fun l ob hl => r6 hd0 hl) (fun l hl => by simp [PV.labs] at hl) (fun l ob hl => S1 hl) hk ?_
 rintro ⟨w0, n', M, G', L, R, ρ0, D0, ro⟩ hn hG hL hR' hro
 simp only at hn hG hL hR' hro
 subst hn hG hL hR' hro
 have hHR : ∀ l ob, get HR l = some ob → ∃ ob1, get (HR ++ H) l = some ob1 ∧ ObImp Tryz.prog ob1 ob := fun l ob hl => ⟨ob, by rw [d8, hl]; rfl, ObImp.refl _⟩
 have hH1 : ∀ l ob, get H l = some ob → l ∉ j4 HR ∧ ∃ ob1, get (HR ++ H) l = some ob1 ∧ ObImp Tryz.prog ob1 ob := fun l ob hl => by
  have hz := r6 hd1 hl
  refine ⟨fun hm => ?_, ob, ?_, ObImp.refl _⟩
  ·obtain ⟨ob', ho⟩ := n7 (a := HR) hm
   rw [hz] at ho; cases ho
  ·rw [d8, hz]; simpa using hl
 refine Y71 ?_;refine b5 (N8 SS (h := Ev.mk rfl hst)) ?_;refine C9 (vf := .pu (.leaf (.func (.func 184) #[] #[]))) (first := []) (captured := []) (vs := [.pu (.sl lo 104 ps), vf]) (HR := HR) (H := H) (news := []) rfl .pu rfl (by kernel_rfl) (.cons (.mk rfl .pu) (.cons (.mk rfl hst) .nil)) (by rw [List.any_cons, List.any_cons, hnt]; rfl) (VImps.refl _) (by rw [List.nil_append, List.append_nil, List.any_cons, List.any_cons, hnt]; rfl) hHR hH1 (bN7 hvf hst hnt hent hna hfree hlen hd0 hk (fun l ob hl => N6 hd1 hl) h) rfl ?_;refine yI ?_;refine Y8 ?_;refine Tri.ret ⟨.inr rfl, _, Ghost.refl _, B8 rfl b4 (m0 ?_), fun l ob hl => ⟨ob, by rw [d8, hl]; rfl, ObImp.refl _⟩⟩
 cases r with
 | none => simp [ac5]
 | some j => simp [ac5]
theorem aM6 (vf : PV) {f : FuncId} {first captured : List PV} {HR : List (Nat × Ob)} {ps : List Pu} (hlen : ps.length < 4611686018427387904) {H H' : List (Nat × Ob)} {r : Option Nat} (h : AnyC Tryz.prog G f first captured HR ps H r H')
  (hvf : fnV vf = some (f, first, captured) := by rfl) (hst : Str vf vf := by repeat constructor) (hnt : m3 vf = false := by rfl) (hent : n9 Tryz.prog f = true := by kernel_rfl) (hna : (first ++ captured).any m3 = false := by rfl)
  (hfree : HR.all (fun q => B2 q.2) = true := by rfl) (hd0 : E9 HR H' = true := by rfl) (hd1 : E9 HR H = true := by rfl) (hk : ((j4 H).all fun l => (j4 H').contains l) = true := by rfl) :
  HCall Tryz.prog G 120 [.pu (.sl lo 104 ps), vf] HR H (bv r.isSome) H' [] :=
 bQ2 hvf hst hnt hent hna (fun l ob hl => List.all_eq_true.1 hfree _ (y9 hl)) hlen hd0 hd1 (fun l ob hl => n7 (by simpa [j4] using List.all_eq_true.1 hk l (o9 hl))) h
theorem bW0 {vf : PV} {f : FuncId} {first captured : List PV} {HR : List (Nat × Ob)} (hvf : fnV vf = some (f, first, captured)) (hst : Str vf vf) (hnt : m3 vf = false) (hent : n9 Tryz.prog f = true) (hna : (first ++ captured).any m3 = false)
  (hfree : ∀ l ob, get HR l = some ob → B2 ob = true) {ps : List Pu} (hlen : ps.length < 4611686018427387904) {H H' : List (Nat × Ob)} {r : Option Nat} (hd0 : E9 HR H' = true) (hk : ∀ l ob, get H l = some ob → ∃ ob', get H' l = some ob') (hR : ∀ l ob, get HR l = some ob → get H l = none)
  (h : AnyC Tryz.prog G f first captured HR ps H r H') : HCall Tryz.prog G 185 [.pu (.sl lo 32 ps), vf] HR H (iv .i64 (ac5 r)) H' [] := by
 refine HCall.of_tri tbl (n := 19) (L := j4 H' ++ y4 H') Tryz.func185 rfl rfl hfree (fun l ob hl => r6 hd0 hl) (fun l hl => by simp [PV.labs] at hl) (fun l ob hl => S1 hl) hk ?_
 rintro ⟨w0, n', M, G', L, R, ρ0, D0, ro⟩ hn hG hL hR' hro
 simp only at hn hG hL hR' hro
 subst hn hG hL hR' hro
 have hset : ∀ (i : Nat) (H1 : List (Nat × Ob)) (r1 : Option Nat), AnyC Tryz.prog G' f first captured HR (ps.drop i) H1 r1 H' → True := fun _ _ _ _ => trivial
 let σ := {s : Nat × List (Nat × Ob) × Option Nat // AnyC Tryz.prog G' f first captured HR (ps.drop s.1) s.2.1 s.2.2 H' ∧ s.1 ≤ ps.length ∧ ac5 r = (match s.2.2 with | some j => ((s.1 + j : Nat) : Int) | none => -1) ∧ (∀ l ob, get s.2.1 l = some ob → l ∉ j4 HR)}
 refine Y71 ?_;refine Y43 ?_;refine Tri.block (Tri.loop (σ := σ) (fun s => ⟨[(0, .pu (.sl lo 32 ps)), (1, vf), (7, iv .i64 ps.length), (8, iv .i64 s.1.1)], HR ++ s.1.2.1⟩) (fun s => ps.length - s.1.1) ⟨(0, H, r), by simpa using h, Nat.zero_le _, by cases r <;> simp [ac5], fun l ob hl hm => ?_⟩ ?_ (fun s => ?_))
 ·obtain ⟨ob', ho⟩ := n7 (a := HR) hm
  rw [hR l ob' ho] at hl
  cases hl
 ·exact aD8 (.cons rfl rfl (.cons rfl rfl (.cons rfl rfl (.cons rfl rfl .nil))))
 obtain ⟨⟨i, H1, r1⟩, hA, hi0, hr1, hdisj⟩ := s
 simp only at hA hi0 hr1 hdisj ⊢
 refine Y9 ?_;refine B5 ?_;refine Tri.seq (Tri.cond rfl (fun hb => Tri.skip ?_) (fun hb => Tri.exit ?_))
 ·have hi : i < ps.length := by simpa using hb
  obtain ⟨p, hp⟩ : ∃ p, ps[i]? = some p := ⟨ps[i], by simp [hi]⟩
  have hdr : ps.drop i = p :: ps.drop (i + 1) := by
   rw [List.drop_eq_getElem_cons hi]
   simp only [List.getElem?_eq_getElem hi, Option.some.injEq] at hp
   rw [hp]
  rw [hdr] at hA
  have hHR : ∀ l ob, get HR l = some ob → ∃ ob1, get (HR ++ H1) l = some ob1 ∧ ObImp Tryz.prog ob1 ob := fun l ob hl => ⟨ob, by rw [d8, hl]; rfl, ObImp.refl _⟩
  have hH1 : ∀ l ob, get H1 l = some ob → l ∉ j4 HR ∧ ∃ ob1, get (HR ++ H1) l = some ob1 ∧ ObImp Tryz.prog ob1 ob := fun l ob hl => by
   refine ⟨hdisj l ob hl, ob, ?_, ObImp.refl _⟩
   rw [d8]
   cases hg : get HR l with
   | some o => exact absurd (o9 hg) (hdisj l ob hl)
   | none => simpa using hl
  have hnt2 : (first ++ [PV.pu p] ++ captured).any m3 = false := by
   simp only [List.any_append, Bool.or_eq_false_iff] at hna ⊢
   exact ⟨⟨hna.1, by simp [m3]⟩, hna.2⟩
  refine Tri.seq (Tri.block ?_);refine Y95 ?_
  cases hA with
  | hit hc hd =>
   refine yR ?_;refine b5 (N8 SS (h := Ev.mk rfl hst)) ?_;refine Y48 ?_;refine Xq hp ?_;refine yL ?_;refine C9 (vf := vf) (first := first) (captured := captured) (vs := [.pu p]) (HR := HR) (H := H1) (news := []) rfl hst hvf hent (.cons (.mk rfl .pu) .nil) rfl (VImps.refl _) hnt2 hHR hH1 hc rfl ?_;refine Y0 ?_;refine Tri.condT rfl ?_;refine Y95 ?_;refine Tri.ret ⟨.inr rfl, _, Ghost.refl _, B8 rfl b4 (c7 ?_), fun l ob hl => ⟨ob, ?_, ObImp.refl _⟩⟩
   ·rw [hr1]
    simp
   ·rw [d8, hl]; rfl
  | next hc hd t =>
   rename_i H2 r2
   refine yR ?_;refine b5 (N8 SS (h := Ev.mk rfl hst)) ?_;refine Y48 ?_;refine Xq hp ?_;refine yL ?_;refine C9 (vf := vf) (first := first) (captured := captured) (vs := [.pu p]) (HR := HR) (H := H1) (news := []) rfl hst hvf hent (.cons (.mk rfl .pu) .nil) rfl (VImps.refl _) hnt2 hHR hH1 hc rfl ?_;refine Y0 ?_;refine Tri.condF rfl ?_;refine Y66 ?_
   refine ⟨⟨(i + 1, H2, r2), t, hi, ?_, fun l ob hl hm => ?_⟩, by simp; omega, aD9 hd (.cons rfl rfl (.cons rfl rfl (.cons rfl rfl (.cons rfl ?_ .nil))))⟩
   ·rw [hr1]
    cases r2 with
    | none => rfl
    | some j => exact congrArg (fun n : Nat => (n : Int)) (show i + (j + 1) = i + 1 + j by omega)
   ·obtain ⟨ob', ho⟩ := n7 (a := HR) hm
    rw [r6 hd hl] at ho
    cases ho
   ·rw [b7 (by omega) (by omega)]
    rfl
 ·have hi : i = ps.length := by
   have : ps.length ≤ i := by simpa using hb
   omega
  subst hi
  rw [List.drop_length] at hA
  cases hA
  refine Y21 ?_;refine Tri.ret ⟨.inr rfl, _, Ghost.refl _, B8 rfl b4 (c7 (by rw [hr1])), fun l ob hl => ⟨ob, ?_, ObImp.refl _⟩⟩;rw [d8]
  cases hg : get HR l with
  | some o => exact absurd (o9 hg) (hdisj l ob hl)
  | none => simpa using hl
theorem bX6 {vf : PV} {f : FuncId} {first captured : List PV} {HR : List (Nat × Ob)} (hvf : fnV vf = some (f, first, captured)) (hst : Str vf vf) (hnt : m3 vf = false) (hent : n9 Tryz.prog f = true) (hna : (first ++ captured).any m3 = false)
  (hfree : ∀ l ob, get HR l = some ob → B2 ob = true) {ps : List Pu} (hlen : ps.length < 4611686018427387904) {H H' : List (Nat × Ob)} {r : Option Nat} (hd0 : E9 HR H' = true) (hd1 : E9 HR H = true) (hk : ∀ l ob, get H l = some ob → ∃ ob', get H' l = some ob')
  (h : AnyC Tryz.prog G f first captured HR ps H r H') : HCall Tryz.prog G 122 [.pu (.sl lo 32 ps), vf] HR H (bv r.isSome) H' [] := by
 refine HCall.of_tri tbl (n := 9) (L := j4 H' ++ y4 H') Tryz.func122 rfl rfl hfree (fun l ob hl => r6 hd0 hl) (fun l hl => by simp [PV.labs] at hl) (fun l ob hl => S1 hl) hk ?_
 rintro ⟨w0, n', M, G', L, R, ρ0, D0, ro⟩ hn hG hL hR' hro
 simp only at hn hG hL hR' hro
 subst hn hG hL hR' hro
 have hHR : ∀ l ob, get HR l = some ob → ∃ ob1, get (HR ++ H) l = some ob1 ∧ ObImp Tryz.prog ob1 ob := fun l ob hl => ⟨ob, by rw [d8, hl]; rfl, ObImp.refl _⟩
 have hH1 : ∀ l ob, get H l = some ob → l ∉ j4 HR ∧ ∃ ob1, get (HR ++ H) l = some ob1 ∧ ObImp Tryz.prog ob1 ob := fun l ob hl => by
  have hz := r6 hd1 hl
  refine ⟨fun hm => ?_, ob, ?_, ObImp.refl _⟩
  ·obtain ⟨ob', ho⟩ := n7 (a := HR) hm
   rw [hz] at ho; cases ho
  ·rw [d8, hz]; simpa using hl
 refine Y71 ?_;refine b5 (N8 SS (h := Ev.mk rfl hst)) ?_;refine C9 (vf := .pu (.leaf (.func (.func 185) #[] #[]))) (first := []) (captured := []) (vs := [.pu (.sl lo 32 ps), vf]) (HR := HR) (H := H) (news := []) rfl .pu rfl (by kernel_rfl) (.cons (.mk rfl .pu) (.cons (.mk rfl hst) .nil)) (by rw [List.any_cons, List.any_cons, hnt]; rfl) (VImps.refl _) (by rw [List.nil_append, List.append_nil, List.any_cons, List.any_cons, hnt]; rfl) hHR hH1 (bW0 hvf hst hnt hent hna hfree hlen hd0 hk (fun l ob hl => N6 hd1 hl) h) rfl ?_;refine yI ?_;refine Y8 ?_;refine Tri.ret ⟨.inr rfl, _, Ghost.refl _, B8 rfl b4 (m0 ?_), fun l ob hl => ⟨ob, by rw [d8, hl]; rfl, ObImp.refl _⟩⟩
 cases r with
 | none => simp [ac5]
 | some j => simp [ac5]
theorem aE9 (vf : PV) {f : FuncId} {first captured : List PV} {HR : List (Nat × Ob)} {ps : List Pu} (hlen : ps.length < 4611686018427387904) {H H' : List (Nat × Ob)} {r : Option Nat} (h : AnyC Tryz.prog G f first captured HR ps H r H')
  (hvf : fnV vf = some (f, first, captured) := by rfl) (hst : Str vf vf := by repeat constructor) (hnt : m3 vf = false := by rfl) (hent : n9 Tryz.prog f = true := by kernel_rfl) (hna : (first ++ captured).any m3 = false := by rfl)
  (hfree : HR.all (fun q => B2 q.2) = true := by rfl) (hd0 : E9 HR H' = true := by rfl) (hd1 : E9 HR H = true := by rfl) (hk : ((j4 H).all fun l => (j4 H').contains l) = true := by rfl) :
  HCall Tryz.prog G 122 [.pu (.sl lo 32 ps), vf] HR H (bv r.isSome) H' [] :=
 bX6 hvf hst hnt hent hna (fun l ob hl => List.all_eq_true.1 hfree _ (y9 hl)) hlen hd0 hd1 (fun l ob hl => n7 (by simpa [j4] using List.all_eq_true.1 hk l (o9 hl))) h
theorem bW2 {vf : PV} {f : FuncId} {first captured : List PV} {HR : List (Nat × Ob)} (hvf : fnV vf = some (f, first, captured)) (hst : Str vf vf) (hnt : m3 vf = false) (hent : n9 Tryz.prog f = true) (hna : (first ++ captured).any m3 = false)
  (hfree : ∀ l ob, get HR l = some ob → B2 ob = true) {ps : List Pu} (hlen : ps.length < 4611686018427387904) {H H' : List (Nat × Ob)} {r : Option Nat} (hd0 : E9 HR H' = true) (hk : ∀ l ob, get H l = some ob → ∃ ob', get H' l = some ob') (hR : ∀ l ob, get HR l = some ob → get H l = none)
  (h : AnyC Tryz.prog G f first captured HR ps H r H') : HCall Tryz.prog G 186 [.pu (.sl lo 106 ps), vf] HR H (iv .i64 (ac5 r)) H' [] := by
 refine HCall.of_tri tbl (n := 19) (L := j4 H' ++ y4 H') Tryz.func186 rfl rfl hfree (fun l ob hl => r6 hd0 hl) (fun l hl => by simp [PV.labs] at hl) (fun l ob hl => S1 hl) hk ?_
 rintro ⟨w0, n', M, G', L, R, ρ0, D0, ro⟩ hn hG hL hR' hro
 simp only at hn hG hL hR' hro
 subst hn hG hL hR' hro
 have hset : ∀ (i : Nat) (H1 : List (Nat × Ob)) (r1 : Option Nat), AnyC Tryz.prog G' f first captured HR (ps.drop i) H1 r1 H' → True := fun _ _ _ _ => trivial
 let σ := {s : Nat × List (Nat × Ob) × Option Nat // AnyC Tryz.prog G' f first captured HR (ps.drop s.1) s.2.1 s.2.2 H' ∧ s.1 ≤ ps.length ∧ ac5 r = (match s.2.2 with | some j => ((s.1 + j : Nat) : Int) | none => -1) ∧ (∀ l ob, get s.2.1 l = some ob → l ∉ j4 HR)}
 refine Y71 ?_;refine Y43 ?_;refine Tri.block (Tri.loop (σ := σ) (fun s => ⟨[(0, .pu (.sl lo 106 ps)), (1, vf), (7, iv .i64 ps.length), (8, iv .i64 s.1.1)], HR ++ s.1.2.1⟩) (fun s => ps.length - s.1.1) ⟨(0, H, r), by simpa using h, Nat.zero_le _, by cases r <;> simp [ac5], fun l ob hl hm => ?_⟩ ?_ (fun s => ?_))
 ·obtain ⟨ob', ho⟩ := n7 (a := HR) hm
  rw [hR l ob' ho] at hl
  cases hl
 ·exact aD8 (.cons rfl rfl (.cons rfl rfl (.cons rfl rfl (.cons rfl rfl .nil))))
 obtain ⟨⟨i, H1, r1⟩, hA, hi0, hr1, hdisj⟩ := s
 simp only at hA hi0 hr1 hdisj ⊢
 refine Y9 ?_;refine B5 ?_;refine Tri.seq (Tri.cond rfl (fun hb => Tri.skip ?_) (fun hb => Tri.exit ?_))
 ·have hi : i < ps.length := by simpa using hb
  obtain ⟨p, hp⟩ : ∃ p, ps[i]? = some p := ⟨ps[i], by simp [hi]⟩
  have hdr : ps.drop i = p :: ps.drop (i + 1) := by
   rw [List.drop_eq_getElem_cons hi]
   simp only [List.getElem?_eq_getElem hi, Option.some.injEq] at hp
   rw [hp]
  rw [hdr] at hA
  have hHR : ∀ l ob, get HR l = some ob → ∃ ob1, get (HR ++ H1) l = some ob1 ∧ ObImp Tryz.prog ob1 ob := fun l ob hl => ⟨ob, by rw [d8, hl]; rfl, ObImp.refl _⟩
  have hH1 : ∀ l ob, get H1 l = some ob → l ∉ j4 HR ∧ ∃ ob1, get (HR ++ H1) l = some ob1 ∧ ObImp Tryz.prog ob1 ob := fun l ob hl => by
   refine ⟨hdisj l ob hl, ob, ?_, ObImp.refl _⟩
   rw [d8]
   cases hg : get HR l with
   | some o => exact absurd (o9 hg) (hdisj l ob hl)
   | none => simpa using hl
  have hnt2 : (first ++ [PV.pu p] ++ captured).any m3 = false := by
   simp only [List.any_append, Bool.or_eq_false_iff] at hna ⊢
   exact ⟨⟨hna.1, by simp [m3]⟩, hna.2⟩
  refine Tri.seq (Tri.block ?_);refine Y95 ?_
  cases hA with
  | hit hc hd =>
   refine yR ?_;refine b5 (N8 SS (h := Ev.mk rfl hst)) ?_;refine Y48 ?_;refine Xq hp ?_;refine yL ?_;refine C9 (vf := vf) (first := first) (captured := captured) (vs := [.pu p]) (HR := HR) (H := H1) (news := []) rfl hst hvf hent (.cons (.mk rfl .pu) .nil) rfl (VImps.refl _) hnt2 hHR hH1 hc rfl ?_;refine Y0 ?_;refine Tri.condT rfl ?_;refine Y95 ?_;refine Tri.ret ⟨.inr rfl, _, Ghost.refl _, B8 rfl b4 (c7 ?_), fun l ob hl => ⟨ob, ?_, ObImp.refl _⟩⟩
   ·rw [hr1]
    simp
   ·rw [d8, hl]; rfl
  | next hc hd t =>
   rename_i H2 r2
   refine yR ?_;refine b5 (N8 SS (h := Ev.mk rfl hst)) ?_;refine Y48 ?_;refine Xq hp ?_;refine yL ?_;refine C9 (vf := vf) (first := first) (captured := captured) (vs := [.pu p]) (HR := HR) (H := H1) (news := []) rfl hst hvf hent (.cons (.mk rfl .pu) .nil) rfl (VImps.refl _) hnt2 hHR hH1 hc rfl ?_;refine Y0 ?_;refine Tri.condF rfl ?_;refine Y66 ?_
   refine ⟨⟨(i + 1, H2, r2), t, hi, ?_, fun l ob hl hm => ?_⟩, by simp; omega, aD9 hd (.cons rfl rfl (.cons rfl rfl (.cons rfl rfl (.cons rfl ?_ .nil))))⟩
   ·rw [hr1]
    cases r2 with
    | none => rfl
    | some j => exact congrArg (fun n : Nat => (n : Int)) (show i + (j + 1) = i + 1 + j by omega)
   ·obtain ⟨ob', ho⟩ := n7 (a := HR) hm
    rw [r6 hd hl] at ho
    cases ho
   ·rw [b7 (by omega) (by omega)]
    rfl
 ·have hi : i = ps.length := by
   have : ps.length ≤ i := by simpa using hb
   omega
  subst hi
  rw [List.drop_length] at hA
  cases hA
  refine Y21 ?_;refine Tri.ret ⟨.inr rfl, _, Ghost.refl _, B8 rfl b4 (c7 (by rw [hr1])), fun l ob hl => ⟨ob, ?_, ObImp.refl _⟩⟩;rw [d8]
  cases hg : get HR l with
  | some o => exact absurd (o9 hg) (hdisj l ob hl)
  | none => simpa using hl
theorem bX9 {vf : PV} {f : FuncId} {first captured : List PV} {HR : List (Nat × Ob)} (hvf : fnV vf = some (f, first, captured)) (hst : Str vf vf) (hnt : m3 vf = false) (hent : n9 Tryz.prog f = true) (hna : (first ++ captured).any m3 = false)
  (hfree : ∀ l ob, get HR l = some ob → B2 ob = true) {ps : List Pu} (hlen : ps.length < 4611686018427387904) {H H' : List (Nat × Ob)} {r : Option Nat} (hd0 : E9 HR H' = true) (hd1 : E9 HR H = true) (hk : ∀ l ob, get H l = some ob → ∃ ob', get H' l = some ob')
  (h : AnyC Tryz.prog G f first captured HR ps H r H') : HCall Tryz.prog G 123 [.pu (.sl lo 106 ps), vf] HR H (bv r.isSome) H' [] := by
 refine HCall.of_tri tbl (n := 9) (L := j4 H' ++ y4 H') Tryz.func123 rfl rfl hfree (fun l ob hl => r6 hd0 hl) (fun l hl => by simp [PV.labs] at hl) (fun l ob hl => S1 hl) hk ?_
 rintro ⟨w0, n', M, G', L, R, ρ0, D0, ro⟩ hn hG hL hR' hro
 simp only at hn hG hL hR' hro
 subst hn hG hL hR' hro
 have hHR : ∀ l ob, get HR l = some ob → ∃ ob1, get (HR ++ H) l = some ob1 ∧ ObImp Tryz.prog ob1 ob := fun l ob hl => ⟨ob, by rw [d8, hl]; rfl, ObImp.refl _⟩
 have hH1 : ∀ l ob, get H l = some ob → l ∉ j4 HR ∧ ∃ ob1, get (HR ++ H) l = some ob1 ∧ ObImp Tryz.prog ob1 ob := fun l ob hl => by
  have hz := r6 hd1 hl
  refine ⟨fun hm => ?_, ob, ?_, ObImp.refl _⟩
  ·obtain ⟨ob', ho⟩ := n7 (a := HR) hm
   rw [hz] at ho; cases ho
  ·rw [d8, hz]; simpa using hl
 refine Y71 ?_;refine b5 (N8 SS (h := Ev.mk rfl hst)) ?_;refine C9 (vf := .pu (.leaf (.func (.func 186) #[] #[]))) (first := []) (captured := []) (vs := [.pu (.sl lo 106 ps), vf]) (HR := HR) (H := H) (news := []) rfl .pu rfl (by kernel_rfl) (.cons (.mk rfl .pu) (.cons (.mk rfl hst) .nil)) (by rw [List.any_cons, List.any_cons, hnt]; rfl) (VImps.refl _) (by rw [List.nil_append, List.append_nil, List.any_cons, List.any_cons, hnt]; rfl) hHR hH1 (bW2 hvf hst hnt hent hna hfree hlen hd0 hk (fun l ob hl => N6 hd1 hl) h) rfl ?_;refine yI ?_;refine Y8 ?_;refine Tri.ret ⟨.inr rfl, _, Ghost.refl _, B8 rfl b4 (m0 ?_), fun l ob hl => ⟨ob, by rw [d8, hl]; rfl, ObImp.refl _⟩⟩
 cases r with
 | none => simp [ac5]
 | some j => simp [ac5]
theorem aX7 (vf : PV) {f : FuncId} {first captured : List PV} {HR : List (Nat × Ob)} {ps : List Pu} (hlen : ps.length < 4611686018427387904) {H H' : List (Nat × Ob)} {r : Option Nat} (h : AnyC Tryz.prog G f first captured HR ps H r H')
  (hvf : fnV vf = some (f, first, captured) := by rfl) (hst : Str vf vf := by repeat constructor) (hnt : m3 vf = false := by rfl) (hent : n9 Tryz.prog f = true := by kernel_rfl) (hna : (first ++ captured).any m3 = false := by rfl)
  (hfree : HR.all (fun q => B2 q.2) = true := by rfl) (hd0 : E9 HR H' = true := by rfl) (hd1 : E9 HR H = true := by rfl) (hk : ((j4 H).all fun l => (j4 H').contains l) = true := by rfl) :
  HCall Tryz.prog G 123 [.pu (.sl lo 106 ps), vf] HR H (bv r.isSome) H' [] :=
 bX9 hvf hst hnt hent hna (fun l ob hl => List.all_eq_true.1 hfree _ (y9 hl)) hlen hd0 hd1 (fun l ob hl => n7 (by simpa [j4] using List.all_eq_true.1 hk l (o9 hl))) h
end
section
variable {G : List (Nat × TypeId × Pu)}
section
variable (mn md : Int)
mutual
def n4 (mn md d c : Int) : Pat → Bool × Int
 | .mk _ _ _ ks => if mn < c + 1 ∨ md < d then (true, c + 1) else A2 mn md (d + 1) (c + 1) ks
def A2 (mn md d c : Int) : List Pat → Bool × Int
 | [] => (false, c)
 | p :: ps => match n4 mn md d c p with
  | (true, c') => (true, c')
  | (false, c') => A2 mn md d c' ps
end
mutual
def m2 (mn md d c : Int) : Tm → Bool × Int
 | .mk _ _ _ ks cs => if mn < c + 1 ∨ md < d then (true, c + 1) else match o6 mn md (d + 1) (c + 1) ks with
  | (true, c') => (true, c')
  | (false, c') => r9 mn md (d + 1) c' cs
def o6 (mn md d c : Int) : List Tm → Bool × Int
 | [] => (false, c)
 | t :: ts => match m2 mn md d c t with
  | (true, c') => (true, c')
  | (false, c') => o6 mn md d c' ts
def G8 (mn md d c : Int) : Cs → Bool × Int
 | .mk p t => match n4 mn md d c p with
  | (true, c') => (true, c')
  | (false, c') => m2 mn md d c' t
def r9 (mn md d c : Int) : List Cs → Bool × Int
 | [] => (false, c)
 | x :: xs => match G8 mn md d c x with
  | (true, c') => (true, c')
  | (false, c') => r9 mn md d c' xs
end
end
variable {mn md d : Int}
theorem al8 : ∀ (ks : List Pat) (c : Int), A2 mn md d c ks = aC2 (n4 mn md d) c ks
 | [], _ => rfl
 | p :: ps, c => by
  simp only [A2, aC2]
  rcases n4 mn md d c p with ⟨b, c'⟩
  cases b
  ·exact al8 ps c'
  ·rfl
theorem al6 : ∀ (ks : List Tm) (c : Int), o6 mn md d c ks = aC2 (m2 mn md d) c ks
 | [], _ => rfl
 | p :: ps, c => by
  simp only [o6, aC2]
  rcases m2 mn md d c p with ⟨b, c'⟩
  cases b
  ·exact al6 ps c'
  ·rfl
theorem al9 : ∀ (ks : List Cs) (c : Int), r9 mn md d c ks = aC2 (G8 mn md d) c ks
 | [], _ => rfl
 | p :: ps, c => by
  simp only [r9, aC2]
  rcases G8 mn md d c p with ⟨b, c'⟩
  cases b
  ·exact al9 ps c'
  ·rfl
def InB (mn c : Int) (r : Bool × Int) : Prop := c ≤ r.2 ∧ r.2 ≤ mn + 1 ∧ (r.1 = false → r.2 ≤ mn)
mutual
theorem aa9 : ∀ (p : Pat) (d c : Int), c ≤ mn → InB mn c (n4 mn md d c p)
 | .mk _ _ _ ks, d, c, hc => by
  simp only [n4]
  split
  ·exact ⟨by simp; omega, by simp; omega, fun e => by cases e⟩
  ·rename_i hn
   obtain ⟨k1, k2, k3⟩ := be7 ks (d + 1) (c + 1) (by omega)
   exact ⟨by omega, k2, k3⟩
theorem be7 : ∀ (ks : List Pat) (d c : Int), c ≤ mn → InB mn c (A2 mn md d c ks)
 | [], d, c, hc => ⟨by simp [A2], by simp [A2]; omega, fun _ => by simpa [A2] using hc⟩
 | p :: ps, d, c, hc => by
  obtain ⟨h1, h2, h3⟩ := aa9 p d c hc
  simp only [A2]
  rcases hs : n4 mn md d c p with ⟨b, c'⟩
  rw [hs] at h1 h2 h3
  simp only at h1 h2 h3
  cases b
  ·obtain ⟨k1, k2, k3⟩ := be7 ps d c' (h3 rfl)
   exact ⟨Int.le_trans h1 k1, k2, k3⟩
  ·exact ⟨h1, h2, fun e => by cases e⟩
end
mutual
theorem al7 : ∀ (t : Tm) (d c : Int), c ≤ mn → InB mn c (m2 mn md d c t)
 | .mk _ _ _ ks cs, d, c, hc => by
  simp only [m2]
  split
  ·exact ⟨by simp; omega, by simp; omega, fun e => by cases e⟩
  ·rename_i hn
   obtain ⟨h1, h2, h3⟩ := ai7 ks (d + 1) (c + 1) (by omega)
   rcases hs : o6 mn md (d + 1) (c + 1) ks with ⟨b, c'⟩
   rw [hs] at h1 h2 h3
   simp only at h1 h2 h3
   cases b
   ·obtain ⟨k1, k2, k3⟩ := bf0 cs (d + 1) c' (h3 rfl)
    refine ⟨?_, k2, k3⟩
    show c ≤ (r9 mn md (d + 1) c' cs).2
    omega
   ·exact ⟨by simp; omega, h2, fun e => by cases e⟩
theorem ai7 : ∀ (ks : List Tm) (d c : Int), c ≤ mn → InB mn c (o6 mn md d c ks)
 | [], d, c, hc => ⟨by simp [o6], by simp [o6]; omega, fun _ => by simpa [o6] using hc⟩
 | p :: ps, d, c, hc => by
  obtain ⟨h1, h2, h3⟩ := al7 p d c hc
  simp only [o6]
  rcases hs : m2 mn md d c p with ⟨b, c'⟩
  rw [hs] at h1 h2 h3
  simp only at h1 h2 h3
  cases b
  ·obtain ⟨k1, k2, k3⟩ := ai7 ps d c' (h3 rfl)
   exact ⟨Int.le_trans h1 k1, k2, k3⟩
  ·exact ⟨h1, h2, fun e => by cases e⟩
theorem aD7 : ∀ (x : Cs) (d c : Int), c ≤ mn → InB mn c (G8 mn md d c x)
 | .mk p t, d, c, hc => by
  obtain ⟨h1, h2, h3⟩ := aa9 (md := md) p d c hc
  simp only [G8]
  rcases hs : n4 mn md d c p with ⟨b, c'⟩
  rw [hs] at h1 h2 h3
  simp only at h1 h2 h3
  cases b
  ·obtain ⟨k1, k2, k3⟩ := al7 t d c' (h3 rfl)
   exact ⟨Int.le_trans h1 k1, k2, k3⟩
  ·exact ⟨h1, h2, fun e => by cases e⟩
theorem bf0 : ∀ (ks : List Cs) (d c : Int), c ≤ mn → InB mn c (r9 mn md d c ks)
 | [], d, c, hc => ⟨by simp [r9], by simp [r9]; omega, fun _ => by simpa [r9] using hc⟩
 | p :: ps, d, c, hc => by
  obtain ⟨h1, h2, h3⟩ := aD7 p d c hc
  simp only [r9]
  rcases hs : G8 mn md d c p with ⟨b, c'⟩
  rw [hs] at h1 h2 h3
  simp only at h1 h2 h3
  cases b
  ·obtain ⟨k1, k2, k3⟩ := bf0 ps d c' (h3 rfl)
   exact ⟨Int.le_trans h1 k1, k2, k3⟩
  ·exact ⟨h1, h2, fun e => by cases e⟩
end
theorem aw3 {ks : List Pat} {k : Pat} (h : k ∈ ks) : l9 k ≤ u5 ks := by
 obtain ⟨i, hi, rfl⟩ := List.getElem_of_mem h
 exact q9 hi
theorem o8 {ks : List Tm} {k : Tm} (h : k ∈ ks) : a8 k ≤ d7 ks := by
 obtain ⟨i, hi, rfl⟩ := List.getElem_of_mem h
 exact D5 hi
theorem B0 {ks : List Cs} {k : Cs} (h : k ∈ ks) : p9 k ≤ f6 ks := by
 obtain ⟨i, hi, rfl⟩ := List.getElem_of_mem h
 exact E4 hi
end
section
variable {G : List (Nat × TypeId × Pu)}
abbrev lgO (c : Int) : List (Nat × Ob) := [(90, .var 203 (.pu (.agg 203 [.leaf (.int .i64 c)])))]
theorem cf4 (p : Pat) (d c : Int) (hd : 0 ≤ d ∧ d ≤ 60) (h : HCall Tryz.prog G 199 [.ptr 90 [] 203, .pu (v7 0 p), iv .i64 (d + 1)] [] (lgO c) (bv (n4 300 60 (d + 1) c p).1) (lgO (n4 300 60 (d + 1) c p).2) []) :
  HCall Tryz.prog G 234 [.pu (v7 0 p), .ptr 3 [] 201, .ptr 5 [] 3] [(3, .var 201 (.ptr 90 [] 203)), (5, .var 3 (iv .i64 d))] (lgO c) (bv (n4 300 60 (d + 1) c p).1) (lgO (n4 300 60 (d + 1) c p).2) [] := by
 refine HCall.of_triD tbl 10 [90, 3, 5] Tryz.func234 rfl rfl rfl fun w0 M ρ0 D0 => ?_
 refine yR ?_;refine p7 SS 31 ?_;refine yB ?_;refine b8 [31] ?_;refine Y22 ?_;refine yL ?_;refine yI ?_;refine B7 (h) ?_;refine Y2 ?_;refine Rqz ?_;exact VImp.refl _
theorem cj3 : ∀ (N : Nat) (p : Pat), l9 p ≤ N → N < 2^40 → ∀ (d c : Int), 0 ≤ c ∧ c ≤ 300 → 0 ≤ d ∧ d ≤ 60 + 1 →
  HCall Tryz.prog G 199 [.ptr 90 [] 203, .pu (v7 0 p), iv .i64 d] [] (lgO c) (bv (n4 300 60 d c p).1) (lgO (n4 300 60 d c p).2) [] := by
 intro N
 induction N with
 | zero => intro p h; cases p; simp [l9] at h
 | succ N ih =>
 intro p hp hN d c hc hd
 obtain ⟨k, n, r, ks⟩ := p
 simp only [l9] at hp
 have hlen := m4 ks
 have key : 0 ≤ d ∧ d ≤ 60 → c + 1 ≤ 300 → ∃ r, r.isSome = (A2 300 60 (d + 1) (c + 1) ks).1 ∧ AnyC Tryz.prog G 234 [] [.ptr 3 [] 201, .ptr 5 [] 3] [(3, .var 201 (.ptr 90 [] 203)), (5, .var 3 (iv .i64 d))] (u6 0 ks) (lgO (c + 1)) r (lgO (A2 300 60 (d + 1) (c + 1) ks).2) := fun hd' hc' => by
  rw [al8, t9];refine AnyC.state (v7 0) (n4 300 60 (d + 1)) lgO (fun c => 0 ≤ c ∧ c ≤ 300) (fun _ => rfl) ks (fun a ha c hc => ?_) (c + 1) ⟨by omega, hc'⟩
  have hb := aa9 (mn := 300) (md := 60) a (d + 1) c hc.2
  exact ⟨cf4 a d c hd' (ih a (by have := aw3 ha; omega) (by omega) (d + 1) c hc (by omega)), fun e => ⟨by have := hb.1; omega, hb.2.2 e⟩⟩
 refine HCall.of_triD tbl 27 [90] Tryz.func199 rfl rfl rfl fun w0 M ρ0 D0 => ?_
 by_cases hcut : 300 < c + 1 ∨ 60 < d
 ·have e : n4 300 60 d c (.mk k n r ks) = (true, c + 1) := by simp only [n4, if_pos hcut]
  rw [e, ← b7 (n := c + 1) (by omega) (by omega)];refine Y89 ?_;refine p7 SS 5 ?_;refine yB ?_;refine b8 [3, 4, 5] ?_;refine Y96 ?_;refine yY ?_;refine Y83 ?_;refine Y96 ?_;refine Y37 ?_;refine Y29 ?_;refine Y0 ?_;refine Cq ?_ ?_
  ·intro h0
   refine Y10 ?_;refine Rqz ?_;exact VImp.refl _
  ·intro h0;exfalso
   rw [b7 (by omega) (by omega)] at h0
   simp at h0
   omega
 ·obtain ⟨r1, hr1, hA⟩ := key (by omega) (by omega)
  have e : n4 300 60 d c (.mk k n r ks) = A2 300 60 (d + 1) (c + 1) ks := by simp only [n4, if_neg hcut]
  rw [e]
  generalize A2 300 60 (d + 1) (c + 1) ks = q1 at hr1 hA ⊢
  obtain ⟨b1, c1⟩ := q1
  simp only at hr1 hA ⊢
  rw [← b7 (n := c + 1) (by omega) (by omega)] at hA
  refine Y89 ?_;refine p7 SS 5 ?_;refine yB ?_;refine b8 [3, 4, 5] ?_;refine Y96 ?_;refine yY ?_;refine Y83 ?_;refine Y96 ?_;refine Y37 ?_;refine Y29 ?_;refine Y0 ?_;refine Cq ?_ ?_
  ·intro h0;exfalso
   rw [b7 (by omega) (by omega)] at h0
   simp at h0
   omega
  ·intro h0
   refine Tri.skip ?_;refine Y14 ?_;refine b5 (J7 SS) ?_;refine B7 (aM6 (lo := 0) (.fn (.func 234) [] [.ptr 3 [] 201, .ptr 5 [] 3]) (by rw [f5]; omega) hA) ?_;refine Y2 ?_;refine Rqz ?_;exact m0 hr1
theorem bM7 (t : Tm) (d c : Int) (hd : 0 ≤ d ∧ d ≤ 60) (h : HCall Tryz.prog G 134 [.ptr 90 [] 203, .pu (tmc 0 t), iv .i64 (d + 1)] [] (lgO c) (bv (m2 300 60 (d + 1) c t).1) (lgO (m2 300 60 (d + 1) c t).2) []) :
  HCall Tryz.prog G 197 [.pu (tmc 0 t), .ptr 3 [] 201, .ptr 5 [] 3] [(3, .var 201 (.ptr 90 [] 203)), (5, .var 3 (iv .i64 d))] (lgO c) (bv (m2 300 60 (d + 1) c t).1) (lgO (m2 300 60 (d + 1) c t).2) [] := by
 refine HCall.of_triD tbl 10 [90, 3, 5] Tryz.func197 rfl rfl rfl fun w0 M ρ0 D0 => ?_
 refine yR ?_;refine p7 SS 31 ?_;refine yB ?_;refine b8 [31] ?_;refine Y22 ?_;refine yL ?_;refine yI ?_;refine B7 (h) ?_;refine Y2 ?_;refine Rqz ?_;exact VImp.refl _
theorem bC2 (mn md d c : Int) (p : Pat) (t : Tm) : G8 mn md d c (.mk p t) = ((n4 mn md d c p).1 || (m2 mn md d (n4 mn md d c p).2 t).1, if (n4 mn md d c p).1 then (n4 mn md d c p).2 else (m2 mn md d (n4 mn md d c p).2 t).2) := by
 simp only [G8]
 rcases n4 mn md d c p with ⟨b, c'⟩
 cases b <;> simp
theorem cf3 (p : Pat) (t : Tm) (d c : Int) (hd : 0 ≤ d ∧ d ≤ 60) (h : HCall Tryz.prog G 199 [.ptr 90 [] 203, .pu (v7 0 p), iv .i64 (d + 1)] [] (lgO c) (bv (n4 300 60 (d + 1) c p).1) (lgO (n4 300 60 (d + 1) c p).2) [])
  (h2 : (n4 300 60 (d + 1) c p).1 = false → HCall Tryz.prog G 134 [.ptr 90 [] 203, .pu (tmc 0 t), iv .i64 (d + 1)] [] (lgO (n4 300 60 (d + 1) c p).2) (bv (m2 300 60 (d + 1) (n4 300 60 (d + 1) c p).2 t).1) (lgO (m2 300 60 (d + 1) (n4 300 60 (d + 1) c p).2 t).2) []) :
  HCall Tryz.prog G 198 [.pu (J3 0 (.mk p t)), .ptr 3 [] 201, .ptr 5 [] 3, .ptr 7 [] 45] [(3, .var 201 (.ptr 90 [] 203)), (5, .var 3 (iv .i64 d)), (7, .var 45 (.fn (.func 197) [] [.ptr 3 [] 201, .ptr 5 [] 3]))] (lgO c) (bv (G8 300 60 (d + 1) c (.mk p t)).1) (lgO (G8 300 60 (d + 1) c (.mk p t)).2) [] := by
 have h2' := fun e => (bM7 t d _ hd (h2 e)).more (HR' := [(3, .var 201 (.ptr 90 [] 203)), (5, .var 3 (iv .i64 d)), (7, .var 45 (.fn (.func 197) [] [.ptr 3 [] 201, .ptr 5 [] 3]))]) (fun l ob hl => (SubH.cons rfl rfl (.cons rfl rfl .nil) : SubH [(3, .var 201 (.ptr 90 [] 203)), (5, .var 3 (iv .i64 d)), (7, .var 45 (.fn (.func 197) [] [.ptr 3 [] 201, .ptr 5 [] 3]))] [(3, .var 201 (.ptr 90 [] 203)), (5, .var 3 (iv .i64 d))]).le l ob hl) rfl
 rw [bC2]
 generalize hb1 : n4 300 60 (d + 1) c p = r1 at h2' ⊢
 obtain ⟨b1, c1⟩ := r1
 simp only at h2' ⊢
 refine HCall.of_triD tbl 18 [90, 3, 5, 7] Tryz.func198 rfl rfl rfl fun w0 M ρ0 D0 => ?_
 rw [hb1] at h
 refine yR ?_;refine p7 SS 41 ?_;refine yB ?_;refine b8 [41] ?_;refine Y4 ?_;refine Y5 ?_;refine yL ?_;refine yI ?_;refine B7 (h) ?_;refine Y37 ?_;refine Y6 ?_;refine G0 zG (f := 197) (args := [.pu (tmc 0 t), .ptr 3 [] 201, .ptr 5 [] 3]) (HR := [(3, .var 201 (.ptr 90 [] 203)), (5, .var 3 (iv .i64 d)), (7, .var 45 (.fn (.func 197) [] [.ptr 3 [] 201, .ptr 5 [] 3]))]) (H := lgO c1) (H' := lgO (if b1 = true then c1 else (m2 300 60 (d + 1) c1 t).2)) (v := bv (m2 300 60 (d + 1) c1 t).1) (fun e => ?_) (fun e => ?_) ?_
 ·have e' : b1 = false := by simpa using e
  have := h2' e'
  simpa [e'] using this
 ·have e' : b1 = true := by simpa using e
  exact .cons rfl (by simp [e']) .nil
 refine Y79 ?_;refine Rqz ?_;exact VImp.refl _
theorem bC1 (d c k n : Int) (r : List Int) (ks : List Tm) (cs : List Cs) (h : ¬ (300 < c + 1 ∨ 60 < d)) : m2 300 60 d c (.mk k n r ks cs) = ((o6 300 60 (d + 1) (c + 1) ks).1 || (r9 300 60 (d + 1) (o6 300 60 (d + 1) (c + 1) ks).2 cs).1, if (o6 300 60 (d + 1) (c + 1) ks).1 then (o6 300 60 (d + 1) (c + 1) ks).2 else (r9 300 60 (d + 1) (o6 300 60 (d + 1) (c + 1) ks).2 cs).2) := by
 simp only [m2, if_neg h]
 rcases o6 300 60 (d + 1) (c + 1) ks with ⟨b, c'⟩
 cases b <;> simp
theorem cj2 : ∀ (N : Nat) (t : Tm), a8 t ≤ N → N < 2^40 → ∀ (d c : Int), 0 ≤ c ∧ c ≤ 300 → 0 ≤ d ∧ d ≤ 60 + 1 →
  HCall Tryz.prog G 134 [.ptr 90 [] 203, .pu (tmc 0 t), iv .i64 d] [] (lgO c) (bv (m2 300 60 d c t).1) (lgO (m2 300 60 d c t).2) [] := by
 intro N
 induction N with
 | zero => intro t h; have := m8 t; omega
 | succ N ih =>
 intro t hp hN d c hc hd
 obtain ⟨k, n, r, ks, cs⟩ := t
 simp only [a8] at hp
 have hlen := f9 ks
 have hlenc := m5 cs
 have aB7 : 0 ≤ d ∧ d ≤ 60 → c + 1 ≤ 300 → ∃ r, r.isSome = (o6 300 60 (d + 1) (c + 1) ks).1 ∧ AnyC Tryz.prog G 197 [] [.ptr 3 [] 201, .ptr 5 [] 3] [(3, .var 201 (.ptr 90 [] 203)), (5, .var 3 (iv .i64 d))] (l8 0 ks) (lgO (c + 1)) r (lgO (o6 300 60 (d + 1) (c + 1) ks).2) := fun hd' hc' => by
  rw [al6, l6];refine AnyC.state (tmc 0) (m2 300 60 (d + 1)) lgO (fun c => 0 ≤ c ∧ c ≤ 300) (fun _ => rfl) ks (fun a ha c hc => ?_) (c + 1) ⟨by omega, hc'⟩
  have hb := al7 (mn := 300) (md := 60) a (d + 1) c hc.2
  exact ⟨bM7 a d c hd' (ih a (by have := o8 ha; omega) (by omega) (d + 1) c hc (by omega)), fun e => ⟨by have := hb.1; omega, hb.2.2 e⟩⟩
 have keyC : 0 ≤ d ∧ d ≤ 60 → ∀ c1, 0 ≤ c1 ∧ c1 ≤ 300 → ∃ r, r.isSome = (r9 300 60 (d + 1) c1 cs).1 ∧ AnyC Tryz.prog G 198 [] [.ptr 3 [] 201, .ptr 5 [] 3, .ptr 7 [] 45] [(3, .var 201 (.ptr 90 [] 203)), (5, .var 3 (iv .i64 d)), (7, .var 45 (.fn (.func 197) [] [.ptr 3 [] 201, .ptr 5 [] 3]))] (z8 0 cs) (lgO c1) r (lgO (r9 300 60 (d + 1) c1 cs).2) := fun hd' c1 hc1 => by
  rw [al9, A9];refine AnyC.state (J3 0) (G8 300 60 (d + 1)) lgO (fun c => 0 ≤ c ∧ c ≤ 300) (fun _ => rfl) cs (fun a ha c hc => ?_) c1 hc1
  have hb := aD7 (mn := 300) (md := 60) a (d + 1) c hc.2
  have hsz := B0 ha
  obtain ⟨q, b⟩ := a
  simp only [p9] at hsz
  have hp1 := aa9 (mn := 300) (md := 60) q (d + 1) c hc.2
  have htp := m8 b
  exact ⟨cf3 q b d c hd' (cj3 _ q (Nat.le_refl _) (by omega) (d + 1) c hc (by omega)) (fun e => ih b (by omega) (by omega) (d + 1) _ ⟨by have := hp1.1; omega, hp1.2.2 e⟩ (by omega)), fun e => ⟨by have := hb.1; omega, hb.2.2 e⟩⟩
 refine HCall.of_triD tbl 35 [90] Tryz.func134 rfl rfl rfl fun w0 M ρ0 D0 => ?_
 by_cases hcut : 300 < c + 1 ∨ 60 < d
 ·have e : m2 300 60 d c (.mk k n r ks cs) = (true, c + 1) := by simp only [m2, if_pos hcut]
  rw [e, ← b7 (n := c + 1) (by omega) (by omega)];refine Y89 ?_;refine p7 SS 5 ?_;refine yB ?_;refine b8 [3, 4, 5] ?_;refine Y96 ?_;refine yY ?_;refine Y83 ?_;refine Y96 ?_;refine Y37 ?_;refine Y29 ?_;refine Y0 ?_;refine Cq ?_ ?_
  ·intro h0
   refine Y10 ?_;refine Rqz ?_;exact VImp.refl _
  ·intro h0;exfalso
   rw [b7 (by omega) (by omega)] at h0
   simp at h0
   omega
 ·obtain ⟨r1, hr1, hA⟩ := aB7 (by omega) (by omega)
  have hb1 := ai7 (mn := 300) (md := 60) ks (d + 1) (c + 1) (by omega)
  rw [bC1 d c k n r ks cs hcut]
  generalize o6 300 60 (d + 1) (c + 1) ks = q1 at hr1 hA hb1 ⊢
  obtain ⟨b1, c1⟩ := q1
  obtain ⟨hb1, _, hb2⟩ := hb1
  simp only at hr1 hA hb1 hb2 ⊢
  rw [← b7 (n := c + 1) (by omega) (by omega)] at hA
  have hC : b1 = false → ∃ r2 : Option Nat, r2.isSome = (r9 300 60 (d + 1) c1 cs).1 ∧ _ := fun e => keyC (by omega) c1 ⟨by omega, hb2 e⟩
  refine Y89 ?_;refine p7 SS 5 ?_;refine yB ?_;refine b8 [3, 4, 5] ?_;refine Y96 ?_;refine yY ?_;refine Y83 ?_;refine Y96 ?_;refine Y37 ?_;refine Y29 ?_;refine Y0 ?_;refine Cq ?_ ?_
  ·intro h0;exfalso
   rw [b7 (by omega) (by omega)] at h0
   simp at h0
   omega
  ·intro h0
   refine Tri.skip ?_;refine Y38 ?_;refine b9 SS 7 ?_;refine yS ?_;refine b8 [7] ?_;refine Y14 ?_;refine yL ?_;refine B7 (hr1 ▸ aE9 (lo := 0) (.fn (.func 197) [] [.ptr 3 [] 201, .ptr 5 [] 3]) (by rw [a9]; omega) hA) ?_;refine Y12 ?_;refine f7 zG (J7 SS) ?_;refine G0 zG (f := 123) (args := [.pu (.sl 0 106 (z8 0 cs)), .fn (.func 198) [] [.ptr 3 [] 201, .ptr 5 [] 3, .ptr 7 [] 45]]) (HR := [(3, .var 201 (.ptr 90 [] 203)), (5, .var 3 (iv .i64 d)), (7, .var 45 (.fn (.func 197) [] [.ptr 3 [] 201, .ptr 5 [] 3]))]) (H := lgO c1) (H' := lgO (if b1 = true then c1 else (r9 300 60 (d + 1) c1 cs).2)) (v := bv (r9 300 60 (d + 1) c1 cs).1) (fun e => ?_) (fun e => ?_) ?_
   ·have e' : b1 = false := by simpa using e
    obtain ⟨r2, hr2, hA2⟩ := hC e'
    have := aX7 (lo := 0) (.fn (.func 198) [] [.ptr 3 [] 201, .ptr 5 [] 3, .ptr 7 [] 45]) (by rw [j3]; omega) hA2
    rw [hr2] at this
    simpa [e'] using this
   ·have e' : b1 = true := by simpa using e
    exact .cons rfl (by simp [e']) .nil
   refine Y79 ?_;refine Rqz ?_;exact VImp.refl _
end
section
variable {G : List (Nat × TypeId × Pu)}
abbrev grO (c : Int) : List (Nat × Ob) := [(91, .var 240 (.pu (.agg 240 [.leaf (.int .i64 c)])))]
theorem cg1 (p : Pat) (d c : Int) (hd : 0 ≤ d ∧ d ≤ 200) (h : HCall Tryz.prog G 231 [.ptr 91 [] 240, .pu (v7 0 p), iv .i64 (d + 1)] [] (grO c) (bv (n4 3000 200 (d + 1) c p).1) (grO (n4 3000 200 (d + 1) c p).2) []) :
  HCall Tryz.prog G 245 [.pu (v7 0 p), .ptr 3 [] 238, .ptr 5 [] 3] [(3, .var 238 (.ptr 91 [] 240)), (5, .var 3 (iv .i64 d))] (grO c) (bv (n4 3000 200 (d + 1) c p).1) (grO (n4 3000 200 (d + 1) c p).2) [] := by
 refine HCall.of_triD tbl 10 [91, 3, 5] Tryz.func245 rfl rfl rfl fun w0 M ρ0 D0 => ?_
 refine yR ?_;refine p7 SS 31 ?_;refine yB ?_;refine b8 [31] ?_;refine Y22 ?_;refine yL ?_;refine yI ?_;refine B7 (h) ?_;refine Y2 ?_;refine Rqz ?_;exact VImp.refl _
theorem cj7 : ∀ (N : Nat) (p : Pat), l9 p ≤ N → N < 2^40 → ∀ (d c : Int), 0 ≤ c ∧ c ≤ 3000 → 0 ≤ d ∧ d ≤ 200 + 1 →
  HCall Tryz.prog G 231 [.ptr 91 [] 240, .pu (v7 0 p), iv .i64 d] [] (grO c) (bv (n4 3000 200 d c p).1) (grO (n4 3000 200 d c p).2) [] := by
 intro N
 induction N with
 | zero => intro p h; cases p; simp [l9] at h
 | succ N ih =>
 intro p hp hN d c hc hd
 obtain ⟨k, n, r, ks⟩ := p
 simp only [l9] at hp
 have hlen := m4 ks
 have key : 0 ≤ d ∧ d ≤ 200 → c + 1 ≤ 3000 → ∃ r, r.isSome = (A2 3000 200 (d + 1) (c + 1) ks).1 ∧ AnyC Tryz.prog G 245 [] [.ptr 3 [] 238, .ptr 5 [] 3] [(3, .var 238 (.ptr 91 [] 240)), (5, .var 3 (iv .i64 d))] (u6 0 ks) (grO (c + 1)) r (grO (A2 3000 200 (d + 1) (c + 1) ks).2) := fun hd' hc' => by
  rw [al8, t9];refine AnyC.state (v7 0) (n4 3000 200 (d + 1)) grO (fun c => 0 ≤ c ∧ c ≤ 3000) (fun _ => rfl) ks (fun a ha c hc => ?_) (c + 1) ⟨by omega, hc'⟩
  have hb := aa9 (mn := 3000) (md := 200) a (d + 1) c hc.2
  exact ⟨cg1 a d c hd' (ih a (by have := aw3 ha; omega) (by omega) (d + 1) c hc (by omega)), fun e => ⟨by have := hb.1; omega, hb.2.2 e⟩⟩
 refine HCall.of_triD tbl 29 [91] Tryz.func231 rfl rfl rfl fun w0 M ρ0 D0 => ?_
 by_cases hcut : 3000 < c + 1 ∨ 200 < d
 ·have e : n4 3000 200 d c (.mk k n r ks) = (true, c + 1) := by simp only [n4, if_pos hcut]
  rw [e, ← b7 (n := c + 1) (by omega) (by omega)]
  have hb0 : (decide (IntKind.i64.wrap (c + 1) > 3000) || decide (d > 200)) = true := by rw [b7 (by omega) (by omega)]; simp; omega
  refine Y89 ?_;refine p7 SS 5 ?_;refine yB ?_;refine b8 [3, 4, 5] ?_;refine Y96 ?_;refine yY ?_;refine Y83 ?_;refine Y96 ?_;refine Y37 ?_;refine Y59 ?_;refine f7 zG (J7 SS) ?_;refine G0 zG (f := 120) (args := [.pu (.sl 0 104 (u6 0 ks)), .fn (.func 245) [] [.ptr 3 [] 238, .ptr 5 [] 3]]) (HR := []) (H := []) (H' := []) (v := bv false) (fun e => by simp [hb0] at e) (fun _ => .nil) ?_;refine Y79 ?_;refine Rqz ?_;exact m0 (by rw [hb0]; rfl)
 ·obtain ⟨r1, hr1, hA⟩ := key (by omega) (by omega)
  have e : n4 3000 200 d c (.mk k n r ks) = A2 3000 200 (d + 1) (c + 1) ks := by simp only [n4, if_neg hcut]
  have hb0 : (decide (IntKind.i64.wrap (c + 1) > 3000) || decide (d > 200)) = false := by rw [b7 (by omega) (by omega)]; simp; omega
  rw [e]
  generalize A2 3000 200 (d + 1) (c + 1) ks = q1 at hr1 hA ⊢
  obtain ⟨b1, c1⟩ := q1
  simp only at hr1 hA ⊢
  rw [← b7 (n := c + 1) (by omega) (by omega)] at hA
  refine Y89 ?_;refine p7 SS 5 ?_;refine yB ?_;refine b8 [3, 4, 5] ?_;refine Y96 ?_;refine yY ?_;refine Y83 ?_;refine Y96 ?_;refine Y37 ?_;refine Y59 ?_;refine f7 zG (J7 SS) ?_;refine G0 zG (f := 120) (args := [.pu (.sl 0 104 (u6 0 ks)), .fn (.func 245) [] [.ptr 3 [] 238, .ptr 5 [] 3]]) (HR := [(3, .var 238 (.ptr 91 [] 240)), (5, .var 3 (iv .i64 d))]) (H := grO (IntKind.i64.wrap (c + 1))) (H' := grO c1) (v := bv b1) (fun _ => hr1 ▸ aM6 (lo := 0) (.fn (.func 245) [] [.ptr 3 [] 238, .ptr 5 [] 3]) (by rw [f5]; omega) hA) (fun e => by simp [hb0] at e) ?_;refine Y79 ?_
  refine Rqz ?_;exact m0 (by rw [hb0]; rfl)
theorem bN9 (t : Tm) (d c : Int) (hd : 0 ≤ d ∧ d ≤ 200) (h : HCall Tryz.prog G 180 [.ptr 91 [] 240, .pu (tmc 0 t), iv .i64 (d + 1)] [] (grO c) (bv (m2 3000 200 (d + 1) c t).1) (grO (m2 3000 200 (d + 1) c t).2) []) :
  HCall Tryz.prog G 229 [.pu (tmc 0 t), .ptr 3 [] 238, .ptr 5 [] 3] [(3, .var 238 (.ptr 91 [] 240)), (5, .var 3 (iv .i64 d))] (grO c) (bv (m2 3000 200 (d + 1) c t).1) (grO (m2 3000 200 (d + 1) c t).2) [] := by
 refine HCall.of_triD tbl 10 [91, 3, 5] Tryz.func229 rfl rfl rfl fun w0 M ρ0 D0 => ?_
 refine yR ?_;refine p7 SS 31 ?_;refine yB ?_;refine b8 [31] ?_;refine Y22 ?_;refine yL ?_;refine yI ?_;refine B7 (h) ?_;refine Y2 ?_;refine Rqz ?_;exact VImp.refl _
theorem aR8 (mn md d c : Int) (p : Pat) (t : Tm) : G8 mn md d c (.mk p t) = ((n4 mn md d c p).1 || (m2 mn md d (n4 mn md d c p).2 t).1, if (n4 mn md d c p).1 then (n4 mn md d c p).2 else (m2 mn md d (n4 mn md d c p).2 t).2) := by
 simp only [G8]
 rcases n4 mn md d c p with ⟨b, c'⟩
 cases b <;> simp
theorem cg0 (p : Pat) (t : Tm) (d c : Int) (hd : 0 ≤ d ∧ d ≤ 200) (h : HCall Tryz.prog G 231 [.ptr 91 [] 240, .pu (v7 0 p), iv .i64 (d + 1)] [] (grO c) (bv (n4 3000 200 (d + 1) c p).1) (grO (n4 3000 200 (d + 1) c p).2) [])
  (h2 : (n4 3000 200 (d + 1) c p).1 = false → HCall Tryz.prog G 180 [.ptr 91 [] 240, .pu (tmc 0 t), iv .i64 (d + 1)] [] (grO (n4 3000 200 (d + 1) c p).2) (bv (m2 3000 200 (d + 1) (n4 3000 200 (d + 1) c p).2 t).1) (grO (m2 3000 200 (d + 1) (n4 3000 200 (d + 1) c p).2 t).2) []) :
  HCall Tryz.prog G 230 [.pu (J3 0 (.mk p t)), .ptr 3 [] 238, .ptr 5 [] 3, .ptr 7 [] 45] [(3, .var 238 (.ptr 91 [] 240)), (5, .var 3 (iv .i64 d)), (7, .var 45 (.fn (.func 229) [] [.ptr 3 [] 238, .ptr 5 [] 3]))] (grO c) (bv (G8 3000 200 (d + 1) c (.mk p t)).1) (grO (G8 3000 200 (d + 1) c (.mk p t)).2) [] := by
 have h2' := fun e => (bN9 t d _ hd (h2 e)).more (HR' := [(3, .var 238 (.ptr 91 [] 240)), (5, .var 3 (iv .i64 d)), (7, .var 45 (.fn (.func 229) [] [.ptr 3 [] 238, .ptr 5 [] 3]))]) (fun l ob hl => (SubH.cons rfl rfl (.cons rfl rfl .nil) : SubH [(3, .var 238 (.ptr 91 [] 240)), (5, .var 3 (iv .i64 d)), (7, .var 45 (.fn (.func 229) [] [.ptr 3 [] 238, .ptr 5 [] 3]))] [(3, .var 238 (.ptr 91 [] 240)), (5, .var 3 (iv .i64 d))]).le l ob hl) rfl
 rw [aR8]
 generalize hb1 : n4 3000 200 (d + 1) c p = r1 at h2' ⊢
 obtain ⟨b1, c1⟩ := r1
 simp only at h2' ⊢
 refine HCall.of_triD tbl 18 [91, 3, 5, 7] Tryz.func230 rfl rfl rfl fun w0 M ρ0 D0 => ?_
 rw [hb1] at h
 refine yR ?_;refine p7 SS 41 ?_;refine yB ?_;refine b8 [41] ?_;refine Y4 ?_;refine Y5 ?_;refine yL ?_;refine yI ?_;refine B7 (h) ?_;refine Y37 ?_;refine Y6 ?_;refine G0 zG (f := 229) (args := [.pu (tmc 0 t), .ptr 3 [] 238, .ptr 5 [] 3]) (HR := [(3, .var 238 (.ptr 91 [] 240)), (5, .var 3 (iv .i64 d)), (7, .var 45 (.fn (.func 229) [] [.ptr 3 [] 238, .ptr 5 [] 3]))]) (H := grO c1) (H' := grO (if b1 = true then c1 else (m2 3000 200 (d + 1) c1 t).2)) (v := bv (m2 3000 200 (d + 1) c1 t).1) (fun e => ?_) (fun e => ?_) ?_
 ·have e' : b1 = false := by simpa using e
  have := h2' e'
  simpa [e'] using this
 ·have e' : b1 = true := by simpa using e
  exact .cons rfl (by simp [e']) .nil
 refine Y79 ?_;refine Rqz ?_;exact VImp.refl _
theorem bD1 (d c k n : Int) (r : List Int) (ks : List Tm) (cs : List Cs) (h : ¬ (3000 < c + 1 ∨ 200 < d)) : m2 3000 200 d c (.mk k n r ks cs) = ((o6 3000 200 (d + 1) (c + 1) ks).1 || (r9 3000 200 (d + 1) (o6 3000 200 (d + 1) (c + 1) ks).2 cs).1, if (o6 3000 200 (d + 1) (c + 1) ks).1 then (o6 3000 200 (d + 1) (c + 1) ks).2 else (r9 3000 200 (d + 1) (o6 3000 200 (d + 1) (c + 1) ks).2 cs).2) := by
 simp only [m2, if_neg h]
 rcases o6 3000 200 (d + 1) (c + 1) ks with ⟨b, c'⟩
 cases b <;> simp
theorem cj6 : ∀ (N : Nat) (t : Tm), a8 t ≤ N → N < 2^40 → ∀ (d c : Int), 0 ≤ c ∧ c ≤ 3000 → 0 ≤ d ∧ d ≤ 200 + 1 →
  HCall Tryz.prog G 180 [.ptr 91 [] 240, .pu (tmc 0 t), iv .i64 d] [] (grO c) (bv (m2 3000 200 d c t).1) (grO (m2 3000 200 d c t).2) [] := by
 intro N
 induction N with
 | zero => intro t h; have := m8 t; omega
 | succ N ih =>
 intro t hp hN d c hc hd
 obtain ⟨k, n, r, ks, cs⟩ := t
 simp only [a8] at hp
 have hlen := f9 ks
 have hlenc := m5 cs
 have aB7 : 0 ≤ d ∧ d ≤ 200 → c + 1 ≤ 3000 → ∃ r, r.isSome = (o6 3000 200 (d + 1) (c + 1) ks).1 ∧ AnyC Tryz.prog G 229 [] [.ptr 3 [] 238, .ptr 5 [] 3] [(3, .var 238 (.ptr 91 [] 240)), (5, .var 3 (iv .i64 d))] (l8 0 ks) (grO (c + 1)) r (grO (o6 3000 200 (d + 1) (c + 1) ks).2) := fun hd' hc' => by
  rw [al6, l6];refine AnyC.state (tmc 0) (m2 3000 200 (d + 1)) grO (fun c => 0 ≤ c ∧ c ≤ 3000) (fun _ => rfl) ks (fun a ha c hc => ?_) (c + 1) ⟨by omega, hc'⟩
  have hb := al7 (mn := 3000) (md := 200) a (d + 1) c hc.2
  exact ⟨bN9 a d c hd' (ih a (by have := o8 ha; omega) (by omega) (d + 1) c hc (by omega)), fun e => ⟨by have := hb.1; omega, hb.2.2 e⟩⟩
 have keyC : 0 ≤ d ∧ d ≤ 200 → ∀ c1, 0 ≤ c1 ∧ c1 ≤ 3000 → ∃ r, r.isSome = (r9 3000 200 (d + 1) c1 cs).1 ∧ AnyC Tryz.prog G 230 [] [.ptr 3 [] 238, .ptr 5 [] 3, .ptr 7 [] 45] [(3, .var 238 (.ptr 91 [] 240)), (5, .var 3 (iv .i64 d)), (7, .var 45 (.fn (.func 229) [] [.ptr 3 [] 238, .ptr 5 [] 3]))] (z8 0 cs) (grO c1) r (grO (r9 3000 200 (d + 1) c1 cs).2) := fun hd' c1 hc1 => by
  rw [al9, A9];refine AnyC.state (J3 0) (G8 3000 200 (d + 1)) grO (fun c => 0 ≤ c ∧ c ≤ 3000) (fun _ => rfl) cs (fun a ha c hc => ?_) c1 hc1
  have hb := aD7 (mn := 3000) (md := 200) a (d + 1) c hc.2
  have hsz := B0 ha
  obtain ⟨q, b⟩ := a
  simp only [p9] at hsz
  have hp1 := aa9 (mn := 3000) (md := 200) q (d + 1) c hc.2
  have htp := m8 b
  exact ⟨cg0 q b d c hd' (cj7 _ q (Nat.le_refl _) (by omega) (d + 1) c hc (by omega)) (fun e => ih b (by omega) (by omega) (d + 1) _ ⟨by have := hp1.1; omega, hp1.2.2 e⟩ (by omega)), fun e => ⟨by have := hb.1; omega, hb.2.2 e⟩⟩
 refine HCall.of_triD tbl 37 [91] Tryz.func180 rfl rfl rfl fun w0 M ρ0 D0 => ?_
 by_cases hcut : 3000 < c + 1 ∨ 200 < d
 ·have e : m2 3000 200 d c (.mk k n r ks cs) = (true, c + 1) := by simp only [m2, if_pos hcut]
  rw [e, ← b7 (n := c + 1) (by omega) (by omega)]
  have hb0 : (decide (IntKind.i64.wrap (c + 1) > 3000) || decide (d > 200)) = true := by rw [b7 (by omega) (by omega)]; simp; omega
  refine Y89 ?_;refine p7 SS 5 ?_;refine yB ?_;refine b8 [3, 4, 5] ?_;refine Y96 ?_;refine yY ?_;refine Y83 ?_;refine Y38 ?_;refine b9 SS 7 ?_;refine yS ?_;refine b8 [7] ?_;refine Y96 ?_;refine Y37 ?_;refine Y59 ?_;refine xL ?_;refine G0 zG (f := 122) (args := [.pu (.sl 0 32 (l8 0 ks)), .fn (.func 229) [] [.ptr 3 [] 238, .ptr 5 [] 3]]) (HR := []) (H := []) (H' := []) (v := bv false) (fun e => by simp [hb0] at e) (fun _ => .nil) ?_;refine yO ?_;refine Y12 ?_;refine f7 zG (J7 SS) ?_
  refine G0 zG (f := 123) (args := [.pu (.sl 0 106 (z8 0 cs)), .fn (.func 230) [] [.ptr 3 [] 238, .ptr 5 [] 3, .ptr 7 [] 45]]) (HR := []) (H := []) (H' := []) (v := bv false) (fun e => by simp [hb0] at e) (fun _ => .nil) ?_;refine Y79 ?_;refine Rqz ?_;exact m0 (by rw [hb0]; rfl)
 ·obtain ⟨r1, hr1, hA⟩ := aB7 (by omega) (by omega)
  have hb1 := ai7 (mn := 3000) (md := 200) ks (d + 1) (c + 1) (by omega)
  have hb0 : (decide (IntKind.i64.wrap (c + 1) > 3000) || decide (d > 200)) = false := by rw [b7 (by omega) (by omega)]; simp; omega
  rw [bD1 d c k n r ks cs hcut]
  generalize o6 3000 200 (d + 1) (c + 1) ks = q1 at hr1 hA hb1 ⊢
  obtain ⟨b1, c1⟩ := q1
  obtain ⟨hb1, _, hb2⟩ := hb1
  simp only at hr1 hA hb1 hb2 ⊢
  rw [← b7 (n := c + 1) (by omega) (by omega)] at hA
  have hC : b1 = false → ∃ r2 : Option Nat, r2.isSome = (r9 3000 200 (d + 1) c1 cs).1 ∧ _ := fun e => keyC (by omega) c1 ⟨by omega, hb2 e⟩
  refine Y89 ?_;refine p7 SS 5 ?_;refine yB ?_;refine b8 [3, 4, 5] ?_;refine Y96 ?_;refine yY ?_;refine Y83 ?_;refine Y38 ?_;refine b9 SS 7 ?_;refine yS ?_;refine b8 [7] ?_;refine Y96 ?_;refine Y37 ?_;refine Y59 ?_;refine xL ?_;refine G0 zG (f := 122) (args := [.pu (.sl 0 32 (l8 0 ks)), .fn (.func 229) [] [.ptr 3 [] 238, .ptr 5 [] 3]]) (HR := [(3, .var 238 (.ptr 91 [] 240)), (5, .var 3 (iv .i64 d))]) (H := grO (IntKind.i64.wrap (c + 1))) (H' := grO c1) (v := bv b1) (fun _ => hr1 ▸ aE9 (lo := 0) (.fn (.func 229) [] [.ptr 3 [] 238, .ptr 5 [] 3]) (by rw [a9]; omega) hA) (fun e => by simp [hb0] at e) ?_
  refine yO ?_;refine Y12 ?_;refine f7 zG (J7 SS) ?_;refine G0 zG (f := 123) (args := [.pu (.sl 0 106 (z8 0 cs)), .fn (.func 230) [] [.ptr 3 [] 238, .ptr 5 [] 3, .ptr 7 [] 45]]) (HR := [(3, .var 238 (.ptr 91 [] 240)), (5, .var 3 (iv .i64 d)), (7, .var 45 (.fn (.func 229) [] [.ptr 3 [] 238, .ptr 5 [] 3]))]) (H := grO c1) (H' := grO (if b1 = true then c1 else (r9 3000 200 (d + 1) c1 cs).2)) (v := bv (r9 3000 200 (d + 1) c1 cs).1) (fun e => ?_) (fun e => ?_) ?_
  ·have e' : b1 = false := by rw [hb0] at e; simpa using e
   obtain ⟨r2, hr2, hA2⟩ := hC e'
   have := aX7 (lo := 0) (.fn (.func 230) [] [.ptr 3 [] 238, .ptr 5 [] 3, .ptr 7 [] 45]) (by rw [j3]; omega) hA2
   rw [hr2] at this
   simpa [e'] using this
  ·have e' : b1 = true := by rw [hb0] at e; simpa using e
   exact .cons rfl (by simp [e']) .nil
  refine Y79 ?_;refine Rqz ?_;exact m0 (by rw [hb0]; rfl)
end
section
variable {G : List (Nat × TypeId × Pu)}
def J0 (n lo hi : Int) : Bool := decide (n < lo) || decide (n > hi)
theorem X2 (n lo hi : Int) : FCall Tryz.prog G 235 [iv .i64 n, iv .i64 lo, iv .i64 hi] (bv (J0 n lo hi)) := by
 refine Fq 15 Tryz.func235 ?_;intro w0 M ρ0 D0
 refine Y21 ?_;refine Y62 ?_;refine ay7 ?_;refine Y79 ?_;refine Rq ?_;exact VImp.refl _
def E7 (k : Int) : Bool := k == 1 || k == 2 || k == 7 || k == 10 || k == 8 || k == 11
def G1 (k : Int) : Bool := k == 8 || k == 11 || k == 6 || k == 12
def A8 (k : Int) : Bool := k == 9
def flP (a b c : Bool) : Pu := .agg 278 [.leaf (.bool a), .leaf (.bool b), .leaf (.bool c)]
theorem aj1 {a b c a' b' c' : Bool} {P : Program} (h1 : a = a') (h2 : b = b') (h3 : c = c') : VImp P (.pu (flP a b c)) (.pu (flP a' b' c')) := by rw [h1, h2, h3]; exact VImp.refl _
instance (a b c : Bool) : TyV Tryz.prog 278 (.pu (flP a b c)) := inferInstanceAs (TyV Tryz.prog 278 (.pu (.agg _ _)))
theorem bO9 (k : Int) : FCall Tryz.prog G 237 [iv .i64 k] (.pu (flP (E7 k) (G1 k) (A8 k))) := by
 refine Fq 24 Tryz.func237 ?_;intro w0 M ρ0 D0
 refine yR ?_;refine b9 SS 2 ?_;refine b8 [2] ?_;refine yR ?_;refine b9 SS 3 ?_;refine b8 [3] ?_;refine Y1 ?_;refine Y0 ?_;refine Tri.block ?_;refine Y18 ?_;refine Tri.cutT ⟨[(2, .ptr 2 [] 278), (3, .ptr 3 [] 278), (4, iv .i64 k), (5, bv (k == 1 || k == 2 || k == 7 || k == 10))], [(2, .var 278 (.pu (flP false false false))), (3, .var 278 (.pu (flP false false false)))]⟩ ?_ ?_
 ·skip
  refine tQ ?_;refine Cq ?_ ?_
  ·intro h0
   refine Tri.skip ?_;refine i9 ?_ ?_
   ·exact zk0
   ·exact zk1
  ·intro h0
   refine Y18 ?_;refine Cq ?_ ?_
   ·intro h1
    refine Tri.skip ?_;refine i9 ?_ ?_
    ·exact zk0
    ·exact zk1
   ·intro h1
    refine Y18 ?_;refine Cq ?_ ?_
    ·intro h2
     refine Tri.skip ?_;refine i9 ?_ ?_
     ·exact zk0
     ·exact zk1
    ·intro h2
     refine Y9 ?_;refine Y8 ?_;refine i9 ?_ ?_
     ·exact zk0
     ·exact zk1
 ·skip
  refine tQ ?_;refine Cq ?_ ?_
  ·intro h3
   refine yR ?_;refine b5 (an0 SS) ?_;refine Y16 ?_;refine aq6 ?_;refine Rc ?_;exact aj1 (by simp_all [E7]; try omega) (by simp_all [G1]; try omega) (by simp_all [A8]; try omega)
  ·intro h3
   refine Y18 ?_;refine Tri.cutT ⟨[(2, .ptr 2 [] 278), (3, .ptr 3 [] 278), (4, iv .i64 k), (11, bv (k == 8 || k == 11))], [(2, .var 278 (.pu (flP false false false))), (3, .var 278 (.pu (flP false false false)))]⟩ ?_ ?_
   ·skip
    refine tQ ?_;refine Cq ?_ ?_
    ·intro h4
     refine Tri.skip ?_;refine i9 ?_ ?_
     ·exact zk0
     ·exact zk1
    ·intro h4
     refine Y9 ?_;refine Y8 ?_;refine i9 ?_ ?_
     ·exact zk0
     ·exact zk1
   ·skip
    refine tQ ?_;refine Cq ?_ ?_
    ·intro h5
     refine yR ?_;refine b5 (an0 SS) ?_;refine yS ?_;refine b5 (an0 SS) ?_;refine Y16 ?_;refine aq6 ?_;refine Rc ?_;exact aj1 (by simp_all [E7]; try omega) (by simp_all [G1]; try omega) (by simp_all [A8]; try omega)
    ·intro h5
     refine Y18 ?_;refine Tri.cutT ⟨[(2, .ptr 2 [] 278), (3, .ptr 3 [] 278), (4, iv .i64 k), (16, bv (k == 6 || k == 12))], [(2, .var 278 (.pu (flP false false false))), (3, .var 278 (.pu (flP false false false)))]⟩ ?_ ?_
     ·skip
      refine tQ ?_;refine Cq ?_ ?_
      ·intro h6
       refine Tri.skip ?_;refine i9 ?_ ?_
       ·exact zk0
       ·exact zk1
      ·intro h6
       refine Y9 ?_;refine Y8 ?_;refine i9 ?_ ?_
       ·exact zk0
       ·exact zk1
     ·skip
      refine tQ ?_;refine Cq ?_ ?_
      ·intro h7
       refine yR ?_;refine b5 (an0 SS) ?_;refine Y16 ?_;refine aq6 ?_;refine Rc ?_;exact aj1 (by simp_all [E7]; try omega) (by simp_all [G1]; try omega) (by simp_all [A8]; try omega)
      ·intro h7
       refine Y18 ?_;refine Cq ?_ ?_
       ·intro h8
        refine yR ?_;refine b5 (an0 SS) ?_;refine Y16 ?_;refine aq6 ?_;refine Rc ?_;exact aj1 (by simp_all [E7]; try omega) (by simp_all [G1]; try omega) (by simp_all [A8]; try omega)
       ·intro h8
        refine Y72 ?_;refine Y23 ?_;refine Rc ?_;exact aj1 (by simp_all [E7]; try omega) (by simp_all [G1]; try omega) (by simp_all [A8]; try omega)
end
section
variable {G : List (Nat × TypeId × Pu)}
theorem aB6 (k : Int) : FCall Tryz.prog G 247 [iv .i64 k] (.pu (flP (k == 2 || k == 3) (k == 3) false)) := by
 refine Fq 11 Tryz.func247 ?_;intro w0 M ρ0 D0
 refine yR ?_;refine b9 SS 2 ?_;refine b8 [2] ?_;refine Y1 ?_;refine Y0 ?_;refine Tri.block ?_;refine Y18 ?_;refine Cq ?_ ?_
 ·intro h0
  refine yR ?_;refine Y75 ?_;refine Rc ?_;exact aj1 (by simp_all) (by simp_all) rfl
 ·intro h0
  refine Y18 ?_;refine Cq ?_ ?_
  ·intro h1
   refine yR ?_;refine Y75 ?_;refine Rc ?_;exact aj1 (by simp_all) (by simp_all) rfl
  ·intro h1
   refine Tri.skip ?_;refine Y51 ?_;refine Y23 ?_;refine Rc ?_;exact aj1 (by simp_all) (by simp_all) rfl
def y7 (k n : Int) : Bool := if k == 3 || k == 9 || k == 11 then n == 1 else if k == 4 || k == 5 || k == 10 then n == 2 else if k == 8 then decide (n ≤ 4) else if k == 12 then !J0 n 2 10 else n == 0
theorem cf9 (k n : Int) : FCall Tryz.prog G 238 [iv .i64 k, iv .i64 n] (bv (y7 k n)) := by
 refine Fq 29 Tryz.func238 ?_;intro w0 M ρ0 D0
 refine Y71 ?_;refine Y0 ?_;refine Tri.block ?_;refine Y18 ?_;refine Tri.cutT ⟨[(1, iv .i64 n), (5, iv .i64 k), (6, bv (k == 3 || k == 9 || k == 11))], []⟩ ?_ ?_
 ·skip
  refine tQ ?_;refine Cq ?_ ?_
  ·intro h0
   refine Tri.skip ?_;refine i9 ?_ ?_
   ·exact zk0
   ·exact zk1
  ·intro h0
   refine Y18 ?_;refine Cq ?_ ?_
   ·intro h1
    refine Tri.skip ?_;refine i9 ?_ ?_
    ·exact zk0
    ·exact zk1
   ·intro h1
    refine Y9 ?_;refine Y8 ?_;refine i9 ?_ ?_
    ·exact zk0
    ·exact zk1
 ·skip
  refine tQ ?_;refine Cq ?_ ?_
  ·intro h2
   refine Y76 ?_;refine Rq ?_;exact m0 (by simp_all [y7])
  ·intro h2
   refine Y18 ?_;refine Tri.cutT ⟨[(1, iv .i64 n), (5, iv .i64 k), (12, bv (k == 4 || k == 5 || k == 10))], []⟩ ?_ ?_
   ·skip
    refine tQ ?_;refine Cq ?_ ?_
    ·intro h3
     refine Tri.skip ?_;refine i9 ?_ ?_
     ·exact zk0
     ·exact zk1
    ·intro h3
     refine Y18 ?_;refine Cq ?_ ?_
     ·intro h4
      refine Tri.skip ?_;refine i9 ?_ ?_
      ·exact zk0
      ·exact zk1
     ·intro h4
      refine Y9 ?_;refine Y8 ?_;refine i9 ?_ ?_
      ·exact zk0
      ·exact zk1
   ·skip
    refine tQ ?_;refine Cq ?_ ?_
    ·intro h5
     refine Y76 ?_;refine Rq ?_;exact m0 (by simp_all [y7])
    ·intro h5
     refine Y18 ?_;refine Cq ?_ ?_
     ·intro h6
      refine Y76 ?_;refine Rq ?_;exact m0 (by simp_all [y7])
     ·intro h6
      refine Y18 ?_;refine Cq ?_ ?_
      ·intro h7
       refine Y1 ?_;refine Dq (X2 n 2 10) ?_;refine yQ ?_;refine Y2 ?_;refine Rq ?_;exact m0 (by simp_all [y7])
      ·intro h7
       refine Tri.skip ?_;refine Y76 ?_;refine Rq ?_;exact m0 (by simp_all [y7])
def E5 (a b c : Bool) (num : Int) (ref : List Int) (cases : Int) : Bool := (num != 0 && !a) || (!(ref == Z32) && !b) || (decide (cases > 0) && !c)
theorem bD3 (a b c a' b' c' : Bool) : Tryz.prog.eqGuardType Tryz.prog.depth 278 = false ∧ 278 < Tryz.prog.types.size ∧ tyP Tryz.prog 278 (flP a b c) = true ∧ tyP Tryz.prog 278 (flP a' b' c') = true :=
 ⟨by kernel_rfl, of_decide_eq_true (by kernel_rfl), (show tyV Tryz.prog 278 (.pu (flP a b c)) = true from TyV.ok), (show tyV Tryz.prog 278 (.pu (flP a' b' c')) = true from TyV.ok)⟩
theorem bL7 (d : Nat) (a b c a' b' c' : Bool) : peqT Tryz.prog (d + 2) 278 (flP a b c) (flP a' b' c') = some ((a == a') && ((b == b') && ((c == c') && true))) := by
 have hu : Tryz.prog.underlying 278 = some (.array 3 4) := by kernel_rfl
 have hb : Tryz.prog.underlying 4 = some .bool := by kernel_rfl
 unfold flP
 simp only [peqT, hu, aN6, hb]
theorem bY9 (a b c a' b' c' : Bool) : M2 Tryz.prog .neq 278 (.pu (flP a b c)) (.pu (flP a' b' c')) = some (bv (!((a == a') && ((b == b') && ((c == c') && true))))) := by
 have h1 := bD3 a b c a' b' c'
 have h2 := fun e => bL7 e a b c a' b' c'
 unfold flP at h1 h2 ⊢
 simp only [M2, if_pos h1]
 generalize hd : (100 : Nat) = d
 obtain ⟨e, rfl⟩ : ∃ e, d = e + 2 := ⟨98, by omega⟩
 rw [h2 e]
theorem bw9 (a b c : Bool) (num : Int) (ref : List Int) (cases : Int) : FCall Tryz.prog G 236 [.pu (flP a b c), iv .i64 num, .pu (l4 ref), iv .i64 cases] (bv (E5 a b c num ref cases)) := by
 refine Fq 38 Tryz.func236 ?_;intro w0 M ρ0 D0
 refine Tri.fact (i := 2) rfl (fun D w x h => R3 h) (fun hr => ?_);refine yR ?_;refine p7 SS 4 ?_;refine p7 SS 6 ?_;refine yB ?_;refine b8 [4, 6] ?_;refine Y11 ?_;refine yL ?_;refine yT ?_;refine b5 (D4 SS (h := ag4 (by rw [hr]; rfl))) ?_;refine yM ?_;refine yI ?_;refine yP ?_;refine ay6 ?_;refine b8 [9] ?_;refine Y4 ?_;refine b9 SS 10 ?_;refine yS ?_;refine b8 [10] ?_;refine yR ?_;refine Y34 ?_
 refine Tri.block (Tri.loopW (σ := Nat) (fun i => ⟨[(4, .ptr 4 [] 278), (9, .ptr 9 [] 278), (10, .ptr 10 [] 278), (21, iv .i64 i)], [(4, .var 278 (.pu (flP a b c))), (9, .var 278 (.pu (flP (num != 0) (!(ref == Z32)) (decide (cases > 0))))), (10, .var 278 (.pu (flP (if 0 < i then num != 0 && a else num != 0) (if 1 < i then !(ref == Z32) && b else !(ref == Z32)) (if 2 < i then decide (cases > 0) && c else decide (cases > 0)))))]⟩) (fun i => 3 - i) 0 ?_ ?_ (fun i => ?_))
 ·exact zW
 ·exact zW
 refine Y41 ?_;refine Cq ?_ ?_
 ·intro h0
  have hi : i < 3 := by have := of_decide_eq_true h0; omega
  obtain ⟨j, hj⟩ : ∃ j, j = i + 1 := ⟨_, rfl⟩
  obtain rfl | rfl | rfl : i = 0 ∨ i = 1 ∨ i = 2 := by omega
  all_goals
   refine Y20 ?_;refine Y95 ?_;refine Y17 ?_;refine b5 (an0 SS) ?_;refine yL ?_;refine Y69 ?_;refine f7 zG (an0 SS) ?_;refine xL ?_;refine yN ?_;refine b5 (an0 SS) ?_;refine Y16 ?_;refine Y33 ?_
   refine ⟨j, by omega, i9 ?_ ?_⟩
   ·repeat (first | exact SubE.nil | refine SubE.cons rfl (by first | rfl | (rw [b7 (by omega) (by omega)]; rfl) | (subst hj; rfl)) ?_)
   ·repeat (first | exact SubH.nil | refine SubH.cons rfl (by first | rfl | (rw [b7 (by omega) (by omega)]; rfl) | (subst hj; rfl)) ?_)
 ·intro h0
  have hi : 3 ≤ i := by have := of_decide_eq_false h0; omega
  refine Tri.exit ?_;refine Y22 ?_;refine b5 (D4 SS (h := bY9 _ _ _ _ _ _)) ?_;refine Y2 ?_;refine Rq ?_;exact m0 (by rw [if_pos (by omega), if_pos (by omega), if_pos (by omega)]; unfold E5; generalize (num != 0) = p; generalize (ref == Z32) = q; generalize decide (cases > 0) = s; cases p <;> cases q <;> cases s <;> cases a <;> cases b <;> cases c <;> rfl)
def B9 (k num : Int) (ref : List Int) (n : Int) : Int :=
 if J0 k 1 3 then 3 else if E5 (k == 2 || k == 3) (k == 3) false num ref 0 then 7 else if decide (n > (if k == 3 then 4 else 0)) then 2
 else if (k == 2 && J0 num 0 1073741824) || (k == 3 && J0 num 0 7) then 3 else 0
theorem aJ7 (k n : Int) (r : List Int) (ks : List Pat) : FCall Tryz.prog G 239 [.pu (v7 0 (.mk k n r ks))] (iv .i64 (B9 k n r ks.length)) := by
 refine Fq 43 Tryz.func239 ?_;intro w0 M ρ0 D0
 refine Y85 ?_;refine Y21 ?_;refine Y24 ?_;refine Y0 ?_;refine Tri.cutT ⟨[(1, .ptr 1 [] 104), (3, iv .i64 (if k == 3 then 4 else 0))], [(1, .var 104 (.pu (v7 0 (.mk k n r ks))))]⟩ ?_ ?_
 ·skip
  refine tQ ?_;refine Cq ?_ ?_
  ·intro h0
   refine Y21 ?_;refine i9 ?_ ?_
   ·repeat (first | exact SubE.nil | refine SubE.cons rfl (by first | rfl | (rw [b7 (by omega) (by omega)]; rfl) | (rw [h0]; rfl)) ?_)
   ·repeat (first | exact SubH.nil | refine SubH.cons rfl (by first | rfl | (rw [b7 (by omega) (by omega)]; rfl) | (rw [h0]; rfl)) ?_)
  ·intro h0
   refine Tri.skip ?_;refine i9 ?_ ?_
   ·repeat (first | exact SubE.nil | refine SubE.cons rfl (by first | rfl | (rw [b7 (by omega) (by omega)]; rfl) | (rw [h0]; rfl)) ?_)
   ·repeat (first | exact SubH.nil | refine SubH.cons rfl (by first | rfl | (rw [b7 (by omega) (by omega)]; rfl) | (rw [h0]; rfl)) ?_)
 ·skip
  refine Y84 ?_;refine Y13 ?_;refine Dq (X2 k 1 3) ?_;refine Y2 ?_;refine Cq ?_ ?_
  ·intro h1
   refine Y10 ?_;refine Rq ?_;exact c7 (by (try rw [f5] at h3); unfold B9; (repeat' split) <;> simp_all <;> omega)
  ·intro h1
   refine Y13 ?_;refine Dq (aB6 k) ?_;refine Y70 ?_;refine Dq (bw9 (k == 2 || k == 3) (k == 3) false n r 0) ?_;refine yA ?_;refine Y42 ?_;refine Cq ?_ ?_
   ·intro h2
    refine Y10 ?_;refine Rq ?_;exact c7 (by (try rw [f5] at h3); unfold B9; (repeat' split) <;> simp_all <;> omega)
   ·intro h2
    refine Y14 ?_;refine yC ?_;refine yM ?_;refine yI ?_;refine Y2 ?_;refine Cq ?_ ?_
    ·intro h3
     refine Y10 ?_;refine Rq ?_;exact c7 (by (try rw [f5] at h3); unfold B9; (repeat' split) <;> simp_all <;> omega)
    ·intro h3
     refine Y55 ?_;refine f7 zG (c8 (fun _ => X2 n 0 1073741824)) ?_;refine Y44 ?_;refine Cq ?_ ?_
     ·intro h4
      refine Y15 ?_;refine Cq ?_ ?_
      ·intro h5
       refine Y10 ?_;refine Rq ?_;exact c7 (by (try rw [f5] at h3); unfold B9; (repeat' split) <;> simp_all <;> omega)
      ·intro h5
       refine Y45 ?_;refine Rq ?_;exact c7 (by (try rw [f5] at h3); unfold B9; (repeat' split) <;> simp_all <;> omega)
     ·intro h4
      refine Y55 ?_;refine f7 zG (c8 (fun _ => X2 n 0 7)) ?_;refine Y44 ?_;refine Cq ?_ ?_
      ·intro h5
       refine Y10 ?_;refine Rq ?_;exact c7 (by (try rw [f5] at h3); unfold B9; (repeat' split) <;> simp_all <;> omega)
      ·intro h5
       refine Y45 ?_;refine Rq ?_;exact c7 (by (try rw [f5] at h3); unfold B9; (repeat' split) <;> simp_all <;> omega)
end
section
variable {G : List (Nat × TypeId × Pu)}
def m6 {α : Type} (f : α → Int) : List α → Int
 | [] => 0
 | a :: l => if f a = 0 then m6 f l else f a
theorem t7 {α : Type} (f : α → Int) : ∀ {l : List α} {i : Nat} (h : i < l.length), m6 f (l.take (i + 1)) = if m6 f (l.take i) = 0 then f l[i] else m6 f (l.take i)
 | a :: l, 0, _ => by
  simp only [List.take_zero, List.take_succ_cons, m6, List.getElem_cons_zero, if_true]
  split <;> simp_all
 | a :: l, i + 1, h => by
  have ih := t7 f (l := l) (i := i) (by simpa using h)
  simp only [List.take_succ_cons, m6, List.getElem_cons_succ]
  split
  ·exact ih
  ·rfl
theorem H7 {α : Type} (f : α → Int) : ∀ {l : List α} {i : Nat}, m6 f (l.take i) ≠ 0 → m6 f l = m6 f (l.take i)
 | [], i, h => by simp [m6] at h
 | a :: l, 0, h => by simp [m6] at h
 | a :: l, i + 1, h => by
  simp only [List.take_succ_cons, m6] at h ⊢
  split
  ·rename_i h0
   rw [if_pos h0] at h
   exact H7 f h
  ·rfl
mutual
def A4 : Pat → Int
 | .mk k n r ks => if B9 k n r ks.length = 0 then aQ6 ks else B9 k n r ks.length
def aQ6 : List Pat → Int
 | [] => 0
 | p :: ps => if A4 p = 0 then aQ6 ps else A4 p
end
theorem aJ5 : ∀ ks, aQ6 ks = m6 A4 ks
 | [] => rfl
 | p :: ps => by simp only [aQ6, m6, aJ5 ps]
theorem wk0 (x : Int) (ks : List Pat) : Wk (iv .i64 x) (iv .i64 (if x = 0 then m6 A4 (ks.take 0) else x)) := by
 have e : (if x = 0 then m6 A4 (ks.take 0) else x) = x := by split <;> simp_all [m6]
 rw [e];exact .refl
theorem aB5 : ∀ (N : Nat) (p : Pat), l9 p ≤ N → N < 2^40 → FCall Tryz.prog G 201 [.pu (v7 0 p)] (iv .i64 (A4 p)) := by
 intro N
 induction N with
 | zero => intro p h; cases p; simp [l9] at h
 | succ N ih =>
 intro p hp hN
 obtain ⟨k, n, r, ks⟩ := p
 simp only [l9] at hp
 have hlen := m4 ks
 refine Fq 25 Tryz.func201 ?_;intro w0 M ρ0 D0
 refine Y85 ?_;refine Y4 ?_;refine Dq (aJ7 k n r ks) ?_;refine Y8 ?_;refine Y10 ?_;refine Tri.block (Tri.loopW (σ := Nat) (fun i => ⟨[(1, .ptr 1 [] 104), (4, iv .i64 i), (3, iv .i64 (if B9 k n r ks.length = 0 then m6 A4 (ks.take i) else B9 k n r ks.length))], [(1, .var 104 (.pu (v7 0 (.mk k n r ks))))]⟩) (fun i => ks.length - i) 0 ?_ ?_ (fun i => ?_))
 ·repeat (first | exact .nil | refine .cons rfl (by first | exact .refl | (focus ((repeat constructor); done)) | (exact wk0 _ _)) ?_)
 ·repeat (first | exact .nil | refine .cons rfl (by first | exact .refl | (focus ((repeat constructor); done)) | (exact wk0 _ _)) ?_)
 refine Y50 ?_;refine Y26 ?_;refine Y35 ?_;refine Y97 ?_;refine Cq ?_ ?_
 ·intro h0
  simp only [Bool.and_eq_true, decide_eq_true_eq, beq_iff_eq] at h0
  obtain ⟨h0, he⟩ := h0
  have hi : i < ks.length := by rw [f5] at h0; omega
  have he0 : B9 k n r ks.length = 0 := by split at he <;> simp_all
  rw [if_pos he0] at he
  refine Y90 ?_;refine b5 (g9 SS (h0 := by omega) (hp := D9 hi)) ?_;refine yL ?_;refine Dq (ih ks[i] (by have := q9 hi; omega) (by omega)) ?_;refine Y8 ?_;refine Y40 ?_
  refine ⟨i + 1, by omega, i9 ?_ ?_⟩
  ·repeat (first | exact SubE.nil | refine SubE.cons rfl (by first | rfl | (rw [b7 (by omega) (by omega)]; rfl) | (rw [if_pos he0, t7 A4 hi, if_pos he])) ?_)
  ·repeat (first | exact SubH.nil | refine SubH.cons rfl (by first | rfl | (rw [b7 (by omega) (by omega)]; rfl) | (rw [if_pos he0, t7 A4 hi, if_pos he])) ?_)
 ·intro h0
  have hfin : (if B9 k n r ks.length = 0 then m6 A4 (ks.take i) else B9 k n r ks.length) = A4 (.mk k n r ks) := by
   simp only [A4, aJ5]
   split
   ·rename_i he0
    by_cases hz : m6 A4 (ks.take i) = 0
    ·rw [he0, if_pos rfl, hz] at h0
     simp only [f5] at h0
     rw [List.take_of_length_le (by simp at h0; omega)]
    ·rw [H7 A4 hz]
   ·rfl
  refine Tri.exit ?_;refine Y88 ?_;refine Rq ?_;exact c7 hfin
end
section
variable {G : List (Nat × TypeId × Pu)}
theorem ba0 : ∀ (N : Nat) (p : Pat), l9 p ≤ N → N < 2^40 → FCall Tryz.prog G 193 [.pu (v7 0 p)] (iv .i64 (m7 p)) := by
 intro N
 induction N with
 | zero => intro p h; cases p; simp [l9] at h
 | succ N ih =>
 intro p hp hN
 obtain ⟨k, n, r, ks⟩ := p
 simp only [l9] at hp
 have hlen := m4 ks
 refine Fq 22 Tryz.func193 ?_;intro w0 M ρ0 D0
 refine Y85 ?_;refine Y24 ?_;refine Y0 ?_;refine Cq ?_ ?_
 ·intro h0
  refine Y10 ?_;refine Rq ?_;exact c7 (by simp_all [m7])
 ·intro h0
  refine Tri.skip ?_;refine Y21 ?_;refine ay8 ?_;refine Tri.block (Tri.loopW (σ := Nat) (fun i => ⟨[(10, .pu (.sl 0 104 (u6 0 ks))), (11, iv .i64 (u6 0 ks).length), (12, iv .i64 i), (3, iv .i64 (J5 (ks.take i)))], []⟩) (fun i => ks.length - i) 0 ?_ ?_ (fun i => ?_))
  ·exact zW
  ·exact zW
  refine Y41 ?_;refine Cq ?_ ?_
  ·intro h1
   have hi : i < ks.length := by simpa [t9] using h1
   have h1' := P4 (ks.take i)
   have h2 := y5 ks[i]
   have h3 := S0 (ks := ks) (i := i)
   have h4 := q9 hi
   refine Y86 ?_;refine b5 (g9 SS (h0 := by omega) (hp := D9 hi)) ?_;refine yL ?_;refine aC5 ?_;refine Y1 ?_;refine yL ?_;refine Dq (ih ks[i] (by omega) (by omega)) ?_;refine yI ?_;refine Y8 ?_;refine Y33 ?_
   refine ⟨i + 1, by omega, i9 ?_ ?_⟩
   ·repeat (first | exact SubE.nil | refine SubE.cons rfl (by first | rfl | (rw [b7 (by omega) (by omega)]; rfl) | (rw [J4 hi, b7 (by omega) (by omega)])) ?_)
   ·repeat (first | exact SubH.nil | refine SubH.cons rfl (by first | rfl | (rw [b7 (by omega) (by omega)]; rfl) | (rw [J4 hi, b7 (by omega) (by omega)])) ?_)
  ·intro h1
   have hi : ks.length ≤ i := by simpa [t9] using h1
   rw [List.take_of_length_le hi];refine Tri.exit ?_;refine Y88 ?_;refine Rq ?_;exact c7 (by simp_all [m7])
def S8 (depth n bound : Int) : Bool := decide (n ≥ 0) && (decide (n < bound) || decide (IntKind.wrap .i64 (n - bound) < depth))
abbrev dpO (depth : Int) : List (Nat × Ob) := [(901, .var 3 (iv .i64 depth))]
theorem bu6 (depth n bound : Int) : HCall Tryz.prog G 135 [iv .i64 n, iv .i64 bound, .ptr 901 [] 3] (dpO depth) [] (bv (S8 depth n bound)) [] [] := by
 refine HCall.of_triD tbl 20 [] Tryz.func135 rfl rfl rfl fun w0 M ρ0 D0 => ?_
 refine Y21 ?_;refine Y11 ?_;refine ay7 ?_;refine xM ?_;refine xM ?_;refine Y19 ?_;refine xL ?_;refine xI ?_;refine xO ?_;refine Y44 ?_;refine Rqz ?_;exact m0 (by simp only [S8])
abbrev chV (members : Int) : PV := .agg 206 [iv .i64 members, .fn (.func 135) [] [.ptr 901 [] 3]]
def f8 (members depth bound k n : Int) (r : List Int) (nk nc : Int) : Int :=
 if J0 k 1 12 then 3 else if E5 (E7 k) (G1 k) (A8 k) n r nc then 7 else if !y7 k nk || decide (nc > 8) then 2
 else if k == 10 && J0 n 1 5 then 3
 else if k == 1 && !S8 depth n bound then 1
 else if k == 7 && (decide (n < 0) || decide (n ≥ members)) then 1
 else if (k == 2 || k == 8 || k == 11) && J0 n 0 (if k == 8 || k == 11 then 7 else 1073741824) then 3 else 0
set_option maxHeartbeats 2000000 in
theorem bP7 (members depth bound : Int) (k n : Int) (r : List Int) (ks : List Tm) (cs : List Cs) :
  HCall Tryz.prog G 200 [chV members, .pu (tmc 0 (.mk k n r ks cs)), iv .i64 bound] (dpO depth) [] (iv .i64 (f8 members depth bound k n r (l8 0 ks).length (z8 0 cs).length)) [] [] := by
 refine HCall.of_triD tbl 88 [] Tryz.func200 rfl rfl rfl fun w0 M ρ0 D0 => ?_
 refine Y89 ?_;refine yB ?_;refine b8 [3, 4] ?_;refine Y84 ?_;refine Y13 ?_;refine Dq (X2 k 1 12) ?_;refine Y2 ?_;refine Cq ?_ ?_
 ·intro h0
  refine Y10 ?_;refine Rqz ?_;exact c7 (by first | (simp only [f8, *, Bool.false_eq_true, Bool.true_and, Bool.false_and, Bool.or_false, Bool.or_true, Bool.true_or, Bool.false_or, if_false, if_true]; done) | (exfalso; simp_all; done) | (unfold f8; (repeat' split) <;> simp_all <;> omega))
 ·intro h0
  refine Y13 ?_;refine Dq (bO9 k) ?_;refine Y70 ?_;refine Y7 ?_;refine yC ?_;refine Dq (bw9 (E7 k) (G1 k) (A8 k) n r ((z8 0 cs).length : Int)) ?_;refine yA ?_;refine Y42 ?_;refine Cq ?_ ?_
  ·intro h1
   refine Y10 ?_;refine Rqz ?_;exact c7 (by first | (simp only [f8, *, Bool.false_eq_true, Bool.true_and, Bool.false_and, Bool.or_false, Bool.or_true, Bool.true_or, Bool.false_or, if_false, if_true]; done) | (exfalso; simp_all; done) | (unfold f8; (repeat' split) <;> simp_all <;> omega))
  ·intro h1
   refine Y13 ?_;refine Y7 ?_;refine yC ?_;refine Dq (cf9 k ((l8 0 ks).length : Int)) ?_;refine yQ ?_;refine Y12 ?_;refine xC ?_;refine Y29 ?_;refine Y2 ?_;refine Cq ?_ ?_
   ·intro h2
    refine Y10 ?_;refine Rqz ?_;exact c7 (by first | (simp only [f8, *, Bool.false_eq_true, Bool.true_and, Bool.false_and, Bool.or_false, Bool.or_true, Bool.true_or, Bool.false_or, if_false, if_true]; done) | (exfalso; simp_all; done) | (unfold f8; (repeat' split) <;> simp_all <;> omega))
   ·intro h2
    refine Tri.skip ?_;refine Y21 ?_;refine Y13 ?_;refine Y0 ?_;refine Tri.block ?_;refine Y18 ?_;refine Cq ?_ ?_
    ·intro h3
     refine Y13 ?_;refine Dq (X2 n 1 5) ?_;refine Y0 ?_;refine Cq ?_ ?_
     ·intro h4
      refine Y10 ?_;refine Rqz ?_;exact c7 (by first | (simp only [f8, *, Bool.false_eq_true, Bool.true_and, Bool.false_and, Bool.or_false, Bool.or_true, Bool.true_or, Bool.false_or, if_false, if_true]; done) | (exfalso; simp_all; done) | (unfold f8; (repeat' split) <;> simp_all <;> omega))
     ·intro h4
      refine Tri.skip ?_;refine Y55 ?_;refine Y59 ?_;refine Y59 ?_;refine xM ?_;refine f7 zG (c8 (fun _ => X2 n 0 _)) ?_;refine Y97 ?_;refine Cq ?_ ?_
      ·intro h11
       refine Y10 ?_;refine Rqz ?_;exact c7 (by first | (simp only [f8, *, Bool.false_eq_true, Bool.true_and, Bool.false_and, Bool.or_false, Bool.or_true, Bool.true_or, Bool.false_or, if_false, if_true]; done) | (exfalso; simp_all; done) | (unfold f8; (repeat' split) <;> simp_all <;> omega))
      ·intro h11
       refine Y45 ?_;refine Rqz ?_;exact c7 (by first | (simp only [f8, *, Bool.false_eq_true, Bool.true_and, Bool.false_and, Bool.or_false, Bool.or_true, Bool.true_or, Bool.false_or, if_false, if_true]; done) | (exfalso; simp_all; done) | (unfold f8; (repeat' split) <;> simp_all <;> omega))
    ·intro h3
     refine Y18 ?_;refine Cq ?_ ?_
     ·intro h5
      refine Y15 ?_;refine Cq ?_ ?_
      ·intro h6
       refine Y21 ?_;refine Y55 ?_;refine Y59 ?_;refine Y59 ?_;refine xM ?_;refine f7 zG (c8 (fun _ => X2 n 0 _)) ?_;refine Y97 ?_;refine Cq ?_ ?_
       ·intro h11
        refine Y10 ?_;refine Rqz ?_;exact c7 (by first | (simp only [f8, *, Bool.false_eq_true, Bool.true_and, Bool.false_and, Bool.or_false, Bool.or_true, Bool.true_or, Bool.false_or, if_false, if_true]; done) | (exfalso; simp_all; done) | (unfold f8; (repeat' split) <;> simp_all <;> omega))
       ·intro h11
        refine Y45 ?_;refine Rqz ?_;exact c7 (by first | (simp only [f8, *, Bool.false_eq_true, Bool.true_and, Bool.false_and, Bool.or_false, Bool.or_true, Bool.true_or, Bool.false_or, if_false, if_true]; done) | (exfalso; simp_all; done) | (unfold f8; (repeat' split) <;> simp_all <;> omega))
      ·intro h6
       refine Y18 ?_;refine Cq ?_ ?_
       ·intro h7
        refine Y13 ?_;refine Y5 ?_;refine yM ?_;refine b5 (p6 (fun _ => bu6 depth n bound)) ?_;refine Y98 ?_;refine Cq ?_ ?_
        ·intro h8
         refine Y10 ?_;refine Rqz ?_;exact c7 (by first | (simp only [f8, *, Bool.false_eq_true, Bool.true_and, Bool.false_and, Bool.or_false, Bool.or_true, Bool.true_or, Bool.false_or, if_false, if_true]; done) | (exfalso; simp_all; done) | (unfold f8; (repeat' split) <;> simp_all <;> omega))
        ·intro h8
         refine Tri.skip ?_;refine Y55 ?_;refine Y59 ?_;refine Y59 ?_;refine xM ?_;refine f7 zG (c8 (fun _ => X2 n 0 _)) ?_;refine Y97 ?_;refine Cq ?_ ?_
         ·intro h11
          refine Y10 ?_;refine Rqz ?_;exact c7 (by first | (simp only [f8, *, Bool.false_eq_true, Bool.true_and, Bool.false_and, Bool.or_false, Bool.or_true, Bool.true_or, Bool.false_or, if_false, if_true]; done) | (exfalso; simp_all; done) | (unfold f8; (repeat' split) <;> simp_all <;> omega))
         ·intro h11
          refine Y45 ?_;refine Rqz ?_;exact c7 (by first | (simp only [f8, *, Bool.false_eq_true, Bool.true_and, Bool.false_and, Bool.or_false, Bool.or_true, Bool.true_or, Bool.false_or, if_false, if_true]; done) | (exfalso; simp_all; done) | (unfold f8; (repeat' split) <;> simp_all <;> omega))
       ·intro h7
        refine Y18 ?_;refine Cq ?_ ?_
        ·intro h9
         refine Y24 ?_;refine Y39 ?_;refine Y29 ?_;refine Y0 ?_;refine Cq ?_ ?_
         ·intro h10
          refine Y10 ?_;refine Rqz ?_;exact c7 (by first | (simp only [f8, *, Bool.false_eq_true, Bool.true_and, Bool.false_and, Bool.or_false, Bool.or_true, Bool.true_or, Bool.false_or, if_false, if_true]; done) | (exfalso; simp_all; done) | (unfold f8; (repeat' split) <;> simp_all <;> omega))
         ·intro h10
          refine Tri.skip ?_;refine Y55 ?_;refine Y59 ?_;refine Y59 ?_;refine xM ?_;refine f7 zG (c8 (fun _ => X2 n 0 _)) ?_;refine Y97 ?_;refine Cq ?_ ?_
          ·intro h11
           refine Y10 ?_;refine Rqz ?_;exact c7 (by first | (simp only [f8, *, Bool.false_eq_true, Bool.true_and, Bool.false_and, Bool.or_false, Bool.or_true, Bool.true_or, Bool.false_or, if_false, if_true]; done) | (exfalso; simp_all; done) | (unfold f8; (repeat' split) <;> simp_all <;> omega))
          ·intro h11
           refine Y45 ?_;refine Rqz ?_;exact c7 (by first | (simp only [f8, *, Bool.false_eq_true, Bool.true_and, Bool.false_and, Bool.or_false, Bool.or_true, Bool.true_or, Bool.false_or, if_false, if_true]; done) | (exfalso; simp_all; done) | (unfold f8; (repeat' split) <;> simp_all <;> omega))
        ·intro h9
         refine Tri.skip ?_;refine Y55 ?_;refine Y59 ?_;refine Y59 ?_;refine xM ?_;refine f7 zG (c8 (fun _ => X2 n 0 _)) ?_;refine Y97 ?_;refine Cq ?_ ?_
         ·intro h11
          refine Y10 ?_;refine Rqz ?_;exact c7 (by first | (simp only [f8, *, Bool.false_eq_true, Bool.true_and, Bool.false_and, Bool.or_false, Bool.or_true, Bool.true_or, Bool.false_or, if_false, if_true]; done) | (exfalso; simp_all; done) | (unfold f8; (repeat' split) <;> simp_all <;> omega))
         ·intro h11
          refine Y45 ?_;refine Rqz ?_;exact c7 (by first | (simp only [f8, *, Bool.false_eq_true, Bool.true_and, Bool.false_and, Bool.or_false, Bool.or_true, Bool.true_or, Bool.false_or, if_false, if_true]; done) | (exfalso; simp_all; done) | (unfold f8; (repeat' split) <;> simp_all <;> omega))
     ·intro h5
      refine Y18 ?_;refine Cq ?_ ?_
      ·intro h6
       refine Y21 ?_;refine Y55 ?_;refine Y59 ?_;refine Y59 ?_;refine xM ?_;refine f7 zG (c8 (fun _ => X2 n 0 _)) ?_;refine Y97 ?_;refine Cq ?_ ?_
       ·intro h11
        refine Y10 ?_;refine Rqz ?_;exact c7 (by first | (simp only [f8, *, Bool.false_eq_true, Bool.true_and, Bool.false_and, Bool.or_false, Bool.or_true, Bool.true_or, Bool.false_or, if_false, if_true]; done) | (exfalso; simp_all; done) | (unfold f8; (repeat' split) <;> simp_all <;> omega))
       ·intro h11
        refine Y45 ?_;refine Rqz ?_;exact c7 (by first | (simp only [f8, *, Bool.false_eq_true, Bool.true_and, Bool.false_and, Bool.or_false, Bool.or_true, Bool.true_or, Bool.false_or, if_false, if_true]; done) | (exfalso; simp_all; done) | (unfold f8; (repeat' split) <;> simp_all <;> omega))
      ·intro h6
       refine Y18 ?_;refine Cq ?_ ?_
       ·intro h7
        refine Y13 ?_;refine Y5 ?_;refine yM ?_;refine b5 (p6 (fun _ => bu6 depth n bound)) ?_;refine Y98 ?_;refine Cq ?_ ?_
        ·intro h8
         refine Y10 ?_;refine Rqz ?_;exact c7 (by first | (simp only [f8, *, Bool.false_eq_true, Bool.true_and, Bool.false_and, Bool.or_false, Bool.or_true, Bool.true_or, Bool.false_or, if_false, if_true]; done) | (exfalso; simp_all; done) | (unfold f8; (repeat' split) <;> simp_all <;> omega))
        ·intro h8
         refine Tri.skip ?_;refine Y55 ?_;refine Y59 ?_;refine Y59 ?_;refine xM ?_;refine f7 zG (c8 (fun _ => X2 n 0 _)) ?_;refine Y97 ?_;refine Cq ?_ ?_
         ·intro h11
          refine Y10 ?_;refine Rqz ?_;exact c7 (by first | (simp only [f8, *, Bool.false_eq_true, Bool.true_and, Bool.false_and, Bool.or_false, Bool.or_true, Bool.true_or, Bool.false_or, if_false, if_true]; done) | (exfalso; simp_all; done) | (unfold f8; (repeat' split) <;> simp_all <;> omega))
         ·intro h11
          refine Y45 ?_;refine Rqz ?_;exact c7 (by first | (simp only [f8, *, Bool.false_eq_true, Bool.true_and, Bool.false_and, Bool.or_false, Bool.or_true, Bool.true_or, Bool.false_or, if_false, if_true]; done) | (exfalso; simp_all; done) | (unfold f8; (repeat' split) <;> simp_all <;> omega))
       ·intro h7
        refine Y18 ?_;refine Cq ?_ ?_
        ·intro h9
         refine Y24 ?_;refine Y39 ?_;refine Y29 ?_;refine Y0 ?_;refine Cq ?_ ?_
         ·intro h10
          refine Y10 ?_;refine Rqz ?_;exact c7 (by first | (simp only [f8, *, Bool.false_eq_true, Bool.true_and, Bool.false_and, Bool.or_false, Bool.or_true, Bool.true_or, Bool.false_or, if_false, if_true]; done) | (exfalso; simp_all; done) | (unfold f8; (repeat' split) <;> simp_all <;> omega))
         ·intro h10
          refine Tri.skip ?_;refine Y55 ?_;refine Y59 ?_;refine Y59 ?_;refine xM ?_;refine f7 zG (c8 (fun _ => X2 n 0 _)) ?_;refine Y97 ?_;refine Cq ?_ ?_
          ·intro h11
           refine Y10 ?_;refine Rqz ?_;exact c7 (by first | (simp only [f8, *, Bool.false_eq_true, Bool.true_and, Bool.false_and, Bool.or_false, Bool.or_true, Bool.true_or, Bool.false_or, if_false, if_true]; done) | (exfalso; simp_all; done) | (unfold f8; (repeat' split) <;> simp_all <;> omega))
          ·intro h11
           refine Y45 ?_;refine Rqz ?_;exact c7 (by first | (simp only [f8, *, Bool.false_eq_true, Bool.true_and, Bool.false_and, Bool.or_false, Bool.or_true, Bool.true_or, Bool.false_or, if_false, if_true]; done) | (exfalso; simp_all; done) | (unfold f8; (repeat' split) <;> simp_all <;> omega))
        ·intro h9
         refine Tri.skip ?_;refine Y55 ?_;refine Y59 ?_;refine Y59 ?_;refine xM ?_;refine f7 zG (c8 (fun _ => X2 n 0 _)) ?_;refine Y97 ?_;refine Cq ?_ ?_
         ·intro h11
          refine Y10 ?_;refine Rqz ?_;exact c7 (by first | (simp only [f8, *, Bool.false_eq_true, Bool.true_and, Bool.false_and, Bool.or_false, Bool.or_true, Bool.true_or, Bool.false_or, if_false, if_true]; done) | (exfalso; simp_all; done) | (unfold f8; (repeat' split) <;> simp_all <;> omega))
         ·intro h11
          refine Y45 ?_;refine Rqz ?_;exact c7 (by first | (simp only [f8, *, Bool.false_eq_true, Bool.true_and, Bool.false_and, Bool.or_false, Bool.or_true, Bool.true_or, Bool.false_or, if_false, if_true]; done) | (exfalso; simp_all; done) | (unfold f8; (repeat' split) <;> simp_all <;> omega))
theorem bX4 (members depth bound : Int) (k n : Int) (r : List Int) (ks : List Tm) (cs : List Cs) :
  HCall Tryz.prog G 200 [chV members, .pu (tmc 0 (.mk k n r ks cs)), iv .i64 bound] (dpO depth) [] (iv .i64 (f8 members depth bound k n r ks.length cs.length)) [] [] := by
 have := bP7 (G := G) members depth bound k n r ks cs
 rwa [a9, j3] at this
end
section
variable {G : List (Nat × TypeId × Pu)}
def csT : Cs → Tm
 | .mk _ t => t
def csB : Cs → Int
 | .mk p _ => m7 p
structure It where
 i : Int
 t : Tm
 more : Int
def ai8 (k : Int) (ks : List Tm) : List It := ks.mapIdx fun i x => ⟨i, x, j8 k i⟩
def ag3 (n : Nat) (cs : List Cs) : List It := cs.mapIdx fun i c => ⟨(n : Int) + i, csT c, csB c⟩
def P8 : Tm → List It
 | .mk k _ _ ks cs => ai8 k ks ++ ag3 ks.length cs
def cb1 (t : Tm) (m : Int) : Pu := .agg 200 [tmc 0 t, .leaf (.int .i64 m)]
def itE (x : It) : List PV := [iv .i64 x.i, .pu (cb1 x.t x.more)]
theorem bU7 (t : Tm) : HCall Tryz.prog G 132 [.pu (tmc 0 t)] [] [] (.fn (.func 191) [] [.ptr 801 [] 32]) [(801, .var 32 (.pu (tmc 0 t)))] [801] := by
 refine HCall.of_triD tbl 4 [] Tryz.func132 rfl rfl rfl fun w0 M ρ0 D0 => ?_
 refine yR ?_;refine p7 SS 801 ?_;refine yB ?_;refine b8 [801] ?_;refine Y46 ?_;refine Rqz ?_;exact VImp.refl _
abbrev foO (e : Int) : List (Nat × Ob) := [(6, .var 37 (iv .i64 e))]
def rOf (r : Loop) : Option Int → Loop
 | none => r
 | some _ => aS8 r .ret
def zOf : Option Int → Int
 | none => 0
 | some e => e
theorem aZ0 {P : Program} {X : Ctx} {l lam : Nat} {r : Loop} {HR : List (Nat × Ob)} {enc : It → List PV} {out : It → Option Int} {x : It} (h : YC P X l lam r HR (foO 0) enc out (fun _ => .ret) foO x) : bj8 P X l (enc x) HR ((lam, .loop r) :: foO 0) (bv (out x).isNone) [(lam, .loop (rOf r (out x))), (6, .var 37 (iv .i64 (zOf (out x))))] := by
 unfold YC at h
 cases ho : out x with
 | none => rw [ho] at h; exact h
 | some e => rw [ho] at h; exact h
theorem aW9 {α β : Type} {out : α → Option β} {l : List α} {i : Nat} (hi : i < l.length) (h : ∀ j (hj : j < i), out (l[j]'(by omega)) = none) {e : β} (he : out l[i] = some e) : l.findSome? out = some e := by
 induction l generalizing i with
 | nil => simp at hi
 | cons a l ih =>
  cases i with
  | zero => simp at he; simp [he]
  | succ i =>
   have h0 := h 0 (by omega)
   simp at h0
   simp only [List.findSome?_cons, h0]
   exact ih (by simpa using hi) (fun j hj => by have := h (j + 1) (by omega); simpa using this) (by simpa using he)
theorem aS0 {α β : Type} {out : α → Option β} {l : List α} (h : ∀ j (hj : j < l.length), out l[j] = none) : l.findSome? out = none := by
 rw [List.findSome?_eq_none_iff]
 intro x hx
 obtain ⟨j, hj, rfl⟩ := List.getElem_of_mem hx
 exact h j hj
abbrev paO (t : Tm) (members depth bound : Int) : List (Nat × Ob) := [(801, .var 32 (.pu (tmc 0 t))), (3, .var 206 (chV members)), (5, .var 3 (iv .i64 bound)), (901, .var 3 (iv .i64 depth))]
theorem bL8 (t : Tm) (hs : a8 t < 2^40) (members depth bound : Int) (out : It → Option Int) :
  IterC Tryz.prog G 191 [.ptr 801 [] 32] 900 [801, 3, 5, 901, 6, 900] (paO t members depth bound) (foO 0) (P8 t) itE out (fun _ => .ret) foO := by
 obtain ⟨k, n, r, ks, cs⟩ := t
 refine IterC.of_tri tbl 49 Tryz.func191 rfl rfl (fun r z => by cases z <;> rfl) fun l rc w0 M ρ0 D0 hy => ?_
 simp only [a8] at hs
 have hlen := f9 ks
 have hlenc := m5 cs
 have hk : ∀ i (hi : i < ks.length), (P8 (.mk k n r ks cs))[i]'(by simp [P8, ai8, ag3]; omega) = ⟨i, ks[i], j8 k i⟩ := fun i hi => by
  simp [P8, ai8, List.getElem_append_left, hi]
 have hc : ∀ i (hi : i < cs.length), (P8 (.mk k n r ks cs))[ks.length + i]'(by simp [P8, ai8, ag3]; omega) = ⟨(ks.length : Int) + i, csT cs[i], csB cs[i]⟩ := fun i hi => by
  simp [P8, ai8, ag3, List.getElem_append_right]
 have hL : (P8 (.mk k n r ks cs)).length = ks.length + cs.length := by simp [P8, ai8, ag3]
 refine ay8 ?_;refine Tri.block (Tri.loopW (σ := {i : Nat // ∀ j (hj : j < i) (hl : j < ks.length), out ⟨j, ks[j], j8 k j⟩ = none}) (fun i => ⟨[(0, .fn (.yield l) [] []), (1, .ptr 801 [] 32), (8, .pu (.sl 0 32 (l8 0 ks))), (9, iv .i64 (l8 0 ks).length), (10, iv .i64 i.1)], [(801, .var 32 (.pu (tmc 0 (.mk k n r ks cs)))), (3, .var 206 (chV members)), (5, .var 3 (iv .i64 bound)), (901, .var 3 (iv .i64 depth)), (900, .loop rc), (6, .var 37 (iv .i64 0))]⟩) (fun i => ks.length - i.1) ⟨0, by intro j hj; omega⟩ ?_ ?_ (fun i => ?_))
 ·exact zW
 ·exact zW
 refine Y41 ?_;refine Cq ?_ ?_
 ·intro h0
  have hi : i.1 < ks.length := by rw [a9] at h0; simpa using h0
  have hy' := aZ0 (hy ⟨i.1, ks[i.1], j8 k i.1⟩ (by rw [← hk i.1 hi]; exact List.getElem_mem _))
  refine Y20 ?_;refine Y1 ?_;refine b5 (g9 SS (h0 := by omega) (hp := q7 hi)) ?_;refine yL ?_;refine b9 SS 4 ?_;refine yA ?_;refine yS ?_;refine b8 [4] ?_;refine Y17 ?_;refine yL ?_;refine Y5 ?_;refine yM ?_;refine Dq (bk7 k i.1) ?_;refine yP ?_;refine aU6 hy' ?_;refine yQ ?_;refine Y42 ?_;refine Cq ?_ ?_
  ·intro h1
   obtain ⟨e, he⟩ : ∃ e, out ⟨i.1, ks[i.1], j8 k i.1⟩ = some e := by
    cases ho : out ⟨i.1, ks[i.1], j8 k i.1⟩ with
    | none => rw [ho] at h1; cases h1
    | some e => exact ⟨e, rfl⟩
   have hfin : (P8 (.mk k n r ks cs)).findSome? out = some e := aW9 (i := i.1) (by rw [hL]; omega) (fun j hj => by rw [hk j (by omega)]; exact i.2 j hj (by omega)) (by rw [hk i.1 hi]; exact he)
   rw [hfin];refine tQ ?_;exact Tri.ret ⟨.inr rfl, bJ8, .cons rfl (by rw [he]; exact ObImp.refl _) (.cons rfl (by rw [he]; exact ObImp.refl _) .nil)⟩
  ·intro h1
   have he : out ⟨i.1, ks[i.1], j8 k i.1⟩ = none := by
    cases ho : out ⟨i.1, ks[i.1], j8 k i.1⟩ with
    | none => rfl
    | some e => rw [ho] at h1; cases h1
   have hnext : ∀ j (hj : j < i.1 + 1) (hl : j < ks.length), out ⟨j, ks[j], j8 k j⟩ = none := fun j hj hl => by
    rcases Nat.lt_or_ge j i.1 with h' | h'
    ·exact i.2 j h' hl
    ·obtain rfl : j = i.1 := by omega
     exact he
   refine Y66 ?_
   refine ⟨⟨i.1 + 1, hnext⟩, by show ks.length - (i.1 + 1) < ks.length - i.1; omega, i9 ?_ ?_⟩
   ·repeat (first | exact SubE.nil | refine SubE.cons rfl (by first | rfl | (rw [b7 (by omega) (by omega)]; rfl) | (rw [he]; rfl)) ?_)
   ·repeat (first | exact SubH.nil | refine SubH.cons rfl (by first | rfl | (rw [b7 (by omega) (by omega)]; rfl) | (rw [he]; rfl)) ?_)
 ·intro h0
  have hK : ∀ j (hj : j < ks.length), out ⟨j, ks[j], j8 k j⟩ = none := fun j hj => i.2 j (by rw [a9] at h0; simp at h0; omega) hj
  refine Tri.exit ?_;refine ay8 ?_;refine Tri.block (Tri.loopW (σ := {i : Nat // ∀ j (hj : j < i) (hl : j < cs.length), out ⟨(ks.length : Int) + j, csT cs[j], csB cs[j]⟩ = none}) (fun i => ⟨[(0, .fn (.yield l) [] []), (1, .ptr 801 [] 32), (27, .pu (.sl 0 106 (z8 0 cs))), (28, iv .i64 (z8 0 cs).length), (29, iv .i64 i.1)], [(801, .var 32 (.pu (tmc 0 (.mk k n r ks cs)))), (3, .var 206 (chV members)), (5, .var 3 (iv .i64 bound)), (901, .var 3 (iv .i64 depth)), (900, .loop rc), (6, .var 37 (iv .i64 0))]⟩) (fun i => cs.length - i.1) ⟨0, by intro j hj; omega⟩ ?_ ?_ (fun i => ?_))
  ·exact zW
  ·exact zW
  refine Y41 ?_;refine Cq ?_ ?_
  ·intro h2
   have hi : i.1 < cs.length := by rw [j3] at h2; simpa using h2
   have hy' := hc i.1 hi ▸ aZ0 (hy _ (List.getElem_mem (l := P8 (.mk k n r ks cs)) (n := ks.length + i.1) (by rw [hL]; omega)))
   have hget := G2 (lo := 0) hi
   have hsz := B0 (List.getElem_mem hi)
   have hcm := i.2
   generalize hci : cs[i.1] = ci at hy' hget hsz
   obtain ⟨q, b⟩ := ci
   simp only [csT, csB] at hy'
   have hw : IntKind.wrap .i64 (((l8 0 ks).length : Int) + (i.1 : Int)) = (ks.length : Int) + i.1 := by rw [a9, b7 (by omega) (by omega)]
   refine Y20 ?_;refine Y1 ?_;refine Xq hget ?_;refine yL ?_;refine b9 SS 66 ?_;refine yA ?_;refine yS ?_;refine b8 [66] ?_;refine Y50 ?_;refine yC ?_;refine yM ?_;refine yI ?_;refine Y70 ?_;refine Dq (ba0 _ q (Nat.le_refl _) (by simp only [p9] at hsz; omega)) ?_;refine yP ?_;refine aU6 hy' (himp := .cons (c7 hw) (.cons (VImp.refl _) .nil)) ?_;refine yQ ?_;refine Y42 ?_;refine Cq ?_ ?_
   ·intro h3
    obtain ⟨e, he⟩ : ∃ e, out ⟨(ks.length : Int) + i.1, b, m7 q⟩ = some e := by
     cases ho : out ⟨(ks.length : Int) + i.1, b, m7 q⟩ with
     | none => rw [ho] at h3; cases h3
     | some e => exact ⟨e, rfl⟩
    have hfin : (P8 (.mk k n r ks cs)).findSome? out = some e := aW9 (i := ks.length + i.1) (by rw [hL]; omega) (fun j hj => by
     rcases Nat.lt_or_ge j ks.length with h' | h'
     ·rw [hk j h']; exact hK j h'
     ·obtain ⟨j', rfl⟩ := Nat.exists_eq_add_of_le h'
      rw [hc j' (by omega)]; exact hcm j' (by omega) (by omega)) (by rw [hc i.1 hi, hci]; exact he)
    rw [hfin];refine tQ ?_;exact Tri.ret ⟨.inr rfl, bJ8, .cons rfl (by rw [he]; exact ObImp.refl _) (.cons rfl (by rw [he]; exact ObImp.refl _) .nil)⟩
   ·intro h3
    have he : out ⟨(ks.length : Int) + i.1, b, m7 q⟩ = none := by
     cases ho : out ⟨(ks.length : Int) + i.1, b, m7 q⟩ with
     | none => rfl
     | some e => rw [ho] at h3; cases h3
    have hnext : ∀ j (hj : j < i.1 + 1) (hl : j < cs.length), out ⟨(ks.length : Int) + j, csT cs[j], csB cs[j]⟩ = none := fun j hj hl => by
     rcases Nat.lt_or_ge j i.1 with h' | h'
     ·exact hcm j h' hl
     ·obtain rfl : j = i.1 := by omega
      rw [hci]; exact he
    refine Y66 ?_
    refine ⟨⟨i.1 + 1, hnext⟩, by show cs.length - (i.1 + 1) < cs.length - i.1; omega, i9 ?_ ?_⟩
    ·repeat (first | exact SubE.nil | refine SubE.cons rfl (by first | rfl | (rw [b7 (by omega) (by omega)]; rfl) | (rw [he]; rfl)) ?_)
    ·repeat (first | exact SubH.nil | refine SubH.cons rfl (by first | rfl | (rw [b7 (by omega) (by omega)]; rfl) | (rw [he]; rfl)) ?_)
  ·intro h2
   have hC : ∀ j (hj : j < cs.length), out ⟨(ks.length : Int) + j, csT cs[j], csB cs[j]⟩ = none := fun j hj => i.2 j (by rw [j3] at h2; simp at h2; omega) hj
   have hfin : (P8 (.mk k n r ks cs)).findSome? out = none := aS0 fun j hj => by
    rcases Nat.lt_or_ge j ks.length with h' | h'
    ·rw [hk j h']; exact hK j h'
    ·obtain ⟨j', rfl⟩ := Nat.exists_eq_add_of_le h'
     rw [hL] at hj
     rw [hc j' (by omega)]; exact hC j' (by omega)
   rw [hfin];refine Tri.exit ?_;exact ⟨.inl rfl, bJ8, .cons rfl (ObImp.refl _) (.cons rfl (ObImp.refl _) .nil)⟩
end
section
variable {G : List (Nat × TypeId × Pu)}
def csP : Cs → Pat
 | .mk p _ => p
def orE (a b : Int) : Int := if a = 0 then b else a
mutual
def H8 (m d b : Int) : Tm → Int
 | .mk k n r ks cs => orE (f8 m d b k n r ks.length cs.length) (orE (m6 (fun c => A4 (csP c)) cs) (orE (S4 m d b k 0 ks) (T7 m d b cs)))
def S4 (m d b k : Int) (i : Nat) : List Tm → Int
 | [] => 0
 | t :: ts => orE (H8 m d (b + j8 k i) t) (S4 m d b k (i + 1) ts)
def T7 (m d b : Int) : List Cs → Int
 | [] => 0
 | c :: cs => orE (Q8 m d b c) (T7 m d b cs)
def Q8 (m d b : Int) : Cs → Int
 | .mk p t => H8 m d (b + m7 p) t
end
def ae8 (m d b : Int) (x : It) : Option Int := if H8 m d (b + x.more) x.t = 0 then none else some (H8 m d (b + x.more) x.t)
theorem aF5 {out : It → Option Int} (h : ∀ x e, out x = some e → e ≠ 0) : ∀ (l l' : List It), zOf ((l ++ l').findSome? out) = orE (zOf (l.findSome? out)) (zOf (l'.findSome? out))
 | [], l' => by simp [orE, zOf]
 | x :: l, l' => by
  simp only [List.cons_append, List.findSome?_cons]
  cases ho : out x with
  | none => exact aF5 h l l'
  | some e => have := h x e ho; simp [zOf, orE, this]
theorem bU8 {m d b : Int} : ∀ x e, ae8 m d b x = some e → e ≠ 0 := fun x e h => by
 unfold ae8 at h
 split at h
 ·cases h
 ·rename_i h0; cases h; exact h0
theorem zK (m d b k : Int) : ∀ (ks : List Tm) (i : Nat), zOf ((ks.mapIdx fun j x => (⟨((i + j : Nat) : Int), x, j8 k ((i + j : Nat) : Int)⟩ : It)).findSome? (ae8 m d b)) = S4 m d b k i ks
 | [], i => rfl
 | t :: ts, i => by
  have ih := zK m d b k ts (i + 1)
  simp only [List.mapIdx_cons, List.findSome?_cons, S4, Nat.add_zero]
  have e : (fun (j : Nat) (x : Tm) => (⟨((i + (j + 1) : Nat) : Int), x, j8 k ((i + (j + 1) : Nat) : Int)⟩ : It)) = fun j x => ⟨((i + 1 + j : Nat) : Int), x, j8 k ((i + 1 + j : Nat) : Int)⟩ := by funext j x; rw [show i + (j + 1) = i + 1 + j by omega]
  rw [e]
  unfold orE
  by_cases h : H8 m d (b + j8 k i) t = 0
  ·rw [show ae8 m d b ⟨(i : Int), t, j8 k i⟩ = none by simp [ae8, h], if_pos h]
   exact ih
  ·rw [show ae8 m d b ⟨(i : Int), t, j8 k i⟩ = some (H8 m d (b + j8 k i) t) by simp [ae8, h], if_neg h]
   rfl
theorem zC (m d b : Int) (n : Nat) : ∀ (cs : List Cs) (i : Nat), zOf ((cs.mapIdx fun j c => (⟨(n : Int) + ((i + j : Nat) : Int), csT c, csB c⟩ : It)).findSome? (ae8 m d b)) = T7 m d b cs
 | [], i => rfl
 | .mk q t :: cs, i => by
  have ih := zC m d b n cs (i + 1)
  simp only [List.mapIdx_cons, List.findSome?_cons, T7, Q8, Nat.add_zero]
  have e : (fun (j : Nat) (c : Cs) => (⟨(n : Int) + ((i + (j + 1) : Nat) : Int), csT c, csB c⟩ : It)) = fun j c => ⟨(n : Int) + ((i + 1 + j : Nat) : Int), csT c, csB c⟩ := by funext j c; rw [show i + (j + 1) = i + 1 + j by omega]
  rw [e];rw [show csT (.mk q t) = t from rfl, show csB (.mk q t) = m7 q from rfl]
  unfold orE
  by_cases h : H8 m d (b + m7 q) t = 0
  ·rw [show ae8 m d b ⟨(n : Int) + (i : Int), t, m7 q⟩ = none by simp [ae8, h], if_pos h]
   exact ih
  ·rw [show ae8 m d b ⟨(n : Int) + (i : Int), t, m7 q⟩ = some (H8 m d (b + m7 q) t) by simp [ae8, h], if_neg h]
   rfl
theorem ch5 (m d b k n : Int) (r : List Int) (ks : List Tm) (cs : List Cs) : zOf ((P8 (.mk k n r ks cs)).findSome? (ae8 m d b)) = orE (S4 m d b k 0 ks) (T7 m d b cs) := by
 have h1 := zK m d b k ks 0
 have h2 := zC m d b ks.length cs 0
 simp only [Nat.zero_add] at h1 h2
 unfold P8 ai8 ag3
 rw [aF5 bU8, h1, h2]
theorem bN6 {k n : Int} {r : List Int} {ks : List Tm} {cs : List Cs} {x : It} (h : x ∈ P8 (.mk k n r ks cs)) : a8 x.t ≤ d7 ks + f6 cs ∧ 0 ≤ x.more ∧ x.more + 2 * a8 x.t ≤ 2 * (1 + d7 ks + f6 cs) := by
 unfold P8 ai8 ag3 at h
 rcases List.mem_append.1 h with h | h
 ·obtain ⟨i, hi, rfl⟩ := List.mem_mapIdx.1 h
  have := o8 (List.getElem_mem hi)
  have : j8 k i = 0 ∨ j8 k i = 1 ∨ j8 k i = 2 := by unfold j8; split <;> (try split) <;> simp
  simp only
  omega
 ·obtain ⟨i, hi, rfl⟩ := List.mem_mapIdx.1 h
  have := B0 (List.getElem_mem hi)
  generalize cs[i] = c at this ⊢
  obtain ⟨q, t⟩ := c
  have hb := y5 q
  simp only [csT, csB, p9] at this ⊢
  omega
instance (t : Tm) (m : Int) : TyV Tryz.prog 200 (.pu (cb1 t m)) := inferInstanceAs (TyV Tryz.prog 200 (.pu (.agg _ _)))
theorem aX6 {lo : Nat} {c : Cs} : J3 lo c = .agg 106 [v7 lo (csP c), tmc lo (csT c)] := by cases c; rfl
theorem cm1 (members depth : Int) : ∀ (N : Nat) (t : Tm), a8 t ≤ N → N < 2^40 → ∀ bound : Int, 0 ≤ bound → bound + 2 * a8 t ≤ 2^42 →
  HCall Tryz.prog G 136 [chV members, .pu (tmc 0 t), iv .i64 bound] (dpO depth) [] (iv .i64 (H8 members depth bound t)) [] [] := by
 intro N
 induction N with
 | zero => intro t h; have := m8 t; omega
 | succ N ih =>
 intro t hp hN bound hb0 hb1
 obtain ⟨k, n, r, ks, cs⟩ := t
 have hsz : a8 (.mk k n r ks cs) < 2^40 := by omega
 simp only [a8] at hp hb1
 have hlen := f9 ks
 have hlenc := m5 cs
 refine HCall.of_triD tbl 50 [] Tryz.func136 rfl rfl rfl fun w0 M ρ0 D0 => ?_
 refine Y89 ?_;refine p7 SS 5 ?_;refine b9 SS 6 ?_;refine b8 [3, 4, 5, 6] ?_;refine Y22 ?_;refine yL ?_;refine b5 (p6 (fun _ => bX4 members depth bound k n r ks cs)) ?_;refine Y52 ?_;refine Cq ?_ ?_
 ·intro h0
  have h0' : f8 members depth bound k n r ks.length cs.length ≠ 0 := by simpa using h0
  refine Y1 ?_;refine Y23 ?_;refine Rcz ?_;exact c7 (by simp [H8, orE, h0'])
 ·intro h0
  have h0' : f8 members depth bound k n r ks.length cs.length = 0 := by simpa using h0
  refine Tri.skip ?_;refine ay8 ?_;refine Tri.block (Tri.loopW (σ := {i : Nat // m6 (fun c => A4 (csP c)) (cs.take i) = 0}) (fun i => ⟨[(3, .ptr 3 [] 206), (4, .ptr 4 [] 32), (5, .ptr 5 [] 3), (6, .ptr 6 [] 37), (22, .pu (.sl 0 106 (z8 0 cs))), (23, iv .i64 (z8 0 cs).length), (24, iv .i64 i.1)], [(3, .var 206 (chV members)), (4, .var 32 (.pu (tmc 0 (.mk k n r ks cs)))), (5, .var 3 (iv .i64 bound)), (6, .var 37 (iv .i64 0)), (901, .var 3 (iv .i64 depth))]⟩) (fun i => cs.length - i.1) ⟨0, rfl⟩ ?_ ?_ (fun i => ?_))
  ·exact zW
  ·exact zW
  refine Y41 ?_;refine Cq ?_ ?_
  ·intro h1
   have hi : i.1 < cs.length := by rw [j3] at h1; simpa using h1
   have hcz := B0 (List.getElem_mem hi)
   have hpz : l9 (csP cs[i.1]) ≤ p9 cs[i.1] := by generalize cs[i.1] = c; cases c; simp only [csP, p9]; omega
   have hget := G2 (lo := 0) hi
   rw [aX6] at hget
   refine Y86 ?_;refine Xq hget ?_;refine yL ?_;refine ay6 ?_;refine b8 [9] ?_;refine Y13 ?_;refine Dq (aB5 _ (csP cs[i.1]) (Nat.le_refl _) (by omega)) ?_;refine Y52 ?_;refine Cq ?_ ?_
   ·intro h2
    have h2' : A4 (csP cs[i.1]) ≠ 0 := by simpa using h2
    have hf : m6 (fun c => A4 (csP c)) (cs.take (i.1 + 1)) = A4 (csP cs[i.1]) := by rw [t7 _ hi, if_pos i.2]
    have hf2 := H7 (fun c => A4 (csP c)) (l := cs) (i := i.1 + 1) (by rw [hf]; exact h2')
    refine Y1 ?_;refine Y23 ?_;refine Rcz ?_;exact c7 (by simp [H8, orE, h0', hf2, hf, h2'])
   ·intro h2
    have h2' : A4 (csP cs[i.1]) = 0 := by simpa using h2
    have hnext : m6 (fun c => A4 (csP c)) (cs.take (i.1 + 1)) = 0 := by rw [t7 _ hi, if_pos i.2, h2']
    refine Y66 ?_
    refine ⟨⟨i.1 + 1, hnext⟩, by show cs.length - (i.1 + 1) < cs.length - i.1; omega, i9 ?_ ?_⟩
    ·exact zE
    ·exact zH
  ·intro h1
   have hz1 : m6 (fun c => A4 (csP c)) cs = 0 := by have := i.2; rwa [List.take_of_length_le (by rw [j3] at h1; simp at h1; omega)] at this
   have hz2 := ch5 members depth bound k n r ks cs
   have haerr : H8 members depth bound (.mk k n r ks cs) = zOf ((P8 (.mk k n r ks cs)).findSome? (ae8 members depth bound)) := by rw [hz2]; simp [H8, orE, h0', hz1]
   refine Tri.exit ?_;refine Y4 ?_;refine B7 (bU7 (.mk k n r ks cs)) ?_;refine b8 [801] ?_;refine Y84 ?_;refine tQ ?_;refine Tri.overFunc 900 [801, 3, 5, 901, 6, 900] [6, 900] [(3, .ptr 3 [] 206), (5, .ptr 5 [] 3), (6, .ptr 6 [] 37)] (bL8 (.mk k n r ks cs) hsz members depth bound (ae8 members depth bound)) (by intro x _; rfl) (fun x hx r w0 M ρ0 D0 l => ?_) (fun hdone => ?_) (fun z hz => ?_)
   ·skip
    refine yR ?_;refine b9 SS 12 ?_;refine yS ?_;refine b8 [12] ?_
    refine ⟨rfl, ?_⟩
    have hit := bN6 hx
    have hcall := ih x.t (by omega) (by omega) (bound + x.more) (by omega) (by omega)
    refine Y84 ?_;refine Y4 ?_;refine Y5 ?_;refine yL ?_;refine Y54 ?_;refine b5 (p6 (fun _ => hcall)) ?_;refine Y52 ?_;refine Cq ?_ ?_
    ·intro h3
     have h3' : ae8 members depth bound x = some (H8 members depth (bound + x.more) x.t) := by unfold ae8; rw [if_neg (by simpa using h3)]
     refine Y1 ?_;refine Y23 ?_;refine Tri.ret ⟨rfl, ?_, ?_⟩
     ·rw [h3']; rfl
     ·rw [h3']; exact .cons rfl (ObImp.refl _) .nil
    ·intro h3
     have h3' : ae8 members depth bound x = none := by unfold ae8; rw [if_pos (by simpa using h3)]
     refine Tri.skip ?_
     refine ⟨rfl, ?_, ?_⟩
     ·rw [h3']; rfl
     ·rw [h3']; exact .cons rfl (ObImp.refl _) .nil
   ·skip
    refine yR ?_;refine Y23 ?_;refine Rcz ?_;exact c7 (by rw [haerr, hdone]; rfl)
   ·skip
    exact Tri.ret ⟨.inr rfl, B8 rfl j6 (c7 (by rw [haerr, hz]; rfl)), .nil⟩
end
section
variable {G : List (Nat × TypeId × Pu)}
def n6 (t : Tm) (depth members : Int) : Int := if (m2 300 60 1 0 t).1 then 11 else H8 members depth 0 t
theorem aF0 (t : Tm) (hN : a8 t < 2^40) (depth members : Int) : FCall Tryz.prog G 60 [.pu (tmc 0 t), iv .i64 depth, iv .i64 members] (iv .i64 (n6 t depth members)) := by
 refine Fq 18 Tryz.func60 ?_;intro w0 M ρ0 D0
 refine Y49 ?_;refine p7 SS 901 ?_;refine yB ?_;refine b8 [3, 901] ?_;refine Y51 ?_;refine p7 SS 90 ?_;refine yL ?_;refine B7 (cj2 _ t (Nat.le_refl _) hN 1 0 (by omega) (by omega)) ?_;refine b8 [90] ?_;refine tQ ?_;refine Cq ?_ ?_
 ·intro h0
  refine Y10 ?_;refine Rq ?_;exact c7 (by simp [n6, h0])
 ·intro h0
  refine Y87 ?_;refine b5 (J7 SS) ?_;refine yP ?_;refine b9 SS 7 ?_;refine yS ?_;refine b8 [7] ?_;refine Y22 ?_;refine b5 (p6 (fun _ => cm1 members depth _ t (Nat.le_refl _) hN 0 (by omega) (by omega))) ?_;refine Y2 ?_;refine Rq ?_;exact c7 (by simp [n6, h0])
abbrev KT := List Int × Tm
def ktP (x : KT) : Pu := .agg 116 [l4 x.1, tmc 0 x.2]
def wdP (a b : Pu) (ts : List KT) : Pu := .agg 26 [a, b, .sl 0 116 (ts.map ktP)]
instance (x : KT) : TyV Tryz.prog 116 (.pu (ktP x)) := inferInstanceAs (TyV Tryz.prog 116 (.pu (.agg _ _)))
instance (a b : Pu) (ts : List KT) : TyV Tryz.prog 26 (.pu (wdP a b ts)) := inferInstanceAs (TyV Tryz.prog 26 (.pu (.agg _ _)))
theorem ab4 {ts : List KT} {i : Nat} (h : i < ts.length) : (ts.map ktP)[i]? = some (ktP ts[i]) := by simp [h]
theorem bn4 {D : Nat → Nat → Prop} {w : World} : ∀ {ts : List KT} {cs : List (Nat × TypeId)} {x : List Value}, PRs Tryz.prog D w cs (ts.map ktP) x → ∀ x ∈ ts, x.1.length = 32
 | [], _, _, _, x, hx => by cases hx
 | t :: ts, _, _, h, x, hx => by
  obtain ⟨⟨_, h1⟩, _, _, h2⟩ := n8 h
  rcases List.mem_cons.1 hx with rfl | hx
  ·obtain ⟨_, h1⟩ := Z7 h1
   obtain ⟨⟨_, h1⟩, _⟩ := n8 h1
   exact R3 h1
  ·exact bn4 h2 x hx
theorem aZ2 {D : Nat → Nat → Prop} {w : World} {a b : Pu} {ts : List KT} {x : List Value} (h : PR Tryz.prog D w (wdP a b ts) x) : ∀ x ∈ ts, x.1.length = 32 := by
 obtain ⟨_, h⟩ := Z7 h
 obtain ⟨_, _, _, h⟩ := n8 h
 obtain ⟨_, _, _, h⟩ := n8 h
 obtain ⟨⟨_, h⟩, _⟩ := n8 h
 obtain ⟨_, _, h⟩ := aT0 h
 exact bn4 h
def X4 (l : List (List Int × PV)) : List (Pu × PV) := l.map fun x => (l4 x.1, x.2)
def aa8 (s : List Int) : List (List Int × PV) → Option PV
 | [] => none
 | x :: l => if s = x.1 then some x.2 else aa8 s l
theorem ag1 {s : List Int} (hs : s.length = 32) : ∀ {l : List (List Int × PV)} {i : Nat}, (∀ x ∈ l, x.1.length = 32) → aa8 s l = none → aj3 Tryz.prog 28 (l4 s) (X4 l) i = some none
 | [], _, _, _ => rfl
 | x :: l, i, h, hn => by
  simp only [aa8] at hn
  split at hn
  ·cases hn
  ·rename_i hne
   simp only [X4, List.map_cons, aj3, aD6 (hs.trans (h x (by simp)).symm)]
   rw [show (s == x.1) = false by simpa using hne];exact ag1 hs (fun y hy => h y (by simp [hy])) hn
theorem aL7 {s : List Int} (hs : s.length = 32) : ∀ {l : List (List Int × PV)} {i : Nat} {v : PV}, (∀ x ∈ l, x.1.length = 32) → aa8 s l = some v → ∃ j, aj3 Tryz.prog 28 (l4 s) (X4 l) i = some (some (j, v))
 | [], _, _, _, h => by cases h
 | x :: l, i, v, h, hn => by
  simp only [aa8] at hn
  simp only [X4, List.map_cons, aj3, aD6 (hs.trans (h x (by simp)).symm)]
  split at hn
  ·rename_i he
   simp at hn
   rw [show (s == x.1) = true by simpa using he];exact ⟨i, by rw [hn]⟩
  ·rename_i hne
   rw [show (s == x.1) = false by simpa using hne];exact aL7 hs (fun y hy => h y (by simp [hy])) hn
theorem aA1 {s : List Int} {V : TypeId} {z : PV} {l : List (List Int × PV)} (hz : SS.Z V = some z) (hs : s.length = 32) (h : ∀ x ∈ l, x.1.length = 32) (hn : aa8 s l = none) : af0 Tryz.prog SS 28 V (l4 s) (X4 l) = some (z, false) := by
 unfold af0
 rw [ag1 hs h hn, hz]
theorem ai5 {s : List Int} {V : TypeId} {v : PV} {l : List (List Int × PV)} (hs : s.length = 32) (h : ∀ x ∈ l, x.1.length = 32) (hn : aa8 s l = some v) : af0 Tryz.prog SS 28 V (l4 s) (X4 l) = some (v, true) := by
 unfold af0
 obtain ⟨j, hj⟩ := aL7 (i := 0) hs h hn
 rw [hj]
theorem al5 (l : List (List Int × PV)) : ∀ q ∈ X4 l, tyP Tryz.prog 28 q.1 = true := by
 intro q hq
 obtain ⟨x, _, rfl⟩ := List.mem_map.1 hq
 exact (O2 x.1 x.1).2.2.1
theorem aa7 (l : List (List Int × PV)) (s : List Int) (v : PV) : X4 (l ++ [(s, v)]) = X4 l ++ [(l4 s, v)] := by simp [X4]
instance {V : TypeId} {α : Type} {l : List α} {f : α → List Int} {g : α → Pu} : NoLab (.map 28 V (X4 (l.map fun x => (f x, .pu (g x))))) := ⟨by
 have := (NoLab.map (K := 28) (V := V) (l := l) (f := fun x => l4 (f x)) (g := fun x => .pu (g x)) (fun _ => rfl)).ok
 unfold X4
 rw [List.map_map]
 exact this⟩
instance {K V : TypeId} {es : List (Pu × PV)} {k p : Pu} [h : NoLab (.map K V es)] : NoLab (.map K V (es ++ [(k, .pu p)])) := ⟨by
 have h1 : PV.labsL (es.map (·.2)) = [] := h.ok
 show PV.labsL ((es ++ [(k, PV.pu p)]).map (·.2)) = []
 rw [List.map_append]
 generalize es.map (·.2) = l at h1 ⊢
 induction l with
 | nil => rfl
 | cons a l ih => simp only [PV.labsL, List.append_eq_nil_iff, List.cons_append] at h1 ⊢; exact ⟨h1.1, ih h1.2⟩⟩
def aK3 (ts : List KT) : List (List Int × PV) := ts.map fun x => (x.1, bv true)
theorem at1 {s : List Int} : ∀ {ts : List KT}, aa8 s (aK3 ts) = if s ∈ ts.map (·.1) then some (bv true) else none
 | [] => by simp [aK3, aa8]
 | x :: ts => by
  have ih := at1 (s := s) (ts := ts)
  unfold aK3 at ih ⊢
  simp only [List.map_cons, aa8, ih, List.mem_cons]
  by_cases h : s = x.1
  ·simp [h]
  ·simp only [h, if_false, false_or]
instance {V : TypeId} {ts : List KT} : NoLab (.map 28 V (X4 (aK3 ts))) := inferInstanceAs (NoLab (.map 28 V (X4 (ts.map fun x => (x.1, .pu (.leaf (.bool true)))))))
theorem aR1 {ts : List KT} {i : Nat} (h : i < ts.length) : aK3 (ts.take (i + 1)) = aK3 (ts.take i) ++ [(ts[i].1, bv true)] := by
 unfold aK3
 rw [List.take_succ_eq_append_getElem h, List.map_append]; rfl
theorem bV2 {ts : List KT} (h : ∀ x ∈ ts, x.1.length = 32) : ∀ x ∈ aK3 ts, x.1.length = 32 := by
 intro x hx
 obtain ⟨y, hy, rfl⟩ := List.mem_map.1 hx
 exact h y hy
def bh9 (ts : List KT) : Bool := !decide (ts.map (·.1)).Nodup
def d3 (ts : List KT) (t : Tm) : Int := if decide ((ts.length : Int) > 40) then 2 else orE (m6 (fun x => n6 x.2 0 0) ts) (if bh9 ts then 5 else n6 t 0 0)
theorem ap1 {α : Type} {l : List α} {i : Nat} (h : i < l.length) : (l.take (i + 1)).Nodup ↔ (l.take i).Nodup ∧ l[i] ∉ l.take i := by
 rw [List.take_succ_eq_append_getElem h, List.nodup_append]
 simp only [List.nodup_cons, List.not_mem_nil, not_false_eq_true, List.nodup_nil, and_self, true_and, List.mem_singleton]
 exact ⟨fun ⟨h1, h2⟩ => ⟨h1, fun hm => h2 _ hm _ rfl rfl⟩, fun ⟨h1, h2⟩ => ⟨h1, fun a ha b hb e => h2 (by rw [← hb, ← e]; exact ha)⟩⟩
theorem G6 (a b : Pu) (ts : List KT) (t : Tm) (hts : ∀ x ∈ ts, a8 x.2 < 2^40) (hN : a8 t < 2^40) : FCall Tryz.prog G 19 [.pu (wdP a b ts), .pu (tmc 0 t)] (iv .i64 (d3 ts t)) := by
 refine Fq 47 Tryz.func19 ?_;intro w0 M ρ0 D0
 refine Tri.fact (i := 0) rfl (fun D w x h => aZ2 h) (fun hr => ?_);refine Y91 ?_;refine Y14 ?_;refine Y47 ?_;refine Cq ?_ ?_
 ·intro h0
  refine Y10 ?_;refine Rq ?_;exact c7 (by simp at h0; simp [d3, h0])
 ·intro h0
  have hts40 : ¬ ((ts.length : Int) > 40) := by simpa using h0
  refine Tri.skip ?_;refine ay8 ?_;refine Tri.block (Tri.loopW (σ := {i : Nat // m6 (fun x : KT => n6 x.2 0 0) (ts.take i) = 0}) (fun i => ⟨[(2, .ptr 2 [] 26), (3, .ptr 3 [] 32), (16, .pu (.sl 0 116 (ts.map ktP))), (17, iv .i64 (ts.map ktP).length), (18, iv .i64 i.1)], [(2, .var 26 (.pu (wdP a b ts))), (3, .var 32 (.pu (tmc 0 t)))]⟩) (fun i => ts.length - i.1) ⟨0, rfl⟩ ?_ ?_ (fun i => ?_))
  ·exact zW
  ·exact zW
  refine Y41 ?_;refine Cq ?_ ?_
  ·intro h1
   have hi : i.1 < ts.length := by simpa using h1
   refine Y86 ?_;refine b5 (g9 SS (h0 := by omega) (hp := ab4 hi)) ?_;refine yL ?_;refine b9 SS 6 ?_;refine yS ?_;refine b8 [6] ?_;refine Y13 ?_;refine Dq (aF0 ts[i.1].2 (hts _ (List.getElem_mem hi)) 0 0) ?_;refine Y52 ?_;refine Cq ?_ ?_
   ·intro h2
    have h2' : n6 ts[i.1].2 0 0 ≠ 0 := by simpa using h2
    have hf : m6 (fun x : KT => n6 x.2 0 0) (ts.take (i.1 + 1)) = n6 ts[i.1].2 0 0 := by rw [t7 _ hi, if_pos i.2]
    have hf2 := H7 (fun x : KT => n6 x.2 0 0) (l := ts) (i := i.1 + 1) (by rw [hf]; exact h2')
    refine Y88 ?_;refine Rq ?_;exact c7 (by simp [d3, hts40, orE, hf2, hf, h2'])
   ·intro h2
    have h2' : n6 ts[i.1].2 0 0 = 0 := by simpa using h2
    have hnext : m6 (fun x : KT => n6 x.2 0 0) (ts.take (i.1 + 1)) = 0 := by rw [t7 _ hi, if_pos i.2, h2']
    refine Y66 ?_
    refine ⟨⟨i.1 + 1, hnext⟩, by show ts.length - (i.1 + 1) < ts.length - i.1; omega, i9 ?_ ?_⟩
    ·exact zE
    ·exact zH
  ·intro h1
   have hz1 : m6 (fun x : KT => n6 x.2 0 0) ts = 0 := by have := i.2; rwa [List.take_of_length_le (by simp at h1; omega)] at this
   refine Tri.exit ?_;refine yR ?_;refine aP6 29 ?_;refine yA ?_;refine b8 [29] ?_;refine ay8 ?_;refine Tri.block (Tri.loopW (σ := {i : Nat // ((ts.take i).map (·.1)).Nodup}) (fun i => ⟨[(2, .ptr 2 [] 26), (3, .ptr 3 [] 32), (31, .pu (.sl 0 116 (ts.map ktP))), (32, iv .i64 (ts.map ktP).length), (33, iv .i64 i.1), (8, .mp 29 28 4)], [(2, .var 26 (.pu (wdP a b ts))), (3, .var 32 (.pu (tmc 0 t))), (29, .map 28 4 (X4 (aK3 (ts.take i.1))))]⟩) (fun i => ts.length - i.1) ⟨0, by simp⟩ ?_ ?_ (fun i => ?_))
   ·exact zW
   ·exact zW
   refine Y41 ?_;refine Cq ?_ ?_
   ·intro h3
    have hi : i.1 < ts.length := by simpa using h3
    have hr1 := hr _ (List.getElem_mem hi)
    have hr2 := bV2 (fun x hx => hr x (List.mem_of_mem_take hx)) (ts := ts.take i.1)
    have hdup := ap1 (l := ts.map (·.1)) (i := i.1) (by simpa using hi)
    rw [List.map_take.symm, List.map_take.symm, List.getElem_map] at hdup
    have hget : af0 Tryz.prog SS 28 4 (l4 ts[i.1].1) (X4 (aK3 (ts.take i.1))) = some (bv (decide (ts[i.1].1 ∈ (ts.take i.1).map (·.1))), decide (ts[i.1].1 ∈ (ts.take i.1).map (·.1))) := by
     by_cases hm : ts[i.1].1 ∈ (ts.take i.1).map (·.1)
     ·rw [ai5 hr1 hr2 (by rw [at1, if_pos hm]), decide_eq_true hm]
     ·rw [aA1 (z := bv false) (by kernel_rfl) hr1 hr2 (by rw [at1, if_neg hm]), decide_eq_false hm]
    refine Y86 ?_;refine b5 (g9 SS (h0 := by omega) (hp := ab4 hi)) ?_;refine yL ?_;refine b9 SS 10 ?_;refine yS ?_;refine b8 [10] ?_;refine Y1 ?_;refine Y5 ?_;refine b5 (ar0 SS rfl rfl rfl (VImp.refl _) (al5 _) (O2 _ [] ).2.2.1 hget) ?_;refine Y0 ?_;refine Cq ?_ ?_
    ·intro h4
     have hm : ts[i.1].1 ∈ (ts.take i.1).map (·.1) := by simpa using h4
     have hnd : ¬ (ts.map (·.1)).Nodup := fun hn => by
      have h2 : ((ts.take (i.1 + 1)).map (·.1)).Nodup := by rw [List.map_take]; exact hn.sublist (List.take_sublist _ _)
      exact (hdup.1 h2).2 hm
     refine Y10 ?_;refine Rq ?_;exact c7 (by simp [d3, hts40, orE, hz1, bh9, hnd])
    ·intro h4
     have hm : ts[i.1].1 ∉ (ts.take i.1).map (·.1) := by simpa using h4
     have hnone : aa8 ts[i.1].1 (aK3 (ts.take i.1)) = none := by rw [at1, if_neg hm]
     have hnext : ((ts.take (i.1 + 1)).map (·.1)).Nodup := hdup.2 ⟨i.2, hm⟩
     refine Y87 ?_;refine Y5 ?_;refine az2 SS (u := bv true) rfl rfl rfl rfl (VImp.refl _) rfl (VImp.refl _) rfl (al5 _) (O2 _ [] ).2.2.1 (ag1 hr1 hr2 hnone) (labs := []) (fun l' h => by rw [NoLab.ok] at h; exact h) ?_;refine B5 ?_;refine Y33 ?_
     refine ⟨⟨i.1 + 1, hnext⟩, by show ts.length - (i.1 + 1) < ts.length - i.1; omega, i9 ?_ ?_⟩
     ·repeat (first | exact SubE.nil | refine SubE.cons rfl (by first | rfl | (rw [b7 (by omega) (by omega)]; rfl) | (simp only [aR1 hi, aa7])) ?_)
     ·repeat (first | exact SubH.nil | refine SubH.cons rfl (by first | rfl | (rw [b7 (by omega) (by omega)]; rfl) | (simp only [aR1 hi, aa7])) ?_)
   ·intro h3
    have hnd : (ts.map (·.1)).Nodup := by have := i.2; rwa [List.take_of_length_le (by simp at h3; omega)] at this
    refine Tri.exit ?_;refine Y4 ?_;refine Dq (aF0 t hN 0 0) ?_;refine Y2 ?_;refine Rq ?_;exact c7 (by simp [d3, hts40, orE, hz1, bh9, hnd])
end
section
variable {G : List (Nat × TypeId × Pu)}
theorem ar5 : ∀ (N : Nat) (p : Pat), l9 p ≤ N → N < 2^30 → FCallN Tryz.prog G 221 [.pu (v7 0 p)] (fun n => .pu (v7 n p)) := by
 intro N
 induction N with
 | zero => intro p h; cases p; simp [l9] at h
 | succ N ih =>
 intro p hp hN
 obtain ⟨k, n, r, ks⟩ := p
 simp only [l9] at hp
 have hlen := m4 ks
 refine FCallN.of_tri tbl 24 Tryz.func221 rfl rfl (fun _ => rfl) fun w0 M ρ0 D0 hM => ?_
 refine Y67 ?_;refine Y14 ?_;refine Y8 ?_;refine yR ?_;refine Y83 ?_;refine Y1 ?_;refine yC ?_;refine yJ ?_;refine B5 ?_
 refine Tri.ghost (Ghost.wk (env' := [(1, .ptr 1 [] 104), (2, .ptr 2 [] 104), (9, .pu (.sl 0 104 (u6 0 ks))), (10, iv .i64 (u6 0 ks).length), (11, iv .i64 0)])
  (heap' := [(1, .var 104 (.agg 104 [iv .i64 k, iv .i64 n, .pu (l4 r), .ow w0.heap.size 104 []])), (2, .var 104 (.agg 104 [iv .i64 0, iv .i64 0, .pu (l4 Z32), .nilc]))])
  (.cons rfl .refl (.cons rfl .refl (.cons rfl .refl (.cons rfl .refl (.cons rfl .refl .nil))))) (.cons rfl (.var (.agg (.cons .refl (.cons .refl (.cons .refl (.cons .nilcOw .nil)))))) (.cons rfl .refl .nil))) ?_
 refine tQ ?_
 refine Tri.block (Tri.loop (σ := Nat) (fun i => ⟨[(1, .ptr 1 [] 104), (2, .ptr 2 [] 104), (9, .pu (.sl 0 104 (u6 0 ks))), (10, iv .i64 (u6 0 ks).length), (11, iv .i64 i)],
  [(1, .var 104 (.agg 104 [iv .i64 k, iv .i64 n, .pu (l4 r), .ow w0.heap.size 104 (u6 w0.heap.size (ks.take i))])), (2, .var 104 (.agg 104 [iv .i64 0, iv .i64 0, .pu (l4 Z32), .nilc]))]⟩) (fun i => ks.length - i) 0 ?_ (fun i => ?_))
 ·exact i9 (.cons rfl rfl (.cons rfl rfl (.cons rfl rfl (.cons rfl rfl (.cons rfl rfl .nil))))) (.cons rfl rfl (.cons rfl rfl .nil))
 refine Y9 ?_;refine B5 ?_;refine Tri.seq (Tri.cond rfl (fun hb => Tri.skip ?_) (fun hb => Tri.exit ?_))
 ·have hi : i < ks.length := by simpa [t9] using hb
  refine Tri.seq (Tri.block ?_);refine yR ?_;refine b5 (g9 SS (h0 := by omega) (hp := D9 hi)) ?_;refine yL ?_;refine aC5 ?_;refine Y14 ?_;refine yL ?_;refine b5 (z9 (fun m n h => (as6 h _).imp) (fun _ => ih ks[i] (by have := q9 hi; omega) (by omega))) ?_;refine yZ ?_;refine I2 1 [3] ?_ ?_
  ·simp [t9]; omega
  refine Y94 ?_;refine Y33 ?_
  refine ⟨i + 1, by omega, i9 (.cons rfl rfl (.cons rfl rfl (.cons rfl rfl (.cons rfl rfl (.cons rfl ?_ .nil))))) (.cons rfl ?_ (.cons rfl rfl .nil))⟩
  ·rw [b7 (by omega) (by omega)]
   rfl
  ·have : u6 w0.heap.size (ks.take (i + 1)) = u6 w0.heap.size (ks.take i) ++ [v7 w0.heap.size ks[i]] := by
    rw [t9, t9, List.take_succ_eq_append_getElem hi, List.map_append]; rfl
   rw [this]
   rfl
 have hi : ks.length ≤ i := by simpa [t9] using hb
 refine Y4 ?_;refine Y16 ?_;refine Tri.ret ⟨.inr rfl, B8 rfl j6 (ToPu.imp ?_)⟩;rw [List.take_of_length_le hi]
 repeat constructor
end
section
variable {G : List (Nat × TypeId × Pu)}
theorem ay0 {α : Type} (φ : α → Bool) (c : Int) : ∀ l : List α, aC2 (fun c a => (φ a, c)) c l = (l.any φ, c)
 | [] => rfl
 | a :: l => by
  have ih := ay0 φ c l
  simp only [aC2, List.any_cons]
  cases φ a
  ·simpa using ih
  ·rfl
abbrev fV (f : FuncId) : PV := .pu (.leaf (.func (.func f) #[] #[]))
theorem bP1 (f : FuncId) (he : n9 Tryz.prog f = true) (x : Tm) (b : Bool) (h : FCall Tryz.prog G f [.pu (tmc 0 x)] (bv b)) :
  HCall Tryz.prog G 165 [.pu (tmc 0 x), .ptr 3 [] 45] [(3, .var 45 (fV f))] [] (bv (!b)) [] [] := by
 refine HCall.of_triD tbl 8 [3] Tryz.func165 rfl rfl rfl fun w0 M ρ0 D0 => ?_
 refine yR ?_;refine p7 SS 31 ?_;refine yB ?_;refine b8 [31] ?_;refine Y22 ?_;refine b5 (p6 (fun _ => h) (he := he)) ?_;refine yQ ?_;refine Y2 ?_;refine Rqz ?_;exact VImp.refl _
theorem bv4 (f : FuncId) (he : n9 Tryz.prog f = true) (φ : Tm → Bool) (ks : List Tm) (hl : ks.length < 2^60) (h : ∀ x ∈ ks, FCall Tryz.prog G f [.pu (tmc 0 x)] (bv (φ x))) :
  FCall Tryz.prog G 96 [.pu (.sl 0 32 (l8 0 ks)), fV f] (bv (ks.all φ)) := by
 have hA : ∃ r : Option Nat, r.isSome = !(ks.all φ) ∧ AnyC Tryz.prog G 165 [] [.ptr 3 [] 45] [(3, .var 45 (fV f))] (l8 0 ks) [] r [] := by
  have := AnyC.state (P := Tryz.prog) (G := G) (f := 165) (first := []) (captured := [.ptr 3 [] 45]) (HR := [(3, .var 45 (fV f))]) (tmc 0) (fun c a => (!φ a, c)) (fun _ => []) (fun _ => True) (fun _ => rfl) ks (fun a ha c _ => ⟨bP1 f he a (φ a) (h a ha), fun _ => trivial⟩) 0 trivial
  rw [ay0] at this
  obtain ⟨r, h1, h2⟩ := this
  refine ⟨r, by rw [h1, List.not_all_eq_any_not], ?_⟩
  rw [l6]; exact h2
 obtain ⟨r, hr, hA⟩ := hA
 refine Fq 9 Tryz.func96 ?_;intro w0 M ρ0 D0
 refine Y49 ?_;refine yB ?_;refine b8 [3] ?_;refine Y1 ?_;refine b5 (J7 SS) ?_;refine B7 (aE9 (lo := 0) (.fn (.func 165) [] [.ptr 3 [] 45]) (by rw [a9]; omega) hA) ?_;refine yQ ?_;refine Y2 ?_;refine Rq ?_;exact m0 (by rw [hr]; simp)
mutual
def D3 : Tm → Bool
 | .mk k _ _ ks _ => k == 2 || k == 3 || (k == 8 && bk2 ks)
def bk2 : List Tm → Bool
 | [] => true
 | t :: ts => D3 t && bk2 ts
end
theorem aC8 : ∀ ks, bk2 ks = ks.all D3
 | [] => rfl
 | t :: ts => by simp [bk2, aC8 ts]
theorem ad7 : ∀ (N : Nat) (t : Tm), a8 t ≤ N → N < 2^40 → FCall Tryz.prog G 21 [.pu (tmc 0 t)] (bv (D3 t)) := by
 intro N
 induction N with
 | zero => intro t h; have := m8 t; omega
 | succ N ih =>
 intro t hp hN
 obtain ⟨k, n, r, ks, cs⟩ := t
 simp only [a8] at hp
 have hlen := f9 ks
 refine Fq 21 Tryz.func21 ?_;intro w0 M ρ0 D0
 refine Y85 ?_;refine Y55 ?_;refine Y59 ?_;refine xI ?_;refine xM ?_;refine Y6 ?_;refine f7 zG (c8 (fun _ => bv4 21 (by kernel_rfl) D3 ks (by omega) (fun x hx => ih x (by have := o8 hx; omega) (by omega)))) ?_;refine xN ?_;refine Y79 ?_;refine Rq ?_;exact m0 (by simp only [D3, aC8])
end
section
variable {G : List (Nat × TypeId × Pu)}
mutual
def o5 (vs : List Tm) (d : Int) : Tm → Tm
 | .mk k n r ks cs =>
  if hC : k = 1 ∧ 0 ≤ IntKind.wrap .i64 (n - d) ∧ 0 < vs.length then
   if h : IntKind.wrap .i64 (n - d) < vs.length then vs[vs.length - 1 - (IntKind.wrap .i64 (n - d)).toNat]'(by omega)
   else .mk k (IntKind.wrap .i64 (n - vs.length)) r (G5 vs d k 0 ks) (E8 vs d cs)
  else .mk k n r (G5 vs d k 0 ks) (E8 vs d cs)
def G5 (vs : List Tm) (d k : Int) (i : Nat) : List Tm → List Tm
 | [] => []
 | t :: ts => o5 vs (d + j8 k i) t :: G5 vs d k (i + 1) ts
def E8 (vs : List Tm) (d : Int) : List Cs → List Cs
 | [] => []
 | c :: cs => aw0 vs d c :: E8 vs d cs
def aw0 (vs : List Tm) (d : Int) : Cs → Cs
 | .mk q t => .mk q (o5 vs (d + m7 q) t)
end
theorem O6 (vs : List Tm) (d k : Int) : ∀ (ks : List Tm) (i : Nat), (G5 vs d k i ks).length = ks.length
 | [], _ => rfl
 | t :: ts, i => by simp [G5, O6 vs d k ts]
theorem aJ0 (vs : List Tm) (d k : Int) : ∀ (ks : List Tm) (i j : Nat) (h : j < ks.length), (G5 vs d k i ks)[j]'(by rw [O6]; exact h) = o5 vs (d + j8 k ((i + j : Nat) : Int)) ks[j]
 | t :: ts, i, 0, _ => by simp [G5]
 | t :: ts, i, j + 1, h => by
  have := aJ0 vs d k ts (i + 1) j (by simpa using h)
  simp only [G5, List.getElem_cons_succ, this]
  rw [show i + 1 + j = i + (j + 1) by omega]
theorem R9 (vs : List Tm) (d : Int) : ∀ (cs : List Cs), (E8 vs d cs).length = cs.length
 | [] => rfl
 | t :: ts => by simp [E8, R9 vs d ts]
theorem aJ1 (vs : List Tm) (d : Int) : ∀ (cs : List Cs) (j : Nat) (h : j < cs.length), (E8 vs d cs)[j]'(by rw [R9]; exact h) = aw0 vs d cs[j]
 | t :: ts, 0, _ => by simp [E8]
 | t :: ts, j + 1, h => by simpa [E8] using aJ1 vs d ts j (by simpa using h)
def aH7 (lo : Nat) (out ks : List Tm) (i : Nat) : List PV := ((out.take i).map (tmc lo) ++ (ks.drop i).map (tmc 0)).map .pu
theorem bA1 (lo : Nat) (out ks : List Tm) : aH7 lo out ks 0 = (l8 0 ks).map .pu := by simp [aH7, l6]
theorem bJ6 (lo : Nat) (out ks : List Tm) (h : out.length = ks.length) {i : Nat} (hi : ks.length ≤ i) : aH7 lo out ks i = (l8 lo out).map .pu := by
 simp [aH7, l6, List.take_of_length_le (show out.length ≤ i by omega), List.drop_of_length_le hi]
theorem bJ5 (lo : Nat) (out ks : List Tm) (h : out.length = ks.length) {i : Nat} (hi : i < ks.length) : (aH7 lo out ks i)[i]? = some (.pu (tmc 0 ks[i])) := by
 unfold aH7
 rw [List.getElem?_map, List.getElem?_append_right (by simp; omega)]
 simp [List.length_take, Nat.min_eq_left (show i ≤ out.length by omega), hi]
theorem bJ4 (lo : Nat) (out ks : List Tm) (h : out.length = ks.length) {i : Nat} (hi : i < ks.length) : (aH7 lo out ks i).set i (.pu (tmc lo (out[i]'(by omega)))) = aH7 lo out ks (i + 1) := by
 unfold aH7
 have e1 : ks.drop i = ks[i] :: ks.drop (i + 1) := List.drop_eq_getElem_cons hi
 rw [List.take_succ_eq_append_getElem (show i < out.length by omega), e1]
 simp only [List.map_append, List.map_cons, List.map_nil, List.append_assoc, List.cons_append, List.nil_append, List.map_take, List.map_drop]
 rw [List.set_append_right _ _ (by simp; omega)]
 simp [List.length_take, Nat.min_eq_left (show i ≤ out.length by omega)]
instance {lo : Nat} {out ks : List Tm} {i : Nat} : NoLab (.row 32 (aH7 lo out ks i)) := NoLab.row (f := id)
theorem ae9 (k : Int) (i : Int) : 0 ≤ j8 k i ∧ j8 k i ≤ 2 := by unfold j8; split <;> (try split) <;> simp
set_option maxHeartbeats 1000000 in
theorem bK7 (vs : List Tm) (hvl : vs.length < 2^30) (hvs : ∀ v ∈ vs, FCallN Tryz.prog G 156 [.pu (tmc 0 v), iv .i64 0, .pu (.sl 0 32 [])] (fun m => .pu (tmc m v))) : ∀ (N : Nat) (t : Tm), a8 t ≤ N → N < 2^30 → ∀ d : Int, 0 ≤ d → d + 2 * a8 t ≤ 2^42 →
  FCallN Tryz.prog G 156 [.pu (tmc 0 t), iv .i64 d, .pu (.sl 0 32 (l8 0 vs))] (fun m => .pu (tmc m (o5 vs d t))) := by
 intro N
 induction N with
 | zero => intro t h; have := m8 t; omega
 | succ N ih =>
 intro t hp hN d hd0 hd1
 obtain ⟨k, n, r, ks, cs⟩ := t
 simp only [a8] at hp hd1
 have hlen := f9 ks
 have hlenc := m5 cs
 obtain ⟨out, hout⟩ : ∃ out, out = G5 vs d k 0 ks := ⟨_, rfl⟩
 have houtl : out.length = ks.length := by rw [hout, O6]
 refine FCallN.of_tri tbl 109 Tryz.func156 rfl rfl (fun _ => rfl) fun w0 M ρ0 D0 hM => ?_
 refine Y49 ?_;refine b9 SS 6 ?_;refine b8 [3, 6] ?_;refine Y13 ?_;refine yM ?_;refine yI ?_;refine Y8 ?_;refine Y24 ?_;refine Y35 ?_;refine yN ?_;refine Y69 ?_;refine xC ?_;refine Y53 ?_;refine Y0 ?_;refine Tri.cutW (σ := {n' : Int // o5 vs d (.mk k n r ks cs) = .mk k n' r (G5 vs d k 0 ks) (E8 vs d cs)}) (fun n' => ⟨[(1, iv .i64 d), (2, .pu (.sl 0 32 (l8 0 vs))), (3, .ptr 3 [] 32), (6, .ptr 6 [] 32)], [(3, .var 32 (.pu (tmc 0 (.mk k n'.1 r ks cs)))), (6, .var 32 (.agg 32 [iv .i64 0, iv .i64 0, .pu (l4 Z32), .nilc, .nilc]))]⟩) ?_ (fun n' => ?_)
 ·skip
  refine tQ ?_;refine Cq ?_ ?_
  ·intro h0
   have hC : k = 1 ∧ 0 ≤ IntKind.wrap .i64 (n - d) ∧ 0 < vs.length := by rw [a9] at h0; simp at h0; omega
   obtain ⟨m, hm⟩ : ∃ m, m = IntKind.wrap .i64 (n - d) := ⟨_, rfl⟩
   rw [← hm] at hC
   refine Y17 ?_;refine Y47 ?_;refine Cq ?_ ?_
   ·intro h1
    have h1' : IntKind.wrap .i64 (n - d) < vs.length := by rw [a9] at h1; simpa using h1
    rw [← hm] at h1'
    have hj : vs.length - 1 - m.toNat < vs.length := by omega
    have hidx : IntKind.wrap .i64 (IntKind.wrap .i64 (((l8 0 vs).length : Int) - 1) - IntKind.wrap .i64 (n - d)) = ((vs.length - 1 - m.toNat : Nat) : Int) := by
     rw [← hm, a9, b7 (n := (vs.length : Int) - 1) (by omega) (by omega), b7 (by omega) (by omega)]; omega
    have hput : o5 vs d (.mk k n r ks cs) = vs[vs.length - 1 - m.toNat] := by
     simp only [o5, ← hm]; rw [dif_pos hC, dif_pos h1']
    refine Y17 ?_;refine Y26 ?_;refine yM ?_;refine yI ?_;refine b5 (g9 SS (h0 := by rw [hidx]; omega) (hp := by rw [hidx]; exact q7 hj)) ?_;refine yL ?_;refine b5 (z9 (fun m n h => (A0 h _).imp) (fun _ => hvs _ (List.getElem_mem hj))) ?_;refine Y23 ?_;refine Rc ?_;exact VImp.of_eq (by rw [hput])
   ·intro h1
    have h1' : ¬ IntKind.wrap .i64 (n - d) < vs.length := by rw [a9] at h1; simpa using h1
    have hput : o5 vs d (.mk k n r ks cs) = .mk k (IntKind.wrap .i64 (n - (l8 0 vs).length)) r (G5 vs d k 0 ks) (E8 vs d cs) := by
     rw [hm] at hC
     simp only [o5]; rw [dif_pos hC, dif_neg h1', a9]
    refine Tri.skip ?_;refine Y13 ?_;refine yM ?_;refine Y26 ?_;refine Y83 ?_
    refine ⟨⟨_, hput⟩, ?_, ?_⟩
    ·exact zW
    ·exact zW
  ·intro h0
   have hC : ¬ (k = 1 ∧ 0 ≤ IntKind.wrap .i64 (n - d) ∧ 0 < vs.length) := fun hC => by
    obtain ⟨a, b, c⟩ := hC
    have c' : (0 : Int) < vs.length := by omega
    rw [a9] at h0
    simp [a, b, c'] at h0
    try (rw [h0] at c; simp at c)
   have hput : o5 vs d (.mk k n r ks cs) = .mk k n r (G5 vs d k 0 ks) (E8 vs d cs) := by
    simp only [o5]; rw [dif_neg hC]
   refine Tri.skip ?_
   refine ⟨⟨_, hput⟩, ?_, ?_⟩
   ·exact zW
   ·exact zW
 ·skip
  obtain ⟨n', hput⟩ := n'
  refine Y14 ?_;refine Y7 ?_;refine yA ?_;refine av1 ?_;refine Y1 ?_;refine yC ?_;refine bl9 SS (n := (l8 0 ks).length) 55 (by rw [a9]; omega) (by rw [a9]; omega) ?_;refine Y74 ?_;refine yF ?_;refine yS ?_;refine b8 [55] ?_;refine Y60 ?_;refine bI3 SS ?_;refine B5 ?_;refine Y1 ?_;refine yC ?_;refine yJ ?_;refine B5 ?_;rw [← bA1 w0.heap.size out ks];refine tQ ?_
  refine Tri.block (Tri.loopW (σ := Nat) (fun i => ⟨[(1, iv .i64 d), (2, .pu (.sl 0 32 (l8 0 vs))), (3, .ptr 3 [] 32), (6, .ptr 6 [] 32), (9, .pu (.sl 0 106 (z8 0 cs))), (62, .pu (.sl 0 32 (l8 0 ks))), (63, iv .i64 (l8 0 ks).length), (64, iv .i64 i)], [(3, .var 32 (.agg 32 [iv .i64 k, iv .i64 n', .pu (l4 r), .arr 55 32 0 (l8 0 ks).length, .nilc])), (6, .var 32 (.agg 32 [iv .i64 0, iv .i64 0, .pu (l4 Z32), .nilc, .nilc])), (55, .row 32 (aH7 w0.heap.size out ks i))]⟩) (fun i => ks.length - i) 0 ?_ ?_ (fun i => ?_))
  ·exact zW
  ·exact zW
  refine Y41 ?_;refine Cq ?_ ?_
  ·intro h2
   have hlt : i < (l8 0 ks).length := by simpa using h2
   have hi : i < ks.length := by rwa [a9] at hlt
   have hmo := ae9 k i
   have hsz := o8 (List.getElem_mem hi)
   have hrow := bJ4 w0.heap.size out ks houtl hi
   have hel : out[i]'(by omega) = o5 vs (d + j8 k i) ks[i] := by
    have := aJ0 vs d k ks 0 i hi
    rw [Nat.zero_add] at this
    rw [← this]; congr 1
   rw [hel] at hrow
   refine Y20 ?_;refine Y1 ?_;refine b5 (g9 SS (h0 := by omega) (hp := q7 hi)) ?_;refine yL ?_;refine b9 SS 11 ?_;refine yA ?_;refine yS ?_;refine b8 [11] ?_;refine Y60 ?_;refine yL ?_;refine yM ?_;refine Y5 ?_;refine yM ?_;refine Dq (bl4 k i) ?_;refine yI ?_;refine yM ?_;refine b5 (z9 (fun m n h => (A0 h _).imp) (fun _ => ih ks[i] (by omega) (by omega) (d + j8 k i) (by omega) (by omega))) ?_;refine b5 (bG5 SS) ?_;refine aH3 SS (bJ5 w0.heap.size out ks houtl hi) ?_;refine J2 ?_;refine Y33 ?_
   refine ⟨i + 1, by omega, i9 ?_ ?_⟩
   ·repeat (first | exact SubE.nil | refine SubE.cons rfl (by first | rfl | (rw [b7 (by omega) (by omega)]; rfl) | (simp only [← hrow])) ?_)
   ·repeat (first | exact SubH.nil | refine SubH.cons rfl (by first | rfl | (rw [b7 (by omega) (by omega)]; rfl) | (simp only [← hrow])) ?_)
  ·intro h2
   have hi : ks.length ≤ i := by rw [a9] at h2; simpa using h2
   rw [bJ6 _ _ _ houtl hi];refine Tri.exit ?_;refine Tri.freeze (lo := w0.heap.size) (l := 55) (E := 32) (ps := l8 w0.heap.size out) (env' := [(1, iv .i64 d), (2, .pu (.sl 0 32 (l8 0 vs))), (3, .ptr 3 [] 32), (6, .ptr 6 [] 32), (9, .pu (.sl 0 106 (z8 0 cs)))]) (heap' := [(3, .var 32 (.agg 32 [iv .i64 k, iv .i64 n', .pu (l4 r), .pu (.sl w0.heap.size 32 (l8 w0.heap.size out)), .nilc])), (6, .var 32 (.agg 32 [iv .i64 0, iv .i64 0, .pu (l4 Z32), .nilc, .nilc]))]) rfl (.inr ⟨Nat.le_refl _, hM⟩) ?_ (h2 := .cons rfl rfl (by simp [aL4, at8, bD2, a9, houtl]) (.cons rfl rfl rfl .nil));refine Y1 ?_;refine Y43 ?_
   refine Tri.block (Tri.loopW (σ := Nat) (fun i => ⟨[(1, iv .i64 d), (2, .pu (.sl 0 32 (l8 0 vs))), (3, .ptr 3 [] 32), (6, .ptr 6 [] 32), (83, .pu (.sl 0 106 (z8 0 cs))), (84, iv .i64 (z8 0 cs).length), (85, iv .i64 i)], [(3, .var 32 (.agg 32 [iv .i64 k, iv .i64 n', .pu (l4 r), .pu (.sl w0.heap.size 32 (l8 w0.heap.size out)), .ow w0.heap.size 106 (z8 w0.heap.size ((E8 vs d cs).take i))])), (6, .var 32 (.agg 32 [iv .i64 0, iv .i64 0, .pu (l4 Z32), .nilc, .nilc]))]⟩) (fun i => cs.length - i) 0 ?_ ?_ (fun i => ?_))
   ·exact zW
   ·exact zW
   refine Y41 ?_;refine Cq ?_ ?_
   ·intro h3
    have hi : i < cs.length := by rw [j3] at h3; simpa using h3
    have hsz := B0 (List.getElem_mem hi)
    have hget := G2 (lo := 0) hi
    have hpc := aJ1 vs d cs i hi
    generalize hci : cs[i] = ci at hget hsz hpc
    obtain ⟨q, b⟩ := ci
    simp only [p9] at hsz
    have hbb := y5 q
    have hcs : z8 w0.heap.size ((E8 vs d cs).take (i + 1)) = z8 w0.heap.size ((E8 vs d cs).take i) ++ [J3 w0.heap.size (.mk q (o5 vs (d + m7 q) b))] := by
     rw [A9, A9, List.take_succ_eq_append_getElem (by rw [R9]; exact hi), List.map_append, hpc]; rfl
    refine Y86 ?_;refine Xq hget ?_;refine yL ?_;refine b9 SS 13 ?_;refine yS ?_;refine b8 [13] ?_;refine Y14 ?_;refine Y5 ?_;refine b5 (z9 (fun m n h => (as6 h _).imp) (fun _ => ar5 _ q (Nat.le_refl _) (by omega))) ?_;refine Y5 ?_;refine yM ?_;refine Y5 ?_;refine Dq (ba5 _ q (Nat.le_refl _) (by omega)) ?_;refine yI ?_;refine yM ?_;refine b5 (z9 (fun m n h => (A0 h _).imp) (fun _ => ih b (by omega) (by omega) (d + m7 q) (by omega) (by omega))) ?_;refine yP ?_;refine yZ ?_;refine I2 3 [4] ?_ ?_
    ·simp [A9, R9]; omega
    refine Y94 ?_;refine Y33 ?_
    refine ⟨i + 1, by omega, i9 ?_ ?_⟩
    ·repeat (first | exact SubE.nil | refine SubE.cons rfl (by first | rfl | (rw [b7 (by omega) (by omega)]; rfl) | (rw [hcs]; rfl)) ?_)
    ·repeat (first | exact SubH.nil | refine SubH.cons rfl (by first | rfl | (rw [b7 (by omega) (by omega)]; rfl) | (rw [hcs]; rfl)) ?_)
   ·intro h3
    have hi : cs.length ≤ i := by rw [j3] at h3; simpa using h3
    rw [List.take_of_length_le (by rw [R9]; exact hi)];refine Tri.exit ?_;refine aq6 ?_;refine Rc ?_;exact (by rw [hput, ← hout]; exact ToPu.imp (by repeat constructor))
mutual
theorem aI9 (d : Int) : ∀ t : Tm, o5 [] d t = t
 | .mk k n r ks cs => by
  simp only [o5, List.length_nil, Nat.lt_irrefl, and_false, dite_false]
  rw [bc9 d k ks 0, bd2 d cs]
theorem bc9 (d k : Int) : ∀ (ks : List Tm) (i : Nat), G5 [] d k i ks = ks
 | [], _ => rfl
 | t :: ts, i => by simp only [G5]; rw [aI9 _ t, bc9 d k ts (i + 1)]
theorem bd2 (d : Int) : ∀ (cs : List Cs), E8 [] d cs = cs
 | [] => rfl
 | c :: cs => by simp only [E8]; rw [bK8 d c, bd2 d cs]
theorem bK8 (d : Int) : ∀ (c : Cs), aw0 [] d c = c
 | .mk q t => by simp only [aw0]; rw [aI9 _ t]
end
theorem bK9 (t : Tm) (h : a8 t < 2^30) : FCallN Tryz.prog G 156 [.pu (tmc 0 t), iv .i64 0, .pu (.sl 0 32 [])] (fun m => .pu (tmc m t)) := by
 have := bK7 (G := G) [] (by simp) (fun v hv => by cases hv) _ t (Nat.le_refl _) h 0 (by omega) (by omega)
 rwa [aI9] at this
theorem bc7 (vs : List Tm) (hvl : vs.length < 2^30) (hvs : ∀ v ∈ vs, a8 v < 2^30) (t : Tm) (h : a8 t < 2^30) : FCallN Tryz.prog G 156 [.pu (tmc 0 t), iv .i64 0, .pu (.sl 0 32 (l8 0 vs))] (fun m => .pu (tmc m (o5 vs 0 t))) :=
 bK7 vs hvl (fun v hv => bK9 v (hvs v hv)) _ t (Nat.le_refl _) h 0 (by omega) (by omega)
theorem bd7 (t : Tm) (h : a8 t < 2^30) : FCallN Tryz.prog G 114 [.pu (tmc 0 t)] (fun m => .pu (tmc m t)) := by
 refine FCallN.of_tri tbl 5 Tryz.func114 rfl rfl (fun _ => rfl) fun w0 M ρ0 D0 hM => ?_
 refine Y67 ?_;refine Y4 ?_;refine b5 (z9 (fun m n h => (A0 h _).imp) (fun _ => bK9 t h)) ?_;refine Y23 ?_;refine Rc ?_;exact ToPu.imp (by repeat constructor)
end
section
variable {G : List (Nat × TypeId × Pu)}
def Tm.kind : Tm → Int
 | .mk k _ _ _ _ => k
def Tm.num : Tm → Int
 | .mk _ n _ _ _ => n
def Tm.ref : Tm → List Int
 | .mk _ _ r _ _ => r
def Tm.kids : Tm → List Tm
 | .mk _ _ _ ks _ => ks
def Tm.cases : Tm → List Cs
 | .mk _ _ _ _ cs => cs
def J1 (a b : List Tm × Bool) : List Tm × Bool := if a.2 && b.2 then (a.1 ++ b.1, true) else ([], false)
mutual
def p5 : Pat → Tm → List Tm × Bool
 | .mk k n r ks, v => if k = 1 then ([v], true) else if k = 2 then ([], v.kind == 2 && v.num == n)
  else if k = 3 then (if v.kind != 8 || !(v.ref == r) || v.num != n || ((v.kids.length : Int) != ks.length) then ([], false) else r8 ks v.kids) else ([], false)
def r8 : List Pat → List Tm → List Tm × Bool
 | [], _ => ([], true)
 | _ :: _, [] => ([], false)
 | p :: ps, v :: vs => J1 (p5 p v) (r8 ps vs)
end
mutual
theorem ap7 : ∀ (p : Pat) (v : Tm), (p5 p v).1.length ≤ a8 v
 | .mk k n r ks, v => by
  have hv := m8 v
  simp only [p5]
  split
  ·simp; omega
  ·split
   ·simp
   ·split
    ·split
     ·simp
     ·have := aE7 ks v.kids
      obtain ⟨k', n', r', ks', cs'⟩ := v
      simp only [Tm.kids, a8] at this ⊢
      omega
    ·simp
theorem aE7 : ∀ (ps : List Pat) (vs : List Tm), (r8 ps vs).1.length ≤ d7 vs
 | [], vs => by simp [r8]
 | _ :: _, [] => by simp [r8]
 | p :: ps, v :: vs => by
  have h1 := ap7 p v
  have h2 := aE7 ps vs
  simp only [r8, J1, d7]
  split
  ·simp; omega
  ·simp
end
theorem ap8 : ∀ {ps : List Pat} {vs : List Tm} {i : Nat} (h : i < ps.length) (h2 : i < vs.length), r8 (ps.take (i + 1)) (vs.take (i + 1)) = J1 (r8 (ps.take i) (vs.take i)) (p5 ps[i] vs[i])
 | p :: ps, v :: vs, 0, _, _ => by
  simp only [List.take_zero, List.take_succ_cons, r8, List.getElem_cons_zero]
  rcases p5 p v with ⟨l, b⟩
  cases b <;> simp [J1]
 | p :: ps, v :: vs, i + 1, h, h2 => by
  have h' : i < ps.length := by simpa using h
  have h2' : i < vs.length := by simpa using h2
  have ih := ap8 (ps := ps) (vs := vs) (i := i) h' h2'
  simp only [List.take_succ_cons, r8, List.getElem_cons_succ, ih]
  rcases p5 p v with ⟨l, b⟩
  rcases r8 (ps.take i) (vs.take i) with ⟨l2, b2⟩
  rcases p5 ps[i] vs[i] with ⟨l3, b3⟩
  cases b <;> cases b2 <;> cases b3 <;> simp [J1]
theorem ap9 : ∀ {ps : List Pat} {vs : List Tm} {i : Nat}, (r8 (ps.take i) (vs.take i)).2 = false → r8 ps vs = ([], false)
 | [], vs, i, h => by simp [r8] at h
 | p :: ps, vs, 0, h => by simp [r8] at h
 | p :: ps, [], i + 1, h => by simp [r8]
 | p :: ps, v :: vs, i + 1, h => by
  simp only [List.take_succ_cons, r8] at h ⊢
  rcases hpv : p5 p v with ⟨l, b⟩
  rw [hpv] at h
  cases b
  ·simp [J1]
  ·have : (r8 (ps.take i) (vs.take i)).2 = false := by
    rcases hq : r8 (ps.take i) (vs.take i) with ⟨l2, b2⟩
    cases b2
    ·rfl
    ·rw [hq] at h; revert h; simp only [J1]; split <;> simp_all
   rw [ap9 this]
   simp [J1]
abbrev bW8 (m : Nat) (x : List Tm × Bool) : PV := .tup [.pu (.sl m 32 (l8 m x.1)), bv x.2]
theorem aL6 {P : Program} {m n : Nat} (h : n ≤ m) (x : List Tm × Bool) : VImp P (bW8 m x) (bW8 n x) := VImps.tup (.cons (Low.imp (.sl h (ab6 h _))) (.cons (VImp.refl _) .nil)) (O7 rfl)
theorem bO8 : ∀ (N : Nat) (p : Pat), l9 p ≤ N → ∀ (t : Tm), a8 t < 2^30 → FCallN Tryz.prog G 138 [.pu (v7 0 p), .pu (tmc 0 t)] (fun m => bW8 m (p5 p t)) := by
 intro N
 induction N with
 | zero => intro p h; cases p; simp [l9] at h
 | succ N ih =>
 intro p hp t hN
 obtain ⟨k, n, r, ks⟩ := p
 obtain ⟨k', n', r', ks', cs'⟩ := t
 simp only [l9] at hp
 have hsz : 1 + d7 ks' + f6 cs' < 2^30 := by simpa only [a8] using hN
 have hlen := m4 ks
 have hlen' := f9 ks'
 refine FCallN.of_tri tbl 83 Tryz.func138 rfl rfl (fun _ => rfl) fun w0 M ρ0 D0 hM => ?_
 refine Tri.fact (i := 0) rfl (fun D w x h => W8 h) (fun hr => ?_);refine Tri.fact (i := 1) rfl (fun D w x h => ab7 h) (fun hr' => ?_)
 simp only [wfP, wfT] at hr hr'
 refine Y73 ?_;refine yB ?_;refine b8 [2, 3] ?_;refine Y13 ?_;refine Y0 ?_;refine Tri.block ?_;refine Y18 ?_;refine Cq ?_ ?_
 ·intro h0
  have hf : p5 (.mk k n r ks) (.mk k' n' r' ks' cs') = ([.mk k' n' r' ks' cs'], true) := by simp at h0; simp [p5, h0]
  refine Y4 ?_;refine b5 (z9 (fun m n h => (A0 h _).imp) (fun _ => bd7 (.mk k' n' r' ks' cs') hN)) ?_;refine aU8 SS (lo := w0.heap.size) ?_;refine yA ?_;refine Y25 ?_;rw [hf];exact Tri.ret ⟨.inr rfl, q8 rfl b4 (ToPu.imp (by repeat constructor)) b4 (VImp.refl _)⟩
 ·intro h0
  refine Y18 ?_;refine Cq ?_ ?_
  ·intro h1
   have hf : p5 (.mk k n r ks) (.mk k' n' r' ks' cs') = ([], k' == 2 && n' == n) := by simp at h1; simp [p5, h1, Tm.kind, Tm.num]
   refine Y24 ?_;refine Y39 ?_;refine Y53 ?_;refine yB ?_;refine yA ?_;refine Y42 ?_;rw [hf];exact Tri.ret ⟨.inr rfl, q8 rfl b4 (ToPu.imp (by repeat constructor)) b4 (VImp.refl _)⟩
  ·intro h1
   refine Y18 ?_;refine Cq ?_ ?_
   ·intro h2
    refine Y24 ?_;refine Y39 ?_;refine f7 zG (D4 SS (h := ag4 (hr'.1.trans hr.1.symm))) ?_;refine yO ?_;refine Y39 ?_;refine Y59 ?_;refine xC ?_;refine Y6 ?_;refine xC ?_;refine Y29 ?_;refine Y0 ?_;refine Cq ?_ ?_
    ·intro h3
     have hf : p5 (.mk k n r ks) (.mk k' n' r' ks' cs') = ([], false) := by
      rw [a9, f5] at h3
      simp only [beq_iff_eq] at h2
      rw [h2]
      show (if (k' != 8 || !(r' == r) || n' != n || ((ks'.length : Int) != ks.length)) = true then (([], false) : List Tm × Bool) else r8 ks ks') = _
      exact if_pos h3
     refine aq5 ?_;rw [hf];exact Tri.ret ⟨.inr rfl, q8 rfl b4 (ToPu.imp (by repeat constructor)) b4 (VImp.refl _)⟩
    ·intro h3
     have hf : p5 (.mk k n r ks) (.mk k' n' r' ks' cs') = r8 ks ks' := by
      rw [a9, f5] at h3
      simp only [beq_iff_eq] at h2
      rw [h2]
      show (if (k' != 8 || !(r' == r) || n' != n || ((ks'.length : Int) != ks.length)) = true then (([], false) : List Tm × Bool) else r8 ks ks') = _
      exact if_neg (by rw [h3]; simp)
     have hll : ks'.length = ks.length := by
      rw [a9, f5] at h3
      simp only [Bool.or_eq_false_iff, bne_eq_false_iff_eq] at h3
      omega
     refine Tri.skip ?_;refine Y21 ?_;refine ay8 ?_;refine Tri.block (Tri.loopW (σ := {x : Nat × List Tm // r8 (ks.take x.1) (ks'.take x.1) = (x.2, true)}) (fun i => ⟨[(2, .ptr 2 [] 104), (3, .ptr 3 [] 32), (6, .ow w0.heap.size 32 (l8 w0.heap.size i.1.2)), (59, .pu (.sl 0 104 (u6 0 ks))), (60, iv .i64 (u6 0 ks).length), (61, iv .i64 i.1.1)], [(2, .var 104 (.pu (v7 0 (.mk k n r ks)))), (3, .var 32 (.pu (tmc 0 (.mk k' n' r' ks' cs'))))]⟩) (fun i => ks.length - i.1.1) ⟨(0, []), by simp [r8]⟩ ?_ ?_ (fun i => ?_))
     ·exact zk2
     ·exact zk2
     refine Y41 ?_;refine Cq ?_ ?_
     ·intro h4
      have hi : i.1.1 < ks.length := by rw [f5] at h4; simpa using h4
      have hi' : i.1.1 < ks'.length := by omega
      have htk := ap8 hi hi'
      rw [i.2] at htk
      have hsp := q9 hi
      have hst := o8 (List.getElem_mem hi')
      refine Y20 ?_;refine Y1 ?_;refine b5 (g9 SS (h0 := by omega) (hp := D9 hi)) ?_;refine yL ?_;refine b9 SS 8 ?_;refine yA ?_;refine yS ?_;refine b8 [8] ?_;refine Y4 ?_;refine Y68 ?_;refine b5 (g9 SS (h0 := by omega) (hp := q7 hi')) ?_;refine yL ?_;refine b5 (z9 (fun m n h => aL6 h _) (fun _ => ih ks[i.1.1] (by omega) ks'[i.1.1] (by omega))) ?_;refine Y28 ?_;refine yA ?_;refine av1 ?_;refine Y1 ?_;refine Y98 ?_;refine Cq ?_ ?_
      ·intro h5
       have hf2 : r8 ks ks' = ([], false) := ap9 (i := i.1.1 + 1) (by
        rw [htk]; simp at h5; simp [J1, h5])
       rw [hf2] at hf
       refine aq5 ?_;rw [hf];exact Tri.ret ⟨.inr rfl, q8 rfl b4 (ToPu.imp (by repeat constructor)) b4 (VImp.refl _)⟩
      ·intro h5
       have hnext : r8 (ks.take (i.1.1 + 1)) (ks'.take (i.1.1 + 1)) = (i.1.2 ++ (p5 ks[i.1.1] ks'[i.1.1]).1, true) := by
        rw [htk]; simp at h5; simp [J1, h5]
       refine Tri.skip ?_;refine Y17 ?_;refine aH4 6 ?_ ?_
       ·have h1 := aE7 (ks.take i.1.1) (ks'.take i.1.1)
        have h2 := ap7 ks[i.1.1] ks'[i.1.1]
        have h3 := aa2 (ks := ks') (i := i.1.1)
        rw [i.2] at h1
        simp only [a9] at h1 ⊢
        omega
       refine Y8 ?_;refine Y33 ?_
       refine ⟨⟨(i.1.1 + 1, i.1.2 ++ (p5 ks[i.1.1] ks'[i.1.1]).1), hnext⟩, by show ks.length - (i.1.1 + 1) < ks.length - i.1.1; omega, i9 ?_ ?_⟩
       ·repeat (first | exact SubE.nil | refine SubE.cons rfl (by first | rfl | (rw [b7 (by omega) (by omega)]; rfl) | (simp only [l6, List.map_append])) ?_)
       ·repeat (first | exact SubH.nil | refine SubH.cons rfl (by first | rfl | (rw [b7 (by omega) (by omega)]; rfl) | (simp only [l6, List.map_append])) ?_)
     ·intro h4
      have hf2 : r8 ks ks' = (i.1.2, true) := by
       have := i.2
       rwa [List.take_of_length_le (by rw [f5] at h4; simp at h4; omega), List.take_of_length_le (by rw [f5] at h4; simp at h4; omega)] at this
      rw [hf2] at hf
      refine Tri.exit ?_;refine Y1 ?_;refine yA ?_;refine Y25 ?_;rw [hf];exact Tri.ret ⟨.inr rfl, q8 rfl b4 (ToPu.imp (by repeat constructor)) b4 (VImp.refl _)⟩
   ·intro h2
    have hf : p5 (.mk k n r ks) (.mk k' n' r' ks' cs') = ([], false) := by
     simp at h0 h1 h2
     simp [p5, h0, h1, h2]
    refine Tri.skip ?_;refine aq5 ?_;rw [hf];exact Tri.ret ⟨.inr rfl, q8 rfl b4 (ToPu.imp (by repeat constructor)) b4 (VImp.refl _)⟩
end
section
variable {G : List (Nat × TypeId × Pu)}
def aV8 (n : Int) : Tm := .mk 2 n Z32 [] []
def H9 (op a b : Int) : Int :=
 if op = 1 then IntKind.wrap .i64 (a + b) else if op = 2 then IntKind.wrap .i64 (a - b) else if op = 3 then IntKind.wrap .i64 (a * b)
 else if op = 4 then (if a = b then 1 else 0) else if op = 5 then (if a < b then 1 else 0) else 0
def ak2 (x : Int) : Int := if 1073741824 < (if x < 0 then 0 else x) then 1073741824 else (if x < 0 then 0 else x)
def as4 (op a b : Int) : Tm := aV8 (ak2 (H9 op a b))
theorem az9 {P : Program} (m : Nat) (op a b : Int) {x : Int} (xk yk : Int) (xr yr : List Int) (xs ys : List Tm) (xc yc : List Cs) (h : x = H9 op a b) :
  VImp P (.agg 32 [iv .i64 2, iv .i64 (if 1073741824 < (if x < 0 then 0 else x) then 1073741824 else (if x < 0 then 0 else x)), .pu (l4 Z32), .nilc, .nilc]) (.pu (tmc m (as4 op (Tm.mk xk a xr xs xc).num (Tm.mk yk b yr ys yc).num))) := by
 subst h;exact ToPu.imp (by unfold as4 aV8 ak2 Tm.num; repeat constructor)
theorem ce6 (k n : Int) (r : List Int) (ks : List Tm) (cs : List Cs) (h2 : 2 ≤ ks.length) : FCallN Tryz.prog G 159 [.pu (tmc 0 (.mk k n r ks cs))] (fun m => .pu (tmc m (as4 n ks[0].num ks[1].num))) := by
 have hg0 := q7 (lo := 0) (ks := ks) (i := 0) (by omega)
 have hg1 := q7 (lo := 0) (ks := ks) (i := 1) (by omega)
 generalize ks[0] = x at hg0 ⊢
 generalize ks[1] = y at hg1 ⊢
 obtain ⟨xk, xn, xr, xs, xc⟩ := x
 obtain ⟨yk, yn, yr, ys, yc⟩ := y
 refine FCallN.of_tri tbl 47 Tryz.func159 rfl rfl (fun _ => rfl) fun w0 M ρ0 D0 hM => ?_
 refine Y67 ?_;refine Y14 ?_;refine Xq hg0 ?_;refine Y5 ?_;refine Y7 ?_;refine Xq hg1 ?_;refine Y5 ?_;refine yA ?_;refine av1 ?_;refine Y21 ?_;refine Y13 ?_;refine Y0 ?_;refine Tri.block ?_;refine Y18 ?_;refine Cq ?_ ?_
 ·intro h0
  refine Y62 ?_;refine Y8 ?_;refine Y1 ?_;refine b5 (I5) ?_;refine b5 (N0) ?_;refine Y75 ?_;refine Rc ?_;exact (by first | exact az9 _ _ _ _ _ _ _ _ _ _ _ _ (by simp only [beq_iff_eq, beq_eq_false_iff_ne, ne_eq, decide_eq_true_eq, decide_eq_false_iff_not] at *; simp_all [H9]))
 ·intro h0
  refine Y18 ?_;refine Cq ?_ ?_
  ·intro h1
   refine Y62 ?_;refine Y8 ?_;refine Y1 ?_;refine b5 (I5) ?_;refine b5 (N0) ?_;refine Y75 ?_;refine Rc ?_;exact (by first | exact az9 _ _ _ _ _ _ _ _ _ _ _ _ (by simp only [beq_iff_eq, beq_eq_false_iff_ne, ne_eq, decide_eq_true_eq, decide_eq_false_iff_not] at *; simp_all [H9]))
  ·intro h1
   refine Y18 ?_;refine Cq ?_ ?_
   ·intro h2
    refine Y62 ?_;refine Y8 ?_;refine Y1 ?_;refine b5 (I5) ?_;refine b5 (N0) ?_;refine Y75 ?_;refine Rc ?_;exact (by first | exact az9 _ _ _ _ _ _ _ _ _ _ _ _ (by simp only [beq_iff_eq, beq_eq_false_iff_ne, ne_eq, decide_eq_true_eq, decide_eq_false_iff_not] at *; simp_all [H9]))
   ·intro h2
    refine Y18 ?_;refine Cq ?_ ?_
    ·intro h3
     refine Y62 ?_;refine Y0 ?_;refine Cq ?_ ?_
     ·intro h4
      refine Y71 ?_;refine b5 (I5) ?_;refine b5 (N0) ?_;refine Y75 ?_;refine Rc ?_;exact (by first | exact az9 _ _ _ _ _ _ _ _ _ _ _ _ (by simp only [beq_iff_eq, beq_eq_false_iff_ne, ne_eq, decide_eq_true_eq, decide_eq_false_iff_not] at *; simp_all [H9]))
     ·intro h4
      refine Y87 ?_;refine b5 (I5) ?_;refine b5 (N0) ?_;refine Y75 ?_;refine Rc ?_;exact (by first | exact az9 _ _ _ _ _ _ _ _ _ _ _ _ (by simp only [beq_iff_eq, beq_eq_false_iff_ne, ne_eq, decide_eq_true_eq, decide_eq_false_iff_not] at *; simp_all [H9]))
    ·intro h3
     refine Y18 ?_;refine Cq ?_ ?_
     ·intro h5
      refine Y62 ?_;refine Y0 ?_;refine Cq ?_ ?_
      ·intro h6
       refine Y71 ?_;refine b5 (I5) ?_;refine b5 (N0) ?_;refine Y75 ?_;refine Rc ?_;exact (by first | exact az9 _ _ _ _ _ _ _ _ _ _ _ _ (by simp only [beq_iff_eq, beq_eq_false_iff_ne, ne_eq, decide_eq_true_eq, decide_eq_false_iff_not] at *; simp_all [H9]))
      ·intro h6
       refine Y87 ?_;refine b5 (I5) ?_;refine b5 (N0) ?_;refine Y75 ?_;refine Rc ?_;exact (by first | exact az9 _ _ _ _ _ _ _ _ _ _ _ _ (by simp only [beq_iff_eq, beq_eq_false_iff_ne, ne_eq, decide_eq_true_eq, decide_eq_false_iff_not] at *; simp_all [H9]))
     ·intro h5
      refine Y87 ?_;refine b5 (I5) ?_;refine b5 (N0) ?_;refine Y75 ?_;refine Rc ?_;exact (by first | exact az9 _ _ _ _ _ _ _ _ _ _ _ _ (by simp only [beq_iff_eq, beq_eq_false_iff_ne, ne_eq, decide_eq_true_eq, decide_eq_false_iff_not] at *; simp_all [H9]))
def j7 : Tm := .mk 0 0 Z32 [] []
def u7 : List Cs → Tm → Tm
 | [], _ => j7
 | .mk q b :: cs, v => if (p5 q v).2 then o5 (p5 q v).1 0 b else u7 cs v
mutual
theorem at9 : ∀ (p : Pat) (v : Tm), ∀ x ∈ (p5 p v).1, a8 x ≤ a8 v
 | .mk k n r ks, v, x, hx => by
  simp only [p5] at hx
  split at hx
  ·simp at hx; rw [hx]; omega
  ·split at hx
   ·simp at hx
   ·split at hx
    ·split at hx
     ·simp at hx
     ·have := bg7 ks v.kids x hx
      obtain ⟨k', n', r', ks', cs'⟩ := v
      simp only [Tm.kids, a8] at this ⊢
      omega
    ·simp at hx
theorem bg7 : ∀ (ps : List Pat) (vs : List Tm), ∀ x ∈ (r8 ps vs).1, a8 x ≤ d7 vs
 | [], vs, x, hx => by simp [r8] at hx
 | _ :: _, [], x, hx => by simp [r8] at hx
 | p :: ps, v :: vs, x, hx => by
  simp only [r8, J1] at hx
  simp only [d7]
  split at hx
  ·rcases List.mem_append.1 hx with h | h
   ·have := at9 p v x h; omega
   ·have := bg7 ps vs x h; omega
  ·simp at hx
end
theorem aR2 (k n : Int) (r : List Int) (ks : List Tm) (cs : List Cs) (h1 : 1 ≤ ks.length) (hN : a8 (.mk k n r ks cs) < 2^30) : FCallN Tryz.prog G 160 [.pu (tmc 0 (.mk k n r ks cs))] (fun m => .pu (tmc m (u7 cs ks[0]))) := by
 have hg0 := q7 (lo := 0) (ks := ks) (i := 0) (by omega)
 have hs0 := o8 (List.getElem_mem (l := ks) (n := 0) (by omega))
 generalize ks[0] = v at hg0 hs0 ⊢
 have hsz : 1 + d7 ks + f6 cs < 2^30 := by simpa only [a8] using hN
 have hlenc := m5 cs
 refine FCallN.of_tri tbl 31 Tryz.func160 rfl rfl (fun _ => rfl) fun w0 M ρ0 D0 hM => ?_
 refine Y67 ?_;refine ay8 ?_;refine Tri.block (Tri.loopW (σ := {i : Nat // u7 cs v = u7 (cs.drop i) v}) (fun i => ⟨[(1, .ptr 1 [] 32), (2, .ptr 2 [] 32), (8, .pu (.sl 0 106 (z8 0 cs))), (9, iv .i64 (z8 0 cs).length), (10, iv .i64 i.1)], [(1, .var 32 (.pu (tmc 0 (.mk k n r ks cs)))), (2, .var 32 (.agg 32 [iv .i64 0, iv .i64 0, .pu (l4 Z32), .nilc, .nilc]))]⟩) (fun i => cs.length - i.1) ⟨0, rfl⟩ ?_ ?_ (fun i => ?_))
 ·exact zW
 ·exact zW
 refine Y41 ?_;refine Cq ?_ ?_
 ·intro h0
  have hi : i.1 < cs.length := by rw [j3] at h0; simpa using h0
  have hget := G2 (lo := 0) hi
  have hcz := B0 (List.getElem_mem hi)
  have hdrop := i.2
  rw [List.drop_eq_getElem_cons hi] at hdrop
  generalize hci : cs[i.1] = ci at hget hcz hdrop
  obtain ⟨q, b⟩ := ci
  simp only [p9] at hcz
  have hfb := ap7 q v
  refine Y86 ?_;refine Xq hget ?_;refine yL ?_;refine b9 SS 4 ?_;refine yS ?_;refine b8 [4] ?_;refine Y13 ?_;refine Y7 ?_;refine Xq hg0 ?_;refine yL ?_;refine b5 (z9 (fun m n h => aL6 h _) (fun _ => bO8 _ q (Nat.le_refl _) v (by omega))) ?_;refine Y28 ?_;refine yA ?_;refine av1 ?_;refine Y1 ?_;refine Y0 ?_;refine Cq ?_ ?_
  ·intro h1
   have hm : u7 cs v = o5 (p5 q v).1 0 b := hdrop.trans (by simp only [u7, h1, if_true])
   refine Y13 ?_;refine yM ?_;refine b5 (z9 (fun m n h => (A0 h _).imp) (fun _ => bc7 (p5 q v).1 (by omega) (fun x hx => by have := at9 q v x hx; omega) b (by omega)) (himp := .cons (VImp.refl _) (.cons (VImp.refl _) (.cons (Low.imp (.sl (Nat.zero_le _) (ab6 (Nat.zero_le _) _))) .nil)))) ?_;refine Y23 ?_;refine Rc ?_;exact (by rw [hm]; exact VImp.refl _)
  ·intro h1
   have hnext : u7 cs v = u7 (cs.drop (i.1 + 1)) v := hdrop.trans (by simp only [u7, h1, Bool.false_eq_true, if_false])
   refine Y66 ?_
   refine ⟨⟨i.1 + 1, hnext⟩, by show cs.length - (i.1 + 1) < cs.length - i.1; omega, i9 ?_ ?_⟩
   ·exact zE
   ·exact zH
 ·intro h0
  have hm : u7 cs v = j7 := by have := i.2; rwa [List.drop_of_length_le (by rw [j3] at h0; simp at h0; omega)] at this
  refine Tri.exit ?_;refine Y51 ?_;refine Y23 ?_;refine Rc ?_;exact (by rw [hm]; exact ToPu.imp (by repeat constructor))
end
section
variable {G : List (Nat × TypeId × Pu)}
def r0 (path : List Nat) : List Pu := path.map fun (n : Nat) => .leaf (.int .i64 (n : Int))
def G7 (path : List Nat) (way : List Tm) : Pu := .agg 147 [.sl 0 3 (r0 path), .sl 0 32 (l8 0 way)]
instance (path : List Nat) (way : List Tm) : TyV Tryz.prog 147 (.pu (G7 path way)) := inferInstanceAs (TyV Tryz.prog 147 (.pu (.agg _ _)))
theorem t8 (path : List Nat) : (r0 path).length = path.length := by simp [r0]
theorem ac3 {path : List Nat} {i : Nat} (h : i < path.length) : (r0 path)[i]? = some (.leaf (.int .i64 (path[i] : Nat))) := by simp [r0, h]
theorem br3 {D : Nat → Nat → Prop} {w : World} {path : List Nat} {way : List Tm} {x : List Value} (h : PR Tryz.prog D w (G7 path way) x) : bF6 way := by
 obtain ⟨_, h⟩ := Z7 h
 obtain ⟨_, _, _, h⟩ := n8 h
 obtain ⟨⟨_, h⟩, _⟩ := n8 h
 obtain ⟨_, _, h⟩ := aT0 h
 exact bk6 h
theorem aY1 (path : List Nat) (way : List Tm) (h : path.length < way.length) : FCall Tryz.prog G 154 [.pu (G7 path way)] (.pu (tmc 0 way[path.length])) := by
 refine Fq 10 Tryz.func154 ?_;intro w0 M ρ0 D0
 refine Y67 ?_;refine Y14 ?_;refine Y7 ?_;refine yC ?_;refine b5 (g9 SS (h0 := by omega) (hp := by rw [t8]; exact q7 h)) ?_;refine yL ?_;refine Y23 ?_;refine Rc ?_;exact VImp.refl _
def opP (r : List Int) (n : Int) : Pu := .agg 227 [l4 r, .leaf (.int .i64 n)]
instance (r : List Int) (n : Int) : TyV Tryz.prog 227 (.pu (opP r n)) := inferInstanceAs (TyV Tryz.prog 227 (.pu (.agg _ _)))
theorem bV0 (r : List Int) (n : Int) (r' : List Int) (n' : Int) : Tryz.prog.eqGuardType Tryz.prog.depth 227 = false ∧ 227 < Tryz.prog.types.size ∧ tyP Tryz.prog 227 (opP r n) = true ∧ tyP Tryz.prog 227 (opP r' n') = true :=
 ⟨by kernel_rfl, of_decide_eq_true (by kernel_rfl), (show tyV Tryz.prog 227 (.pu (opP r n)) = true from TyV.ok), (show tyV Tryz.prog 227 (.pu (opP r' n')) = true from TyV.ok)⟩
theorem bM6 {α : Type} : ∀ {l : List α}, l.length = 2 → ∃ a b, l = [a, b]
 | [a, b], _ => ⟨a, b, rfl⟩
theorem bB7 : ∃ f1 f2 : Field, Tryz.prog.underlying 227 = some (.struct #[f1, f2]) ∧ f1.name ≠ "_" ∧ f2.name ≠ "_" ∧ f1.type = 28 ∧ f2.type = 3 := by
 have h : (match Tryz.prog.underlying 227 with | some (.struct fs) => (fs.toList.map (·.type) == [28, 3]) && fs.toList.all (fun f => f.name != "_") | _ => false) = true := by kernel_rfl
 split at h
 ·rename_i fs hfs
  obtain ⟨l⟩ := fs
  simp only [Bool.and_eq_true, beq_iff_eq] at h
  obtain ⟨h1, h2⟩ := h
  obtain ⟨f1, f2, rfl⟩ : ∃ f1 f2, l = [f1, f2] := bM6 (by simpa using congrArg List.length h1)
  simp only [List.map_cons, List.map_nil, List.cons.injEq, and_true] at h1
  simp only [List.all_cons, List.all_nil, Bool.and_true, Bool.and_eq_true, bne_iff_ne] at h2
  exact ⟨f1, f2, hfs, h2.1, h2.2, h1.1, h1.2⟩
 ·cases h
theorem ce8 (d : Nat) {r : List Int} (n : Int) {r' : List Int} (n' : Int) (h : r.length = r'.length) : peqT Tryz.prog (d + 4) 227 (opP r n) (opP r' n') = some ((r == r') && ((n == n') && true)) := by
 obtain ⟨f1, f2, hu, a1, a2, b1, b2⟩ := bB7
 have hs : Tryz.prog.stoodInHeld 227 = false := by kernel_rfl
 have hi : Tryz.prog.underlying 3 = some (.int .i64) := by kernel_rfl
 have hr := aJ6 (d + 1) h
 have hn : peqT Tryz.prog (d + 3) 3 (.leaf (.int .i64 n)) (.leaf (.int .i64 n')) = some (n == n') := by simp only [peqT, hi, if_true]
 unfold opP
 rw [peqT.eq_def]
 simp only [hu, hs, Bool.false_eq_true, if_false, bd6, a1, a2, b1, b2, hr, hn]
theorem bZ1 {r : List Int} {n : Int} {r' : List Int} {n' : Int} (h : r.length = r'.length) : M2 Tryz.prog .eql 227 (.pu (opP r n)) (.pu (opP r' n')) = some (bv ((r == r') && ((n == n') && true))) := by
 have h1 := bV0 r n r' n'
 have h2 := fun e => ce8 e n n' h
 unfold opP at h1 h2 ⊢
 simp only [M2, if_pos h1]
 generalize hd : (100 : Nat) = d
 obtain ⟨e, rfl⟩ : ∃ e, d = e + 4 := ⟨96, by omega⟩
 rw [h2 e]
theorem ci5 {D : Nat → Nat → Prop} {w : World} {r : List Int} {n : Int} {x : List Value} (h : PR Tryz.prog D w (opP r n) x) : r.length = 32 := by
 obtain ⟨_, h⟩ := Z7 h
 obtain ⟨⟨_, h⟩, _⟩ := n8 h
 exact R3 h
def p8 (way : List Tm) (r : List Int) : Nat → Int
 | 0 => -1
 | n + 1 => match way[n]? with
  | some x => if x.kind == 12 && x.ref == r then n else p8 way r n
  | none => p8 way r n
theorem aR7 (path : List Nat) (way : List Tm) (r : List Int) (n : Int) (h : path.length ≤ way.length) (hl : way.length < 2^40) : FCall Tryz.prog G 164 [.pu (G7 path way), .pu (opP r n)] (iv .i64 (p8 way r path.length)) := by
 refine Fq 33 Tryz.func164 ?_;intro w0 M ρ0 D0
 refine Tri.fact (i := 0) rfl (fun D w x h => br3 h) (fun hr => ?_);refine Tri.fact (i := 1) rfl (fun D w x h => ci5 h) (fun hr' => ?_);refine Y91 ?_;refine Y14 ?_;refine Y26 ?_;refine Y2 ?_;refine Tri.block (Tri.loopW (σ := {j : Nat // j ≤ path.length ∧ p8 way r path.length = p8 way r j}) (fun i => ⟨[(2, .ptr 2 [] 147), (3, .ptr 3 [] 227), (5, iv .i64 ((i.1 : Int) - 1))], [(2, .var 147 (.pu (G7 path way))), (3, .var 227 (.pu (opP r n)))]⟩) (fun i => i.1) ⟨path.length, Nat.le_refl _, rfl⟩ ?_ ?_ (fun i => ?_))
 ·repeat (first | exact .nil | refine .cons rfl (by first | exact .refl | (focus ((repeat constructor); done)) | (rw [t8, b7 (by omega) (by omega)]; exact .refl)) ?_)
 ·repeat (first | exact .nil | refine .cons rfl (by first | exact .refl | (focus ((repeat constructor); done)) | (rw [t8, b7 (by omega) (by omega)]; exact .refl)) ?_)
 refine Y30 ?_;refine Cq ?_ ?_
 ·intro h0
  have hj : 0 < i.1 := by simp at h0; omega
  obtain ⟨j, hj⟩ : ∃ j, i.1 = j + 1 := ⟨i.1 - 1, by omega⟩
  have hjw : j < way.length := by have := i.2.1; omega
  have hx := q7 (lo := 0) hjw
  have hxl := ah4 hr _ (List.getElem_mem hjw)
  have hst := i.2.2
  rw [hj] at hst
  simp only [p8, List.getElem?_eq_getElem hjw] at hst
  generalize way[j] = x at hx hxl hst
  obtain ⟨xk, xn, xr, xs, xc⟩ := x
  refine Y90 ?_;refine b5 (g9 SS (h0 := by omega) (hp := by rw [show ((i.1 : Int) - 1).toNat = j by omega]; exact hx)) ?_;refine yL ?_;refine b9 SS 6 ?_;refine yS ?_;refine b8 [6] ?_;refine Y24 ?_;refine Y39 ?_;refine xP ?_;refine xL ?_;refine f7 zG (D4 SS (h := bZ1 (hxl.1.trans hr'.symm))) ?_;refine Y97 ?_;refine Cq ?_ ?_
  ·intro h1
   refine Y88 ?_;refine Rq ?_;exact c7 (by simp_all [Tm.kind, Tm.ref])
  ·intro h1
   have hnext : p8 way r path.length = p8 way r j := by simp_all [Tm.kind, Tm.ref]
   refine Y99 ?_
   refine ⟨⟨j, by omega, hnext⟩, by show j < i.1; omega, i9 ?_ ?_⟩
   ·repeat (first | exact SubE.nil | refine SubE.cons rfl (by first | rfl | (rw [b7 (by omega) (by omega)]; rfl) | (rw [b7 (by omega) (by omega)]; rw [show ((i.1 : Int) - 1 - 1) = (j : Int) - 1 by omega])) ?_)
   ·repeat (first | exact SubH.nil | refine SubH.cons rfl (by first | rfl | (rw [b7 (by omega) (by omega)]; rfl) | (rw [b7 (by omega) (by omega)]; rw [show ((i.1 : Int) - 1 - 1) = (j : Int) - 1 by omega])) ?_)
 ·intro h0
  refine Y63 ?_;refine Rq ?_;exact c7 (by have := i.2.2; simp at h0; rw [this, show i.1 = 0 by omega]; rfl)
end
end Go.Proofs.YtkcgkignhpepkaaGreatDoor
