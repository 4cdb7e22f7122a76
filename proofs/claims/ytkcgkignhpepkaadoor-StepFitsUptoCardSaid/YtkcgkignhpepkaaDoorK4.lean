/- Part 4 of the proof: lemmas on walks and the walks of the functions, in their order. -/
import Derived.Test.YtkcgkignhpepkaaDoorK3
import Derived.Test.YtkcgkignhpepkaaDoorProg
set_option linter.unusedSimpArgs false
set_option linter.unusedVariables false
/- Terms and patterns as trees, and how they stand in memory. -/
namespace Go.Proofs.YtkcgkignhpepkaaDoor
open Go Hs

inductive Pat where
  | mk (kind num : Int) (ref : List Int) (kids : List Pat)
mutual
inductive Tm where
  | mk (kind num : Int) (ref : List Int) (kids : List Tm) (cases : List Cs)
inductive Cs where
  | mk (pat : Pat) (body : Tm)
end

def refP (r : List Int) : Pu := .agg 23 (r.map fun n => .leaf (.int .u8 n))
def Z32 : List Int := List.replicate 32 0
mutual
def patc (lo : Nat) : Pat → Pu
  | .mk k n r ks => .agg 26 [.leaf (.int .i64 k), .leaf (.int .i64 n), refP r, .sl lo 26 (patsc lo ks)]
def patsc (lo : Nat) : List Pat → List Pu
  | [] => []
  | p :: ps => patc lo p :: patsc lo ps
end
mutual
def tmc (lo : Nat) : Tm → Pu
  | .mk k n r ks cs => .agg 30 [.leaf (.int .i64 k), .leaf (.int .i64 n), refP r, .sl lo 30 (tmsc lo ks), .sl lo 34 (cssc lo cs)]
def tmsc (lo : Nat) : List Tm → List Pu
  | [] => []
  | t :: ts => tmc lo t :: tmsc lo ts
def csec (lo : Nat) : Cs → Pu
  | .mk p t => .agg 34 [patc lo p, tmc lo t]
def cssc (lo : Nat) : List Cs → List Pu
  | [] => []
  | c :: cs => csec lo c :: cssc lo cs
end
variable {lo : Nat}
theorem pats_eq : ∀ ks, patsc lo ks = ks.map (patc lo)
  | [] => rfl
  | p :: ps => by simp [patsc, pats_eq ps]
theorem tms_eq : ∀ ks, tmsc lo ks = ks.map (tmc lo)
  | [] => rfl
  | p :: ps => by simp [tmsc, tms_eq ps]
theorem css_eq : ∀ ks, cssc lo ks = ks.map (csec lo)
  | [] => rfl
  | p :: ps => by simp [cssc, css_eq ps]
mutual
theorem patc_low {l m : Nat} (h : m ≤ l) : ∀ p, Low (patc l p) (patc m p)
  | .mk _ _ _ ks => .agg (.cons .refl (.cons .refl (.cons .refl (.cons (.sl h (patsc_low h ks)) .nil))))
theorem patsc_low {l m : Nat} (h : m ≤ l) : ∀ ps, Lows (patsc l ps) (patsc m ps)
  | [] => .nil
  | p :: ps => .cons (patc_low h p) (patsc_low h ps)
end
mutual
theorem tmc_low {l m : Nat} (h : m ≤ l) : ∀ t, Low (tmc l t) (tmc m t)
  | .mk _ _ _ ks cs => .agg (.cons .refl (.cons .refl (.cons .refl (.cons (.sl h (tmsc_low h ks)) (.cons (.sl h (cssc_low h cs)) .nil)))))
theorem tmsc_low {l m : Nat} (h : m ≤ l) : ∀ ts, Lows (tmsc l ts) (tmsc m ts)
  | [] => .nil
  | t :: ts => .cons (tmc_low h t) (tmsc_low h ts)
theorem csec_low {l m : Nat} (h : m ≤ l) : ∀ c, Low (csec l c) (csec m c)
  | .mk p t => .agg (.cons (patc_low h p) (.cons (tmc_low h t) .nil))
theorem cssc_low {l m : Nat} (h : m ≤ l) : ∀ cs, Lows (cssc l cs) (cssc m cs)
  | [] => .nil
  | c :: cs => .cons (csec_low h c) (cssc_low h cs)
end
instance (p : Pat) : LowI (patc lo p) (patc 0 p) := ⟨patc_low (Nat.zero_le _) p⟩
instance (t : Tm) : LowI (tmc lo t) (tmc 0 t) := ⟨tmc_low (Nat.zero_le _) t⟩
instance (c : Cs) : LowI (csec lo c) (csec 0 c) := ⟨csec_low (Nat.zero_le _) c⟩
instance (E : TypeId) (ts : List Tm) : LowI (.sl lo E (tmsc lo ts)) (.sl 0 E (tmsc 0 ts)) := ⟨.sl (Nat.zero_le _) (tmsc_low (Nat.zero_le _) ts)⟩
instance (E : TypeId) (ts : List Pat) : LowI (.sl lo E (patsc lo ts)) (.sl 0 E (patsc 0 ts)) := ⟨.sl (Nat.zero_le _) (patsc_low (Nat.zero_le _) ts)⟩
instance (E : TypeId) (ts : List Cs) : LowI (.sl lo E (cssc lo ts)) (.sl 0 E (cssc 0 ts)) := ⟨.sl (Nat.zero_le _) (cssc_low (Nat.zero_le _) ts)⟩
theorem pat_imp {P : Program} (p : Pat) : VImp P (.pu (patc lo p)) (.pu (patc 0 p)) := (patc_low (Nat.zero_le _) p).imp
theorem tm_imp {P : Program} (t : Tm) : VImp P (.pu (tmc lo t)) (.pu (tmc 0 t)) := (tmc_low (Nat.zero_le _) t).imp
theorem pats_get {ks : List Pat} {i : Nat} (h : i < ks.length) : (patsc lo ks)[i]? = some (patc lo ks[i]) := by simp [pats_eq, h]
theorem tms_get {ks : List Tm} {i : Nat} (h : i < ks.length) : (tmsc lo ks)[i]? = some (tmc lo ks[i]) := by simp [tms_eq, h]
theorem css_get {ks : List Cs} {i : Nat} (h : i < ks.length) : (cssc lo ks)[i]? = some (csec lo ks[i]) := by simp [css_eq, h]
theorem pats_length (ks : List Pat) : (patsc lo ks).length = ks.length := by simp [pats_eq]
theorem tms_length (ks : List Tm) : (tmsc lo ks).length = ks.length := by simp [tms_eq]
theorem css_length (ks : List Cs) : (cssc lo ks).length = ks.length := by simp [css_eq]

/-! ### How many nodes -/
mutual
def psize : Pat → Nat
  | .mk _ _ _ ks => 1 + psizeL ks
def psizeL : List Pat → Nat
  | [] => 0
  | p :: ps => psize p + psizeL ps
end
mutual
def tsize : Tm → Nat
  | .mk _ _ _ ks cs => 1 + tsizeL ks + csizeL cs
def tsizeL : List Tm → Nat
  | [] => 0
  | t :: ts => tsize t + tsizeL ts
def csize : Cs → Nat
  | .mk p t => psize p + tsize t
def csizeL : List Cs → Nat
  | [] => 0
  | c :: cs => csize c + csizeL cs
end
theorem psize_pos (p : Pat) : 1 ≤ psize p := by cases p; simp [psize]
theorem tsize_pos (t : Tm) : 1 ≤ tsize t := by cases t; simp [tsize]; omega
theorem csize_pos (c : Cs) : 1 ≤ csize c := by cases c with | mk p t => have := psize_pos p; simp [csize]; omega
theorem psizeL_get : ∀ {ks : List Pat} {i : Nat} (h : i < ks.length), psize ks[i] ≤ psizeL ks
  | p :: ps, 0, _ => by simp [psizeL]
  | p :: ps, i + 1, h => by
    have := psizeL_get (ks := ps) (i := i) (by simpa using h)
    simp [psizeL]; omega
theorem tsizeL_get : ∀ {ks : List Tm} {i : Nat} (h : i < ks.length), tsize ks[i] ≤ tsizeL ks
  | p :: ps, 0, _ => by simp [tsizeL]
  | p :: ps, i + 1, h => by
    have := tsizeL_get (ks := ps) (i := i) (by simpa using h)
    simp [tsizeL]; omega
theorem csizeL_get : ∀ {ks : List Cs} {i : Nat} (h : i < ks.length), csize ks[i] ≤ csizeL ks
  | p :: ps, 0, _ => by simp [csizeL]
  | p :: ps, i + 1, h => by
    have := csizeL_get (ks := ps) (i := i) (by simpa using h)
    simp [csizeL]; omega
theorem length_psizeL : ∀ (ks : List Pat), ks.length ≤ psizeL ks
  | [] => by simp [psizeL]
  | p :: ps => by
    have := length_psizeL ps
    have := psize_pos p
    simp [psizeL]; omega
theorem length_tsizeL : ∀ (ks : List Tm), ks.length ≤ tsizeL ks
  | [] => by simp [tsizeL]
  | p :: ps => by
    have := length_tsizeL ps
    have := tsize_pos p
    simp [tsizeL]; omega
theorem length_csizeL : ∀ (ks : List Cs), ks.length ≤ csizeL ks
  | [] => by simp [csizeL]
  | p :: ps => by
    have := length_csizeL ps
    have := csize_pos p
    simp [csizeL]; omega
theorem psizeL_take : ∀ {ks : List Pat} {i : Nat}, psizeL (ks.take i) ≤ psizeL ks
  | [], i => by simp [psizeL]
  | p :: ps, 0 => by simp [psizeL]
  | p :: ps, i + 1 => by
    have := psizeL_take (ks := ps) (i := i)
    simp [psizeL]; omega
theorem tsizeL_take : ∀ {ks : List Tm} {i : Nat}, tsizeL (ks.take i) ≤ tsizeL ks
  | [], i => by simp [tsizeL]
  | p :: ps, 0 => by simp [tsizeL]
  | p :: ps, i + 1 => by
    have := tsizeL_take (ks := ps) (i := i)
    simp [tsizeL]; omega
/-! ### The seat's types -/
theorem tbl : tableOk Tryd.prog = true := by kernel_rfl
theorem mixed : Tryd.prog.follows .mixedOrders = true := by kernel_rfl
noncomputable def SS : Seat Tryd.prog := Seat.auto [] tbl
theorem zG {p : Prop} (h : p := by first | exact Guard.T rfl rfl rfl | exact Guard.F rfl rfl rfl | exact Guard.gT rfl rfl rfl | exact Guard.gF rfl rfl rfl) : p := h
theorem yM {n g : Prop} (c : n) (h : n → g := by exact fun c => s_move SS c) : g := h c
theorem yL {n g : Prop} (c : n) (h : n → g := by first | exact fun c => s_val (v_load SS) c | exact fun c => s_val (v_loadp SS) c) : g := h c
theorem yI {n g : Prop} (c : n) (h : n → g := by exact fun c => s_val (v_int SS) c) : g := h c
theorem yA {n g : Prop} (c : n) (h : n → g := by first | exact fun c => s_assignOw c | exact fun c => s_val (v_assign SS) c) : g := h c
theorem yF {n g : Prop} (c : n) (h : n → g := by first | exact fun c => s_val (v_field SS) c | exact fun c => s_val (v_fieldp SS) c) : g := h c
theorem yB {n g : Prop} (c : n) (h : n → g := by exact fun c => s_val (v_assign SS) c) : g := h c
theorem yS {n g : Prop} (c : n) (h : n → g := by exact fun c => s_store SS c) : g := h c
theorem xL {n g : Prop} (c : n) (h : n → g := by first | exact fun c => s_gg zG (v_load SS) c | exact fun c => s_gg zG (v_loadp SS) c) : g := h c
theorem xF {n g : Prop} (c : n) (h : n → g := by first | exact fun c => s_gg zG (v_field SS) c | exact fun c => s_gg zG (v_fieldp SS) c) : g := h c
theorem yK {n g : Prop} (c : n) (h : n → g := by first | exact fun c => s_load SS c | exact fun c => s_val (v_loadp SS) c) : g := h c
theorem xI {n g : Prop} (c : n) (h : n → g := by exact fun c => s_gg zG (v_int SS) c) : g := h c
theorem xM {n g : Prop} (c : n) (h : n → g := by exact fun c => s_gg zG (v_move SS) c) : g := h c
theorem yN {n g : Prop} (c : n) (h : n → g := by exact fun c => s_val (v_and SS) c) : g := h c
theorem yC {n g : Prop} (c : n) (h : n → g := by first | exact fun c => s_val (v_len SS) c | exact fun c => s_val (v_lenx SS) c | exact fun c => s_val (v_len0 SS) c | exact fun c => s_val (v_lena SS) c) : g := h c
theorem yZ {n g : Prop} (c : n) (h : n → g := by exact fun c => s_sl SS c) : g := h c
theorem yX {n g : Prop} (c : n) (h : n → g := by exact fun c => s_val (v_extract SS) c) : g := h c
theorem yP {n g : Prop} (c : n) (h : n → g := by first | exact fun c => s_val (v_litP SS) c | exact fun c => s_val (v_litA SS) c) : g := h c
theorem yO {n g : Prop} (c : n) (h : n → g := by exact fun c => s_val (v_or SS) c) : g := h c
theorem yG {n g : Prop} (c : n) (h : n → g := by exact fun c => s_val (v_loadp SS) c) : g := h c
theorem yJ {n g : Prop} (c : n) (h : n → g := by exact fun c => s_val (v_move SS) c) : g := h c
theorem yY {n g : Prop} (c : n) (h : n → g := by exact fun c => s_val (v_nilCheck SS) c) : g := h c
theorem yQ {n g : Prop} (c : n) (h : n → g := by exact fun c => s_val (v_not SS) c) : g := h c
theorem yW {n g : Prop} (c : n) (h : n → g := by first | exact fun c => s_storeOw SS c | exact fun c => s_store SS c) : g := h c
theorem yT {n g : Prop} (c : n) (h : n → g := by first | exact fun c => s_val (v_lit0 SS) c | exact fun c => s_val (v_litP SS) c | exact fun c => s_val (v_litA SS) c) : g := h c
theorem xQ {n g : Prop} (c : n) (h : n → g := by exact fun c => s_gg zG (v_not SS) c) : g := h c
theorem xC {n g : Prop} (c : n) (h : n → g := by first | exact fun c => s_gg zG (v_len SS) c | exact fun c => s_gg zG (v_lenx SS) c | exact fun c => s_gg zG (v_len0 SS) c | exact fun c => s_gg zG (v_lena SS) c) : g := h c
theorem xN {n g : Prop} (c : n) (h : n → g := by exact fun c => s_gg zG (v_andg SS) c) : g := h c
theorem xP {n g : Prop} (c : n) (h : n → g := by first | exact fun c => s_gg zG (v_litP SS) c | exact fun c => s_gg zG (v_litA SS) c) : g := h c
theorem xO {n g : Prop} (c : n) (h : n → g := by exact fun c => s_gg zG (v_org SS) c) : g := h c
theorem zW {p : Prop} (h : p := by repeat (first | exact .nil | refine .cons rfl (by first | exact .refl | (focus ((repeat constructor); done))) ?_)) : p := h
theorem zE {p : Prop} (h : p := by repeat (first | exact SubE.nil | refine SubE.cons rfl (by first | rfl | (rw [wrap64 (by omega) (by omega)]; rfl)) ?_)) : p := h
theorem zH {p : Prop} (h : p := by repeat (first | exact SubH.nil | refine SubH.cons rfl (by first | rfl | (rw [wrap64 (by omega) (by omega)]; rfl)) ?_)) : p := h
theorem yR {n g : Prop} (c : n) (h : n → g := by intro c; (repeat refine Tri.seq ?_); exact Tri.region mixed c) : g := h c
instance : Okt Tryd.prog 1 1 := ⟨by kernel_rfl⟩
instance : Sc Tryd.prog 1 := ⟨by kernel_rfl⟩
instance : Zr SS 1 (.pu (.leaf .nilFunc)) := ⟨by kernel_rfl⟩
instance : Okt Tryd.prog 2 2 := ⟨by kernel_rfl⟩
instance : Sc Tryd.prog 2 := ⟨by kernel_rfl⟩
instance : Zr SS 2 (.pu (.leaf (.int .i64 0))) := ⟨by kernel_rfl⟩
instance : Okt Tryd.prog 3 3 := ⟨by kernel_rfl⟩
instance : Sc Tryd.prog 3 := ⟨by kernel_rfl⟩
instance : Zr SS 3 (.pu (.leaf (.int .i64 0))) := ⟨by kernel_rfl⟩
instance : Okt Tryd.prog 4 4 := ⟨by kernel_rfl⟩
instance : Sc Tryd.prog 4 := ⟨by kernel_rfl⟩
instance : Zr SS 4 (.pu (.leaf (.bool false))) := ⟨by kernel_rfl⟩
instance : Okt Tryd.prog 5 5 := ⟨by kernel_rfl⟩
instance : Sc Tryd.prog 5 := ⟨by kernel_rfl⟩
instance : Zr SS 5 (.pu (.leaf (.int .u8 0))) := ⟨by kernel_rfl⟩
instance : Okt Tryd.prog 9 9 := ⟨by kernel_rfl⟩
instance : Sc Tryd.prog 9 := ⟨by kernel_rfl⟩
instance : Zr SS 9 (.pu (.leaf (.string ⟨#[]⟩))) := ⟨by kernel_rfl⟩
instance : Okt Tryd.prog 12 12 := ⟨by kernel_rfl⟩
instance : Sc Tryd.prog 12 := ⟨by kernel_rfl⟩
instance : Zr SS 12 (.pu (.leaf (.int .u64 0))) := ⟨by kernel_rfl⟩
instance : Okt Tryd.prog 13 13 := ⟨by kernel_rfl⟩
instance : Ag Tryd.prog 13 := ⟨by kernel_rfl⟩
instance : AgT Tryd.prog 13 [9, 12] := ⟨by kernel_rfl⟩
instance : Fld Tryd.prog 13 0 9 := ⟨by kernel_rfl⟩
instance : Fld Tryd.prog 13 1 12 := ⟨by kernel_rfl⟩
instance : Zr SS 13 (.pu (.agg 13 [(.leaf (.string ⟨#[]⟩)), (.leaf (.int .u64 0))])) := ⟨by kernel_rfl⟩
instance : Okt Tryd.prog 21 21 := ⟨by kernel_rfl⟩
instance : Sc Tryd.prog 21 := ⟨by kernel_rfl⟩
instance : Zr SS 21 (.pu (.leaf (.int .i32 0))) := ⟨by kernel_rfl⟩
instance : Okt Tryd.prog 22 22 := ⟨by kernel_rfl⟩
instance : Ag Tryd.prog 22 := ⟨by kernel_rfl⟩
instance : Arr Tryd.prog 22 32 5 := ⟨by kernel_rfl⟩
instance : Zr SS 22 (.pu (.agg 22 (List.replicate 32 (.leaf (.int .u8 0))))) := ⟨by kernel_rfl⟩
instance : Okt Tryd.prog 23 23 := ⟨by kernel_rfl⟩
instance : Okt Tryd.prog 23 22 := ⟨by kernel_rfl⟩
instance : Okt Tryd.prog 22 23 := ⟨by kernel_rfl⟩
instance : Ag Tryd.prog 23 := ⟨by kernel_rfl⟩
instance : Arr Tryd.prog 23 32 5 := ⟨by kernel_rfl⟩
instance : Zr SS 23 (.pu (refP Z32)) := ⟨by kernel_rfl⟩
instance : Okt Tryd.prog 24 24 := ⟨by kernel_rfl⟩
instance : Sc Tryd.prog 24 := ⟨by kernel_rfl⟩
instance : Sl Tryd.prog 24 26 := ⟨by kernel_rfl⟩
instance : El Tryd.prog 24 26 72 := ⟨by kernel_rfl⟩
instance : Zr SS 24 .nilc := ⟨by kernel_rfl⟩
instance : Okt Tryd.prog 25 25 := ⟨by kernel_rfl⟩
instance : Ag Tryd.prog 25 := ⟨by kernel_rfl⟩
instance : AgT Tryd.prog 25 [3, 3, 23, 24] := ⟨by kernel_rfl⟩
instance : Fld Tryd.prog 25 0 3 := ⟨by kernel_rfl⟩
instance : Fld Tryd.prog 25 1 3 := ⟨by kernel_rfl⟩
instance : Fld Tryd.prog 25 2 23 := ⟨by kernel_rfl⟩
instance : Fld Tryd.prog 25 3 24 := ⟨by kernel_rfl⟩
instance : Zr SS 25 (.agg 25 [(.pu (.leaf (.int .i64 0))), (.pu (.leaf (.int .i64 0))), (.pu (refP Z32)), .nilc]) := ⟨by kernel_rfl⟩
instance : Okt Tryd.prog 26 26 := ⟨by kernel_rfl⟩
instance : Okt Tryd.prog 26 25 := ⟨by kernel_rfl⟩
instance : Okt Tryd.prog 25 26 := ⟨by kernel_rfl⟩
instance : Ag Tryd.prog 26 := ⟨by kernel_rfl⟩
instance : AgT Tryd.prog 26 [3, 3, 23, 24] := ⟨by kernel_rfl⟩
instance : Fld Tryd.prog 26 0 3 := ⟨by kernel_rfl⟩
instance : Fld Tryd.prog 26 1 3 := ⟨by kernel_rfl⟩
instance : Fld Tryd.prog 26 2 23 := ⟨by kernel_rfl⟩
instance : Fld Tryd.prog 26 3 24 := ⟨by kernel_rfl⟩
instance : Zr SS 26 (.agg 26 [(.pu (.leaf (.int .i64 0))), (.pu (.leaf (.int .i64 0))), (.pu (refP Z32)), .nilc]) := ⟨by kernel_rfl⟩
instance : Okt Tryd.prog 27 27 := ⟨by kernel_rfl⟩
instance : Sc Tryd.prog 27 := ⟨by kernel_rfl⟩
instance : Sl Tryd.prog 27 30 := ⟨by kernel_rfl⟩
instance : El Tryd.prog 27 30 96 := ⟨by kernel_rfl⟩
instance : Zr SS 27 .nilc := ⟨by kernel_rfl⟩
instance : Okt Tryd.prog 28 28 := ⟨by kernel_rfl⟩
instance : Sc Tryd.prog 28 := ⟨by kernel_rfl⟩
instance : Sl Tryd.prog 28 34 := ⟨by kernel_rfl⟩
instance : El Tryd.prog 28 34 168 := ⟨by kernel_rfl⟩
instance : Zr SS 28 .nilc := ⟨by kernel_rfl⟩
instance : Okt Tryd.prog 29 29 := ⟨by kernel_rfl⟩
instance : Ag Tryd.prog 29 := ⟨by kernel_rfl⟩
instance : AgT Tryd.prog 29 [3, 3, 23, 27, 28] := ⟨by kernel_rfl⟩
instance : Fld Tryd.prog 29 0 3 := ⟨by kernel_rfl⟩
instance : Fld Tryd.prog 29 1 3 := ⟨by kernel_rfl⟩
instance : Fld Tryd.prog 29 2 23 := ⟨by kernel_rfl⟩
instance : Fld Tryd.prog 29 3 27 := ⟨by kernel_rfl⟩
instance : Fld Tryd.prog 29 4 28 := ⟨by kernel_rfl⟩
instance : Zr SS 29 (.agg 29 [(.pu (.leaf (.int .i64 0))), (.pu (.leaf (.int .i64 0))), (.pu (refP Z32)), .nilc, .nilc]) := ⟨by kernel_rfl⟩
instance : Okt Tryd.prog 30 30 := ⟨by kernel_rfl⟩
instance : Okt Tryd.prog 30 29 := ⟨by kernel_rfl⟩
instance : Okt Tryd.prog 29 30 := ⟨by kernel_rfl⟩
instance : Ag Tryd.prog 30 := ⟨by kernel_rfl⟩
instance : AgT Tryd.prog 30 [3, 3, 23, 27, 28] := ⟨by kernel_rfl⟩
instance : Fld Tryd.prog 30 0 3 := ⟨by kernel_rfl⟩
instance : Fld Tryd.prog 30 1 3 := ⟨by kernel_rfl⟩
instance : Fld Tryd.prog 30 2 23 := ⟨by kernel_rfl⟩
instance : Fld Tryd.prog 30 3 27 := ⟨by kernel_rfl⟩
instance : Fld Tryd.prog 30 4 28 := ⟨by kernel_rfl⟩
instance : Zr SS 30 (.agg 30 [(.pu (.leaf (.int .i64 0))), (.pu (.leaf (.int .i64 0))), (.pu (refP Z32)), .nilc, .nilc]) := ⟨by kernel_rfl⟩
instance : Okt Tryd.prog 31 31 := ⟨by kernel_rfl⟩
instance : Sc Tryd.prog 31 := ⟨by kernel_rfl⟩
instance : Zr SS 31 (.pu (.leaf .nilFunc)) := ⟨by kernel_rfl⟩
instance : Okt Tryd.prog 32 32 := ⟨by kernel_rfl⟩
instance : Sc Tryd.prog 32 := ⟨by kernel_rfl⟩
instance : Zr SS 32 (.pu (.leaf .nilFunc)) := ⟨by kernel_rfl⟩
instance : Okt Tryd.prog 33 33 := ⟨by kernel_rfl⟩
instance : Ag Tryd.prog 33 := ⟨by kernel_rfl⟩
instance : AgT Tryd.prog 33 [26, 30] := ⟨by kernel_rfl⟩
instance : Fld Tryd.prog 33 0 26 := ⟨by kernel_rfl⟩
instance : Fld Tryd.prog 33 1 30 := ⟨by kernel_rfl⟩
instance : Zr SS 33 (.agg 33 [(.agg 26 [(.pu (.leaf (.int .i64 0))), (.pu (.leaf (.int .i64 0))), (.pu (refP Z32)), .nilc]), (.agg 30 [(.pu (.leaf (.int .i64 0))), (.pu (.leaf (.int .i64 0))), (.pu (refP Z32)), .nilc, .nilc])]) := ⟨by kernel_rfl⟩
instance : Okt Tryd.prog 34 34 := ⟨by kernel_rfl⟩
instance : Okt Tryd.prog 34 33 := ⟨by kernel_rfl⟩
instance : Okt Tryd.prog 33 34 := ⟨by kernel_rfl⟩
instance : Ag Tryd.prog 34 := ⟨by kernel_rfl⟩
instance : AgT Tryd.prog 34 [26, 30] := ⟨by kernel_rfl⟩
instance : Fld Tryd.prog 34 0 26 := ⟨by kernel_rfl⟩
instance : Fld Tryd.prog 34 1 30 := ⟨by kernel_rfl⟩
instance : Zr SS 34 (.agg 34 [(.agg 26 [(.pu (.leaf (.int .i64 0))), (.pu (.leaf (.int .i64 0))), (.pu (refP Z32)), .nilc]), (.agg 30 [(.pu (.leaf (.int .i64 0))), (.pu (.leaf (.int .i64 0))), (.pu (refP Z32)), .nilc, .nilc])]) := ⟨by kernel_rfl⟩
instance : Okt Tryd.prog 35 35 := ⟨by kernel_rfl⟩
instance : Sc Tryd.prog 35 := ⟨by kernel_rfl⟩
instance : Zr SS 35 (.pu (.leaf .nilFunc)) := ⟨by kernel_rfl⟩
instance : Okt Tryd.prog 36 36 := ⟨by kernel_rfl⟩
instance : Sc Tryd.prog 36 := ⟨by kernel_rfl⟩
instance : Zr SS 36 (.pu (.leaf .nilFunc)) := ⟨by kernel_rfl⟩
instance : Okt Tryd.prog 37 37 := ⟨by kernel_rfl⟩
instance : Sc Tryd.prog 37 := ⟨by kernel_rfl⟩
instance : Zr SS 37 (.pu (.leaf .nilFunc)) := ⟨by kernel_rfl⟩
instance : Okt Tryd.prog 38 38 := ⟨by kernel_rfl⟩
instance : Sc Tryd.prog 38 := ⟨by kernel_rfl⟩
instance : Zr SS 38 (.pu (.leaf .nilFunc)) := ⟨by kernel_rfl⟩
instance : Okt Tryd.prog 39 39 := ⟨by kernel_rfl⟩
instance : Sc Tryd.prog 39 := ⟨by kernel_rfl⟩
instance : Zr SS 39 (.pu (.leaf .nilFunc)) := ⟨by kernel_rfl⟩
instance : Okt Tryd.prog 41 41 := ⟨by kernel_rfl⟩
instance : Sc Tryd.prog 41 := ⟨by kernel_rfl⟩
instance : Zr SS 41 (.pu (.leaf .nilFunc)) := ⟨by kernel_rfl⟩
instance : Okt Tryd.prog 42 42 := ⟨by kernel_rfl⟩
instance : Sc Tryd.prog 42 := ⟨by kernel_rfl⟩
instance : Zr SS 42 (.pu (.leaf .nilFunc)) := ⟨by kernel_rfl⟩
instance : Okt Tryd.prog 43 43 := ⟨by kernel_rfl⟩
instance : Sc Tryd.prog 43 := ⟨by kernel_rfl⟩
instance : Zr SS 43 (.pu (.leaf .nilFunc)) := ⟨by kernel_rfl⟩
instance : Okt Tryd.prog 44 44 := ⟨by kernel_rfl⟩
instance : Sc Tryd.prog 44 := ⟨by kernel_rfl⟩
instance : Zr SS 44 (.pu (.leaf .nilFunc)) := ⟨by kernel_rfl⟩
instance : Okt Tryd.prog 45 45 := ⟨by kernel_rfl⟩
instance : Sc Tryd.prog 45 := ⟨by kernel_rfl⟩
instance : Zr SS 45 (.pu (.leaf .nilFunc)) := ⟨by kernel_rfl⟩
instance : Okt Tryd.prog 46 46 := ⟨by kernel_rfl⟩
instance : Sc Tryd.prog 46 := ⟨by kernel_rfl⟩
instance : Zr SS 46 (.pu (.leaf .nilFunc)) := ⟨by kernel_rfl⟩
instance : Okt Tryd.prog 47 47 := ⟨by kernel_rfl⟩
instance : Sc Tryd.prog 47 := ⟨by kernel_rfl⟩
instance : Sl Tryd.prog 47 5 := ⟨by kernel_rfl⟩
instance : El Tryd.prog 47 5 1 := ⟨by kernel_rfl⟩
instance : Zr SS 47 .nilc := ⟨by kernel_rfl⟩
instance : Okt Tryd.prog 48 48 := ⟨by kernel_rfl⟩
instance : Sc Tryd.prog 48 := ⟨by kernel_rfl⟩
instance : Sl Tryd.prog 48 88 := ⟨by kernel_rfl⟩
instance : El Tryd.prog 48 88 80 := ⟨by kernel_rfl⟩
instance : Zr SS 48 .nilc := ⟨by kernel_rfl⟩
instance : Okt Tryd.prog 49 49 := ⟨by kernel_rfl⟩
instance : Sc Tryd.prog 49 := ⟨by kernel_rfl⟩
instance : Sl Tryd.prog 49 103 := ⟨by kernel_rfl⟩
instance : El Tryd.prog 49 103 72 := ⟨by kernel_rfl⟩
instance : Zr SS 49 .nilc := ⟨by kernel_rfl⟩
instance : Okt Tryd.prog 50 50 := ⟨by kernel_rfl⟩
instance : Sc Tryd.prog 50 := ⟨by kernel_rfl⟩
instance : Sl Tryd.prog 50 71 := ⟨by kernel_rfl⟩
instance : El Tryd.prog 50 71 128 := ⟨by kernel_rfl⟩
instance : Zr SS 50 .nilc := ⟨by kernel_rfl⟩
instance : Okt Tryd.prog 51 51 := ⟨by kernel_rfl⟩
instance : Ag Tryd.prog 51 := ⟨by kernel_rfl⟩
instance : AgT Tryd.prog 51 [48, 49, 50] := ⟨by kernel_rfl⟩
instance : Fld Tryd.prog 51 0 48 := ⟨by kernel_rfl⟩
instance : Fld Tryd.prog 51 1 49 := ⟨by kernel_rfl⟩
instance : Fld Tryd.prog 51 2 50 := ⟨by kernel_rfl⟩
instance : Zr SS 51 (.agg 51 [.nilc, .nilc, .nilc]) := ⟨by kernel_rfl⟩
instance : Okt Tryd.prog 52 52 := ⟨by kernel_rfl⟩
instance : Okt Tryd.prog 52 51 := ⟨by kernel_rfl⟩
instance : Okt Tryd.prog 51 52 := ⟨by kernel_rfl⟩
instance : Ag Tryd.prog 52 := ⟨by kernel_rfl⟩
instance : AgT Tryd.prog 52 [48, 49, 50] := ⟨by kernel_rfl⟩
instance : Fld Tryd.prog 52 0 48 := ⟨by kernel_rfl⟩
instance : Fld Tryd.prog 52 1 49 := ⟨by kernel_rfl⟩
instance : Fld Tryd.prog 52 2 50 := ⟨by kernel_rfl⟩
instance : Zr SS 52 (.agg 52 [.nilc, .nilc, .nilc]) := ⟨by kernel_rfl⟩
instance : Okt Tryd.prog 53 53 := ⟨by kernel_rfl⟩
instance : Sc Tryd.prog 53 := ⟨by kernel_rfl⟩
instance : Zr SS 53 (.pu (.leaf .nilFunc)) := ⟨by kernel_rfl⟩
instance : Okt Tryd.prog 54 54 := ⟨by kernel_rfl⟩
instance : Sc Tryd.prog 54 := ⟨by kernel_rfl⟩
instance : Zr SS 54 (.pu (.leaf .nilFunc)) := ⟨by kernel_rfl⟩
instance : Okt Tryd.prog 55 55 := ⟨by kernel_rfl⟩
instance : Sc Tryd.prog 55 := ⟨by kernel_rfl⟩
instance : Zr SS 55 (.pu (.leaf .nilFunc)) := ⟨by kernel_rfl⟩
instance : Okt Tryd.prog 56 56 := ⟨by kernel_rfl⟩
instance : Sc Tryd.prog 56 := ⟨by kernel_rfl⟩
instance : Zr SS 56 (.pu (.leaf .nilFunc)) := ⟨by kernel_rfl⟩
instance : Okt Tryd.prog 57 57 := ⟨by kernel_rfl⟩
instance : Ag Tryd.prog 57 := ⟨by kernel_rfl⟩
instance : AgT Tryd.prog 57 [30, 3, 3] := ⟨by kernel_rfl⟩
instance : Fld Tryd.prog 57 0 30 := ⟨by kernel_rfl⟩
instance : Fld Tryd.prog 57 1 3 := ⟨by kernel_rfl⟩
instance : Fld Tryd.prog 57 2 3 := ⟨by kernel_rfl⟩
instance : Zr SS 57 (.agg 57 [(.agg 30 [(.pu (.leaf (.int .i64 0))), (.pu (.leaf (.int .i64 0))), (.pu (refP Z32)), .nilc, .nilc]), (.pu (.leaf (.int .i64 0))), (.pu (.leaf (.int .i64 0)))]) := ⟨by kernel_rfl⟩
instance : Okt Tryd.prog 58 58 := ⟨by kernel_rfl⟩
instance : Sc Tryd.prog 58 := ⟨by kernel_rfl⟩
instance : Sl Tryd.prog 58 57 := ⟨by kernel_rfl⟩
instance : El Tryd.prog 58 57 112 := ⟨by kernel_rfl⟩
instance : Zr SS 58 .nilc := ⟨by kernel_rfl⟩
instance : Okt Tryd.prog 59 59 := ⟨by kernel_rfl⟩
instance : Ag Tryd.prog 59 := ⟨by kernel_rfl⟩
instance : AgT Tryd.prog 59 [3, 3, 30, 23, 3] := ⟨by kernel_rfl⟩
instance : Fld Tryd.prog 59 0 3 := ⟨by kernel_rfl⟩
instance : Fld Tryd.prog 59 1 3 := ⟨by kernel_rfl⟩
instance : Fld Tryd.prog 59 2 30 := ⟨by kernel_rfl⟩
instance : Fld Tryd.prog 59 3 23 := ⟨by kernel_rfl⟩
instance : Fld Tryd.prog 59 4 3 := ⟨by kernel_rfl⟩
instance : Zr SS 59 (.agg 59 [(.pu (.leaf (.int .i64 0))), (.pu (.leaf (.int .i64 0))), (.agg 30 [(.pu (.leaf (.int .i64 0))), (.pu (.leaf (.int .i64 0))), (.pu (refP Z32)), .nilc, .nilc]), (.pu (refP Z32)), (.pu (.leaf (.int .i64 0)))]) := ⟨by kernel_rfl⟩
instance : Okt Tryd.prog 60 60 := ⟨by kernel_rfl⟩
instance : Okt Tryd.prog 60 59 := ⟨by kernel_rfl⟩
instance : Okt Tryd.prog 59 60 := ⟨by kernel_rfl⟩
instance : Ag Tryd.prog 60 := ⟨by kernel_rfl⟩
instance : AgT Tryd.prog 60 [3, 3, 30, 23, 3] := ⟨by kernel_rfl⟩
instance : Fld Tryd.prog 60 0 3 := ⟨by kernel_rfl⟩
instance : Fld Tryd.prog 60 1 3 := ⟨by kernel_rfl⟩
instance : Fld Tryd.prog 60 2 30 := ⟨by kernel_rfl⟩
instance : Fld Tryd.prog 60 3 23 := ⟨by kernel_rfl⟩
instance : Fld Tryd.prog 60 4 3 := ⟨by kernel_rfl⟩
instance : Zr SS 60 (.agg 60 [(.pu (.leaf (.int .i64 0))), (.pu (.leaf (.int .i64 0))), (.agg 30 [(.pu (.leaf (.int .i64 0))), (.pu (.leaf (.int .i64 0))), (.pu (refP Z32)), .nilc, .nilc]), (.pu (refP Z32)), (.pu (.leaf (.int .i64 0)))]) := ⟨by kernel_rfl⟩
instance : Okt Tryd.prog 61 61 := ⟨by kernel_rfl⟩
instance : Okt Tryd.prog 61 3 := ⟨by kernel_rfl⟩
instance : Okt Tryd.prog 3 61 := ⟨by kernel_rfl⟩
instance : Sc Tryd.prog 61 := ⟨by kernel_rfl⟩
instance : Zr SS 61 (.pu (.leaf (.int .i64 0))) := ⟨by kernel_rfl⟩
instance : Okt Tryd.prog 63 63 := ⟨by kernel_rfl⟩
instance : Sc Tryd.prog 63 := ⟨by kernel_rfl⟩
instance : Zr SS 63 (.pu (.leaf .nilFunc)) := ⟨by kernel_rfl⟩
instance : Okt Tryd.prog 64 64 := ⟨by kernel_rfl⟩
instance : Sc Tryd.prog 64 := ⟨by kernel_rfl⟩
instance : Zr SS 64 (.pu (.leaf .nilFunc)) := ⟨by kernel_rfl⟩
instance : Okt Tryd.prog 65 65 := ⟨by kernel_rfl⟩
instance : Sc Tryd.prog 65 := ⟨by kernel_rfl⟩
instance : Zr SS 65 (.pu (.leaf .nilFunc)) := ⟨by kernel_rfl⟩
instance : Okt Tryd.prog 66 66 := ⟨by kernel_rfl⟩
instance : Sc Tryd.prog 66 := ⟨by kernel_rfl⟩
instance : Zr SS 66 (.pu (.leaf .nilFunc)) := ⟨by kernel_rfl⟩
instance : Okt Tryd.prog 67 67 := ⟨by kernel_rfl⟩
instance : Sc Tryd.prog 67 := ⟨by kernel_rfl⟩
instance : Zr SS 67 (.pu (.leaf .nilFunc)) := ⟨by kernel_rfl⟩
instance : Okt Tryd.prog 68 68 := ⟨by kernel_rfl⟩
instance : Sc Tryd.prog 68 := ⟨by kernel_rfl⟩
instance : Zr SS 68 (.pu (.leaf .nilFunc)) := ⟨by kernel_rfl⟩
instance : Okt Tryd.prog 69 69 := ⟨by kernel_rfl⟩
instance : Sc Tryd.prog 69 := ⟨by kernel_rfl⟩
instance : Zr SS 69 (.pu (.leaf .nilFunc)) := ⟨by kernel_rfl⟩
instance : Okt Tryd.prog 70 70 := ⟨by kernel_rfl⟩
instance : Ag Tryd.prog 70 := ⟨by kernel_rfl⟩
instance : AgT Tryd.prog 70 [23, 30] := ⟨by kernel_rfl⟩
instance : Fld Tryd.prog 70 0 23 := ⟨by kernel_rfl⟩
instance : Fld Tryd.prog 70 1 30 := ⟨by kernel_rfl⟩
instance : Zr SS 70 (.agg 70 [(.pu (refP Z32)), (.agg 30 [(.pu (.leaf (.int .i64 0))), (.pu (.leaf (.int .i64 0))), (.pu (refP Z32)), .nilc, .nilc])]) := ⟨by kernel_rfl⟩
instance : Okt Tryd.prog 71 71 := ⟨by kernel_rfl⟩
instance : Okt Tryd.prog 71 70 := ⟨by kernel_rfl⟩
instance : Okt Tryd.prog 70 71 := ⟨by kernel_rfl⟩
instance : Ag Tryd.prog 71 := ⟨by kernel_rfl⟩
instance : AgT Tryd.prog 71 [23, 30] := ⟨by kernel_rfl⟩
instance : Fld Tryd.prog 71 0 23 := ⟨by kernel_rfl⟩
instance : Fld Tryd.prog 71 1 30 := ⟨by kernel_rfl⟩
instance : Zr SS 71 (.agg 71 [(.pu (refP Z32)), (.agg 30 [(.pu (.leaf (.int .i64 0))), (.pu (.leaf (.int .i64 0))), (.pu (refP Z32)), .nilc, .nilc])]) := ⟨by kernel_rfl⟩
instance : Okt Tryd.prog 72 72 := ⟨by kernel_rfl⟩
instance : Sc Tryd.prog 72 := ⟨by kernel_rfl⟩
instance : Zr SS 72 (.pu (.leaf .nilFunc)) := ⟨by kernel_rfl⟩
instance : Okt Tryd.prog 73 73 := ⟨by kernel_rfl⟩
instance : Sc Tryd.prog 73 := ⟨by kernel_rfl⟩
instance : Sl Tryd.prog 73 3 := ⟨by kernel_rfl⟩
instance : El Tryd.prog 73 3 8 := ⟨by kernel_rfl⟩
instance : Zr SS 73 .nilc := ⟨by kernel_rfl⟩
instance : Okt Tryd.prog 75 75 := ⟨by kernel_rfl⟩
instance : Sc Tryd.prog 75 := ⟨by kernel_rfl⟩
instance : Zr SS 75 (.pu (.leaf .nilFunc)) := ⟨by kernel_rfl⟩
instance : Okt Tryd.prog 76 76 := ⟨by kernel_rfl⟩
instance : Sc Tryd.prog 76 := ⟨by kernel_rfl⟩
instance : Zr SS 76 (.pu (.leaf .nilFunc)) := ⟨by kernel_rfl⟩
instance : Okt Tryd.prog 77 77 := ⟨by kernel_rfl⟩
instance : Sc Tryd.prog 77 := ⟨by kernel_rfl⟩
instance : Zr SS 77 (.pu (.leaf .nilFunc)) := ⟨by kernel_rfl⟩
instance : Okt Tryd.prog 78 78 := ⟨by kernel_rfl⟩
instance : Sc Tryd.prog 78 := ⟨by kernel_rfl⟩
instance : Zr SS 78 (.pu (.leaf .nilFunc)) := ⟨by kernel_rfl⟩
instance : Okt Tryd.prog 79 79 := ⟨by kernel_rfl⟩
instance : Sc Tryd.prog 79 := ⟨by kernel_rfl⟩
instance : Zr SS 79 (.pu (.leaf .nilFunc)) := ⟨by kernel_rfl⟩
instance : Okt Tryd.prog 80 80 := ⟨by kernel_rfl⟩
instance : Sc Tryd.prog 80 := ⟨by kernel_rfl⟩
instance : Zr SS 80 (.pu (.leaf .nilFunc)) := ⟨by kernel_rfl⟩
instance : Okt Tryd.prog 81 81 := ⟨by kernel_rfl⟩
instance : Sc Tryd.prog 81 := ⟨by kernel_rfl⟩
instance : Zr SS 81 (.pu (.leaf .nilFunc)) := ⟨by kernel_rfl⟩
instance : Okt Tryd.prog 82 82 := ⟨by kernel_rfl⟩
instance : Sc Tryd.prog 82 := ⟨by kernel_rfl⟩
instance : Zr SS 82 (.pu (.leaf .nilFunc)) := ⟨by kernel_rfl⟩
instance : Okt Tryd.prog 83 83 := ⟨by kernel_rfl⟩
instance : Sc Tryd.prog 83 := ⟨by kernel_rfl⟩
instance : Sl Tryd.prog 83 93 := ⟨by kernel_rfl⟩
instance : El Tryd.prog 83 93 112 := ⟨by kernel_rfl⟩
instance : Zr SS 83 .nilc := ⟨by kernel_rfl⟩
instance : Okt Tryd.prog 84 84 := ⟨by kernel_rfl⟩
instance : Sc Tryd.prog 84 := ⟨by kernel_rfl⟩
instance : Sl Tryd.prog 84 83 := ⟨by kernel_rfl⟩
instance : El Tryd.prog 84 83 24 := ⟨by kernel_rfl⟩
instance : Zr SS 84 .nilc := ⟨by kernel_rfl⟩
instance : Okt Tryd.prog 85 85 := ⟨by kernel_rfl⟩
instance : Ag Tryd.prog 85 := ⟨by kernel_rfl⟩
instance : AgT Tryd.prog 85 [9, 3, 84] := ⟨by kernel_rfl⟩
instance : Fld Tryd.prog 85 0 9 := ⟨by kernel_rfl⟩
instance : Fld Tryd.prog 85 1 3 := ⟨by kernel_rfl⟩
instance : Fld Tryd.prog 85 2 84 := ⟨by kernel_rfl⟩
instance : Zr SS 85 (.agg 85 [(.pu (.leaf (.string ⟨#[]⟩))), (.pu (.leaf (.int .i64 0))), .nilc]) := ⟨by kernel_rfl⟩
instance : Okt Tryd.prog 86 86 := ⟨by kernel_rfl⟩
instance : Okt Tryd.prog 86 85 := ⟨by kernel_rfl⟩
instance : Okt Tryd.prog 85 86 := ⟨by kernel_rfl⟩
instance : Ag Tryd.prog 86 := ⟨by kernel_rfl⟩
instance : AgT Tryd.prog 86 [9, 3, 84] := ⟨by kernel_rfl⟩
instance : Fld Tryd.prog 86 0 9 := ⟨by kernel_rfl⟩
instance : Fld Tryd.prog 86 1 3 := ⟨by kernel_rfl⟩
instance : Fld Tryd.prog 86 2 84 := ⟨by kernel_rfl⟩
instance : Zr SS 86 (.agg 86 [(.pu (.leaf (.string ⟨#[]⟩))), (.pu (.leaf (.int .i64 0))), .nilc]) := ⟨by kernel_rfl⟩
instance : Okt Tryd.prog 87 87 := ⟨by kernel_rfl⟩
instance : Ag Tryd.prog 87 := ⟨by kernel_rfl⟩
instance : AgT Tryd.prog 87 [23, 86] := ⟨by kernel_rfl⟩
instance : Fld Tryd.prog 87 0 23 := ⟨by kernel_rfl⟩
instance : Fld Tryd.prog 87 1 86 := ⟨by kernel_rfl⟩
instance : Zr SS 87 (.agg 87 [(.pu (refP Z32)), (.agg 86 [(.pu (.leaf (.string ⟨#[]⟩))), (.pu (.leaf (.int .i64 0))), .nilc])]) := ⟨by kernel_rfl⟩
instance : Okt Tryd.prog 88 88 := ⟨by kernel_rfl⟩
instance : Okt Tryd.prog 88 87 := ⟨by kernel_rfl⟩
instance : Okt Tryd.prog 87 88 := ⟨by kernel_rfl⟩
instance : Ag Tryd.prog 88 := ⟨by kernel_rfl⟩
instance : AgT Tryd.prog 88 [23, 86] := ⟨by kernel_rfl⟩
instance : Fld Tryd.prog 88 0 23 := ⟨by kernel_rfl⟩
instance : Fld Tryd.prog 88 1 86 := ⟨by kernel_rfl⟩
instance : Zr SS 88 (.agg 88 [(.pu (refP Z32)), (.agg 86 [(.pu (.leaf (.string ⟨#[]⟩))), (.pu (.leaf (.int .i64 0))), .nilc])]) := ⟨by kernel_rfl⟩
instance : Okt Tryd.prog 89 89 := ⟨by kernel_rfl⟩
instance : Sc Tryd.prog 89 := ⟨by kernel_rfl⟩
instance : Sl Tryd.prog 89 23 := ⟨by kernel_rfl⟩
instance : El Tryd.prog 89 23 32 := ⟨by kernel_rfl⟩
instance : Zr SS 89 .nilc := ⟨by kernel_rfl⟩
instance : Okt Tryd.prog 90 90 := ⟨by kernel_rfl⟩
instance : Ag Tryd.prog 90 := ⟨by kernel_rfl⟩
instance : AgT Tryd.prog 90 [89, 4, 3] := ⟨by kernel_rfl⟩
instance : Fld Tryd.prog 90 0 89 := ⟨by kernel_rfl⟩
instance : Fld Tryd.prog 90 1 4 := ⟨by kernel_rfl⟩
instance : Fld Tryd.prog 90 2 3 := ⟨by kernel_rfl⟩
instance : Zr SS 90 (.agg 90 [.nilc, (.pu (.leaf (.bool false))), (.pu (.leaf (.int .i64 0)))]) := ⟨by kernel_rfl⟩
instance : Okt Tryd.prog 91 91 := ⟨by kernel_rfl⟩
instance : Okt Tryd.prog 91 90 := ⟨by kernel_rfl⟩
instance : Okt Tryd.prog 90 91 := ⟨by kernel_rfl⟩
instance : Ag Tryd.prog 91 := ⟨by kernel_rfl⟩
instance : AgT Tryd.prog 91 [89, 4, 3] := ⟨by kernel_rfl⟩
instance : Fld Tryd.prog 91 0 89 := ⟨by kernel_rfl⟩
instance : Fld Tryd.prog 91 1 4 := ⟨by kernel_rfl⟩
instance : Fld Tryd.prog 91 2 3 := ⟨by kernel_rfl⟩
instance : Zr SS 91 (.agg 91 [.nilc, (.pu (.leaf (.bool false))), (.pu (.leaf (.int .i64 0)))]) := ⟨by kernel_rfl⟩
instance : Okt Tryd.prog 92 92 := ⟨by kernel_rfl⟩
instance : Ag Tryd.prog 92 := ⟨by kernel_rfl⟩
instance : AgT Tryd.prog 92 [3, 3, 23, 83, 91] := ⟨by kernel_rfl⟩
instance : Fld Tryd.prog 92 0 3 := ⟨by kernel_rfl⟩
instance : Fld Tryd.prog 92 1 3 := ⟨by kernel_rfl⟩
instance : Fld Tryd.prog 92 2 23 := ⟨by kernel_rfl⟩
instance : Fld Tryd.prog 92 3 83 := ⟨by kernel_rfl⟩
instance : Fld Tryd.prog 92 4 91 := ⟨by kernel_rfl⟩
instance : Zr SS 92 (.agg 92 [(.pu (.leaf (.int .i64 0))), (.pu (.leaf (.int .i64 0))), (.pu (refP Z32)), .nilc, (.agg 91 [.nilc, (.pu (.leaf (.bool false))), (.pu (.leaf (.int .i64 0)))])]) := ⟨by kernel_rfl⟩
instance : Okt Tryd.prog 93 93 := ⟨by kernel_rfl⟩
instance : Okt Tryd.prog 93 92 := ⟨by kernel_rfl⟩
instance : Okt Tryd.prog 92 93 := ⟨by kernel_rfl⟩
instance : Ag Tryd.prog 93 := ⟨by kernel_rfl⟩
instance : AgT Tryd.prog 93 [3, 3, 23, 83, 91] := ⟨by kernel_rfl⟩
instance : Fld Tryd.prog 93 0 3 := ⟨by kernel_rfl⟩
instance : Fld Tryd.prog 93 1 3 := ⟨by kernel_rfl⟩
instance : Fld Tryd.prog 93 2 23 := ⟨by kernel_rfl⟩
instance : Fld Tryd.prog 93 3 83 := ⟨by kernel_rfl⟩
instance : Fld Tryd.prog 93 4 91 := ⟨by kernel_rfl⟩
instance : Zr SS 93 (.agg 93 [(.pu (.leaf (.int .i64 0))), (.pu (.leaf (.int .i64 0))), (.pu (refP Z32)), .nilc, (.agg 91 [.nilc, (.pu (.leaf (.bool false))), (.pu (.leaf (.int .i64 0)))])]) := ⟨by kernel_rfl⟩
instance : Okt Tryd.prog 94 94 := ⟨by kernel_rfl⟩
instance : Sc Tryd.prog 94 := ⟨by kernel_rfl⟩
instance : Zr SS 94 (.pu (.leaf .nilFunc)) := ⟨by kernel_rfl⟩
instance : Okt Tryd.prog 95 95 := ⟨by kernel_rfl⟩
instance : Sc Tryd.prog 95 := ⟨by kernel_rfl⟩
instance : Zr SS 95 (.pu (.leaf .nilFunc)) := ⟨by kernel_rfl⟩
instance : Okt Tryd.prog 96 96 := ⟨by kernel_rfl⟩
instance : Sc Tryd.prog 96 := ⟨by kernel_rfl⟩
instance : Zr SS 96 (.pu (.leaf .nilFunc)) := ⟨by kernel_rfl⟩
instance : Okt Tryd.prog 97 97 := ⟨by kernel_rfl⟩
instance : Ag Tryd.prog 97 := ⟨by kernel_rfl⟩
instance : AgT Tryd.prog 97 [93, 93] := ⟨by kernel_rfl⟩
instance : Fld Tryd.prog 97 0 93 := ⟨by kernel_rfl⟩
instance : Fld Tryd.prog 97 1 93 := ⟨by kernel_rfl⟩
instance : Zr SS 97 (.agg 97 [(.agg 93 [(.pu (.leaf (.int .i64 0))), (.pu (.leaf (.int .i64 0))), (.pu (refP Z32)), .nilc, (.agg 91 [.nilc, (.pu (.leaf (.bool false))), (.pu (.leaf (.int .i64 0)))])]), (.agg 93 [(.pu (.leaf (.int .i64 0))), (.pu (.leaf (.int .i64 0))), (.pu (refP Z32)), .nilc, (.agg 91 [.nilc, (.pu (.leaf (.bool false))), (.pu (.leaf (.int .i64 0)))])])]) := ⟨by kernel_rfl⟩
instance : Okt Tryd.prog 98 98 := ⟨by kernel_rfl⟩
instance : Okt Tryd.prog 98 97 := ⟨by kernel_rfl⟩
instance : Okt Tryd.prog 97 98 := ⟨by kernel_rfl⟩
instance : Ag Tryd.prog 98 := ⟨by kernel_rfl⟩
instance : AgT Tryd.prog 98 [93, 93] := ⟨by kernel_rfl⟩
instance : Fld Tryd.prog 98 0 93 := ⟨by kernel_rfl⟩
instance : Fld Tryd.prog 98 1 93 := ⟨by kernel_rfl⟩
instance : Zr SS 98 (.agg 98 [(.agg 93 [(.pu (.leaf (.int .i64 0))), (.pu (.leaf (.int .i64 0))), (.pu (refP Z32)), .nilc, (.agg 91 [.nilc, (.pu (.leaf (.bool false))), (.pu (.leaf (.int .i64 0)))])]), (.agg 93 [(.pu (.leaf (.int .i64 0))), (.pu (.leaf (.int .i64 0))), (.pu (refP Z32)), .nilc, (.agg 91 [.nilc, (.pu (.leaf (.bool false))), (.pu (.leaf (.int .i64 0)))])])]) := ⟨by kernel_rfl⟩
instance : Okt Tryd.prog 99 99 := ⟨by kernel_rfl⟩
instance : Sc Tryd.prog 99 := ⟨by kernel_rfl⟩
instance : Sl Tryd.prog 99 98 := ⟨by kernel_rfl⟩
instance : El Tryd.prog 99 98 224 := ⟨by kernel_rfl⟩
instance : Zr SS 99 .nilc := ⟨by kernel_rfl⟩
instance : Okt Tryd.prog 100 100 := ⟨by kernel_rfl⟩
instance : Ag Tryd.prog 100 := ⟨by kernel_rfl⟩
instance : AgT Tryd.prog 100 [9, 99] := ⟨by kernel_rfl⟩
instance : Fld Tryd.prog 100 0 9 := ⟨by kernel_rfl⟩
instance : Fld Tryd.prog 100 1 99 := ⟨by kernel_rfl⟩
instance : Zr SS 100 (.agg 100 [(.pu (.leaf (.string ⟨#[]⟩))), .nilc]) := ⟨by kernel_rfl⟩
instance : Okt Tryd.prog 101 101 := ⟨by kernel_rfl⟩
instance : Okt Tryd.prog 101 100 := ⟨by kernel_rfl⟩
instance : Okt Tryd.prog 100 101 := ⟨by kernel_rfl⟩
instance : Ag Tryd.prog 101 := ⟨by kernel_rfl⟩
instance : AgT Tryd.prog 101 [9, 99] := ⟨by kernel_rfl⟩
instance : Fld Tryd.prog 101 0 9 := ⟨by kernel_rfl⟩
instance : Fld Tryd.prog 101 1 99 := ⟨by kernel_rfl⟩
instance : Zr SS 101 (.agg 101 [(.pu (.leaf (.string ⟨#[]⟩))), .nilc]) := ⟨by kernel_rfl⟩
instance : Okt Tryd.prog 102 102 := ⟨by kernel_rfl⟩
instance : Ag Tryd.prog 102 := ⟨by kernel_rfl⟩
instance : AgT Tryd.prog 102 [23, 101] := ⟨by kernel_rfl⟩
instance : Fld Tryd.prog 102 0 23 := ⟨by kernel_rfl⟩
instance : Fld Tryd.prog 102 1 101 := ⟨by kernel_rfl⟩
instance : Zr SS 102 (.agg 102 [(.pu (refP Z32)), (.agg 101 [(.pu (.leaf (.string ⟨#[]⟩))), .nilc])]) := ⟨by kernel_rfl⟩
instance : Okt Tryd.prog 103 103 := ⟨by kernel_rfl⟩
instance : Okt Tryd.prog 103 102 := ⟨by kernel_rfl⟩
instance : Okt Tryd.prog 102 103 := ⟨by kernel_rfl⟩
instance : Ag Tryd.prog 103 := ⟨by kernel_rfl⟩
instance : AgT Tryd.prog 103 [23, 101] := ⟨by kernel_rfl⟩
instance : Fld Tryd.prog 103 0 23 := ⟨by kernel_rfl⟩
instance : Fld Tryd.prog 103 1 101 := ⟨by kernel_rfl⟩
instance : Zr SS 103 (.agg 103 [(.pu (refP Z32)), (.agg 101 [(.pu (.leaf (.string ⟨#[]⟩))), .nilc])]) := ⟨by kernel_rfl⟩
instance : Okt Tryd.prog 104 104 := ⟨by kernel_rfl⟩
instance : Sc Tryd.prog 104 := ⟨by kernel_rfl⟩
instance : Zr SS 104 (.pu (.leaf .nilFunc)) := ⟨by kernel_rfl⟩
instance : Okt Tryd.prog 105 105 := ⟨by kernel_rfl⟩
instance : Sc Tryd.prog 105 := ⟨by kernel_rfl⟩
instance : Zr SS 105 (.pu (.leaf .nilFunc)) := ⟨by kernel_rfl⟩
instance : Okt Tryd.prog 106 106 := ⟨by kernel_rfl⟩
instance : Sc Tryd.prog 106 := ⟨by kernel_rfl⟩
instance : Zr SS 106 (.pu (.leaf .nilFunc)) := ⟨by kernel_rfl⟩
instance : Okt Tryd.prog 107 107 := ⟨by kernel_rfl⟩
instance : Sc Tryd.prog 107 := ⟨by kernel_rfl⟩
instance : Zr SS 107 (.pu (.leaf .nilFunc)) := ⟨by kernel_rfl⟩
instance : Okt Tryd.prog 108 108 := ⟨by kernel_rfl⟩
instance : Sc Tryd.prog 108 := ⟨by kernel_rfl⟩
instance : Zr SS 108 (.pu (.leaf .nilFunc)) := ⟨by kernel_rfl⟩
instance : Okt Tryd.prog 109 109 := ⟨by kernel_rfl⟩
instance : Sc Tryd.prog 109 := ⟨by kernel_rfl⟩
instance : Zr SS 109 (.pu (.leaf .nilFunc)) := ⟨by kernel_rfl⟩
instance : Okt Tryd.prog 110 110 := ⟨by kernel_rfl⟩
instance : Sc Tryd.prog 110 := ⟨by kernel_rfl⟩
instance : Zr SS 110 (.pu (.leaf .nilFunc)) := ⟨by kernel_rfl⟩
instance : Okt Tryd.prog 111 111 := ⟨by kernel_rfl⟩
instance : Ag Tryd.prog 111 := ⟨by kernel_rfl⟩
instance : AgT Tryd.prog 111 [73, 27] := ⟨by kernel_rfl⟩
instance : Fld Tryd.prog 111 0 73 := ⟨by kernel_rfl⟩
instance : Fld Tryd.prog 111 1 27 := ⟨by kernel_rfl⟩
instance : Zr SS 111 (.agg 111 [.nilc, .nilc]) := ⟨by kernel_rfl⟩
instance : Okt Tryd.prog 112 112 := ⟨by kernel_rfl⟩
instance : Okt Tryd.prog 112 111 := ⟨by kernel_rfl⟩
instance : Okt Tryd.prog 111 112 := ⟨by kernel_rfl⟩
instance : Ag Tryd.prog 112 := ⟨by kernel_rfl⟩
instance : AgT Tryd.prog 112 [73, 27] := ⟨by kernel_rfl⟩
instance : Fld Tryd.prog 112 0 73 := ⟨by kernel_rfl⟩
instance : Fld Tryd.prog 112 1 27 := ⟨by kernel_rfl⟩
instance : Zr SS 112 (.agg 112 [.nilc, .nilc]) := ⟨by kernel_rfl⟩
instance : Okt Tryd.prog 113 113 := ⟨by kernel_rfl⟩
instance : Sc Tryd.prog 113 := ⟨by kernel_rfl⟩
instance : Zr SS 113 (.pu (.leaf .nilFunc)) := ⟨by kernel_rfl⟩
instance : Okt Tryd.prog 114 114 := ⟨by kernel_rfl⟩
instance : Sc Tryd.prog 114 := ⟨by kernel_rfl⟩
instance : Zr SS 114 (.pu (.leaf (.pointer none))) := ⟨by kernel_rfl⟩
instance : Okt Tryd.prog 115 115 := ⟨by kernel_rfl⟩
instance : Sc Tryd.prog 115 := ⟨by kernel_rfl⟩
instance : Zr SS 115 (.pu (.leaf .nilFunc)) := ⟨by kernel_rfl⟩
instance : Okt Tryd.prog 116 116 := ⟨by kernel_rfl⟩
instance : Sc Tryd.prog 116 := ⟨by kernel_rfl⟩
instance : Zr SS 116 (.pu (.leaf .nilFunc)) := ⟨by kernel_rfl⟩
instance : Okt Tryd.prog 117 117 := ⟨by kernel_rfl⟩
instance : Sc Tryd.prog 117 := ⟨by kernel_rfl⟩
instance : Zr SS 117 (.pu (.leaf .nilFunc)) := ⟨by kernel_rfl⟩
instance : Okt Tryd.prog 118 118 := ⟨by kernel_rfl⟩
instance : Sc Tryd.prog 118 := ⟨by kernel_rfl⟩
instance : Zr SS 118 (.pu (.leaf .nilFunc)) := ⟨by kernel_rfl⟩
instance : Okt Tryd.prog 119 119 := ⟨by kernel_rfl⟩
instance : Sc Tryd.prog 119 := ⟨by kernel_rfl⟩
instance : Zr SS 119 (.pu (.leaf .nilFunc)) := ⟨by kernel_rfl⟩
instance : Okt Tryd.prog 120 120 := ⟨by kernel_rfl⟩
instance : Sc Tryd.prog 120 := ⟨by kernel_rfl⟩
instance : Mp Tryd.prog 120 23 4 := ⟨by kernel_rfl⟩
instance : Zr SS 120 (.pu (.leaf (.map none))) := ⟨by kernel_rfl⟩
instance : Okt Tryd.prog 121 121 := ⟨by kernel_rfl⟩
instance : Sc Tryd.prog 121 := ⟨by kernel_rfl⟩
instance : Zr SS 121 (.pu (.leaf .nilFunc)) := ⟨by kernel_rfl⟩
instance : Okt Tryd.prog 122 122 := ⟨by kernel_rfl⟩
instance : Sc Tryd.prog 122 := ⟨by kernel_rfl⟩
instance : Mp Tryd.prog 122 23 30 := ⟨by kernel_rfl⟩
instance : Zr SS 122 (.pu (.leaf (.map none))) := ⟨by kernel_rfl⟩
instance : Okt Tryd.prog 123 123 := ⟨by kernel_rfl⟩
instance : Ag Tryd.prog 123 := ⟨by kernel_rfl⟩
instance : AgT Tryd.prog 123 [121, 121, 121, 121, 121, 121, 121, 121] := ⟨by kernel_rfl⟩
instance : Arr Tryd.prog 123 8 121 := ⟨by kernel_rfl⟩
instance : Zr SS 123 (.pu (.agg 123 (List.replicate 8 (.leaf .nilFunc)))) := ⟨by kernel_rfl⟩
instance : Okt Tryd.prog 124 124 := ⟨by kernel_rfl⟩
instance : Ag Tryd.prog 124 := ⟨by kernel_rfl⟩
instance : AgT Tryd.prog 124 [52, 122, 123] := ⟨by kernel_rfl⟩
instance : Fld Tryd.prog 124 0 52 := ⟨by kernel_rfl⟩
instance : Fld Tryd.prog 124 1 122 := ⟨by kernel_rfl⟩
instance : Fld Tryd.prog 124 2 123 := ⟨by kernel_rfl⟩
instance : Zr SS 124 (.agg 124 [(.agg 52 [.nilc, .nilc, .nilc]), (.pu (.leaf (.map none))), (.pu (.agg 123 (List.replicate 8 (.leaf .nilFunc))))]) := ⟨by kernel_rfl⟩
instance : Okt Tryd.prog 125 125 := ⟨by kernel_rfl⟩
instance : Okt Tryd.prog 125 124 := ⟨by kernel_rfl⟩
instance : Okt Tryd.prog 124 125 := ⟨by kernel_rfl⟩
instance : Ag Tryd.prog 125 := ⟨by kernel_rfl⟩
instance : AgT Tryd.prog 125 [52, 122, 123] := ⟨by kernel_rfl⟩
instance : Fld Tryd.prog 125 0 52 := ⟨by kernel_rfl⟩
instance : Fld Tryd.prog 125 1 122 := ⟨by kernel_rfl⟩
instance : Fld Tryd.prog 125 2 123 := ⟨by kernel_rfl⟩
instance : Zr SS 125 (.agg 125 [(.agg 52 [.nilc, .nilc, .nilc]), (.pu (.leaf (.map none))), (.pu (.agg 123 (List.replicate 8 (.leaf .nilFunc))))]) := ⟨by kernel_rfl⟩
instance : Okt Tryd.prog 126 126 := ⟨by kernel_rfl⟩
instance : Sc Tryd.prog 126 := ⟨by kernel_rfl⟩
instance : Zr SS 126 (.pu (.leaf (.pointer none))) := ⟨by kernel_rfl⟩
instance : Okt Tryd.prog 127 127 := ⟨by kernel_rfl⟩
instance : Ag Tryd.prog 127 := ⟨by kernel_rfl⟩
instance : AgT Tryd.prog 127 [3] := ⟨by kernel_rfl⟩
instance : Fld Tryd.prog 127 0 3 := ⟨by kernel_rfl⟩
instance : Zr SS 127 (.pu (.agg 127 [(.leaf (.int .i64 0))])) := ⟨by kernel_rfl⟩
instance : Okt Tryd.prog 128 128 := ⟨by kernel_rfl⟩
instance : Okt Tryd.prog 128 127 := ⟨by kernel_rfl⟩
instance : Okt Tryd.prog 127 128 := ⟨by kernel_rfl⟩
instance : Ag Tryd.prog 128 := ⟨by kernel_rfl⟩
instance : AgT Tryd.prog 128 [3] := ⟨by kernel_rfl⟩
instance : Fld Tryd.prog 128 0 3 := ⟨by kernel_rfl⟩
instance : Zr SS 128 (.pu (.agg 128 [(.leaf (.int .i64 0))])) := ⟨by kernel_rfl⟩
instance : Okt Tryd.prog 129 129 := ⟨by kernel_rfl⟩
instance : Sc Tryd.prog 129 := ⟨by kernel_rfl⟩
instance : Zr SS 129 (.pu (.leaf .nilFunc)) := ⟨by kernel_rfl⟩
instance : Okt Tryd.prog 130 130 := ⟨by kernel_rfl⟩
instance : Sc Tryd.prog 130 := ⟨by kernel_rfl⟩
instance : Zr SS 130 (.pu (.leaf .nilFunc)) := ⟨by kernel_rfl⟩
instance : Okt Tryd.prog 131 131 := ⟨by kernel_rfl⟩
instance : Sc Tryd.prog 131 := ⟨by kernel_rfl⟩
instance : Zr SS 131 (.pu (.leaf .nilFunc)) := ⟨by kernel_rfl⟩
instance : Okt Tryd.prog 132 132 := ⟨by kernel_rfl⟩
instance : Sc Tryd.prog 132 := ⟨by kernel_rfl⟩
instance : Zr SS 132 (.pu (.leaf .nilFunc)) := ⟨by kernel_rfl⟩
instance : Okt Tryd.prog 134 134 := ⟨by kernel_rfl⟩
instance : Sc Tryd.prog 134 := ⟨by kernel_rfl⟩
instance : Zr SS 134 (.pu (.leaf .nilFunc)) := ⟨by kernel_rfl⟩
instance : Okt Tryd.prog 135 135 := ⟨by kernel_rfl⟩
instance : Ag Tryd.prog 135 := ⟨by kernel_rfl⟩
instance : AgT Tryd.prog 135 [23, 3] := ⟨by kernel_rfl⟩
instance : Fld Tryd.prog 135 0 23 := ⟨by kernel_rfl⟩
instance : Fld Tryd.prog 135 1 3 := ⟨by kernel_rfl⟩
instance : Zr SS 135 (.pu (.agg 135 [(refP Z32), (.leaf (.int .i64 0))])) := ⟨by kernel_rfl⟩
instance : Okt Tryd.prog 136 136 := ⟨by kernel_rfl⟩
instance : Okt Tryd.prog 136 135 := ⟨by kernel_rfl⟩
instance : Okt Tryd.prog 135 136 := ⟨by kernel_rfl⟩
instance : Ag Tryd.prog 136 := ⟨by kernel_rfl⟩
instance : AgT Tryd.prog 136 [23, 3] := ⟨by kernel_rfl⟩
instance : Fld Tryd.prog 136 0 23 := ⟨by kernel_rfl⟩
instance : Fld Tryd.prog 136 1 3 := ⟨by kernel_rfl⟩
instance : Zr SS 136 (.pu (.agg 136 [(refP Z32), (.leaf (.int .i64 0))])) := ⟨by kernel_rfl⟩
instance : Okt Tryd.prog 137 137 := ⟨by kernel_rfl⟩
instance : Sc Tryd.prog 137 := ⟨by kernel_rfl⟩
instance : Zr SS 137 (.pu (.leaf .nilFunc)) := ⟨by kernel_rfl⟩
instance : Okt Tryd.prog 138 138 := ⟨by kernel_rfl⟩
instance : Sc Tryd.prog 138 := ⟨by kernel_rfl⟩
instance : Zr SS 138 (.pu (.leaf .nilFunc)) := ⟨by kernel_rfl⟩
instance : Okt Tryd.prog 139 139 := ⟨by kernel_rfl⟩
instance : Sc Tryd.prog 139 := ⟨by kernel_rfl⟩
instance : Zr SS 139 (.pu (.leaf (.pointer none))) := ⟨by kernel_rfl⟩
instance : Okt Tryd.prog 140 140 := ⟨by kernel_rfl⟩
instance : Ag Tryd.prog 140 := ⟨by kernel_rfl⟩
instance : AgT Tryd.prog 140 [3] := ⟨by kernel_rfl⟩
instance : Fld Tryd.prog 140 0 3 := ⟨by kernel_rfl⟩
instance : Zr SS 140 (.pu (.agg 140 [(.leaf (.int .i64 0))])) := ⟨by kernel_rfl⟩
instance : Okt Tryd.prog 141 141 := ⟨by kernel_rfl⟩
instance : Okt Tryd.prog 141 140 := ⟨by kernel_rfl⟩
instance : Okt Tryd.prog 140 141 := ⟨by kernel_rfl⟩
instance : Ag Tryd.prog 141 := ⟨by kernel_rfl⟩
instance : AgT Tryd.prog 141 [3] := ⟨by kernel_rfl⟩
instance : Fld Tryd.prog 141 0 3 := ⟨by kernel_rfl⟩
instance : Zr SS 141 (.pu (.agg 141 [(.leaf (.int .i64 0))])) := ⟨by kernel_rfl⟩
instance : Okt Tryd.prog 142 142 := ⟨by kernel_rfl⟩
instance : Sc Tryd.prog 142 := ⟨by kernel_rfl⟩
instance : Zr SS 142 (.pu (.leaf .nilFunc)) := ⟨by kernel_rfl⟩
instance : Okt Tryd.prog 143 143 := ⟨by kernel_rfl⟩
instance : Ag Tryd.prog 143 := ⟨by kernel_rfl⟩
instance : AgT Tryd.prog 143 [3, 142] := ⟨by kernel_rfl⟩
instance : Fld Tryd.prog 143 0 3 := ⟨by kernel_rfl⟩
instance : Fld Tryd.prog 143 1 142 := ⟨by kernel_rfl⟩
instance : Zr SS 143 (.pu (.agg 143 [(.leaf (.int .i64 0)), (.leaf .nilFunc)])) := ⟨by kernel_rfl⟩
instance : Okt Tryd.prog 144 144 := ⟨by kernel_rfl⟩
instance : Okt Tryd.prog 144 143 := ⟨by kernel_rfl⟩
instance : Okt Tryd.prog 143 144 := ⟨by kernel_rfl⟩
instance : Ag Tryd.prog 144 := ⟨by kernel_rfl⟩
instance : AgT Tryd.prog 144 [3, 142] := ⟨by kernel_rfl⟩
instance : Fld Tryd.prog 144 0 3 := ⟨by kernel_rfl⟩
instance : Fld Tryd.prog 144 1 142 := ⟨by kernel_rfl⟩
instance : Zr SS 144 (.pu (.agg 144 [(.leaf (.int .i64 0)), (.leaf .nilFunc)])) := ⟨by kernel_rfl⟩
instance : Okt Tryd.prog 145 145 := ⟨by kernel_rfl⟩
instance : Sc Tryd.prog 145 := ⟨by kernel_rfl⟩
instance : Zr SS 145 (.pu (.leaf .nilFunc)) := ⟨by kernel_rfl⟩
instance : Okt Tryd.prog 146 146 := ⟨by kernel_rfl⟩
instance : Sc Tryd.prog 146 := ⟨by kernel_rfl⟩
instance : Zr SS 146 (.pu (.leaf .nilFunc)) := ⟨by kernel_rfl⟩
instance : Okt Tryd.prog 147 147 := ⟨by kernel_rfl⟩
instance : Sc Tryd.prog 147 := ⟨by kernel_rfl⟩
instance : Zr SS 147 (.pu (.leaf .nilFunc)) := ⟨by kernel_rfl⟩
instance : Okt Tryd.prog 148 148 := ⟨by kernel_rfl⟩
instance : Okt Tryd.prog 148 147 := ⟨by kernel_rfl⟩
instance : Okt Tryd.prog 147 148 := ⟨by kernel_rfl⟩
instance : Sc Tryd.prog 148 := ⟨by kernel_rfl⟩
instance : Zr SS 148 (.pu (.leaf .nilFunc)) := ⟨by kernel_rfl⟩
instance : Okt Tryd.prog 149 149 := ⟨by kernel_rfl⟩
instance : Sc Tryd.prog 149 := ⟨by kernel_rfl⟩
instance : Zr SS 149 (.pu (.leaf .nilFunc)) := ⟨by kernel_rfl⟩
instance : Okt Tryd.prog 150 150 := ⟨by kernel_rfl⟩
instance : Sc Tryd.prog 150 := ⟨by kernel_rfl⟩
instance : Zr SS 150 (.pu (.leaf .nilFunc)) := ⟨by kernel_rfl⟩
instance : Okt Tryd.prog 151 151 := ⟨by kernel_rfl⟩
instance : Sc Tryd.prog 151 := ⟨by kernel_rfl⟩
instance : Zr SS 151 (.pu (.leaf .nilFunc)) := ⟨by kernel_rfl⟩
instance : Okt Tryd.prog 152 152 := ⟨by kernel_rfl⟩
instance : Okt Tryd.prog 152 151 := ⟨by kernel_rfl⟩
instance : Okt Tryd.prog 151 152 := ⟨by kernel_rfl⟩
instance : Sc Tryd.prog 152 := ⟨by kernel_rfl⟩
instance : Zr SS 152 (.pu (.leaf .nilFunc)) := ⟨by kernel_rfl⟩
instance : Okt Tryd.prog 153 153 := ⟨by kernel_rfl⟩
instance : Sc Tryd.prog 153 := ⟨by kernel_rfl⟩
instance : Zr SS 153 (.pu (.leaf .nilFunc)) := ⟨by kernel_rfl⟩
instance : Okt Tryd.prog 154 154 := ⟨by kernel_rfl⟩
instance : Ag Tryd.prog 154 := ⟨by kernel_rfl⟩
instance : AgT Tryd.prog 154 [30, 3] := ⟨by kernel_rfl⟩
instance : Fld Tryd.prog 154 0 30 := ⟨by kernel_rfl⟩
instance : Fld Tryd.prog 154 1 3 := ⟨by kernel_rfl⟩
instance : Zr SS 154 (.agg 154 [(.agg 30 [(.pu (.leaf (.int .i64 0))), (.pu (.leaf (.int .i64 0))), (.pu (refP Z32)), .nilc, .nilc]), (.pu (.leaf (.int .i64 0)))]) := ⟨by kernel_rfl⟩
instance : Okt Tryd.prog 155 155 := ⟨by kernel_rfl⟩
instance : Okt Tryd.prog 155 154 := ⟨by kernel_rfl⟩
instance : Okt Tryd.prog 154 155 := ⟨by kernel_rfl⟩
instance : Ag Tryd.prog 155 := ⟨by kernel_rfl⟩
instance : AgT Tryd.prog 155 [30, 3] := ⟨by kernel_rfl⟩
instance : Fld Tryd.prog 155 0 30 := ⟨by kernel_rfl⟩
instance : Fld Tryd.prog 155 1 3 := ⟨by kernel_rfl⟩
instance : Zr SS 155 (.agg 155 [(.agg 30 [(.pu (.leaf (.int .i64 0))), (.pu (.leaf (.int .i64 0))), (.pu (refP Z32)), .nilc, .nilc]), (.pu (.leaf (.int .i64 0)))]) := ⟨by kernel_rfl⟩
instance : Okt Tryd.prog 156 156 := ⟨by kernel_rfl⟩
instance : Sc Tryd.prog 156 := ⟨by kernel_rfl⟩
instance : Zr SS 156 (.pu (.leaf .nilFunc)) := ⟨by kernel_rfl⟩
instance : Okt Tryd.prog 157 157 := ⟨by kernel_rfl⟩
instance : Sc Tryd.prog 157 := ⟨by kernel_rfl⟩
instance : Zr SS 157 (.pu (.leaf .nilFunc)) := ⟨by kernel_rfl⟩
instance : Okt Tryd.prog 158 158 := ⟨by kernel_rfl⟩
instance : Sc Tryd.prog 158 := ⟨by kernel_rfl⟩
instance : Zr SS 158 (.pu (.leaf .nilFunc)) := ⟨by kernel_rfl⟩
instance : Okt Tryd.prog 159 159 := ⟨by kernel_rfl⟩
instance : Ag Tryd.prog 159 := ⟨by kernel_rfl⟩
instance : AgT Tryd.prog 159 [4, 4, 4] := ⟨by kernel_rfl⟩
instance : Arr Tryd.prog 159 3 4 := ⟨by kernel_rfl⟩
instance : Zr SS 159 (.pu (.agg 159 (List.replicate 3 (.leaf (.bool false))))) := ⟨by kernel_rfl⟩
instance : Okt Tryd.prog 160 160 := ⟨by kernel_rfl⟩
instance : Okt Tryd.prog 160 159 := ⟨by kernel_rfl⟩
instance : Okt Tryd.prog 159 160 := ⟨by kernel_rfl⟩
instance : Ag Tryd.prog 160 := ⟨by kernel_rfl⟩
instance : AgT Tryd.prog 160 [4, 4, 4] := ⟨by kernel_rfl⟩
instance : Arr Tryd.prog 160 3 4 := ⟨by kernel_rfl⟩
instance : Zr SS 160 (.pu (.agg 160 (List.replicate 3 (.leaf (.bool false))))) := ⟨by kernel_rfl⟩
instance : Okt Tryd.prog 161 161 := ⟨by kernel_rfl⟩
instance : Sc Tryd.prog 161 := ⟨by kernel_rfl⟩
instance : Zr SS 161 (.pu (.leaf .nilFunc)) := ⟨by kernel_rfl⟩
instance : Okt Tryd.prog 162 162 := ⟨by kernel_rfl⟩
instance : Sc Tryd.prog 162 := ⟨by kernel_rfl⟩
instance : Zr SS 162 (.pu (.leaf .nilFunc)) := ⟨by kernel_rfl⟩
instance : Okt Tryd.prog 163 163 := ⟨by kernel_rfl⟩
instance : Sc Tryd.prog 163 := ⟨by kernel_rfl⟩
instance : Zr SS 163 (.pu (.leaf .nilFunc)) := ⟨by kernel_rfl⟩
instance : Okt Tryd.prog 169 169 := ⟨by kernel_rfl⟩
instance : Sc Tryd.prog 169 := ⟨by kernel_rfl⟩
instance : Zr SS 169 (.pu (.leaf .nilFunc)) := ⟨by kernel_rfl⟩
instance : Okt Tryd.prog 170 170 := ⟨by kernel_rfl⟩
instance : Sc Tryd.prog 170 := ⟨by kernel_rfl⟩
instance : Zr SS 170 (.pu (.leaf (.int .u32 0))) := ⟨by kernel_rfl⟩
instance : Okt Tryd.prog 174 174 := ⟨by kernel_rfl⟩
instance : Sc Tryd.prog 174 := ⟨by kernel_rfl⟩
instance : Zr SS 174 (.pu (.leaf (.pointer none))) := ⟨by kernel_rfl⟩
instance : Okt Tryd.prog 179 179 := ⟨by kernel_rfl⟩
instance : Sc Tryd.prog 179 := ⟨by kernel_rfl⟩
instance : Zr SS 179 (.pu (.leaf .nilFunc)) := ⟨by kernel_rfl⟩
instance : Okt Tryd.prog 181 181 := ⟨by kernel_rfl⟩
instance : Sc Tryd.prog 181 := ⟨by kernel_rfl⟩
instance : Sl Tryd.prog 181 9 := ⟨by kernel_rfl⟩
instance : El Tryd.prog 181 9 16 := ⟨by kernel_rfl⟩
instance : Zr SS 181 .nilc := ⟨by kernel_rfl⟩
instance : Okt Tryd.prog 182 182 := ⟨by kernel_rfl⟩
instance : Sc Tryd.prog 182 := ⟨by kernel_rfl⟩
instance : Sl Tryd.prog 182 185 := ⟨by kernel_rfl⟩
instance : El Tryd.prog 182 185 120 := ⟨by kernel_rfl⟩
instance : Zr SS 182 .nilc := ⟨by kernel_rfl⟩
instance : Okt Tryd.prog 183 183 := ⟨by kernel_rfl⟩
instance : Sc Tryd.prog 183 := ⟨by kernel_rfl⟩
instance : Sl Tryd.prog 183 187 := ⟨by kernel_rfl⟩
instance : El Tryd.prog 183 187 216 := ⟨by kernel_rfl⟩
instance : Zr SS 183 .nilc := ⟨by kernel_rfl⟩
instance : Okt Tryd.prog 184 184 := ⟨by kernel_rfl⟩
instance : Ag Tryd.prog 184 := ⟨by kernel_rfl⟩
instance : AgT Tryd.prog 184 [3, 3, 23, 181, 182, 183] := ⟨by kernel_rfl⟩
instance : Fld Tryd.prog 184 0 3 := ⟨by kernel_rfl⟩
instance : Fld Tryd.prog 184 1 3 := ⟨by kernel_rfl⟩
instance : Fld Tryd.prog 184 2 23 := ⟨by kernel_rfl⟩
instance : Fld Tryd.prog 184 3 181 := ⟨by kernel_rfl⟩
instance : Fld Tryd.prog 184 4 182 := ⟨by kernel_rfl⟩
instance : Fld Tryd.prog 184 5 183 := ⟨by kernel_rfl⟩
instance : Zr SS 184 (.agg 184 [(.pu (.leaf (.int .i64 0))), (.pu (.leaf (.int .i64 0))), (.pu (refP Z32)), .nilc, .nilc, .nilc]) := ⟨by kernel_rfl⟩
instance : Okt Tryd.prog 185 185 := ⟨by kernel_rfl⟩
instance : Okt Tryd.prog 185 184 := ⟨by kernel_rfl⟩
instance : Okt Tryd.prog 184 185 := ⟨by kernel_rfl⟩
instance : Ag Tryd.prog 185 := ⟨by kernel_rfl⟩
instance : AgT Tryd.prog 185 [3, 3, 23, 181, 182, 183] := ⟨by kernel_rfl⟩
instance : Fld Tryd.prog 185 0 3 := ⟨by kernel_rfl⟩
instance : Fld Tryd.prog 185 1 3 := ⟨by kernel_rfl⟩
instance : Fld Tryd.prog 185 2 23 := ⟨by kernel_rfl⟩
instance : Fld Tryd.prog 185 3 181 := ⟨by kernel_rfl⟩
instance : Fld Tryd.prog 185 4 182 := ⟨by kernel_rfl⟩
instance : Fld Tryd.prog 185 5 183 := ⟨by kernel_rfl⟩
instance : Zr SS 185 (.agg 185 [(.pu (.leaf (.int .i64 0))), (.pu (.leaf (.int .i64 0))), (.pu (refP Z32)), .nilc, .nilc, .nilc]) := ⟨by kernel_rfl⟩
instance : Okt Tryd.prog 186 186 := ⟨by kernel_rfl⟩
instance : Ag Tryd.prog 186 := ⟨by kernel_rfl⟩
instance : AgT Tryd.prog 186 [26, 181, 185] := ⟨by kernel_rfl⟩
instance : Fld Tryd.prog 186 0 26 := ⟨by kernel_rfl⟩
instance : Fld Tryd.prog 186 1 181 := ⟨by kernel_rfl⟩
instance : Fld Tryd.prog 186 2 185 := ⟨by kernel_rfl⟩
instance : Zr SS 186 (.agg 186 [(.agg 26 [(.pu (.leaf (.int .i64 0))), (.pu (.leaf (.int .i64 0))), (.pu (refP Z32)), .nilc]), .nilc, (.agg 185 [(.pu (.leaf (.int .i64 0))), (.pu (.leaf (.int .i64 0))), (.pu (refP Z32)), .nilc, .nilc, .nilc])]) := ⟨by kernel_rfl⟩
instance : Okt Tryd.prog 187 187 := ⟨by kernel_rfl⟩
instance : Okt Tryd.prog 187 186 := ⟨by kernel_rfl⟩
instance : Okt Tryd.prog 186 187 := ⟨by kernel_rfl⟩
instance : Ag Tryd.prog 187 := ⟨by kernel_rfl⟩
instance : AgT Tryd.prog 187 [26, 181, 185] := ⟨by kernel_rfl⟩
instance : Fld Tryd.prog 187 0 26 := ⟨by kernel_rfl⟩
instance : Fld Tryd.prog 187 1 181 := ⟨by kernel_rfl⟩
instance : Fld Tryd.prog 187 2 185 := ⟨by kernel_rfl⟩
instance : Zr SS 187 (.agg 187 [(.agg 26 [(.pu (.leaf (.int .i64 0))), (.pu (.leaf (.int .i64 0))), (.pu (refP Z32)), .nilc]), .nilc, (.agg 185 [(.pu (.leaf (.int .i64 0))), (.pu (.leaf (.int .i64 0))), (.pu (refP Z32)), .nilc, .nilc, .nilc])]) := ⟨by kernel_rfl⟩
instance (p : Pat) : TyV Tryd.prog 26 (.pu (patc lo p)) := by cases p; exact inferInstanceAs (TyV Tryd.prog 26 (.pu (.agg _ _)))
instance (t : Tm) : TyV Tryd.prog 30 (.pu (tmc lo t)) := by cases t; exact inferInstanceAs (TyV Tryd.prog 30 (.pu (.agg _ _)))
instance (c : Cs) : TyV Tryd.prog 34 (.pu (csec lo c)) := by cases c; exact inferInstanceAs (TyV Tryd.prog 34 (.pu (.agg _ _)))
instance (r : List Int) : TyV Tryd.prog 23 (.pu (refP r)) := inferInstanceAs (TyV Tryd.prog 23 (.pu (.agg _ _)))
end Go.Proofs.YtkcgkignhpepkaaDoor

/- Digests: as long as they are, and compared. -/
namespace Go.Proofs.YtkcgkignhpepkaaDoor
open Go Hs
variable {lo : Nat}

theorem ref_len {D : Nat → Nat → Prop} {w : World} {r : List Int} {x : List Value} (h : PR Tryd.prog D w (refP r) x) : r.length = 32 := by
  have hc : comps Tryd.prog 23 = some (List.replicate 32 (1, 5)) := by kernel_rfl
  unfold refP at h
  cases h with
  | agg h1 h2 =>
    rw [hc] at h1
    simp only [Option.some.injEq] at h1
    subst h1
    have := h2.length.2
    simpa using this

mutual
def wfP : Pat → Prop
  | .mk _ _ r ks => r.length = 32 ∧ wfPs ks
def wfPs : List Pat → Prop
  | [] => True
  | p :: ps => wfP p ∧ wfPs ps
end
mutual
def wfT : Tm → Prop
  | .mk _ _ r ks cs => r.length = 32 ∧ wfTs ks ∧ wfCs cs
def wfTs : List Tm → Prop
  | [] => True
  | t :: ts => wfT t ∧ wfTs ts
def wfC : Cs → Prop
  | .mk p t => wfP p ∧ wfT t
def wfCs : List Cs → Prop
  | [] => True
  | c :: cs => wfC c ∧ wfCs cs
end
theorem wfPs_mem : ∀ {ks : List Pat}, wfPs ks → ∀ k ∈ ks, wfP k
  | [], _, k, h => by cases h
  | p :: ps, h, k, hk => by
    rcases List.mem_cons.1 hk with rfl | hk
    · exact h.1
    · exact wfPs_mem h.2 k hk
theorem wfTs_mem : ∀ {ks : List Tm}, wfTs ks → ∀ k ∈ ks, wfT k
  | [], _, k, h => by cases h
  | p :: ps, h, k, hk => by
    rcases List.mem_cons.1 hk with rfl | hk
    · exact h.1
    · exact wfTs_mem h.2 k hk
theorem wfCs_mem : ∀ {ks : List Cs}, wfCs ks → ∀ k ∈ ks, wfC k
  | [], _, k, h => by cases h
  | p :: ps, h, k, hk => by
    rcases List.mem_cons.1 hk with rfl | hk
    · exact h.1
    · exact wfCs_mem h.2 k hk

/-- The parts of pure data that is read. -/
theorem PR_agg {D : Nat → Nat → Prop} {w : World} {T : TypeId} {ps : List Pu} {x : List Value} (h : PR Tryd.prog D w (.agg T ps) x) : ∃ cs, PRs Tryd.prog D w cs ps x := by
  cases h with
  | agg _ h => exact ⟨_, h⟩
theorem PRs_cons {D : Nat → Nat → Prop} {w : World} {cs : List (Nat × TypeId)} {p : Pu} {ps : List Pu} {x : List Value} (h : PRs Tryd.prog D w cs (p :: ps) x) : (∃ y, PR Tryd.prog D w p y) ∧ ∃ cs' y, PRs Tryd.prog D w cs' ps y := by
  cases h with
  | cons h _ _ t => exact ⟨⟨_, h⟩, _, _, t⟩
theorem PR_sl {D : Nat → Nat → Prop} {w : World} {E : TypeId} {ps : List Pu} {x : List Value} (h : PR Tryd.prog D w (.sl lo E ps) x) : ∃ cs y, PRs Tryd.prog D w cs ps y := by
  cases h with
  | sl0 => exact ⟨[], [], .nil⟩
  | sl _ _ h _ _ => exact ⟨_, _, h⟩

mutual
theorem pat_wf {D : Nat → Nat → Prop} {w : World} : ∀ {p : Pat} {x : List Value}, PR Tryd.prog D w (patc lo p) x → wfP p
  | .mk k n r ks, x, h => by
    obtain ⟨_, h⟩ := PR_agg h
    obtain ⟨_, _, _, h⟩ := PRs_cons h
    obtain ⟨_, _, _, h⟩ := PRs_cons h
    obtain ⟨⟨_, h1⟩, _, _, h⟩ := PRs_cons h
    obtain ⟨⟨_, h2⟩, _⟩ := PRs_cons h
    obtain ⟨_, _, h2⟩ := PR_sl h2
    exact ⟨ref_len h1, pats_wf h2⟩
theorem pats_wf {D : Nat → Nat → Prop} {w : World} : ∀ {ks : List Pat} {cs : List (Nat × TypeId)} {x : List Value}, PRs Tryd.prog D w cs (patsc lo ks) x → wfPs ks
  | [], _, _, _ => trivial
  | p :: ps, _, _, h => by
    obtain ⟨⟨_, h1⟩, _, _, h2⟩ := PRs_cons h
    exact ⟨pat_wf h1, pats_wf h2⟩
end
mutual
theorem tm_wf {D : Nat → Nat → Prop} {w : World} : ∀ {t : Tm} {x : List Value}, PR Tryd.prog D w (tmc lo t) x → wfT t
  | .mk k n r ks cs, x, h => by
    obtain ⟨_, h⟩ := PR_agg h
    obtain ⟨_, _, _, h⟩ := PRs_cons h
    obtain ⟨_, _, _, h⟩ := PRs_cons h
    obtain ⟨⟨_, h1⟩, _, _, h⟩ := PRs_cons h
    obtain ⟨⟨_, h2⟩, _, _, h⟩ := PRs_cons h
    obtain ⟨⟨_, h3⟩, _⟩ := PRs_cons h
    obtain ⟨_, _, h2⟩ := PR_sl h2
    obtain ⟨_, _, h3⟩ := PR_sl h3
    exact ⟨ref_len h1, tms_wf h2, css_wf h3⟩
theorem tms_wf {D : Nat → Nat → Prop} {w : World} : ∀ {ks : List Tm} {cs : List (Nat × TypeId)} {x : List Value}, PRs Tryd.prog D w cs (tmsc lo ks) x → wfTs ks
  | [], _, _, _ => trivial
  | p :: ps, _, _, h => by
    obtain ⟨⟨_, h1⟩, _, _, h2⟩ := PRs_cons h
    exact ⟨tm_wf h1, tms_wf h2⟩
theorem cs_wf {D : Nat → Nat → Prop} {w : World} : ∀ {c : Cs} {x : List Value}, PR Tryd.prog D w (csec lo c) x → wfC c
  | .mk p t, x, h => by
    obtain ⟨_, h⟩ := PR_agg h
    obtain ⟨⟨_, h1⟩, _, _, h⟩ := PRs_cons h
    obtain ⟨⟨_, h2⟩, _⟩ := PRs_cons h
    exact ⟨pat_wf h1, tm_wf h2⟩
theorem css_wf {D : Nat → Nat → Prop} {w : World} : ∀ {ks : List Cs} {cs : List (Nat × TypeId)} {x : List Value}, PRs Tryd.prog D w cs (cssc lo ks) x → wfCs ks
  | [], _, _, _ => trivial
  | p :: ps, _, _, h => by
    obtain ⟨⟨_, h1⟩, _, _, h2⟩ := PRs_cons h
    exact ⟨cs_wf h1, css_wf h2⟩
end

theorem peq_u8 (d : Nat) (a b : Int) : peqT Tryd.prog (d + 1) 5 (.leaf (.int .u8 a)) (.leaf (.int .u8 b)) = some (a == b) := by
  have hu : Tryd.prog.underlying 5 = some (.int .u8) := by kernel_rfl
  simp [peqT, hu]
theorem peqL_u8 (d : Nat) : ∀ (r s : List Int), r.length = s.length → peqL (peqT Tryd.prog (d + 1) 5) (r.map fun n => .leaf (.int .u8 n)) (s.map fun n => .leaf (.int .u8 n)) = some (r == s)
  | [], [], _ => rfl
  | a :: r, b :: s, h => by
    simp only [List.map_cons, peqL, peq_u8, peqL_u8 d r s (by simpa using h)]
    rfl
  | [], _ :: _, h => by simp at h
  | _ :: _, [], h => by simp at h
theorem peq_refD (d : Nat) {r s : List Int} (h : r.length = s.length) : peqT Tryd.prog (d + 2) 23 (refP r) (refP s) = some (r == s) := by
  have hu : Tryd.prog.underlying 23 = some (.array 32 5) := by kernel_rfl
  rw [← peqL_u8 d r s h]
  unfold refP
  rw [peqT.eq_def]
  simp only [hu]
theorem peq_ref {r s : List Int} (h : r.length = s.length) : peqT Tryd.prog 100 23 (refP r) (refP s) = some (r == s) := by
  generalize hd : (100 : Nat) = d
  obtain ⟨e, rfl⟩ : ∃ e, d = e + 2 := ⟨98, by omega⟩
  exact peq_refD e h
theorem sum_cond (r s : List Int) : Tryd.prog.eqGuardType Tryd.prog.depth 23 = false ∧ 23 < Tryd.prog.types.size ∧ tyP Tryd.prog 23 (refP r) = true ∧ tyP Tryd.prog 23 (refP s) = true :=
  ⟨by kernel_rfl, of_decide_eq_true (by kernel_rfl), (show tyV Tryd.prog 23 (.pu (refP r)) = true from TyV.ok), (show tyV Tryd.prog 23 (.pu (refP s)) = true from TyV.ok)⟩
theorem bin_eqS {r s : List Int} (h : r.length = s.length) : binV Tryd.prog .eql 23 (.pu (refP r)) (.pu (refP s)) = some (bv (r == s)) := by
  have h1 := sum_cond r s
  have h2 := peq_ref h
  unfold refP at h1 h2 ⊢
  simp only [binV, if_pos h1, h2]
theorem bin_neS {r s : List Int} (h : r.length = s.length) : binV Tryd.prog .neq 23 (.pu (refP r)) (.pu (refP s)) = some (bv (!(r == s))) := by
  have h1 := sum_cond r s
  have h2 := peq_ref h
  unfold refP at h1 h2 ⊢
  simp only [binV, if_pos h1, h2]
end Go.Proofs.YtkcgkignhpepkaaDoor

/- slices.IndexFunc, slices.ContainsFunc with a callback. -/
namespace Go.Proofs.YtkcgkignhpepkaaDoor
open Go Hs
variable {G : List (Nat × TypeId × Pu)} {lo : Nat}


theorem idxPat_c {vf : PV} {f : FuncId} {first captured : List PV} {HR : List (Nat × Ob)} (hvf : fnV vf = some (f, first, captured)) (hst : Str vf vf) (hnt : isTup vf = false) (hent : entersB Tryd.prog f = true) (hna : (first ++ captured).any isTup = false)
    (hfree : ∀ l ob, get HR l = some ob → freeOb ob = true) {ps : List Pu} (hlen : ps.length < 4611686018427387904) {H H' : List (Nat × Ob)} {r : Option Nat} (hd0 : disjB HR H' = true) (hk : ∀ l ob, get H l = some ob → ∃ ob', get H' l = some ob') (hR : ∀ l ob, get HR l = some ob → get H l = none)
    (h : AnyC Tryd.prog G f first captured HR ps H r H') : HCall Tryd.prog G 53 [.pu (.sl lo 26 ps), vf] HR H (iv .i64 (idxV r)) H' [] := by
  refine HCall.of_tri tbl (n := 19) (L := keysOf H' ++ heapLabs H') Tryd.func53 rfl rfl hfree (fun l ob hl => disjB_none hd0 hl) (fun l hl => by simp [PV.labs] at hl) (fun l ob hl => keys_mem hl) hk ?_
  rintro ⟨w0, n', M, G', L, R, ρ0, D0, ro⟩ hn hG hL hR' hro
  simp only at hn hG hL hR' hro
  subst hn hG hL hR' hro
  have hset : ∀ (i : Nat) (H1 : List (Nat × Ob)) (r1 : Option Nat), AnyC Tryd.prog G' f first captured HR (ps.drop i) H1 r1 H' → True := fun _ _ _ _ => trivial
  let σ := {s : Nat × List (Nat × Ob) × Option Nat // AnyC Tryd.prog G' f first captured HR (ps.drop s.1) s.2.1 s.2.2 H' ∧ s.1 ≤ ps.length ∧ idxV r = (match s.2.2 with | some j => ((s.1 + j : Nat) : Int) | none => -1) ∧ (∀ l ob, get s.2.1 l = some ob → l ∉ keysOf HR)}
  refine yR ?_
  refine yB ?_
  refine e_seq ?_
  refine yR ?_
  refine yM ?_
  refine yC ?_
  refine yJ ?_
  refine e_seq ?_
  repeat refine Tri.seq ?_
  refine Tri.block (Tri.loop (σ := σ) (fun s => ⟨[(0, .pu (.sl lo 26 ps)), (1, vf), (7, iv .i64 ps.length), (8, iv .i64 s.1.1)], HR ++ s.1.2.1⟩) (fun s => ps.length - s.1.1) ⟨(0, H, r), by simpa using h, Nat.zero_le _, by cases r <;> simp [idxV], fun l ob hl hm => ?_⟩ ?_ (fun s => ?_))
  · obtain ⟨ob', ho⟩ := get_some_of (a := HR) hm
    rw [hR l ob' ho] at hl
    cases hl
  · exact le_same (.cons rfl rfl (.cons rfl rfl (.cons rfl rfl (.cons rfl rfl .nil))))
  obtain ⟨⟨i, H1, r1⟩, hA, hi0, hr1, hdisj⟩ := s
  simp only at hA hi0 hr1 hdisj ⊢
  refine yR ?_
  refine yI ?_
  refine e_seq ?_
  refine Tri.seq (Tri.cond rfl (fun hb => Tri.skip ?_) (fun hb => Tri.exit ?_))
  · have hi : i < ps.length := by simpa using hb
    obtain ⟨p, hp⟩ : ∃ p, ps[i]? = some p := ⟨ps[i], by simp [hi]⟩
    have hdr : ps.drop i = p :: ps.drop (i + 1) := by
      rw [List.drop_eq_getElem_cons hi]
      simp only [List.getElem?_eq_getElem hi, Option.some.injEq] at hp
      rw [hp]
    rw [hdr] at hA
    have hHR : ∀ l ob, get HR l = some ob → ∃ ob1, get (HR ++ H1) l = some ob1 ∧ ObImp Tryd.prog ob1 ob := fun l ob hl => ⟨ob, by rw [get_append, hl]; rfl, ObImp.refl _⟩
    have hH1 : ∀ l ob, get H1 l = some ob → l ∉ keysOf HR ∧ ∃ ob1, get (HR ++ H1) l = some ob1 ∧ ObImp Tryd.prog ob1 ob := fun l ob hl => by
      refine ⟨hdisj l ob hl, ob, ?_, ObImp.refl _⟩
      rw [get_append]
      cases hg : get HR l with
      | some o => exact absurd (get_keys hg) (hdisj l ob hl)
      | none => simpa using hl
    have hnt2 : (first ++ [PV.pu p] ++ captured).any isTup = false := by
      simp only [List.any_append, Bool.or_eq_false_iff] at hna ⊢
      exact ⟨⟨hna.1, by simp [isTup]⟩, hna.2⟩
    refine Tri.seq (Tri.block ?_)
    refine yR ?_
    refine yM ?_
    refine yA ?_
    refine e_seq ?_
    cases hA with
    | hit hc hd =>
      refine yR ?_
      refine s_val (v_move SS (h := Ev.mk rfl hst)) ?_
      refine yM ?_
      refine yM ?_
      refine s_val (v_index SS (h0 := by omega) (hp := hp)) ?_
      refine yL ?_
      refine step_call (vf := vf) (first := first) (captured := captured) (vs := [.pu p]) (HR := HR) (H := H1) (news := []) rfl hst hvf hent (.cons (.mk rfl .pu) .nil) rfl (VImps.refl _) hnt2 hHR hH1 hc rfl ?_
      refine e_seq ?_
      repeat refine Tri.seq ?_
      refine Tri.condT rfl ?_
      refine yR ?_
      refine yM ?_
      refine yA ?_
      refine e_seq ?_
      refine Tri.ret ⟨.inr rfl, _, Ghost.refl _, ret1 rfl resV_tmp (iv_imp ?_), fun l ob hl => ⟨ob, ?_, ObImp.refl _⟩⟩
      · rw [hr1]
        simp
      · rw [get_append, hl]; rfl
    | next hc hd t =>
      rename_i H2 r2
      refine yR ?_
      refine s_val (v_move SS (h := Ev.mk rfl hst)) ?_
      refine yM ?_
      refine yM ?_
      refine s_val (v_index SS (h0 := by omega) (hp := hp)) ?_
      refine yL ?_
      refine step_call (vf := vf) (first := first) (captured := captured) (vs := [.pu p]) (HR := HR) (H := H1) (news := []) rfl hst hvf hent (.cons (.mk rfl .pu) .nil) rfl (VImps.refl _) hnt2 hHR hH1 hc rfl ?_
      refine e_seq ?_
      repeat refine Tri.seq ?_
      refine Tri.condF rfl ?_
      refine Tri.skip ?_
      refine yR ?_
      refine yI ?_
      refine yM ?_
      refine e_seq ?_
      refine ⟨⟨(i + 1, H2, r2), t, hi, ?_, fun l ob hl hm => ?_⟩, by simp; omega, le_call hd (.cons rfl rfl (.cons rfl rfl (.cons rfl rfl (.cons rfl ?_ .nil))))⟩
      · rw [hr1]
        cases r2 with
        | none => rfl
        | some j => exact congrArg (fun n : Nat => (n : Int)) (show i + (j + 1) = i + 1 + j by omega)
      · obtain ⟨ob', ho⟩ := get_some_of (a := HR) hm
        rw [disjB_none hd hl] at ho
        cases ho
      · rw [wrap64 (by omega) (by omega)]
        rfl
  · have hi : i = ps.length := by
      have : ps.length ≤ i := by simpa using hb
      omega
    subst hi
    rw [List.drop_length] at hA
    cases hA
    refine yR ?_
    refine yB ?_
    refine e_seq ?_
    refine Tri.ret ⟨.inr rfl, _, Ghost.refl _, ret1 rfl resV_tmp (iv_imp (by rw [hr1])), fun l ob hl => ⟨ob, ?_, ObImp.refl _⟩⟩
    rw [get_append]
    cases hg : get HR l with
    | some o => exact absurd (get_keys hg) (hdisj l ob hl)
    | none => simpa using hl

theorem conPat_c {vf : PV} {f : FuncId} {first captured : List PV} {HR : List (Nat × Ob)} (hvf : fnV vf = some (f, first, captured)) (hst : Str vf vf) (hnt : isTup vf = false) (hent : entersB Tryd.prog f = true) (hna : (first ++ captured).any isTup = false)
    (hfree : ∀ l ob, get HR l = some ob → freeOb ob = true) {ps : List Pu} (hlen : ps.length < 4611686018427387904) {H H' : List (Nat × Ob)} {r : Option Nat} (hd0 : disjB HR H' = true) (hd1 : disjB HR H = true) (hk : ∀ l ob, get H l = some ob → ∃ ob', get H' l = some ob')
    (h : AnyC Tryd.prog G f first captured HR ps H r H') : HCall Tryd.prog G 24 [.pu (.sl lo 26 ps), vf] HR H (bv r.isSome) H' [] := by
  refine HCall.of_tri tbl (n := 9) (L := keysOf H' ++ heapLabs H') Tryd.func24 rfl rfl hfree (fun l ob hl => disjB_none hd0 hl) (fun l hl => by simp [PV.labs] at hl) (fun l ob hl => keys_mem hl) hk ?_
  rintro ⟨w0, n', M, G', L, R, ρ0, D0, ro⟩ hn hG hL hR' hro
  simp only at hn hG hL hR' hro
  subst hn hG hL hR' hro
  have hHR : ∀ l ob, get HR l = some ob → ∃ ob1, get (HR ++ H) l = some ob1 ∧ ObImp Tryd.prog ob1 ob := fun l ob hl => ⟨ob, by rw [get_append, hl]; rfl, ObImp.refl _⟩
  have hH1 : ∀ l ob, get H l = some ob → l ∉ keysOf HR ∧ ∃ ob1, get (HR ++ H) l = some ob1 ∧ ObImp Tryd.prog ob1 ob := fun l ob hl => by
    have hz := disjB_none hd1 hl
    refine ⟨fun hm => ?_, ob, ?_, ObImp.refl _⟩
    · obtain ⟨ob', ho⟩ := get_some_of (a := HR) hm
      rw [hz] at ho; cases ho
    · rw [get_append, hz]; simpa using hl
  refine yR ?_
  refine yB ?_
  refine e_seq ?_
  refine yR ?_
  refine yM ?_
  refine s_val (v_move SS (h := Ev.mk rfl hst)) ?_
  refine step_call (vf := .pu (.leaf (.func (.func 53) #[] #[]))) (first := []) (captured := []) (vs := [.pu (.sl lo 26 ps), vf]) (HR := HR) (H := H) (news := []) rfl .pu rfl (by kernel_rfl) (.cons (.mk rfl .pu) (.cons (.mk rfl hst) .nil)) (by rw [List.any_cons, List.any_cons, hnt]; rfl) (VImps.refl _) (by rw [List.nil_append, List.append_nil, List.any_cons, List.any_cons, hnt]; rfl) hHR hH1 (idxPat_c hvf hst hnt hent hna hfree hlen hd0 hk (fun l ob hl => disjB_none' hd1 hl) h) rfl ?_
  refine yI ?_
  refine yA ?_
  refine e_seq ?_
  refine Tri.ret ⟨.inr rfl, _, Ghost.refl _, ret1 rfl resV_tmp (bv_imp ?_), fun l ob hl => ⟨ob, by rw [get_append, hl]; rfl, ObImp.refl _⟩⟩
  cases r with
  | none => simp [idxV]
  | some j => simp [idxV]

theorem conPat_d (vf : PV) {f : FuncId} {first captured : List PV} {HR : List (Nat × Ob)} {ps : List Pu} (hlen : ps.length < 4611686018427387904) {H H' : List (Nat × Ob)} {r : Option Nat} (h : AnyC Tryd.prog G f first captured HR ps H r H')
    (hvf : fnV vf = some (f, first, captured) := by rfl) (hst : Str vf vf := by repeat constructor) (hnt : isTup vf = false := by rfl) (hent : entersB Tryd.prog f = true := by kernel_rfl) (hna : (first ++ captured).any isTup = false := by rfl)
    (hfree : HR.all (fun q => freeOb q.2) = true := by rfl) (hd0 : disjB HR H' = true := by rfl) (hd1 : disjB HR H = true := by rfl) (hk : ((keysOf H).all fun l => (keysOf H').contains l) = true := by rfl) :
    HCall Tryd.prog G 24 [.pu (.sl lo 26 ps), vf] HR H (bv r.isSome) H' [] :=
  conPat_c hvf hst hnt hent hna (fun l ob hl => List.all_eq_true.1 hfree _ (get_mem hl)) hlen hd0 hd1 (fun l ob hl => get_some_of (by simpa [keysOf] using List.all_eq_true.1 hk l (get_keys hl))) h


theorem idxTm_c {vf : PV} {f : FuncId} {first captured : List PV} {HR : List (Nat × Ob)} (hvf : fnV vf = some (f, first, captured)) (hst : Str vf vf) (hnt : isTup vf = false) (hent : entersB Tryd.prog f = true) (hna : (first ++ captured).any isTup = false)
    (hfree : ∀ l ob, get HR l = some ob → freeOb ob = true) {ps : List Pu} (hlen : ps.length < 4611686018427387904) {H H' : List (Nat × Ob)} {r : Option Nat} (hd0 : disjB HR H' = true) (hk : ∀ l ob, get H l = some ob → ∃ ob', get H' l = some ob') (hR : ∀ l ob, get HR l = some ob → get H l = none)
    (h : AnyC Tryd.prog G f first captured HR ps H r H') : HCall Tryd.prog G 54 [.pu (.sl lo 30 ps), vf] HR H (iv .i64 (idxV r)) H' [] := by
  refine HCall.of_tri tbl (n := 19) (L := keysOf H' ++ heapLabs H') Tryd.func54 rfl rfl hfree (fun l ob hl => disjB_none hd0 hl) (fun l hl => by simp [PV.labs] at hl) (fun l ob hl => keys_mem hl) hk ?_
  rintro ⟨w0, n', M, G', L, R, ρ0, D0, ro⟩ hn hG hL hR' hro
  simp only at hn hG hL hR' hro
  subst hn hG hL hR' hro
  have hset : ∀ (i : Nat) (H1 : List (Nat × Ob)) (r1 : Option Nat), AnyC Tryd.prog G' f first captured HR (ps.drop i) H1 r1 H' → True := fun _ _ _ _ => trivial
  let σ := {s : Nat × List (Nat × Ob) × Option Nat // AnyC Tryd.prog G' f first captured HR (ps.drop s.1) s.2.1 s.2.2 H' ∧ s.1 ≤ ps.length ∧ idxV r = (match s.2.2 with | some j => ((s.1 + j : Nat) : Int) | none => -1) ∧ (∀ l ob, get s.2.1 l = some ob → l ∉ keysOf HR)}
  refine yR ?_
  refine yB ?_
  refine e_seq ?_
  refine yR ?_
  refine yM ?_
  refine yC ?_
  refine yJ ?_
  refine e_seq ?_
  repeat refine Tri.seq ?_
  refine Tri.block (Tri.loop (σ := σ) (fun s => ⟨[(0, .pu (.sl lo 30 ps)), (1, vf), (7, iv .i64 ps.length), (8, iv .i64 s.1.1)], HR ++ s.1.2.1⟩) (fun s => ps.length - s.1.1) ⟨(0, H, r), by simpa using h, Nat.zero_le _, by cases r <;> simp [idxV], fun l ob hl hm => ?_⟩ ?_ (fun s => ?_))
  · obtain ⟨ob', ho⟩ := get_some_of (a := HR) hm
    rw [hR l ob' ho] at hl
    cases hl
  · exact le_same (.cons rfl rfl (.cons rfl rfl (.cons rfl rfl (.cons rfl rfl .nil))))
  obtain ⟨⟨i, H1, r1⟩, hA, hi0, hr1, hdisj⟩ := s
  simp only at hA hi0 hr1 hdisj ⊢
  refine yR ?_
  refine yI ?_
  refine e_seq ?_
  refine Tri.seq (Tri.cond rfl (fun hb => Tri.skip ?_) (fun hb => Tri.exit ?_))
  · have hi : i < ps.length := by simpa using hb
    obtain ⟨p, hp⟩ : ∃ p, ps[i]? = some p := ⟨ps[i], by simp [hi]⟩
    have hdr : ps.drop i = p :: ps.drop (i + 1) := by
      rw [List.drop_eq_getElem_cons hi]
      simp only [List.getElem?_eq_getElem hi, Option.some.injEq] at hp
      rw [hp]
    rw [hdr] at hA
    have hHR : ∀ l ob, get HR l = some ob → ∃ ob1, get (HR ++ H1) l = some ob1 ∧ ObImp Tryd.prog ob1 ob := fun l ob hl => ⟨ob, by rw [get_append, hl]; rfl, ObImp.refl _⟩
    have hH1 : ∀ l ob, get H1 l = some ob → l ∉ keysOf HR ∧ ∃ ob1, get (HR ++ H1) l = some ob1 ∧ ObImp Tryd.prog ob1 ob := fun l ob hl => by
      refine ⟨hdisj l ob hl, ob, ?_, ObImp.refl _⟩
      rw [get_append]
      cases hg : get HR l with
      | some o => exact absurd (get_keys hg) (hdisj l ob hl)
      | none => simpa using hl
    have hnt2 : (first ++ [PV.pu p] ++ captured).any isTup = false := by
      simp only [List.any_append, Bool.or_eq_false_iff] at hna ⊢
      exact ⟨⟨hna.1, by simp [isTup]⟩, hna.2⟩
    refine Tri.seq (Tri.block ?_)
    refine yR ?_
    refine yM ?_
    refine yA ?_
    refine e_seq ?_
    cases hA with
    | hit hc hd =>
      refine yR ?_
      refine s_val (v_move SS (h := Ev.mk rfl hst)) ?_
      refine yM ?_
      refine yM ?_
      refine s_val (v_index SS (h0 := by omega) (hp := hp)) ?_
      refine yL ?_
      refine step_call (vf := vf) (first := first) (captured := captured) (vs := [.pu p]) (HR := HR) (H := H1) (news := []) rfl hst hvf hent (.cons (.mk rfl .pu) .nil) rfl (VImps.refl _) hnt2 hHR hH1 hc rfl ?_
      refine e_seq ?_
      repeat refine Tri.seq ?_
      refine Tri.condT rfl ?_
      refine yR ?_
      refine yM ?_
      refine yA ?_
      refine e_seq ?_
      refine Tri.ret ⟨.inr rfl, _, Ghost.refl _, ret1 rfl resV_tmp (iv_imp ?_), fun l ob hl => ⟨ob, ?_, ObImp.refl _⟩⟩
      · rw [hr1]
        simp
      · rw [get_append, hl]; rfl
    | next hc hd t =>
      rename_i H2 r2
      refine yR ?_
      refine s_val (v_move SS (h := Ev.mk rfl hst)) ?_
      refine yM ?_
      refine yM ?_
      refine s_val (v_index SS (h0 := by omega) (hp := hp)) ?_
      refine yL ?_
      refine step_call (vf := vf) (first := first) (captured := captured) (vs := [.pu p]) (HR := HR) (H := H1) (news := []) rfl hst hvf hent (.cons (.mk rfl .pu) .nil) rfl (VImps.refl _) hnt2 hHR hH1 hc rfl ?_
      refine e_seq ?_
      repeat refine Tri.seq ?_
      refine Tri.condF rfl ?_
      refine Tri.skip ?_
      refine yR ?_
      refine yI ?_
      refine yM ?_
      refine e_seq ?_
      refine ⟨⟨(i + 1, H2, r2), t, hi, ?_, fun l ob hl hm => ?_⟩, by simp; omega, le_call hd (.cons rfl rfl (.cons rfl rfl (.cons rfl rfl (.cons rfl ?_ .nil))))⟩
      · rw [hr1]
        cases r2 with
        | none => rfl
        | some j => exact congrArg (fun n : Nat => (n : Int)) (show i + (j + 1) = i + 1 + j by omega)
      · obtain ⟨ob', ho⟩ := get_some_of (a := HR) hm
        rw [disjB_none hd hl] at ho
        cases ho
      · rw [wrap64 (by omega) (by omega)]
        rfl
  · have hi : i = ps.length := by
      have : ps.length ≤ i := by simpa using hb
      omega
    subst hi
    rw [List.drop_length] at hA
    cases hA
    refine yR ?_
    refine yB ?_
    refine e_seq ?_
    refine Tri.ret ⟨.inr rfl, _, Ghost.refl _, ret1 rfl resV_tmp (iv_imp (by rw [hr1])), fun l ob hl => ⟨ob, ?_, ObImp.refl _⟩⟩
    rw [get_append]
    cases hg : get HR l with
    | some o => exact absurd (get_keys hg) (hdisj l ob hl)
    | none => simpa using hl

theorem conTm_c {vf : PV} {f : FuncId} {first captured : List PV} {HR : List (Nat × Ob)} (hvf : fnV vf = some (f, first, captured)) (hst : Str vf vf) (hnt : isTup vf = false) (hent : entersB Tryd.prog f = true) (hna : (first ++ captured).any isTup = false)
    (hfree : ∀ l ob, get HR l = some ob → freeOb ob = true) {ps : List Pu} (hlen : ps.length < 4611686018427387904) {H H' : List (Nat × Ob)} {r : Option Nat} (hd0 : disjB HR H' = true) (hd1 : disjB HR H = true) (hk : ∀ l ob, get H l = some ob → ∃ ob', get H' l = some ob')
    (h : AnyC Tryd.prog G f first captured HR ps H r H') : HCall Tryd.prog G 26 [.pu (.sl lo 30 ps), vf] HR H (bv r.isSome) H' [] := by
  refine HCall.of_tri tbl (n := 9) (L := keysOf H' ++ heapLabs H') Tryd.func26 rfl rfl hfree (fun l ob hl => disjB_none hd0 hl) (fun l hl => by simp [PV.labs] at hl) (fun l ob hl => keys_mem hl) hk ?_
  rintro ⟨w0, n', M, G', L, R, ρ0, D0, ro⟩ hn hG hL hR' hro
  simp only at hn hG hL hR' hro
  subst hn hG hL hR' hro
  have hHR : ∀ l ob, get HR l = some ob → ∃ ob1, get (HR ++ H) l = some ob1 ∧ ObImp Tryd.prog ob1 ob := fun l ob hl => ⟨ob, by rw [get_append, hl]; rfl, ObImp.refl _⟩
  have hH1 : ∀ l ob, get H l = some ob → l ∉ keysOf HR ∧ ∃ ob1, get (HR ++ H) l = some ob1 ∧ ObImp Tryd.prog ob1 ob := fun l ob hl => by
    have hz := disjB_none hd1 hl
    refine ⟨fun hm => ?_, ob, ?_, ObImp.refl _⟩
    · obtain ⟨ob', ho⟩ := get_some_of (a := HR) hm
      rw [hz] at ho; cases ho
    · rw [get_append, hz]; simpa using hl
  refine yR ?_
  refine yB ?_
  refine e_seq ?_
  refine yR ?_
  refine yM ?_
  refine s_val (v_move SS (h := Ev.mk rfl hst)) ?_
  refine step_call (vf := .pu (.leaf (.func (.func 54) #[] #[]))) (first := []) (captured := []) (vs := [.pu (.sl lo 30 ps), vf]) (HR := HR) (H := H) (news := []) rfl .pu rfl (by kernel_rfl) (.cons (.mk rfl .pu) (.cons (.mk rfl hst) .nil)) (by rw [List.any_cons, List.any_cons, hnt]; rfl) (VImps.refl _) (by rw [List.nil_append, List.append_nil, List.any_cons, List.any_cons, hnt]; rfl) hHR hH1 (idxTm_c hvf hst hnt hent hna hfree hlen hd0 hk (fun l ob hl => disjB_none' hd1 hl) h) rfl ?_
  refine yI ?_
  refine yA ?_
  refine e_seq ?_
  refine Tri.ret ⟨.inr rfl, _, Ghost.refl _, ret1 rfl resV_tmp (bv_imp ?_), fun l ob hl => ⟨ob, by rw [get_append, hl]; rfl, ObImp.refl _⟩⟩
  cases r with
  | none => simp [idxV]
  | some j => simp [idxV]

theorem conTm_d (vf : PV) {f : FuncId} {first captured : List PV} {HR : List (Nat × Ob)} {ps : List Pu} (hlen : ps.length < 4611686018427387904) {H H' : List (Nat × Ob)} {r : Option Nat} (h : AnyC Tryd.prog G f first captured HR ps H r H')
    (hvf : fnV vf = some (f, first, captured) := by rfl) (hst : Str vf vf := by repeat constructor) (hnt : isTup vf = false := by rfl) (hent : entersB Tryd.prog f = true := by kernel_rfl) (hna : (first ++ captured).any isTup = false := by rfl)
    (hfree : HR.all (fun q => freeOb q.2) = true := by rfl) (hd0 : disjB HR H' = true := by rfl) (hd1 : disjB HR H = true := by rfl) (hk : ((keysOf H).all fun l => (keysOf H').contains l) = true := by rfl) :
    HCall Tryd.prog G 26 [.pu (.sl lo 30 ps), vf] HR H (bv r.isSome) H' [] :=
  conTm_c hvf hst hnt hent hna (fun l ob hl => List.all_eq_true.1 hfree _ (get_mem hl)) hlen hd0 hd1 (fun l ob hl => get_some_of (by simpa [keysOf] using List.all_eq_true.1 hk l (get_keys hl))) h


theorem idxCs_c {vf : PV} {f : FuncId} {first captured : List PV} {HR : List (Nat × Ob)} (hvf : fnV vf = some (f, first, captured)) (hst : Str vf vf) (hnt : isTup vf = false) (hent : entersB Tryd.prog f = true) (hna : (first ++ captured).any isTup = false)
    (hfree : ∀ l ob, get HR l = some ob → freeOb ob = true) {ps : List Pu} (hlen : ps.length < 4611686018427387904) {H H' : List (Nat × Ob)} {r : Option Nat} (hd0 : disjB HR H' = true) (hk : ∀ l ob, get H l = some ob → ∃ ob', get H' l = some ob') (hR : ∀ l ob, get HR l = some ob → get H l = none)
    (h : AnyC Tryd.prog G f first captured HR ps H r H') : HCall Tryd.prog G 55 [.pu (.sl lo 34 ps), vf] HR H (iv .i64 (idxV r)) H' [] := by
  refine HCall.of_tri tbl (n := 19) (L := keysOf H' ++ heapLabs H') Tryd.func55 rfl rfl hfree (fun l ob hl => disjB_none hd0 hl) (fun l hl => by simp [PV.labs] at hl) (fun l ob hl => keys_mem hl) hk ?_
  rintro ⟨w0, n', M, G', L, R, ρ0, D0, ro⟩ hn hG hL hR' hro
  simp only at hn hG hL hR' hro
  subst hn hG hL hR' hro
  have hset : ∀ (i : Nat) (H1 : List (Nat × Ob)) (r1 : Option Nat), AnyC Tryd.prog G' f first captured HR (ps.drop i) H1 r1 H' → True := fun _ _ _ _ => trivial
  let σ := {s : Nat × List (Nat × Ob) × Option Nat // AnyC Tryd.prog G' f first captured HR (ps.drop s.1) s.2.1 s.2.2 H' ∧ s.1 ≤ ps.length ∧ idxV r = (match s.2.2 with | some j => ((s.1 + j : Nat) : Int) | none => -1) ∧ (∀ l ob, get s.2.1 l = some ob → l ∉ keysOf HR)}
  refine yR ?_
  refine yB ?_
  refine e_seq ?_
  refine yR ?_
  refine yM ?_
  refine yC ?_
  refine yJ ?_
  refine e_seq ?_
  repeat refine Tri.seq ?_
  refine Tri.block (Tri.loop (σ := σ) (fun s => ⟨[(0, .pu (.sl lo 34 ps)), (1, vf), (7, iv .i64 ps.length), (8, iv .i64 s.1.1)], HR ++ s.1.2.1⟩) (fun s => ps.length - s.1.1) ⟨(0, H, r), by simpa using h, Nat.zero_le _, by cases r <;> simp [idxV], fun l ob hl hm => ?_⟩ ?_ (fun s => ?_))
  · obtain ⟨ob', ho⟩ := get_some_of (a := HR) hm
    rw [hR l ob' ho] at hl
    cases hl
  · exact le_same (.cons rfl rfl (.cons rfl rfl (.cons rfl rfl (.cons rfl rfl .nil))))
  obtain ⟨⟨i, H1, r1⟩, hA, hi0, hr1, hdisj⟩ := s
  simp only at hA hi0 hr1 hdisj ⊢
  refine yR ?_
  refine yI ?_
  refine e_seq ?_
  refine Tri.seq (Tri.cond rfl (fun hb => Tri.skip ?_) (fun hb => Tri.exit ?_))
  · have hi : i < ps.length := by simpa using hb
    obtain ⟨p, hp⟩ : ∃ p, ps[i]? = some p := ⟨ps[i], by simp [hi]⟩
    have hdr : ps.drop i = p :: ps.drop (i + 1) := by
      rw [List.drop_eq_getElem_cons hi]
      simp only [List.getElem?_eq_getElem hi, Option.some.injEq] at hp
      rw [hp]
    rw [hdr] at hA
    have hHR : ∀ l ob, get HR l = some ob → ∃ ob1, get (HR ++ H1) l = some ob1 ∧ ObImp Tryd.prog ob1 ob := fun l ob hl => ⟨ob, by rw [get_append, hl]; rfl, ObImp.refl _⟩
    have hH1 : ∀ l ob, get H1 l = some ob → l ∉ keysOf HR ∧ ∃ ob1, get (HR ++ H1) l = some ob1 ∧ ObImp Tryd.prog ob1 ob := fun l ob hl => by
      refine ⟨hdisj l ob hl, ob, ?_, ObImp.refl _⟩
      rw [get_append]
      cases hg : get HR l with
      | some o => exact absurd (get_keys hg) (hdisj l ob hl)
      | none => simpa using hl
    have hnt2 : (first ++ [PV.pu p] ++ captured).any isTup = false := by
      simp only [List.any_append, Bool.or_eq_false_iff] at hna ⊢
      exact ⟨⟨hna.1, by simp [isTup]⟩, hna.2⟩
    refine Tri.seq (Tri.block ?_)
    refine yR ?_
    refine yM ?_
    refine yA ?_
    refine e_seq ?_
    cases hA with
    | hit hc hd =>
      refine yR ?_
      refine s_val (v_move SS (h := Ev.mk rfl hst)) ?_
      refine yM ?_
      refine yM ?_
      refine s_val (v_index SS (h0 := by omega) (hp := hp)) ?_
      refine yL ?_
      refine step_call (vf := vf) (first := first) (captured := captured) (vs := [.pu p]) (HR := HR) (H := H1) (news := []) rfl hst hvf hent (.cons (.mk rfl .pu) .nil) rfl (VImps.refl _) hnt2 hHR hH1 hc rfl ?_
      refine e_seq ?_
      repeat refine Tri.seq ?_
      refine Tri.condT rfl ?_
      refine yR ?_
      refine yM ?_
      refine yA ?_
      refine e_seq ?_
      refine Tri.ret ⟨.inr rfl, _, Ghost.refl _, ret1 rfl resV_tmp (iv_imp ?_), fun l ob hl => ⟨ob, ?_, ObImp.refl _⟩⟩
      · rw [hr1]
        simp
      · rw [get_append, hl]; rfl
    | next hc hd t =>
      rename_i H2 r2
      refine yR ?_
      refine s_val (v_move SS (h := Ev.mk rfl hst)) ?_
      refine yM ?_
      refine yM ?_
      refine s_val (v_index SS (h0 := by omega) (hp := hp)) ?_
      refine yL ?_
      refine step_call (vf := vf) (first := first) (captured := captured) (vs := [.pu p]) (HR := HR) (H := H1) (news := []) rfl hst hvf hent (.cons (.mk rfl .pu) .nil) rfl (VImps.refl _) hnt2 hHR hH1 hc rfl ?_
      refine e_seq ?_
      repeat refine Tri.seq ?_
      refine Tri.condF rfl ?_
      refine Tri.skip ?_
      refine yR ?_
      refine yI ?_
      refine yM ?_
      refine e_seq ?_
      refine ⟨⟨(i + 1, H2, r2), t, hi, ?_, fun l ob hl hm => ?_⟩, by simp; omega, le_call hd (.cons rfl rfl (.cons rfl rfl (.cons rfl rfl (.cons rfl ?_ .nil))))⟩
      · rw [hr1]
        cases r2 with
        | none => rfl
        | some j => exact congrArg (fun n : Nat => (n : Int)) (show i + (j + 1) = i + 1 + j by omega)
      · obtain ⟨ob', ho⟩ := get_some_of (a := HR) hm
        rw [disjB_none hd hl] at ho
        cases ho
      · rw [wrap64 (by omega) (by omega)]
        rfl
  · have hi : i = ps.length := by
      have : ps.length ≤ i := by simpa using hb
      omega
    subst hi
    rw [List.drop_length] at hA
    cases hA
    refine yR ?_
    refine yB ?_
    refine e_seq ?_
    refine Tri.ret ⟨.inr rfl, _, Ghost.refl _, ret1 rfl resV_tmp (iv_imp (by rw [hr1])), fun l ob hl => ⟨ob, ?_, ObImp.refl _⟩⟩
    rw [get_append]
    cases hg : get HR l with
    | some o => exact absurd (get_keys hg) (hdisj l ob hl)
    | none => simpa using hl

theorem conCs_c {vf : PV} {f : FuncId} {first captured : List PV} {HR : List (Nat × Ob)} (hvf : fnV vf = some (f, first, captured)) (hst : Str vf vf) (hnt : isTup vf = false) (hent : entersB Tryd.prog f = true) (hna : (first ++ captured).any isTup = false)
    (hfree : ∀ l ob, get HR l = some ob → freeOb ob = true) {ps : List Pu} (hlen : ps.length < 4611686018427387904) {H H' : List (Nat × Ob)} {r : Option Nat} (hd0 : disjB HR H' = true) (hd1 : disjB HR H = true) (hk : ∀ l ob, get H l = some ob → ∃ ob', get H' l = some ob')
    (h : AnyC Tryd.prog G f first captured HR ps H r H') : HCall Tryd.prog G 27 [.pu (.sl lo 34 ps), vf] HR H (bv r.isSome) H' [] := by
  refine HCall.of_tri tbl (n := 9) (L := keysOf H' ++ heapLabs H') Tryd.func27 rfl rfl hfree (fun l ob hl => disjB_none hd0 hl) (fun l hl => by simp [PV.labs] at hl) (fun l ob hl => keys_mem hl) hk ?_
  rintro ⟨w0, n', M, G', L, R, ρ0, D0, ro⟩ hn hG hL hR' hro
  simp only at hn hG hL hR' hro
  subst hn hG hL hR' hro
  have hHR : ∀ l ob, get HR l = some ob → ∃ ob1, get (HR ++ H) l = some ob1 ∧ ObImp Tryd.prog ob1 ob := fun l ob hl => ⟨ob, by rw [get_append, hl]; rfl, ObImp.refl _⟩
  have hH1 : ∀ l ob, get H l = some ob → l ∉ keysOf HR ∧ ∃ ob1, get (HR ++ H) l = some ob1 ∧ ObImp Tryd.prog ob1 ob := fun l ob hl => by
    have hz := disjB_none hd1 hl
    refine ⟨fun hm => ?_, ob, ?_, ObImp.refl _⟩
    · obtain ⟨ob', ho⟩ := get_some_of (a := HR) hm
      rw [hz] at ho; cases ho
    · rw [get_append, hz]; simpa using hl
  refine yR ?_
  refine yB ?_
  refine e_seq ?_
  refine yR ?_
  refine yM ?_
  refine s_val (v_move SS (h := Ev.mk rfl hst)) ?_
  refine step_call (vf := .pu (.leaf (.func (.func 55) #[] #[]))) (first := []) (captured := []) (vs := [.pu (.sl lo 34 ps), vf]) (HR := HR) (H := H) (news := []) rfl .pu rfl (by kernel_rfl) (.cons (.mk rfl .pu) (.cons (.mk rfl hst) .nil)) (by rw [List.any_cons, List.any_cons, hnt]; rfl) (VImps.refl _) (by rw [List.nil_append, List.append_nil, List.any_cons, List.any_cons, hnt]; rfl) hHR hH1 (idxCs_c hvf hst hnt hent hna hfree hlen hd0 hk (fun l ob hl => disjB_none' hd1 hl) h) rfl ?_
  refine yI ?_
  refine yA ?_
  refine e_seq ?_
  refine Tri.ret ⟨.inr rfl, _, Ghost.refl _, ret1 rfl resV_tmp (bv_imp ?_), fun l ob hl => ⟨ob, by rw [get_append, hl]; rfl, ObImp.refl _⟩⟩
  cases r with
  | none => simp [idxV]
  | some j => simp [idxV]

theorem conCs_d (vf : PV) {f : FuncId} {first captured : List PV} {HR : List (Nat × Ob)} {ps : List Pu} (hlen : ps.length < 4611686018427387904) {H H' : List (Nat × Ob)} {r : Option Nat} (h : AnyC Tryd.prog G f first captured HR ps H r H')
    (hvf : fnV vf = some (f, first, captured) := by rfl) (hst : Str vf vf := by repeat constructor) (hnt : isTup vf = false := by rfl) (hent : entersB Tryd.prog f = true := by kernel_rfl) (hna : (first ++ captured).any isTup = false := by rfl)
    (hfree : HR.all (fun q => freeOb q.2) = true := by rfl) (hd0 : disjB HR H' = true := by rfl) (hd1 : disjB HR H = true := by rfl) (hk : ((keysOf H).all fun l => (keysOf H').contains l) = true := by rfl) :
    HCall Tryd.prog G 27 [.pu (.sl lo 34 ps), vf] HR H (bv r.isSome) H' [] :=
  conCs_c hvf hst hnt hent hna (fun l ob hl => List.all_eq_true.1 hfree _ (get_mem hl)) hlen hd0 hd1 (fun l ob hl => get_some_of (by simpa [keysOf] using List.all_eq_true.1 hk l (get_keys hl))) h

end Go.Proofs.YtkcgkignhpepkaaDoor

/- The kit's words for terms. -/
namespace Go.Proofs.YtkcgkignhpepkaaDoor
open Go Hs
variable {G : List (Nat × TypeId × Pu)}

theorem Nu_c (n : Int) : FCall Tryd.prog G 8 [iv .i64 n] (.pu (tmc 0 (.mk 2 n Z32 [] []))) := by
  refine FCall.of_tri tbl 5 Tryd.func8 rfl rfl rfl fun w0 M ρ0 D0 => ?_
  refine yR ?_
  refine s_alloc SS 2 ?_
  refine e_seqN [2] ?_
  refine yR ?_
  refine yM ?_
  refine yP ?_
  refine yS ?_
  refine e_seq ?_
  exact Tri.ret ⟨.inr rfl, ret1 rfl resV_cell (ToPu.imp (by repeat constructor))⟩

theorem Va_c (n : Int) : FCall Tryd.prog G 31 [iv .i64 n] (.pu (tmc 0 (.mk 1 n Z32 [] []))) := by
  refine FCall.of_tri tbl 5 Tryd.func31 rfl rfl rfl fun w0 M ρ0 D0 => ?_
  refine yR ?_
  refine s_alloc SS 2 ?_
  refine e_seqN [2] ?_
  refine yR ?_
  refine yM ?_
  refine yP ?_
  refine yS ?_
  refine e_seq ?_
  exact Tri.ret ⟨.inr rfl, ret1 rfl resV_cell (ToPu.imp (by repeat constructor))⟩

theorem Ca_c (p : Pat) (t : Tm) : FCall Tryd.prog G 7 [.pu (patc 0 p), .pu (tmc 0 t)] (.pu (csec 0 (.mk p t))) := by
  refine FCall.of_tri tbl 8 Tryd.func7 rfl rfl rfl fun w0 M ρ0 D0 => ?_
  refine yR ?_
  refine s_box SS 2 ?_
  refine s_box SS 3 ?_
  refine s_alloc SS 4 ?_
  refine e_seqN [2, 3, 4] ?_
  refine yR ?_
  refine yL ?_
  refine yL ?_
  refine yP ?_
  refine yS ?_
  refine e_seq ?_
  exact Tri.ret ⟨.inr rfl, ret1 rfl resV_cell (ToPu.imp (by repeat constructor))⟩

theorem Ma_c (t : Tm) (cs : List Cs) : FCall Tryd.prog G 6 [.pu (tmc 0 t), .pu (.sl 0 34 (cssc 0 cs))] (.pu (tmc 0 (.mk 9 0 Z32 [t] cs))) := by
  refine FCall.of_tri tbl 9 Tryd.func6 rfl rfl rfl fun w0 M ρ0 D0 => ?_
  refine yR ?_
  refine s_box SS 2 ?_
  refine s_alloc SS 4 ?_
  refine e_seqN [2, 4] ?_
  refine yR ?_
  refine yL ?_
  refine yZ ?_
  refine yM ?_
  refine yP ?_
  refine yS ?_
  refine e_seq ?_
  exact Tri.ret ⟨.inr rfl, ret1 rfl resV_cell (ToPu.imp (by repeat constructor))⟩

theorem Ap_c (s t : Tm) : FCall Tryd.prog G 20 [.pu (tmc 0 s), .pu (tmc 0 t)] (.pu (tmc 0 (.mk 4 0 Z32 [s, t] []))) := by
  refine FCall.of_tri tbl 9 Tryd.func20 rfl rfl rfl fun w0 M ρ0 D0 => ?_
  refine yR ?_
  refine s_box SS 2 ?_
  refine s_box SS 3 ?_
  refine s_alloc SS 4 ?_
  refine e_seqN [2, 3, 4] ?_
  refine yR ?_
  refine yL ?_
  refine yL ?_
  refine yZ ?_
  refine yP ?_
  refine yS ?_
  refine e_seq ?_
  exact Tri.ret ⟨.inr rfl, ret1 rfl resV_cell (ToPu.imp (by repeat constructor))⟩

theorem De_c (r : List Int) : FCall Tryd.prog G 21 [.pu (refP r)] (.pu (tmc 0 (.mk 6 0 r [] []))) := by
  refine FCall.of_tri tbl 5 Tryd.func21 rfl rfl rfl fun w0 M ρ0 D0 => ?_
  refine yR ?_
  refine s_box SS 1 ?_
  refine s_alloc SS 2 ?_
  refine e_seqN [1, 2] ?_
  refine yR ?_
  refine yL ?_
  refine yP ?_
  refine yS ?_
  refine e_seq ?_
  exact Tri.ret ⟨.inr rfl, ret1 rfl resV_cell (ToPu.imp (by repeat constructor))⟩

theorem Co_c (r : List Int) (n : Int) (ks : List Tm) : FCall Tryd.prog G 19 [.pu (refP r), iv .i64 n, .pu (.sl 0 30 (tmsc 0 ks))] (.pu (tmc 0 (.mk 8 n r ks []))) := by
  refine FCall.of_tri tbl 11 Tryd.func19 rfl rfl rfl fun w0 M ρ0 D0 => ?_
  refine yR ?_
  refine s_box SS 3 ?_
  refine s_alloc SS 6 ?_
  refine e_seqN [3, 6] ?_
  refine yR ?_
  refine yL ?_
  refine yM ?_
  refine yM ?_
  refine yP ?_
  refine yS ?_
  refine e_seq ?_
  exact Tri.ret ⟨.inr rfl, ret1 rfl resV_cell (ToPu.imp (by repeat constructor))⟩
theorem La_c (t : Tm) : FCall Tryd.prog G 29 [.pu (tmc 0 t)] (.pu (tmc 0 (.mk 3 0 Z32 [t] []))) := by
  refine FCall.of_tri tbl 6 Tryd.func29 rfl rfl rfl fun w0 M ρ0 D0 => ?_
  refine yR ?_
  refine s_box SS 1 ?_
  refine s_alloc SS 2 ?_
  refine e_seqN [1, 2] ?_
  refine yR ?_
  refine yL ?_
  refine yZ ?_
  refine yP ?_
  refine yS ?_
  refine e_seq ?_
  exact Tri.ret ⟨.inr rfl, ret1 rfl resV_cell (ToPu.imp (by repeat constructor))⟩

theorem Pr_c (n : Int) (s t : Tm) : FCall Tryd.prog G 30 [iv .i64 n, .pu (tmc 0 s), .pu (tmc 0 t)] (.pu (tmc 0 (.mk 10 n Z32 [s, t] []))) := by
  refine FCall.of_tri tbl 12 Tryd.func30 rfl rfl rfl fun w0 M ρ0 D0 => ?_
  refine yR ?_
  refine s_box SS 4 ?_
  refine s_box SS 5 ?_
  refine s_alloc SS 6 ?_
  refine e_seqN [4, 5, 6] ?_
  refine yR ?_
  refine yM ?_
  refine yL ?_
  refine yL ?_
  refine yZ ?_
  refine yP ?_
  refine yS ?_
  refine e_seq ?_
  exact Tri.ret ⟨.inr rfl, ret1 rfl resV_cell (ToPu.imp (by repeat constructor))⟩

theorem Any_c : FCall Tryd.prog G 48 [] (.pu (patc 0 (.mk 1 0 Z32 []))) := by
  refine FCall.of_tri tbl 2 Tryd.func48 rfl rfl rfl fun w0 M ρ0 D0 => ?_
  refine yR ?_
  refine s_alloc SS 0 ?_
  refine e_seqN [0] ?_
  refine yR ?_
  refine yP ?_
  refine yS ?_
  refine e_seq ?_
  exact Tri.ret ⟨.inr rfl, ret1 rfl resV_cell (ToPu.imp (by repeat constructor))⟩

theorem PN_c (n : Int) : FCall Tryd.prog G 49 [iv .i64 n] (.pu (patc 0 (.mk 2 n Z32 []))) := by
  refine FCall.of_tri tbl 5 Tryd.func49 rfl rfl rfl fun w0 M ρ0 D0 => ?_
  refine yR ?_
  refine s_alloc SS 2 ?_
  refine e_seqN [2] ?_
  refine yR ?_
  refine yM ?_
  refine yP ?_
  refine yS ?_
  refine e_seq ?_
  exact Tri.ret ⟨.inr rfl, ret1 rfl resV_cell (ToPu.imp (by repeat constructor))⟩
end Go.Proofs.YtkcgkignhpepkaaDoor

/- The law's own words for terms. -/
namespace Go.Proofs.YtkcgkignhpepkaaDoor
open Go Hs
variable {G : List (Nat × TypeId × Pu)}
def vaT (n : Int) : Tm := .mk 1 n Z32 [] []
def nuT (n : Int) : Tm := .mk 2 n Z32 [] []
def apT (s t : Tm) : Tm := .mk 4 0 Z32 [s, t] []

theorem Once_c : FCall Tryd.prog G 34 [] (.pu (tmc 0 (apT (vaT 0) (vaT 1)))) := by
  refine FCall.of_tri tbl 4 Tryd.func34 rfl rfl rfl fun w0 M ρ0 D0 => ?_
  refine yR ?_
  refine s_alloc SS 0 ?_
  refine e_seqN [0] ?_
  refine yR ?_
  refine s_val (v_callD (fun _ => Va_c 0)) ?_
  refine s_val (v_callD (fun _ => Va_c 1)) ?_
  refine s_val (v_callD (fun _ => Ap_c (vaT 0) (vaT 1))) ?_
  refine yS ?_
  refine e_seq ?_
  exact Tri.ret ⟨.inr rfl, ret1 rfl resV_cell (ToPu.imp (by repeat constructor))⟩

theorem Ask_c (r : List Int) (n : Int) (t : Tm) : FCall Tryd.prog G 36 [.pu (refP r), iv .i64 n, .pu (tmc 0 t)] (.pu (tmc 0 (.mk 11 n r [t] []))) := by
  refine FCall.of_tri tbl 12 Tryd.func36 rfl rfl rfl fun w0 M ρ0 D0 => ?_
  refine yR ?_
  refine s_box SS 3 ?_
  refine s_box SS 5 ?_
  refine s_alloc SS 6 ?_
  refine e_seqN [3, 5, 6] ?_
  refine yR ?_
  refine yL ?_
  refine yM ?_
  refine yL ?_
  refine yZ ?_
  refine yP ?_
  refine yS ?_
  refine e_seq ?_
  exact Tri.ret ⟨.inr rfl, ret1 rfl resV_cell (ToPu.imp (by repeat constructor))⟩

def prT (n : Int) (s t : Tm) : Tm := .mk 10 n Z32 [s, t] []
theorem Twice_c : FCall Tryd.prog G 35 [] (.pu (tmc 0 (prT 1 (apT (vaT 0) (nuT 1)) (apT (vaT 0) (nuT 2))))) := by
  refine FCall.of_tri tbl 8 Tryd.func35 rfl rfl rfl fun w0 M ρ0 D0 => ?_
  refine yR ?_
  refine s_alloc SS 0 ?_
  refine e_seqN [0] ?_
  refine yR ?_
  refine s_val (v_callD (fun _ => Va_c 0)) ?_
  refine s_val (v_callD (fun _ => Nu_c 1)) ?_
  refine s_val (v_callD (fun _ => Ap_c (vaT 0) (nuT 1))) ?_
  refine s_val (v_callD (fun _ => Va_c 0)) ?_
  refine s_val (v_callD (fun _ => Nu_c 2)) ?_
  refine s_val (v_callD (fun _ => Ap_c (vaT 0) (nuT 2))) ?_
  refine s_val (v_callD (fun _ => Pr_c 1 (apT (vaT 0) (nuT 1)) (apT (vaT 0) (nuT 2)))) ?_
  refine yS ?_
  refine e_seq ?_
  exact Tri.ret ⟨.inr rfl, ret1 rfl resV_cell (ToPu.imp (by repeat constructor))⟩
end Go.Proofs.YtkcgkignhpepkaaDoor

/- Patterns of one's own. -/
namespace Go.Proofs.YtkcgkignhpepkaaDoor
open Go Hs
variable {G : List (Nat × TypeId × Pu)}

theorem stepOwnPattern_c : ∀ (N : Nat) (p : Pat), psize p ≤ N → N < 2^30 → FCall Tryd.prog G 81 [.pu (patc 0 p)] (.pu (patc 0 p)) := by
  intro N
  induction N with
  | zero => intro p h; cases p; simp [psize] at h
  | succ N ih =>
  intro p hp hN
  obtain ⟨k, n, r, ks⟩ := p
  simp only [psize] at hp
  have hlen := length_psizeL ks
  refine FCall.of_tri tbl 24 Tryd.func81 rfl rfl rfl fun w0 M ρ0 D0 => ?_
  refine yR ?_
  refine s_box SS 1 ?_
  refine s_alloc SS 2 ?_
  refine e_seqN [1, 2] ?_
  refine yR ?_
  refine yF ?_
  refine yK ?_
  refine yA ?_
  refine e_seq ?_
  refine yR ?_
  refine yF ?_
  refine yS ?_
  refine e_seq ?_
  refine yR ?_
  refine yM ?_
  refine yC ?_
  refine yJ ?_
  refine e_seq ?_
  refine Tri.ghost (Ghost.wk (env' := [(1, .ptr 1 [] 26), (2, .ptr 2 [] 26), (9, .pu (.sl 0 26 (patsc 0 ks))), (10, iv .i64 (patsc 0 ks).length), (11, iv .i64 0)])
    (heap' := [(1, .var 26 (.agg 26 [iv .i64 k, iv .i64 n, .pu (refP r), .ow 0 26 []])), (2, .var 26 (.agg 26 [iv .i64 0, iv .i64 0, .pu (refP Z32), .nilc]))])
    (.cons rfl .refl (.cons rfl .refl (.cons rfl .refl (.cons rfl .refl (.cons rfl .refl .nil))))) (.cons rfl (.var (.agg (.cons .refl (.cons .refl (.cons .refl (.cons .nilcOw .nil)))))) (.cons rfl .refl .nil))) ?_
  repeat refine Tri.seq ?_
  refine Tri.block (Tri.loop (σ := Nat) (fun i => ⟨[(1, .ptr 1 [] 26), (2, .ptr 2 [] 26), (9, .pu (.sl 0 26 (patsc 0 ks))), (10, iv .i64 (patsc 0 ks).length), (11, iv .i64 i)],
    [(1, .var 26 (.agg 26 [iv .i64 k, iv .i64 n, .pu (refP r), .ow 0 26 (patsc 0 (ks.take i))])), (2, .var 26 (.agg 26 [iv .i64 0, iv .i64 0, .pu (refP Z32), .nilc]))]⟩) (fun i => ks.length - i) 0 ?_ (fun i => ?_))
  · exact le_of (.cons rfl rfl (.cons rfl rfl (.cons rfl rfl (.cons rfl rfl (.cons rfl rfl .nil))))) (.cons rfl rfl (.cons rfl rfl .nil))
  refine yR ?_
  refine yI ?_
  refine e_seq ?_
  refine Tri.seq (Tri.cond rfl (fun hb => Tri.skip ?_) (fun hb => Tri.exit ?_))
  · have hi : i < ks.length := by simpa [pats_eq] using hb
    refine Tri.seq (Tri.block ?_)
    refine yR ?_
    refine s_val (v_index SS (h0 := by omega) (hp := pats_get hi)) ?_
    refine yL ?_
    refine s_alloc SS 5 ?_
    refine yS ?_
    refine e_seqN [5] ?_
    refine yR ?_
    refine yF ?_
    refine yK ?_
    refine yL ?_
    refine s_val (v_callD (fun _ => ih ks[i] (by have := psizeL_get hi; omega) (by omega))) ?_
    refine yZ ?_
    refine s_app2 1 [3] ?_ ?_
    · simp [pats_eq]; omega
    refine yF ?_
    refine yW ?_
    refine e_draw ?_
    refine yR ?_
    refine yI ?_
    refine yM ?_
    refine e_seq ?_
    refine ⟨i + 1, by omega, le_of (.cons rfl rfl (.cons rfl rfl (.cons rfl rfl (.cons rfl rfl (.cons rfl ?_ .nil))))) (.cons rfl ?_ (.cons rfl rfl .nil))⟩
    · rw [wrap64 (by omega) (by omega)]
      rfl
    · have : patsc 0 (ks.take (i + 1)) = patsc 0 (ks.take i) ++ [patc 0 ks[i]] := by
        rw [pats_eq, pats_eq, List.take_succ_eq_append_getElem hi, List.map_append]; rfl
      rw [this]
      rfl
  have hi : ks.length ≤ i := by simpa [pats_eq] using hb
  refine yR ?_
  refine yL ?_
  refine yS ?_
  refine e_seq ?_
  refine Tri.ret ⟨.inr rfl, ret1 rfl resV_cell (ToPu.imp ?_)⟩
  rw [List.take_of_length_le hi]
  repeat constructor
theorem kitOwnPattern_c : ∀ (N : Nat) (p : Pat), psize p ≤ N → N < 2^30 → FCall Tryd.prog G 10 [.pu (patc 0 p)] (.pu (patc 0 p)) := by
  intro N
  induction N with
  | zero => intro p h; cases p; simp [psize] at h
  | succ N ih =>
  intro p hp hN
  obtain ⟨k, n, r, ks⟩ := p
  simp only [psize] at hp
  have hlen := length_psizeL ks
  refine FCall.of_tri tbl 24 Tryd.func10 rfl rfl rfl fun w0 M ρ0 D0 => ?_
  refine yR ?_
  refine s_box SS 1 ?_
  refine s_alloc SS 2 ?_
  refine e_seqN [1, 2] ?_
  refine yR ?_
  refine yF ?_
  refine yK ?_
  refine yA ?_
  refine e_seq ?_
  refine yR ?_
  refine yF ?_
  refine yS ?_
  refine e_seq ?_
  refine yR ?_
  refine yM ?_
  refine yC ?_
  refine yJ ?_
  refine e_seq ?_
  refine Tri.ghost (Ghost.wk (env' := [(1, .ptr 1 [] 26), (2, .ptr 2 [] 26), (9, .pu (.sl 0 26 (patsc 0 ks))), (10, iv .i64 (patsc 0 ks).length), (11, iv .i64 0)])
    (heap' := [(1, .var 26 (.agg 26 [iv .i64 k, iv .i64 n, .pu (refP r), .ow 0 26 []])), (2, .var 26 (.agg 26 [iv .i64 0, iv .i64 0, .pu (refP Z32), .nilc]))])
    (.cons rfl .refl (.cons rfl .refl (.cons rfl .refl (.cons rfl .refl (.cons rfl .refl .nil))))) (.cons rfl (.var (.agg (.cons .refl (.cons .refl (.cons .refl (.cons .nilcOw .nil)))))) (.cons rfl .refl .nil))) ?_
  repeat refine Tri.seq ?_
  refine Tri.block (Tri.loop (σ := Nat) (fun i => ⟨[(1, .ptr 1 [] 26), (2, .ptr 2 [] 26), (9, .pu (.sl 0 26 (patsc 0 ks))), (10, iv .i64 (patsc 0 ks).length), (11, iv .i64 i)],
    [(1, .var 26 (.agg 26 [iv .i64 k, iv .i64 n, .pu (refP r), .ow 0 26 (patsc 0 (ks.take i))])), (2, .var 26 (.agg 26 [iv .i64 0, iv .i64 0, .pu (refP Z32), .nilc]))]⟩) (fun i => ks.length - i) 0 ?_ (fun i => ?_))
  · exact le_of (.cons rfl rfl (.cons rfl rfl (.cons rfl rfl (.cons rfl rfl (.cons rfl rfl .nil))))) (.cons rfl rfl (.cons rfl rfl .nil))
  refine yR ?_
  refine yI ?_
  refine e_seq ?_
  refine Tri.seq (Tri.cond rfl (fun hb => Tri.skip ?_) (fun hb => Tri.exit ?_))
  · have hi : i < ks.length := by simpa [pats_eq] using hb
    refine Tri.seq (Tri.block ?_)
    refine yR ?_
    refine s_val (v_index SS (h0 := by omega) (hp := pats_get hi)) ?_
    refine yL ?_
    refine s_alloc SS 5 ?_
    refine yS ?_
    refine e_seqN [5] ?_
    refine yR ?_
    refine yF ?_
    refine yK ?_
    refine yL ?_
    refine s_val (v_callD (fun _ => ih ks[i] (by have := psizeL_get hi; omega) (by omega))) ?_
    refine yZ ?_
    refine s_app2 1 [3] ?_ ?_
    · simp [pats_eq]; omega
    refine yF ?_
    refine yW ?_
    refine e_draw ?_
    refine yR ?_
    refine yI ?_
    refine yM ?_
    refine e_seq ?_
    refine ⟨i + 1, by omega, le_of (.cons rfl rfl (.cons rfl rfl (.cons rfl rfl (.cons rfl rfl (.cons rfl ?_ .nil))))) (.cons rfl ?_ (.cons rfl rfl .nil))⟩
    · rw [wrap64 (by omega) (by omega)]
      rfl
    · have : patsc 0 (ks.take (i + 1)) = patsc 0 (ks.take i) ++ [patc 0 ks[i]] := by
        rw [pats_eq, pats_eq, List.take_succ_eq_append_getElem hi, List.map_append]; rfl
      rw [this]
      rfl
  have hi : ks.length ≤ i := by simpa [pats_eq] using hb
  refine yR ?_
  refine yL ?_
  refine yS ?_
  refine e_seq ?_
  refine Tri.ret ⟨.inr rfl, ret1 rfl resV_cell (ToPu.imp ?_)⟩
  rw [List.take_of_length_le hi]
  repeat constructor
theorem refOwnPattern_c : ∀ (N : Nat) (p : Pat), psize p ≤ N → N < 2^30 → FCall Tryd.prog G 61 [.pu (patc 0 p)] (.pu (patc 0 p)) := by
  intro N
  induction N with
  | zero => intro p h; cases p; simp [psize] at h
  | succ N ih =>
  intro p hp hN
  obtain ⟨k, n, r, ks⟩ := p
  simp only [psize] at hp
  have hlen := length_psizeL ks
  refine FCall.of_tri tbl 31 Tryd.func61 rfl rfl rfl fun w0 M ρ0 D0 => ?_
  refine yR ?_
  refine s_box SS 1 ?_
  refine s_alloc SS 2 ?_
  refine e_seqN [1, 2] ?_
  refine yR ?_
  refine yF ?_
  refine yL ?_
  refine yF ?_
  refine yL ?_
  refine yF ?_
  refine yL ?_
  refine yP ?_
  refine s_alloc SS 3 ?_
  refine yS ?_
  refine e_seqN [3] ?_
  refine yR ?_
  refine yB ?_
  refine e_seq ?_
  refine Tri.ghost (Ghost.wk (env' := [(1, .ptr 1 [] 26), (2, .ptr 2 [] 26), (3, .ptr 3 [] 26), (4, iv .i64 0)])
    (heap' := [(1, .var 26 (.pu (patc 0 (.mk k n r ks)))), (3, .var 26 (.agg 26 [iv .i64 k, iv .i64 n, .pu (refP r), .ow 0 26 []])), (2, .var 26 (.agg 26 [iv .i64 0, iv .i64 0, .pu (refP Z32), .nilc]))])
    (.cons rfl .refl (.cons rfl .refl (.cons rfl .refl (.cons rfl .refl .nil)))) (.cons rfl .refl (.cons rfl (.var (.agg (.cons .refl (.cons .refl (.cons .refl (.cons .nilcOw .nil)))))) (.cons rfl .refl .nil)))) ?_
  repeat refine Tri.seq ?_
  refine Tri.block (Tri.loop (σ := Nat) (fun i => ⟨[(1, .ptr 1 [] 26), (2, .ptr 2 [] 26), (3, .ptr 3 [] 26), (4, iv .i64 i)],
    [(1, .var 26 (.pu (patc 0 (.mk k n r ks)))), (3, .var 26 (.agg 26 [iv .i64 k, iv .i64 n, .pu (refP r), .ow 0 26 (patsc 0 (ks.take i))])), (2, .var 26 (.agg 26 [iv .i64 0, iv .i64 0, .pu (refP Z32), .nilc]))]⟩) (fun i => ks.length - i) 0 ?_ (fun i => ?_))
  · exact le_of (.cons rfl rfl (.cons rfl rfl (.cons rfl rfl (.cons rfl rfl .nil)))) (.cons rfl rfl (.cons rfl rfl (.cons rfl rfl .nil)))
  refine yR ?_
  refine yM ?_
  refine yF ?_
  refine yK ?_
  refine yC ?_
  refine yI ?_
  refine e_seq ?_
  refine Tri.cond rfl (fun hb => Tri.skip ?_) (fun hb => Tri.exit ?_)
  · have hi : i < ks.length := by simpa [pats_eq] using hb
    repeat refine Tri.seq ?_
    refine Tri.block ?_
    refine yR ?_
    refine yF ?_
    refine yK ?_
    refine yF ?_
    refine yK ?_
    refine yM ?_
    refine s_val (v_index SS (h0 := by omega) (hp := pats_get hi)) ?_
    refine yL ?_
    refine s_val (v_callD (fun _ => ih ks[i] (by have := psizeL_get hi; omega) (by omega))) ?_
    refine yZ ?_
    refine s_app2 3 [3] ?_ ?_
    · simp [pats_eq]; omega
    refine yF ?_
    refine yW ?_
    refine e_draw ?_
    refine yR ?_
    refine yM ?_
    refine yI ?_
    refine yA ?_
    refine e_seq ?_
    refine ⟨i + 1, by omega, le_of (.cons rfl rfl (.cons rfl rfl (.cons rfl rfl (.cons rfl ?_ .nil)))) (.cons rfl rfl (.cons rfl ?_ (.cons rfl rfl .nil)))⟩
    · rw [wrap64 (by omega) (by omega)]
      rfl
    · have : patsc 0 (ks.take (i + 1)) = patsc 0 (ks.take i) ++ [patc 0 ks[i]] := by
        rw [pats_eq, pats_eq, List.take_succ_eq_append_getElem hi, List.map_append]; rfl
      rw [this]
      rfl
  have hi : ks.length ≤ i := by simpa [pats_eq] using hb
  refine yR ?_
  refine yL ?_
  refine yS ?_
  refine e_seq ?_
  refine Tri.ret ⟨.inr rfl, ret1 rfl resV_cell (ToPu.imp ?_)⟩
  rw [List.take_of_length_le hi]
  repeat constructor
end Go.Proofs.YtkcgkignhpepkaaDoor

/- Terms of one's own. -/
namespace Go.Proofs.YtkcgkignhpepkaaDoor
open Go Hs
variable {G : List (Nat × TypeId × Pu)}
theorem kitOwnTerm_c : ∀ (N : Nat) (t : Tm), tsize t ≤ N → N < 2^30 → FCall Tryd.prog G 11 [.pu (tmc 0 t)] (.pu (tmc 0 t)) := by
  intro N
  induction N with
  | zero => intro t h; have := tsize_pos t; omega
  | succ N ih =>
  intro t hp hN
  obtain ⟨k, n, r, ks, cs⟩ := t
  simp only [tsize] at hp
  have hlen := length_tsizeL ks
  have hlenc := length_csizeL cs
  refine FCall.of_tri tbl 49 Tryd.func11 rfl rfl rfl fun w0 M ρ0 D0 => ?_
  refine yR ?_
  refine s_box SS 1 ?_
  refine s_alloc SS 2 ?_
  refine e_seqN [1, 2] ?_
  refine yR ?_
  refine yF ?_
  refine yK ?_
  refine yF ?_
  refine yK ?_
  refine yA ?_
  refine yA ?_
  refine e_draw ?_
  refine yR ?_
  refine yF ?_
  refine yS ?_
  refine yF ?_
  refine yS ?_
  refine e_seq ?_
  refine yR ?_
  refine yM ?_
  refine yC ?_
  refine yJ ?_
  refine e_seq ?_
  refine Tri.ghost (Ghost.wk (env' := [(1, .ptr 1 [] 30), (2, .ptr 2 [] 30), (4, .pu (.sl 0 34 (cssc 0 cs))), (15, .pu (.sl 0 30 (tmsc 0 ks))), (16, iv .i64 (tmsc 0 ks).length), (17, iv .i64 0)])
    (heap' := [(1, .var 30 (.agg 30 [iv .i64 k, iv .i64 n, .pu (refP r), .ow 0 30 ([]), .ow 0 34 ([])])), (2, .var 30 (.agg 30 [iv .i64 0, iv .i64 0, .pu (refP Z32), .nilc, .nilc]))])
    (.cons rfl .refl (.cons rfl .refl (.cons rfl .refl (.cons rfl .refl (.cons rfl .refl (.cons rfl .refl .nil)))))) (.cons rfl (.var (.agg (.cons .refl (.cons .refl (.cons .refl (.cons .nilcOw (.cons .nilcOw .nil))))))) (.cons rfl .refl .nil))) ?_
  repeat refine Tri.seq ?_
  refine Tri.block (Tri.loop (σ := Nat) (fun i => ⟨[(1, .ptr 1 [] 30), (2, .ptr 2 [] 30), (4, .pu (.sl 0 34 (cssc 0 cs))), (15, .pu (.sl 0 30 (tmsc 0 ks))), (16, iv .i64 (tmsc 0 ks).length), (17, iv .i64 i)],
    [(1, .var 30 (.agg 30 [iv .i64 k, iv .i64 n, .pu (refP r), .ow 0 30 (tmsc 0 (ks.take i)), .ow 0 34 ([])])), (2, .var 30 (.agg 30 [iv .i64 0, iv .i64 0, .pu (refP Z32), .nilc, .nilc]))]⟩) (fun i => ks.length - i) 0 ?_ (fun i => ?_))
  · exact le_of (.cons rfl rfl (.cons rfl rfl (.cons rfl rfl (.cons rfl rfl (.cons rfl rfl (.cons rfl rfl .nil)))))) (.cons rfl rfl (.cons rfl rfl .nil))
  refine yR ?_
  refine yI ?_
  refine e_seq ?_
  refine Tri.seq (Tri.cond rfl (fun hb => Tri.skip ?_) (fun hb => Tri.exit ?_))
  · have hi : i < ks.length := by simpa [tms_eq] using hb
    refine Tri.seq (Tri.block ?_)
    refine yR ?_
    refine s_val (v_index SS (h0 := by omega) (hp := tms_get hi)) ?_
    refine yL ?_
    refine s_alloc SS 6 ?_
    refine yS ?_
    refine e_seqN [6] ?_
    refine yR ?_
    refine yF ?_
    refine yK ?_
    refine yL ?_
    refine s_val (v_callD (fun _ => ih ks[i] (by have := tsizeL_get hi; omega) (by omega))) ?_
    refine yZ ?_
    refine s_app2 1 [3] ?_ ?_
    · simp [tms_eq]; omega
    refine yF ?_
    refine yW ?_
    refine e_draw ?_
    refine yR ?_
    refine yI ?_
    refine yM ?_
    refine e_seq ?_
    refine ⟨i + 1, by omega, le_of (.cons rfl rfl (.cons rfl rfl (.cons rfl rfl (.cons rfl rfl (.cons rfl rfl (.cons rfl ?_ .nil)))))) (.cons rfl ?_ (.cons rfl rfl .nil))⟩
    · rw [wrap64 (by omega) (by omega)]
      rfl
    · have : tmsc 0 (ks.take (i + 1)) = tmsc 0 (ks.take i) ++ [tmc 0 ks[i]] := by
        rw [tms_eq, tms_eq, List.take_succ_eq_append_getElem hi, List.map_append]; rfl
      rw [this]
      rfl
  have hi : ks.length ≤ i := by simpa [tms_eq] using hb
  rw [List.take_of_length_le hi]
  refine yR ?_
  refine yM ?_
  refine yC ?_
  refine yJ ?_
  refine e_seq ?_
  repeat refine Tri.seq ?_
  refine Tri.block (Tri.loop (σ := Nat) (fun i => ⟨[(1, .ptr 1 [] 30), (2, .ptr 2 [] 30), (29, .pu (.sl 0 34 (cssc 0 cs))), (30, iv .i64 (cssc 0 cs).length), (31, iv .i64 i)],
    [(1, .var 30 (.agg 30 [iv .i64 k, iv .i64 n, .pu (refP r), .ow 0 30 (tmsc 0 ks), .ow 0 34 (cssc 0 (cs.take i))])), (2, .var 30 (.agg 30 [iv .i64 0, iv .i64 0, .pu (refP Z32), .nilc, .nilc]))]⟩) (fun i => cs.length - i) 0 ?_ (fun i => ?_))
  · exact le_of (.cons rfl rfl (.cons rfl rfl (.cons rfl rfl (.cons rfl rfl (.cons rfl rfl .nil))))) (.cons rfl rfl (.cons rfl rfl .nil))
  refine yR ?_
  refine yI ?_
  refine e_seq ?_
  refine Tri.seq (Tri.cond rfl (fun hb => Tri.skip ?_) (fun hb => Tri.exit ?_))
  · have hi : i < cs.length := by simpa [css_eq] using hb
    have hsz := csizeL_get hi
    rcases hc : cs[i] with ⟨q, b⟩
    simp only [hc, csize] at hsz
    refine Tri.seq (Tri.block ?_)
    refine yR ?_
    refine s_val (v_index SS (h0 := by omega) (hp := (css_get hi).trans (by rw [hc]))) ?_
    refine yL ?_
    refine s_alloc SS 8 ?_
    refine yS ?_
    refine e_seqN [8] ?_
    refine yR ?_
    refine yF ?_
    refine yK ?_
    refine yF ?_
    refine yL ?_
    refine s_val (v_callD (fun _ => kitOwnPattern_c _ q (Nat.le_refl _) (by omega))) ?_
    refine yF ?_
    refine yL ?_
    refine s_val (v_callD (fun _ => ih b (by omega) (by omega))) ?_
    refine yP ?_
    refine yZ ?_
    refine s_app2 1 [4] ?_ ?_
    · simp [css_eq]; omega
    refine yF ?_
    refine yW ?_
    refine e_draw ?_
    refine yR ?_
    refine yI ?_
    refine yM ?_
    refine e_seq ?_
    refine ⟨i + 1, by omega, le_of (.cons rfl rfl (.cons rfl rfl (.cons rfl rfl (.cons rfl rfl (.cons rfl ?_ .nil))))) (.cons rfl ?_ (.cons rfl rfl .nil))⟩
    · rw [wrap64 (by omega) (by omega)]
      rfl
    · have : cssc 0 (cs.take (i + 1)) = cssc 0 (cs.take i) ++ [csec 0 (.mk q b)] := by
        rw [css_eq, css_eq, List.take_succ_eq_append_getElem hi, List.map_append, hc]; rfl
      rw [this]
      rfl
  have hi : cs.length ≤ i := by simpa [css_eq] using hb
  refine yR ?_
  refine yL ?_
  refine yS ?_
  refine e_seq ?_
  refine Tri.ret ⟨.inr rfl, ret1 rfl resV_cell (ToPu.imp ?_)⟩
  rw [List.take_of_length_le hi]
  repeat constructor

theorem refOwn_c : ∀ (N : Nat) (t : Tm), tsize t ≤ N → N < 2^30 → FCall Tryd.prog G 38 [.pu (tmc 0 t)] (.pu (tmc 0 t)) := by
  intro N
  induction N with
  | zero => intro t h; have := tsize_pos t; omega
  | succ N ih =>
  intro t hp hN
  obtain ⟨k, n, r, ks, cs⟩ := t
  simp only [tsize] at hp
  have hlen := length_tsizeL ks
  have hlenc := length_csizeL cs
  refine FCall.of_tri tbl 59 Tryd.func38 rfl rfl rfl fun w0 M ρ0 D0 => ?_
  refine yR ?_
  refine s_box SS 1 ?_
  refine s_alloc SS 2 ?_
  refine e_seqN [1, 2] ?_
  refine yR ?_
  refine yF ?_
  refine yL ?_
  refine yF ?_
  refine yL ?_
  refine yF ?_
  refine yL ?_
  refine yP ?_
  refine s_alloc SS 3 ?_
  refine yS ?_
  refine e_seqN [3] ?_
  refine yR ?_
  refine yB ?_
  refine e_seq ?_
  refine Tri.ghost (Ghost.wk (env' := [(1, .ptr 1 [] 30), (2, .ptr 2 [] 30), (3, .ptr 3 [] 30), (4, iv .i64 0)])
    (heap' := [(1, .var 30 (.pu (tmc 0 (.mk k n r ks cs)))), (3, .var 30 (.agg 30 [iv .i64 k, iv .i64 n, .pu (refP r), .ow 0 30 ([]), .ow 0 34 ([])])), (2, .var 30 (.agg 30 [iv .i64 0, iv .i64 0, .pu (refP Z32), .nilc, .nilc]))])
    (.cons rfl .refl (.cons rfl .refl (.cons rfl .refl (.cons rfl .refl .nil)))) (.cons rfl .refl (.cons rfl (.var (.agg (.cons .refl (.cons .refl (.cons .refl (.cons .nilcOw (.cons .nilcOw .nil))))))) (.cons rfl .refl .nil)))) ?_
  repeat refine Tri.seq ?_
  refine Tri.block (Tri.loop (σ := Nat) (fun i => ⟨[(1, .ptr 1 [] 30), (2, .ptr 2 [] 30), (3, .ptr 3 [] 30), (4, iv .i64 i)],
    [(1, .var 30 (.pu (tmc 0 (.mk k n r ks cs)))), (3, .var 30 (.agg 30 [iv .i64 k, iv .i64 n, .pu (refP r), .ow 0 30 (tmsc 0 (ks.take i)), .ow 0 34 ([])])), (2, .var 30 (.agg 30 [iv .i64 0, iv .i64 0, .pu (refP Z32), .nilc, .nilc]))]⟩) (fun i => ks.length - i) 0 ?_ (fun i => ?_))
  · exact le_of (.cons rfl rfl (.cons rfl rfl (.cons rfl rfl (.cons rfl rfl .nil)))) (.cons rfl rfl (.cons rfl rfl (.cons rfl rfl .nil)))
  refine yR ?_
  refine yM ?_
  refine yF ?_
  refine yK ?_
  refine yC ?_
  refine yI ?_
  refine e_seq ?_
  refine Tri.cond rfl (fun hb => Tri.skip ?_) (fun hb => Tri.exit ?_)
  · have hi : i < ks.length := by simpa [tms_eq] using hb
    repeat refine Tri.seq ?_
    refine Tri.block ?_
    refine yR ?_
    refine yF ?_
    refine yK ?_
    refine yF ?_
    refine yK ?_
    refine yM ?_
    refine s_val (v_index SS (h0 := by omega) (hp := tms_get hi)) ?_
    refine yL ?_
    refine s_val (v_callD (fun _ => ih ks[i] (by have := tsizeL_get hi; omega) (by omega))) ?_
    refine yZ ?_
    refine s_app2 3 [3] ?_ ?_
    · simp [tms_eq]; omega
    refine yF ?_
    refine yW ?_
    refine e_draw ?_
    refine yR ?_
    refine yM ?_
    refine yI ?_
    refine yA ?_
    refine e_seq ?_
    refine ⟨i + 1, by omega, le_of (.cons rfl rfl (.cons rfl rfl (.cons rfl rfl (.cons rfl ?_ .nil)))) (.cons rfl rfl (.cons rfl ?_ (.cons rfl rfl .nil)))⟩
    · rw [wrap64 (by omega) (by omega)]
      rfl
    · have : tmsc 0 (ks.take (i + 1)) = tmsc 0 (ks.take i) ++ [tmc 0 ks[i]] := by
        rw [tms_eq, tms_eq, List.take_succ_eq_append_getElem hi, List.map_append]; rfl
      rw [this]
      rfl
  have hi : ks.length ≤ i := by simpa [tms_eq] using hb
  rw [List.take_of_length_le hi]
  refine yR ?_
  refine yB ?_
  refine e_seq ?_
  repeat refine Tri.seq ?_
  refine Tri.block (Tri.loop (σ := Nat) (fun i => ⟨[(1, .ptr 1 [] 30), (2, .ptr 2 [] 30), (3, .ptr 3 [] 30), (5, iv .i64 i)],
    [(1, .var 30 (.pu (tmc 0 (.mk k n r ks cs)))), (3, .var 30 (.agg 30 [iv .i64 k, iv .i64 n, .pu (refP r), .ow 0 30 (tmsc 0 ks), .ow 0 34 (cssc 0 (cs.take i))])), (2, .var 30 (.agg 30 [iv .i64 0, iv .i64 0, .pu (refP Z32), .nilc, .nilc]))]⟩) (fun i => cs.length - i) 0 ?_ (fun i => ?_))
  · exact le_of (.cons rfl rfl (.cons rfl rfl (.cons rfl rfl (.cons rfl rfl .nil)))) (.cons rfl rfl (.cons rfl rfl (.cons rfl rfl .nil)))
  refine yR ?_
  refine yM ?_
  refine yF ?_
  refine yK ?_
  refine yC ?_
  refine yI ?_
  refine e_seq ?_
  refine Tri.cond rfl (fun hb => Tri.skip ?_) (fun hb => Tri.exit ?_)
  · have hi : i < cs.length := by simpa [css_eq] using hb
    have hsz := csizeL_get hi
    rcases hc : cs[i] with ⟨q, b⟩
    simp only [hc, csize] at hsz
    have hg : (cssc 0 cs)[i]? = some (csec 0 (.mk q b)) := (css_get hi).trans (by rw [hc])
    repeat refine Tri.seq ?_
    refine Tri.block ?_
    refine yR ?_
    refine yF ?_
    refine yK ?_
    refine yF ?_
    refine yK ?_
    refine yM ?_
    refine s_val (v_index SS (h0 := by omega) (hp := hg)) ?_
    refine yF ?_
    refine yL ?_
    refine s_val (v_callD (fun _ => refOwnPattern_c _ q (Nat.le_refl _) (by omega))) ?_
    refine yF ?_
    refine yK ?_
    refine yM ?_
    refine s_val (v_index SS (h0 := by omega) (hp := hg)) ?_
    refine yF ?_
    refine yL ?_
    refine s_val (v_callD (fun _ => ih b (by omega) (by omega))) ?_
    refine yP ?_
    refine yZ ?_
    refine s_app2 3 [4] ?_ ?_
    · simp [css_eq]; omega
    refine yF ?_
    refine yW ?_
    refine e_draw ?_
    refine yR ?_
    refine yM ?_
    refine yI ?_
    refine yA ?_
    refine e_seq ?_
    refine ⟨i + 1, by omega, le_of (.cons rfl rfl (.cons rfl rfl (.cons rfl rfl (.cons rfl ?_ .nil)))) (.cons rfl rfl (.cons rfl ?_ (.cons rfl rfl .nil)))⟩
    · rw [wrap64 (by omega) (by omega)]
      rfl
    · have : cssc 0 (cs.take (i + 1)) = cssc 0 (cs.take i) ++ [csec 0 (.mk q b)] := by
        rw [css_eq, css_eq, List.take_succ_eq_append_getElem hi, List.map_append, hc]; rfl
      rw [this]
      rfl
  have hi : cs.length ≤ i := by simpa [css_eq] using hb
  refine yR ?_
  refine yL ?_
  refine yS ?_
  refine e_seq ?_
  refine Tri.ret ⟨.inr rfl, ret1 rfl resV_cell (ToPu.imp ?_)⟩
  rw [List.take_of_length_le hi]
  repeat constructor

end Go.Proofs.YtkcgkignhpepkaaDoor

/- How many more variables a kid binds; how many a pattern binds. -/
namespace Go.Proofs.YtkcgkignhpepkaaDoor
open Go Hs
variable {G : List (Nat × TypeId × Pu)}

def moreM (kind kid : Int) : Int := if kind = 3 ∨ (kind = 5 ∧ kid = 1) ∨ (kind = 12 ∧ kid = 1) then 1 else if kind = 12 ∧ 1 < kid then 2 else 0

theorem stepMore_c (kind kid : Int) : FCall Tryd.prog G 80 [iv .i64 kind, iv .i64 kid] (iv .i64 (moreM kind kid)) := by
  refine FCall.of_tri tbl 25 Tryd.func80 rfl rfl rfl fun w0 M ρ0 D0 => ?_
  refine yR ?_
  refine yB ?_
  refine e_seq ?_
  repeat refine Tri.seq ?_
  refine Tri.block ?_
  refine yR ?_
  refine yM ?_
  refine yI ?_
  refine yA ?_
  refine e_seq ?_
  repeat refine Tri.seq ?_
  refine Tri.cond rfl (fun h0 => ?_) (fun h0 => ?_)
  · skip
    refine Tri.skip ?_
    repeat refine Tri.seq ?_
    refine Tri.cond rfl (fun h1 => ?_) (fun h1 => ?_)
    · skip
      refine yR ?_
      refine yB ?_
      refine e_seq ?_
      repeat refine Tri.seq ?_
      exact Tri.ret ⟨.inr rfl, ret1 rfl resV_tmp (iv_imp (by simp_all [moreM]; try omega))⟩
    · skip
      refine yR ?_
      refine yM ?_
      refine yI ?_
      refine yM ?_
      refine xM ?_
      refine xI ?_
      refine yN ?_
      refine yA ?_
      refine e_seq ?_
      repeat refine Tri.seq ?_
      refine Tri.cond rfl (fun h2 => ?_) (fun h2 => ?_)
      · skip
        refine yR ?_
        refine yB ?_
        refine e_seq ?_
        repeat refine Tri.seq ?_
        exact Tri.ret ⟨.inr rfl, ret1 rfl resV_tmp (iv_imp (by simp_all [moreM]; try omega))⟩
      · skip
        refine Tri.skip ?_
        refine yR ?_
        refine yB ?_
        refine e_seq ?_
        repeat refine Tri.seq ?_
        exact Tri.ret ⟨.inr rfl, ret1 rfl resV_tmp (iv_imp (by simp_all [moreM]; try omega))⟩
  · skip
    refine yR ?_
    refine yM ?_
    refine yI ?_
    refine yM ?_
    refine xM ?_
    refine xI ?_
    refine xM ?_
    refine xM ?_
    refine xI ?_
    refine xO ?_
    refine yN ?_
    refine yA ?_
    refine e_seq ?_
    repeat refine Tri.seq ?_
    refine Tri.cond rfl (fun h1 => ?_) (fun h1 => ?_)
    · skip
      refine yR ?_
      refine yB ?_
      refine e_seq ?_
      repeat refine Tri.seq ?_
      exact Tri.ret ⟨.inr rfl, ret1 rfl resV_tmp (iv_imp (by simp_all [moreM]; try omega))⟩
    · skip
      refine yR ?_
      refine yM ?_
      refine yI ?_
      refine yM ?_
      refine xM ?_
      refine xI ?_
      refine yN ?_
      refine yA ?_
      refine e_seq ?_
      repeat refine Tri.seq ?_
      refine Tri.cond rfl (fun h2 => ?_) (fun h2 => ?_)
      · skip
        refine yR ?_
        refine yB ?_
        refine e_seq ?_
        repeat refine Tri.seq ?_
        exact Tri.ret ⟨.inr rfl, ret1 rfl resV_tmp (iv_imp (by simp_all [moreM]; try omega))⟩
      · skip
        refine Tri.skip ?_
        refine yR ?_
        refine yB ?_
        refine e_seq ?_
        repeat refine Tri.seq ?_
        exact Tri.ret ⟨.inr rfl, ret1 rfl resV_tmp (iv_imp (by simp_all [moreM]; try omega))⟩

theorem termMore_c (kind kid : Int) : FCall Tryd.prog G 106 [iv .i64 kind, iv .i64 kid] (iv .i64 (moreM kind kid)) := by
  refine FCall.of_tri tbl 27 Tryd.func106 rfl rfl rfl fun w0 M ρ0 D0 => ?_
  refine yR ?_
  refine yB ?_
  refine e_seq ?_
  repeat refine Tri.seq ?_
  refine Tri.block ?_
  refine yR ?_
  refine yM ?_
  refine yI ?_
  refine yA ?_
  refine e_seq ?_
  repeat refine Tri.seq ?_
  refine Tri.cond rfl (fun h0 => ?_) (fun h0 => ?_)
  · skip
    refine Tri.skip ?_
    repeat refine Tri.seq ?_
    refine Tri.cond rfl (fun h2 => ?_) (fun h2 => ?_)
    · skip
      refine yR ?_
      refine yB ?_
      refine e_seq ?_
      repeat refine Tri.seq ?_
      exact Tri.ret ⟨.inr rfl, ret1 rfl resV_tmp (iv_imp (by simp_all [moreM]; try omega))⟩
    · skip
      refine yR ?_
      refine yM ?_
      refine yI ?_
      refine yM ?_
      refine xM ?_
      refine xI ?_
      refine yN ?_
      refine yA ?_
      refine e_seq ?_
      repeat refine Tri.seq ?_
      refine Tri.cond rfl (fun h3 => ?_) (fun h3 => ?_)
      · skip
        refine yR ?_
        refine yB ?_
        refine e_seq ?_
        repeat refine Tri.seq ?_
        exact Tri.ret ⟨.inr rfl, ret1 rfl resV_tmp (iv_imp (by simp_all [moreM]; try omega))⟩
      · skip
        refine Tri.skip ?_
        refine yR ?_
        refine yB ?_
        refine e_seq ?_
        repeat refine Tri.seq ?_
        exact Tri.ret ⟨.inr rfl, ret1 rfl resV_tmp (iv_imp (by simp_all [moreM]; try omega))⟩
  · skip
    refine yR ?_
    refine yM ?_
    refine yI ?_
    refine yM ?_
    refine xM ?_
    refine xI ?_
    refine yN ?_
    refine yA ?_
    refine e_seq ?_
    repeat refine Tri.seq ?_
    refine Tri.cond rfl (fun h1 => ?_) (fun h1 => ?_)
    · skip
      refine Tri.skip ?_
      repeat refine Tri.seq ?_
      refine Tri.cond rfl (fun h2 => ?_) (fun h2 => ?_)
      · skip
        refine yR ?_
        refine yB ?_
        refine e_seq ?_
        repeat refine Tri.seq ?_
        exact Tri.ret ⟨.inr rfl, ret1 rfl resV_tmp (iv_imp (by simp_all [moreM]; try omega))⟩
      · skip
        refine yR ?_
        refine yM ?_
        refine yI ?_
        refine yM ?_
        refine xM ?_
        refine xI ?_
        refine yN ?_
        refine yA ?_
        refine e_seq ?_
        repeat refine Tri.seq ?_
        refine Tri.cond rfl (fun h3 => ?_) (fun h3 => ?_)
        · skip
          refine yR ?_
          refine yB ?_
          refine e_seq ?_
          repeat refine Tri.seq ?_
          exact Tri.ret ⟨.inr rfl, ret1 rfl resV_tmp (iv_imp (by simp_all [moreM]; try omega))⟩
        · skip
          refine Tri.skip ?_
          refine yR ?_
          refine yB ?_
          refine e_seq ?_
          repeat refine Tri.seq ?_
          exact Tri.ret ⟨.inr rfl, ret1 rfl resV_tmp (iv_imp (by simp_all [moreM]; try omega))⟩
    · skip
      refine yR ?_
      refine yM ?_
      refine yI ?_
      refine yM ?_
      refine xM ?_
      refine xI ?_
      refine yN ?_
      refine yA ?_
      refine e_seq ?_
      repeat refine Tri.seq ?_
      refine Tri.cond rfl (fun h2 => ?_) (fun h2 => ?_)
      · skip
        refine yR ?_
        refine yB ?_
        refine e_seq ?_
        repeat refine Tri.seq ?_
        exact Tri.ret ⟨.inr rfl, ret1 rfl resV_tmp (iv_imp (by simp_all [moreM]; try omega))⟩
      · skip
        refine yR ?_
        refine yM ?_
        refine yI ?_
        refine yM ?_
        refine xM ?_
        refine xI ?_
        refine yN ?_
        refine yA ?_
        refine e_seq ?_
        repeat refine Tri.seq ?_
        refine Tri.cond rfl (fun h3 => ?_) (fun h3 => ?_)
        · skip
          refine yR ?_
          refine yB ?_
          refine e_seq ?_
          repeat refine Tri.seq ?_
          exact Tri.ret ⟨.inr rfl, ret1 rfl resV_tmp (iv_imp (by simp_all [moreM]; try omega))⟩
        · skip
          refine Tri.skip ?_
          refine yR ?_
          refine yB ?_
          refine e_seq ?_
          repeat refine Tri.seq ?_
          exact Tri.ret ⟨.inr rfl, ret1 rfl resV_tmp (iv_imp (by simp_all [moreM]; try omega))⟩

mutual
def bindsM : Pat → Int
  | .mk k _ _ ks => if k = 1 then 1 else bindsL ks
def bindsL : List Pat → Int
  | [] => 0
  | p :: ps => bindsM p + bindsL ps
end
mutual
theorem binds_bound : ∀ (p : Pat), 0 ≤ bindsM p ∧ bindsM p ≤ psize p
  | .mk k n r ks => by
    have := bindsL_bound ks
    simp only [bindsM, psize]
    split <;> omega
theorem bindsL_bound : ∀ (ps : List Pat), 0 ≤ bindsL ps ∧ bindsL ps ≤ psizeL ps
  | [] => by simp [bindsL, psizeL]
  | p :: ps => by
    have := binds_bound p
    have := bindsL_bound ps
    simp only [bindsL, psizeL]
    omega
end
theorem bindsL_take : ∀ {ks : List Pat} {i : Nat} (h : i < ks.length), bindsL (ks.take (i + 1)) = bindsL (ks.take i) + bindsM ks[i]
  | p :: ps, 0, _ => by simp [bindsL]
  | p :: ps, i + 1, h => by
    have := bindsL_take (ks := ps) (i := i) (by simpa using h)
    simp [bindsL, this]; omega

theorem stepBinds_c : ∀ (N : Nat) (p : Pat), psize p ≤ N → N < 2^40 → FCall Tryd.prog G 82 [.pu (patc 0 p)] (iv .i64 (bindsM p)) := by
  intro N
  induction N with
  | zero => intro p h; cases p; simp [psize] at h
  | succ N ih =>
  intro p hp hN
  obtain ⟨k, n, r, ks⟩ := p
  simp only [psize] at hp
  have hlen := length_psizeL ks
  refine FCall.of_tri tbl 22 Tryd.func82 rfl rfl rfl fun w0 M ρ0 D0 => ?_
  refine yR ?_
  refine s_box SS 1 ?_
  refine yB ?_
  refine e_seqN [1] ?_
  refine yR ?_
  refine yF ?_
  refine yL ?_
  refine yI ?_
  refine e_seq ?_
  repeat refine Tri.seq ?_
  refine Tri.cond rfl (fun h0 => ?_) (fun h0 => ?_)
  · skip
    refine yR ?_
    refine yB ?_
    refine e_seq ?_
    repeat refine Tri.seq ?_
    exact Tri.ret ⟨.inr rfl, ret1 rfl resV_tmp (iv_imp (by simp_all [bindsM]))⟩
  · skip
    refine Tri.skip ?_
    refine yR ?_
    refine yB ?_
    refine e_seq ?_
    refine yR ?_
    refine yF ?_
    refine yK ?_
    refine yC ?_
    refine yJ ?_
    refine e_seq ?_
    repeat refine Tri.seq ?_
    refine Tri.block (Tri.loopW (σ := Nat) (fun i => ⟨[(10, .pu (.sl 0 26 (patsc 0 ks))), (11, iv .i64 (patsc 0 ks).length), (12, iv .i64 i), (3, iv .i64 (bindsL (ks.take i)))], []⟩) (fun i => ks.length - i) 0 ?_ ?_ (fun i => ?_))
    · exact zW
    · exact zW
    refine yR ?_
    refine yI ?_
    refine e_seq ?_
    repeat refine Tri.seq ?_
    refine Tri.cond rfl (fun h1 => ?_) (fun h1 => ?_)
    · skip
      have hi : i < ks.length := by simpa [pats_eq] using h1
      have h1' := bindsL_bound (ks.take i)
      have h2 := binds_bound ks[i]
      have h3 := psizeL_take (ks := ks) (i := i)
      have h4 := psizeL_get hi
      refine Tri.skip ?_
      repeat refine Tri.seq ?_
      refine Tri.block ?_
      refine yR ?_
      refine s_val (v_index SS (h0 := by omega) (hp := pats_get hi)) ?_
      refine yL ?_
      refine s_alloc SS 5 ?_
      refine yS ?_
      refine e_seqN [5] ?_
      refine yR ?_
      refine yM ?_
      refine yL ?_
      refine s_val (v_callD (fun _ => ih ks[i] (by omega) (by omega))) ?_
      refine yI ?_
      refine yA ?_
      refine e_seq ?_
      refine yR ?_
      refine yI ?_
      refine yM ?_
      refine e_seq ?_
      refine ⟨i + 1, by omega, le_of ?_ ?_⟩
      · repeat (first | exact SubE.nil | refine SubE.cons rfl (by first | rfl | (rw [wrap64 (by omega) (by omega)]; rfl) | (rw [bindsL_take hi, wrap64 (by omega) (by omega)])) ?_)
      · repeat (first | exact SubH.nil | refine SubH.cons rfl (by first | rfl | (rw [wrap64 (by omega) (by omega)]; rfl) | (rw [bindsL_take hi, wrap64 (by omega) (by omega)])) ?_)
    · skip
      have hi : ks.length ≤ i := by simpa [pats_eq] using h1
      rw [List.take_of_length_le hi]
      refine Tri.exit ?_
      refine yR ?_
      refine yM ?_
      refine yA ?_
      refine e_seq ?_
      repeat refine Tri.seq ?_
      exact Tri.ret ⟨.inr rfl, ret1 rfl resV_tmp (iv_imp (by simp_all [bindsM]))⟩
end Go.Proofs.YtkcgkignhpepkaaDoor

/- Whether a tree is too long, or too deep. -/
namespace Go.Proofs.YtkcgkignhpepkaaDoor
open Go Hs
variable {G : List (Nat × TypeId × Pu)}

section
variable (mn md : Int)
mutual
def longP (mn md d c : Int) : Pat → Bool × Int
  | .mk _ _ _ ks => if mn < c + 1 ∨ md < d then (true, c + 1) else longPs mn md (d + 1) (c + 1) ks
def longPs (mn md d c : Int) : List Pat → Bool × Int
  | [] => (false, c)
  | p :: ps => match longP mn md d c p with
    | (true, c') => (true, c')
    | (false, c') => longPs mn md d c' ps
end
mutual
def longT (mn md d c : Int) : Tm → Bool × Int
  | .mk _ _ _ ks cs => if mn < c + 1 ∨ md < d then (true, c + 1) else match longTs mn md (d + 1) (c + 1) ks with
    | (true, c') => (true, c')
    | (false, c') => longCs mn md (d + 1) c' cs
def longTs (mn md d c : Int) : List Tm → Bool × Int
  | [] => (false, c)
  | t :: ts => match longT mn md d c t with
    | (true, c') => (true, c')
    | (false, c') => longTs mn md d c' ts
def longC (mn md d c : Int) : Cs → Bool × Int
  | .mk p t => match longP mn md d c p with
    | (true, c') => (true, c')
    | (false, c') => longT mn md d c' t
def longCs (mn md d c : Int) : List Cs → Bool × Int
  | [] => (false, c)
  | x :: xs => match longC mn md d c x with
    | (true, c') => (true, c')
    | (false, c') => longCs mn md d c' xs
end
end
variable {mn md d : Int}
theorem longPs_eq : ∀ (ks : List Pat) (c : Int), longPs mn md d c ks = anyS (longP mn md d) c ks
  | [], _ => rfl
  | p :: ps, c => by
    simp only [longPs, anyS]
    rcases longP mn md d c p with ⟨b, c'⟩
    cases b
    · exact longPs_eq ps c'
    · rfl
theorem longTs_eq : ∀ (ks : List Tm) (c : Int), longTs mn md d c ks = anyS (longT mn md d) c ks
  | [], _ => rfl
  | p :: ps, c => by
    simp only [longTs, anyS]
    rcases longT mn md d c p with ⟨b, c'⟩
    cases b
    · exact longTs_eq ps c'
    · rfl
theorem longCs_eq : ∀ (ks : List Cs) (c : Int), longCs mn md d c ks = anyS (longC mn md d) c ks
  | [], _ => rfl
  | p :: ps, c => by
    simp only [longCs, anyS]
    rcases longC mn md d c p with ⟨b, c'⟩
    cases b
    · exact longCs_eq ps c'
    · rfl
/-- The count stays within its bounds. -/
def InB (mn c : Int) (r : Bool × Int) : Prop := c ≤ r.2 ∧ r.2 ≤ mn + 1 ∧ (r.1 = false → r.2 ≤ mn)
theorem InB.anyS {α : Type} {step : Int → α → Bool × Int} : ∀ (l : List α), (∀ a ∈ l, ∀ c, c ≤ mn → InB mn c (step c a)) → ∀ c, c ≤ mn → InB mn c (anyS step c l)
  | [], _, c, hc => ⟨Int.le_refl _, by simp [Hs.anyS]; omega, fun _ => hc⟩
  | a :: l, h, c, hc => by
    obtain ⟨h1, h2, h3⟩ := h a (by simp) c hc
    simp only [Hs.anyS]
    rcases hs : step c a with ⟨b, c'⟩
    rw [hs] at h1 h2 h3
    simp only at h1 h2 h3
    cases b
    · obtain ⟨k1, k2, k3⟩ := InB.anyS l (fun x hx => h x (by simp [hx])) c' (h3 rfl)
      exact ⟨Int.le_trans h1 k1, k2, k3⟩
    · exact ⟨h1, h2, fun e => by cases e⟩
mutual
theorem longP_b : ∀ (p : Pat) (d c : Int), c ≤ mn → InB mn c (longP mn md d c p)
  | .mk _ _ _ ks, d, c, hc => by
    simp only [longP]
    split
    · exact ⟨by simp; omega, by simp; omega, fun e => by cases e⟩
    · rename_i hn
      obtain ⟨k1, k2, k3⟩ := longPs_b ks (d + 1) (c + 1) (by omega)
      exact ⟨by omega, k2, k3⟩
theorem longPs_b : ∀ (ks : List Pat) (d c : Int), c ≤ mn → InB mn c (longPs mn md d c ks)
  | [], d, c, hc => ⟨by simp [longPs], by simp [longPs]; omega, fun _ => by simpa [longPs] using hc⟩
  | p :: ps, d, c, hc => by
    obtain ⟨h1, h2, h3⟩ := longP_b p d c hc
    simp only [longPs]
    rcases hs : longP mn md d c p with ⟨b, c'⟩
    rw [hs] at h1 h2 h3
    simp only at h1 h2 h3
    cases b
    · obtain ⟨k1, k2, k3⟩ := longPs_b ps d c' (h3 rfl)
      exact ⟨Int.le_trans h1 k1, k2, k3⟩
    · exact ⟨h1, h2, fun e => by cases e⟩
end
mutual
theorem longT_b : ∀ (t : Tm) (d c : Int), c ≤ mn → InB mn c (longT mn md d c t)
  | .mk _ _ _ ks cs, d, c, hc => by
    simp only [longT]
    split
    · exact ⟨by simp; omega, by simp; omega, fun e => by cases e⟩
    · rename_i hn
      obtain ⟨h1, h2, h3⟩ := longTs_b ks (d + 1) (c + 1) (by omega)
      rcases hs : longTs mn md (d + 1) (c + 1) ks with ⟨b, c'⟩
      rw [hs] at h1 h2 h3
      simp only at h1 h2 h3
      cases b
      · obtain ⟨k1, k2, k3⟩ := longCs_b cs (d + 1) c' (h3 rfl)
        refine ⟨?_, k2, k3⟩
        show c ≤ (longCs mn md (d + 1) c' cs).2
        omega
      · exact ⟨by simp; omega, h2, fun e => by cases e⟩
theorem longTs_b : ∀ (ks : List Tm) (d c : Int), c ≤ mn → InB mn c (longTs mn md d c ks)
  | [], d, c, hc => ⟨by simp [longTs], by simp [longTs]; omega, fun _ => by simpa [longTs] using hc⟩
  | p :: ps, d, c, hc => by
    obtain ⟨h1, h2, h3⟩ := longT_b p d c hc
    simp only [longTs]
    rcases hs : longT mn md d c p with ⟨b, c'⟩
    rw [hs] at h1 h2 h3
    simp only at h1 h2 h3
    cases b
    · obtain ⟨k1, k2, k3⟩ := longTs_b ps d c' (h3 rfl)
      exact ⟨Int.le_trans h1 k1, k2, k3⟩
    · exact ⟨h1, h2, fun e => by cases e⟩
theorem longC_b : ∀ (x : Cs) (d c : Int), c ≤ mn → InB mn c (longC mn md d c x)
  | .mk p t, d, c, hc => by
    obtain ⟨h1, h2, h3⟩ := longP_b (md := md) p d c hc
    simp only [longC]
    rcases hs : longP mn md d c p with ⟨b, c'⟩
    rw [hs] at h1 h2 h3
    simp only at h1 h2 h3
    cases b
    · obtain ⟨k1, k2, k3⟩ := longT_b t d c' (h3 rfl)
      exact ⟨Int.le_trans h1 k1, k2, k3⟩
    · exact ⟨h1, h2, fun e => by cases e⟩
theorem longCs_b : ∀ (ks : List Cs) (d c : Int), c ≤ mn → InB mn c (longCs mn md d c ks)
  | [], d, c, hc => ⟨by simp [longCs], by simp [longCs]; omega, fun _ => by simpa [longCs] using hc⟩
  | p :: ps, d, c, hc => by
    obtain ⟨h1, h2, h3⟩ := longC_b p d c hc
    simp only [longCs]
    rcases hs : longC mn md d c p with ⟨b, c'⟩
    rw [hs] at h1 h2 h3
    simp only at h1 h2 h3
    cases b
    · obtain ⟨k1, k2, k3⟩ := longCs_b ps d c' (h3 rfl)
      exact ⟨Int.le_trans h1 k1, k2, k3⟩
    · exact ⟨h1, h2, fun e => by cases e⟩
end
theorem psize_mem {ks : List Pat} {k : Pat} (h : k ∈ ks) : psize k ≤ psizeL ks := by
  obtain ⟨i, hi, rfl⟩ := List.getElem_of_mem h
  exact psizeL_get hi
theorem tsize_mem {ks : List Tm} {k : Tm} (h : k ∈ ks) : tsize k ≤ tsizeL ks := by
  obtain ⟨i, hi, rfl⟩ := List.getElem_of_mem h
  exact tsizeL_get hi
theorem csize_mem {ks : List Cs} {k : Cs} (h : k ∈ ks) : csize k ≤ csizeL ks := by
  obtain ⟨i, hi, rfl⟩ := List.getElem_of_mem h
  exact csizeL_get hi
end Go.Proofs.YtkcgkignhpepkaaDoor

/- The walks of the counters. -/
namespace Go.Proofs.YtkcgkignhpepkaaDoor
open Go Hs
variable {G : List (Nat × TypeId × Pu)}


/-! ### term.long -/
abbrev lgO (c : Int) : List (Nat × Ob) := [(90, .var 141 (.pu (.agg 141 [.leaf (.int .i64 c)])))]

theorem lgP1_c (p : Pat) (d c : Int) (hd : 0 ≤ d ∧ d ≤ 60) (h : HCall Tryd.prog G 93 [.ptr 90 [] 141, .pu (patc 0 p), iv .i64 (d + 1)] [] (lgO c) (bv (longP 300 60 (d + 1) c p).1) (lgO (longP 300 60 (d + 1) c p).2) []) :
    HCall Tryd.prog G 99 [.pu (patc 0 p), .ptr 3 [] 139, .ptr 5 [] 3] [(3, .var 139 (.ptr 90 [] 141)), (5, .var 3 (iv .i64 d))] (lgO c) (bv (longP 300 60 (d + 1) c p).1) (lgO (longP 300 60 (d + 1) c p).2) [] := by
  refine HCall.of_triD tbl 10 [90, 3, 5] Tryd.func99 rfl rfl rfl fun w0 M ρ0 D0 => ?_
  refine yR ?_
  refine s_box SS 31 ?_
  refine yB ?_
  refine e_seqN [31] ?_
  refine yR ?_
  refine yL ?_
  refine yL ?_
  refine yL ?_
  refine yI ?_
  refine s_call (h) ?_
  refine yA ?_
  refine e_seq ?_
  repeat refine Tri.seq ?_
  exact Tri.ret ⟨.inr rfl, ret1 rfl resV_tmp (VImp.refl _), by repeat (first | exact OutH.nil | refine OutH.cons rfl (by first | exact ObImp.refl _ | exact OWk.imp (by repeat constructor)) ?_)⟩

theorem lgP_c : ∀ (N : Nat) (p : Pat), psize p ≤ N → N < 2^40 → ∀ (d c : Int), 0 ≤ c ∧ c ≤ 300 → 0 ≤ d ∧ d ≤ 60 + 1 →
    HCall Tryd.prog G 93 [.ptr 90 [] 141, .pu (patc 0 p), iv .i64 d] [] (lgO c) (bv (longP 300 60 d c p).1) (lgO (longP 300 60 d c p).2) [] := by
  intro N
  induction N with
  | zero => intro p h; cases p; simp [psize] at h
  | succ N ih =>
  intro p hp hN d c hc hd
  obtain ⟨k, n, r, ks⟩ := p
  simp only [psize] at hp
  have hlen := length_psizeL ks
  have key : 0 ≤ d ∧ d ≤ 60 → c + 1 ≤ 300 → ∃ r, r.isSome = (longPs 300 60 (d + 1) (c + 1) ks).1 ∧ AnyC Tryd.prog G 99 [] [.ptr 3 [] 139, .ptr 5 [] 3] [(3, .var 139 (.ptr 90 [] 141)), (5, .var 3 (iv .i64 d))] (patsc 0 ks) (lgO (c + 1)) r (lgO (longPs 300 60 (d + 1) (c + 1) ks).2) := fun hd' hc' => by
    rw [longPs_eq, pats_eq]
    refine AnyC.state (patc 0) (longP 300 60 (d + 1)) lgO (fun c => 0 ≤ c ∧ c ≤ 300) (fun _ => rfl) ks (fun a ha c hc => ?_) (c + 1) ⟨by omega, hc'⟩
    have hb := longP_b (mn := 300) (md := 60) a (d + 1) c hc.2
    exact ⟨lgP1_c a d c hd' (ih a (by have := psize_mem ha; omega) (by omega) (d + 1) c hc (by omega)), fun e => ⟨by have := hb.1; omega, hb.2.2 e⟩⟩
  refine HCall.of_triD tbl 27 [90] Tryd.func93 rfl rfl rfl fun w0 M ρ0 D0 => ?_
  by_cases hcut : 300 < c + 1 ∨ 60 < d
  · have e : longP 300 60 d c (.mk k n r ks) = (true, c + 1) := by simp only [longP, if_pos hcut]
    rw [e, ← wrap64 (n := c + 1) (by omega) (by omega)]
    refine yR ?_
    refine s_box SS 3 ?_
    refine s_box SS 4 ?_
    refine s_box SS 5 ?_
    refine yB ?_
    refine e_seqN [3, 4, 5] ?_
    refine yR ?_
    refine yL ?_
    refine yY ?_
    refine yF ?_
    refine yL ?_
    refine yI ?_
    refine yY ?_
    refine yF ?_
    refine yS ?_
    refine e_seq ?_
    refine yR ?_
    refine yL ?_
    refine yY ?_
    refine yF ?_
    refine yL ?_
    refine yI ?_
    refine yM ?_
    refine xL ?_
    refine xI ?_
    refine yO ?_
    refine e_seq ?_
    repeat refine Tri.seq ?_
    refine Tri.cond rfl (fun h0 => ?_) (fun h0 => ?_)
    · skip
      refine yR ?_
      refine yB ?_
      refine e_seq ?_
      repeat refine Tri.seq ?_
      exact Tri.ret ⟨.inr rfl, ret1 rfl resV_tmp (VImp.refl _), by repeat (first | exact OutH.nil | refine OutH.cons rfl (by first | exact ObImp.refl _ | exact OWk.imp (by repeat constructor)) ?_)⟩
    · exfalso
      rw [wrap64 (by omega) (by omega)] at h0
      simp at h0
      omega
  · obtain ⟨r1, hr1, hA⟩ := key (by omega) (by omega)
    have e : longP 300 60 d c (.mk k n r ks) = longPs 300 60 (d + 1) (c + 1) ks := by simp only [longP, if_neg hcut]
    rw [e]
    generalize longPs 300 60 (d + 1) (c + 1) ks = q1 at hr1 hA ⊢
    obtain ⟨b1, c1⟩ := q1
    simp only at hr1 hA ⊢
    rw [← wrap64 (n := c + 1) (by omega) (by omega)] at hA
    refine yR ?_
    refine s_box SS 3 ?_
    refine s_box SS 4 ?_
    refine s_box SS 5 ?_
    refine yB ?_
    refine e_seqN [3, 4, 5] ?_
    refine yR ?_
    refine yL ?_
    refine yY ?_
    refine yF ?_
    refine yL ?_
    refine yI ?_
    refine yY ?_
    refine yF ?_
    refine yS ?_
    refine e_seq ?_
    refine yR ?_
    refine yL ?_
    refine yY ?_
    refine yF ?_
    refine yL ?_
    refine yI ?_
    refine yM ?_
    refine xL ?_
    refine xI ?_
    refine yO ?_
    refine e_seq ?_
    repeat refine Tri.seq ?_
    refine Tri.cond rfl (fun h0 => ?_) (fun h0 => ?_)
    · exfalso
      rw [wrap64 (by omega) (by omega)] at h0
      simp at h0
      omega
    · skip
      refine Tri.skip ?_
      refine yR ?_
      refine yF ?_
      refine yK ?_
      refine s_val (v_mkFnD SS) ?_
      refine s_call (conPat_d (lo := 0) (.fn (.func 99) [] [.ptr 3 [] 139, .ptr 5 [] 3]) (by rw [pats_length]; omega) hA) ?_
      refine yA ?_
      refine e_seq ?_
      repeat refine Tri.seq ?_
      exact Tri.ret ⟨.inr rfl, ret1 rfl resV_tmp (bv_imp hr1), by repeat (first | exact OutH.nil | refine OutH.cons rfl (by first | exact ObImp.refl _ | exact OWk.imp (by repeat constructor)) ?_)⟩

theorem lgT1_c (t : Tm) (d c : Int) (hd : 0 ≤ d ∧ d ≤ 60) (h : HCall Tryd.prog G 83 [.ptr 90 [] 141, .pu (tmc 0 t), iv .i64 (d + 1)] [] (lgO c) (bv (longT 300 60 (d + 1) c t).1) (lgO (longT 300 60 (d + 1) c t).2) []) :
    HCall Tryd.prog G 91 [.pu (tmc 0 t), .ptr 3 [] 139, .ptr 5 [] 3] [(3, .var 139 (.ptr 90 [] 141)), (5, .var 3 (iv .i64 d))] (lgO c) (bv (longT 300 60 (d + 1) c t).1) (lgO (longT 300 60 (d + 1) c t).2) [] := by
  refine HCall.of_triD tbl 10 [90, 3, 5] Tryd.func91 rfl rfl rfl fun w0 M ρ0 D0 => ?_
  refine yR ?_
  refine s_box SS 31 ?_
  refine yB ?_
  refine e_seqN [31] ?_
  refine yR ?_
  refine yL ?_
  refine yL ?_
  refine yL ?_
  refine yI ?_
  refine s_call (h) ?_
  refine yA ?_
  refine e_seq ?_
  repeat refine Tri.seq ?_
  exact Tri.ret ⟨.inr rfl, ret1 rfl resV_tmp (VImp.refl _), by repeat (first | exact OutH.nil | refine OutH.cons rfl (by first | exact ObImp.refl _ | exact OWk.imp (by repeat constructor)) ?_)⟩

theorem lgC_parts (mn md d c : Int) (p : Pat) (t : Tm) : longC mn md d c (.mk p t) = ((longP mn md d c p).1 || (longT mn md d (longP mn md d c p).2 t).1, if (longP mn md d c p).1 then (longP mn md d c p).2 else (longT mn md d (longP mn md d c p).2 t).2) := by
  simp only [longC]
  rcases longP mn md d c p with ⟨b, c'⟩
  cases b <;> simp

theorem lgT2_c (p : Pat) (t : Tm) (d c : Int) (hd : 0 ≤ d ∧ d ≤ 60) (h : HCall Tryd.prog G 93 [.ptr 90 [] 141, .pu (patc 0 p), iv .i64 (d + 1)] [] (lgO c) (bv (longP 300 60 (d + 1) c p).1) (lgO (longP 300 60 (d + 1) c p).2) [])
    (h2 : (longP 300 60 (d + 1) c p).1 = false → HCall Tryd.prog G 83 [.ptr 90 [] 141, .pu (tmc 0 t), iv .i64 (d + 1)] [] (lgO (longP 300 60 (d + 1) c p).2) (bv (longT 300 60 (d + 1) (longP 300 60 (d + 1) c p).2 t).1) (lgO (longT 300 60 (d + 1) (longP 300 60 (d + 1) c p).2 t).2) []) :
    HCall Tryd.prog G 92 [.pu (csec 0 (.mk p t)), .ptr 3 [] 139, .ptr 5 [] 3, .ptr 7 [] 31] [(3, .var 139 (.ptr 90 [] 141)), (5, .var 3 (iv .i64 d)), (7, .var 31 (.fn (.func 91) [] [.ptr 3 [] 139, .ptr 5 [] 3]))] (lgO c) (bv (longC 300 60 (d + 1) c (.mk p t)).1) (lgO (longC 300 60 (d + 1) c (.mk p t)).2) [] := by
  have h2' := fun e => (lgT1_c t d _ hd (h2 e)).more (HR' := [(3, .var 139 (.ptr 90 [] 141)), (5, .var 3 (iv .i64 d)), (7, .var 31 (.fn (.func 91) [] [.ptr 3 [] 139, .ptr 5 [] 3]))]) (fun l ob hl => (SubH.cons rfl rfl (.cons rfl rfl .nil) : SubH [(3, .var 139 (.ptr 90 [] 141)), (5, .var 3 (iv .i64 d)), (7, .var 31 (.fn (.func 91) [] [.ptr 3 [] 139, .ptr 5 [] 3]))] [(3, .var 139 (.ptr 90 [] 141)), (5, .var 3 (iv .i64 d))]).le l ob hl) rfl
  rw [lgC_parts]
  generalize hb1 : longP 300 60 (d + 1) c p = r1 at h2' ⊢
  obtain ⟨b1, c1⟩ := r1
  simp only at h2' ⊢
  refine HCall.of_triD tbl 18 [90, 3, 5, 7] Tryd.func92 rfl rfl rfl fun w0 M ρ0 D0 => ?_
  rw [hb1] at h
  refine yR ?_
  refine s_box SS 41 ?_
  refine yB ?_
  refine e_seqN [41] ?_
  refine yR ?_
  refine yL ?_
  refine yF ?_
  refine yL ?_
  refine yL ?_
  refine yI ?_
  refine s_call (h) ?_
  refine yM ?_
  refine xL ?_
  refine xF ?_
  refine xL ?_
  refine s_callG zG (f := 91) (args := [.pu (tmc 0 t), .ptr 3 [] 139, .ptr 5 [] 3]) (HR := [(3, .var 139 (.ptr 90 [] 141)), (5, .var 3 (iv .i64 d)), (7, .var 31 (.fn (.func 91) [] [.ptr 3 [] 139, .ptr 5 [] 3]))]) (H := lgO c1) (H' := lgO (if b1 = true then c1 else (longT 300 60 (d + 1) c1 t).2)) (v := bv (longT 300 60 (d + 1) c1 t).1) (fun e => ?_) (fun e => ?_) ?_
  · have e' : b1 = false := by simpa using e
    have := h2' e'
    simpa [e'] using this
  · have e' : b1 = true := by simpa using e
    exact .cons rfl (by simp [e']) .nil
  refine yO ?_
  refine yA ?_
  refine e_seq ?_
  repeat refine Tri.seq ?_
  exact Tri.ret ⟨.inr rfl, ret1 rfl resV_tmp (VImp.refl _), by repeat (first | exact OutH.nil | refine OutH.cons rfl (by first | exact ObImp.refl _ | exact OWk.imp (by repeat constructor)) ?_)⟩

theorem lgT_parts (d c k n : Int) (r : List Int) (ks : List Tm) (cs : List Cs) (h : ¬ (300 < c + 1 ∨ 60 < d)) : longT 300 60 d c (.mk k n r ks cs) = ((longTs 300 60 (d + 1) (c + 1) ks).1 || (longCs 300 60 (d + 1) (longTs 300 60 (d + 1) (c + 1) ks).2 cs).1, if (longTs 300 60 (d + 1) (c + 1) ks).1 then (longTs 300 60 (d + 1) (c + 1) ks).2 else (longCs 300 60 (d + 1) (longTs 300 60 (d + 1) (c + 1) ks).2 cs).2) := by
  simp only [longT, if_neg h]
  rcases longTs 300 60 (d + 1) (c + 1) ks with ⟨b, c'⟩
  cases b <;> simp

theorem lgT_c : ∀ (N : Nat) (t : Tm), tsize t ≤ N → N < 2^40 → ∀ (d c : Int), 0 ≤ c ∧ c ≤ 300 → 0 ≤ d ∧ d ≤ 60 + 1 →
    HCall Tryd.prog G 83 [.ptr 90 [] 141, .pu (tmc 0 t), iv .i64 d] [] (lgO c) (bv (longT 300 60 d c t).1) (lgO (longT 300 60 d c t).2) [] := by
  intro N
  induction N with
  | zero => intro t h; have := tsize_pos t; omega
  | succ N ih =>
  intro t hp hN d c hc hd
  obtain ⟨k, n, r, ks, cs⟩ := t
  simp only [tsize] at hp
  have hlen := length_tsizeL ks
  have hlenc := length_csizeL cs
  have keyT : 0 ≤ d ∧ d ≤ 60 → c + 1 ≤ 300 → ∃ r, r.isSome = (longTs 300 60 (d + 1) (c + 1) ks).1 ∧ AnyC Tryd.prog G 91 [] [.ptr 3 [] 139, .ptr 5 [] 3] [(3, .var 139 (.ptr 90 [] 141)), (5, .var 3 (iv .i64 d))] (tmsc 0 ks) (lgO (c + 1)) r (lgO (longTs 300 60 (d + 1) (c + 1) ks).2) := fun hd' hc' => by
    rw [longTs_eq, tms_eq]
    refine AnyC.state (tmc 0) (longT 300 60 (d + 1)) lgO (fun c => 0 ≤ c ∧ c ≤ 300) (fun _ => rfl) ks (fun a ha c hc => ?_) (c + 1) ⟨by omega, hc'⟩
    have hb := longT_b (mn := 300) (md := 60) a (d + 1) c hc.2
    exact ⟨lgT1_c a d c hd' (ih a (by have := tsize_mem ha; omega) (by omega) (d + 1) c hc (by omega)), fun e => ⟨by have := hb.1; omega, hb.2.2 e⟩⟩
  have keyC : 0 ≤ d ∧ d ≤ 60 → ∀ c1, 0 ≤ c1 ∧ c1 ≤ 300 → ∃ r, r.isSome = (longCs 300 60 (d + 1) c1 cs).1 ∧ AnyC Tryd.prog G 92 [] [.ptr 3 [] 139, .ptr 5 [] 3, .ptr 7 [] 31] [(3, .var 139 (.ptr 90 [] 141)), (5, .var 3 (iv .i64 d)), (7, .var 31 (.fn (.func 91) [] [.ptr 3 [] 139, .ptr 5 [] 3]))] (cssc 0 cs) (lgO c1) r (lgO (longCs 300 60 (d + 1) c1 cs).2) := fun hd' c1 hc1 => by
    rw [longCs_eq, css_eq]
    refine AnyC.state (csec 0) (longC 300 60 (d + 1)) lgO (fun c => 0 ≤ c ∧ c ≤ 300) (fun _ => rfl) cs (fun a ha c hc => ?_) c1 hc1
    have hb := longC_b (mn := 300) (md := 60) a (d + 1) c hc.2
    have hsz := csize_mem ha
    obtain ⟨q, b⟩ := a
    simp only [csize] at hsz
    have hp1 := longP_b (mn := 300) (md := 60) q (d + 1) c hc.2
    have htp := tsize_pos b
    exact ⟨lgT2_c q b d c hd' (lgP_c _ q (Nat.le_refl _) (by omega) (d + 1) c hc (by omega)) (fun e => ih b (by omega) (by omega) (d + 1) _ ⟨by have := hp1.1; omega, hp1.2.2 e⟩ (by omega)), fun e => ⟨by have := hb.1; omega, hb.2.2 e⟩⟩
  refine HCall.of_triD tbl 35 [90] Tryd.func83 rfl rfl rfl fun w0 M ρ0 D0 => ?_
  by_cases hcut : 300 < c + 1 ∨ 60 < d
  · have e : longT 300 60 d c (.mk k n r ks cs) = (true, c + 1) := by simp only [longT, if_pos hcut]
    rw [e, ← wrap64 (n := c + 1) (by omega) (by omega)]
    refine yR ?_
    refine s_box SS 3 ?_
    refine s_box SS 4 ?_
    refine s_box SS 5 ?_
    refine yB ?_
    refine e_seqN [3, 4, 5] ?_
    refine yR ?_
    refine yL ?_
    refine yY ?_
    refine yF ?_
    refine yL ?_
    refine yI ?_
    refine yY ?_
    refine yF ?_
    refine yS ?_
    refine e_seq ?_
    refine yR ?_
    refine yL ?_
    refine yY ?_
    refine yF ?_
    refine yL ?_
    refine yI ?_
    refine yM ?_
    refine xL ?_
    refine xI ?_
    refine yO ?_
    refine e_seq ?_
    repeat refine Tri.seq ?_
    refine Tri.cond rfl (fun h0 => ?_) (fun h0 => ?_)
    · skip
      refine yR ?_
      refine yB ?_
      refine e_seq ?_
      repeat refine Tri.seq ?_
      exact Tri.ret ⟨.inr rfl, ret1 rfl resV_tmp (VImp.refl _), by repeat (first | exact OutH.nil | refine OutH.cons rfl (by first | exact ObImp.refl _ | exact OWk.imp (by repeat constructor)) ?_)⟩
    · exfalso
      rw [wrap64 (by omega) (by omega)] at h0
      simp at h0
      omega
  · obtain ⟨r1, hr1, hA⟩ := keyT (by omega) (by omega)
    have hb1 := longTs_b (mn := 300) (md := 60) ks (d + 1) (c + 1) (by omega)
    rw [lgT_parts d c k n r ks cs hcut]
    generalize longTs 300 60 (d + 1) (c + 1) ks = q1 at hr1 hA hb1 ⊢
    obtain ⟨b1, c1⟩ := q1
    obtain ⟨hb1, _, hb2⟩ := hb1
    simp only at hr1 hA hb1 hb2 ⊢
    rw [← wrap64 (n := c + 1) (by omega) (by omega)] at hA
    have hC : b1 = false → ∃ r2 : Option Nat, r2.isSome = (longCs 300 60 (d + 1) c1 cs).1 ∧ _ := fun e => keyC (by omega) c1 ⟨by omega, hb2 e⟩
    refine yR ?_
    refine s_box SS 3 ?_
    refine s_box SS 4 ?_
    refine s_box SS 5 ?_
    refine yB ?_
    refine e_seqN [3, 4, 5] ?_
    refine yR ?_
    refine yL ?_
    refine yY ?_
    refine yF ?_
    refine yL ?_
    refine yI ?_
    refine yY ?_
    refine yF ?_
    refine yS ?_
    refine e_seq ?_
    refine yR ?_
    refine yL ?_
    refine yY ?_
    refine yF ?_
    refine yL ?_
    refine yI ?_
    refine yM ?_
    refine xL ?_
    refine xI ?_
    refine yO ?_
    refine e_seq ?_
    repeat refine Tri.seq ?_
    refine Tri.cond rfl (fun h0 => ?_) (fun h0 => ?_)
    · exfalso
      rw [wrap64 (by omega) (by omega)] at h0
      simp at h0
      omega
    · skip
      refine Tri.skip ?_
      refine yR ?_
      refine s_val (v_mkFnD SS) ?_
      refine s_alloc SS 7 ?_
      refine yS ?_
      refine e_seqN [7] ?_
      refine yR ?_
      refine yF ?_
      refine yK ?_
      refine yL ?_
      refine s_call (hr1 ▸ conTm_d (lo := 0) (.fn (.func 91) [] [.ptr 3 [] 139, .ptr 5 [] 3]) (by rw [tms_length]; omega) hA) ?_
      refine yM ?_
      refine xF ?_
      refine xL ?_
      refine s_gg zG (v_mkFnD SS) ?_
      refine s_callG zG (f := 27) (args := [.pu (.sl 0 34 (cssc 0 cs)), .fn (.func 92) [] [.ptr 3 [] 139, .ptr 5 [] 3, .ptr 7 [] 31]]) (HR := [(3, .var 139 (.ptr 90 [] 141)), (5, .var 3 (iv .i64 d)), (7, .var 31 (.fn (.func 91) [] [.ptr 3 [] 139, .ptr 5 [] 3]))]) (H := lgO c1) (H' := lgO (if b1 = true then c1 else (longCs 300 60 (d + 1) c1 cs).2)) (v := bv (longCs 300 60 (d + 1) c1 cs).1) (fun e => ?_) (fun e => ?_) ?_
      · have e' : b1 = false := by simpa using e
        obtain ⟨r2, hr2, hA2⟩ := hC e'
        have := conCs_d (lo := 0) (.fn (.func 92) [] [.ptr 3 [] 139, .ptr 5 [] 3, .ptr 7 [] 31]) (by rw [css_length]; omega) hA2
        rw [hr2] at this
        simpa [e'] using this
      · have e' : b1 = true := by simpa using e
        exact .cons rfl (by simp [e']) .nil
      refine yO ?_
      refine yA ?_
      refine e_seq ?_
      repeat refine Tri.seq ?_
      exact Tri.ret ⟨.inr rfl, ret1 rfl resV_tmp (VImp.refl _), by repeat (first | exact OutH.nil | refine OutH.cons rfl (by first | exact ObImp.refl _ | exact OWk.imp (by repeat constructor)) ?_)⟩

end Go.Proofs.YtkcgkignhpepkaaDoor

/- The walks of the counters. -/
namespace Go.Proofs.YtkcgkignhpepkaaDoor
open Go Hs
variable {G : List (Nat × TypeId × Pu)}


/-! ### step.great -/
abbrev grO (c : Int) : List (Nat × Ob) := [(91, .var 128 (.pu (.agg 128 [.leaf (.int .i64 c)])))]

theorem grP1_c (p : Pat) (d c : Int) (hd : 0 ≤ d ∧ d ≤ 200) (h : HCall Tryd.prog G 88 [.ptr 91 [] 128, .pu (patc 0 p), iv .i64 (d + 1)] [] (grO c) (bv (longP 3000 200 (d + 1) c p).1) (grO (longP 3000 200 (d + 1) c p).2) []) :
    HCall Tryd.prog G 97 [.pu (patc 0 p), .ptr 3 [] 126, .ptr 5 [] 3] [(3, .var 126 (.ptr 91 [] 128)), (5, .var 3 (iv .i64 d))] (grO c) (bv (longP 3000 200 (d + 1) c p).1) (grO (longP 3000 200 (d + 1) c p).2) [] := by
  refine HCall.of_triD tbl 10 [91, 3, 5] Tryd.func97 rfl rfl rfl fun w0 M ρ0 D0 => ?_
  refine yR ?_
  refine s_box SS 31 ?_
  refine yB ?_
  refine e_seqN [31] ?_
  refine yR ?_
  refine yL ?_
  refine yL ?_
  refine yL ?_
  refine yI ?_
  refine s_call (h) ?_
  refine yA ?_
  refine e_seq ?_
  repeat refine Tri.seq ?_
  exact Tri.ret ⟨.inr rfl, ret1 rfl resV_tmp (VImp.refl _), by repeat (first | exact OutH.nil | refine OutH.cons rfl (by first | exact ObImp.refl _ | exact OWk.imp (by repeat constructor)) ?_)⟩

theorem grP_c : ∀ (N : Nat) (p : Pat), psize p ≤ N → N < 2^40 → ∀ (d c : Int), 0 ≤ c ∧ c ≤ 3000 → 0 ≤ d ∧ d ≤ 200 + 1 →
    HCall Tryd.prog G 88 [.ptr 91 [] 128, .pu (patc 0 p), iv .i64 d] [] (grO c) (bv (longP 3000 200 d c p).1) (grO (longP 3000 200 d c p).2) [] := by
  intro N
  induction N with
  | zero => intro p h; cases p; simp [psize] at h
  | succ N ih =>
  intro p hp hN d c hc hd
  obtain ⟨k, n, r, ks⟩ := p
  simp only [psize] at hp
  have hlen := length_psizeL ks
  have key : 0 ≤ d ∧ d ≤ 200 → c + 1 ≤ 3000 → ∃ r, r.isSome = (longPs 3000 200 (d + 1) (c + 1) ks).1 ∧ AnyC Tryd.prog G 97 [] [.ptr 3 [] 126, .ptr 5 [] 3] [(3, .var 126 (.ptr 91 [] 128)), (5, .var 3 (iv .i64 d))] (patsc 0 ks) (grO (c + 1)) r (grO (longPs 3000 200 (d + 1) (c + 1) ks).2) := fun hd' hc' => by
    rw [longPs_eq, pats_eq]
    refine AnyC.state (patc 0) (longP 3000 200 (d + 1)) grO (fun c => 0 ≤ c ∧ c ≤ 3000) (fun _ => rfl) ks (fun a ha c hc => ?_) (c + 1) ⟨by omega, hc'⟩
    have hb := longP_b (mn := 3000) (md := 200) a (d + 1) c hc.2
    exact ⟨grP1_c a d c hd' (ih a (by have := psize_mem ha; omega) (by omega) (d + 1) c hc (by omega)), fun e => ⟨by have := hb.1; omega, hb.2.2 e⟩⟩
  refine HCall.of_triD tbl 29 [91] Tryd.func88 rfl rfl rfl fun w0 M ρ0 D0 => ?_
  by_cases hcut : 3000 < c + 1 ∨ 200 < d
  · have e : longP 3000 200 d c (.mk k n r ks) = (true, c + 1) := by simp only [longP, if_pos hcut]
    rw [e, ← wrap64 (n := c + 1) (by omega) (by omega)]
    have hb0 : (decide (IntKind.i64.wrap (c + 1) > 3000) || decide (d > 200)) = true := by rw [wrap64 (by omega) (by omega)]; simp; omega
    refine yR ?_
    refine s_box SS 3 ?_
    refine s_box SS 4 ?_
    refine s_box SS 5 ?_
    refine yB ?_
    refine e_seqN [3, 4, 5] ?_
    refine yR ?_
    refine yL ?_
    refine yY ?_
    refine yF ?_
    refine yL ?_
    refine yI ?_
    refine yY ?_
    refine yF ?_
    refine yS ?_
    refine e_seq ?_
    refine yR ?_
    refine yL ?_
    refine yY ?_
    refine yF ?_
    refine yL ?_
    refine yI ?_
    refine yM ?_
    refine xL ?_
    refine xI ?_
    refine yO ?_
    refine yM ?_
    refine xF ?_
    refine xL ?_
    refine s_gg zG (v_mkFnD SS) ?_
    refine s_callG zG (f := 24) (args := [.pu (.sl 0 26 (patsc 0 ks)), .fn (.func 97) [] [.ptr 3 [] 126, .ptr 5 [] 3]]) (HR := []) (H := []) (H' := []) (v := bv false) (fun e => by simp [hb0] at e) (fun _ => .nil) ?_
    refine yO ?_
    refine yA ?_
    refine e_seq ?_
    repeat refine Tri.seq ?_
    exact Tri.ret ⟨.inr rfl, ret1 rfl resV_tmp (bv_imp (by rw [hb0]; rfl)), by repeat (first | exact OutH.nil | refine OutH.cons rfl (by first | exact ObImp.refl _ | exact OWk.imp (by repeat constructor)) ?_)⟩
  · obtain ⟨r1, hr1, hA⟩ := key (by omega) (by omega)
    have e : longP 3000 200 d c (.mk k n r ks) = longPs 3000 200 (d + 1) (c + 1) ks := by simp only [longP, if_neg hcut]
    have hb0 : (decide (IntKind.i64.wrap (c + 1) > 3000) || decide (d > 200)) = false := by rw [wrap64 (by omega) (by omega)]; simp; omega
    rw [e]
    generalize longPs 3000 200 (d + 1) (c + 1) ks = q1 at hr1 hA ⊢
    obtain ⟨b1, c1⟩ := q1
    simp only at hr1 hA ⊢
    rw [← wrap64 (n := c + 1) (by omega) (by omega)] at hA
    refine yR ?_
    refine s_box SS 3 ?_
    refine s_box SS 4 ?_
    refine s_box SS 5 ?_
    refine yB ?_
    refine e_seqN [3, 4, 5] ?_
    refine yR ?_
    refine yL ?_
    refine yY ?_
    refine yF ?_
    refine yL ?_
    refine yI ?_
    refine yY ?_
    refine yF ?_
    refine yS ?_
    refine e_seq ?_
    refine yR ?_
    refine yL ?_
    refine yY ?_
    refine yF ?_
    refine yL ?_
    refine yI ?_
    refine yM ?_
    refine xL ?_
    refine xI ?_
    refine yO ?_
    refine yM ?_
    refine xF ?_
    refine xL ?_
    refine s_gg zG (v_mkFnD SS) ?_
    refine s_callG zG (f := 24) (args := [.pu (.sl 0 26 (patsc 0 ks)), .fn (.func 97) [] [.ptr 3 [] 126, .ptr 5 [] 3]]) (HR := [(3, .var 126 (.ptr 91 [] 128)), (5, .var 3 (iv .i64 d))]) (H := grO (IntKind.i64.wrap (c + 1))) (H' := grO c1) (v := bv b1) (fun _ => hr1 ▸ conPat_d (lo := 0) (.fn (.func 97) [] [.ptr 3 [] 126, .ptr 5 [] 3]) (by rw [pats_length]; omega) hA) (fun e => by simp [hb0] at e) ?_
    refine yO ?_
    refine yA ?_
    refine e_seq ?_
    repeat refine Tri.seq ?_
    exact Tri.ret ⟨.inr rfl, ret1 rfl resV_tmp (bv_imp (by rw [hb0]; rfl)), by repeat (first | exact OutH.nil | refine OutH.cons rfl (by first | exact ObImp.refl _ | exact OWk.imp (by repeat constructor)) ?_)⟩

theorem grT1_c (t : Tm) (d c : Int) (hd : 0 ≤ d ∧ d ≤ 200) (h : HCall Tryd.prog G 65 [.ptr 91 [] 128, .pu (tmc 0 t), iv .i64 (d + 1)] [] (grO c) (bv (longT 3000 200 (d + 1) c t).1) (grO (longT 3000 200 (d + 1) c t).2) []) :
    HCall Tryd.prog G 86 [.pu (tmc 0 t), .ptr 3 [] 126, .ptr 5 [] 3] [(3, .var 126 (.ptr 91 [] 128)), (5, .var 3 (iv .i64 d))] (grO c) (bv (longT 3000 200 (d + 1) c t).1) (grO (longT 3000 200 (d + 1) c t).2) [] := by
  refine HCall.of_triD tbl 10 [91, 3, 5] Tryd.func86 rfl rfl rfl fun w0 M ρ0 D0 => ?_
  refine yR ?_
  refine s_box SS 31 ?_
  refine yB ?_
  refine e_seqN [31] ?_
  refine yR ?_
  refine yL ?_
  refine yL ?_
  refine yL ?_
  refine yI ?_
  refine s_call (h) ?_
  refine yA ?_
  refine e_seq ?_
  repeat refine Tri.seq ?_
  exact Tri.ret ⟨.inr rfl, ret1 rfl resV_tmp (VImp.refl _), by repeat (first | exact OutH.nil | refine OutH.cons rfl (by first | exact ObImp.refl _ | exact OWk.imp (by repeat constructor)) ?_)⟩

theorem grC_parts (mn md d c : Int) (p : Pat) (t : Tm) : longC mn md d c (.mk p t) = ((longP mn md d c p).1 || (longT mn md d (longP mn md d c p).2 t).1, if (longP mn md d c p).1 then (longP mn md d c p).2 else (longT mn md d (longP mn md d c p).2 t).2) := by
  simp only [longC]
  rcases longP mn md d c p with ⟨b, c'⟩
  cases b <;> simp

theorem grT2_c (p : Pat) (t : Tm) (d c : Int) (hd : 0 ≤ d ∧ d ≤ 200) (h : HCall Tryd.prog G 88 [.ptr 91 [] 128, .pu (patc 0 p), iv .i64 (d + 1)] [] (grO c) (bv (longP 3000 200 (d + 1) c p).1) (grO (longP 3000 200 (d + 1) c p).2) [])
    (h2 : (longP 3000 200 (d + 1) c p).1 = false → HCall Tryd.prog G 65 [.ptr 91 [] 128, .pu (tmc 0 t), iv .i64 (d + 1)] [] (grO (longP 3000 200 (d + 1) c p).2) (bv (longT 3000 200 (d + 1) (longP 3000 200 (d + 1) c p).2 t).1) (grO (longT 3000 200 (d + 1) (longP 3000 200 (d + 1) c p).2 t).2) []) :
    HCall Tryd.prog G 87 [.pu (csec 0 (.mk p t)), .ptr 3 [] 126, .ptr 5 [] 3, .ptr 7 [] 31] [(3, .var 126 (.ptr 91 [] 128)), (5, .var 3 (iv .i64 d)), (7, .var 31 (.fn (.func 86) [] [.ptr 3 [] 126, .ptr 5 [] 3]))] (grO c) (bv (longC 3000 200 (d + 1) c (.mk p t)).1) (grO (longC 3000 200 (d + 1) c (.mk p t)).2) [] := by
  have h2' := fun e => (grT1_c t d _ hd (h2 e)).more (HR' := [(3, .var 126 (.ptr 91 [] 128)), (5, .var 3 (iv .i64 d)), (7, .var 31 (.fn (.func 86) [] [.ptr 3 [] 126, .ptr 5 [] 3]))]) (fun l ob hl => (SubH.cons rfl rfl (.cons rfl rfl .nil) : SubH [(3, .var 126 (.ptr 91 [] 128)), (5, .var 3 (iv .i64 d)), (7, .var 31 (.fn (.func 86) [] [.ptr 3 [] 126, .ptr 5 [] 3]))] [(3, .var 126 (.ptr 91 [] 128)), (5, .var 3 (iv .i64 d))]).le l ob hl) rfl
  rw [grC_parts]
  generalize hb1 : longP 3000 200 (d + 1) c p = r1 at h2' ⊢
  obtain ⟨b1, c1⟩ := r1
  simp only at h2' ⊢
  refine HCall.of_triD tbl 18 [91, 3, 5, 7] Tryd.func87 rfl rfl rfl fun w0 M ρ0 D0 => ?_
  rw [hb1] at h
  refine yR ?_
  refine s_box SS 41 ?_
  refine yB ?_
  refine e_seqN [41] ?_
  refine yR ?_
  refine yL ?_
  refine yF ?_
  refine yL ?_
  refine yL ?_
  refine yI ?_
  refine s_call (h) ?_
  refine yM ?_
  refine xL ?_
  refine xF ?_
  refine xL ?_
  refine s_callG zG (f := 86) (args := [.pu (tmc 0 t), .ptr 3 [] 126, .ptr 5 [] 3]) (HR := [(3, .var 126 (.ptr 91 [] 128)), (5, .var 3 (iv .i64 d)), (7, .var 31 (.fn (.func 86) [] [.ptr 3 [] 126, .ptr 5 [] 3]))]) (H := grO c1) (H' := grO (if b1 = true then c1 else (longT 3000 200 (d + 1) c1 t).2)) (v := bv (longT 3000 200 (d + 1) c1 t).1) (fun e => ?_) (fun e => ?_) ?_
  · have e' : b1 = false := by simpa using e
    have := h2' e'
    simpa [e'] using this
  · have e' : b1 = true := by simpa using e
    exact .cons rfl (by simp [e']) .nil
  refine yO ?_
  refine yA ?_
  refine e_seq ?_
  repeat refine Tri.seq ?_
  exact Tri.ret ⟨.inr rfl, ret1 rfl resV_tmp (VImp.refl _), by repeat (first | exact OutH.nil | refine OutH.cons rfl (by first | exact ObImp.refl _ | exact OWk.imp (by repeat constructor)) ?_)⟩

theorem grT_parts (d c k n : Int) (r : List Int) (ks : List Tm) (cs : List Cs) (h : ¬ (3000 < c + 1 ∨ 200 < d)) : longT 3000 200 d c (.mk k n r ks cs) = ((longTs 3000 200 (d + 1) (c + 1) ks).1 || (longCs 3000 200 (d + 1) (longTs 3000 200 (d + 1) (c + 1) ks).2 cs).1, if (longTs 3000 200 (d + 1) (c + 1) ks).1 then (longTs 3000 200 (d + 1) (c + 1) ks).2 else (longCs 3000 200 (d + 1) (longTs 3000 200 (d + 1) (c + 1) ks).2 cs).2) := by
  simp only [longT, if_neg h]
  rcases longTs 3000 200 (d + 1) (c + 1) ks with ⟨b, c'⟩
  cases b <;> simp

theorem grT_c : ∀ (N : Nat) (t : Tm), tsize t ≤ N → N < 2^40 → ∀ (d c : Int), 0 ≤ c ∧ c ≤ 3000 → 0 ≤ d ∧ d ≤ 200 + 1 →
    HCall Tryd.prog G 65 [.ptr 91 [] 128, .pu (tmc 0 t), iv .i64 d] [] (grO c) (bv (longT 3000 200 d c t).1) (grO (longT 3000 200 d c t).2) [] := by
  intro N
  induction N with
  | zero => intro t h; have := tsize_pos t; omega
  | succ N ih =>
  intro t hp hN d c hc hd
  obtain ⟨k, n, r, ks, cs⟩ := t
  simp only [tsize] at hp
  have hlen := length_tsizeL ks
  have hlenc := length_csizeL cs
  have keyT : 0 ≤ d ∧ d ≤ 200 → c + 1 ≤ 3000 → ∃ r, r.isSome = (longTs 3000 200 (d + 1) (c + 1) ks).1 ∧ AnyC Tryd.prog G 86 [] [.ptr 3 [] 126, .ptr 5 [] 3] [(3, .var 126 (.ptr 91 [] 128)), (5, .var 3 (iv .i64 d))] (tmsc 0 ks) (grO (c + 1)) r (grO (longTs 3000 200 (d + 1) (c + 1) ks).2) := fun hd' hc' => by
    rw [longTs_eq, tms_eq]
    refine AnyC.state (tmc 0) (longT 3000 200 (d + 1)) grO (fun c => 0 ≤ c ∧ c ≤ 3000) (fun _ => rfl) ks (fun a ha c hc => ?_) (c + 1) ⟨by omega, hc'⟩
    have hb := longT_b (mn := 3000) (md := 200) a (d + 1) c hc.2
    exact ⟨grT1_c a d c hd' (ih a (by have := tsize_mem ha; omega) (by omega) (d + 1) c hc (by omega)), fun e => ⟨by have := hb.1; omega, hb.2.2 e⟩⟩
  have keyC : 0 ≤ d ∧ d ≤ 200 → ∀ c1, 0 ≤ c1 ∧ c1 ≤ 3000 → ∃ r, r.isSome = (longCs 3000 200 (d + 1) c1 cs).1 ∧ AnyC Tryd.prog G 87 [] [.ptr 3 [] 126, .ptr 5 [] 3, .ptr 7 [] 31] [(3, .var 126 (.ptr 91 [] 128)), (5, .var 3 (iv .i64 d)), (7, .var 31 (.fn (.func 86) [] [.ptr 3 [] 126, .ptr 5 [] 3]))] (cssc 0 cs) (grO c1) r (grO (longCs 3000 200 (d + 1) c1 cs).2) := fun hd' c1 hc1 => by
    rw [longCs_eq, css_eq]
    refine AnyC.state (csec 0) (longC 3000 200 (d + 1)) grO (fun c => 0 ≤ c ∧ c ≤ 3000) (fun _ => rfl) cs (fun a ha c hc => ?_) c1 hc1
    have hb := longC_b (mn := 3000) (md := 200) a (d + 1) c hc.2
    have hsz := csize_mem ha
    obtain ⟨q, b⟩ := a
    simp only [csize] at hsz
    have hp1 := longP_b (mn := 3000) (md := 200) q (d + 1) c hc.2
    have htp := tsize_pos b
    exact ⟨grT2_c q b d c hd' (grP_c _ q (Nat.le_refl _) (by omega) (d + 1) c hc (by omega)) (fun e => ih b (by omega) (by omega) (d + 1) _ ⟨by have := hp1.1; omega, hp1.2.2 e⟩ (by omega)), fun e => ⟨by have := hb.1; omega, hb.2.2 e⟩⟩
  refine HCall.of_triD tbl 37 [91] Tryd.func65 rfl rfl rfl fun w0 M ρ0 D0 => ?_
  by_cases hcut : 3000 < c + 1 ∨ 200 < d
  · have e : longT 3000 200 d c (.mk k n r ks cs) = (true, c + 1) := by simp only [longT, if_pos hcut]
    rw [e, ← wrap64 (n := c + 1) (by omega) (by omega)]
    have hb0 : (decide (IntKind.i64.wrap (c + 1) > 3000) || decide (d > 200)) = true := by rw [wrap64 (by omega) (by omega)]; simp; omega
    refine yR ?_
    refine s_box SS 3 ?_
    refine s_box SS 4 ?_
    refine s_box SS 5 ?_
    refine yB ?_
    refine e_seqN [3, 4, 5] ?_
    refine yR ?_
    refine yL ?_
    refine yY ?_
    refine yF ?_
    refine yL ?_
    refine yI ?_
    refine yY ?_
    refine yF ?_
    refine yS ?_
    refine e_seq ?_
    refine yR ?_
    refine s_val (v_mkFnD SS) ?_
    refine s_alloc SS 7 ?_
    refine yS ?_
    refine e_seqN [7] ?_
    refine yR ?_
    refine yL ?_
    refine yY ?_
    refine yF ?_
    refine yL ?_
    refine yI ?_
    refine yM ?_
    refine xL ?_
    refine xI ?_
    refine yO ?_
    refine yM ?_
    refine xF ?_
    refine xL ?_
    refine xL ?_
    refine s_callG zG (f := 26) (args := [.pu (.sl 0 30 (tmsc 0 ks)), .fn (.func 86) [] [.ptr 3 [] 126, .ptr 5 [] 3]]) (HR := []) (H := []) (H' := []) (v := bv false) (fun e => by simp [hb0] at e) (fun _ => .nil) ?_
    refine yO ?_
    refine yM ?_
    refine xF ?_
    refine xL ?_
    refine s_gg zG (v_mkFnD SS) ?_
    refine s_callG zG (f := 27) (args := [.pu (.sl 0 34 (cssc 0 cs)), .fn (.func 87) [] [.ptr 3 [] 126, .ptr 5 [] 3, .ptr 7 [] 31]]) (HR := []) (H := []) (H' := []) (v := bv false) (fun e => by simp [hb0] at e) (fun _ => .nil) ?_
    refine yO ?_
    refine yA ?_
    refine e_seq ?_
    repeat refine Tri.seq ?_
    exact Tri.ret ⟨.inr rfl, ret1 rfl resV_tmp (bv_imp (by rw [hb0]; rfl)), by repeat (first | exact OutH.nil | refine OutH.cons rfl (by first | exact ObImp.refl _ | exact OWk.imp (by repeat constructor)) ?_)⟩
  · obtain ⟨r1, hr1, hA⟩ := keyT (by omega) (by omega)
    have hb1 := longTs_b (mn := 3000) (md := 200) ks (d + 1) (c + 1) (by omega)
    have hb0 : (decide (IntKind.i64.wrap (c + 1) > 3000) || decide (d > 200)) = false := by rw [wrap64 (by omega) (by omega)]; simp; omega
    rw [grT_parts d c k n r ks cs hcut]
    generalize longTs 3000 200 (d + 1) (c + 1) ks = q1 at hr1 hA hb1 ⊢
    obtain ⟨b1, c1⟩ := q1
    obtain ⟨hb1, _, hb2⟩ := hb1
    simp only at hr1 hA hb1 hb2 ⊢
    rw [← wrap64 (n := c + 1) (by omega) (by omega)] at hA
    have hC : b1 = false → ∃ r2 : Option Nat, r2.isSome = (longCs 3000 200 (d + 1) c1 cs).1 ∧ _ := fun e => keyC (by omega) c1 ⟨by omega, hb2 e⟩
    refine yR ?_
    refine s_box SS 3 ?_
    refine s_box SS 4 ?_
    refine s_box SS 5 ?_
    refine yB ?_
    refine e_seqN [3, 4, 5] ?_
    refine yR ?_
    refine yL ?_
    refine yY ?_
    refine yF ?_
    refine yL ?_
    refine yI ?_
    refine yY ?_
    refine yF ?_
    refine yS ?_
    refine e_seq ?_
    refine yR ?_
    refine s_val (v_mkFnD SS) ?_
    refine s_alloc SS 7 ?_
    refine yS ?_
    refine e_seqN [7] ?_
    refine yR ?_
    refine yL ?_
    refine yY ?_
    refine yF ?_
    refine yL ?_
    refine yI ?_
    refine yM ?_
    refine xL ?_
    refine xI ?_
    refine yO ?_
    refine yM ?_
    refine xF ?_
    refine xL ?_
    refine xL ?_
    refine s_callG zG (f := 26) (args := [.pu (.sl 0 30 (tmsc 0 ks)), .fn (.func 86) [] [.ptr 3 [] 126, .ptr 5 [] 3]]) (HR := [(3, .var 126 (.ptr 91 [] 128)), (5, .var 3 (iv .i64 d))]) (H := grO (IntKind.i64.wrap (c + 1))) (H' := grO c1) (v := bv b1) (fun _ => hr1 ▸ conTm_d (lo := 0) (.fn (.func 86) [] [.ptr 3 [] 126, .ptr 5 [] 3]) (by rw [tms_length]; omega) hA) (fun e => by simp [hb0] at e) ?_
    refine yO ?_
    refine yM ?_
    refine xF ?_
    refine xL ?_
    refine s_gg zG (v_mkFnD SS) ?_
    refine s_callG zG (f := 27) (args := [.pu (.sl 0 34 (cssc 0 cs)), .fn (.func 87) [] [.ptr 3 [] 126, .ptr 5 [] 3, .ptr 7 [] 31]]) (HR := [(3, .var 126 (.ptr 91 [] 128)), (5, .var 3 (iv .i64 d)), (7, .var 31 (.fn (.func 86) [] [.ptr 3 [] 126, .ptr 5 [] 3]))]) (H := grO c1) (H' := grO (if b1 = true then c1 else (longCs 3000 200 (d + 1) c1 cs).2)) (v := bv (longCs 3000 200 (d + 1) c1 cs).1) (fun e => ?_) (fun e => ?_) ?_
    · have e' : b1 = false := by rw [hb0] at e; simpa using e
      obtain ⟨r2, hr2, hA2⟩ := hC e'
      have := conCs_d (lo := 0) (.fn (.func 87) [] [.ptr 3 [] 126, .ptr 5 [] 3, .ptr 7 [] 31]) (by rw [css_length]; omega) hA2
      rw [hr2] at this
      simpa [e'] using this
    · have e' : b1 = true := by rw [hb0] at e; simpa using e
      exact .cons rfl (by simp [e']) .nil
    refine yO ?_
    refine yA ?_
    refine e_seq ?_
    repeat refine Tri.seq ?_
    exact Tri.ret ⟨.inr rfl, ret1 rfl resV_tmp (bv_imp (by rw [hb0]; rfl)), by repeat (first | exact OutH.nil | refine OutH.cons rfl (by first | exact ObImp.refl _ | exact OWk.imp (by repeat constructor)) ?_)⟩

end Go.Proofs.YtkcgkignhpepkaaDoor

/- Small functions of the checker of terms. -/
namespace Go.Proofs.YtkcgkignhpepkaaDoor
open Go Hs
variable {G : List (Nat × TypeId × Pu)}

def offM (n lo hi : Int) : Bool := decide (n < lo) || decide (n > hi)
theorem off_c (n lo hi : Int) : FCall Tryd.prog G 100 [iv .i64 n, iv .i64 lo, iv .i64 hi] (bv (offM n lo hi)) := by
  refine FCall.of_tri tbl 15 Tryd.func100 rfl rfl rfl fun w0 M ρ0 D0 => ?_
  refine yR ?_
  refine yB ?_
  refine e_seq ?_
  refine yR ?_
  refine yM ?_
  refine yM ?_
  refine yI ?_
  refine yM ?_
  refine xM ?_
  refine xM ?_
  refine xI ?_
  refine yO ?_
  refine yA ?_
  refine e_seq ?_
  repeat refine Tri.seq ?_
  exact Tri.ret ⟨.inr rfl, ret1 rfl resV_tmp (VImp.refl _)⟩

def hasNumM (k : Int) : Bool := k == 1 || k == 2 || k == 7 || k == 10 || k == 8 || k == 11
def hasRefM (k : Int) : Bool := k == 8 || k == 11 || k == 6 || k == 12
def hasCasesM (k : Int) : Bool := k == 9
def flP (a b c : Bool) : Pu := .agg 160 [.leaf (.bool a), .leaf (.bool b), .leaf (.bool c)]
theorem flP_eq {a b c a' b' c' : Bool} {P : Program} (h1 : a = a') (h2 : b = b') (h3 : c = c') : VImp P (.pu (flP a b c)) (.pu (flP a' b' c')) := by rw [h1, h2, h3]; exact VImp.refl _
instance (a b c : Bool) : TyV Tryd.prog 160 (.pu (flP a b c)) := inferInstanceAs (TyV Tryd.prog 160 (.pu (.agg _ _)))

theorem fields_c (k : Int) : FCall Tryd.prog G 102 [iv .i64 k] (.pu (flP (hasNumM k) (hasRefM k) (hasCasesM k))) := by
  refine FCall.of_tri tbl 24 Tryd.func102 rfl rfl rfl fun w0 M ρ0 D0 => ?_
  refine yR ?_
  refine s_alloc SS 2 ?_
  refine e_seqN [2] ?_
  refine yR ?_
  refine s_alloc SS 3 ?_
  refine e_seqN [3] ?_
  refine yR ?_
  refine yM ?_
  refine e_seq ?_
  repeat refine Tri.seq ?_
  refine Tri.block ?_
  refine yR ?_
  refine yI ?_
  refine yA ?_
  refine e_seq ?_
  repeat refine Tri.seq ?_
  refine Tri.cutT ⟨[(2, .ptr 2 [] 160), (3, .ptr 3 [] 160), (4, iv .i64 k), (5, bv (k == 1 || k == 2 || k == 7 || k == 10))], [(2, .var 160 (.pu (flP false false false))), (3, .var 160 (.pu (flP false false false)))]⟩ ?_ ?_
  · skip
    repeat refine Tri.seq ?_
    refine Tri.cond rfl (fun h0 => ?_) (fun h0 => ?_)
    · skip
      refine Tri.skip ?_
      refine le_of ?_ ?_
      · repeat (first | exact SubE.nil | refine SubE.cons rfl (by first | rfl | (rw [wrap64 (by omega) (by omega)]; rfl) | (simp only [*, Bool.true_or, Bool.or_true, Bool.false_or])) ?_)
      · repeat (first | exact SubH.nil | refine SubH.cons rfl (by first | rfl | (rw [wrap64 (by omega) (by omega)]; rfl) | (simp only [*, Bool.true_or, Bool.or_true, Bool.false_or])) ?_)
    · skip
      refine yR ?_
      refine yI ?_
      refine yA ?_
      refine e_seq ?_
      repeat refine Tri.seq ?_
      refine Tri.cond rfl (fun h1 => ?_) (fun h1 => ?_)
      · skip
        refine Tri.skip ?_
        refine le_of ?_ ?_
        · repeat (first | exact SubE.nil | refine SubE.cons rfl (by first | rfl | (rw [wrap64 (by omega) (by omega)]; rfl) | (simp only [*, Bool.true_or, Bool.or_true, Bool.false_or])) ?_)
        · repeat (first | exact SubH.nil | refine SubH.cons rfl (by first | rfl | (rw [wrap64 (by omega) (by omega)]; rfl) | (simp only [*, Bool.true_or, Bool.or_true, Bool.false_or])) ?_)
      · skip
        refine yR ?_
        refine yI ?_
        refine yA ?_
        refine e_seq ?_
        repeat refine Tri.seq ?_
        refine Tri.cond rfl (fun h2 => ?_) (fun h2 => ?_)
        · skip
          refine Tri.skip ?_
          refine le_of ?_ ?_
          · repeat (first | exact SubE.nil | refine SubE.cons rfl (by first | rfl | (rw [wrap64 (by omega) (by omega)]; rfl) | (simp only [*, Bool.true_or, Bool.or_true, Bool.false_or])) ?_)
          · repeat (first | exact SubH.nil | refine SubH.cons rfl (by first | rfl | (rw [wrap64 (by omega) (by omega)]; rfl) | (simp only [*, Bool.true_or, Bool.or_true, Bool.false_or])) ?_)
        · skip
          refine yR ?_
          refine yI ?_
          refine yA ?_
          refine e_seq ?_
          refine le_of ?_ ?_
          · repeat (first | exact SubE.nil | refine SubE.cons rfl (by first | rfl | (rw [wrap64 (by omega) (by omega)]; rfl) | (simp only [*, Bool.true_or, Bool.or_true, Bool.false_or])) ?_)
          · repeat (first | exact SubH.nil | refine SubH.cons rfl (by first | rfl | (rw [wrap64 (by omega) (by omega)]; rfl) | (simp only [*, Bool.true_or, Bool.or_true, Bool.false_or])) ?_)
  · skip
    repeat refine Tri.seq ?_
    refine Tri.cond rfl (fun h3 => ?_) (fun h3 => ?_)
    · skip
      refine yR ?_
      refine s_val (v_ixo SS) ?_
      refine yS ?_
      refine e_seq ?_
      refine yR ?_
      refine yL ?_
      refine yS ?_
      refine e_seq ?_
      repeat refine Tri.seq ?_
      exact Tri.ret ⟨.inr rfl, ret1 rfl resV_cell (flP_eq (by simp_all [hasNumM]; try omega) (by simp_all [hasRefM]; try omega) (by simp_all [hasCasesM]; try omega))⟩
    · skip
      refine yR ?_
      refine yI ?_
      refine yA ?_
      refine e_seq ?_
      repeat refine Tri.seq ?_
      refine Tri.cutT ⟨[(2, .ptr 2 [] 160), (3, .ptr 3 [] 160), (4, iv .i64 k), (11, bv (k == 8 || k == 11))], [(2, .var 160 (.pu (flP false false false))), (3, .var 160 (.pu (flP false false false)))]⟩ ?_ ?_
      · skip
        repeat refine Tri.seq ?_
        refine Tri.cond rfl (fun h4 => ?_) (fun h4 => ?_)
        · skip
          refine Tri.skip ?_
          refine le_of ?_ ?_
          · repeat (first | exact SubE.nil | refine SubE.cons rfl (by first | rfl | (rw [wrap64 (by omega) (by omega)]; rfl) | (simp only [*, Bool.true_or, Bool.or_true, Bool.false_or])) ?_)
          · repeat (first | exact SubH.nil | refine SubH.cons rfl (by first | rfl | (rw [wrap64 (by omega) (by omega)]; rfl) | (simp only [*, Bool.true_or, Bool.or_true, Bool.false_or])) ?_)
        · skip
          refine yR ?_
          refine yI ?_
          refine yA ?_
          refine e_seq ?_
          refine le_of ?_ ?_
          · repeat (first | exact SubE.nil | refine SubE.cons rfl (by first | rfl | (rw [wrap64 (by omega) (by omega)]; rfl) | (simp only [*, Bool.true_or, Bool.or_true, Bool.false_or])) ?_)
          · repeat (first | exact SubH.nil | refine SubH.cons rfl (by first | rfl | (rw [wrap64 (by omega) (by omega)]; rfl) | (simp only [*, Bool.true_or, Bool.or_true, Bool.false_or])) ?_)
      · skip
        repeat refine Tri.seq ?_
        refine Tri.cond rfl (fun h5 => ?_) (fun h5 => ?_)
        · skip
          refine yR ?_
          refine s_val (v_ixo SS) ?_
          refine yS ?_
          refine s_val (v_ixo SS) ?_
          refine yS ?_
          refine e_seq ?_
          refine yR ?_
          refine yL ?_
          refine yS ?_
          refine e_seq ?_
          repeat refine Tri.seq ?_
          exact Tri.ret ⟨.inr rfl, ret1 rfl resV_cell (flP_eq (by simp_all [hasNumM]; try omega) (by simp_all [hasRefM]; try omega) (by simp_all [hasCasesM]; try omega))⟩
        · skip
          refine yR ?_
          refine yI ?_
          refine yA ?_
          refine e_seq ?_
          repeat refine Tri.seq ?_
          refine Tri.cutT ⟨[(2, .ptr 2 [] 160), (3, .ptr 3 [] 160), (4, iv .i64 k), (16, bv (k == 6 || k == 12))], [(2, .var 160 (.pu (flP false false false))), (3, .var 160 (.pu (flP false false false)))]⟩ ?_ ?_
          · skip
            repeat refine Tri.seq ?_
            refine Tri.cond rfl (fun h6 => ?_) (fun h6 => ?_)
            · skip
              refine Tri.skip ?_
              refine le_of ?_ ?_
              · repeat (first | exact SubE.nil | refine SubE.cons rfl (by first | rfl | (rw [wrap64 (by omega) (by omega)]; rfl) | (simp only [*, Bool.true_or, Bool.or_true, Bool.false_or])) ?_)
              · repeat (first | exact SubH.nil | refine SubH.cons rfl (by first | rfl | (rw [wrap64 (by omega) (by omega)]; rfl) | (simp only [*, Bool.true_or, Bool.or_true, Bool.false_or])) ?_)
            · skip
              refine yR ?_
              refine yI ?_
              refine yA ?_
              refine e_seq ?_
              refine le_of ?_ ?_
              · repeat (first | exact SubE.nil | refine SubE.cons rfl (by first | rfl | (rw [wrap64 (by omega) (by omega)]; rfl) | (simp only [*, Bool.true_or, Bool.or_true, Bool.false_or])) ?_)
              · repeat (first | exact SubH.nil | refine SubH.cons rfl (by first | rfl | (rw [wrap64 (by omega) (by omega)]; rfl) | (simp only [*, Bool.true_or, Bool.or_true, Bool.false_or])) ?_)
          · skip
            repeat refine Tri.seq ?_
            refine Tri.cond rfl (fun h7 => ?_) (fun h7 => ?_)
            · skip
              refine yR ?_
              refine s_val (v_ixo SS) ?_
              refine yS ?_
              refine e_seq ?_
              refine yR ?_
              refine yL ?_
              refine yS ?_
              refine e_seq ?_
              repeat refine Tri.seq ?_
              exact Tri.ret ⟨.inr rfl, ret1 rfl resV_cell (flP_eq (by simp_all [hasNumM]; try omega) (by simp_all [hasRefM]; try omega) (by simp_all [hasCasesM]; try omega))⟩
            · skip
              refine yR ?_
              refine yI ?_
              refine yA ?_
              refine e_seq ?_
              repeat refine Tri.seq ?_
              refine Tri.cond rfl (fun h8 => ?_) (fun h8 => ?_)
              · skip
                refine yR ?_
                refine s_val (v_ixo SS) ?_
                refine yS ?_
                refine e_seq ?_
                refine yR ?_
                refine yL ?_
                refine yS ?_
                refine e_seq ?_
                repeat refine Tri.seq ?_
                exact Tri.ret ⟨.inr rfl, ret1 rfl resV_cell (flP_eq (by simp_all [hasNumM]; try omega) (by simp_all [hasRefM]; try omega) (by simp_all [hasCasesM]; try omega))⟩
              · skip
                refine Tri.skip ?_
                refine yR ?_
                refine yL ?_
                refine yS ?_
                refine e_seq ?_
                repeat refine Tri.seq ?_
                exact Tri.ret ⟨.inr rfl, ret1 rfl resV_cell (flP_eq (by simp_all [hasNumM]; try omega) (by simp_all [hasRefM]; try omega) (by simp_all [hasCasesM]; try omega))⟩
end Go.Proofs.YtkcgkignhpepkaaDoor

/- The checker of terms, but for what is in them. -/
namespace Go.Proofs.YtkcgkignhpepkaaDoor
open Go Hs
variable {G : List (Nat × TypeId × Pu)}

theorem patternFields_c (k : Int) : FCall Tryd.prog G 108 [iv .i64 k] (.pu (flP (k == 2 || k == 3) (k == 3) false)) := by
  refine FCall.of_tri tbl 11 Tryd.func108 rfl rfl rfl fun w0 M ρ0 D0 => ?_
  refine yR ?_
  refine s_alloc SS 2 ?_
  refine e_seqN [2] ?_
  refine yR ?_
  refine yM ?_
  refine e_seq ?_
  repeat refine Tri.seq ?_
  refine Tri.block ?_
  refine yR ?_
  refine yI ?_
  refine yA ?_
  refine e_seq ?_
  repeat refine Tri.seq ?_
  refine Tri.cond rfl (fun h0 => ?_) (fun h0 => ?_)
  · skip
    refine yR ?_
    refine yP ?_
    refine yS ?_
    refine e_seq ?_
    repeat refine Tri.seq ?_
    exact Tri.ret ⟨.inr rfl, ret1 rfl resV_cell (flP_eq (by simp_all) (by simp_all) rfl)⟩
  · skip
    refine yR ?_
    refine yI ?_
    refine yA ?_
    refine e_seq ?_
    repeat refine Tri.seq ?_
    refine Tri.cond rfl (fun h1 => ?_) (fun h1 => ?_)
    · skip
      refine yR ?_
      refine yP ?_
      refine yS ?_
      refine e_seq ?_
      repeat refine Tri.seq ?_
      exact Tri.ret ⟨.inr rfl, ret1 rfl resV_cell (flP_eq (by simp_all) (by simp_all) rfl)⟩
    · skip
      refine Tri.skip ?_
      refine yR ?_
      refine yT ?_
      refine yS ?_
      refine e_seq ?_
      repeat refine Tri.seq ?_
      exact Tri.ret ⟨.inr rfl, ret1 rfl resV_cell (flP_eq (by simp_all) (by simp_all) rfl)⟩

def kidsM (k n : Int) : Bool := if k == 3 || k == 9 || k == 11 then n == 1 else if k == 4 || k == 5 || k == 10 then n == 2 else if k == 8 then decide (n ≤ 4) else if k == 12 then !offM n 2 10 else n == 0
theorem kids_c (k n : Int) : FCall Tryd.prog G 103 [iv .i64 k, iv .i64 n] (bv (kidsM k n)) := by
  refine FCall.of_tri tbl 29 Tryd.func103 rfl rfl rfl fun w0 M ρ0 D0 => ?_
  refine yR ?_
  refine yB ?_
  refine e_seq ?_
  refine yR ?_
  refine yM ?_
  refine e_seq ?_
  repeat refine Tri.seq ?_
  refine Tri.block ?_
  refine yR ?_
  refine yI ?_
  refine yA ?_
  refine e_seq ?_
  repeat refine Tri.seq ?_
  refine Tri.cutT ⟨[(1, iv .i64 n), (5, iv .i64 k), (6, bv (k == 3 || k == 9 || k == 11))], []⟩ ?_ ?_
  · skip
    repeat refine Tri.seq ?_
    refine Tri.cond rfl (fun h0 => ?_) (fun h0 => ?_)
    · skip
      refine Tri.skip ?_
      refine le_of ?_ ?_
      · repeat (first | exact SubE.nil | refine SubE.cons rfl (by first | rfl | (rw [wrap64 (by omega) (by omega)]; rfl) | (simp only [*, Bool.true_or, Bool.or_true, Bool.false_or])) ?_)
      · repeat (first | exact SubH.nil | refine SubH.cons rfl (by first | rfl | (rw [wrap64 (by omega) (by omega)]; rfl) | (simp only [*, Bool.true_or, Bool.or_true, Bool.false_or])) ?_)
    · skip
      refine yR ?_
      refine yI ?_
      refine yA ?_
      refine e_seq ?_
      repeat refine Tri.seq ?_
      refine Tri.cond rfl (fun h1 => ?_) (fun h1 => ?_)
      · skip
        refine Tri.skip ?_
        refine le_of ?_ ?_
        · repeat (first | exact SubE.nil | refine SubE.cons rfl (by first | rfl | (rw [wrap64 (by omega) (by omega)]; rfl) | (simp only [*, Bool.true_or, Bool.or_true, Bool.false_or])) ?_)
        · repeat (first | exact SubH.nil | refine SubH.cons rfl (by first | rfl | (rw [wrap64 (by omega) (by omega)]; rfl) | (simp only [*, Bool.true_or, Bool.or_true, Bool.false_or])) ?_)
      · skip
        refine yR ?_
        refine yI ?_
        refine yA ?_
        refine e_seq ?_
        refine le_of ?_ ?_
        · repeat (first | exact SubE.nil | refine SubE.cons rfl (by first | rfl | (rw [wrap64 (by omega) (by omega)]; rfl) | (simp only [*, Bool.true_or, Bool.or_true, Bool.false_or])) ?_)
        · repeat (first | exact SubH.nil | refine SubH.cons rfl (by first | rfl | (rw [wrap64 (by omega) (by omega)]; rfl) | (simp only [*, Bool.true_or, Bool.or_true, Bool.false_or])) ?_)
  · skip
    repeat refine Tri.seq ?_
    refine Tri.cond rfl (fun h2 => ?_) (fun h2 => ?_)
    · skip
      refine yR ?_
      refine yM ?_
      refine yI ?_
      refine yA ?_
      refine e_seq ?_
      repeat refine Tri.seq ?_
      exact Tri.ret ⟨.inr rfl, ret1 rfl resV_tmp (bv_imp (by simp_all [kidsM]))⟩
    · skip
      refine yR ?_
      refine yI ?_
      refine yA ?_
      refine e_seq ?_
      repeat refine Tri.seq ?_
      refine Tri.cutT ⟨[(1, iv .i64 n), (5, iv .i64 k), (12, bv (k == 4 || k == 5 || k == 10))], []⟩ ?_ ?_
      · skip
        repeat refine Tri.seq ?_
        refine Tri.cond rfl (fun h3 => ?_) (fun h3 => ?_)
        · skip
          refine Tri.skip ?_
          refine le_of ?_ ?_
          · repeat (first | exact SubE.nil | refine SubE.cons rfl (by first | rfl | (rw [wrap64 (by omega) (by omega)]; rfl) | (simp only [*, Bool.true_or, Bool.or_true, Bool.false_or])) ?_)
          · repeat (first | exact SubH.nil | refine SubH.cons rfl (by first | rfl | (rw [wrap64 (by omega) (by omega)]; rfl) | (simp only [*, Bool.true_or, Bool.or_true, Bool.false_or])) ?_)
        · skip
          refine yR ?_
          refine yI ?_
          refine yA ?_
          refine e_seq ?_
          repeat refine Tri.seq ?_
          refine Tri.cond rfl (fun h4 => ?_) (fun h4 => ?_)
          · skip
            refine Tri.skip ?_
            refine le_of ?_ ?_
            · repeat (first | exact SubE.nil | refine SubE.cons rfl (by first | rfl | (rw [wrap64 (by omega) (by omega)]; rfl) | (simp only [*, Bool.true_or, Bool.or_true, Bool.false_or])) ?_)
            · repeat (first | exact SubH.nil | refine SubH.cons rfl (by first | rfl | (rw [wrap64 (by omega) (by omega)]; rfl) | (simp only [*, Bool.true_or, Bool.or_true, Bool.false_or])) ?_)
          · skip
            refine yR ?_
            refine yI ?_
            refine yA ?_
            refine e_seq ?_
            refine le_of ?_ ?_
            · repeat (first | exact SubE.nil | refine SubE.cons rfl (by first | rfl | (rw [wrap64 (by omega) (by omega)]; rfl) | (simp only [*, Bool.true_or, Bool.or_true, Bool.false_or])) ?_)
            · repeat (first | exact SubH.nil | refine SubH.cons rfl (by first | rfl | (rw [wrap64 (by omega) (by omega)]; rfl) | (simp only [*, Bool.true_or, Bool.or_true, Bool.false_or])) ?_)
      · skip
        repeat refine Tri.seq ?_
        refine Tri.cond rfl (fun h5 => ?_) (fun h5 => ?_)
        · skip
          refine yR ?_
          refine yM ?_
          refine yI ?_
          refine yA ?_
          refine e_seq ?_
          repeat refine Tri.seq ?_
          exact Tri.ret ⟨.inr rfl, ret1 rfl resV_tmp (bv_imp (by simp_all [kidsM]))⟩
        · skip
          refine yR ?_
          refine yI ?_
          refine yA ?_
          refine e_seq ?_
          repeat refine Tri.seq ?_
          refine Tri.cond rfl (fun h6 => ?_) (fun h6 => ?_)
          · skip
            refine yR ?_
            refine yM ?_
            refine yI ?_
            refine yA ?_
            refine e_seq ?_
            repeat refine Tri.seq ?_
            exact Tri.ret ⟨.inr rfl, ret1 rfl resV_tmp (bv_imp (by simp_all [kidsM]))⟩
          · skip
            refine yR ?_
            refine yI ?_
            refine yA ?_
            refine e_seq ?_
            repeat refine Tri.seq ?_
            refine Tri.cond rfl (fun h7 => ?_) (fun h7 => ?_)
            · skip
              refine yR ?_
              refine yM ?_
              refine s_val (v_callD (fun _ => off_c n 2 10)) ?_
              refine yQ ?_
              refine yA ?_
              refine e_seq ?_
              repeat refine Tri.seq ?_
              exact Tri.ret ⟨.inr rfl, ret1 rfl resV_tmp (bv_imp (by simp_all [kidsM]))⟩
            · skip
              refine Tri.skip ?_
              refine yR ?_
              refine yM ?_
              refine yI ?_
              refine yA ?_
              refine e_seq ?_
              repeat refine Tri.seq ?_
              exact Tri.ret ⟨.inr rfl, ret1 rfl resV_tmp (bv_imp (by simp_all [kidsM]))⟩

def clashM (a b c : Bool) (num : Int) (ref : List Int) (cases : Int) : Bool := (num != 0 && !a) || (!(ref == Z32) && !b) || (decide (cases > 0) && !c)

theorem flag_cond (a b c a' b' c' : Bool) : Tryd.prog.eqGuardType Tryd.prog.depth 160 = false ∧ 160 < Tryd.prog.types.size ∧ tyP Tryd.prog 160 (flP a b c) = true ∧ tyP Tryd.prog 160 (flP a' b' c') = true :=
  ⟨by kernel_rfl, of_decide_eq_true (by kernel_rfl), (show tyV Tryd.prog 160 (.pu (flP a b c)) = true from TyV.ok), (show tyV Tryd.prog 160 (.pu (flP a' b' c')) = true from TyV.ok)⟩
theorem peq_flag (d : Nat) (a b c a' b' c' : Bool) : peqT Tryd.prog (d + 2) 160 (flP a b c) (flP a' b' c') = some ((a == a') && ((b == b') && ((c == c') && true))) := by
  have hu : Tryd.prog.underlying 160 = some (.array 3 4) := by kernel_rfl
  have hb : Tryd.prog.underlying 4 = some .bool := by kernel_rfl
  unfold flP
  simp only [peqT, hu, peqL, hb]
theorem bin_neF (a b c a' b' c' : Bool) : binV Tryd.prog .neq 160 (.pu (flP a b c)) (.pu (flP a' b' c')) = some (bv (!((a == a') && ((b == b') && ((c == c') && true))))) := by
  have h1 := flag_cond a b c a' b' c'
  have h2 := fun e => peq_flag e a b c a' b' c'
  unfold flP at h1 h2 ⊢
  simp only [binV, if_pos h1]
  generalize hd : (100 : Nat) = d
  obtain ⟨e, rfl⟩ : ∃ e, d = e + 2 := ⟨98, by omega⟩
  rw [h2 e]

def flList (a b c : Bool) : List Bool := [a, b, c]
theorem clash_c (a b c : Bool) (num : Int) (ref : List Int) (cases : Int) : FCall Tryd.prog G 101 [.pu (flP a b c), iv .i64 num, .pu (refP ref), iv .i64 cases] (bv (clashM a b c num ref cases)) := by
  refine FCall.of_tri tbl 38 Tryd.func101 rfl rfl rfl fun w0 M ρ0 D0 => ?_
  refine Tri.fact (i := 2) rfl (fun D w x h => ref_len h) (fun hr => ?_)
  refine yR ?_
  refine s_box SS 4 ?_
  refine s_box SS 6 ?_
  refine yB ?_
  refine e_seqN [4, 6] ?_
  refine yR ?_
  refine yM ?_
  refine yI ?_
  refine yL ?_
  refine yT ?_
  refine s_val (v_bin SS (h := bin_neS (by rw [hr]; rfl))) ?_
  refine yM ?_
  refine yI ?_
  refine yP ?_
  refine s_alloc SS 9 ?_
  refine yS ?_
  refine e_seqN [9] ?_
  refine yR ?_
  refine yL ?_
  refine s_alloc SS 10 ?_
  refine yS ?_
  refine e_seqN [10] ?_
  refine yR ?_
  refine yJ ?_
  refine e_seq ?_
  repeat refine Tri.seq ?_
  refine Tri.block (Tri.loopW (σ := Nat) (fun i => ⟨[(4, .ptr 4 [] 160), (9, .ptr 9 [] 160), (10, .ptr 10 [] 160), (21, iv .i64 i)], [(4, .var 160 (.pu (flP a b c))), (9, .var 160 (.pu (flP (num != 0) (!(ref == Z32)) (decide (cases > 0))))), (10, .var 160 (.pu (flP (if 0 < i then num != 0 && a else num != 0) (if 1 < i then !(ref == Z32) && b else !(ref == Z32)) (if 2 < i then decide (cases > 0) && c else decide (cases > 0)))))]⟩) (fun i => 3 - i) 0 ?_ ?_ (fun i => ?_))
  · exact zW
  · exact zW
  refine yR ?_
  refine yI ?_
  refine e_seq ?_
  repeat refine Tri.seq ?_
  refine Tri.cond rfl (fun h0 => ?_) (fun h0 => ?_)
  · skip
    have hi : i < 3 := by have := of_decide_eq_true h0; omega
    obtain ⟨j, hj⟩ : ∃ j, j = i + 1 := ⟨_, rfl⟩
    obtain rfl | rfl | rfl : i = 0 ∨ i = 1 ∨ i = 2 := by omega
    all_goals
      refine Tri.skip ?_
      repeat refine Tri.seq ?_
      refine Tri.block ?_
      refine yR ?_
      refine yM ?_
      refine yA ?_
      refine e_seq ?_
      refine yR ?_
      refine yM ?_
      refine yM ?_
      refine s_val (v_ixo SS) ?_
      refine yL ?_
      refine yM ?_
      refine xM ?_
      refine s_gg zG (v_ixo SS) ?_
      refine xL ?_
      refine yN ?_
      refine s_val (v_ixo SS) ?_
      refine yS ?_
      refine e_seq ?_
      refine yR ?_
      refine yI ?_
      refine yM ?_
      refine e_seq ?_
      refine ⟨j, by omega, le_of ?_ ?_⟩
      · repeat (first | exact SubE.nil | refine SubE.cons rfl (by first | rfl | (rw [wrap64 (by omega) (by omega)]; rfl) | (subst hj; rfl)) ?_)
      · repeat (first | exact SubH.nil | refine SubH.cons rfl (by first | rfl | (rw [wrap64 (by omega) (by omega)]; rfl) | (subst hj; rfl)) ?_)
  · skip
    have hi : 3 ≤ i := by have := of_decide_eq_false h0; omega
    refine Tri.exit ?_
    refine yR ?_
    refine yL ?_
    refine yL ?_
    refine s_val (v_bin SS (h := bin_neF _ _ _ _ _ _)) ?_
    refine yA ?_
    refine e_seq ?_
    repeat refine Tri.seq ?_
    exact Tri.ret ⟨.inr rfl, ret1 rfl resV_tmp (bv_imp (by rw [if_pos (by omega), if_pos (by omega), if_pos (by omega)]; unfold clashM; generalize (num != 0) = p; generalize (ref == Z32) = q; generalize decide (cases > 0) = s; cases p <;> cases q <;> cases s <;> cases a <;> cases b <;> cases c <;> rfl))⟩

def patErr (k num : Int) (ref : List Int) (n : Int) : Int :=
  if offM k 1 3 then 3 else if clashM (k == 2 || k == 3) (k == 3) false num ref 0 then 7 else if decide (n > (if k == 3 then 4 else 0)) then 2
  else if (k == 2 && offM num 0 1073741824) || (k == 3 && offM num 0 7) then 3 else 0

theorem patternError_c (k n : Int) (r : List Int) (ks : List Pat) : FCall Tryd.prog G 104 [.pu (patc 0 (.mk k n r ks))] (iv .i64 (patErr k n r ks.length)) := by
  refine FCall.of_tri tbl 43 Tryd.func104 rfl rfl rfl fun w0 M ρ0 D0 => ?_
  refine yR ?_
  refine s_box SS 1 ?_
  refine yB ?_
  refine e_seqN [1] ?_
  refine yR ?_
  refine yB ?_
  refine e_seq ?_
  refine yR ?_
  refine yF ?_
  refine yL ?_
  refine yI ?_
  refine e_seq ?_
  repeat refine Tri.seq ?_
  refine Tri.cutT ⟨[(1, .ptr 1 [] 26), (3, iv .i64 (if k == 3 then 4 else 0))], [(1, .var 26 (.pu (patc 0 (.mk k n r ks))))]⟩ ?_ ?_
  · skip
    repeat refine Tri.seq ?_
    refine Tri.cond rfl (fun h0 => ?_) (fun h0 => ?_)
    · skip
      refine yR ?_
      refine yB ?_
      refine e_seq ?_
      refine le_of ?_ ?_
      · repeat (first | exact SubE.nil | refine SubE.cons rfl (by first | rfl | (rw [wrap64 (by omega) (by omega)]; rfl) | (rw [h0]; rfl)) ?_)
      · repeat (first | exact SubH.nil | refine SubH.cons rfl (by first | rfl | (rw [wrap64 (by omega) (by omega)]; rfl) | (rw [h0]; rfl)) ?_)
    · skip
      refine Tri.skip ?_
      refine le_of ?_ ?_
      · repeat (first | exact SubE.nil | refine SubE.cons rfl (by first | rfl | (rw [wrap64 (by omega) (by omega)]; rfl) | (rw [h0]; rfl)) ?_)
      · repeat (first | exact SubH.nil | refine SubH.cons rfl (by first | rfl | (rw [wrap64 (by omega) (by omega)]; rfl) | (rw [h0]; rfl)) ?_)
  · skip
    repeat refine Tri.seq ?_
    refine Tri.block ?_
    refine yR ?_
    refine yF ?_
    refine yL ?_
    refine s_val (v_callD (fun _ => off_c k 1 3)) ?_
    refine yA ?_
    refine e_seq ?_
    repeat refine Tri.seq ?_
    refine Tri.cond rfl (fun h1 => ?_) (fun h1 => ?_)
    · skip
      refine yR ?_
      refine yB ?_
      refine e_seq ?_
      repeat refine Tri.seq ?_
      exact Tri.ret ⟨.inr rfl, ret1 rfl resV_tmp (iv_imp (by (try rw [pats_length] at h3); unfold patErr; (repeat' split) <;> simp_all <;> omega))⟩
    · skip
      refine yR ?_
      refine yF ?_
      refine yL ?_
      refine s_val (v_callD (fun _ => patternFields_c k)) ?_
      refine yF ?_
      refine yL ?_
      refine yF ?_
      refine yL ?_
      refine s_val (v_callD (fun _ => clash_c (k == 2 || k == 3) (k == 3) false n r 0)) ?_
      refine yA ?_
      refine e_draw ?_
      repeat refine Tri.seq ?_
      refine Tri.cond rfl (fun h2 => ?_) (fun h2 => ?_)
      · skip
        refine yR ?_
        refine yB ?_
        refine e_seq ?_
        repeat refine Tri.seq ?_
        exact Tri.ret ⟨.inr rfl, ret1 rfl resV_tmp (iv_imp (by (try rw [pats_length] at h3); unfold patErr; (repeat' split) <;> simp_all <;> omega))⟩
      · skip
        refine yR ?_
        refine yF ?_
        refine yK ?_
        refine yC ?_
        refine yM ?_
        refine yI ?_
        refine yA ?_
        refine e_seq ?_
        repeat refine Tri.seq ?_
        refine Tri.cond rfl (fun h3 => ?_) (fun h3 => ?_)
        · skip
          refine yR ?_
          refine yB ?_
          refine e_seq ?_
          repeat refine Tri.seq ?_
          exact Tri.ret ⟨.inr rfl, ret1 rfl resV_tmp (iv_imp (by (try rw [pats_length] at h3); unfold patErr; (repeat' split) <;> simp_all <;> omega))⟩
        · skip
          refine yR ?_
          refine yF ?_
          refine yL ?_
          refine yI ?_
          refine yM ?_
          refine xF ?_
          refine xL ?_
          refine s_gg zG (v_callD (fun _ => off_c n 0 1073741824)) ?_
          refine yN ?_
          refine yA ?_
          refine e_seq ?_
          repeat refine Tri.seq ?_
          refine Tri.cond rfl (fun h4 => ?_) (fun h4 => ?_)
          · skip
            refine Tri.skip ?_
            repeat refine Tri.seq ?_
            refine Tri.cond rfl (fun h5 => ?_) (fun h5 => ?_)
            · skip
              refine yR ?_
              refine yB ?_
              refine e_seq ?_
              repeat refine Tri.seq ?_
              exact Tri.ret ⟨.inr rfl, ret1 rfl resV_tmp (iv_imp (by (try rw [pats_length] at h3); unfold patErr; (repeat' split) <;> simp_all <;> omega))⟩
            · skip
              refine Tri.skip ?_
              refine yR ?_
              refine yB ?_
              refine e_seq ?_
              repeat refine Tri.seq ?_
              exact Tri.ret ⟨.inr rfl, ret1 rfl resV_tmp (iv_imp (by (try rw [pats_length] at h3); unfold patErr; (repeat' split) <;> simp_all <;> omega))⟩
          · skip
            refine yR ?_
            refine yF ?_
            refine yL ?_
            refine yI ?_
            refine yM ?_
            refine xF ?_
            refine xL ?_
            refine s_gg zG (v_callD (fun _ => off_c n 0 7)) ?_
            refine yN ?_
            refine yA ?_
            refine e_seq ?_
            repeat refine Tri.seq ?_
            refine Tri.cond rfl (fun h5 => ?_) (fun h5 => ?_)
            · skip
              refine yR ?_
              refine yB ?_
              refine e_seq ?_
              repeat refine Tri.seq ?_
              exact Tri.ret ⟨.inr rfl, ret1 rfl resV_tmp (iv_imp (by (try rw [pats_length] at h3); unfold patErr; (repeat' split) <;> simp_all <;> omega))⟩
            · skip
              refine Tri.skip ?_
              refine yR ?_
              refine yB ?_
              refine e_seq ?_
              repeat refine Tri.seq ?_
              exact Tri.ret ⟨.inr rfl, ret1 rfl resV_tmp (iv_imp (by (try rw [pats_length] at h3); unfold patErr; (repeat' split) <;> simp_all <;> omega))⟩
end Go.Proofs.YtkcgkignhpepkaaDoor

/- The errors of patterns, and of a term by itself. -/
namespace Go.Proofs.YtkcgkignhpepkaaDoor
open Go Hs
variable {G : List (Nat × TypeId × Pu)}

/-- The first error of a list. -/
def firstE {α : Type} (f : α → Int) : List α → Int
  | [] => 0
  | a :: l => if f a = 0 then firstE f l else f a
theorem firstE_take {α : Type} (f : α → Int) : ∀ {l : List α} {i : Nat} (h : i < l.length), firstE f (l.take (i + 1)) = if firstE f (l.take i) = 0 then f l[i] else firstE f (l.take i)
  | a :: l, 0, _ => by
    simp only [List.take_zero, List.take_succ_cons, firstE, List.getElem_cons_zero, if_true]
    split <;> simp_all
  | a :: l, i + 1, h => by
    have ih := firstE_take f (l := l) (i := i) (by simpa using h)
    simp only [List.take_succ_cons, firstE, List.getElem_cons_succ]
    split
    · exact ih
    · rfl
theorem firstE_pre {α : Type} (f : α → Int) : ∀ {l : List α} {i : Nat}, firstE f (l.take i) ≠ 0 → firstE f l = firstE f (l.take i)
  | [], i, h => by simp [firstE] at h
  | a :: l, 0, h => by simp [firstE] at h
  | a :: l, i + 1, h => by
    simp only [List.take_succ_cons, firstE] at h ⊢
    split
    · rename_i h0
      rw [if_pos h0] at h
      exact firstE_pre f h
    · rfl
mutual
def perr : Pat → Int
  | .mk k n r ks => if patErr k n r ks.length = 0 then perrL ks else patErr k n r ks.length
def perrL : List Pat → Int
  | [] => 0
  | p :: ps => if perr p = 0 then perrL ps else perr p
end
theorem perrL_eq : ∀ ks, perrL ks = firstE perr ks
  | [] => rfl
  | p :: ps => by simp only [perrL, firstE, perrL_eq ps]

theorem wk0 (x : Int) (ks : List Pat) : Wk (iv .i64 x) (iv .i64 (if x = 0 then firstE perr (ks.take 0) else x)) := by
  have e : (if x = 0 then firstE perr (ks.take 0) else x) = x := by split <;> simp_all [firstE]
  rw [e]
  exact .refl

theorem patternsError_c : ∀ (N : Nat) (p : Pat), psize p ≤ N → N < 2^40 → FCall Tryd.prog G 95 [.pu (patc 0 p)] (iv .i64 (perr p)) := by
  intro N
  induction N with
  | zero => intro p h; cases p; simp [psize] at h
  | succ N ih =>
  intro p hp hN
  obtain ⟨k, n, r, ks⟩ := p
  simp only [psize] at hp
  have hlen := length_psizeL ks
  refine FCall.of_tri tbl 25 Tryd.func95 rfl rfl rfl fun w0 M ρ0 D0 => ?_
  refine yR ?_
  refine s_box SS 1 ?_
  refine yB ?_
  refine e_seqN [1] ?_
  refine yR ?_
  refine yL ?_
  refine s_val (v_callD (fun _ => patternError_c k n r ks)) ?_
  refine yA ?_
  refine e_seq ?_
  refine yR ?_
  refine yB ?_
  refine e_seq ?_
  repeat refine Tri.seq ?_
  refine Tri.block (Tri.loopW (σ := Nat) (fun i => ⟨[(1, .ptr 1 [] 26), (4, iv .i64 i), (3, iv .i64 (if patErr k n r ks.length = 0 then firstE perr (ks.take i) else patErr k n r ks.length))], [(1, .var 26 (.pu (patc 0 (.mk k n r ks))))]⟩) (fun i => ks.length - i) 0 ?_ ?_ (fun i => ?_))
  · repeat (first | exact .nil | refine .cons rfl (by first | exact .refl | (focus ((repeat constructor); done)) | (exact wk0 _ _)) ?_)
  · repeat (first | exact .nil | refine .cons rfl (by first | exact .refl | (focus ((repeat constructor); done)) | (exact wk0 _ _)) ?_)
  refine yR ?_
  refine yM ?_
  refine yF ?_
  refine yK ?_
  refine yC ?_
  refine yI ?_
  refine yM ?_
  refine xM ?_
  refine xI ?_
  refine yN ?_
  refine e_seq ?_
  repeat refine Tri.seq ?_
  refine Tri.cond rfl (fun h0 => ?_) (fun h0 => ?_)
  · skip
    simp only [Bool.and_eq_true, decide_eq_true_eq, beq_iff_eq] at h0
    obtain ⟨h0, he⟩ := h0
    have hi : i < ks.length := by rw [pats_length] at h0; omega
    have he0 : patErr k n r ks.length = 0 := by split at he <;> simp_all
    rw [if_pos he0] at he
    refine Tri.skip ?_
    repeat refine Tri.seq ?_
    refine Tri.block ?_
    refine yR ?_
    refine yF ?_
    refine yK ?_
    refine yM ?_
    refine s_val (v_index SS (h0 := by omega) (hp := pats_get hi)) ?_
    refine yL ?_
    refine s_val (v_callD (fun _ => ih ks[i] (by have := psizeL_get hi; omega) (by omega))) ?_
    refine yA ?_
    refine e_seq ?_
    refine yR ?_
    refine yM ?_
    refine yI ?_
    refine yA ?_
    refine e_seq ?_
    refine ⟨i + 1, by omega, le_of ?_ ?_⟩
    · repeat (first | exact SubE.nil | refine SubE.cons rfl (by first | rfl | (rw [wrap64 (by omega) (by omega)]; rfl) | (rw [if_pos he0, firstE_take perr hi, if_pos he])) ?_)
    · repeat (first | exact SubH.nil | refine SubH.cons rfl (by first | rfl | (rw [wrap64 (by omega) (by omega)]; rfl) | (rw [if_pos he0, firstE_take perr hi, if_pos he])) ?_)
  · skip
    have hfin : (if patErr k n r ks.length = 0 then firstE perr (ks.take i) else patErr k n r ks.length) = perr (.mk k n r ks) := by
      simp only [perr, perrL_eq]
      split
      · rename_i he0
        by_cases hz : firstE perr (ks.take i) = 0
        · rw [he0, if_pos rfl, hz] at h0
          simp only [pats_length] at h0
          rw [List.take_of_length_le (by simp at h0; omega)]
        · rw [firstE_pre perr hz]
      · rfl
    refine Tri.exit ?_
    refine yR ?_
    refine yM ?_
    refine yA ?_
    refine e_seq ?_
    repeat refine Tri.seq ?_
    exact Tri.ret ⟨.inr rfl, ret1 rfl resV_tmp (iv_imp hfin)⟩
end Go.Proofs.YtkcgkignhpepkaaDoor

/- The checker of terms at a term itself. -/
namespace Go.Proofs.YtkcgkignhpepkaaDoor
open Go Hs
variable {G : List (Nat × TypeId × Pu)}

theorem termBinds_c : ∀ (N : Nat) (p : Pat), psize p ≤ N → N < 2^40 → FCall Tryd.prog G 107 [.pu (patc 0 p)] (iv .i64 (bindsM p)) := by
  intro N
  induction N with
  | zero => intro p h; cases p; simp [psize] at h
  | succ N ih =>
  intro p hp hN
  obtain ⟨k, n, r, ks⟩ := p
  simp only [psize] at hp
  have hlen := length_psizeL ks
  refine FCall.of_tri tbl 22 Tryd.func107 rfl rfl rfl fun w0 M ρ0 D0 => ?_
  refine yR ?_
  refine s_box SS 1 ?_
  refine yB ?_
  refine e_seqN [1] ?_
  refine yR ?_
  refine yF ?_
  refine yL ?_
  refine yI ?_
  refine e_seq ?_
  repeat refine Tri.seq ?_
  refine Tri.cond rfl (fun h0 => ?_) (fun h0 => ?_)
  · skip
    refine yR ?_
    refine yB ?_
    refine e_seq ?_
    repeat refine Tri.seq ?_
    exact Tri.ret ⟨.inr rfl, ret1 rfl resV_tmp (iv_imp (by simp_all [bindsM]))⟩
  · skip
    refine Tri.skip ?_
    refine yR ?_
    refine yB ?_
    refine e_seq ?_
    refine yR ?_
    refine yF ?_
    refine yK ?_
    refine yC ?_
    refine yJ ?_
    refine e_seq ?_
    repeat refine Tri.seq ?_
    refine Tri.block (Tri.loopW (σ := Nat) (fun i => ⟨[(10, .pu (.sl 0 26 (patsc 0 ks))), (11, iv .i64 (patsc 0 ks).length), (12, iv .i64 i), (3, iv .i64 (bindsL (ks.take i)))], []⟩) (fun i => ks.length - i) 0 ?_ ?_ (fun i => ?_))
    · exact zW
    · exact zW
    refine yR ?_
    refine yI ?_
    refine e_seq ?_
    repeat refine Tri.seq ?_
    refine Tri.cond rfl (fun h1 => ?_) (fun h1 => ?_)
    · skip
      have hi : i < ks.length := by simpa [pats_eq] using h1
      have h1' := bindsL_bound (ks.take i)
      have h2 := binds_bound ks[i]
      have h3 := psizeL_take (ks := ks) (i := i)
      have h4 := psizeL_get hi
      refine Tri.skip ?_
      repeat refine Tri.seq ?_
      refine Tri.block ?_
      refine yR ?_
      refine s_val (v_index SS (h0 := by omega) (hp := pats_get hi)) ?_
      refine yL ?_
      refine s_alloc SS 5 ?_
      refine yS ?_
      refine e_seqN [5] ?_
      refine yR ?_
      refine yM ?_
      refine yL ?_
      refine s_val (v_callD (fun _ => ih ks[i] (by omega) (by omega))) ?_
      refine yI ?_
      refine yA ?_
      refine e_seq ?_
      refine yR ?_
      refine yI ?_
      refine yM ?_
      refine e_seq ?_
      refine ⟨i + 1, by omega, le_of ?_ ?_⟩
      · repeat (first | exact SubE.nil | refine SubE.cons rfl (by first | rfl | (rw [wrap64 (by omega) (by omega)]; rfl) | (rw [bindsL_take hi, wrap64 (by omega) (by omega)])) ?_)
      · repeat (first | exact SubH.nil | refine SubH.cons rfl (by first | rfl | (rw [wrap64 (by omega) (by omega)]; rfl) | (rw [bindsL_take hi, wrap64 (by omega) (by omega)])) ?_)
    · skip
      have hi : ks.length ≤ i := by simpa [pats_eq] using h1
      rw [List.take_of_length_le hi]
      refine Tri.exit ?_
      refine yR ?_
      refine yM ?_
      refine yA ?_
      refine e_seq ?_
      repeat refine Tri.seq ?_
      exact Tri.ret ⟨.inr rfl, ret1 rfl resV_tmp (iv_imp (by simp_all [bindsM]))⟩

/-- Is the variable n bound, where so many are bound inside, and depth outside? -/
def knownM (depth n bound : Int) : Bool := decide (n ≥ 0) && (decide (n < bound) || decide (IntKind.wrap .i64 (n - bound) < depth))
abbrev dpO (depth : Int) : List (Nat × Ob) := [(901, .var 3 (iv .i64 depth))]
theorem known_c (depth n bound : Int) : HCall Tryd.prog G 84 [iv .i64 n, iv .i64 bound, .ptr 901 [] 3] (dpO depth) [] (bv (knownM depth n bound)) [] [] := by
  refine HCall.of_triD tbl 20 [] Tryd.func84 rfl rfl rfl fun w0 M ρ0 D0 => ?_
  refine yR ?_
  refine yB ?_
  refine e_seq ?_
  refine yR ?_
  refine yM ?_
  refine yI ?_
  refine yM ?_
  refine xM ?_
  refine xM ?_
  refine xI ?_
  refine xM ?_
  refine xM ?_
  refine xM ?_
  refine xI ?_
  refine xL ?_
  refine xI ?_
  refine xO ?_
  refine yN ?_
  refine yA ?_
  refine e_seq ?_
  repeat refine Tri.seq ?_
  exact Tri.ret ⟨.inr rfl, ret1 rfl resV_tmp (bv_imp (by simp only [knownM])), by repeat (first | exact OutH.nil | refine OutH.cons rfl (by first | exact ObImp.refl _ | exact OWk.imp (by repeat constructor)) ?_)⟩

abbrev chV (members : Int) : PV := .agg 144 [iv .i64 members, .fn (.func 84) [] [.ptr 901 [] 3]]
def termErr (members depth bound k n : Int) (r : List Int) (nk nc : Int) : Int :=
  if offM k 1 12 then 3 else if clashM (hasNumM k) (hasRefM k) (hasCasesM k) n r nc then 7 else if !kidsM k nk || decide (nc > 8) then 2
  else if k == 10 && offM n 1 5 then 3
  else if k == 1 && !knownM depth n bound then 1
  else if k == 7 && (decide (n < 0) || decide (n ≥ members)) then 1
  else if (k == 2 || k == 8 || k == 11) && offM n 0 (if k == 8 || k == 11 then 7 else 1073741824) then 3 else 0
set_option maxHeartbeats 2000000 in
theorem cterm_c' (members depth bound : Int) (k n : Int) (r : List Int) (ks : List Tm) (cs : List Cs) :
    HCall Tryd.prog G 94 [chV members, .pu (tmc 0 (.mk k n r ks cs)), iv .i64 bound] (dpO depth) [] (iv .i64 (termErr members depth bound k n r (tmsc 0 ks).length (cssc 0 cs).length)) [] [] := by
  refine HCall.of_triD tbl 88 [] Tryd.func94 rfl rfl rfl fun w0 M ρ0 D0 => ?_
  refine yR ?_
  refine s_box SS 3 ?_
  refine s_box SS 4 ?_
  refine yB ?_
  refine e_seqN [3, 4] ?_
  repeat refine Tri.seq ?_
  refine Tri.block ?_
  refine yR ?_
  refine yF ?_
  refine yL ?_
  refine s_val (v_callD (fun _ => off_c k 1 12)) ?_
  refine yA ?_
  refine e_seq ?_
  repeat refine Tri.seq ?_
  refine Tri.cond rfl (fun h0 => ?_) (fun h0 => ?_)
  · skip
    refine yR ?_
    refine yB ?_
    refine e_seq ?_
    repeat refine Tri.seq ?_
    exact Tri.ret ⟨.inr rfl, ret1 rfl resV_tmp (iv_imp (by first | (simp only [termErr, *, Bool.false_eq_true, Bool.true_and, Bool.false_and, Bool.or_false, Bool.or_true, Bool.true_or, Bool.false_or, if_false, if_true]; done) | (exfalso; simp_all; done) | (unfold termErr; (repeat' split) <;> simp_all <;> omega))), by repeat (first | exact OutH.nil | refine OutH.cons rfl (by first | exact ObImp.refl _ | exact OWk.imp (by repeat constructor)) ?_)⟩
  · skip
    refine yR ?_
    refine yF ?_
    refine yL ?_
    refine s_val (v_callD (fun _ => fields_c k)) ?_
    refine yF ?_
    refine yL ?_
    refine yF ?_
    refine yL ?_
    refine yF ?_
    refine yK ?_
    refine yC ?_
    refine s_val (v_callD (fun _ => clash_c (hasNumM k) (hasRefM k) (hasCasesM k) n r ((cssc 0 cs).length : Int))) ?_
    refine yA ?_
    refine e_draw ?_
    repeat refine Tri.seq ?_
    refine Tri.cond rfl (fun h1 => ?_) (fun h1 => ?_)
    · skip
      refine yR ?_
      refine yB ?_
      refine e_seq ?_
      repeat refine Tri.seq ?_
      exact Tri.ret ⟨.inr rfl, ret1 rfl resV_tmp (iv_imp (by first | (simp only [termErr, *, Bool.false_eq_true, Bool.true_and, Bool.false_and, Bool.or_false, Bool.or_true, Bool.true_or, Bool.false_or, if_false, if_true]; done) | (exfalso; simp_all; done) | (unfold termErr; (repeat' split) <;> simp_all <;> omega))), by repeat (first | exact OutH.nil | refine OutH.cons rfl (by first | exact ObImp.refl _ | exact OWk.imp (by repeat constructor)) ?_)⟩
    · skip
      refine yR ?_
      refine yF ?_
      refine yL ?_
      refine yF ?_
      refine yK ?_
      refine yC ?_
      refine s_val (v_callD (fun _ => kids_c k ((tmsc 0 ks).length : Int))) ?_
      refine yQ ?_
      refine yM ?_
      refine xF ?_
      refine xL ?_
      refine xC ?_
      refine xI ?_
      refine yO ?_
      refine yA ?_
      refine e_seq ?_
      repeat refine Tri.seq ?_
      refine Tri.cond rfl (fun h2 => ?_) (fun h2 => ?_)
      · skip
        refine yR ?_
        refine yB ?_
        refine e_seq ?_
        repeat refine Tri.seq ?_
        exact Tri.ret ⟨.inr rfl, ret1 rfl resV_tmp (iv_imp (by first | (simp only [termErr, *, Bool.false_eq_true, Bool.true_and, Bool.false_and, Bool.or_false, Bool.or_true, Bool.true_or, Bool.false_or, if_false, if_true]; done) | (exfalso; simp_all; done) | (unfold termErr; (repeat' split) <;> simp_all <;> omega))), by repeat (first | exact OutH.nil | refine OutH.cons rfl (by first | exact ObImp.refl _ | exact OWk.imp (by repeat constructor)) ?_)⟩
      · skip
        refine Tri.skip ?_
        refine yR ?_
        refine yB ?_
        refine e_seq ?_
        refine yR ?_
        refine yF ?_
        refine yL ?_
        refine e_seq ?_
        repeat refine Tri.seq ?_
        refine Tri.block ?_
        refine yR ?_
        refine yI ?_
        refine yA ?_
        refine e_seq ?_
        repeat refine Tri.seq ?_
        refine Tri.cond rfl (fun h3 => ?_) (fun h3 => ?_)
        · skip
          refine yR ?_
          refine yF ?_
          refine yL ?_
          refine s_val (v_callD (fun _ => off_c n 1 5)) ?_
          refine e_seq ?_
          repeat refine Tri.seq ?_
          refine Tri.cond rfl (fun h4 => ?_) (fun h4 => ?_)
          · skip
            refine yR ?_
            refine yB ?_
            refine e_seq ?_
            repeat refine Tri.seq ?_
            exact Tri.ret ⟨.inr rfl, ret1 rfl resV_tmp (iv_imp (by first | (simp only [termErr, *, Bool.false_eq_true, Bool.true_and, Bool.false_and, Bool.or_false, Bool.or_true, Bool.true_or, Bool.false_or, if_false, if_true]; done) | (exfalso; simp_all; done) | (unfold termErr; (repeat' split) <;> simp_all <;> omega))), by repeat (first | exact OutH.nil | refine OutH.cons rfl (by first | exact ObImp.refl _ | exact OWk.imp (by repeat constructor)) ?_)⟩
          · skip
            refine Tri.skip ?_
            refine yR ?_
            refine yF ?_
            refine yL ?_
            refine yI ?_
            refine yM ?_
            refine xF ?_
            refine xL ?_
            refine xI ?_
            refine yO ?_
            refine yM ?_
            refine xF ?_
            refine xL ?_
            refine xI ?_
            refine yO ?_
            refine yM ?_
            refine xF ?_
            refine xL ?_
            refine xM ?_
            refine s_gg zG (v_callD (fun _ => off_c n 0 _)) ?_
            refine yN ?_
            refine e_seq ?_
            repeat refine Tri.seq ?_
            refine Tri.cond rfl (fun h11 => ?_) (fun h11 => ?_)
            · skip
              refine yR ?_
              refine yB ?_
              refine e_seq ?_
              repeat refine Tri.seq ?_
              exact Tri.ret ⟨.inr rfl, ret1 rfl resV_tmp (iv_imp (by first | (simp only [termErr, *, Bool.false_eq_true, Bool.true_and, Bool.false_and, Bool.or_false, Bool.or_true, Bool.true_or, Bool.false_or, if_false, if_true]; done) | (exfalso; simp_all; done) | (unfold termErr; (repeat' split) <;> simp_all <;> omega))), by repeat (first | exact OutH.nil | refine OutH.cons rfl (by first | exact ObImp.refl _ | exact OWk.imp (by repeat constructor)) ?_)⟩
            · skip
              refine Tri.skip ?_
              refine yR ?_
              refine yB ?_
              refine e_seq ?_
              repeat refine Tri.seq ?_
              exact Tri.ret ⟨.inr rfl, ret1 rfl resV_tmp (iv_imp (by first | (simp only [termErr, *, Bool.false_eq_true, Bool.true_and, Bool.false_and, Bool.or_false, Bool.or_true, Bool.true_or, Bool.false_or, if_false, if_true]; done) | (exfalso; simp_all; done) | (unfold termErr; (repeat' split) <;> simp_all <;> omega))), by repeat (first | exact OutH.nil | refine OutH.cons rfl (by first | exact ObImp.refl _ | exact OWk.imp (by repeat constructor)) ?_)⟩
        · skip
          refine yR ?_
          refine yI ?_
          refine yA ?_
          refine e_seq ?_
          repeat refine Tri.seq ?_
          refine Tri.cond rfl (fun h5 => ?_) (fun h5 => ?_)
          · skip
            refine Tri.skip ?_
            repeat refine Tri.seq ?_
            refine Tri.cond rfl (fun h6 => ?_) (fun h6 => ?_)
            · skip
              refine yR ?_
              refine yB ?_
              refine e_seq ?_
              refine yR ?_
              refine yF ?_
              refine yL ?_
              refine yI ?_
              refine yM ?_
              refine xF ?_
              refine xL ?_
              refine xI ?_
              refine yO ?_
              refine yM ?_
              refine xF ?_
              refine xL ?_
              refine xI ?_
              refine yO ?_
              refine yM ?_
              refine xF ?_
              refine xL ?_
              refine xM ?_
              refine s_gg zG (v_callD (fun _ => off_c n 0 _)) ?_
              refine yN ?_
              refine e_seq ?_
              repeat refine Tri.seq ?_
              refine Tri.cond rfl (fun h11 => ?_) (fun h11 => ?_)
              · skip
                refine yR ?_
                refine yB ?_
                refine e_seq ?_
                repeat refine Tri.seq ?_
                exact Tri.ret ⟨.inr rfl, ret1 rfl resV_tmp (iv_imp (by first | (simp only [termErr, *, Bool.false_eq_true, Bool.true_and, Bool.false_and, Bool.or_false, Bool.or_true, Bool.true_or, Bool.false_or, if_false, if_true]; done) | (exfalso; simp_all; done) | (unfold termErr; (repeat' split) <;> simp_all <;> omega))), by repeat (first | exact OutH.nil | refine OutH.cons rfl (by first | exact ObImp.refl _ | exact OWk.imp (by repeat constructor)) ?_)⟩
              · skip
                refine Tri.skip ?_
                refine yR ?_
                refine yB ?_
                refine e_seq ?_
                repeat refine Tri.seq ?_
                exact Tri.ret ⟨.inr rfl, ret1 rfl resV_tmp (iv_imp (by first | (simp only [termErr, *, Bool.false_eq_true, Bool.true_and, Bool.false_and, Bool.or_false, Bool.or_true, Bool.true_or, Bool.false_or, if_false, if_true]; done) | (exfalso; simp_all; done) | (unfold termErr; (repeat' split) <;> simp_all <;> omega))), by repeat (first | exact OutH.nil | refine OutH.cons rfl (by first | exact ObImp.refl _ | exact OWk.imp (by repeat constructor)) ?_)⟩
            · skip
              refine yR ?_
              refine yI ?_
              refine yA ?_
              refine e_seq ?_
              repeat refine Tri.seq ?_
              refine Tri.cond rfl (fun h7 => ?_) (fun h7 => ?_)
              · skip
                refine yR ?_
                refine yF ?_
                refine yL ?_
                refine yF ?_
                refine yL ?_
                refine yM ?_
                refine s_val (v_callO (fun _ => known_c depth n bound)) ?_
                refine yQ ?_
                refine e_seq ?_
                repeat refine Tri.seq ?_
                refine Tri.cond rfl (fun h8 => ?_) (fun h8 => ?_)
                · skip
                  refine yR ?_
                  refine yB ?_
                  refine e_seq ?_
                  repeat refine Tri.seq ?_
                  exact Tri.ret ⟨.inr rfl, ret1 rfl resV_tmp (iv_imp (by first | (simp only [termErr, *, Bool.false_eq_true, Bool.true_and, Bool.false_and, Bool.or_false, Bool.or_true, Bool.true_or, Bool.false_or, if_false, if_true]; done) | (exfalso; simp_all; done) | (unfold termErr; (repeat' split) <;> simp_all <;> omega))), by repeat (first | exact OutH.nil | refine OutH.cons rfl (by first | exact ObImp.refl _ | exact OWk.imp (by repeat constructor)) ?_)⟩
                · skip
                  refine Tri.skip ?_
                  refine yR ?_
                  refine yF ?_
                  refine yL ?_
                  refine yI ?_
                  refine yM ?_
                  refine xF ?_
                  refine xL ?_
                  refine xI ?_
                  refine yO ?_
                  refine yM ?_
                  refine xF ?_
                  refine xL ?_
                  refine xI ?_
                  refine yO ?_
                  refine yM ?_
                  refine xF ?_
                  refine xL ?_
                  refine xM ?_
                  refine s_gg zG (v_callD (fun _ => off_c n 0 _)) ?_
                  refine yN ?_
                  refine e_seq ?_
                  repeat refine Tri.seq ?_
                  refine Tri.cond rfl (fun h11 => ?_) (fun h11 => ?_)
                  · skip
                    refine yR ?_
                    refine yB ?_
                    refine e_seq ?_
                    repeat refine Tri.seq ?_
                    exact Tri.ret ⟨.inr rfl, ret1 rfl resV_tmp (iv_imp (by first | (simp only [termErr, *, Bool.false_eq_true, Bool.true_and, Bool.false_and, Bool.or_false, Bool.or_true, Bool.true_or, Bool.false_or, if_false, if_true]; done) | (exfalso; simp_all; done) | (unfold termErr; (repeat' split) <;> simp_all <;> omega))), by repeat (first | exact OutH.nil | refine OutH.cons rfl (by first | exact ObImp.refl _ | exact OWk.imp (by repeat constructor)) ?_)⟩
                  · skip
                    refine Tri.skip ?_
                    refine yR ?_
                    refine yB ?_
                    refine e_seq ?_
                    repeat refine Tri.seq ?_
                    exact Tri.ret ⟨.inr rfl, ret1 rfl resV_tmp (iv_imp (by first | (simp only [termErr, *, Bool.false_eq_true, Bool.true_and, Bool.false_and, Bool.or_false, Bool.or_true, Bool.true_or, Bool.false_or, if_false, if_true]; done) | (exfalso; simp_all; done) | (unfold termErr; (repeat' split) <;> simp_all <;> omega))), by repeat (first | exact OutH.nil | refine OutH.cons rfl (by first | exact ObImp.refl _ | exact OWk.imp (by repeat constructor)) ?_)⟩
              · skip
                refine yR ?_
                refine yI ?_
                refine yA ?_
                refine e_seq ?_
                repeat refine Tri.seq ?_
                refine Tri.cond rfl (fun h9 => ?_) (fun h9 => ?_)
                · skip
                  refine yR ?_
                  refine yF ?_
                  refine yL ?_
                  refine yI ?_
                  refine yM ?_
                  refine xF ?_
                  refine xL ?_
                  refine xF ?_
                  refine xL ?_
                  refine xI ?_
                  refine yO ?_
                  refine e_seq ?_
                  repeat refine Tri.seq ?_
                  refine Tri.cond rfl (fun h10 => ?_) (fun h10 => ?_)
                  · skip
                    refine yR ?_
                    refine yB ?_
                    refine e_seq ?_
                    repeat refine Tri.seq ?_
                    exact Tri.ret ⟨.inr rfl, ret1 rfl resV_tmp (iv_imp (by first | (simp only [termErr, *, Bool.false_eq_true, Bool.true_and, Bool.false_and, Bool.or_false, Bool.or_true, Bool.true_or, Bool.false_or, if_false, if_true]; done) | (exfalso; simp_all; done) | (unfold termErr; (repeat' split) <;> simp_all <;> omega))), by repeat (first | exact OutH.nil | refine OutH.cons rfl (by first | exact ObImp.refl _ | exact OWk.imp (by repeat constructor)) ?_)⟩
                  · skip
                    refine Tri.skip ?_
                    refine yR ?_
                    refine yF ?_
                    refine yL ?_
                    refine yI ?_
                    refine yM ?_
                    refine xF ?_
                    refine xL ?_
                    refine xI ?_
                    refine yO ?_
                    refine yM ?_
                    refine xF ?_
                    refine xL ?_
                    refine xI ?_
                    refine yO ?_
                    refine yM ?_
                    refine xF ?_
                    refine xL ?_
                    refine xM ?_
                    refine s_gg zG (v_callD (fun _ => off_c n 0 _)) ?_
                    refine yN ?_
                    refine e_seq ?_
                    repeat refine Tri.seq ?_
                    refine Tri.cond rfl (fun h11 => ?_) (fun h11 => ?_)
                    · skip
                      refine yR ?_
                      refine yB ?_
                      refine e_seq ?_
                      repeat refine Tri.seq ?_
                      exact Tri.ret ⟨.inr rfl, ret1 rfl resV_tmp (iv_imp (by first | (simp only [termErr, *, Bool.false_eq_true, Bool.true_and, Bool.false_and, Bool.or_false, Bool.or_true, Bool.true_or, Bool.false_or, if_false, if_true]; done) | (exfalso; simp_all; done) | (unfold termErr; (repeat' split) <;> simp_all <;> omega))), by repeat (first | exact OutH.nil | refine OutH.cons rfl (by first | exact ObImp.refl _ | exact OWk.imp (by repeat constructor)) ?_)⟩
                    · skip
                      refine Tri.skip ?_
                      refine yR ?_
                      refine yB ?_
                      refine e_seq ?_
                      repeat refine Tri.seq ?_
                      exact Tri.ret ⟨.inr rfl, ret1 rfl resV_tmp (iv_imp (by first | (simp only [termErr, *, Bool.false_eq_true, Bool.true_and, Bool.false_and, Bool.or_false, Bool.or_true, Bool.true_or, Bool.false_or, if_false, if_true]; done) | (exfalso; simp_all; done) | (unfold termErr; (repeat' split) <;> simp_all <;> omega))), by repeat (first | exact OutH.nil | refine OutH.cons rfl (by first | exact ObImp.refl _ | exact OWk.imp (by repeat constructor)) ?_)⟩
                · skip
                  refine Tri.skip ?_
                  refine yR ?_
                  refine yF ?_
                  refine yL ?_
                  refine yI ?_
                  refine yM ?_
                  refine xF ?_
                  refine xL ?_
                  refine xI ?_
                  refine yO ?_
                  refine yM ?_
                  refine xF ?_
                  refine xL ?_
                  refine xI ?_
                  refine yO ?_
                  refine yM ?_
                  refine xF ?_
                  refine xL ?_
                  refine xM ?_
                  refine s_gg zG (v_callD (fun _ => off_c n 0 _)) ?_
                  refine yN ?_
                  refine e_seq ?_
                  repeat refine Tri.seq ?_
                  refine Tri.cond rfl (fun h11 => ?_) (fun h11 => ?_)
                  · skip
                    refine yR ?_
                    refine yB ?_
                    refine e_seq ?_
                    repeat refine Tri.seq ?_
                    exact Tri.ret ⟨.inr rfl, ret1 rfl resV_tmp (iv_imp (by first | (simp only [termErr, *, Bool.false_eq_true, Bool.true_and, Bool.false_and, Bool.or_false, Bool.or_true, Bool.true_or, Bool.false_or, if_false, if_true]; done) | (exfalso; simp_all; done) | (unfold termErr; (repeat' split) <;> simp_all <;> omega))), by repeat (first | exact OutH.nil | refine OutH.cons rfl (by first | exact ObImp.refl _ | exact OWk.imp (by repeat constructor)) ?_)⟩
                  · skip
                    refine Tri.skip ?_
                    refine yR ?_
                    refine yB ?_
                    refine e_seq ?_
                    repeat refine Tri.seq ?_
                    exact Tri.ret ⟨.inr rfl, ret1 rfl resV_tmp (iv_imp (by first | (simp only [termErr, *, Bool.false_eq_true, Bool.true_and, Bool.false_and, Bool.or_false, Bool.or_true, Bool.true_or, Bool.false_or, if_false, if_true]; done) | (exfalso; simp_all; done) | (unfold termErr; (repeat' split) <;> simp_all <;> omega))), by repeat (first | exact OutH.nil | refine OutH.cons rfl (by first | exact ObImp.refl _ | exact OWk.imp (by repeat constructor)) ?_)⟩
          · skip
            refine yR ?_
            refine yI ?_
            refine yA ?_
            refine e_seq ?_
            repeat refine Tri.seq ?_
            refine Tri.cond rfl (fun h6 => ?_) (fun h6 => ?_)
            · skip
              refine yR ?_
              refine yB ?_
              refine e_seq ?_
              refine yR ?_
              refine yF ?_
              refine yL ?_
              refine yI ?_
              refine yM ?_
              refine xF ?_
              refine xL ?_
              refine xI ?_
              refine yO ?_
              refine yM ?_
              refine xF ?_
              refine xL ?_
              refine xI ?_
              refine yO ?_
              refine yM ?_
              refine xF ?_
              refine xL ?_
              refine xM ?_
              refine s_gg zG (v_callD (fun _ => off_c n 0 _)) ?_
              refine yN ?_
              refine e_seq ?_
              repeat refine Tri.seq ?_
              refine Tri.cond rfl (fun h11 => ?_) (fun h11 => ?_)
              · skip
                refine yR ?_
                refine yB ?_
                refine e_seq ?_
                repeat refine Tri.seq ?_
                exact Tri.ret ⟨.inr rfl, ret1 rfl resV_tmp (iv_imp (by first | (simp only [termErr, *, Bool.false_eq_true, Bool.true_and, Bool.false_and, Bool.or_false, Bool.or_true, Bool.true_or, Bool.false_or, if_false, if_true]; done) | (exfalso; simp_all; done) | (unfold termErr; (repeat' split) <;> simp_all <;> omega))), by repeat (first | exact OutH.nil | refine OutH.cons rfl (by first | exact ObImp.refl _ | exact OWk.imp (by repeat constructor)) ?_)⟩
              · skip
                refine Tri.skip ?_
                refine yR ?_
                refine yB ?_
                refine e_seq ?_
                repeat refine Tri.seq ?_
                exact Tri.ret ⟨.inr rfl, ret1 rfl resV_tmp (iv_imp (by first | (simp only [termErr, *, Bool.false_eq_true, Bool.true_and, Bool.false_and, Bool.or_false, Bool.or_true, Bool.true_or, Bool.false_or, if_false, if_true]; done) | (exfalso; simp_all; done) | (unfold termErr; (repeat' split) <;> simp_all <;> omega))), by repeat (first | exact OutH.nil | refine OutH.cons rfl (by first | exact ObImp.refl _ | exact OWk.imp (by repeat constructor)) ?_)⟩
            · skip
              refine yR ?_
              refine yI ?_
              refine yA ?_
              refine e_seq ?_
              repeat refine Tri.seq ?_
              refine Tri.cond rfl (fun h7 => ?_) (fun h7 => ?_)
              · skip
                refine yR ?_
                refine yF ?_
                refine yL ?_
                refine yF ?_
                refine yL ?_
                refine yM ?_
                refine s_val (v_callO (fun _ => known_c depth n bound)) ?_
                refine yQ ?_
                refine e_seq ?_
                repeat refine Tri.seq ?_
                refine Tri.cond rfl (fun h8 => ?_) (fun h8 => ?_)
                · skip
                  refine yR ?_
                  refine yB ?_
                  refine e_seq ?_
                  repeat refine Tri.seq ?_
                  exact Tri.ret ⟨.inr rfl, ret1 rfl resV_tmp (iv_imp (by first | (simp only [termErr, *, Bool.false_eq_true, Bool.true_and, Bool.false_and, Bool.or_false, Bool.or_true, Bool.true_or, Bool.false_or, if_false, if_true]; done) | (exfalso; simp_all; done) | (unfold termErr; (repeat' split) <;> simp_all <;> omega))), by repeat (first | exact OutH.nil | refine OutH.cons rfl (by first | exact ObImp.refl _ | exact OWk.imp (by repeat constructor)) ?_)⟩
                · skip
                  refine Tri.skip ?_
                  refine yR ?_
                  refine yF ?_
                  refine yL ?_
                  refine yI ?_
                  refine yM ?_
                  refine xF ?_
                  refine xL ?_
                  refine xI ?_
                  refine yO ?_
                  refine yM ?_
                  refine xF ?_
                  refine xL ?_
                  refine xI ?_
                  refine yO ?_
                  refine yM ?_
                  refine xF ?_
                  refine xL ?_
                  refine xM ?_
                  refine s_gg zG (v_callD (fun _ => off_c n 0 _)) ?_
                  refine yN ?_
                  refine e_seq ?_
                  repeat refine Tri.seq ?_
                  refine Tri.cond rfl (fun h11 => ?_) (fun h11 => ?_)
                  · skip
                    refine yR ?_
                    refine yB ?_
                    refine e_seq ?_
                    repeat refine Tri.seq ?_
                    exact Tri.ret ⟨.inr rfl, ret1 rfl resV_tmp (iv_imp (by first | (simp only [termErr, *, Bool.false_eq_true, Bool.true_and, Bool.false_and, Bool.or_false, Bool.or_true, Bool.true_or, Bool.false_or, if_false, if_true]; done) | (exfalso; simp_all; done) | (unfold termErr; (repeat' split) <;> simp_all <;> omega))), by repeat (first | exact OutH.nil | refine OutH.cons rfl (by first | exact ObImp.refl _ | exact OWk.imp (by repeat constructor)) ?_)⟩
                  · skip
                    refine Tri.skip ?_
                    refine yR ?_
                    refine yB ?_
                    refine e_seq ?_
                    repeat refine Tri.seq ?_
                    exact Tri.ret ⟨.inr rfl, ret1 rfl resV_tmp (iv_imp (by first | (simp only [termErr, *, Bool.false_eq_true, Bool.true_and, Bool.false_and, Bool.or_false, Bool.or_true, Bool.true_or, Bool.false_or, if_false, if_true]; done) | (exfalso; simp_all; done) | (unfold termErr; (repeat' split) <;> simp_all <;> omega))), by repeat (first | exact OutH.nil | refine OutH.cons rfl (by first | exact ObImp.refl _ | exact OWk.imp (by repeat constructor)) ?_)⟩
              · skip
                refine yR ?_
                refine yI ?_
                refine yA ?_
                refine e_seq ?_
                repeat refine Tri.seq ?_
                refine Tri.cond rfl (fun h9 => ?_) (fun h9 => ?_)
                · skip
                  refine yR ?_
                  refine yF ?_
                  refine yL ?_
                  refine yI ?_
                  refine yM ?_
                  refine xF ?_
                  refine xL ?_
                  refine xF ?_
                  refine xL ?_
                  refine xI ?_
                  refine yO ?_
                  refine e_seq ?_
                  repeat refine Tri.seq ?_
                  refine Tri.cond rfl (fun h10 => ?_) (fun h10 => ?_)
                  · skip
                    refine yR ?_
                    refine yB ?_
                    refine e_seq ?_
                    repeat refine Tri.seq ?_
                    exact Tri.ret ⟨.inr rfl, ret1 rfl resV_tmp (iv_imp (by first | (simp only [termErr, *, Bool.false_eq_true, Bool.true_and, Bool.false_and, Bool.or_false, Bool.or_true, Bool.true_or, Bool.false_or, if_false, if_true]; done) | (exfalso; simp_all; done) | (unfold termErr; (repeat' split) <;> simp_all <;> omega))), by repeat (first | exact OutH.nil | refine OutH.cons rfl (by first | exact ObImp.refl _ | exact OWk.imp (by repeat constructor)) ?_)⟩
                  · skip
                    refine Tri.skip ?_
                    refine yR ?_
                    refine yF ?_
                    refine yL ?_
                    refine yI ?_
                    refine yM ?_
                    refine xF ?_
                    refine xL ?_
                    refine xI ?_
                    refine yO ?_
                    refine yM ?_
                    refine xF ?_
                    refine xL ?_
                    refine xI ?_
                    refine yO ?_
                    refine yM ?_
                    refine xF ?_
                    refine xL ?_
                    refine xM ?_
                    refine s_gg zG (v_callD (fun _ => off_c n 0 _)) ?_
                    refine yN ?_
                    refine e_seq ?_
                    repeat refine Tri.seq ?_
                    refine Tri.cond rfl (fun h11 => ?_) (fun h11 => ?_)
                    · skip
                      refine yR ?_
                      refine yB ?_
                      refine e_seq ?_
                      repeat refine Tri.seq ?_
                      exact Tri.ret ⟨.inr rfl, ret1 rfl resV_tmp (iv_imp (by first | (simp only [termErr, *, Bool.false_eq_true, Bool.true_and, Bool.false_and, Bool.or_false, Bool.or_true, Bool.true_or, Bool.false_or, if_false, if_true]; done) | (exfalso; simp_all; done) | (unfold termErr; (repeat' split) <;> simp_all <;> omega))), by repeat (first | exact OutH.nil | refine OutH.cons rfl (by first | exact ObImp.refl _ | exact OWk.imp (by repeat constructor)) ?_)⟩
                    · skip
                      refine Tri.skip ?_
                      refine yR ?_
                      refine yB ?_
                      refine e_seq ?_
                      repeat refine Tri.seq ?_
                      exact Tri.ret ⟨.inr rfl, ret1 rfl resV_tmp (iv_imp (by first | (simp only [termErr, *, Bool.false_eq_true, Bool.true_and, Bool.false_and, Bool.or_false, Bool.or_true, Bool.true_or, Bool.false_or, if_false, if_true]; done) | (exfalso; simp_all; done) | (unfold termErr; (repeat' split) <;> simp_all <;> omega))), by repeat (first | exact OutH.nil | refine OutH.cons rfl (by first | exact ObImp.refl _ | exact OWk.imp (by repeat constructor)) ?_)⟩
                · skip
                  refine Tri.skip ?_
                  refine yR ?_
                  refine yF ?_
                  refine yL ?_
                  refine yI ?_
                  refine yM ?_
                  refine xF ?_
                  refine xL ?_
                  refine xI ?_
                  refine yO ?_
                  refine yM ?_
                  refine xF ?_
                  refine xL ?_
                  refine xI ?_
                  refine yO ?_
                  refine yM ?_
                  refine xF ?_
                  refine xL ?_
                  refine xM ?_
                  refine s_gg zG (v_callD (fun _ => off_c n 0 _)) ?_
                  refine yN ?_
                  refine e_seq ?_
                  repeat refine Tri.seq ?_
                  refine Tri.cond rfl (fun h11 => ?_) (fun h11 => ?_)
                  · skip
                    refine yR ?_
                    refine yB ?_
                    refine e_seq ?_
                    repeat refine Tri.seq ?_
                    exact Tri.ret ⟨.inr rfl, ret1 rfl resV_tmp (iv_imp (by first | (simp only [termErr, *, Bool.false_eq_true, Bool.true_and, Bool.false_and, Bool.or_false, Bool.or_true, Bool.true_or, Bool.false_or, if_false, if_true]; done) | (exfalso; simp_all; done) | (unfold termErr; (repeat' split) <;> simp_all <;> omega))), by repeat (first | exact OutH.nil | refine OutH.cons rfl (by first | exact ObImp.refl _ | exact OWk.imp (by repeat constructor)) ?_)⟩
                  · skip
                    refine Tri.skip ?_
                    refine yR ?_
                    refine yB ?_
                    refine e_seq ?_
                    repeat refine Tri.seq ?_
                    exact Tri.ret ⟨.inr rfl, ret1 rfl resV_tmp (iv_imp (by first | (simp only [termErr, *, Bool.false_eq_true, Bool.true_and, Bool.false_and, Bool.or_false, Bool.or_true, Bool.true_or, Bool.false_or, if_false, if_true]; done) | (exfalso; simp_all; done) | (unfold termErr; (repeat' split) <;> simp_all <;> omega))), by repeat (first | exact OutH.nil | refine OutH.cons rfl (by first | exact ObImp.refl _ | exact OWk.imp (by repeat constructor)) ?_)⟩
theorem cterm_c (members depth bound : Int) (k n : Int) (r : List Int) (ks : List Tm) (cs : List Cs) :
    HCall Tryd.prog G 94 [chV members, .pu (tmc 0 (.mk k n r ks cs)), iv .i64 bound] (dpO depth) [] (iv .i64 (termErr members depth bound k n r ks.length cs.length)) [] [] := by
  have := cterm_c' (G := G) members depth bound k n r ks cs
  rwa [tms_length, css_length] at this
end Go.Proofs.YtkcgkignhpepkaaDoor

/- The parts of a term, and the checker of all of them. -/
namespace Go.Proofs.YtkcgkignhpepkaaDoor
open Go Hs
variable {G : List (Nat × TypeId × Pu)}

def csT : Cs → Tm
  | .mk _ t => t
def csB : Cs → Int
  | .mk p _ => bindsM p
structure It where
  i : Int
  t : Tm
  more : Int
def kidIts (k : Int) (ks : List Tm) : List It := ks.mapIdx fun i x => ⟨i, x, moreM k i⟩
def caseIts (n : Nat) (cs : List Cs) : List It := cs.mapIdx fun i c => ⟨(n : Int) + i, csT c, csB c⟩
def itsOf : Tm → List It
  | .mk k _ _ ks cs => kidIts k ks ++ caseIts ks.length cs
def partP (t : Tm) (m : Int) : Pu := .agg 155 [tmc 0 t, .leaf (.int .i64 m)]
def itE (x : It) : List PV := [iv .i64 x.i, .pu (partP x.t x.more)]

theorem parts_c (t : Tm) : HCall Tryd.prog G 96 [.pu (tmc 0 t)] [] [] (.fn (.func 105) [] [.ptr 801 [] 30]) [(801, .var 30 (.pu (tmc 0 t)))] [801] := by
  refine HCall.of_triD tbl 4 [] Tryd.func96 rfl rfl rfl fun w0 M ρ0 D0 => ?_
  refine yR ?_
  refine s_box SS 801 ?_
  refine yB ?_
  refine e_seqN [801] ?_
  refine yR ?_
  refine s_val (v_mkFnD SS) ?_
  refine yA ?_
  refine e_seq ?_
  repeat refine Tri.seq ?_
  exact Tri.ret ⟨.inr rfl, ret1 rfl resV_tmp (VImp.refl _), by repeat (first | exact OutH.nil | refine OutH.cons rfl (by first | exact ObImp.refl _ | exact OWk.imp (by repeat constructor)) ?_)⟩

/-- The objects of a loop over parts: what is found. -/
abbrev foO (e : Int) : List (Nat × Ob) := [(6, .var 61 (iv .i64 e))]
def rOf (r : Loop) : Option Int → Loop
  | none => r
  | some _ => doneL r .ret
def zOf : Option Int → Int
  | none => 0
  | some e => e
theorem yc_parts {P : Program} {X : Ctx} {l lam : Nat} {r : Loop} {HR : List (Nat × Ob)} {enc : It → List PV} {out : It → Option Int} {x : It} (h : YC P X l lam r HR (foO 0) enc out (fun _ => .ret) foO x) : YCall P X l (enc x) HR ((lam, .loop r) :: foO 0) (bv (out x).isNone) [(lam, .loop (rOf r (out x))), (6, .var 61 (iv .i64 (zOf (out x))))] := by
  unfold YC at h
  cases ho : out x with
  | none => rw [ho] at h; exact h
  | some e => rw [ho] at h; exact h

theorem find_at {α β : Type} {out : α → Option β} {l : List α} {i : Nat} (hi : i < l.length) (h : ∀ j (hj : j < i), out (l[j]'(by omega)) = none) {e : β} (he : out l[i] = some e) : l.findSome? out = some e := by
  induction l generalizing i with
  | nil => simp at hi
  | cons a l ih =>
    cases i with
    | zero => simp at he; simp [he]
    | succ i =>
      have h0 := h 0 (by omega)
      simp at h0
      simp only [List.findSome?_cons, h0]
      exact ih (by simpa using hi) (fun j hj => by have := h (j + 1) (by omega); simpa using this) (by simpa using he)
theorem find_none {α β : Type} {out : α → Option β} {l : List α} (h : ∀ j (hj : j < l.length), out l[j] = none) : l.findSome? out = none := by
  rw [List.findSome?_eq_none_iff]
  intro x hx
  obtain ⟨j, hj, rfl⟩ := List.getElem_of_mem hx
  exact h j hj

abbrev paO (t : Tm) (members depth bound : Int) : List (Nat × Ob) := [(801, .var 30 (.pu (tmc 0 t))), (3, .var 144 (chV members)), (5, .var 3 (iv .i64 bound)), (901, .var 3 (iv .i64 depth))]

theorem parts1_c (t : Tm) (hs : tsize t < 2^40) (members depth bound : Int) (out : It → Option Int) :
    IterC Tryd.prog G 105 [.ptr 801 [] 30] 900 [801, 3, 5, 901, 6, 900] (paO t members depth bound) (foO 0) (itsOf t) itE out (fun _ => .ret) foO := by
  obtain ⟨k, n, r, ks, cs⟩ := t
  refine IterC.of_tri tbl 49 Tryd.func105 rfl rfl (fun r z => by cases z <;> rfl) fun l rc w0 M ρ0 D0 hy => ?_
  simp only [tsize] at hs
  have hlen := length_tsizeL ks
  have hlenc := length_csizeL cs
  have hk : ∀ i (hi : i < ks.length), (itsOf (.mk k n r ks cs))[i]'(by simp [itsOf, kidIts, caseIts]; omega) = ⟨i, ks[i], moreM k i⟩ := fun i hi => by
    simp [itsOf, kidIts, List.getElem_append_left, hi]
  have hc : ∀ i (hi : i < cs.length), (itsOf (.mk k n r ks cs))[ks.length + i]'(by simp [itsOf, kidIts, caseIts]; omega) = ⟨(ks.length : Int) + i, csT cs[i], csB cs[i]⟩ := fun i hi => by
    simp [itsOf, kidIts, caseIts, List.getElem_append_right]
  have hL : (itsOf (.mk k n r ks cs)).length = ks.length + cs.length := by simp [itsOf, kidIts, caseIts]
  refine yR ?_
  refine yF ?_
  refine yK ?_
  refine yC ?_
  refine yJ ?_
  refine e_seq ?_
  repeat refine Tri.seq ?_
  refine Tri.block (Tri.loopW (σ := {i : Nat // ∀ j (hj : j < i) (hl : j < ks.length), out ⟨j, ks[j], moreM k j⟩ = none}) (fun i => ⟨[(0, .fn (.yield l) [] []), (1, .ptr 801 [] 30), (8, .pu (.sl 0 30 (tmsc 0 ks))), (9, iv .i64 (tmsc 0 ks).length), (10, iv .i64 i.1)], [(801, .var 30 (.pu (tmc 0 (.mk k n r ks cs)))), (3, .var 144 (chV members)), (5, .var 3 (iv .i64 bound)), (901, .var 3 (iv .i64 depth)), (900, .loop rc), (6, .var 61 (iv .i64 0))]⟩) (fun i => ks.length - i.1) ⟨0, by intro j hj; omega⟩ ?_ ?_ (fun i => ?_))
  · exact zW
  · exact zW
  refine yR ?_
  refine yI ?_
  refine e_seq ?_
  repeat refine Tri.seq ?_
  refine Tri.cond rfl (fun h0 => ?_) (fun h0 => ?_)
  · skip
    have hi : i.1 < ks.length := by rw [tms_length] at h0; simpa using h0
    have hy' := yc_parts (hy ⟨i.1, ks[i.1], moreM k i.1⟩ (by rw [← hk i.1 hi]; exact List.getElem_mem _))
    refine Tri.skip ?_
    repeat refine Tri.seq ?_
    refine Tri.block ?_
    refine yR ?_
    refine yM ?_
    refine s_val (v_index SS (h0 := by omega) (hp := tms_get hi)) ?_
    refine yL ?_
    refine s_alloc SS 4 ?_
    refine yA ?_
    refine yS ?_
    refine e_seqN [4] ?_
    refine yR ?_
    refine yM ?_
    refine yM ?_
    refine yL ?_
    refine yF ?_
    refine yL ?_
    refine yM ?_
    refine s_val (v_callD (fun _ => termMore_c k i.1)) ?_
    refine yP ?_
    refine s_yield hy' ?_
    refine yQ ?_
    refine e_draw ?_
    repeat refine Tri.seq ?_
    refine Tri.cond rfl (fun h1 => ?_) (fun h1 => ?_)
    · skip
      obtain ⟨e, he⟩ : ∃ e, out ⟨i.1, ks[i.1], moreM k i.1⟩ = some e := by
        cases ho : out ⟨i.1, ks[i.1], moreM k i.1⟩ with
        | none => rw [ho] at h1; cases h1
        | some e => exact ⟨e, rfl⟩
      have hfin : (itsOf (.mk k n r ks cs)).findSome? out = some e := find_at (i := i.1) (by rw [hL]; omega) (fun j hj => by rw [hk j (by omega)]; exact i.2 j hj (by omega)) (by rw [hk i.1 hi]; exact he)
      rw [hfin]
      repeat refine Tri.seq ?_
      exact Tri.ret ⟨.inr rfl, ret0, .cons rfl (by rw [he]; exact ObImp.refl _) (.cons rfl (by rw [he]; exact ObImp.refl _) .nil)⟩
    · skip
      have he : out ⟨i.1, ks[i.1], moreM k i.1⟩ = none := by
        cases ho : out ⟨i.1, ks[i.1], moreM k i.1⟩ with
        | none => rfl
        | some e => rw [ho] at h1; cases h1
      have hnext : ∀ j (hj : j < i.1 + 1) (hl : j < ks.length), out ⟨j, ks[j], moreM k j⟩ = none := fun j hj hl => by
        rcases Nat.lt_or_ge j i.1 with h' | h'
        · exact i.2 j h' hl
        · obtain rfl : j = i.1 := by omega
          exact he
      refine Tri.skip ?_
      refine yR ?_
      refine yI ?_
      refine yM ?_
      refine e_seq ?_
      refine ⟨⟨i.1 + 1, hnext⟩, by show ks.length - (i.1 + 1) < ks.length - i.1; omega, le_of ?_ ?_⟩
      · repeat (first | exact SubE.nil | refine SubE.cons rfl (by first | rfl | (rw [wrap64 (by omega) (by omega)]; rfl) | (rw [he]; rfl)) ?_)
      · repeat (first | exact SubH.nil | refine SubH.cons rfl (by first | rfl | (rw [wrap64 (by omega) (by omega)]; rfl) | (rw [he]; rfl)) ?_)
  · skip
    have hK : ∀ j (hj : j < ks.length), out ⟨j, ks[j], moreM k j⟩ = none := fun j hj => i.2 j (by rw [tms_length] at h0; simp at h0; omega) hj
    refine Tri.exit ?_
    refine yR ?_
    refine yF ?_
    refine yK ?_
    refine yC ?_
    refine yJ ?_
    refine e_seq ?_
    repeat refine Tri.seq ?_
    refine Tri.block (Tri.loopW (σ := {i : Nat // ∀ j (hj : j < i) (hl : j < cs.length), out ⟨(ks.length : Int) + j, csT cs[j], csB cs[j]⟩ = none}) (fun i => ⟨[(0, .fn (.yield l) [] []), (1, .ptr 801 [] 30), (27, .pu (.sl 0 34 (cssc 0 cs))), (28, iv .i64 (cssc 0 cs).length), (29, iv .i64 i.1)], [(801, .var 30 (.pu (tmc 0 (.mk k n r ks cs)))), (3, .var 144 (chV members)), (5, .var 3 (iv .i64 bound)), (901, .var 3 (iv .i64 depth)), (900, .loop rc), (6, .var 61 (iv .i64 0))]⟩) (fun i => cs.length - i.1) ⟨0, by intro j hj; omega⟩ ?_ ?_ (fun i => ?_))
    · exact zW
    · exact zW
    refine yR ?_
    refine yI ?_
    refine e_seq ?_
    repeat refine Tri.seq ?_
    refine Tri.cond rfl (fun h2 => ?_) (fun h2 => ?_)
    · skip
      have hi : i.1 < cs.length := by rw [css_length] at h2; simpa using h2
      have hy' := hc i.1 hi ▸ yc_parts (hy _ (List.getElem_mem (l := itsOf (.mk k n r ks cs)) (n := ks.length + i.1) (by rw [hL]; omega)))
      have hget := css_get (lo := 0) hi
      have hsz := csize_mem (List.getElem_mem hi)
      have hcm := i.2
      generalize hci : cs[i.1] = ci at hy' hget hsz
      obtain ⟨q, b⟩ := ci
      simp only [csT, csB] at hy'
      have hw : IntKind.wrap .i64 (((tmsc 0 ks).length : Int) + (i.1 : Int)) = (ks.length : Int) + i.1 := by rw [tms_length, wrap64 (by omega) (by omega)]
      refine Tri.skip ?_
      repeat refine Tri.seq ?_
      refine Tri.block ?_
      refine yR ?_
      refine yM ?_
      refine s_val (v_index SS (h0 := by omega) (hp := hget)) ?_
      refine yL ?_
      refine s_alloc SS 66 ?_
      refine yA ?_
      refine yS ?_
      refine e_seqN [66] ?_
      refine yR ?_
      refine yM ?_
      refine yF ?_
      refine yK ?_
      refine yC ?_
      refine yM ?_
      refine yI ?_
      refine yF ?_
      refine yL ?_
      refine yF ?_
      refine yL ?_
      refine s_val (v_callD (fun _ => termBinds_c _ q (Nat.le_refl _) (by simp only [csize] at hsz; omega))) ?_
      refine yP ?_
      refine s_yield hy' (himp := .cons (iv_imp hw) (.cons (VImp.refl _) .nil)) ?_
      refine yQ ?_
      refine e_draw ?_
      repeat refine Tri.seq ?_
      refine Tri.cond rfl (fun h3 => ?_) (fun h3 => ?_)
      · skip
        obtain ⟨e, he⟩ : ∃ e, out ⟨(ks.length : Int) + i.1, b, bindsM q⟩ = some e := by
          cases ho : out ⟨(ks.length : Int) + i.1, b, bindsM q⟩ with
          | none => rw [ho] at h3; cases h3
          | some e => exact ⟨e, rfl⟩
        have hfin : (itsOf (.mk k n r ks cs)).findSome? out = some e := find_at (i := ks.length + i.1) (by rw [hL]; omega) (fun j hj => by
          rcases Nat.lt_or_ge j ks.length with h' | h'
          · rw [hk j h']; exact hK j h'
          · obtain ⟨j', rfl⟩ := Nat.exists_eq_add_of_le h'
            rw [hc j' (by omega)]; exact hcm j' (by omega) (by omega)) (by rw [hc i.1 hi, hci]; exact he)
        rw [hfin]
        repeat refine Tri.seq ?_
        exact Tri.ret ⟨.inr rfl, ret0, .cons rfl (by rw [he]; exact ObImp.refl _) (.cons rfl (by rw [he]; exact ObImp.refl _) .nil)⟩
      · skip
        have he : out ⟨(ks.length : Int) + i.1, b, bindsM q⟩ = none := by
          cases ho : out ⟨(ks.length : Int) + i.1, b, bindsM q⟩ with
          | none => rfl
          | some e => rw [ho] at h3; cases h3
        have hnext : ∀ j (hj : j < i.1 + 1) (hl : j < cs.length), out ⟨(ks.length : Int) + j, csT cs[j], csB cs[j]⟩ = none := fun j hj hl => by
          rcases Nat.lt_or_ge j i.1 with h' | h'
          · exact hcm j h' hl
          · obtain rfl : j = i.1 := by omega
            rw [hci]; exact he
        refine Tri.skip ?_
        refine yR ?_
        refine yI ?_
        refine yM ?_
        refine e_seq ?_
        refine ⟨⟨i.1 + 1, hnext⟩, by show cs.length - (i.1 + 1) < cs.length - i.1; omega, le_of ?_ ?_⟩
        · repeat (first | exact SubE.nil | refine SubE.cons rfl (by first | rfl | (rw [wrap64 (by omega) (by omega)]; rfl) | (rw [he]; rfl)) ?_)
        · repeat (first | exact SubH.nil | refine SubH.cons rfl (by first | rfl | (rw [wrap64 (by omega) (by omega)]; rfl) | (rw [he]; rfl)) ?_)
    · skip
      have hC : ∀ j (hj : j < cs.length), out ⟨(ks.length : Int) + j, csT cs[j], csB cs[j]⟩ = none := fun j hj => i.2 j (by rw [css_length] at h2; simp at h2; omega) hj
      have hfin : (itsOf (.mk k n r ks cs)).findSome? out = none := find_none fun j hj => by
        rcases Nat.lt_or_ge j ks.length with h' | h'
        · rw [hk j h']; exact hK j h'
        · obtain ⟨j', rfl⟩ := Nat.exists_eq_add_of_le h'
          rw [hL] at hj
          rw [hc j' (by omega)]; exact hC j' (by omega)
      rw [hfin]
      refine Tri.exit ?_
      exact ⟨.inl rfl, ret0, .cons rfl (ObImp.refl _) (.cons rfl (ObImp.refl _) .nil)⟩
end Go.Proofs.YtkcgkignhpepkaaDoor

