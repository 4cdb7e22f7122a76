/- Part 4 of the proof: lemmas on walks and the walks of the functions, in their order. -/
import Derived.Test.YtkcgkignhpepkaaGreatDoorC3
import Derived.Test.YtkcgkignhpepkaaGreatDoorProg
set_option linter.unusedSimpArgs false
set_option linter.unusedVariables false
/- Terms and patterns as trees, and how they stand in memory. -/
namespace Go.Proofs.YtkcgkignhpepkaaGreatDoor
open Go Hs

inductive Pat where
  | mk (kind num : Int) (ref : List Int) (kids : List Pat)
mutual
inductive Tm where
  | mk (kind num : Int) (ref : List Int) (kids : List Tm) (cases : List Cs)
inductive Cs where
  | mk (pat : Pat) (body : Tm)
end

def refP (r : List Int) : Pu := .agg 28 (r.map fun n => .leaf (.int .u8 n))
def Z32 : List Int := List.replicate 32 0
mutual
def patc (lo : Nat) : Pat → Pu
  | .mk k n r ks => .agg 104 [.leaf (.int .i64 k), .leaf (.int .i64 n), refP r, .sl lo 104 (patsc lo ks)]
def patsc (lo : Nat) : List Pat → List Pu
  | [] => []
  | p :: ps => patc lo p :: patsc lo ps
end
mutual
def tmc (lo : Nat) : Tm → Pu
  | .mk k n r ks cs => .agg 32 [.leaf (.int .i64 k), .leaf (.int .i64 n), refP r, .sl lo 32 (tmsc lo ks), .sl lo 106 (cssc lo cs)]
def tmsc (lo : Nat) : List Tm → List Pu
  | [] => []
  | t :: ts => tmc lo t :: tmsc lo ts
def csec (lo : Nat) : Cs → Pu
  | .mk p t => .agg 106 [patc lo p, tmc lo t]
def cssc (lo : Nat) : List Cs → List Pu
  | [] => []
  | c :: cs => csec lo c :: cssc lo cs
end
variable {lo : Nat}
theorem pats_eq : ∀ ks, patsc lo ks = ks.map (patc lo)
  | [] => rfl
  | p :: ps => by simp [patsc, pats_eq ps]
theorem tms_eq : ∀ ks, tmsc lo ks = ks.map (tmc lo)
  | [] => rfl
  | p :: ps => by simp [tmsc, tms_eq ps]
theorem css_eq : ∀ ks, cssc lo ks = ks.map (csec lo)
  | [] => rfl
  | p :: ps => by simp [cssc, css_eq ps]
mutual
theorem patc_low {l m : Nat} (h : m ≤ l) : ∀ p, Low (patc l p) (patc m p)
  | .mk _ _ _ ks => .agg (.cons .refl (.cons .refl (.cons .refl (.cons (.sl h (patsc_low h ks)) .nil))))
theorem patsc_low {l m : Nat} (h : m ≤ l) : ∀ ps, Lows (patsc l ps) (patsc m ps)
  | [] => .nil
  | p :: ps => .cons (patc_low h p) (patsc_low h ps)
end
mutual
theorem tmc_low {l m : Nat} (h : m ≤ l) : ∀ t, Low (tmc l t) (tmc m t)
  | .mk _ _ _ ks cs => .agg (.cons .refl (.cons .refl (.cons .refl (.cons (.sl h (tmsc_low h ks)) (.cons (.sl h (cssc_low h cs)) .nil)))))
theorem tmsc_low {l m : Nat} (h : m ≤ l) : ∀ ts, Lows (tmsc l ts) (tmsc m ts)
  | [] => .nil
  | t :: ts => .cons (tmc_low h t) (tmsc_low h ts)
theorem csec_low {l m : Nat} (h : m ≤ l) : ∀ c, Low (csec l c) (csec m c)
  | .mk p t => .agg (.cons (patc_low h p) (.cons (tmc_low h t) .nil))
theorem cssc_low {l m : Nat} (h : m ≤ l) : ∀ cs, Lows (cssc l cs) (cssc m cs)
  | [] => .nil
  | c :: cs => .cons (csec_low h c) (cssc_low h cs)
end
instance (p : Pat) : LowI (patc lo p) (patc 0 p) := ⟨patc_low (Nat.zero_le _) p⟩
instance (t : Tm) : LowI (tmc lo t) (tmc 0 t) := ⟨tmc_low (Nat.zero_le _) t⟩
instance (c : Cs) : LowI (csec lo c) (csec 0 c) := ⟨csec_low (Nat.zero_le _) c⟩
instance (E : TypeId) (ts : List Tm) : LowI (.sl lo E (tmsc lo ts)) (.sl 0 E (tmsc 0 ts)) := ⟨.sl (Nat.zero_le _) (tmsc_low (Nat.zero_le _) ts)⟩
instance (E : TypeId) (ts : List Pat) : LowI (.sl lo E (patsc lo ts)) (.sl 0 E (patsc 0 ts)) := ⟨.sl (Nat.zero_le _) (patsc_low (Nat.zero_le _) ts)⟩
instance (E : TypeId) (ts : List Cs) : LowI (.sl lo E (cssc lo ts)) (.sl 0 E (cssc 0 ts)) := ⟨.sl (Nat.zero_le _) (cssc_low (Nat.zero_le _) ts)⟩
theorem pat_imp {P : Program} (p : Pat) : VImp P (.pu (patc lo p)) (.pu (patc 0 p)) := (patc_low (Nat.zero_le _) p).imp
theorem tm_imp {P : Program} (t : Tm) : VImp P (.pu (tmc lo t)) (.pu (tmc 0 t)) := (tmc_low (Nat.zero_le _) t).imp
theorem pats_get {ks : List Pat} {i : Nat} (h : i < ks.length) : (patsc lo ks)[i]? = some (patc lo ks[i]) := by simp [pats_eq, h]
theorem tms_get {ks : List Tm} {i : Nat} (h : i < ks.length) : (tmsc lo ks)[i]? = some (tmc lo ks[i]) := by simp [tms_eq, h]
theorem css_get {ks : List Cs} {i : Nat} (h : i < ks.length) : (cssc lo ks)[i]? = some (csec lo ks[i]) := by simp [css_eq, h]
theorem pats_length (ks : List Pat) : (patsc lo ks).length = ks.length := by simp [pats_eq]
theorem tms_length (ks : List Tm) : (tmsc lo ks).length = ks.length := by simp [tms_eq]
theorem css_length (ks : List Cs) : (cssc lo ks).length = ks.length := by simp [css_eq]

/-! ### How many nodes -/
mutual
def psize : Pat → Nat
  | .mk _ _ _ ks => 1 + psizeL ks
def psizeL : List Pat → Nat
  | [] => 0
  | p :: ps => psize p + psizeL ps
end
mutual
def tsize : Tm → Nat
  | .mk _ _ _ ks cs => 1 + tsizeL ks + csizeL cs
def tsizeL : List Tm → Nat
  | [] => 0
  | t :: ts => tsize t + tsizeL ts
def csize : Cs → Nat
  | .mk p t => psize p + tsize t
def csizeL : List Cs → Nat
  | [] => 0
  | c :: cs => csize c + csizeL cs
end
theorem psize_pos (p : Pat) : 1 ≤ psize p := by cases p; simp [psize]
theorem tsize_pos (t : Tm) : 1 ≤ tsize t := by cases t; simp [tsize]; omega
theorem csize_pos (c : Cs) : 1 ≤ csize c := by cases c with | mk p t => have := psize_pos p; simp [csize]; omega
theorem psizeL_get : ∀ {ks : List Pat} {i : Nat} (h : i < ks.length), psize ks[i] ≤ psizeL ks
  | p :: ps, 0, _ => by simp [psizeL]
  | p :: ps, i + 1, h => by
    have := psizeL_get (ks := ps) (i := i) (by simpa using h)
    simp [psizeL]; omega
theorem tsizeL_get : ∀ {ks : List Tm} {i : Nat} (h : i < ks.length), tsize ks[i] ≤ tsizeL ks
  | p :: ps, 0, _ => by simp [tsizeL]
  | p :: ps, i + 1, h => by
    have := tsizeL_get (ks := ps) (i := i) (by simpa using h)
    simp [tsizeL]; omega
theorem csizeL_get : ∀ {ks : List Cs} {i : Nat} (h : i < ks.length), csize ks[i] ≤ csizeL ks
  | p :: ps, 0, _ => by simp [csizeL]
  | p :: ps, i + 1, h => by
    have := csizeL_get (ks := ps) (i := i) (by simpa using h)
    simp [csizeL]; omega
theorem length_psizeL : ∀ (ks : List Pat), ks.length ≤ psizeL ks
  | [] => by simp [psizeL]
  | p :: ps => by
    have := length_psizeL ps
    have := psize_pos p
    simp [psizeL]; omega
theorem length_tsizeL : ∀ (ks : List Tm), ks.length ≤ tsizeL ks
  | [] => by simp [tsizeL]
  | p :: ps => by
    have := length_tsizeL ps
    have := tsize_pos p
    simp [tsizeL]; omega
theorem length_csizeL : ∀ (ks : List Cs), ks.length ≤ csizeL ks
  | [] => by simp [csizeL]
  | p :: ps => by
    have := length_csizeL ps
    have := csize_pos p
    simp [csizeL]; omega
theorem psizeL_take : ∀ {ks : List Pat} {i : Nat}, psizeL (ks.take i) ≤ psizeL ks
  | [], i => by simp [psizeL]
  | p :: ps, 0 => by simp [psizeL]
  | p :: ps, i + 1 => by
    have := psizeL_take (ks := ps) (i := i)
    simp [psizeL]; omega
theorem tsizeL_take : ∀ {ks : List Tm} {i : Nat}, tsizeL (ks.take i) ≤ tsizeL ks
  | [], i => by simp [tsizeL]
  | p :: ps, 0 => by simp [tsizeL]
  | p :: ps, i + 1 => by
    have := tsizeL_take (ks := ps) (i := i)
    simp [tsizeL]; omega
/-! ### The seat's types -/
theorem tbl : tableOk Tryz.prog = true := by kernel_rfl
theorem mixed : Tryz.prog.follows .mixedOrders = true := by kernel_rfl
noncomputable def SS : Seat Tryz.prog := Seat.auto [] tbl
theorem zG {p : Prop} (h : p := by first | exact Guard.T rfl rfl rfl | exact Guard.F rfl rfl rfl | exact Guard.gT rfl rfl rfl | exact Guard.gF rfl rfl rfl) : p := h
theorem yM {n g : Prop} (c : n) (h : n → g := by exact fun c => s_move SS c) : g := h c
theorem yL {n g : Prop} (c : n) (h : n → g := by first | exact fun c => s_val (v_load SS) c | exact fun c => s_val (v_loadp SS) c) : g := h c
theorem yI {n g : Prop} (c : n) (h : n → g := by exact fun c => s_val (v_int SS) c) : g := h c
theorem yA {n g : Prop} (c : n) (h : n → g := by first | exact fun c => s_assignOw c | exact fun c => s_val (v_assign SS) c) : g := h c
theorem yF {n g : Prop} (c : n) (h : n → g := by first | exact fun c => s_val (v_field SS) c | exact fun c => s_val (v_fieldp SS) c) : g := h c
theorem yB {n g : Prop} (c : n) (h : n → g := by exact fun c => s_val (v_assign SS) c) : g := h c
theorem yS {n g : Prop} (c : n) (h : n → g := by exact fun c => s_store SS c) : g := h c
theorem xL {n g : Prop} (c : n) (h : n → g := by first | exact fun c => s_gg zG (v_load SS) c | exact fun c => s_gg zG (v_loadp SS) c) : g := h c
theorem xF {n g : Prop} (c : n) (h : n → g := by first | exact fun c => s_gg zG (v_field SS) c | exact fun c => s_gg zG (v_fieldp SS) c) : g := h c
theorem yK {n g : Prop} (c : n) (h : n → g := by first | exact fun c => s_load SS c | exact fun c => s_val (v_loadp SS) c) : g := h c
theorem xI {n g : Prop} (c : n) (h : n → g := by exact fun c => s_gg zG (v_int SS) c) : g := h c
theorem xM {n g : Prop} (c : n) (h : n → g := by exact fun c => s_gg zG (v_move SS) c) : g := h c
theorem yN {n g : Prop} (c : n) (h : n → g := by exact fun c => s_val (v_and SS) c) : g := h c
theorem yC {n g : Prop} (c : n) (h : n → g := by first | exact fun c => s_val (v_len SS) c | exact fun c => s_val (v_lenx SS) c | exact fun c => s_val (v_len0 SS) c | exact fun c => s_val (v_lena SS) c) : g := h c
theorem yZ {n g : Prop} (c : n) (h : n → g := by exact fun c => s_sl SS c) : g := h c
theorem yX {n g : Prop} (c : n) (h : n → g := by exact fun c => s_val (v_extract SS) c) : g := h c
theorem yP {n g : Prop} (c : n) (h : n → g := by first | exact fun c => s_val (v_litP SS) c | exact fun c => s_val (v_litA SS) c) : g := h c
theorem yO {n g : Prop} (c : n) (h : n → g := by exact fun c => s_val (v_or SS) c) : g := h c
theorem yG {n g : Prop} (c : n) (h : n → g := by exact fun c => s_val (v_loadp SS) c) : g := h c
theorem yJ {n g : Prop} (c : n) (h : n → g := by exact fun c => s_val (v_move SS) c) : g := h c
theorem yY {n g : Prop} (c : n) (h : n → g := by exact fun c => s_val (v_nilCheck SS) c) : g := h c
theorem yQ {n g : Prop} (c : n) (h : n → g := by exact fun c => s_val (v_not SS) c) : g := h c
theorem yW {n g : Prop} (c : n) (h : n → g := by first | exact fun c => s_storeOw SS c | exact fun c => s_store SS c) : g := h c
theorem yT {n g : Prop} (c : n) (h : n → g := by first | exact fun c => s_val (v_lit0 SS) c | exact fun c => s_val (v_litP SS) c | exact fun c => s_val (v_litA SS) c) : g := h c
theorem xQ {n g : Prop} (c : n) (h : n → g := by exact fun c => s_gg zG (v_not SS) c) : g := h c
theorem xC {n g : Prop} (c : n) (h : n → g := by first | exact fun c => s_gg zG (v_len SS) c | exact fun c => s_gg zG (v_lenx SS) c | exact fun c => s_gg zG (v_len0 SS) c | exact fun c => s_gg zG (v_lena SS) c) : g := h c
theorem xN {n g : Prop} (c : n) (h : n → g := by exact fun c => s_gg zG (v_andg SS) c) : g := h c
theorem xP {n g : Prop} (c : n) (h : n → g := by first | exact fun c => s_gg zG (v_litP SS) c | exact fun c => s_gg zG (v_litA SS) c) : g := h c
theorem xO {n g : Prop} (c : n) (h : n → g := by exact fun c => s_gg zG (v_org SS) c) : g := h c
theorem zW {p : Prop} (h : p := by repeat (first | exact .nil | refine .cons rfl (by first | exact .refl | (focus ((repeat constructor); done))) ?_)) : p := h
theorem zE {p : Prop} (h : p := by repeat (first | exact SubE.nil | refine SubE.cons rfl (by first | rfl | (rw [wrap64 (by omega) (by omega)]; rfl)) ?_)) : p := h
theorem zH {p : Prop} (h : p := by repeat (first | exact SubH.nil | refine SubH.cons rfl (by first | rfl | (rw [wrap64 (by omega) (by omega)]; rfl)) ?_)) : p := h
theorem yR {n g : Prop} (c : n) (h : n → g := by intro c; (repeat refine Tri.seq ?_); exact Tri.region mixed c) : g := h c
instance : Okt Tryz.prog 1 1 := ⟨by kernel_rfl⟩
instance : Sc Tryz.prog 1 := ⟨by kernel_rfl⟩
instance : Zr SS 1 (.pu (.leaf .nilFunc)) := ⟨by kernel_rfl⟩
instance : Okt Tryz.prog 2 2 := ⟨by kernel_rfl⟩
instance : Sc Tryz.prog 2 := ⟨by kernel_rfl⟩
instance : Zr SS 2 (.pu (.leaf (.int .i64 0))) := ⟨by kernel_rfl⟩
instance : Okt Tryz.prog 3 3 := ⟨by kernel_rfl⟩
instance : Sc Tryz.prog 3 := ⟨by kernel_rfl⟩
instance : Zr SS 3 (.pu (.leaf (.int .i64 0))) := ⟨by kernel_rfl⟩
instance : Okt Tryz.prog 4 4 := ⟨by kernel_rfl⟩
instance : Sc Tryz.prog 4 := ⟨by kernel_rfl⟩
instance : Zr SS 4 (.pu (.leaf (.bool false))) := ⟨by kernel_rfl⟩
instance : Okt Tryz.prog 5 5 := ⟨by kernel_rfl⟩
instance : Sc Tryz.prog 5 := ⟨by kernel_rfl⟩
instance : Zr SS 5 (.pu (.leaf (.int .u8 0))) := ⟨by kernel_rfl⟩
instance : Okt Tryz.prog 9 9 := ⟨by kernel_rfl⟩
instance : Sc Tryz.prog 9 := ⟨by kernel_rfl⟩
instance : Zr SS 9 (.pu (.leaf (.string ⟨#[]⟩))) := ⟨by kernel_rfl⟩
instance : Okt Tryz.prog 12 12 := ⟨by kernel_rfl⟩
instance : Sc Tryz.prog 12 := ⟨by kernel_rfl⟩
instance : Zr SS 12 (.pu (.leaf (.int .u64 0))) := ⟨by kernel_rfl⟩
instance : Okt Tryz.prog 13 13 := ⟨by kernel_rfl⟩
instance : Ag Tryz.prog 13 := ⟨by kernel_rfl⟩
instance : AgT Tryz.prog 13 [9, 12] := ⟨by kernel_rfl⟩
instance : Fld Tryz.prog 13 0 9 := ⟨by kernel_rfl⟩
instance : Fld Tryz.prog 13 1 12 := ⟨by kernel_rfl⟩
instance : Zr SS 13 (.pu (.agg 13 [(.leaf (.string ⟨#[]⟩)), (.leaf (.int .u64 0))])) := ⟨by kernel_rfl⟩
instance : Okt Tryz.prog 21 21 := ⟨by kernel_rfl⟩
instance : Sc Tryz.prog 21 := ⟨by kernel_rfl⟩
instance : Zr SS 21 (.pu (.leaf (.int .i32 0))) := ⟨by kernel_rfl⟩
instance : Okt Tryz.prog 22 22 := ⟨by kernel_rfl⟩
instance : Sc Tryz.prog 22 := ⟨by kernel_rfl⟩
instance : Sl Tryz.prog 22 130 := ⟨by kernel_rfl⟩
instance : El Tryz.prog 22 130 80 := ⟨by kernel_rfl⟩
instance : Zr SS 22 .nilc := ⟨by kernel_rfl⟩
instance : Okt Tryz.prog 23 23 := ⟨by kernel_rfl⟩
instance : Sc Tryz.prog 23 := ⟨by kernel_rfl⟩
instance : Sl Tryz.prog 23 136 := ⟨by kernel_rfl⟩
instance : El Tryz.prog 23 136 72 := ⟨by kernel_rfl⟩
instance : Zr SS 23 .nilc := ⟨by kernel_rfl⟩
instance : Okt Tryz.prog 24 24 := ⟨by kernel_rfl⟩
instance : Sc Tryz.prog 24 := ⟨by kernel_rfl⟩
instance : Sl Tryz.prog 24 116 := ⟨by kernel_rfl⟩
instance : El Tryz.prog 24 116 128 := ⟨by kernel_rfl⟩
instance : Zr SS 24 .nilc := ⟨by kernel_rfl⟩
instance : Okt Tryz.prog 25 25 := ⟨by kernel_rfl⟩
instance : Ag Tryz.prog 25 := ⟨by kernel_rfl⟩
instance : AgT Tryz.prog 25 [22, 23, 24] := ⟨by kernel_rfl⟩
instance : Fld Tryz.prog 25 0 22 := ⟨by kernel_rfl⟩
instance : Fld Tryz.prog 25 1 23 := ⟨by kernel_rfl⟩
instance : Fld Tryz.prog 25 2 24 := ⟨by kernel_rfl⟩
instance : Zr SS 25 (.agg 25 [.nilc, .nilc, .nilc]) := ⟨by kernel_rfl⟩
instance : Okt Tryz.prog 26 26 := ⟨by kernel_rfl⟩
instance : Okt Tryz.prog 26 25 := ⟨by kernel_rfl⟩
instance : Okt Tryz.prog 25 26 := ⟨by kernel_rfl⟩
instance : Ag Tryz.prog 26 := ⟨by kernel_rfl⟩
instance : AgT Tryz.prog 26 [22, 23, 24] := ⟨by kernel_rfl⟩
instance : Fld Tryz.prog 26 0 22 := ⟨by kernel_rfl⟩
instance : Fld Tryz.prog 26 1 23 := ⟨by kernel_rfl⟩
instance : Fld Tryz.prog 26 2 24 := ⟨by kernel_rfl⟩
instance : Zr SS 26 (.agg 26 [.nilc, .nilc, .nilc]) := ⟨by kernel_rfl⟩
instance : Okt Tryz.prog 27 27 := ⟨by kernel_rfl⟩
instance : Ag Tryz.prog 27 := ⟨by kernel_rfl⟩
instance : Arr Tryz.prog 27 32 5 := ⟨by kernel_rfl⟩
instance : Zr SS 27 (.pu (.agg 27 (List.replicate 32 (.leaf (.int .u8 0))))) := ⟨by kernel_rfl⟩
instance : Okt Tryz.prog 28 28 := ⟨by kernel_rfl⟩
instance : Okt Tryz.prog 28 27 := ⟨by kernel_rfl⟩
instance : Okt Tryz.prog 27 28 := ⟨by kernel_rfl⟩
instance : Ag Tryz.prog 28 := ⟨by kernel_rfl⟩
instance : Arr Tryz.prog 28 32 5 := ⟨by kernel_rfl⟩
instance : Zr SS 28 (.pu (refP Z32)) := ⟨by kernel_rfl⟩
instance : Okt Tryz.prog 29 29 := ⟨by kernel_rfl⟩
instance : Sc Tryz.prog 29 := ⟨by kernel_rfl⟩
instance : Sl Tryz.prog 29 32 := ⟨by kernel_rfl⟩
instance : El Tryz.prog 29 32 96 := ⟨by kernel_rfl⟩
instance : Zr SS 29 .nilc := ⟨by kernel_rfl⟩
instance : Okt Tryz.prog 30 30 := ⟨by kernel_rfl⟩
instance : Sc Tryz.prog 30 := ⟨by kernel_rfl⟩
instance : Sl Tryz.prog 30 106 := ⟨by kernel_rfl⟩
instance : El Tryz.prog 30 106 168 := ⟨by kernel_rfl⟩
instance : Zr SS 30 .nilc := ⟨by kernel_rfl⟩
instance : Okt Tryz.prog 31 31 := ⟨by kernel_rfl⟩
instance : Ag Tryz.prog 31 := ⟨by kernel_rfl⟩
instance : AgT Tryz.prog 31 [3, 3, 28, 29, 30] := ⟨by kernel_rfl⟩
instance : Fld Tryz.prog 31 0 3 := ⟨by kernel_rfl⟩
instance : Fld Tryz.prog 31 1 3 := ⟨by kernel_rfl⟩
instance : Fld Tryz.prog 31 2 28 := ⟨by kernel_rfl⟩
instance : Fld Tryz.prog 31 3 29 := ⟨by kernel_rfl⟩
instance : Fld Tryz.prog 31 4 30 := ⟨by kernel_rfl⟩
instance : Zr SS 31 (.agg 31 [(.pu (.leaf (.int .i64 0))), (.pu (.leaf (.int .i64 0))), (.pu (refP Z32)), .nilc, .nilc]) := ⟨by kernel_rfl⟩
instance : Okt Tryz.prog 32 32 := ⟨by kernel_rfl⟩
instance : Okt Tryz.prog 32 31 := ⟨by kernel_rfl⟩
instance : Okt Tryz.prog 31 32 := ⟨by kernel_rfl⟩
instance : Ag Tryz.prog 32 := ⟨by kernel_rfl⟩
instance : AgT Tryz.prog 32 [3, 3, 28, 29, 30] := ⟨by kernel_rfl⟩
instance : Fld Tryz.prog 32 0 3 := ⟨by kernel_rfl⟩
instance : Fld Tryz.prog 32 1 3 := ⟨by kernel_rfl⟩
instance : Fld Tryz.prog 32 2 28 := ⟨by kernel_rfl⟩
instance : Fld Tryz.prog 32 3 29 := ⟨by kernel_rfl⟩
instance : Fld Tryz.prog 32 4 30 := ⟨by kernel_rfl⟩
instance : Zr SS 32 (.agg 32 [(.pu (.leaf (.int .i64 0))), (.pu (.leaf (.int .i64 0))), (.pu (refP Z32)), .nilc, .nilc]) := ⟨by kernel_rfl⟩
instance : Okt Tryz.prog 33 33 := ⟨by kernel_rfl⟩
instance : Sc Tryz.prog 33 := ⟨by kernel_rfl⟩
instance : Zr SS 33 (.pu (.leaf .nilFunc)) := ⟨by kernel_rfl⟩
instance : Okt Tryz.prog 34 34 := ⟨by kernel_rfl⟩
instance : Sc Tryz.prog 34 := ⟨by kernel_rfl⟩
instance : Zr SS 34 (.pu (.leaf .nilFunc)) := ⟨by kernel_rfl⟩
instance : Okt Tryz.prog 35 35 := ⟨by kernel_rfl⟩
instance : Sc Tryz.prog 35 := ⟨by kernel_rfl⟩
instance : Zr SS 35 (.pu (.leaf .nilFunc)) := ⟨by kernel_rfl⟩
instance : Okt Tryz.prog 36 36 := ⟨by kernel_rfl⟩
instance : Sc Tryz.prog 36 := ⟨by kernel_rfl⟩
instance : Zr SS 36 (.pu (.leaf .nilFunc)) := ⟨by kernel_rfl⟩
instance : Okt Tryz.prog 37 37 := ⟨by kernel_rfl⟩
instance : Okt Tryz.prog 37 3 := ⟨by kernel_rfl⟩
instance : Okt Tryz.prog 3 37 := ⟨by kernel_rfl⟩
instance : Sc Tryz.prog 37 := ⟨by kernel_rfl⟩
instance : Zr SS 37 (.pu (.leaf (.int .i64 0))) := ⟨by kernel_rfl⟩
instance : Okt Tryz.prog 38 38 := ⟨by kernel_rfl⟩
instance : Sc Tryz.prog 38 := ⟨by kernel_rfl⟩
instance : Zr SS 38 (.pu (.leaf .nilFunc)) := ⟨by kernel_rfl⟩
instance : Okt Tryz.prog 39 39 := ⟨by kernel_rfl⟩
instance : Sc Tryz.prog 39 := ⟨by kernel_rfl⟩
instance : Sl Tryz.prog 39 3 := ⟨by kernel_rfl⟩
instance : El Tryz.prog 39 3 8 := ⟨by kernel_rfl⟩
instance : Zr SS 39 .nilc := ⟨by kernel_rfl⟩
instance : Okt Tryz.prog 41 41 := ⟨by kernel_rfl⟩
instance : Sc Tryz.prog 41 := ⟨by kernel_rfl⟩
instance : Zr SS 41 (.pu (.leaf .nilFunc)) := ⟨by kernel_rfl⟩
instance : Okt Tryz.prog 43 43 := ⟨by kernel_rfl⟩
instance : Sc Tryz.prog 43 := ⟨by kernel_rfl⟩
instance : Zr SS 43 (.pu (.leaf .nilFunc)) := ⟨by kernel_rfl⟩
instance : Okt Tryz.prog 44 44 := ⟨by kernel_rfl⟩
instance : Sc Tryz.prog 44 := ⟨by kernel_rfl⟩
instance : Zr SS 44 (.pu (.leaf .nilFunc)) := ⟨by kernel_rfl⟩
instance : Okt Tryz.prog 45 45 := ⟨by kernel_rfl⟩
instance : Sc Tryz.prog 45 := ⟨by kernel_rfl⟩
instance : Zr SS 45 (.pu (.leaf .nilFunc)) := ⟨by kernel_rfl⟩
instance : Okt Tryz.prog 46 46 := ⟨by kernel_rfl⟩
instance : Sc Tryz.prog 46 := ⟨by kernel_rfl⟩
instance : Zr SS 46 (.pu (.leaf .nilFunc)) := ⟨by kernel_rfl⟩
instance : Okt Tryz.prog 47 47 := ⟨by kernel_rfl⟩
instance : Sc Tryz.prog 47 := ⟨by kernel_rfl⟩
instance : Zr SS 47 (.pu (.leaf .nilFunc)) := ⟨by kernel_rfl⟩
instance : Okt Tryz.prog 48 48 := ⟨by kernel_rfl⟩
instance : Sc Tryz.prog 48 := ⟨by kernel_rfl⟩
instance : Sl Tryz.prog 48 5 := ⟨by kernel_rfl⟩
instance : El Tryz.prog 48 5 1 := ⟨by kernel_rfl⟩
instance : Zr SS 48 .nilc := ⟨by kernel_rfl⟩
instance : Okt Tryz.prog 49 49 := ⟨by kernel_rfl⟩
instance : Sc Tryz.prog 49 := ⟨by kernel_rfl⟩
instance : Zr SS 49 (.pu (.leaf .nilFunc)) := ⟨by kernel_rfl⟩
instance : Okt Tryz.prog 50 50 := ⟨by kernel_rfl⟩
instance : Sc Tryz.prog 50 := ⟨by kernel_rfl⟩
instance : Zr SS 50 (.pu (.leaf (.pointer none))) := ⟨by kernel_rfl⟩
instance : Okt Tryz.prog 51 51 := ⟨by kernel_rfl⟩
instance : Sc Tryz.prog 51 := ⟨by kernel_rfl⟩
instance : Zr SS 51 (.pu (.leaf .nilFunc)) := ⟨by kernel_rfl⟩
instance : Okt Tryz.prog 52 52 := ⟨by kernel_rfl⟩
instance : Sc Tryz.prog 52 := ⟨by kernel_rfl⟩
instance : Zr SS 52 (.pu (.leaf .nilFunc)) := ⟨by kernel_rfl⟩
instance : Okt Tryz.prog 53 53 := ⟨by kernel_rfl⟩
instance : Sc Tryz.prog 53 := ⟨by kernel_rfl⟩
instance : Sl Tryz.prog 53 58 := ⟨by kernel_rfl⟩
instance : El Tryz.prog 53 58 112 := ⟨by kernel_rfl⟩
instance : Zr SS 53 .nilc := ⟨by kernel_rfl⟩
instance : Okt Tryz.prog 54 54 := ⟨by kernel_rfl⟩
instance : Sc Tryz.prog 54 := ⟨by kernel_rfl⟩
instance : Sl Tryz.prog 54 28 := ⟨by kernel_rfl⟩
instance : El Tryz.prog 54 28 32 := ⟨by kernel_rfl⟩
instance : Zr SS 54 .nilc := ⟨by kernel_rfl⟩
instance : Okt Tryz.prog 55 55 := ⟨by kernel_rfl⟩
instance : Ag Tryz.prog 55 := ⟨by kernel_rfl⟩
instance : AgT Tryz.prog 55 [54, 4, 3] := ⟨by kernel_rfl⟩
instance : Fld Tryz.prog 55 0 54 := ⟨by kernel_rfl⟩
instance : Fld Tryz.prog 55 1 4 := ⟨by kernel_rfl⟩
instance : Fld Tryz.prog 55 2 3 := ⟨by kernel_rfl⟩
instance : Zr SS 55 (.agg 55 [.nilc, (.pu (.leaf (.bool false))), (.pu (.leaf (.int .i64 0)))]) := ⟨by kernel_rfl⟩
instance : Okt Tryz.prog 56 56 := ⟨by kernel_rfl⟩
instance : Okt Tryz.prog 56 55 := ⟨by kernel_rfl⟩
instance : Okt Tryz.prog 55 56 := ⟨by kernel_rfl⟩
instance : Ag Tryz.prog 56 := ⟨by kernel_rfl⟩
instance : AgT Tryz.prog 56 [54, 4, 3] := ⟨by kernel_rfl⟩
instance : Fld Tryz.prog 56 0 54 := ⟨by kernel_rfl⟩
instance : Fld Tryz.prog 56 1 4 := ⟨by kernel_rfl⟩
instance : Fld Tryz.prog 56 2 3 := ⟨by kernel_rfl⟩
instance : Zr SS 56 (.agg 56 [.nilc, (.pu (.leaf (.bool false))), (.pu (.leaf (.int .i64 0)))]) := ⟨by kernel_rfl⟩
instance : Okt Tryz.prog 57 57 := ⟨by kernel_rfl⟩
instance : Ag Tryz.prog 57 := ⟨by kernel_rfl⟩
instance : AgT Tryz.prog 57 [3, 3, 28, 53, 56] := ⟨by kernel_rfl⟩
instance : Fld Tryz.prog 57 0 3 := ⟨by kernel_rfl⟩
instance : Fld Tryz.prog 57 1 3 := ⟨by kernel_rfl⟩
instance : Fld Tryz.prog 57 2 28 := ⟨by kernel_rfl⟩
instance : Fld Tryz.prog 57 3 53 := ⟨by kernel_rfl⟩
instance : Fld Tryz.prog 57 4 56 := ⟨by kernel_rfl⟩
instance : Zr SS 57 (.agg 57 [(.pu (.leaf (.int .i64 0))), (.pu (.leaf (.int .i64 0))), (.pu (refP Z32)), .nilc, (.agg 56 [.nilc, (.pu (.leaf (.bool false))), (.pu (.leaf (.int .i64 0)))])]) := ⟨by kernel_rfl⟩
instance : Okt Tryz.prog 58 58 := ⟨by kernel_rfl⟩
instance : Okt Tryz.prog 58 57 := ⟨by kernel_rfl⟩
instance : Okt Tryz.prog 57 58 := ⟨by kernel_rfl⟩
instance : Ag Tryz.prog 58 := ⟨by kernel_rfl⟩
instance : AgT Tryz.prog 58 [3, 3, 28, 53, 56] := ⟨by kernel_rfl⟩
instance : Fld Tryz.prog 58 0 3 := ⟨by kernel_rfl⟩
instance : Fld Tryz.prog 58 1 3 := ⟨by kernel_rfl⟩
instance : Fld Tryz.prog 58 2 28 := ⟨by kernel_rfl⟩
instance : Fld Tryz.prog 58 3 53 := ⟨by kernel_rfl⟩
instance : Fld Tryz.prog 58 4 56 := ⟨by kernel_rfl⟩
instance : Zr SS 58 (.agg 58 [(.pu (.leaf (.int .i64 0))), (.pu (.leaf (.int .i64 0))), (.pu (refP Z32)), .nilc, (.agg 56 [.nilc, (.pu (.leaf (.bool false))), (.pu (.leaf (.int .i64 0)))])]) := ⟨by kernel_rfl⟩
instance : Okt Tryz.prog 59 59 := ⟨by kernel_rfl⟩
instance : Sc Tryz.prog 59 := ⟨by kernel_rfl⟩
instance : Zr SS 59 (.pu (.leaf .nilFunc)) := ⟨by kernel_rfl⟩
instance : Okt Tryz.prog 60 60 := ⟨by kernel_rfl⟩
instance : Sc Tryz.prog 60 := ⟨by kernel_rfl⟩
instance : Zr SS 60 (.pu (.leaf .nilFunc)) := ⟨by kernel_rfl⟩
instance : Okt Tryz.prog 61 61 := ⟨by kernel_rfl⟩
instance : Sc Tryz.prog 61 := ⟨by kernel_rfl⟩
instance : Zr SS 61 (.pu (.leaf .nilFunc)) := ⟨by kernel_rfl⟩
instance : Okt Tryz.prog 62 62 := ⟨by kernel_rfl⟩
instance : Sc Tryz.prog 62 := ⟨by kernel_rfl⟩
instance : Zr SS 62 (.pu (.leaf .nilFunc)) := ⟨by kernel_rfl⟩
instance : Okt Tryz.prog 63 63 := ⟨by kernel_rfl⟩
instance : Sc Tryz.prog 63 := ⟨by kernel_rfl⟩
instance : Zr SS 63 (.pu (.leaf .nilFunc)) := ⟨by kernel_rfl⟩
instance : Okt Tryz.prog 64 64 := ⟨by kernel_rfl⟩
instance : Ag Tryz.prog 64 := ⟨by kernel_rfl⟩
instance : AgT Tryz.prog 64 [3, 3, 32, 28, 3] := ⟨by kernel_rfl⟩
instance : Fld Tryz.prog 64 0 3 := ⟨by kernel_rfl⟩
instance : Fld Tryz.prog 64 1 3 := ⟨by kernel_rfl⟩
instance : Fld Tryz.prog 64 2 32 := ⟨by kernel_rfl⟩
instance : Fld Tryz.prog 64 3 28 := ⟨by kernel_rfl⟩
instance : Fld Tryz.prog 64 4 3 := ⟨by kernel_rfl⟩
instance : Zr SS 64 (.agg 64 [(.pu (.leaf (.int .i64 0))), (.pu (.leaf (.int .i64 0))), (.agg 32 [(.pu (.leaf (.int .i64 0))), (.pu (.leaf (.int .i64 0))), (.pu (refP Z32)), .nilc, .nilc]), (.pu (refP Z32)), (.pu (.leaf (.int .i64 0)))]) := ⟨by kernel_rfl⟩
instance : Okt Tryz.prog 65 65 := ⟨by kernel_rfl⟩
instance : Okt Tryz.prog 65 64 := ⟨by kernel_rfl⟩
instance : Okt Tryz.prog 64 65 := ⟨by kernel_rfl⟩
instance : Ag Tryz.prog 65 := ⟨by kernel_rfl⟩
instance : AgT Tryz.prog 65 [3, 3, 32, 28, 3] := ⟨by kernel_rfl⟩
instance : Fld Tryz.prog 65 0 3 := ⟨by kernel_rfl⟩
instance : Fld Tryz.prog 65 1 3 := ⟨by kernel_rfl⟩
instance : Fld Tryz.prog 65 2 32 := ⟨by kernel_rfl⟩
instance : Fld Tryz.prog 65 3 28 := ⟨by kernel_rfl⟩
instance : Fld Tryz.prog 65 4 3 := ⟨by kernel_rfl⟩
instance : Zr SS 65 (.agg 65 [(.pu (.leaf (.int .i64 0))), (.pu (.leaf (.int .i64 0))), (.agg 32 [(.pu (.leaf (.int .i64 0))), (.pu (.leaf (.int .i64 0))), (.pu (refP Z32)), .nilc, .nilc]), (.pu (refP Z32)), (.pu (.leaf (.int .i64 0)))]) := ⟨by kernel_rfl⟩
instance : Okt Tryz.prog 67 67 := ⟨by kernel_rfl⟩
instance : Sc Tryz.prog 67 := ⟨by kernel_rfl⟩
instance : Zr SS 67 (.pu (.leaf .nilFunc)) := ⟨by kernel_rfl⟩
instance : Okt Tryz.prog 68 68 := ⟨by kernel_rfl⟩
instance : Sc Tryz.prog 68 := ⟨by kernel_rfl⟩
instance : Zr SS 68 (.pu (.leaf .nilFunc)) := ⟨by kernel_rfl⟩
instance : Okt Tryz.prog 69 69 := ⟨by kernel_rfl⟩
instance : Sc Tryz.prog 69 := ⟨by kernel_rfl⟩
instance : Zr SS 69 (.pu (.leaf .nilFunc)) := ⟨by kernel_rfl⟩
instance : Okt Tryz.prog 70 70 := ⟨by kernel_rfl⟩
instance : Sc Tryz.prog 70 := ⟨by kernel_rfl⟩
instance : Zr SS 70 (.pu (.leaf .nilFunc)) := ⟨by kernel_rfl⟩
instance : Okt Tryz.prog 71 71 := ⟨by kernel_rfl⟩
instance : Sc Tryz.prog 71 := ⟨by kernel_rfl⟩
instance : Zr SS 71 (.pu (.leaf .nilFunc)) := ⟨by kernel_rfl⟩
instance : Okt Tryz.prog 72 72 := ⟨by kernel_rfl⟩
instance : Sc Tryz.prog 72 := ⟨by kernel_rfl⟩
instance : Zr SS 72 (.pu (.leaf .nilFunc)) := ⟨by kernel_rfl⟩
instance : Okt Tryz.prog 73 73 := ⟨by kernel_rfl⟩
instance : Sc Tryz.prog 73 := ⟨by kernel_rfl⟩
instance : Zr SS 73 (.pu (.leaf .nilFunc)) := ⟨by kernel_rfl⟩
instance : Okt Tryz.prog 74 74 := ⟨by kernel_rfl⟩
instance : Sc Tryz.prog 74 := ⟨by kernel_rfl⟩
instance : Zr SS 74 (.pu (.leaf .nilFunc)) := ⟨by kernel_rfl⟩
instance : Okt Tryz.prog 75 75 := ⟨by kernel_rfl⟩
instance : Sc Tryz.prog 75 := ⟨by kernel_rfl⟩
instance : Zr SS 75 (.pu (.leaf .nilFunc)) := ⟨by kernel_rfl⟩
instance : Okt Tryz.prog 76 76 := ⟨by kernel_rfl⟩
instance : Sc Tryz.prog 76 := ⟨by kernel_rfl⟩
instance : Zr SS 76 (.pu (.leaf .nilFunc)) := ⟨by kernel_rfl⟩
instance : Okt Tryz.prog 77 77 := ⟨by kernel_rfl⟩
instance : Sc Tryz.prog 77 := ⟨by kernel_rfl⟩
instance : Zr SS 77 (.pu (.leaf .nilFunc)) := ⟨by kernel_rfl⟩
instance : Okt Tryz.prog 79 79 := ⟨by kernel_rfl⟩
instance : Sc Tryz.prog 79 := ⟨by kernel_rfl⟩
instance : Zr SS 79 (.pu (.leaf .nilFunc)) := ⟨by kernel_rfl⟩
instance : Okt Tryz.prog 81 81 := ⟨by kernel_rfl⟩
instance : Sc Tryz.prog 81 := ⟨by kernel_rfl⟩
instance : Zr SS 81 (.pu (.leaf .nilFunc)) := ⟨by kernel_rfl⟩
instance : Okt Tryz.prog 83 83 := ⟨by kernel_rfl⟩
instance : Sc Tryz.prog 83 := ⟨by kernel_rfl⟩
instance : Zr SS 83 (.pu (.leaf .nilFunc)) := ⟨by kernel_rfl⟩
instance : Okt Tryz.prog 84 84 := ⟨by kernel_rfl⟩
instance : Sc Tryz.prog 84 := ⟨by kernel_rfl⟩
instance : Zr SS 84 (.pu (.leaf .nilFunc)) := ⟨by kernel_rfl⟩
instance : Okt Tryz.prog 85 85 := ⟨by kernel_rfl⟩
instance : Sc Tryz.prog 85 := ⟨by kernel_rfl⟩
instance : Zr SS 85 (.pu (.leaf .nilFunc)) := ⟨by kernel_rfl⟩
instance : Okt Tryz.prog 86 86 := ⟨by kernel_rfl⟩
instance : Sc Tryz.prog 86 := ⟨by kernel_rfl⟩
instance : Zr SS 86 (.pu (.leaf .nilFunc)) := ⟨by kernel_rfl⟩
instance : Okt Tryz.prog 87 87 := ⟨by kernel_rfl⟩
instance : Okt Tryz.prog 87 64 := ⟨by kernel_rfl⟩
instance : Okt Tryz.prog 64 87 := ⟨by kernel_rfl⟩
instance : Ag Tryz.prog 87 := ⟨by kernel_rfl⟩
instance : AgT Tryz.prog 87 [3, 3, 32, 28, 3] := ⟨by kernel_rfl⟩
instance : Fld Tryz.prog 87 0 3 := ⟨by kernel_rfl⟩
instance : Fld Tryz.prog 87 1 3 := ⟨by kernel_rfl⟩
instance : Fld Tryz.prog 87 2 32 := ⟨by kernel_rfl⟩
instance : Fld Tryz.prog 87 3 28 := ⟨by kernel_rfl⟩
instance : Fld Tryz.prog 87 4 3 := ⟨by kernel_rfl⟩
instance : Zr SS 87 (.agg 87 [(.pu (.leaf (.int .i64 0))), (.pu (.leaf (.int .i64 0))), (.agg 32 [(.pu (.leaf (.int .i64 0))), (.pu (.leaf (.int .i64 0))), (.pu (refP Z32)), .nilc, .nilc]), (.pu (refP Z32)), (.pu (.leaf (.int .i64 0)))]) := ⟨by kernel_rfl⟩
instance : Okt Tryz.prog 89 89 := ⟨by kernel_rfl⟩
instance : Sc Tryz.prog 89 := ⟨by kernel_rfl⟩
instance : Zr SS 89 (.pu (.leaf .nilFunc)) := ⟨by kernel_rfl⟩
instance : Okt Tryz.prog 90 90 := ⟨by kernel_rfl⟩
instance : Sc Tryz.prog 90 := ⟨by kernel_rfl⟩
instance : Zr SS 90 (.pu (.leaf .nilFunc)) := ⟨by kernel_rfl⟩
instance : Okt Tryz.prog 92 92 := ⟨by kernel_rfl⟩
instance : Sc Tryz.prog 92 := ⟨by kernel_rfl⟩
instance : Zr SS 92 (.pu (.leaf .nilFunc)) := ⟨by kernel_rfl⟩
instance : Okt Tryz.prog 93 93 := ⟨by kernel_rfl⟩
instance : Sc Tryz.prog 93 := ⟨by kernel_rfl⟩
instance : Zr SS 93 (.pu (.leaf .nilFunc)) := ⟨by kernel_rfl⟩
instance : Okt Tryz.prog 94 94 := ⟨by kernel_rfl⟩
instance : Sc Tryz.prog 94 := ⟨by kernel_rfl⟩
instance : Zr SS 94 (.pu (.leaf .nilFunc)) := ⟨by kernel_rfl⟩
instance : Okt Tryz.prog 95 95 := ⟨by kernel_rfl⟩
instance : Sc Tryz.prog 95 := ⟨by kernel_rfl⟩
instance : Zr SS 95 (.pu (.leaf .nilFunc)) := ⟨by kernel_rfl⟩
instance : Okt Tryz.prog 96 96 := ⟨by kernel_rfl⟩
instance : Sc Tryz.prog 96 := ⟨by kernel_rfl⟩
instance : Zr SS 96 (.pu (.leaf .nilFunc)) := ⟨by kernel_rfl⟩
instance : Okt Tryz.prog 97 97 := ⟨by kernel_rfl⟩
instance : Sc Tryz.prog 97 := ⟨by kernel_rfl⟩
instance : Zr SS 97 (.pu (.leaf .nilFunc)) := ⟨by kernel_rfl⟩
instance : Okt Tryz.prog 98 98 := ⟨by kernel_rfl⟩
instance : Sc Tryz.prog 98 := ⟨by kernel_rfl⟩
instance : Zr SS 98 (.pu (.leaf .nilFunc)) := ⟨by kernel_rfl⟩
instance : Okt Tryz.prog 99 99 := ⟨by kernel_rfl⟩
instance : Sc Tryz.prog 99 := ⟨by kernel_rfl⟩
instance : Zr SS 99 (.pu (.leaf .nilFunc)) := ⟨by kernel_rfl⟩
instance : Okt Tryz.prog 100 100 := ⟨by kernel_rfl⟩
instance : Sc Tryz.prog 100 := ⟨by kernel_rfl⟩
instance : Zr SS 100 (.pu (.leaf .nilFunc)) := ⟨by kernel_rfl⟩
instance : Okt Tryz.prog 101 101 := ⟨by kernel_rfl⟩
instance : Sc Tryz.prog 101 := ⟨by kernel_rfl⟩
instance : Zr SS 101 (.pu (.leaf .nilFunc)) := ⟨by kernel_rfl⟩
instance : Okt Tryz.prog 102 102 := ⟨by kernel_rfl⟩
instance : Sc Tryz.prog 102 := ⟨by kernel_rfl⟩
instance : Sl Tryz.prog 102 104 := ⟨by kernel_rfl⟩
instance : El Tryz.prog 102 104 72 := ⟨by kernel_rfl⟩
instance : Zr SS 102 .nilc := ⟨by kernel_rfl⟩
instance : Okt Tryz.prog 103 103 := ⟨by kernel_rfl⟩
instance : Ag Tryz.prog 103 := ⟨by kernel_rfl⟩
instance : AgT Tryz.prog 103 [3, 3, 28, 102] := ⟨by kernel_rfl⟩
instance : Fld Tryz.prog 103 0 3 := ⟨by kernel_rfl⟩
instance : Fld Tryz.prog 103 1 3 := ⟨by kernel_rfl⟩
instance : Fld Tryz.prog 103 2 28 := ⟨by kernel_rfl⟩
instance : Fld Tryz.prog 103 3 102 := ⟨by kernel_rfl⟩
instance : Zr SS 103 (.agg 103 [(.pu (.leaf (.int .i64 0))), (.pu (.leaf (.int .i64 0))), (.pu (refP Z32)), .nilc]) := ⟨by kernel_rfl⟩
instance : Okt Tryz.prog 104 104 := ⟨by kernel_rfl⟩
instance : Okt Tryz.prog 104 103 := ⟨by kernel_rfl⟩
instance : Okt Tryz.prog 103 104 := ⟨by kernel_rfl⟩
instance : Ag Tryz.prog 104 := ⟨by kernel_rfl⟩
instance : AgT Tryz.prog 104 [3, 3, 28, 102] := ⟨by kernel_rfl⟩
instance : Fld Tryz.prog 104 0 3 := ⟨by kernel_rfl⟩
instance : Fld Tryz.prog 104 1 3 := ⟨by kernel_rfl⟩
instance : Fld Tryz.prog 104 2 28 := ⟨by kernel_rfl⟩
instance : Fld Tryz.prog 104 3 102 := ⟨by kernel_rfl⟩
instance : Zr SS 104 (.agg 104 [(.pu (.leaf (.int .i64 0))), (.pu (.leaf (.int .i64 0))), (.pu (refP Z32)), .nilc]) := ⟨by kernel_rfl⟩
instance : Okt Tryz.prog 105 105 := ⟨by kernel_rfl⟩
instance : Ag Tryz.prog 105 := ⟨by kernel_rfl⟩
instance : AgT Tryz.prog 105 [104, 32] := ⟨by kernel_rfl⟩
instance : Fld Tryz.prog 105 0 104 := ⟨by kernel_rfl⟩
instance : Fld Tryz.prog 105 1 32 := ⟨by kernel_rfl⟩
instance : Zr SS 105 (.agg 105 [(.agg 104 [(.pu (.leaf (.int .i64 0))), (.pu (.leaf (.int .i64 0))), (.pu (refP Z32)), .nilc]), (.agg 32 [(.pu (.leaf (.int .i64 0))), (.pu (.leaf (.int .i64 0))), (.pu (refP Z32)), .nilc, .nilc])]) := ⟨by kernel_rfl⟩
instance : Okt Tryz.prog 106 106 := ⟨by kernel_rfl⟩
instance : Okt Tryz.prog 106 105 := ⟨by kernel_rfl⟩
instance : Okt Tryz.prog 105 106 := ⟨by kernel_rfl⟩
instance : Ag Tryz.prog 106 := ⟨by kernel_rfl⟩
instance : AgT Tryz.prog 106 [104, 32] := ⟨by kernel_rfl⟩
instance : Fld Tryz.prog 106 0 104 := ⟨by kernel_rfl⟩
instance : Fld Tryz.prog 106 1 32 := ⟨by kernel_rfl⟩
instance : Zr SS 106 (.agg 106 [(.agg 104 [(.pu (.leaf (.int .i64 0))), (.pu (.leaf (.int .i64 0))), (.pu (refP Z32)), .nilc]), (.agg 32 [(.pu (.leaf (.int .i64 0))), (.pu (.leaf (.int .i64 0))), (.pu (refP Z32)), .nilc, .nilc])]) := ⟨by kernel_rfl⟩
instance : Okt Tryz.prog 107 107 := ⟨by kernel_rfl⟩
instance : Sc Tryz.prog 107 := ⟨by kernel_rfl⟩
instance : Zr SS 107 (.pu (.leaf .nilFunc)) := ⟨by kernel_rfl⟩
instance : Okt Tryz.prog 108 108 := ⟨by kernel_rfl⟩
instance : Sc Tryz.prog 108 := ⟨by kernel_rfl⟩
instance : Zr SS 108 (.pu (.leaf .nilFunc)) := ⟨by kernel_rfl⟩
instance : Okt Tryz.prog 109 109 := ⟨by kernel_rfl⟩
instance : Sc Tryz.prog 109 := ⟨by kernel_rfl⟩
instance : Zr SS 109 (.pu (.leaf .nilFunc)) := ⟨by kernel_rfl⟩
instance : Okt Tryz.prog 110 110 := ⟨by kernel_rfl⟩
instance : Sc Tryz.prog 110 := ⟨by kernel_rfl⟩
instance : Zr SS 110 (.pu (.leaf .nilFunc)) := ⟨by kernel_rfl⟩
instance : Okt Tryz.prog 111 111 := ⟨by kernel_rfl⟩
instance : Sc Tryz.prog 111 := ⟨by kernel_rfl⟩
instance : Zr SS 111 (.pu (.leaf .nilFunc)) := ⟨by kernel_rfl⟩
instance : Okt Tryz.prog 112 112 := ⟨by kernel_rfl⟩
instance : Sc Tryz.prog 112 := ⟨by kernel_rfl⟩
instance : Zr SS 112 (.pu (.leaf .nilFunc)) := ⟨by kernel_rfl⟩
instance : Okt Tryz.prog 113 113 := ⟨by kernel_rfl⟩
instance : Sc Tryz.prog 113 := ⟨by kernel_rfl⟩
instance : Zr SS 113 (.pu (.leaf (.int .u64 0))) := ⟨by kernel_rfl⟩
instance : Okt Tryz.prog 114 114 := ⟨by kernel_rfl⟩
instance : Sc Tryz.prog 114 := ⟨by kernel_rfl⟩
instance : Zr SS 114 (.pu (.leaf .nilFunc)) := ⟨by kernel_rfl⟩
instance : Okt Tryz.prog 115 115 := ⟨by kernel_rfl⟩
instance : Ag Tryz.prog 115 := ⟨by kernel_rfl⟩
instance : AgT Tryz.prog 115 [28, 32] := ⟨by kernel_rfl⟩
instance : Fld Tryz.prog 115 0 28 := ⟨by kernel_rfl⟩
instance : Fld Tryz.prog 115 1 32 := ⟨by kernel_rfl⟩
instance : Zr SS 115 (.agg 115 [(.pu (refP Z32)), (.agg 32 [(.pu (.leaf (.int .i64 0))), (.pu (.leaf (.int .i64 0))), (.pu (refP Z32)), .nilc, .nilc])]) := ⟨by kernel_rfl⟩
instance : Okt Tryz.prog 116 116 := ⟨by kernel_rfl⟩
instance : Okt Tryz.prog 116 115 := ⟨by kernel_rfl⟩
instance : Okt Tryz.prog 115 116 := ⟨by kernel_rfl⟩
instance : Ag Tryz.prog 116 := ⟨by kernel_rfl⟩
instance : AgT Tryz.prog 116 [28, 32] := ⟨by kernel_rfl⟩
instance : Fld Tryz.prog 116 0 28 := ⟨by kernel_rfl⟩
instance : Fld Tryz.prog 116 1 32 := ⟨by kernel_rfl⟩
instance : Zr SS 116 (.agg 116 [(.pu (refP Z32)), (.agg 32 [(.pu (.leaf (.int .i64 0))), (.pu (.leaf (.int .i64 0))), (.pu (refP Z32)), .nilc, .nilc])]) := ⟨by kernel_rfl⟩
instance : Okt Tryz.prog 117 117 := ⟨by kernel_rfl⟩
instance : Sc Tryz.prog 117 := ⟨by kernel_rfl⟩
instance : Zr SS 117 (.pu (.leaf .nilFunc)) := ⟨by kernel_rfl⟩
instance : Okt Tryz.prog 118 118 := ⟨by kernel_rfl⟩
instance : Sc Tryz.prog 118 := ⟨by kernel_rfl⟩
instance : Zr SS 118 (.pu (.leaf .nilFunc)) := ⟨by kernel_rfl⟩
instance : Okt Tryz.prog 119 119 := ⟨by kernel_rfl⟩
instance : Sc Tryz.prog 119 := ⟨by kernel_rfl⟩
instance : Zr SS 119 (.pu (.leaf .nilFunc)) := ⟨by kernel_rfl⟩
instance : Okt Tryz.prog 120 120 := ⟨by kernel_rfl⟩
instance : Sc Tryz.prog 120 := ⟨by kernel_rfl⟩
instance : Zr SS 120 (.pu (.leaf .nilFunc)) := ⟨by kernel_rfl⟩
instance : Okt Tryz.prog 121 121 := ⟨by kernel_rfl⟩
instance : Sc Tryz.prog 121 := ⟨by kernel_rfl⟩
instance : Zr SS 121 (.pu (.leaf .nilFunc)) := ⟨by kernel_rfl⟩
instance : Okt Tryz.prog 122 122 := ⟨by kernel_rfl⟩
instance : Sc Tryz.prog 122 := ⟨by kernel_rfl⟩
instance : Zr SS 122 (.pu (.leaf .nilFunc)) := ⟨by kernel_rfl⟩
instance : Okt Tryz.prog 123 123 := ⟨by kernel_rfl⟩
instance : Sc Tryz.prog 123 := ⟨by kernel_rfl⟩
instance : Zr SS 123 (.pu (.leaf .nilFunc)) := ⟨by kernel_rfl⟩
instance : Okt Tryz.prog 124 124 := ⟨by kernel_rfl⟩
instance : Sc Tryz.prog 124 := ⟨by kernel_rfl⟩
instance : Zr SS 124 (.pu (.leaf .nilFunc)) := ⟨by kernel_rfl⟩
instance : Okt Tryz.prog 125 125 := ⟨by kernel_rfl⟩
instance : Sc Tryz.prog 125 := ⟨by kernel_rfl⟩
instance : Zr SS 125 (.pu (.leaf .nilFunc)) := ⟨by kernel_rfl⟩
instance : Okt Tryz.prog 126 126 := ⟨by kernel_rfl⟩
instance : Sc Tryz.prog 126 := ⟨by kernel_rfl⟩
instance : Sl Tryz.prog 126 53 := ⟨by kernel_rfl⟩
instance : El Tryz.prog 126 53 24 := ⟨by kernel_rfl⟩
instance : Zr SS 126 .nilc := ⟨by kernel_rfl⟩
instance : Okt Tryz.prog 127 127 := ⟨by kernel_rfl⟩
instance : Ag Tryz.prog 127 := ⟨by kernel_rfl⟩
instance : AgT Tryz.prog 127 [9, 3, 126] := ⟨by kernel_rfl⟩
instance : Fld Tryz.prog 127 0 9 := ⟨by kernel_rfl⟩
instance : Fld Tryz.prog 127 1 3 := ⟨by kernel_rfl⟩
instance : Fld Tryz.prog 127 2 126 := ⟨by kernel_rfl⟩
instance : Zr SS 127 (.agg 127 [(.pu (.leaf (.string ⟨#[]⟩))), (.pu (.leaf (.int .i64 0))), .nilc]) := ⟨by kernel_rfl⟩
instance : Okt Tryz.prog 128 128 := ⟨by kernel_rfl⟩
instance : Okt Tryz.prog 128 127 := ⟨by kernel_rfl⟩
instance : Okt Tryz.prog 127 128 := ⟨by kernel_rfl⟩
instance : Ag Tryz.prog 128 := ⟨by kernel_rfl⟩
instance : AgT Tryz.prog 128 [9, 3, 126] := ⟨by kernel_rfl⟩
instance : Fld Tryz.prog 128 0 9 := ⟨by kernel_rfl⟩
instance : Fld Tryz.prog 128 1 3 := ⟨by kernel_rfl⟩
instance : Fld Tryz.prog 128 2 126 := ⟨by kernel_rfl⟩
instance : Zr SS 128 (.agg 128 [(.pu (.leaf (.string ⟨#[]⟩))), (.pu (.leaf (.int .i64 0))), .nilc]) := ⟨by kernel_rfl⟩
instance : Okt Tryz.prog 129 129 := ⟨by kernel_rfl⟩
instance : Ag Tryz.prog 129 := ⟨by kernel_rfl⟩
instance : AgT Tryz.prog 129 [28, 128] := ⟨by kernel_rfl⟩
instance : Fld Tryz.prog 129 0 28 := ⟨by kernel_rfl⟩
instance : Fld Tryz.prog 129 1 128 := ⟨by kernel_rfl⟩
instance : Zr SS 129 (.agg 129 [(.pu (refP Z32)), (.agg 128 [(.pu (.leaf (.string ⟨#[]⟩))), (.pu (.leaf (.int .i64 0))), .nilc])]) := ⟨by kernel_rfl⟩
instance : Okt Tryz.prog 130 130 := ⟨by kernel_rfl⟩
instance : Okt Tryz.prog 130 129 := ⟨by kernel_rfl⟩
instance : Okt Tryz.prog 129 130 := ⟨by kernel_rfl⟩
instance : Ag Tryz.prog 130 := ⟨by kernel_rfl⟩
instance : AgT Tryz.prog 130 [28, 128] := ⟨by kernel_rfl⟩
instance : Fld Tryz.prog 130 0 28 := ⟨by kernel_rfl⟩
instance : Fld Tryz.prog 130 1 128 := ⟨by kernel_rfl⟩
instance : Zr SS 130 (.agg 130 [(.pu (refP Z32)), (.agg 128 [(.pu (.leaf (.string ⟨#[]⟩))), (.pu (.leaf (.int .i64 0))), .nilc])]) := ⟨by kernel_rfl⟩
instance : Okt Tryz.prog 131 131 := ⟨by kernel_rfl⟩
instance : Sc Tryz.prog 131 := ⟨by kernel_rfl⟩
instance : Zr SS 131 (.pu (.leaf .nilFunc)) := ⟨by kernel_rfl⟩
instance : Okt Tryz.prog 132 132 := ⟨by kernel_rfl⟩
instance : Sc Tryz.prog 132 := ⟨by kernel_rfl⟩
instance : Sl Tryz.prog 132 167 := ⟨by kernel_rfl⟩
instance : El Tryz.prog 132 167 224 := ⟨by kernel_rfl⟩
instance : Zr SS 132 .nilc := ⟨by kernel_rfl⟩
instance : Okt Tryz.prog 133 133 := ⟨by kernel_rfl⟩
instance : Ag Tryz.prog 133 := ⟨by kernel_rfl⟩
instance : AgT Tryz.prog 133 [9, 132] := ⟨by kernel_rfl⟩
instance : Fld Tryz.prog 133 0 9 := ⟨by kernel_rfl⟩
instance : Fld Tryz.prog 133 1 132 := ⟨by kernel_rfl⟩
instance : Zr SS 133 (.agg 133 [(.pu (.leaf (.string ⟨#[]⟩))), .nilc]) := ⟨by kernel_rfl⟩
instance : Okt Tryz.prog 134 134 := ⟨by kernel_rfl⟩
instance : Okt Tryz.prog 134 133 := ⟨by kernel_rfl⟩
instance : Okt Tryz.prog 133 134 := ⟨by kernel_rfl⟩
instance : Ag Tryz.prog 134 := ⟨by kernel_rfl⟩
instance : AgT Tryz.prog 134 [9, 132] := ⟨by kernel_rfl⟩
instance : Fld Tryz.prog 134 0 9 := ⟨by kernel_rfl⟩
instance : Fld Tryz.prog 134 1 132 := ⟨by kernel_rfl⟩
instance : Zr SS 134 (.agg 134 [(.pu (.leaf (.string ⟨#[]⟩))), .nilc]) := ⟨by kernel_rfl⟩
instance : Okt Tryz.prog 135 135 := ⟨by kernel_rfl⟩
instance : Ag Tryz.prog 135 := ⟨by kernel_rfl⟩
instance : AgT Tryz.prog 135 [28, 134] := ⟨by kernel_rfl⟩
instance : Fld Tryz.prog 135 0 28 := ⟨by kernel_rfl⟩
instance : Fld Tryz.prog 135 1 134 := ⟨by kernel_rfl⟩
instance : Zr SS 135 (.agg 135 [(.pu (refP Z32)), (.agg 134 [(.pu (.leaf (.string ⟨#[]⟩))), .nilc])]) := ⟨by kernel_rfl⟩
instance : Okt Tryz.prog 136 136 := ⟨by kernel_rfl⟩
instance : Okt Tryz.prog 136 135 := ⟨by kernel_rfl⟩
instance : Okt Tryz.prog 135 136 := ⟨by kernel_rfl⟩
instance : Ag Tryz.prog 136 := ⟨by kernel_rfl⟩
instance : AgT Tryz.prog 136 [28, 134] := ⟨by kernel_rfl⟩
instance : Fld Tryz.prog 136 0 28 := ⟨by kernel_rfl⟩
instance : Fld Tryz.prog 136 1 134 := ⟨by kernel_rfl⟩
instance : Zr SS 136 (.agg 136 [(.pu (refP Z32)), (.agg 134 [(.pu (.leaf (.string ⟨#[]⟩))), .nilc])]) := ⟨by kernel_rfl⟩
instance : Okt Tryz.prog 137 137 := ⟨by kernel_rfl⟩
instance : Sc Tryz.prog 137 := ⟨by kernel_rfl⟩
instance : Zr SS 137 (.pu (.leaf .nilFunc)) := ⟨by kernel_rfl⟩
instance : Okt Tryz.prog 138 138 := ⟨by kernel_rfl⟩
instance : Sc Tryz.prog 138 := ⟨by kernel_rfl⟩
instance : Zr SS 138 (.pu (.leaf .nilFunc)) := ⟨by kernel_rfl⟩
instance : Okt Tryz.prog 139 139 := ⟨by kernel_rfl⟩
instance : Sc Tryz.prog 139 := ⟨by kernel_rfl⟩
instance : Zr SS 139 (.pu (.leaf .nilFunc)) := ⟨by kernel_rfl⟩
instance : Okt Tryz.prog 140 140 := ⟨by kernel_rfl⟩
instance : Sc Tryz.prog 140 := ⟨by kernel_rfl⟩
instance : Zr SS 140 (.pu (.leaf .nilFunc)) := ⟨by kernel_rfl⟩
instance : Okt Tryz.prog 141 141 := ⟨by kernel_rfl⟩
instance : Sc Tryz.prog 141 := ⟨by kernel_rfl⟩
instance : Zr SS 141 (.pu (.leaf .nilFunc)) := ⟨by kernel_rfl⟩
instance : Okt Tryz.prog 142 142 := ⟨by kernel_rfl⟩
instance : Sc Tryz.prog 142 := ⟨by kernel_rfl⟩
instance : Zr SS 142 (.pu (.leaf .nilFunc)) := ⟨by kernel_rfl⟩
instance : Okt Tryz.prog 144 144 := ⟨by kernel_rfl⟩
instance : Sc Tryz.prog 144 := ⟨by kernel_rfl⟩
instance : Zr SS 144 (.pu (.leaf .nilFunc)) := ⟨by kernel_rfl⟩
instance : Okt Tryz.prog 145 145 := ⟨by kernel_rfl⟩
instance : Sc Tryz.prog 145 := ⟨by kernel_rfl⟩
instance : Zr SS 145 (.pu (.leaf .nilFunc)) := ⟨by kernel_rfl⟩
instance : Okt Tryz.prog 146 146 := ⟨by kernel_rfl⟩
instance : Ag Tryz.prog 146 := ⟨by kernel_rfl⟩
instance : AgT Tryz.prog 146 [39, 29] := ⟨by kernel_rfl⟩
instance : Fld Tryz.prog 146 0 39 := ⟨by kernel_rfl⟩
instance : Fld Tryz.prog 146 1 29 := ⟨by kernel_rfl⟩
instance : Zr SS 146 (.agg 146 [.nilc, .nilc]) := ⟨by kernel_rfl⟩
instance : Okt Tryz.prog 147 147 := ⟨by kernel_rfl⟩
instance : Okt Tryz.prog 147 146 := ⟨by kernel_rfl⟩
instance : Okt Tryz.prog 146 147 := ⟨by kernel_rfl⟩
instance : Ag Tryz.prog 147 := ⟨by kernel_rfl⟩
instance : AgT Tryz.prog 147 [39, 29] := ⟨by kernel_rfl⟩
instance : Fld Tryz.prog 147 0 39 := ⟨by kernel_rfl⟩
instance : Fld Tryz.prog 147 1 29 := ⟨by kernel_rfl⟩
instance : Zr SS 147 (.agg 147 [.nilc, .nilc]) := ⟨by kernel_rfl⟩
instance : Okt Tryz.prog 148 148 := ⟨by kernel_rfl⟩
instance : Sc Tryz.prog 148 := ⟨by kernel_rfl⟩
instance : Zr SS 148 (.pu (.leaf .nilFunc)) := ⟨by kernel_rfl⟩
instance : Okt Tryz.prog 149 149 := ⟨by kernel_rfl⟩
instance : Sc Tryz.prog 149 := ⟨by kernel_rfl⟩
instance : Zr SS 149 (.pu (.leaf (.pointer none))) := ⟨by kernel_rfl⟩
instance : Okt Tryz.prog 150 150 := ⟨by kernel_rfl⟩
instance : Sc Tryz.prog 150 := ⟨by kernel_rfl⟩
instance : Zr SS 150 (.pu (.leaf .nilFunc)) := ⟨by kernel_rfl⟩
instance : Okt Tryz.prog 151 151 := ⟨by kernel_rfl⟩
instance : Sc Tryz.prog 151 := ⟨by kernel_rfl⟩
instance : Zr SS 151 (.pu (.leaf .nilFunc)) := ⟨by kernel_rfl⟩
instance : Okt Tryz.prog 152 152 := ⟨by kernel_rfl⟩
instance : Sc Tryz.prog 152 := ⟨by kernel_rfl⟩
instance : Mp Tryz.prog 152 28 4 := ⟨by kernel_rfl⟩
instance : Zr SS 152 (.pu (.leaf (.map none))) := ⟨by kernel_rfl⟩
instance : Okt Tryz.prog 153 153 := ⟨by kernel_rfl⟩
instance : Sc Tryz.prog 153 := ⟨by kernel_rfl⟩
instance : Zr SS 153 (.pu (.leaf .nilFunc)) := ⟨by kernel_rfl⟩
instance : Okt Tryz.prog 154 154 := ⟨by kernel_rfl⟩
instance : Sc Tryz.prog 154 := ⟨by kernel_rfl⟩
instance : Zr SS 154 (.pu (.leaf .nilFunc)) := ⟨by kernel_rfl⟩
instance : Okt Tryz.prog 155 155 := ⟨by kernel_rfl⟩
instance : Sc Tryz.prog 155 := ⟨by kernel_rfl⟩
instance : Zr SS 155 (.pu (.leaf .nilFunc)) := ⟨by kernel_rfl⟩
instance : Okt Tryz.prog 156 156 := ⟨by kernel_rfl⟩
instance : Sc Tryz.prog 156 := ⟨by kernel_rfl⟩
instance : Zr SS 156 (.pu (.leaf .nilFunc)) := ⟨by kernel_rfl⟩
instance : Okt Tryz.prog 157 157 := ⟨by kernel_rfl⟩
instance : Sc Tryz.prog 157 := ⟨by kernel_rfl⟩
instance : Zr SS 157 (.pu (.leaf .nilFunc)) := ⟨by kernel_rfl⟩
instance : Okt Tryz.prog 158 158 := ⟨by kernel_rfl⟩
instance : Sc Tryz.prog 158 := ⟨by kernel_rfl⟩
instance : Zr SS 158 (.pu (.leaf .nilFunc)) := ⟨by kernel_rfl⟩
instance : Okt Tryz.prog 159 159 := ⟨by kernel_rfl⟩
instance : Sc Tryz.prog 159 := ⟨by kernel_rfl⟩
instance : Zr SS 159 (.pu (.leaf .nilFunc)) := ⟨by kernel_rfl⟩
instance : Okt Tryz.prog 160 160 := ⟨by kernel_rfl⟩
instance : Sc Tryz.prog 160 := ⟨by kernel_rfl⟩
instance : Zr SS 160 (.pu (.leaf .nilFunc)) := ⟨by kernel_rfl⟩
instance : Okt Tryz.prog 161 161 := ⟨by kernel_rfl⟩
instance : Sc Tryz.prog 161 := ⟨by kernel_rfl⟩
instance : Zr SS 161 (.pu (.leaf .nilFunc)) := ⟨by kernel_rfl⟩
instance : Okt Tryz.prog 162 162 := ⟨by kernel_rfl⟩
instance : Sc Tryz.prog 162 := ⟨by kernel_rfl⟩
instance : Zr SS 162 (.pu (.leaf .nilFunc)) := ⟨by kernel_rfl⟩
instance : Okt Tryz.prog 163 163 := ⟨by kernel_rfl⟩
instance : Sc Tryz.prog 163 := ⟨by kernel_rfl⟩
instance : Zr SS 163 (.pu (.leaf .nilFunc)) := ⟨by kernel_rfl⟩
instance : Okt Tryz.prog 164 164 := ⟨by kernel_rfl⟩
instance : Sc Tryz.prog 164 := ⟨by kernel_rfl⟩
instance : Zr SS 164 (.pu (.leaf .nilFunc)) := ⟨by kernel_rfl⟩
instance : Okt Tryz.prog 165 165 := ⟨by kernel_rfl⟩
instance : Sc Tryz.prog 165 := ⟨by kernel_rfl⟩
instance : Zr SS 165 (.pu (.leaf .nilFunc)) := ⟨by kernel_rfl⟩
instance : Okt Tryz.prog 166 166 := ⟨by kernel_rfl⟩
instance : Ag Tryz.prog 166 := ⟨by kernel_rfl⟩
instance : AgT Tryz.prog 166 [58, 58] := ⟨by kernel_rfl⟩
instance : Fld Tryz.prog 166 0 58 := ⟨by kernel_rfl⟩
instance : Fld Tryz.prog 166 1 58 := ⟨by kernel_rfl⟩
instance : Zr SS 166 (.agg 166 [(.agg 58 [(.pu (.leaf (.int .i64 0))), (.pu (.leaf (.int .i64 0))), (.pu (refP Z32)), .nilc, (.agg 56 [.nilc, (.pu (.leaf (.bool false))), (.pu (.leaf (.int .i64 0)))])]), (.agg 58 [(.pu (.leaf (.int .i64 0))), (.pu (.leaf (.int .i64 0))), (.pu (refP Z32)), .nilc, (.agg 56 [.nilc, (.pu (.leaf (.bool false))), (.pu (.leaf (.int .i64 0)))])])]) := ⟨by kernel_rfl⟩
instance : Okt Tryz.prog 167 167 := ⟨by kernel_rfl⟩
instance : Okt Tryz.prog 167 166 := ⟨by kernel_rfl⟩
instance : Okt Tryz.prog 166 167 := ⟨by kernel_rfl⟩
instance : Ag Tryz.prog 167 := ⟨by kernel_rfl⟩
instance : AgT Tryz.prog 167 [58, 58] := ⟨by kernel_rfl⟩
instance : Fld Tryz.prog 167 0 58 := ⟨by kernel_rfl⟩
instance : Fld Tryz.prog 167 1 58 := ⟨by kernel_rfl⟩
instance : Zr SS 167 (.agg 167 [(.agg 58 [(.pu (.leaf (.int .i64 0))), (.pu (.leaf (.int .i64 0))), (.pu (refP Z32)), .nilc, (.agg 56 [.nilc, (.pu (.leaf (.bool false))), (.pu (.leaf (.int .i64 0)))])]), (.agg 58 [(.pu (.leaf (.int .i64 0))), (.pu (.leaf (.int .i64 0))), (.pu (refP Z32)), .nilc, (.agg 56 [.nilc, (.pu (.leaf (.bool false))), (.pu (.leaf (.int .i64 0)))])])]) := ⟨by kernel_rfl⟩
instance : Okt Tryz.prog 168 168 := ⟨by kernel_rfl⟩
instance : Sc Tryz.prog 168 := ⟨by kernel_rfl⟩
instance : Zr SS 168 (.pu (.leaf .nilFunc)) := ⟨by kernel_rfl⟩
instance : Okt Tryz.prog 169 169 := ⟨by kernel_rfl⟩
instance : Sc Tryz.prog 169 := ⟨by kernel_rfl⟩
instance : Zr SS 169 (.pu (.leaf (.int .u64 0))) := ⟨by kernel_rfl⟩
instance : Okt Tryz.prog 170 170 := ⟨by kernel_rfl⟩
instance : Ag Tryz.prog 170 := ⟨by kernel_rfl⟩
instance : AgT Tryz.prog 170 [48, 3, 169] := ⟨by kernel_rfl⟩
instance : Fld Tryz.prog 170 0 48 := ⟨by kernel_rfl⟩
instance : Fld Tryz.prog 170 1 3 := ⟨by kernel_rfl⟩
instance : Fld Tryz.prog 170 2 169 := ⟨by kernel_rfl⟩
instance : Zr SS 170 (.agg 170 [.nilc, (.pu (.leaf (.int .i64 0))), (.pu (.leaf (.int .u64 0)))]) := ⟨by kernel_rfl⟩
instance : Okt Tryz.prog 171 171 := ⟨by kernel_rfl⟩
instance : Okt Tryz.prog 171 170 := ⟨by kernel_rfl⟩
instance : Okt Tryz.prog 170 171 := ⟨by kernel_rfl⟩
instance : Ag Tryz.prog 171 := ⟨by kernel_rfl⟩
instance : AgT Tryz.prog 171 [48, 3, 169] := ⟨by kernel_rfl⟩
instance : Fld Tryz.prog 171 0 48 := ⟨by kernel_rfl⟩
instance : Fld Tryz.prog 171 1 3 := ⟨by kernel_rfl⟩
instance : Fld Tryz.prog 171 2 169 := ⟨by kernel_rfl⟩
instance : Zr SS 171 (.agg 171 [.nilc, (.pu (.leaf (.int .i64 0))), (.pu (.leaf (.int .u64 0)))]) := ⟨by kernel_rfl⟩
instance : Okt Tryz.prog 172 172 := ⟨by kernel_rfl⟩
instance : Sc Tryz.prog 172 := ⟨by kernel_rfl⟩
instance : Zr SS 172 (.pu (.leaf (.pointer none))) := ⟨by kernel_rfl⟩
instance : Okt Tryz.prog 173 173 := ⟨by kernel_rfl⟩
instance : Ag Tryz.prog 173 := ⟨by kernel_rfl⟩
instance : AgT Tryz.prog 173 [50, 3] := ⟨by kernel_rfl⟩
instance : Fld Tryz.prog 173 0 50 := ⟨by kernel_rfl⟩
instance : Fld Tryz.prog 173 1 3 := ⟨by kernel_rfl⟩
instance : Zr SS 173 (.pu (.agg 173 [(.leaf (.pointer none)), (.leaf (.int .i64 0))])) := ⟨by kernel_rfl⟩
instance : Okt Tryz.prog 174 174 := ⟨by kernel_rfl⟩
instance : Okt Tryz.prog 174 173 := ⟨by kernel_rfl⟩
instance : Okt Tryz.prog 173 174 := ⟨by kernel_rfl⟩
instance : Ag Tryz.prog 174 := ⟨by kernel_rfl⟩
instance : AgT Tryz.prog 174 [50, 3] := ⟨by kernel_rfl⟩
instance : Fld Tryz.prog 174 0 50 := ⟨by kernel_rfl⟩
instance : Fld Tryz.prog 174 1 3 := ⟨by kernel_rfl⟩
instance : Zr SS 174 (.pu (.agg 174 [(.leaf (.pointer none)), (.leaf (.int .i64 0))])) := ⟨by kernel_rfl⟩
instance : Okt Tryz.prog 175 175 := ⟨by kernel_rfl⟩
instance : Sc Tryz.prog 175 := ⟨by kernel_rfl⟩
instance : Zr SS 175 (.pu (.leaf .nilFunc)) := ⟨by kernel_rfl⟩
instance : Okt Tryz.prog 176 176 := ⟨by kernel_rfl⟩
instance : Sc Tryz.prog 176 := ⟨by kernel_rfl⟩
instance : Zr SS 176 (.pu (.leaf .nilFunc)) := ⟨by kernel_rfl⟩
instance : Okt Tryz.prog 177 177 := ⟨by kernel_rfl⟩
instance : Sc Tryz.prog 177 := ⟨by kernel_rfl⟩
instance : Zr SS 177 (.pu (.leaf .nilFunc)) := ⟨by kernel_rfl⟩
instance : Okt Tryz.prog 178 178 := ⟨by kernel_rfl⟩
instance : Sc Tryz.prog 178 := ⟨by kernel_rfl⟩
instance : Mp Tryz.prog 178 28 32 := ⟨by kernel_rfl⟩
instance : Zr SS 178 (.pu (.leaf (.map none))) := ⟨by kernel_rfl⟩
instance : Okt Tryz.prog 179 179 := ⟨by kernel_rfl⟩
instance : Ag Tryz.prog 179 := ⟨by kernel_rfl⟩
instance : AgT Tryz.prog 179 [177, 177, 177, 177, 177, 177, 177, 177] := ⟨by kernel_rfl⟩
instance : Arr Tryz.prog 179 8 177 := ⟨by kernel_rfl⟩
instance : Zr SS 179 (.pu (.agg 179 (List.replicate 8 (.leaf .nilFunc)))) := ⟨by kernel_rfl⟩
instance : Okt Tryz.prog 180 180 := ⟨by kernel_rfl⟩
instance : Ag Tryz.prog 180 := ⟨by kernel_rfl⟩
instance : AgT Tryz.prog 180 [26, 178, 179] := ⟨by kernel_rfl⟩
instance : Fld Tryz.prog 180 0 26 := ⟨by kernel_rfl⟩
instance : Fld Tryz.prog 180 1 178 := ⟨by kernel_rfl⟩
instance : Fld Tryz.prog 180 2 179 := ⟨by kernel_rfl⟩
instance : Zr SS 180 (.agg 180 [(.agg 26 [.nilc, .nilc, .nilc]), (.pu (.leaf (.map none))), (.pu (.agg 179 (List.replicate 8 (.leaf .nilFunc))))]) := ⟨by kernel_rfl⟩
instance : Okt Tryz.prog 181 181 := ⟨by kernel_rfl⟩
instance : Okt Tryz.prog 181 180 := ⟨by kernel_rfl⟩
instance : Okt Tryz.prog 180 181 := ⟨by kernel_rfl⟩
instance : Ag Tryz.prog 181 := ⟨by kernel_rfl⟩
instance : AgT Tryz.prog 181 [26, 178, 179] := ⟨by kernel_rfl⟩
instance : Fld Tryz.prog 181 0 26 := ⟨by kernel_rfl⟩
instance : Fld Tryz.prog 181 1 178 := ⟨by kernel_rfl⟩
instance : Fld Tryz.prog 181 2 179 := ⟨by kernel_rfl⟩
instance : Zr SS 181 (.agg 181 [(.agg 26 [.nilc, .nilc, .nilc]), (.pu (.leaf (.map none))), (.pu (.agg 179 (List.replicate 8 (.leaf .nilFunc))))]) := ⟨by kernel_rfl⟩
instance : Okt Tryz.prog 182 182 := ⟨by kernel_rfl⟩
instance : Sc Tryz.prog 182 := ⟨by kernel_rfl⟩
instance : Zr SS 182 (.pu (.leaf .nilFunc)) := ⟨by kernel_rfl⟩
instance : Okt Tryz.prog 183 183 := ⟨by kernel_rfl⟩
instance : Sc Tryz.prog 183 := ⟨by kernel_rfl⟩
instance : Zr SS 183 (.pu (.leaf .nilFunc)) := ⟨by kernel_rfl⟩
instance : Okt Tryz.prog 184 184 := ⟨by kernel_rfl⟩
instance : Sc Tryz.prog 184 := ⟨by kernel_rfl⟩
instance : Zr SS 184 (.pu (.leaf .nilFunc)) := ⟨by kernel_rfl⟩
instance : Okt Tryz.prog 185 185 := ⟨by kernel_rfl⟩
instance : Sc Tryz.prog 185 := ⟨by kernel_rfl⟩
instance : Zr SS 185 (.pu (.leaf .nilFunc)) := ⟨by kernel_rfl⟩
instance : Okt Tryz.prog 186 186 := ⟨by kernel_rfl⟩
instance : Sc Tryz.prog 186 := ⟨by kernel_rfl⟩
instance : Zr SS 186 (.pu (.leaf .nilFunc)) := ⟨by kernel_rfl⟩
instance : Okt Tryz.prog 187 187 := ⟨by kernel_rfl⟩
instance : Sc Tryz.prog 187 := ⟨by kernel_rfl⟩
instance : Zr SS 187 (.pu (.leaf .nilFunc)) := ⟨by kernel_rfl⟩
instance : Okt Tryz.prog 188 188 := ⟨by kernel_rfl⟩
instance : Sc Tryz.prog 188 := ⟨by kernel_rfl⟩
instance : Zr SS 188 (.pu (.leaf .nilFunc)) := ⟨by kernel_rfl⟩
instance : Okt Tryz.prog 190 190 := ⟨by kernel_rfl⟩
instance : Sc Tryz.prog 190 := ⟨by kernel_rfl⟩
instance : Zr SS 190 (.pu (.leaf .nilFunc)) := ⟨by kernel_rfl⟩
instance : Okt Tryz.prog 191 191 := ⟨by kernel_rfl⟩
instance : Sc Tryz.prog 191 := ⟨by kernel_rfl⟩
instance : Zr SS 191 (.pu (.leaf .nilFunc)) := ⟨by kernel_rfl⟩
instance : Okt Tryz.prog 192 192 := ⟨by kernel_rfl⟩
instance : Ag Tryz.prog 192 := ⟨by kernel_rfl⟩
instance : AgT Tryz.prog 192 [3, 3] := ⟨by kernel_rfl⟩
instance : Arr Tryz.prog 192 2 3 := ⟨by kernel_rfl⟩
instance : Zr SS 192 (.pu (.agg 192 (List.replicate 2 (.leaf (.int .i64 0))))) := ⟨by kernel_rfl⟩
instance : Okt Tryz.prog 193 193 := ⟨by kernel_rfl⟩
instance : Okt Tryz.prog 193 192 := ⟨by kernel_rfl⟩
instance : Okt Tryz.prog 192 193 := ⟨by kernel_rfl⟩
instance : Ag Tryz.prog 193 := ⟨by kernel_rfl⟩
instance : AgT Tryz.prog 193 [3, 3] := ⟨by kernel_rfl⟩
instance : Arr Tryz.prog 193 2 3 := ⟨by kernel_rfl⟩
instance : Zr SS 193 (.pu (.agg 193 (List.replicate 2 (.leaf (.int .i64 0))))) := ⟨by kernel_rfl⟩
instance : Okt Tryz.prog 194 194 := ⟨by kernel_rfl⟩
instance : Sc Tryz.prog 194 := ⟨by kernel_rfl⟩
instance : Zr SS 194 (.pu (.leaf .nilFunc)) := ⟨by kernel_rfl⟩
instance : Okt Tryz.prog 195 195 := ⟨by kernel_rfl⟩
instance : Sc Tryz.prog 195 := ⟨by kernel_rfl⟩
instance : Zr SS 195 (.pu (.leaf .nilFunc)) := ⟨by kernel_rfl⟩
instance : Okt Tryz.prog 196 196 := ⟨by kernel_rfl⟩
instance : Sc Tryz.prog 196 := ⟨by kernel_rfl⟩
instance : Zr SS 196 (.pu (.leaf .nilFunc)) := ⟨by kernel_rfl⟩
instance : Okt Tryz.prog 197 197 := ⟨by kernel_rfl⟩
instance : Okt Tryz.prog 197 196 := ⟨by kernel_rfl⟩
instance : Okt Tryz.prog 196 197 := ⟨by kernel_rfl⟩
instance : Sc Tryz.prog 197 := ⟨by kernel_rfl⟩
instance : Zr SS 197 (.pu (.leaf .nilFunc)) := ⟨by kernel_rfl⟩
instance : Okt Tryz.prog 198 198 := ⟨by kernel_rfl⟩
instance : Sc Tryz.prog 198 := ⟨by kernel_rfl⟩
instance : Zr SS 198 (.pu (.leaf .nilFunc)) := ⟨by kernel_rfl⟩
instance : Okt Tryz.prog 199 199 := ⟨by kernel_rfl⟩
instance : Ag Tryz.prog 199 := ⟨by kernel_rfl⟩
instance : AgT Tryz.prog 199 [32, 3] := ⟨by kernel_rfl⟩
instance : Fld Tryz.prog 199 0 32 := ⟨by kernel_rfl⟩
instance : Fld Tryz.prog 199 1 3 := ⟨by kernel_rfl⟩
instance : Zr SS 199 (.agg 199 [(.agg 32 [(.pu (.leaf (.int .i64 0))), (.pu (.leaf (.int .i64 0))), (.pu (refP Z32)), .nilc, .nilc]), (.pu (.leaf (.int .i64 0)))]) := ⟨by kernel_rfl⟩
instance : Okt Tryz.prog 200 200 := ⟨by kernel_rfl⟩
instance : Okt Tryz.prog 200 199 := ⟨by kernel_rfl⟩
instance : Okt Tryz.prog 199 200 := ⟨by kernel_rfl⟩
instance : Ag Tryz.prog 200 := ⟨by kernel_rfl⟩
instance : AgT Tryz.prog 200 [32, 3] := ⟨by kernel_rfl⟩
instance : Fld Tryz.prog 200 0 32 := ⟨by kernel_rfl⟩
instance : Fld Tryz.prog 200 1 3 := ⟨by kernel_rfl⟩
instance : Zr SS 200 (.agg 200 [(.agg 32 [(.pu (.leaf (.int .i64 0))), (.pu (.leaf (.int .i64 0))), (.pu (refP Z32)), .nilc, .nilc]), (.pu (.leaf (.int .i64 0)))]) := ⟨by kernel_rfl⟩
instance : Okt Tryz.prog 201 201 := ⟨by kernel_rfl⟩
instance : Sc Tryz.prog 201 := ⟨by kernel_rfl⟩
instance : Zr SS 201 (.pu (.leaf (.pointer none))) := ⟨by kernel_rfl⟩
instance : Okt Tryz.prog 202 202 := ⟨by kernel_rfl⟩
instance : Ag Tryz.prog 202 := ⟨by kernel_rfl⟩
instance : AgT Tryz.prog 202 [3] := ⟨by kernel_rfl⟩
instance : Fld Tryz.prog 202 0 3 := ⟨by kernel_rfl⟩
instance : Zr SS 202 (.pu (.agg 202 [(.leaf (.int .i64 0))])) := ⟨by kernel_rfl⟩
instance : Okt Tryz.prog 203 203 := ⟨by kernel_rfl⟩
instance : Okt Tryz.prog 203 202 := ⟨by kernel_rfl⟩
instance : Okt Tryz.prog 202 203 := ⟨by kernel_rfl⟩
instance : Ag Tryz.prog 203 := ⟨by kernel_rfl⟩
instance : AgT Tryz.prog 203 [3] := ⟨by kernel_rfl⟩
instance : Fld Tryz.prog 203 0 3 := ⟨by kernel_rfl⟩
instance : Zr SS 203 (.pu (.agg 203 [(.leaf (.int .i64 0))])) := ⟨by kernel_rfl⟩
instance : Okt Tryz.prog 204 204 := ⟨by kernel_rfl⟩
instance : Sc Tryz.prog 204 := ⟨by kernel_rfl⟩
instance : Zr SS 204 (.pu (.leaf .nilFunc)) := ⟨by kernel_rfl⟩
instance : Okt Tryz.prog 205 205 := ⟨by kernel_rfl⟩
instance : Ag Tryz.prog 205 := ⟨by kernel_rfl⟩
instance : AgT Tryz.prog 205 [3, 204] := ⟨by kernel_rfl⟩
instance : Fld Tryz.prog 205 0 3 := ⟨by kernel_rfl⟩
instance : Fld Tryz.prog 205 1 204 := ⟨by kernel_rfl⟩
instance : Zr SS 205 (.pu (.agg 205 [(.leaf (.int .i64 0)), (.leaf .nilFunc)])) := ⟨by kernel_rfl⟩
instance : Okt Tryz.prog 206 206 := ⟨by kernel_rfl⟩
instance : Okt Tryz.prog 206 205 := ⟨by kernel_rfl⟩
instance : Okt Tryz.prog 205 206 := ⟨by kernel_rfl⟩
instance : Ag Tryz.prog 206 := ⟨by kernel_rfl⟩
instance : AgT Tryz.prog 206 [3, 204] := ⟨by kernel_rfl⟩
instance : Fld Tryz.prog 206 0 3 := ⟨by kernel_rfl⟩
instance : Fld Tryz.prog 206 1 204 := ⟨by kernel_rfl⟩
instance : Zr SS 206 (.pu (.agg 206 [(.leaf (.int .i64 0)), (.leaf .nilFunc)])) := ⟨by kernel_rfl⟩
instance : Okt Tryz.prog 207 207 := ⟨by kernel_rfl⟩
instance : Sc Tryz.prog 207 := ⟨by kernel_rfl⟩
instance : Zr SS 207 (.pu (.leaf .nilFunc)) := ⟨by kernel_rfl⟩
instance : Okt Tryz.prog 209 209 := ⟨by kernel_rfl⟩
instance : Sc Tryz.prog 209 := ⟨by kernel_rfl⟩
instance : Zr SS 209 (.pu (.leaf .nilFunc)) := ⟨by kernel_rfl⟩
instance : Okt Tryz.prog 211 211 := ⟨by kernel_rfl⟩
instance : Sc Tryz.prog 211 := ⟨by kernel_rfl⟩
instance : Zr SS 211 (.pu (.leaf .nilFunc)) := ⟨by kernel_rfl⟩
instance : Okt Tryz.prog 212 212 := ⟨by kernel_rfl⟩
instance : Sc Tryz.prog 212 := ⟨by kernel_rfl⟩
instance : Zr SS 212 (.pu (.leaf .nilFunc)) := ⟨by kernel_rfl⟩
instance : Okt Tryz.prog 213 213 := ⟨by kernel_rfl⟩
instance : Sc Tryz.prog 213 := ⟨by kernel_rfl⟩
instance : Zr SS 213 (.pu (.leaf .nilFunc)) := ⟨by kernel_rfl⟩
instance : Okt Tryz.prog 214 214 := ⟨by kernel_rfl⟩
instance : Sc Tryz.prog 214 := ⟨by kernel_rfl⟩
instance : Zr SS 214 (.pu (.leaf .nilFunc)) := ⟨by kernel_rfl⟩
instance : Okt Tryz.prog 215 215 := ⟨by kernel_rfl⟩
instance : Sc Tryz.prog 215 := ⟨by kernel_rfl⟩
instance : Zr SS 215 (.pu (.leaf .nilFunc)) := ⟨by kernel_rfl⟩
instance : Okt Tryz.prog 216 216 := ⟨by kernel_rfl⟩
instance : Sc Tryz.prog 216 := ⟨by kernel_rfl⟩
instance : Zr SS 216 (.pu (.leaf .nilFunc)) := ⟨by kernel_rfl⟩
instance : Okt Tryz.prog 217 217 := ⟨by kernel_rfl⟩
instance : Sc Tryz.prog 217 := ⟨by kernel_rfl⟩
instance : Zr SS 217 (.pu (.leaf .nilFunc)) := ⟨by kernel_rfl⟩
instance : Okt Tryz.prog 218 218 := ⟨by kernel_rfl⟩
instance : Sc Tryz.prog 218 := ⟨by kernel_rfl⟩
instance : Zr SS 218 (.pu (.leaf .nilFunc)) := ⟨by kernel_rfl⟩
instance : Okt Tryz.prog 219 219 := ⟨by kernel_rfl⟩
instance : Sc Tryz.prog 219 := ⟨by kernel_rfl⟩
instance : Zr SS 219 (.pu (.leaf .nilFunc)) := ⟨by kernel_rfl⟩
instance : Okt Tryz.prog 220 220 := ⟨by kernel_rfl⟩
instance : Sc Tryz.prog 220 := ⟨by kernel_rfl⟩
instance : Zr SS 220 (.pu (.leaf .nilFunc)) := ⟨by kernel_rfl⟩
instance : Okt Tryz.prog 221 221 := ⟨by kernel_rfl⟩
instance : Sc Tryz.prog 221 := ⟨by kernel_rfl⟩
instance : Zr SS 221 (.pu (.leaf .nilFunc)) := ⟨by kernel_rfl⟩
instance : Okt Tryz.prog 222 222 := ⟨by kernel_rfl⟩
instance : Sc Tryz.prog 222 := ⟨by kernel_rfl⟩
instance : Zr SS 222 (.pu (.leaf .nilFunc)) := ⟨by kernel_rfl⟩
instance : Okt Tryz.prog 223 223 := ⟨by kernel_rfl⟩
instance : Sc Tryz.prog 223 := ⟨by kernel_rfl⟩
instance : Zr SS 223 (.pu (.leaf .nilFunc)) := ⟨by kernel_rfl⟩
instance : Okt Tryz.prog 225 225 := ⟨by kernel_rfl⟩
instance : Sc Tryz.prog 225 := ⟨by kernel_rfl⟩
instance : Zr SS 225 (.pu (.leaf .nilFunc)) := ⟨by kernel_rfl⟩
instance : Okt Tryz.prog 226 226 := ⟨by kernel_rfl⟩
instance : Ag Tryz.prog 226 := ⟨by kernel_rfl⟩
instance : AgT Tryz.prog 226 [28, 3] := ⟨by kernel_rfl⟩
instance : Fld Tryz.prog 226 0 28 := ⟨by kernel_rfl⟩
instance : Fld Tryz.prog 226 1 3 := ⟨by kernel_rfl⟩
instance : Zr SS 226 (.pu (.agg 226 [(refP Z32), (.leaf (.int .i64 0))])) := ⟨by kernel_rfl⟩
instance : Okt Tryz.prog 227 227 := ⟨by kernel_rfl⟩
instance : Okt Tryz.prog 227 226 := ⟨by kernel_rfl⟩
instance : Okt Tryz.prog 226 227 := ⟨by kernel_rfl⟩
instance : Ag Tryz.prog 227 := ⟨by kernel_rfl⟩
instance : AgT Tryz.prog 227 [28, 3] := ⟨by kernel_rfl⟩
instance : Fld Tryz.prog 227 0 28 := ⟨by kernel_rfl⟩
instance : Fld Tryz.prog 227 1 3 := ⟨by kernel_rfl⟩
instance : Zr SS 227 (.pu (.agg 227 [(refP Z32), (.leaf (.int .i64 0))])) := ⟨by kernel_rfl⟩
instance : Okt Tryz.prog 228 228 := ⟨by kernel_rfl⟩
instance : Sc Tryz.prog 228 := ⟨by kernel_rfl⟩
instance : Zr SS 228 (.pu (.leaf .nilFunc)) := ⟨by kernel_rfl⟩
instance : Okt Tryz.prog 229 229 := ⟨by kernel_rfl⟩
instance : Sc Tryz.prog 229 := ⟨by kernel_rfl⟩
instance : Zr SS 229 (.pu (.leaf .nilFunc)) := ⟨by kernel_rfl⟩
instance : Okt Tryz.prog 230 230 := ⟨by kernel_rfl⟩
instance : Sc Tryz.prog 230 := ⟨by kernel_rfl⟩
instance : Zr SS 230 (.pu (.leaf .nilFunc)) := ⟨by kernel_rfl⟩
instance : Okt Tryz.prog 231 231 := ⟨by kernel_rfl⟩
instance : Sc Tryz.prog 231 := ⟨by kernel_rfl⟩
instance : Zr SS 231 (.pu (.leaf .nilFunc)) := ⟨by kernel_rfl⟩
instance : Okt Tryz.prog 232 232 := ⟨by kernel_rfl⟩
instance : Sc Tryz.prog 232 := ⟨by kernel_rfl⟩
instance : Zr SS 232 (.pu (.leaf .nilFunc)) := ⟨by kernel_rfl⟩
instance : Okt Tryz.prog 233 233 := ⟨by kernel_rfl⟩
instance : Sc Tryz.prog 233 := ⟨by kernel_rfl⟩
instance : Zr SS 233 (.pu (.leaf .nilFunc)) := ⟨by kernel_rfl⟩
instance : Okt Tryz.prog 234 234 := ⟨by kernel_rfl⟩
instance : Sc Tryz.prog 234 := ⟨by kernel_rfl⟩
instance : Zr SS 234 (.pu (.leaf .nilFunc)) := ⟨by kernel_rfl⟩
instance : Okt Tryz.prog 235 235 := ⟨by kernel_rfl⟩
instance : Sc Tryz.prog 235 := ⟨by kernel_rfl⟩
instance : Zr SS 235 (.pu (.leaf .nilFunc)) := ⟨by kernel_rfl⟩
instance : Okt Tryz.prog 236 236 := ⟨by kernel_rfl⟩
instance : Sc Tryz.prog 236 := ⟨by kernel_rfl⟩
instance : Zr SS 236 (.pu (.leaf .nilFunc)) := ⟨by kernel_rfl⟩
instance : Okt Tryz.prog 237 237 := ⟨by kernel_rfl⟩
instance : Sc Tryz.prog 237 := ⟨by kernel_rfl⟩
instance : Zr SS 237 (.pu (.leaf .nilFunc)) := ⟨by kernel_rfl⟩
instance : Okt Tryz.prog 238 238 := ⟨by kernel_rfl⟩
instance : Sc Tryz.prog 238 := ⟨by kernel_rfl⟩
instance : Zr SS 238 (.pu (.leaf (.pointer none))) := ⟨by kernel_rfl⟩
instance : Okt Tryz.prog 239 239 := ⟨by kernel_rfl⟩
instance : Ag Tryz.prog 239 := ⟨by kernel_rfl⟩
instance : AgT Tryz.prog 239 [3] := ⟨by kernel_rfl⟩
instance : Fld Tryz.prog 239 0 3 := ⟨by kernel_rfl⟩
instance : Zr SS 239 (.pu (.agg 239 [(.leaf (.int .i64 0))])) := ⟨by kernel_rfl⟩
instance : Okt Tryz.prog 240 240 := ⟨by kernel_rfl⟩
instance : Okt Tryz.prog 240 239 := ⟨by kernel_rfl⟩
instance : Okt Tryz.prog 239 240 := ⟨by kernel_rfl⟩
instance : Ag Tryz.prog 240 := ⟨by kernel_rfl⟩
instance : AgT Tryz.prog 240 [3] := ⟨by kernel_rfl⟩
instance : Fld Tryz.prog 240 0 3 := ⟨by kernel_rfl⟩
instance : Zr SS 240 (.pu (.agg 240 [(.leaf (.int .i64 0))])) := ⟨by kernel_rfl⟩
instance : Okt Tryz.prog 241 241 := ⟨by kernel_rfl⟩
instance : Sc Tryz.prog 241 := ⟨by kernel_rfl⟩
instance : Zr SS 241 (.pu (.leaf .nilFunc)) := ⟨by kernel_rfl⟩
instance : Okt Tryz.prog 242 242 := ⟨by kernel_rfl⟩
instance : Sc Tryz.prog 242 := ⟨by kernel_rfl⟩
instance : Zr SS 242 (.pu (.leaf .nilFunc)) := ⟨by kernel_rfl⟩
instance : Okt Tryz.prog 243 243 := ⟨by kernel_rfl⟩
instance : Sc Tryz.prog 243 := ⟨by kernel_rfl⟩
instance : Zr SS 243 (.pu (.leaf .nilFunc)) := ⟨by kernel_rfl⟩
instance : Okt Tryz.prog 244 244 := ⟨by kernel_rfl⟩
instance : Sc Tryz.prog 244 := ⟨by kernel_rfl⟩
instance : Zr SS 244 (.pu (.leaf .nilFunc)) := ⟨by kernel_rfl⟩
instance : Okt Tryz.prog 245 245 := ⟨by kernel_rfl⟩
instance : Sc Tryz.prog 245 := ⟨by kernel_rfl⟩
instance : Zr SS 245 (.pu (.leaf .nilFunc)) := ⟨by kernel_rfl⟩
instance : Okt Tryz.prog 246 246 := ⟨by kernel_rfl⟩
instance : Sc Tryz.prog 246 := ⟨by kernel_rfl⟩
instance : Zr SS 246 (.pu (.leaf .nilFunc)) := ⟨by kernel_rfl⟩
instance : Okt Tryz.prog 247 247 := ⟨by kernel_rfl⟩
instance : Sc Tryz.prog 247 := ⟨by kernel_rfl⟩
instance : Zr SS 247 (.pu (.leaf .nilFunc)) := ⟨by kernel_rfl⟩
instance : Okt Tryz.prog 248 248 := ⟨by kernel_rfl⟩
instance : Sc Tryz.prog 248 := ⟨by kernel_rfl⟩
instance : Zr SS 248 (.pu (.leaf .nilFunc)) := ⟨by kernel_rfl⟩
instance : Okt Tryz.prog 249 249 := ⟨by kernel_rfl⟩
instance : Sc Tryz.prog 249 := ⟨by kernel_rfl⟩
instance : Zr SS 249 (.pu (.leaf .nilFunc)) := ⟨by kernel_rfl⟩
instance : Okt Tryz.prog 250 250 := ⟨by kernel_rfl⟩
instance : Sc Tryz.prog 250 := ⟨by kernel_rfl⟩
instance : Zr SS 250 (.pu (.leaf .nilFunc)) := ⟨by kernel_rfl⟩
instance : Okt Tryz.prog 251 251 := ⟨by kernel_rfl⟩
instance : Sc Tryz.prog 251 := ⟨by kernel_rfl⟩
instance : Zr SS 251 (.pu (.leaf .nilFunc)) := ⟨by kernel_rfl⟩
instance : Okt Tryz.prog 252 252 := ⟨by kernel_rfl⟩
instance : Ag Tryz.prog 252 := ⟨by kernel_rfl⟩
instance : AgT Tryz.prog 252 [213, 251] := ⟨by kernel_rfl⟩
instance : Fld Tryz.prog 252 0 213 := ⟨by kernel_rfl⟩
instance : Fld Tryz.prog 252 1 251 := ⟨by kernel_rfl⟩
instance : Zr SS 252 (.pu (.agg 252 [(.leaf .nilFunc), (.leaf .nilFunc)])) := ⟨by kernel_rfl⟩
instance : Okt Tryz.prog 253 253 := ⟨by kernel_rfl⟩
instance : Okt Tryz.prog 253 252 := ⟨by kernel_rfl⟩
instance : Okt Tryz.prog 252 253 := ⟨by kernel_rfl⟩
instance : Ag Tryz.prog 253 := ⟨by kernel_rfl⟩
instance : AgT Tryz.prog 253 [213, 251] := ⟨by kernel_rfl⟩
instance : Fld Tryz.prog 253 0 213 := ⟨by kernel_rfl⟩
instance : Fld Tryz.prog 253 1 251 := ⟨by kernel_rfl⟩
instance : Zr SS 253 (.pu (.agg 253 [(.leaf .nilFunc), (.leaf .nilFunc)])) := ⟨by kernel_rfl⟩
instance : Okt Tryz.prog 254 254 := ⟨by kernel_rfl⟩
instance : Sc Tryz.prog 254 := ⟨by kernel_rfl⟩
instance : Zr SS 254 (.pu (.leaf .nilFunc)) := ⟨by kernel_rfl⟩
instance : Okt Tryz.prog 255 255 := ⟨by kernel_rfl⟩
instance : Sc Tryz.prog 255 := ⟨by kernel_rfl⟩
instance : Zr SS 255 (.pu (.leaf .nilFunc)) := ⟨by kernel_rfl⟩
instance : Okt Tryz.prog 256 256 := ⟨by kernel_rfl⟩
instance : Sc Tryz.prog 256 := ⟨by kernel_rfl⟩
instance : Zr SS 256 (.pu (.leaf .nilFunc)) := ⟨by kernel_rfl⟩
instance : Okt Tryz.prog 257 257 := ⟨by kernel_rfl⟩
instance : Sc Tryz.prog 257 := ⟨by kernel_rfl⟩
instance : Zr SS 257 (.pu (.leaf (.int .u32 0))) := ⟨by kernel_rfl⟩
instance : Okt Tryz.prog 259 259 := ⟨by kernel_rfl⟩
instance : Sc Tryz.prog 259 := ⟨by kernel_rfl⟩
instance : Zr SS 259 (.pu (.leaf .nilFunc)) := ⟨by kernel_rfl⟩
instance : Okt Tryz.prog 261 261 := ⟨by kernel_rfl⟩
instance : Sc Tryz.prog 261 := ⟨by kernel_rfl⟩
instance : Zr SS 261 (.pu (.leaf .nilFunc)) := ⟨by kernel_rfl⟩
instance : Okt Tryz.prog 262 262 := ⟨by kernel_rfl⟩
instance : Sc Tryz.prog 262 := ⟨by kernel_rfl⟩
instance : Zr SS 262 (.pu (.leaf .nilFunc)) := ⟨by kernel_rfl⟩
instance : Okt Tryz.prog 263 263 := ⟨by kernel_rfl⟩
instance : Sc Tryz.prog 263 := ⟨by kernel_rfl⟩
instance : Zr SS 263 (.pu (.leaf .nilFunc)) := ⟨by kernel_rfl⟩
instance : Okt Tryz.prog 264 264 := ⟨by kernel_rfl⟩
instance : Sc Tryz.prog 264 := ⟨by kernel_rfl⟩
instance : Zr SS 264 (.pu (.leaf .nilFunc)) := ⟨by kernel_rfl⟩
instance : Okt Tryz.prog 265 265 := ⟨by kernel_rfl⟩
instance : Sc Tryz.prog 265 := ⟨by kernel_rfl⟩
instance : Zr SS 265 (.pu (.leaf .nilFunc)) := ⟨by kernel_rfl⟩
instance : Okt Tryz.prog 266 266 := ⟨by kernel_rfl⟩
instance : Sc Tryz.prog 266 := ⟨by kernel_rfl⟩
instance : Zr SS 266 (.pu (.leaf .nilFunc)) := ⟨by kernel_rfl⟩
instance : Okt Tryz.prog 267 267 := ⟨by kernel_rfl⟩
instance : Okt Tryz.prog 267 266 := ⟨by kernel_rfl⟩
instance : Okt Tryz.prog 266 267 := ⟨by kernel_rfl⟩
instance : Sc Tryz.prog 267 := ⟨by kernel_rfl⟩
instance : Zr SS 267 (.pu (.leaf .nilFunc)) := ⟨by kernel_rfl⟩
instance : Okt Tryz.prog 268 268 := ⟨by kernel_rfl⟩
instance : Sc Tryz.prog 268 := ⟨by kernel_rfl⟩
instance : Zr SS 268 (.pu (.leaf .nilFunc)) := ⟨by kernel_rfl⟩
instance : Okt Tryz.prog 269 269 := ⟨by kernel_rfl⟩
instance : Sc Tryz.prog 269 := ⟨by kernel_rfl⟩
instance : Zr SS 269 (.pu (.leaf .nilFunc)) := ⟨by kernel_rfl⟩
instance : Okt Tryz.prog 270 270 := ⟨by kernel_rfl⟩
instance : Sc Tryz.prog 270 := ⟨by kernel_rfl⟩
instance : Zr SS 270 (.pu (.leaf .nilFunc)) := ⟨by kernel_rfl⟩
instance : Okt Tryz.prog 271 271 := ⟨by kernel_rfl⟩
instance : Sc Tryz.prog 271 := ⟨by kernel_rfl⟩
instance : Zr SS 271 (.pu (.leaf .nilFunc)) := ⟨by kernel_rfl⟩
instance : Okt Tryz.prog 272 272 := ⟨by kernel_rfl⟩
instance : Sc Tryz.prog 272 := ⟨by kernel_rfl⟩
instance : Zr SS 272 (.pu (.leaf .nilFunc)) := ⟨by kernel_rfl⟩
instance : Okt Tryz.prog 273 273 := ⟨by kernel_rfl⟩
instance : Sc Tryz.prog 273 := ⟨by kernel_rfl⟩
instance : Zr SS 273 (.pu (.leaf .nilFunc)) := ⟨by kernel_rfl⟩
instance : Okt Tryz.prog 274 274 := ⟨by kernel_rfl⟩
instance : Ag Tryz.prog 274 := ⟨by kernel_rfl⟩
instance : AgT Tryz.prog 274 [3, 3, 28] := ⟨by kernel_rfl⟩
instance : Fld Tryz.prog 274 0 3 := ⟨by kernel_rfl⟩
instance : Fld Tryz.prog 274 1 3 := ⟨by kernel_rfl⟩
instance : Fld Tryz.prog 274 2 28 := ⟨by kernel_rfl⟩
instance : Zr SS 274 (.pu (.agg 274 [(.leaf (.int .i64 0)), (.leaf (.int .i64 0)), (refP Z32)])) := ⟨by kernel_rfl⟩
instance : Okt Tryz.prog 275 275 := ⟨by kernel_rfl⟩
instance : Okt Tryz.prog 275 274 := ⟨by kernel_rfl⟩
instance : Okt Tryz.prog 274 275 := ⟨by kernel_rfl⟩
instance : Ag Tryz.prog 275 := ⟨by kernel_rfl⟩
instance : AgT Tryz.prog 275 [3, 3, 28] := ⟨by kernel_rfl⟩
instance : Fld Tryz.prog 275 0 3 := ⟨by kernel_rfl⟩
instance : Fld Tryz.prog 275 1 3 := ⟨by kernel_rfl⟩
instance : Fld Tryz.prog 275 2 28 := ⟨by kernel_rfl⟩
instance : Zr SS 275 (.pu (.agg 275 [(.leaf (.int .i64 0)), (.leaf (.int .i64 0)), (refP Z32)])) := ⟨by kernel_rfl⟩
instance : Okt Tryz.prog 276 276 := ⟨by kernel_rfl⟩
instance : Sc Tryz.prog 276 := ⟨by kernel_rfl⟩
instance : Zr SS 276 (.pu (.leaf .nilFunc)) := ⟨by kernel_rfl⟩
instance : Okt Tryz.prog 277 277 := ⟨by kernel_rfl⟩
instance : Ag Tryz.prog 277 := ⟨by kernel_rfl⟩
instance : AgT Tryz.prog 277 [4, 4, 4] := ⟨by kernel_rfl⟩
instance : Arr Tryz.prog 277 3 4 := ⟨by kernel_rfl⟩
instance : Zr SS 277 (.pu (.agg 277 (List.replicate 3 (.leaf (.bool false))))) := ⟨by kernel_rfl⟩
instance : Okt Tryz.prog 278 278 := ⟨by kernel_rfl⟩
instance : Okt Tryz.prog 278 277 := ⟨by kernel_rfl⟩
instance : Okt Tryz.prog 277 278 := ⟨by kernel_rfl⟩
instance : Ag Tryz.prog 278 := ⟨by kernel_rfl⟩
instance : AgT Tryz.prog 278 [4, 4, 4] := ⟨by kernel_rfl⟩
instance : Arr Tryz.prog 278 3 4 := ⟨by kernel_rfl⟩
instance : Zr SS 278 (.pu (.agg 278 (List.replicate 3 (.leaf (.bool false))))) := ⟨by kernel_rfl⟩
instance : Okt Tryz.prog 279 279 := ⟨by kernel_rfl⟩
instance : Sc Tryz.prog 279 := ⟨by kernel_rfl⟩
instance : Zr SS 279 (.pu (.leaf .nilFunc)) := ⟨by kernel_rfl⟩
instance : Okt Tryz.prog 280 280 := ⟨by kernel_rfl⟩
instance : Sc Tryz.prog 280 := ⟨by kernel_rfl⟩
instance : Zr SS 280 (.pu (.leaf .nilFunc)) := ⟨by kernel_rfl⟩
instance : Okt Tryz.prog 281 281 := ⟨by kernel_rfl⟩
instance : Sc Tryz.prog 281 := ⟨by kernel_rfl⟩
instance : Zr SS 281 (.pu (.leaf .nilFunc)) := ⟨by kernel_rfl⟩
instance : Okt Tryz.prog 282 282 := ⟨by kernel_rfl⟩
instance : Sc Tryz.prog 282 := ⟨by kernel_rfl⟩
instance : Zr SS 282 (.pu (.leaf .nilFunc)) := ⟨by kernel_rfl⟩
instance : Okt Tryz.prog 283 283 := ⟨by kernel_rfl⟩
instance : Sc Tryz.prog 283 := ⟨by kernel_rfl⟩
instance : Zr SS 283 (.pu (.leaf .nilFunc)) := ⟨by kernel_rfl⟩
instance : Okt Tryz.prog 284 284 := ⟨by kernel_rfl⟩
instance : Sc Tryz.prog 284 := ⟨by kernel_rfl⟩
instance : Zr SS 284 (.pu (.leaf .nilFunc)) := ⟨by kernel_rfl⟩
instance : Okt Tryz.prog 285 285 := ⟨by kernel_rfl⟩
instance : Sc Tryz.prog 285 := ⟨by kernel_rfl⟩
instance : Zr SS 285 (.pu (.leaf .nilFunc)) := ⟨by kernel_rfl⟩
instance : Okt Tryz.prog 294 294 := ⟨by kernel_rfl⟩
instance : Sc Tryz.prog 294 := ⟨by kernel_rfl⟩
instance : Zr SS 294 (.pu (.leaf (.pointer none))) := ⟨by kernel_rfl⟩
instance : Okt Tryz.prog 299 299 := ⟨by kernel_rfl⟩
instance : Sc Tryz.prog 299 := ⟨by kernel_rfl⟩
instance : Zr SS 299 (.pu (.leaf .nilFunc)) := ⟨by kernel_rfl⟩
instance : Okt Tryz.prog 301 301 := ⟨by kernel_rfl⟩
instance : Sc Tryz.prog 301 := ⟨by kernel_rfl⟩
instance : Sl Tryz.prog 301 9 := ⟨by kernel_rfl⟩
instance : El Tryz.prog 301 9 16 := ⟨by kernel_rfl⟩
instance : Zr SS 301 .nilc := ⟨by kernel_rfl⟩
instance : Okt Tryz.prog 302 302 := ⟨by kernel_rfl⟩
instance : Sc Tryz.prog 302 := ⟨by kernel_rfl⟩
instance : Sl Tryz.prog 302 305 := ⟨by kernel_rfl⟩
instance : El Tryz.prog 302 305 120 := ⟨by kernel_rfl⟩
instance : Zr SS 302 .nilc := ⟨by kernel_rfl⟩
instance : Okt Tryz.prog 303 303 := ⟨by kernel_rfl⟩
instance : Sc Tryz.prog 303 := ⟨by kernel_rfl⟩
instance : Sl Tryz.prog 303 307 := ⟨by kernel_rfl⟩
instance : El Tryz.prog 303 307 216 := ⟨by kernel_rfl⟩
instance : Zr SS 303 .nilc := ⟨by kernel_rfl⟩
instance : Okt Tryz.prog 304 304 := ⟨by kernel_rfl⟩
instance : Ag Tryz.prog 304 := ⟨by kernel_rfl⟩
instance : AgT Tryz.prog 304 [3, 3, 28, 301, 302, 303] := ⟨by kernel_rfl⟩
instance : Fld Tryz.prog 304 0 3 := ⟨by kernel_rfl⟩
instance : Fld Tryz.prog 304 1 3 := ⟨by kernel_rfl⟩
instance : Fld Tryz.prog 304 2 28 := ⟨by kernel_rfl⟩
instance : Fld Tryz.prog 304 3 301 := ⟨by kernel_rfl⟩
instance : Fld Tryz.prog 304 4 302 := ⟨by kernel_rfl⟩
instance : Fld Tryz.prog 304 5 303 := ⟨by kernel_rfl⟩
instance : Zr SS 304 (.agg 304 [(.pu (.leaf (.int .i64 0))), (.pu (.leaf (.int .i64 0))), (.pu (refP Z32)), .nilc, .nilc, .nilc]) := ⟨by kernel_rfl⟩
instance : Okt Tryz.prog 305 305 := ⟨by kernel_rfl⟩
instance : Okt Tryz.prog 305 304 := ⟨by kernel_rfl⟩
instance : Okt Tryz.prog 304 305 := ⟨by kernel_rfl⟩
instance : Ag Tryz.prog 305 := ⟨by kernel_rfl⟩
instance : AgT Tryz.prog 305 [3, 3, 28, 301, 302, 303] := ⟨by kernel_rfl⟩
instance : Fld Tryz.prog 305 0 3 := ⟨by kernel_rfl⟩
instance : Fld Tryz.prog 305 1 3 := ⟨by kernel_rfl⟩
instance : Fld Tryz.prog 305 2 28 := ⟨by kernel_rfl⟩
instance : Fld Tryz.prog 305 3 301 := ⟨by kernel_rfl⟩
instance : Fld Tryz.prog 305 4 302 := ⟨by kernel_rfl⟩
instance : Fld Tryz.prog 305 5 303 := ⟨by kernel_rfl⟩
instance : Zr SS 305 (.agg 305 [(.pu (.leaf (.int .i64 0))), (.pu (.leaf (.int .i64 0))), (.pu (refP Z32)), .nilc, .nilc, .nilc]) := ⟨by kernel_rfl⟩
instance : Okt Tryz.prog 306 306 := ⟨by kernel_rfl⟩
instance : Ag Tryz.prog 306 := ⟨by kernel_rfl⟩
instance : AgT Tryz.prog 306 [104, 301, 305] := ⟨by kernel_rfl⟩
instance : Fld Tryz.prog 306 0 104 := ⟨by kernel_rfl⟩
instance : Fld Tryz.prog 306 1 301 := ⟨by kernel_rfl⟩
instance : Fld Tryz.prog 306 2 305 := ⟨by kernel_rfl⟩
instance : Zr SS 306 (.agg 306 [(.agg 104 [(.pu (.leaf (.int .i64 0))), (.pu (.leaf (.int .i64 0))), (.pu (refP Z32)), .nilc]), .nilc, (.agg 305 [(.pu (.leaf (.int .i64 0))), (.pu (.leaf (.int .i64 0))), (.pu (refP Z32)), .nilc, .nilc, .nilc])]) := ⟨by kernel_rfl⟩
instance : Okt Tryz.prog 307 307 := ⟨by kernel_rfl⟩
instance : Okt Tryz.prog 307 306 := ⟨by kernel_rfl⟩
instance : Okt Tryz.prog 306 307 := ⟨by kernel_rfl⟩
instance : Ag Tryz.prog 307 := ⟨by kernel_rfl⟩
instance : AgT Tryz.prog 307 [104, 301, 305] := ⟨by kernel_rfl⟩
instance : Fld Tryz.prog 307 0 104 := ⟨by kernel_rfl⟩
instance : Fld Tryz.prog 307 1 301 := ⟨by kernel_rfl⟩
instance : Fld Tryz.prog 307 2 305 := ⟨by kernel_rfl⟩
instance : Zr SS 307 (.agg 307 [(.agg 104 [(.pu (.leaf (.int .i64 0))), (.pu (.leaf (.int .i64 0))), (.pu (refP Z32)), .nilc]), .nilc, (.agg 305 [(.pu (.leaf (.int .i64 0))), (.pu (.leaf (.int .i64 0))), (.pu (refP Z32)), .nilc, .nilc, .nilc])]) := ⟨by kernel_rfl⟩
instance (p : Pat) : TyV Tryz.prog 104 (.pu (patc lo p)) := by cases p; exact inferInstanceAs (TyV Tryz.prog 104 (.pu (.agg _ _)))
instance (t : Tm) : TyV Tryz.prog 32 (.pu (tmc lo t)) := by cases t; exact inferInstanceAs (TyV Tryz.prog 32 (.pu (.agg _ _)))
instance (c : Cs) : TyV Tryz.prog 106 (.pu (csec lo c)) := by cases c; exact inferInstanceAs (TyV Tryz.prog 106 (.pu (.agg _ _)))
instance (r : List Int) : TyV Tryz.prog 28 (.pu (refP r)) := inferInstanceAs (TyV Tryz.prog 28 (.pu (.agg _ _)))
end Go.Proofs.YtkcgkignhpepkaaGreatDoor

/- Digests: as long as they are, and compared. -/
namespace Go.Proofs.YtkcgkignhpepkaaGreatDoor
open Go Hs
variable {lo : Nat}

theorem ref_len {D : Nat → Nat → Prop} {w : World} {r : List Int} {x : List Value} (h : PR Tryz.prog D w (refP r) x) : r.length = 32 := by
  have hc : comps Tryz.prog 28 = some (List.replicate 32 (1, 5)) := by kernel_rfl
  unfold refP at h
  cases h with
  | agg h1 h2 =>
    rw [hc] at h1
    simp only [Option.some.injEq] at h1
    subst h1
    have := h2.length.2
    simpa using this

mutual
def wfP : Pat → Prop
  | .mk _ _ r ks => r.length = 32 ∧ wfPs ks
def wfPs : List Pat → Prop
  | [] => True
  | p :: ps => wfP p ∧ wfPs ps
end
mutual
def wfT : Tm → Prop
  | .mk _ _ r ks cs => r.length = 32 ∧ wfTs ks ∧ wfCs cs
def wfTs : List Tm → Prop
  | [] => True
  | t :: ts => wfT t ∧ wfTs ts
def wfC : Cs → Prop
  | .mk p t => wfP p ∧ wfT t
def wfCs : List Cs → Prop
  | [] => True
  | c :: cs => wfC c ∧ wfCs cs
end
theorem wfPs_mem : ∀ {ks : List Pat}, wfPs ks → ∀ k ∈ ks, wfP k
  | [], _, k, h => by cases h
  | p :: ps, h, k, hk => by
    rcases List.mem_cons.1 hk with rfl | hk
    · exact h.1
    · exact wfPs_mem h.2 k hk
theorem wfTs_mem : ∀ {ks : List Tm}, wfTs ks → ∀ k ∈ ks, wfT k
  | [], _, k, h => by cases h
  | p :: ps, h, k, hk => by
    rcases List.mem_cons.1 hk with rfl | hk
    · exact h.1
    · exact wfTs_mem h.2 k hk
theorem wfCs_mem : ∀ {ks : List Cs}, wfCs ks → ∀ k ∈ ks, wfC k
  | [], _, k, h => by cases h
  | p :: ps, h, k, hk => by
    rcases List.mem_cons.1 hk with rfl | hk
    · exact h.1
    · exact wfCs_mem h.2 k hk

/-- The parts of pure data that is read. -/
theorem PR_agg {D : Nat → Nat → Prop} {w : World} {T : TypeId} {ps : List Pu} {x : List Value} (h : PR Tryz.prog D w (.agg T ps) x) : ∃ cs, PRs Tryz.prog D w cs ps x := by
  cases h with
  | agg _ h => exact ⟨_, h⟩
theorem PRs_cons {D : Nat → Nat → Prop} {w : World} {cs : List (Nat × TypeId)} {p : Pu} {ps : List Pu} {x : List Value} (h : PRs Tryz.prog D w cs (p :: ps) x) : (∃ y, PR Tryz.prog D w p y) ∧ ∃ cs' y, PRs Tryz.prog D w cs' ps y := by
  cases h with
  | cons h _ _ t => exact ⟨⟨_, h⟩, _, _, t⟩
theorem PR_sl {D : Nat → Nat → Prop} {w : World} {E : TypeId} {ps : List Pu} {x : List Value} (h : PR Tryz.prog D w (.sl lo E ps) x) : ∃ cs y, PRs Tryz.prog D w cs ps y := by
  cases h with
  | sl0 => exact ⟨[], [], .nil⟩
  | sl _ _ h _ _ => exact ⟨_, _, h⟩

mutual
theorem pat_wf {D : Nat → Nat → Prop} {w : World} : ∀ {p : Pat} {x : List Value}, PR Tryz.prog D w (patc lo p) x → wfP p
  | .mk k n r ks, x, h => by
    obtain ⟨_, h⟩ := PR_agg h
    obtain ⟨_, _, _, h⟩ := PRs_cons h
    obtain ⟨_, _, _, h⟩ := PRs_cons h
    obtain ⟨⟨_, h1⟩, _, _, h⟩ := PRs_cons h
    obtain ⟨⟨_, h2⟩, _⟩ := PRs_cons h
    obtain ⟨_, _, h2⟩ := PR_sl h2
    exact ⟨ref_len h1, pats_wf h2⟩
theorem pats_wf {D : Nat → Nat → Prop} {w : World} : ∀ {ks : List Pat} {cs : List (Nat × TypeId)} {x : List Value}, PRs Tryz.prog D w cs (patsc lo ks) x → wfPs ks
  | [], _, _, _ => trivial
  | p :: ps, _, _, h => by
    obtain ⟨⟨_, h1⟩, _, _, h2⟩ := PRs_cons h
    exact ⟨pat_wf h1, pats_wf h2⟩
end
mutual
theorem tm_wf {D : Nat → Nat → Prop} {w : World} : ∀ {t : Tm} {x : List Value}, PR Tryz.prog D w (tmc lo t) x → wfT t
  | .mk k n r ks cs, x, h => by
    obtain ⟨_, h⟩ := PR_agg h
    obtain ⟨_, _, _, h⟩ := PRs_cons h
    obtain ⟨_, _, _, h⟩ := PRs_cons h
    obtain ⟨⟨_, h1⟩, _, _, h⟩ := PRs_cons h
    obtain ⟨⟨_, h2⟩, _, _, h⟩ := PRs_cons h
    obtain ⟨⟨_, h3⟩, _⟩ := PRs_cons h
    obtain ⟨_, _, h2⟩ := PR_sl h2
    obtain ⟨_, _, h3⟩ := PR_sl h3
    exact ⟨ref_len h1, tms_wf h2, css_wf h3⟩
theorem tms_wf {D : Nat → Nat → Prop} {w : World} : ∀ {ks : List Tm} {cs : List (Nat × TypeId)} {x : List Value}, PRs Tryz.prog D w cs (tmsc lo ks) x → wfTs ks
  | [], _, _, _ => trivial
  | p :: ps, _, _, h => by
    obtain ⟨⟨_, h1⟩, _, _, h2⟩ := PRs_cons h
    exact ⟨tm_wf h1, tms_wf h2⟩
theorem cs_wf {D : Nat → Nat → Prop} {w : World} : ∀ {c : Cs} {x : List Value}, PR Tryz.prog D w (csec lo c) x → wfC c
  | .mk p t, x, h => by
    obtain ⟨_, h⟩ := PR_agg h
    obtain ⟨⟨_, h1⟩, _, _, h⟩ := PRs_cons h
    obtain ⟨⟨_, h2⟩, _⟩ := PRs_cons h
    exact ⟨pat_wf h1, tm_wf h2⟩
theorem css_wf {D : Nat → Nat → Prop} {w : World} : ∀ {ks : List Cs} {cs : List (Nat × TypeId)} {x : List Value}, PRs Tryz.prog D w cs (cssc lo ks) x → wfCs ks
  | [], _, _, _ => trivial
  | p :: ps, _, _, h => by
    obtain ⟨⟨_, h1⟩, _, _, h2⟩ := PRs_cons h
    exact ⟨cs_wf h1, css_wf h2⟩
end

theorem peq_u8 (d : Nat) (a b : Int) : peqT Tryz.prog (d + 1) 5 (.leaf (.int .u8 a)) (.leaf (.int .u8 b)) = some (a == b) := by
  have hu : Tryz.prog.underlying 5 = some (.int .u8) := by kernel_rfl
  simp [peqT, hu]
theorem peqL_u8 (d : Nat) : ∀ (r s : List Int), r.length = s.length → peqL (peqT Tryz.prog (d + 1) 5) (r.map fun n => .leaf (.int .u8 n)) (s.map fun n => .leaf (.int .u8 n)) = some (r == s)
  | [], [], _ => rfl
  | a :: r, b :: s, h => by
    simp only [List.map_cons, peqL, peq_u8, peqL_u8 d r s (by simpa using h)]
    rfl
  | [], _ :: _, h => by simp at h
  | _ :: _, [], h => by simp at h
theorem peq_refD (d : Nat) {r s : List Int} (h : r.length = s.length) : peqT Tryz.prog (d + 2) 28 (refP r) (refP s) = some (r == s) := by
  have hu : Tryz.prog.underlying 28 = some (.array 32 5) := by kernel_rfl
  rw [← peqL_u8 d r s h]
  unfold refP
  rw [peqT.eq_def]
  simp only [hu]
theorem peq_ref {r s : List Int} (h : r.length = s.length) : peqT Tryz.prog 100 28 (refP r) (refP s) = some (r == s) := by
  generalize hd : (100 : Nat) = d
  obtain ⟨e, rfl⟩ : ∃ e, d = e + 2 := ⟨98, by omega⟩
  exact peq_refD e h
theorem sum_cond (r s : List Int) : Tryz.prog.eqGuardType Tryz.prog.depth 28 = false ∧ 28 < Tryz.prog.types.size ∧ tyP Tryz.prog 28 (refP r) = true ∧ tyP Tryz.prog 28 (refP s) = true :=
  ⟨by kernel_rfl, of_decide_eq_true (by kernel_rfl), (show tyV Tryz.prog 28 (.pu (refP r)) = true from TyV.ok), (show tyV Tryz.prog 28 (.pu (refP s)) = true from TyV.ok)⟩
theorem bin_eqS {r s : List Int} (h : r.length = s.length) : binV Tryz.prog .eql 28 (.pu (refP r)) (.pu (refP s)) = some (bv (r == s)) := by
  have h1 := sum_cond r s
  have h2 := peq_ref h
  unfold refP at h1 h2 ⊢
  simp only [binV, if_pos h1, h2]
theorem bin_neS {r s : List Int} (h : r.length = s.length) : binV Tryz.prog .neq 28 (.pu (refP r)) (.pu (refP s)) = some (bv (!(r == s))) := by
  have h1 := sum_cond r s
  have h2 := peq_ref h
  unfold refP at h1 h2 ⊢
  simp only [binV, if_pos h1, h2]
end Go.Proofs.YtkcgkignhpepkaaGreatDoor

/- slices.IndexFunc, slices.ContainsFunc with a callback. -/
namespace Go.Proofs.YtkcgkignhpepkaaGreatDoor
open Go Hs
variable {G : List (Nat × TypeId × Pu)} {lo : Nat}


theorem idxPat_c {vf : PV} {f : FuncId} {first captured : List PV} {HR : List (Nat × Ob)} (hvf : fnV vf = some (f, first, captured)) (hst : Str vf vf) (hnt : isTup vf = false) (hent : entersB Tryz.prog f = true) (hna : (first ++ captured).any isTup = false)
    (hfree : ∀ l ob, get HR l = some ob → freeOb ob = true) {ps : List Pu} (hlen : ps.length < 4611686018427387904) {H H' : List (Nat × Ob)} {r : Option Nat} (hd0 : disjB HR H' = true) (hk : ∀ l ob, get H l = some ob → ∃ ob', get H' l = some ob') (hR : ∀ l ob, get HR l = some ob → get H l = none)
    (h : AnyC Tryz.prog G f first captured HR ps H r H') : HCall Tryz.prog G 184 [.pu (.sl lo 104 ps), vf] HR H (iv .i64 (idxV r)) H' [] := by
  refine HCall.of_tri tbl (n := 19) (L := keysOf H' ++ heapLabs H') Tryz.func184 rfl rfl hfree (fun l ob hl => disjB_none hd0 hl) (fun l hl => by simp [PV.labs] at hl) (fun l ob hl => keys_mem hl) hk ?_
  rintro ⟨w0, n', M, G', L, R, ρ0, D0, ro⟩ hn hG hL hR' hro
  simp only at hn hG hL hR' hro
  subst hn hG hL hR' hro
  have hset : ∀ (i : Nat) (H1 : List (Nat × Ob)) (r1 : Option Nat), AnyC Tryz.prog G' f first captured HR (ps.drop i) H1 r1 H' → True := fun _ _ _ _ => trivial
  let σ := {s : Nat × List (Nat × Ob) × Option Nat // AnyC Tryz.prog G' f first captured HR (ps.drop s.1) s.2.1 s.2.2 H' ∧ s.1 ≤ ps.length ∧ idxV r = (match s.2.2 with | some j => ((s.1 + j : Nat) : Int) | none => -1) ∧ (∀ l ob, get s.2.1 l = some ob → l ∉ keysOf HR)}
  refine yR ?_
  refine yB ?_
  refine e_seq ?_
  refine yR ?_
  refine yM ?_
  refine yC ?_
  refine yJ ?_
  refine e_seq ?_
  repeat refine Tri.seq ?_
  refine Tri.block (Tri.loop (σ := σ) (fun s => ⟨[(0, .pu (.sl lo 104 ps)), (1, vf), (7, iv .i64 ps.length), (8, iv .i64 s.1.1)], HR ++ s.1.2.1⟩) (fun s => ps.length - s.1.1) ⟨(0, H, r), by simpa using h, Nat.zero_le _, by cases r <;> simp [idxV], fun l ob hl hm => ?_⟩ ?_ (fun s => ?_))
  · obtain ⟨ob', ho⟩ := get_some_of (a := HR) hm
    rw [hR l ob' ho] at hl
    cases hl
  · exact le_same (.cons rfl rfl (.cons rfl rfl (.cons rfl rfl (.cons rfl rfl .nil))))
  obtain ⟨⟨i, H1, r1⟩, hA, hi0, hr1, hdisj⟩ := s
  simp only at hA hi0 hr1 hdisj ⊢
  refine yR ?_
  refine yI ?_
  refine e_seq ?_
  refine Tri.seq (Tri.cond rfl (fun hb => Tri.skip ?_) (fun hb => Tri.exit ?_))
  · have hi : i < ps.length := by simpa using hb
    obtain ⟨p, hp⟩ : ∃ p, ps[i]? = some p := ⟨ps[i], by simp [hi]⟩
    have hdr : ps.drop i = p :: ps.drop (i + 1) := by
      rw [List.drop_eq_getElem_cons hi]
      simp only [List.getElem?_eq_getElem hi, Option.some.injEq] at hp
      rw [hp]
    rw [hdr] at hA
    have hHR : ∀ l ob, get HR l = some ob → ∃ ob1, get (HR ++ H1) l = some ob1 ∧ ObImp Tryz.prog ob1 ob := fun l ob hl => ⟨ob, by rw [get_append, hl]; rfl, ObImp.refl _⟩
    have hH1 : ∀ l ob, get H1 l = some ob → l ∉ keysOf HR ∧ ∃ ob1, get (HR ++ H1) l = some ob1 ∧ ObImp Tryz.prog ob1 ob := fun l ob hl => by
      refine ⟨hdisj l ob hl, ob, ?_, ObImp.refl _⟩
      rw [get_append]
      cases hg : get HR l with
      | some o => exact absurd (get_keys hg) (hdisj l ob hl)
      | none => simpa using hl
    have hnt2 : (first ++ [PV.pu p] ++ captured).any isTup = false := by
      simp only [List.any_append, Bool.or_eq_false_iff] at hna ⊢
      exact ⟨⟨hna.1, by simp [isTup]⟩, hna.2⟩
    refine Tri.seq (Tri.block ?_)
    refine yR ?_
    refine yM ?_
    refine yA ?_
    refine e_seq ?_
    cases hA with
    | hit hc hd =>
      refine yR ?_
      refine s_val (v_move SS (h := Ev.mk rfl hst)) ?_
      refine yM ?_
      refine yM ?_
      refine s_val (v_index SS (h0 := by omega) (hp := hp)) ?_
      refine yL ?_
      refine step_call (vf := vf) (first := first) (captured := captured) (vs := [.pu p]) (HR := HR) (H := H1) (news := []) rfl hst hvf hent (.cons (.mk rfl .pu) .nil) rfl (VImps.refl _) hnt2 hHR hH1 hc rfl ?_
      refine e_seq ?_
      repeat refine Tri.seq ?_
      refine Tri.condT rfl ?_
      refine yR ?_
      refine yM ?_
      refine yA ?_
      refine e_seq ?_
      refine Tri.ret ⟨.inr rfl, _, Ghost.refl _, ret1 rfl resV_tmp (iv_imp ?_), fun l ob hl => ⟨ob, ?_, ObImp.refl _⟩⟩
      · rw [hr1]
        simp
      · rw [get_append, hl]; rfl
    | next hc hd t =>
      rename_i H2 r2
      refine yR ?_
      refine s_val (v_move SS (h := Ev.mk rfl hst)) ?_
      refine yM ?_
      refine yM ?_
      refine s_val (v_index SS (h0 := by omega) (hp := hp)) ?_
      refine yL ?_
      refine step_call (vf := vf) (first := first) (captured := captured) (vs := [.pu p]) (HR := HR) (H := H1) (news := []) rfl hst hvf hent (.cons (.mk rfl .pu) .nil) rfl (VImps.refl _) hnt2 hHR hH1 hc rfl ?_
      refine e_seq ?_
      repeat refine Tri.seq ?_
      refine Tri.condF rfl ?_
      refine Tri.skip ?_
      refine yR ?_
      refine yI ?_
      refine yM ?_
      refine e_seq ?_
      refine ⟨⟨(i + 1, H2, r2), t, hi, ?_, fun l ob hl hm => ?_⟩, by simp; omega, le_call hd (.cons rfl rfl (.cons rfl rfl (.cons rfl rfl (.cons rfl ?_ .nil))))⟩
      · rw [hr1]
        cases r2 with
        | none => rfl
        | some j => exact congrArg (fun n : Nat => (n : Int)) (show i + (j + 1) = i + 1 + j by omega)
      · obtain ⟨ob', ho⟩ := get_some_of (a := HR) hm
        rw [disjB_none hd hl] at ho
        cases ho
      · rw [wrap64 (by omega) (by omega)]
        rfl
  · have hi : i = ps.length := by
      have : ps.length ≤ i := by simpa using hb
      omega
    subst hi
    rw [List.drop_length] at hA
    cases hA
    refine yR ?_
    refine yB ?_
    refine e_seq ?_
    refine Tri.ret ⟨.inr rfl, _, Ghost.refl _, ret1 rfl resV_tmp (iv_imp (by rw [hr1])), fun l ob hl => ⟨ob, ?_, ObImp.refl _⟩⟩
    rw [get_append]
    cases hg : get HR l with
    | some o => exact absurd (get_keys hg) (hdisj l ob hl)
    | none => simpa using hl

theorem conPat_c {vf : PV} {f : FuncId} {first captured : List PV} {HR : List (Nat × Ob)} (hvf : fnV vf = some (f, first, captured)) (hst : Str vf vf) (hnt : isTup vf = false) (hent : entersB Tryz.prog f = true) (hna : (first ++ captured).any isTup = false)
    (hfree : ∀ l ob, get HR l = some ob → freeOb ob = true) {ps : List Pu} (hlen : ps.length < 4611686018427387904) {H H' : List (Nat × Ob)} {r : Option Nat} (hd0 : disjB HR H' = true) (hd1 : disjB HR H = true) (hk : ∀ l ob, get H l = some ob → ∃ ob', get H' l = some ob')
    (h : AnyC Tryz.prog G f first captured HR ps H r H') : HCall Tryz.prog G 120 [.pu (.sl lo 104 ps), vf] HR H (bv r.isSome) H' [] := by
  refine HCall.of_tri tbl (n := 9) (L := keysOf H' ++ heapLabs H') Tryz.func120 rfl rfl hfree (fun l ob hl => disjB_none hd0 hl) (fun l hl => by simp [PV.labs] at hl) (fun l ob hl => keys_mem hl) hk ?_
  rintro ⟨w0, n', M, G', L, R, ρ0, D0, ro⟩ hn hG hL hR' hro
  simp only at hn hG hL hR' hro
  subst hn hG hL hR' hro
  have hHR : ∀ l ob, get HR l = some ob → ∃ ob1, get (HR ++ H) l = some ob1 ∧ ObImp Tryz.prog ob1 ob := fun l ob hl => ⟨ob, by rw [get_append, hl]; rfl, ObImp.refl _⟩
  have hH1 : ∀ l ob, get H l = some ob → l ∉ keysOf HR ∧ ∃ ob1, get (HR ++ H) l = some ob1 ∧ ObImp Tryz.prog ob1 ob := fun l ob hl => by
    have hz := disjB_none hd1 hl
    refine ⟨fun hm => ?_, ob, ?_, ObImp.refl _⟩
    · obtain ⟨ob', ho⟩ := get_some_of (a := HR) hm
      rw [hz] at ho; cases ho
    · rw [get_append, hz]; simpa using hl
  refine yR ?_
  refine yB ?_
  refine e_seq ?_
  refine yR ?_
  refine yM ?_
  refine s_val (v_move SS (h := Ev.mk rfl hst)) ?_
  refine step_call (vf := .pu (.leaf (.func (.func 184) #[] #[]))) (first := []) (captured := []) (vs := [.pu (.sl lo 104 ps), vf]) (HR := HR) (H := H) (news := []) rfl .pu rfl (by kernel_rfl) (.cons (.mk rfl .pu) (.cons (.mk rfl hst) .nil)) (by rw [List.any_cons, List.any_cons, hnt]; rfl) (VImps.refl _) (by rw [List.nil_append, List.append_nil, List.any_cons, List.any_cons, hnt]; rfl) hHR hH1 (idxPat_c hvf hst hnt hent hna hfree hlen hd0 hk (fun l ob hl => disjB_none' hd1 hl) h) rfl ?_
  refine yI ?_
  refine yA ?_
  refine e_seq ?_
  refine Tri.ret ⟨.inr rfl, _, Ghost.refl _, ret1 rfl resV_tmp (bv_imp ?_), fun l ob hl => ⟨ob, by rw [get_append, hl]; rfl, ObImp.refl _⟩⟩
  cases r with
  | none => simp [idxV]
  | some j => simp [idxV]

theorem conPat_d (vf : PV) {f : FuncId} {first captured : List PV} {HR : List (Nat × Ob)} {ps : List Pu} (hlen : ps.length < 4611686018427387904) {H H' : List (Nat × Ob)} {r : Option Nat} (h : AnyC Tryz.prog G f first captured HR ps H r H')
    (hvf : fnV vf = some (f, first, captured) := by rfl) (hst : Str vf vf := by repeat constructor) (hnt : isTup vf = false := by rfl) (hent : entersB Tryz.prog f = true := by kernel_rfl) (hna : (first ++ captured).any isTup = false := by rfl)
    (hfree : HR.all (fun q => freeOb q.2) = true := by rfl) (hd0 : disjB HR H' = true := by rfl) (hd1 : disjB HR H = true := by rfl) (hk : ((keysOf H).all fun l => (keysOf H').contains l) = true := by rfl) :
    HCall Tryz.prog G 120 [.pu (.sl lo 104 ps), vf] HR H (bv r.isSome) H' [] :=
  conPat_c hvf hst hnt hent hna (fun l ob hl => List.all_eq_true.1 hfree _ (get_mem hl)) hlen hd0 hd1 (fun l ob hl => get_some_of (by simpa [keysOf] using List.all_eq_true.1 hk l (get_keys hl))) h


theorem idxTm_c {vf : PV} {f : FuncId} {first captured : List PV} {HR : List (Nat × Ob)} (hvf : fnV vf = some (f, first, captured)) (hst : Str vf vf) (hnt : isTup vf = false) (hent : entersB Tryz.prog f = true) (hna : (first ++ captured).any isTup = false)
    (hfree : ∀ l ob, get HR l = some ob → freeOb ob = true) {ps : List Pu} (hlen : ps.length < 4611686018427387904) {H H' : List (Nat × Ob)} {r : Option Nat} (hd0 : disjB HR H' = true) (hk : ∀ l ob, get H l = some ob → ∃ ob', get H' l = some ob') (hR : ∀ l ob, get HR l = some ob → get H l = none)
    (h : AnyC Tryz.prog G f first captured HR ps H r H') : HCall Tryz.prog G 185 [.pu (.sl lo 32 ps), vf] HR H (iv .i64 (idxV r)) H' [] := by
  refine HCall.of_tri tbl (n := 19) (L := keysOf H' ++ heapLabs H') Tryz.func185 rfl rfl hfree (fun l ob hl => disjB_none hd0 hl) (fun l hl => by simp [PV.labs] at hl) (fun l ob hl => keys_mem hl) hk ?_
  rintro ⟨w0, n', M, G', L, R, ρ0, D0, ro⟩ hn hG hL hR' hro
  simp only at hn hG hL hR' hro
  subst hn hG hL hR' hro
  have hset : ∀ (i : Nat) (H1 : List (Nat × Ob)) (r1 : Option Nat), AnyC Tryz.prog G' f first captured HR (ps.drop i) H1 r1 H' → True := fun _ _ _ _ => trivial
  let σ := {s : Nat × List (Nat × Ob) × Option Nat // AnyC Tryz.prog G' f first captured HR (ps.drop s.1) s.2.1 s.2.2 H' ∧ s.1 ≤ ps.length ∧ idxV r = (match s.2.2 with | some j => ((s.1 + j : Nat) : Int) | none => -1) ∧ (∀ l ob, get s.2.1 l = some ob → l ∉ keysOf HR)}
  refine yR ?_
  refine yB ?_
  refine e_seq ?_
  refine yR ?_
  refine yM ?_
  refine yC ?_
  refine yJ ?_
  refine e_seq ?_
  repeat refine Tri.seq ?_
  refine Tri.block (Tri.loop (σ := σ) (fun s => ⟨[(0, .pu (.sl lo 32 ps)), (1, vf), (7, iv .i64 ps.length), (8, iv .i64 s.1.1)], HR ++ s.1.2.1⟩) (fun s => ps.length - s.1.1) ⟨(0, H, r), by simpa using h, Nat.zero_le _, by cases r <;> simp [idxV], fun l ob hl hm => ?_⟩ ?_ (fun s => ?_))
  · obtain ⟨ob', ho⟩ := get_some_of (a := HR) hm
    rw [hR l ob' ho] at hl
    cases hl
  · exact le_same (.cons rfl rfl (.cons rfl rfl (.cons rfl rfl (.cons rfl rfl .nil))))
  obtain ⟨⟨i, H1, r1⟩, hA, hi0, hr1, hdisj⟩ := s
  simp only at hA hi0 hr1 hdisj ⊢
  refine yR ?_
  refine yI ?_
  refine e_seq ?_
  refine Tri.seq (Tri.cond rfl (fun hb => Tri.skip ?_) (fun hb => Tri.exit ?_))
  · have hi : i < ps.length := by simpa using hb
    obtain ⟨p, hp⟩ : ∃ p, ps[i]? = some p := ⟨ps[i], by simp [hi]⟩
    have hdr : ps.drop i = p :: ps.drop (i + 1) := by
      rw [List.drop_eq_getElem_cons hi]
      simp only [List.getElem?_eq_getElem hi, Option.some.injEq] at hp
      rw [hp]
    rw [hdr] at hA
    have hHR : ∀ l ob, get HR l = some ob → ∃ ob1, get (HR ++ H1) l = some ob1 ∧ ObImp Tryz.prog ob1 ob := fun l ob hl => ⟨ob, by rw [get_append, hl]; rfl, ObImp.refl _⟩
    have hH1 : ∀ l ob, get H1 l = some ob → l ∉ keysOf HR ∧ ∃ ob1, get (HR ++ H1) l = some ob1 ∧ ObImp Tryz.prog ob1 ob := fun l ob hl => by
      refine ⟨hdisj l ob hl, ob, ?_, ObImp.refl _⟩
      rw [get_append]
      cases hg : get HR l with
      | some o => exact absurd (get_keys hg) (hdisj l ob hl)
      | none => simpa using hl
    have hnt2 : (first ++ [PV.pu p] ++ captured).any isTup = false := by
      simp only [List.any_append, Bool.or_eq_false_iff] at hna ⊢
      exact ⟨⟨hna.1, by simp [isTup]⟩, hna.2⟩
    refine Tri.seq (Tri.block ?_)
    refine yR ?_
    refine yM ?_
    refine yA ?_
    refine e_seq ?_
    cases hA with
    | hit hc hd =>
      refine yR ?_
      refine s_val (v_move SS (h := Ev.mk rfl hst)) ?_
      refine yM ?_
      refine yM ?_
      refine s_val (v_index SS (h0 := by omega) (hp := hp)) ?_
      refine yL ?_
      refine step_call (vf := vf) (first := first) (captured := captured) (vs := [.pu p]) (HR := HR) (H := H1) (news := []) rfl hst hvf hent (.cons (.mk rfl .pu) .nil) rfl (VImps.refl _) hnt2 hHR hH1 hc rfl ?_
      refine e_seq ?_
      repeat refine Tri.seq ?_
      refine Tri.condT rfl ?_
      refine yR ?_
      refine yM ?_
      refine yA ?_
      refine e_seq ?_
      refine Tri.ret ⟨.inr rfl, _, Ghost.refl _, ret1 rfl resV_tmp (iv_imp ?_), fun l ob hl => ⟨ob, ?_, ObImp.refl _⟩⟩
      · rw [hr1]
        simp
      · rw [get_append, hl]; rfl
    | next hc hd t =>
      rename_i H2 r2
      refine yR ?_
      refine s_val (v_move SS (h := Ev.mk rfl hst)) ?_
      refine yM ?_
      refine yM ?_
      refine s_val (v_index SS (h0 := by omega) (hp := hp)) ?_
      refine yL ?_
      refine step_call (vf := vf) (first := first) (captured := captured) (vs := [.pu p]) (HR := HR) (H := H1) (news := []) rfl hst hvf hent (.cons (.mk rfl .pu) .nil) rfl (VImps.refl _) hnt2 hHR hH1 hc rfl ?_
      refine e_seq ?_
      repeat refine Tri.seq ?_
      refine Tri.condF rfl ?_
      refine Tri.skip ?_
      refine yR ?_
      refine yI ?_
      refine yM ?_
      refine e_seq ?_
      refine ⟨⟨(i + 1, H2, r2), t, hi, ?_, fun l ob hl hm => ?_⟩, by simp; omega, le_call hd (.cons rfl rfl (.cons rfl rfl (.cons rfl rfl (.cons rfl ?_ .nil))))⟩
      · rw [hr1]
        cases r2 with
        | none => rfl
        | some j => exact congrArg (fun n : Nat => (n : Int)) (show i + (j + 1) = i + 1 + j by omega)
      · obtain ⟨ob', ho⟩ := get_some_of (a := HR) hm
        rw [disjB_none hd hl] at ho
        cases ho
      · rw [wrap64 (by omega) (by omega)]
        rfl
  · have hi : i = ps.length := by
      have : ps.length ≤ i := by simpa using hb
      omega
    subst hi
    rw [List.drop_length] at hA
    cases hA
    refine yR ?_
    refine yB ?_
    refine e_seq ?_
    refine Tri.ret ⟨.inr rfl, _, Ghost.refl _, ret1 rfl resV_tmp (iv_imp (by rw [hr1])), fun l ob hl => ⟨ob, ?_, ObImp.refl _⟩⟩
    rw [get_append]
    cases hg : get HR l with
    | some o => exact absurd (get_keys hg) (hdisj l ob hl)
    | none => simpa using hl

theorem conTm_c {vf : PV} {f : FuncId} {first captured : List PV} {HR : List (Nat × Ob)} (hvf : fnV vf = some (f, first, captured)) (hst : Str vf vf) (hnt : isTup vf = false) (hent : entersB Tryz.prog f = true) (hna : (first ++ captured).any isTup = false)
    (hfree : ∀ l ob, get HR l = some ob → freeOb ob = true) {ps : List Pu} (hlen : ps.length < 4611686018427387904) {H H' : List (Nat × Ob)} {r : Option Nat} (hd0 : disjB HR H' = true) (hd1 : disjB HR H = true) (hk : ∀ l ob, get H l = some ob → ∃ ob', get H' l = some ob')
    (h : AnyC Tryz.prog G f first captured HR ps H r H') : HCall Tryz.prog G 122 [.pu (.sl lo 32 ps), vf] HR H (bv r.isSome) H' [] := by
  refine HCall.of_tri tbl (n := 9) (L := keysOf H' ++ heapLabs H') Tryz.func122 rfl rfl hfree (fun l ob hl => disjB_none hd0 hl) (fun l hl => by simp [PV.labs] at hl) (fun l ob hl => keys_mem hl) hk ?_
  rintro ⟨w0, n', M, G', L, R, ρ0, D0, ro⟩ hn hG hL hR' hro
  simp only at hn hG hL hR' hro
  subst hn hG hL hR' hro
  have hHR : ∀ l ob, get HR l = some ob → ∃ ob1, get (HR ++ H) l = some ob1 ∧ ObImp Tryz.prog ob1 ob := fun l ob hl => ⟨ob, by rw [get_append, hl]; rfl, ObImp.refl _⟩
  have hH1 : ∀ l ob, get H l = some ob → l ∉ keysOf HR ∧ ∃ ob1, get (HR ++ H) l = some ob1 ∧ ObImp Tryz.prog ob1 ob := fun l ob hl => by
    have hz := disjB_none hd1 hl
    refine ⟨fun hm => ?_, ob, ?_, ObImp.refl _⟩
    · obtain ⟨ob', ho⟩ := get_some_of (a := HR) hm
      rw [hz] at ho; cases ho
    · rw [get_append, hz]; simpa using hl
  refine yR ?_
  refine yB ?_
  refine e_seq ?_
  refine yR ?_
  refine yM ?_
  refine s_val (v_move SS (h := Ev.mk rfl hst)) ?_
  refine step_call (vf := .pu (.leaf (.func (.func 185) #[] #[]))) (first := []) (captured := []) (vs := [.pu (.sl lo 32 ps), vf]) (HR := HR) (H := H) (news := []) rfl .pu rfl (by kernel_rfl) (.cons (.mk rfl .pu) (.cons (.mk rfl hst) .nil)) (by rw [List.any_cons, List.any_cons, hnt]; rfl) (VImps.refl _) (by rw [List.nil_append, List.append_nil, List.any_cons, List.any_cons, hnt]; rfl) hHR hH1 (idxTm_c hvf hst hnt hent hna hfree hlen hd0 hk (fun l ob hl => disjB_none' hd1 hl) h) rfl ?_
  refine yI ?_
  refine yA ?_
  refine e_seq ?_
  refine Tri.ret ⟨.inr rfl, _, Ghost.refl _, ret1 rfl resV_tmp (bv_imp ?_), fun l ob hl => ⟨ob, by rw [get_append, hl]; rfl, ObImp.refl _⟩⟩
  cases r with
  | none => simp [idxV]
  | some j => simp [idxV]

theorem conTm_d (vf : PV) {f : FuncId} {first captured : List PV} {HR : List (Nat × Ob)} {ps : List Pu} (hlen : ps.length < 4611686018427387904) {H H' : List (Nat × Ob)} {r : Option Nat} (h : AnyC Tryz.prog G f first captured HR ps H r H')
    (hvf : fnV vf = some (f, first, captured) := by rfl) (hst : Str vf vf := by repeat constructor) (hnt : isTup vf = false := by rfl) (hent : entersB Tryz.prog f = true := by kernel_rfl) (hna : (first ++ captured).any isTup = false := by rfl)
    (hfree : HR.all (fun q => freeOb q.2) = true := by rfl) (hd0 : disjB HR H' = true := by rfl) (hd1 : disjB HR H = true := by rfl) (hk : ((keysOf H).all fun l => (keysOf H').contains l) = true := by rfl) :
    HCall Tryz.prog G 122 [.pu (.sl lo 32 ps), vf] HR H (bv r.isSome) H' [] :=
  conTm_c hvf hst hnt hent hna (fun l ob hl => List.all_eq_true.1 hfree _ (get_mem hl)) hlen hd0 hd1 (fun l ob hl => get_some_of (by simpa [keysOf] using List.all_eq_true.1 hk l (get_keys hl))) h


theorem idxCs_c {vf : PV} {f : FuncId} {first captured : List PV} {HR : List (Nat × Ob)} (hvf : fnV vf = some (f, first, captured)) (hst : Str vf vf) (hnt : isTup vf = false) (hent : entersB Tryz.prog f = true) (hna : (first ++ captured).any isTup = false)
    (hfree : ∀ l ob, get HR l = some ob → freeOb ob = true) {ps : List Pu} (hlen : ps.length < 4611686018427387904) {H H' : List (Nat × Ob)} {r : Option Nat} (hd0 : disjB HR H' = true) (hk : ∀ l ob, get H l = some ob → ∃ ob', get H' l = some ob') (hR : ∀ l ob, get HR l = some ob → get H l = none)
    (h : AnyC Tryz.prog G f first captured HR ps H r H') : HCall Tryz.prog G 186 [.pu (.sl lo 106 ps), vf] HR H (iv .i64 (idxV r)) H' [] := by
  refine HCall.of_tri tbl (n := 19) (L := keysOf H' ++ heapLabs H') Tryz.func186 rfl rfl hfree (fun l ob hl => disjB_none hd0 hl) (fun l hl => by simp [PV.labs] at hl) (fun l ob hl => keys_mem hl) hk ?_
  rintro ⟨w0, n', M, G', L, R, ρ0, D0, ro⟩ hn hG hL hR' hro
  simp only at hn hG hL hR' hro
  subst hn hG hL hR' hro
  have hset : ∀ (i : Nat) (H1 : List (Nat × Ob)) (r1 : Option Nat), AnyC Tryz.prog G' f first captured HR (ps.drop i) H1 r1 H' → True := fun _ _ _ _ => trivial
  let σ := {s : Nat × List (Nat × Ob) × Option Nat // AnyC Tryz.prog G' f first captured HR (ps.drop s.1) s.2.1 s.2.2 H' ∧ s.1 ≤ ps.length ∧ idxV r = (match s.2.2 with | some j => ((s.1 + j : Nat) : Int) | none => -1) ∧ (∀ l ob, get s.2.1 l = some ob → l ∉ keysOf HR)}
  refine yR ?_
  refine yB ?_
  refine e_seq ?_
  refine yR ?_
  refine yM ?_
  refine yC ?_
  refine yJ ?_
  refine e_seq ?_
  repeat refine Tri.seq ?_
  refine Tri.block (Tri.loop (σ := σ) (fun s => ⟨[(0, .pu (.sl lo 106 ps)), (1, vf), (7, iv .i64 ps.length), (8, iv .i64 s.1.1)], HR ++ s.1.2.1⟩) (fun s => ps.length - s.1.1) ⟨(0, H, r), by simpa using h, Nat.zero_le _, by cases r <;> simp [idxV], fun l ob hl hm => ?_⟩ ?_ (fun s => ?_))
  · obtain ⟨ob', ho⟩ := get_some_of (a := HR) hm
    rw [hR l ob' ho] at hl
    cases hl
  · exact le_same (.cons rfl rfl (.cons rfl rfl (.cons rfl rfl (.cons rfl rfl .nil))))
  obtain ⟨⟨i, H1, r1⟩, hA, hi0, hr1, hdisj⟩ := s
  simp only at hA hi0 hr1 hdisj ⊢
  refine yR ?_
  refine yI ?_
  refine e_seq ?_
  refine Tri.seq (Tri.cond rfl (fun hb => Tri.skip ?_) (fun hb => Tri.exit ?_))
  · have hi : i < ps.length := by simpa using hb
    obtain ⟨p, hp⟩ : ∃ p, ps[i]? = some p := ⟨ps[i], by simp [hi]⟩
    have hdr : ps.drop i = p :: ps.drop (i + 1) := by
      rw [List.drop_eq_getElem_cons hi]
      simp only [List.getElem?_eq_getElem hi, Option.some.injEq] at hp
      rw [hp]
    rw [hdr] at hA
    have hHR : ∀ l ob, get HR l = some ob → ∃ ob1, get (HR ++ H1) l = some ob1 ∧ ObImp Tryz.prog ob1 ob := fun l ob hl => ⟨ob, by rw [get_append, hl]; rfl, ObImp.refl _⟩
    have hH1 : ∀ l ob, get H1 l = some ob → l ∉ keysOf HR ∧ ∃ ob1, get (HR ++ H1) l = some ob1 ∧ ObImp Tryz.prog ob1 ob := fun l ob hl => by
      refine ⟨hdisj l ob hl, ob, ?_, ObImp.refl _⟩
      rw [get_append]
      cases hg : get HR l with
      | some o => exact absurd (get_keys hg) (hdisj l ob hl)
      | none => simpa using hl
    have hnt2 : (first ++ [PV.pu p] ++ captured).any isTup = false := by
      simp only [List.any_append, Bool.or_eq_false_iff] at hna ⊢
      exact ⟨⟨hna.1, by simp [isTup]⟩, hna.2⟩
    refine Tri.seq (Tri.block ?_)
    refine yR ?_
    refine yM ?_
    refine yA ?_
    refine e_seq ?_
    cases hA with
    | hit hc hd =>
      refine yR ?_
      refine s_val (v_move SS (h := Ev.mk rfl hst)) ?_
      refine yM ?_
      refine yM ?_
      refine s_val (v_index SS (h0 := by omega) (hp := hp)) ?_
      refine yL ?_
      refine step_call (vf := vf) (first := first) (captured := captured) (vs := [.pu p]) (HR := HR) (H := H1) (news := []) rfl hst hvf hent (.cons (.mk rfl .pu) .nil) rfl (VImps.refl _) hnt2 hHR hH1 hc rfl ?_
      refine e_seq ?_
      repeat refine Tri.seq ?_
      refine Tri.condT rfl ?_
      refine yR ?_
      refine yM ?_
      refine yA ?_
      refine e_seq ?_
      refine Tri.ret ⟨.inr rfl, _, Ghost.refl _, ret1 rfl resV_tmp (iv_imp ?_), fun l ob hl => ⟨ob, ?_, ObImp.refl _⟩⟩
      · rw [hr1]
        simp
      · rw [get_append, hl]; rfl
    | next hc hd t =>
      rename_i H2 r2
      refine yR ?_
      refine s_val (v_move SS (h := Ev.mk rfl hst)) ?_
      refine yM ?_
      refine yM ?_
      refine s_val (v_index SS (h0 := by omega) (hp := hp)) ?_
      refine yL ?_
      refine step_call (vf := vf) (first := first) (captured := captured) (vs := [.pu p]) (HR := HR) (H := H1) (news := []) rfl hst hvf hent (.cons (.mk rfl .pu) .nil) rfl (VImps.refl _) hnt2 hHR hH1 hc rfl ?_
      refine e_seq ?_
      repeat refine Tri.seq ?_
      refine Tri.condF rfl ?_
      refine Tri.skip ?_
      refine yR ?_
      refine yI ?_
      refine yM ?_
      refine e_seq ?_
      refine ⟨⟨(i + 1, H2, r2), t, hi, ?_, fun l ob hl hm => ?_⟩, by simp; omega, le_call hd (.cons rfl rfl (.cons rfl rfl (.cons rfl rfl (.cons rfl ?_ .nil))))⟩
      · rw [hr1]
        cases r2 with
        | none => rfl
        | some j => exact congrArg (fun n : Nat => (n : Int)) (show i + (j + 1) = i + 1 + j by omega)
      · obtain ⟨ob', ho⟩ := get_some_of (a := HR) hm
        rw [disjB_none hd hl] at ho
        cases ho
      · rw [wrap64 (by omega) (by omega)]
        rfl
  · have hi : i = ps.length := by
      have : ps.length ≤ i := by simpa using hb
      omega
    subst hi
    rw [List.drop_length] at hA
    cases hA
    refine yR ?_
    refine yB ?_
    refine e_seq ?_
    refine Tri.ret ⟨.inr rfl, _, Ghost.refl _, ret1 rfl resV_tmp (iv_imp (by rw [hr1])), fun l ob hl => ⟨ob, ?_, ObImp.refl _⟩⟩
    rw [get_append]
    cases hg : get HR l with
    | some o => exact absurd (get_keys hg) (hdisj l ob hl)
    | none => simpa using hl

theorem conCs_c {vf : PV} {f : FuncId} {first captured : List PV} {HR : List (Nat × Ob)} (hvf : fnV vf = some (f, first, captured)) (hst : Str vf vf) (hnt : isTup vf = false) (hent : entersB Tryz.prog f = true) (hna : (first ++ captured).any isTup = false)
    (hfree : ∀ l ob, get HR l = some ob → freeOb ob = true) {ps : List Pu} (hlen : ps.length < 4611686018427387904) {H H' : List (Nat × Ob)} {r : Option Nat} (hd0 : disjB HR H' = true) (hd1 : disjB HR H = true) (hk : ∀ l ob, get H l = some ob → ∃ ob', get H' l = some ob')
    (h : AnyC Tryz.prog G f first captured HR ps H r H') : HCall Tryz.prog G 123 [.pu (.sl lo 106 ps), vf] HR H (bv r.isSome) H' [] := by
  refine HCall.of_tri tbl (n := 9) (L := keysOf H' ++ heapLabs H') Tryz.func123 rfl rfl hfree (fun l ob hl => disjB_none hd0 hl) (fun l hl => by simp [PV.labs] at hl) (fun l ob hl => keys_mem hl) hk ?_
  rintro ⟨w0, n', M, G', L, R, ρ0, D0, ro⟩ hn hG hL hR' hro
  simp only at hn hG hL hR' hro
  subst hn hG hL hR' hro
  have hHR : ∀ l ob, get HR l = some ob → ∃ ob1, get (HR ++ H) l = some ob1 ∧ ObImp Tryz.prog ob1 ob := fun l ob hl => ⟨ob, by rw [get_append, hl]; rfl, ObImp.refl _⟩
  have hH1 : ∀ l ob, get H l = some ob → l ∉ keysOf HR ∧ ∃ ob1, get (HR ++ H) l = some ob1 ∧ ObImp Tryz.prog ob1 ob := fun l ob hl => by
    have hz := disjB_none hd1 hl
    refine ⟨fun hm => ?_, ob, ?_, ObImp.refl _⟩
    · obtain ⟨ob', ho⟩ := get_some_of (a := HR) hm
      rw [hz] at ho; cases ho
    · rw [get_append, hz]; simpa using hl
  refine yR ?_
  refine yB ?_
  refine e_seq ?_
  refine yR ?_
  refine yM ?_
  refine s_val (v_move SS (h := Ev.mk rfl hst)) ?_
  refine step_call (vf := .pu (.leaf (.func (.func 186) #[] #[]))) (first := []) (captured := []) (vs := [.pu (.sl lo 106 ps), vf]) (HR := HR) (H := H) (news := []) rfl .pu rfl (by kernel_rfl) (.cons (.mk rfl .pu) (.cons (.mk rfl hst) .nil)) (by rw [List.any_cons, List.any_cons, hnt]; rfl) (VImps.refl _) (by rw [List.nil_append, List.append_nil, List.any_cons, List.any_cons, hnt]; rfl) hHR hH1 (idxCs_c hvf hst hnt hent hna hfree hlen hd0 hk (fun l ob hl => disjB_none' hd1 hl) h) rfl ?_
  refine yI ?_
  refine yA ?_
  refine e_seq ?_
  refine Tri.ret ⟨.inr rfl, _, Ghost.refl _, ret1 rfl resV_tmp (bv_imp ?_), fun l ob hl => ⟨ob, by rw [get_append, hl]; rfl, ObImp.refl _⟩⟩
  cases r with
  | none => simp [idxV]
  | some j => simp [idxV]

theorem conCs_d (vf : PV) {f : FuncId} {first captured : List PV} {HR : List (Nat × Ob)} {ps : List Pu} (hlen : ps.length < 4611686018427387904) {H H' : List (Nat × Ob)} {r : Option Nat} (h : AnyC Tryz.prog G f first captured HR ps H r H')
    (hvf : fnV vf = some (f, first, captured) := by rfl) (hst : Str vf vf := by repeat constructor) (hnt : isTup vf = false := by rfl) (hent : entersB Tryz.prog f = true := by kernel_rfl) (hna : (first ++ captured).any isTup = false := by rfl)
    (hfree : HR.all (fun q => freeOb q.2) = true := by rfl) (hd0 : disjB HR H' = true := by rfl) (hd1 : disjB HR H = true := by rfl) (hk : ((keysOf H).all fun l => (keysOf H').contains l) = true := by rfl) :
    HCall Tryz.prog G 123 [.pu (.sl lo 106 ps), vf] HR H (bv r.isSome) H' [] :=
  conCs_c hvf hst hnt hent hna (fun l ob hl => List.all_eq_true.1 hfree _ (get_mem hl)) hlen hd0 hd1 (fun l ob hl => get_some_of (by simpa [keysOf] using List.all_eq_true.1 hk l (get_keys hl))) h

end Go.Proofs.YtkcgkignhpepkaaGreatDoor

/- The kit's words for terms. -/
namespace Go.Proofs.YtkcgkignhpepkaaGreatDoor
open Go Hs
variable {G : List (Nat × TypeId × Pu)}

theorem Nu_c (n : Int) : FCall Tryz.prog G 33 [iv .i64 n] (.pu (tmc 0 (.mk 2 n Z32 [] []))) := by
  refine FCall.of_tri tbl 5 Tryz.func33 rfl rfl rfl fun w0 M ρ0 D0 => ?_
  refine yR ?_
  refine s_alloc SS 2 ?_
  refine e_seqN [2] ?_
  refine yR ?_
  refine yM ?_
  refine yP ?_
  refine yS ?_
  refine e_seq ?_
  exact Tri.ret ⟨.inr rfl, ret1 rfl resV_cell (ToPu.imp (by repeat constructor))⟩

theorem Va_c (n : Int) : FCall Tryz.prog G 32 [iv .i64 n] (.pu (tmc 0 (.mk 1 n Z32 [] []))) := by
  refine FCall.of_tri tbl 5 Tryz.func32 rfl rfl rfl fun w0 M ρ0 D0 => ?_
  refine yR ?_
  refine s_alloc SS 2 ?_
  refine e_seqN [2] ?_
  refine yR ?_
  refine yM ?_
  refine yP ?_
  refine yS ?_
  refine e_seq ?_
  exact Tri.ret ⟨.inr rfl, ret1 rfl resV_cell (ToPu.imp (by repeat constructor))⟩

theorem Ca_c (p : Pat) (t : Tm) : FCall Tryz.prog G 65 [.pu (patc 0 p), .pu (tmc 0 t)] (.pu (csec 0 (.mk p t))) := by
  refine FCall.of_tri tbl 8 Tryz.func65 rfl rfl rfl fun w0 M ρ0 D0 => ?_
  refine yR ?_
  refine s_box SS 2 ?_
  refine s_box SS 3 ?_
  refine s_alloc SS 4 ?_
  refine e_seqN [2, 3, 4] ?_
  refine yR ?_
  refine yL ?_
  refine yL ?_
  refine yP ?_
  refine yS ?_
  refine e_seq ?_
  exact Tri.ret ⟨.inr rfl, ret1 rfl resV_cell (ToPu.imp (by repeat constructor))⟩

theorem Ma_c (t : Tm) (cs : List Cs) : FCall Tryz.prog G 62 [.pu (tmc 0 t), .pu (.sl 0 106 (cssc 0 cs))] (.pu (tmc 0 (.mk 9 0 Z32 [t] cs))) := by
  refine FCall.of_tri tbl 9 Tryz.func62 rfl rfl rfl fun w0 M ρ0 D0 => ?_
  refine yR ?_
  refine s_box SS 2 ?_
  refine s_alloc SS 4 ?_
  refine e_seqN [2, 4] ?_
  refine yR ?_
  refine yL ?_
  refine yZ ?_
  refine yM ?_
  refine yP ?_
  refine yS ?_
  refine e_seq ?_
  exact Tri.ret ⟨.inr rfl, ret1 rfl resV_cell (ToPu.imp (by repeat constructor))⟩

theorem Ap_c (s t : Tm) : FCall Tryz.prog G 31 [.pu (tmc 0 s), .pu (tmc 0 t)] (.pu (tmc 0 (.mk 4 0 Z32 [s, t] []))) := by
  refine FCall.of_tri tbl 9 Tryz.func31 rfl rfl rfl fun w0 M ρ0 D0 => ?_
  refine yR ?_
  refine s_box SS 2 ?_
  refine s_box SS 3 ?_
  refine s_alloc SS 4 ?_
  refine e_seqN [2, 3, 4] ?_
  refine yR ?_
  refine yL ?_
  refine yL ?_
  refine yZ ?_
  refine yP ?_
  refine yS ?_
  refine e_seq ?_
  exact Tri.ret ⟨.inr rfl, ret1 rfl resV_cell (ToPu.imp (by repeat constructor))⟩

theorem De_c (r : List Int) : FCall Tryz.prog G 61 [.pu (refP r)] (.pu (tmc 0 (.mk 6 0 r [] []))) := by
  refine FCall.of_tri tbl 5 Tryz.func61 rfl rfl rfl fun w0 M ρ0 D0 => ?_
  refine yR ?_
  refine s_box SS 1 ?_
  refine s_alloc SS 2 ?_
  refine e_seqN [1, 2] ?_
  refine yR ?_
  refine yL ?_
  refine yP ?_
  refine yS ?_
  refine e_seq ?_
  exact Tri.ret ⟨.inr rfl, ret1 rfl resV_cell (ToPu.imp (by repeat constructor))⟩

theorem Co_c (r : List Int) (n : Int) (ks : List Tm) : FCall Tryz.prog G 43 [.pu (refP r), iv .i64 n, .pu (.sl 0 32 (tmsc 0 ks))] (.pu (tmc 0 (.mk 8 n r ks []))) := by
  refine FCall.of_tri tbl 11 Tryz.func43 rfl rfl rfl fun w0 M ρ0 D0 => ?_
  refine yR ?_
  refine s_box SS 3 ?_
  refine s_alloc SS 6 ?_
  refine e_seqN [3, 6] ?_
  refine yR ?_
  refine yL ?_
  refine yM ?_
  refine yM ?_
  refine yP ?_
  refine yS ?_
  refine e_seq ?_
  exact Tri.ret ⟨.inr rfl, ret1 rfl resV_cell (ToPu.imp (by repeat constructor))⟩
theorem La_c (t : Tm) : FCall Tryz.prog G 30 [.pu (tmc 0 t)] (.pu (tmc 0 (.mk 3 0 Z32 [t] []))) := by
  refine FCall.of_tri tbl 6 Tryz.func30 rfl rfl rfl fun w0 M ρ0 D0 => ?_
  refine yR ?_
  refine s_box SS 1 ?_
  refine s_alloc SS 2 ?_
  refine e_seqN [1, 2] ?_
  refine yR ?_
  refine yL ?_
  refine yZ ?_
  refine yP ?_
  refine yS ?_
  refine e_seq ?_
  exact Tri.ret ⟨.inr rfl, ret1 rfl resV_cell (ToPu.imp (by repeat constructor))⟩

theorem Pr_c (n : Int) (s t : Tm) : FCall Tryz.prog G 34 [iv .i64 n, .pu (tmc 0 s), .pu (tmc 0 t)] (.pu (tmc 0 (.mk 10 n Z32 [s, t] []))) := by
  refine FCall.of_tri tbl 12 Tryz.func34 rfl rfl rfl fun w0 M ρ0 D0 => ?_
  refine yR ?_
  refine s_box SS 4 ?_
  refine s_box SS 5 ?_
  refine s_alloc SS 6 ?_
  refine e_seqN [4, 5, 6] ?_
  refine yR ?_
  refine yM ?_
  refine yL ?_
  refine yL ?_
  refine yZ ?_
  refine yP ?_
  refine yS ?_
  refine e_seq ?_
  exact Tri.ret ⟨.inr rfl, ret1 rfl resV_cell (ToPu.imp (by repeat constructor))⟩

theorem Any_c : FCall Tryz.prog G 68 [] (.pu (patc 0 (.mk 1 0 Z32 []))) := by
  refine FCall.of_tri tbl 2 Tryz.func68 rfl rfl rfl fun w0 M ρ0 D0 => ?_
  refine yR ?_
  refine s_alloc SS 0 ?_
  refine e_seqN [0] ?_
  refine yR ?_
  refine yP ?_
  refine yS ?_
  refine e_seq ?_
  exact Tri.ret ⟨.inr rfl, ret1 rfl resV_cell (ToPu.imp (by repeat constructor))⟩

theorem PN_c (n : Int) : FCall Tryz.prog G 66 [iv .i64 n] (.pu (patc 0 (.mk 2 n Z32 []))) := by
  refine FCall.of_tri tbl 5 Tryz.func66 rfl rfl rfl fun w0 M ρ0 D0 => ?_
  refine yR ?_
  refine s_alloc SS 2 ?_
  refine e_seqN [2] ?_
  refine yR ?_
  refine yM ?_
  refine yP ?_
  refine yS ?_
  refine e_seq ?_
  exact Tri.ret ⟨.inr rfl, ret1 rfl resV_cell (ToPu.imp (by repeat constructor))⟩
end Go.Proofs.YtkcgkignhpepkaaGreatDoor

/- The law's own words for terms. -/
namespace Go.Proofs.YtkcgkignhpepkaaGreatDoor
open Go Hs
variable {G : List (Nat × TypeId × Pu)}
def vaT (n : Int) : Tm := .mk 1 n Z32 [] []
def nuT (n : Int) : Tm := .mk 2 n Z32 [] []
def apT (s t : Tm) : Tm := .mk 4 0 Z32 [s, t] []

theorem Once_c : FCall Tryz.prog G 71 [] (.pu (tmc 0 (apT (vaT 0) (vaT 1)))) := by
  refine FCall.of_tri tbl 4 Tryz.func71 rfl rfl rfl fun w0 M ρ0 D0 => ?_
  refine yR ?_
  refine s_alloc SS 0 ?_
  refine e_seqN [0] ?_
  refine yR ?_
  refine s_val (v_callD (fun _ => Va_c 0)) ?_
  refine s_val (v_callD (fun _ => Va_c 1)) ?_
  refine s_val (v_callD (fun _ => Ap_c (vaT 0) (vaT 1))) ?_
  refine yS ?_
  refine e_seq ?_
  exact Tri.ret ⟨.inr rfl, ret1 rfl resV_cell (ToPu.imp (by repeat constructor))⟩

theorem Ask_c (r : List Int) (n : Int) (t : Tm) : FCall Tryz.prog G 38 [.pu (refP r), iv .i64 n, .pu (tmc 0 t)] (.pu (tmc 0 (.mk 11 n r [t] []))) := by
  refine FCall.of_tri tbl 12 Tryz.func38 rfl rfl rfl fun w0 M ρ0 D0 => ?_
  refine yR ?_
  refine s_box SS 3 ?_
  refine s_box SS 5 ?_
  refine s_alloc SS 6 ?_
  refine e_seqN [3, 5, 6] ?_
  refine yR ?_
  refine yL ?_
  refine yM ?_
  refine yL ?_
  refine yZ ?_
  refine yP ?_
  refine yS ?_
  refine e_seq ?_
  exact Tri.ret ⟨.inr rfl, ret1 rfl resV_cell (ToPu.imp (by repeat constructor))⟩

def prT (n : Int) (s t : Tm) : Tm := .mk 10 n Z32 [s, t] []
theorem Twice_c : FCall Tryz.prog G 72 [] (.pu (tmc 0 (prT 1 (apT (vaT 0) (nuT 1)) (apT (vaT 0) (nuT 2))))) := by
  refine FCall.of_tri tbl 8 Tryz.func72 rfl rfl rfl fun w0 M ρ0 D0 => ?_
  refine yR ?_
  refine s_alloc SS 0 ?_
  refine e_seqN [0] ?_
  refine yR ?_
  refine s_val (v_callD (fun _ => Va_c 0)) ?_
  refine s_val (v_callD (fun _ => Nu_c 1)) ?_
  refine s_val (v_callD (fun _ => Ap_c (vaT 0) (nuT 1))) ?_
  refine s_val (v_callD (fun _ => Va_c 0)) ?_
  refine s_val (v_callD (fun _ => Nu_c 2)) ?_
  refine s_val (v_callD (fun _ => Ap_c (vaT 0) (nuT 2))) ?_
  refine s_val (v_callD (fun _ => Pr_c 1 (apT (vaT 0) (nuT 1)) (apT (vaT 0) (nuT 2)))) ?_
  refine yS ?_
  refine e_seq ?_
  exact Tri.ret ⟨.inr rfl, ret1 rfl resV_cell (ToPu.imp (by repeat constructor))⟩
end Go.Proofs.YtkcgkignhpepkaaGreatDoor

/- Patterns of one's own. -/
namespace Go.Proofs.YtkcgkignhpepkaaGreatDoor
open Go Hs
variable {G : List (Nat × TypeId × Pu)}

theorem stepOwnPattern_c : ∀ (N : Nat) (p : Pat), psize p ≤ N → N < 2^30 → FCall Tryz.prog G 221 [.pu (patc 0 p)] (.pu (patc 0 p)) := by
  intro N
  induction N with
  | zero => intro p h; cases p; simp [psize] at h
  | succ N ih =>
  intro p hp hN
  obtain ⟨k, n, r, ks⟩ := p
  simp only [psize] at hp
  have hlen := length_psizeL ks
  refine FCall.of_tri tbl 24 Tryz.func221 rfl rfl rfl fun w0 M ρ0 D0 => ?_
  refine yR ?_
  refine s_box SS 1 ?_
  refine s_alloc SS 2 ?_
  refine e_seqN [1, 2] ?_
  refine yR ?_
  refine yF ?_
  refine yK ?_
  refine yA ?_
  refine e_seq ?_
  refine yR ?_
  refine yF ?_
  refine yS ?_
  refine e_seq ?_
  refine yR ?_
  refine yM ?_
  refine yC ?_
  refine yJ ?_
  refine e_seq ?_
  refine Tri.ghost (Ghost.wk (env' := [(1, .ptr 1 [] 104), (2, .ptr 2 [] 104), (9, .pu (.sl 0 104 (patsc 0 ks))), (10, iv .i64 (patsc 0 ks).length), (11, iv .i64 0)])
    (heap' := [(1, .var 104 (.agg 104 [iv .i64 k, iv .i64 n, .pu (refP r), .ow 0 104 []])), (2, .var 104 (.agg 104 [iv .i64 0, iv .i64 0, .pu (refP Z32), .nilc]))])
    (.cons rfl .refl (.cons rfl .refl (.cons rfl .refl (.cons rfl .refl (.cons rfl .refl .nil))))) (.cons rfl (.var (.agg (.cons .refl (.cons .refl (.cons .refl (.cons .nilcOw .nil)))))) (.cons rfl .refl .nil))) ?_
  repeat refine Tri.seq ?_
  refine Tri.block (Tri.loop (σ := Nat) (fun i => ⟨[(1, .ptr 1 [] 104), (2, .ptr 2 [] 104), (9, .pu (.sl 0 104 (patsc 0 ks))), (10, iv .i64 (patsc 0 ks).length), (11, iv .i64 i)],
    [(1, .var 104 (.agg 104 [iv .i64 k, iv .i64 n, .pu (refP r), .ow 0 104 (patsc 0 (ks.take i))])), (2, .var 104 (.agg 104 [iv .i64 0, iv .i64 0, .pu (refP Z32), .nilc]))]⟩) (fun i => ks.length - i) 0 ?_ (fun i => ?_))
  · exact le_of (.cons rfl rfl (.cons rfl rfl (.cons rfl rfl (.cons rfl rfl (.cons rfl rfl .nil))))) (.cons rfl rfl (.cons rfl rfl .nil))
  refine yR ?_
  refine yI ?_
  refine e_seq ?_
  refine Tri.seq (Tri.cond rfl (fun hb => Tri.skip ?_) (fun hb => Tri.exit ?_))
  · have hi : i < ks.length := by simpa [pats_eq] using hb
    refine Tri.seq (Tri.block ?_)
    refine yR ?_
    refine s_val (v_index SS (h0 := by omega) (hp := pats_get hi)) ?_
    refine yL ?_
    refine s_alloc SS 5 ?_
    refine yS ?_
    refine e_seqN [5] ?_
    refine yR ?_
    refine yF ?_
    refine yK ?_
    refine yL ?_
    refine s_val (v_callD (fun _ => ih ks[i] (by have := psizeL_get hi; omega) (by omega))) ?_
    refine yZ ?_
    refine s_app2 1 [3] ?_ ?_
    · simp [pats_eq]; omega
    refine yF ?_
    refine yW ?_
    refine e_draw ?_
    refine yR ?_
    refine yI ?_
    refine yM ?_
    refine e_seq ?_
    refine ⟨i + 1, by omega, le_of (.cons rfl rfl (.cons rfl rfl (.cons rfl rfl (.cons rfl rfl (.cons rfl ?_ .nil))))) (.cons rfl ?_ (.cons rfl rfl .nil))⟩
    · rw [wrap64 (by omega) (by omega)]
      rfl
    · have : patsc 0 (ks.take (i + 1)) = patsc 0 (ks.take i) ++ [patc 0 ks[i]] := by
        rw [pats_eq, pats_eq, List.take_succ_eq_append_getElem hi, List.map_append]; rfl
      rw [this]
      rfl
  have hi : ks.length ≤ i := by simpa [pats_eq] using hb
  refine yR ?_
  refine yL ?_
  refine yS ?_
  refine e_seq ?_
  refine Tri.ret ⟨.inr rfl, ret1 rfl resV_cell (ToPu.imp ?_)⟩
  rw [List.take_of_length_le hi]
  repeat constructor
theorem kitOwnPattern_c : ∀ (N : Nat) (p : Pat), psize p ≤ N → N < 2^30 → FCall Tryz.prog G 85 [.pu (patc 0 p)] (.pu (patc 0 p)) := by
  intro N
  induction N with
  | zero => intro p h; cases p; simp [psize] at h
  | succ N ih =>
  intro p hp hN
  obtain ⟨k, n, r, ks⟩ := p
  simp only [psize] at hp
  have hlen := length_psizeL ks
  refine FCall.of_tri tbl 24 Tryz.func85 rfl rfl rfl fun w0 M ρ0 D0 => ?_
  refine yR ?_
  refine s_box SS 1 ?_
  refine s_alloc SS 2 ?_
  refine e_seqN [1, 2] ?_
  refine yR ?_
  refine yF ?_
  refine yK ?_
  refine yA ?_
  refine e_seq ?_
  refine yR ?_
  refine yF ?_
  refine yS ?_
  refine e_seq ?_
  refine yR ?_
  refine yM ?_
  refine yC ?_
  refine yJ ?_
  refine e_seq ?_
  refine Tri.ghost (Ghost.wk (env' := [(1, .ptr 1 [] 104), (2, .ptr 2 [] 104), (9, .pu (.sl 0 104 (patsc 0 ks))), (10, iv .i64 (patsc 0 ks).length), (11, iv .i64 0)])
    (heap' := [(1, .var 104 (.agg 104 [iv .i64 k, iv .i64 n, .pu (refP r), .ow 0 104 []])), (2, .var 104 (.agg 104 [iv .i64 0, iv .i64 0, .pu (refP Z32), .nilc]))])
    (.cons rfl .refl (.cons rfl .refl (.cons rfl .refl (.cons rfl .refl (.cons rfl .refl .nil))))) (.cons rfl (.var (.agg (.cons .refl (.cons .refl (.cons .refl (.cons .nilcOw .nil)))))) (.cons rfl .refl .nil))) ?_
  repeat refine Tri.seq ?_
  refine Tri.block (Tri.loop (σ := Nat) (fun i => ⟨[(1, .ptr 1 [] 104), (2, .ptr 2 [] 104), (9, .pu (.sl 0 104 (patsc 0 ks))), (10, iv .i64 (patsc 0 ks).length), (11, iv .i64 i)],
    [(1, .var 104 (.agg 104 [iv .i64 k, iv .i64 n, .pu (refP r), .ow 0 104 (patsc 0 (ks.take i))])), (2, .var 104 (.agg 104 [iv .i64 0, iv .i64 0, .pu (refP Z32), .nilc]))]⟩) (fun i => ks.length - i) 0 ?_ (fun i => ?_))
  · exact le_of (.cons rfl rfl (.cons rfl rfl (.cons rfl rfl (.cons rfl rfl (.cons rfl rfl .nil))))) (.cons rfl rfl (.cons rfl rfl .nil))
  refine yR ?_
  refine yI ?_
  refine e_seq ?_
  refine Tri.seq (Tri.cond rfl (fun hb => Tri.skip ?_) (fun hb => Tri.exit ?_))
  · have hi : i < ks.length := by simpa [pats_eq] using hb
    refine Tri.seq (Tri.block ?_)
    refine yR ?_
    refine s_val (v_index SS (h0 := by omega) (hp := pats_get hi)) ?_
    refine yL ?_
    refine s_alloc SS 5 ?_
    refine yS ?_
    refine e_seqN [5] ?_
    refine yR ?_
    refine yF ?_
    refine yK ?_
    refine yL ?_
    refine s_val (v_callD (fun _ => ih ks[i] (by have := psizeL_get hi; omega) (by omega))) ?_
    refine yZ ?_
    refine s_app2 1 [3] ?_ ?_
    · simp [pats_eq]; omega
    refine yF ?_
    refine yW ?_
    refine e_draw ?_
    refine yR ?_
    refine yI ?_
    refine yM ?_
    refine e_seq ?_
    refine ⟨i + 1, by omega, le_of (.cons rfl rfl (.cons rfl rfl (.cons rfl rfl (.cons rfl rfl (.cons rfl ?_ .nil))))) (.cons rfl ?_ (.cons rfl rfl .nil))⟩
    · rw [wrap64 (by omega) (by omega)]
      rfl
    · have : patsc 0 (ks.take (i + 1)) = patsc 0 (ks.take i) ++ [patc 0 ks[i]] := by
        rw [pats_eq, pats_eq, List.take_succ_eq_append_getElem hi, List.map_append]; rfl
      rw [this]
      rfl
  have hi : ks.length ≤ i := by simpa [pats_eq] using hb
  refine yR ?_
  refine yL ?_
  refine yS ?_
  refine e_seq ?_
  refine Tri.ret ⟨.inr rfl, ret1 rfl resV_cell (ToPu.imp ?_)⟩
  rw [List.take_of_length_le hi]
  repeat constructor
theorem refOwnPattern_c : ∀ (N : Nat) (p : Pat), psize p ≤ N → N < 2^30 → FCall Tryz.prog G 240 [.pu (patc 0 p)] (.pu (patc 0 p)) := by
  intro N
  induction N with
  | zero => intro p h; cases p; simp [psize] at h
  | succ N ih =>
  intro p hp hN
  obtain ⟨k, n, r, ks⟩ := p
  simp only [psize] at hp
  have hlen := length_psizeL ks
  refine FCall.of_tri tbl 31 Tryz.func240 rfl rfl rfl fun w0 M ρ0 D0 => ?_
  refine yR ?_
  refine s_box SS 1 ?_
  refine s_alloc SS 2 ?_
  refine e_seqN [1, 2] ?_
  refine yR ?_
  refine yF ?_
  refine yL ?_
  refine yF ?_
  refine yL ?_
  refine yF ?_
  refine yL ?_
  refine yP ?_
  refine s_alloc SS 3 ?_
  refine yS ?_
  refine e_seqN [3] ?_
  refine yR ?_
  refine yB ?_
  refine e_seq ?_
  refine Tri.ghost (Ghost.wk (env' := [(1, .ptr 1 [] 104), (2, .ptr 2 [] 104), (3, .ptr 3 [] 104), (4, iv .i64 0)])
    (heap' := [(1, .var 104 (.pu (patc 0 (.mk k n r ks)))), (3, .var 104 (.agg 104 [iv .i64 k, iv .i64 n, .pu (refP r), .ow 0 104 []])), (2, .var 104 (.agg 104 [iv .i64 0, iv .i64 0, .pu (refP Z32), .nilc]))])
    (.cons rfl .refl (.cons rfl .refl (.cons rfl .refl (.cons rfl .refl .nil)))) (.cons rfl .refl (.cons rfl (.var (.agg (.cons .refl (.cons .refl (.cons .refl (.cons .nilcOw .nil)))))) (.cons rfl .refl .nil)))) ?_
  repeat refine Tri.seq ?_
  refine Tri.block (Tri.loop (σ := Nat) (fun i => ⟨[(1, .ptr 1 [] 104), (2, .ptr 2 [] 104), (3, .ptr 3 [] 104), (4, iv .i64 i)],
    [(1, .var 104 (.pu (patc 0 (.mk k n r ks)))), (3, .var 104 (.agg 104 [iv .i64 k, iv .i64 n, .pu (refP r), .ow 0 104 (patsc 0 (ks.take i))])), (2, .var 104 (.agg 104 [iv .i64 0, iv .i64 0, .pu (refP Z32), .nilc]))]⟩) (fun i => ks.length - i) 0 ?_ (fun i => ?_))
  · exact le_of (.cons rfl rfl (.cons rfl rfl (.cons rfl rfl (.cons rfl rfl .nil)))) (.cons rfl rfl (.cons rfl rfl (.cons rfl rfl .nil)))
  refine yR ?_
  refine yM ?_
  refine yF ?_
  refine yK ?_
  refine yC ?_
  refine yI ?_
  refine e_seq ?_
  refine Tri.cond rfl (fun hb => Tri.skip ?_) (fun hb => Tri.exit ?_)
  · have hi : i < ks.length := by simpa [pats_eq] using hb
    repeat refine Tri.seq ?_
    refine Tri.block ?_
    refine yR ?_
    refine yF ?_
    refine yK ?_
    refine yF ?_
    refine yK ?_
    refine yM ?_
    refine s_val (v_index SS (h0 := by omega) (hp := pats_get hi)) ?_
    refine yL ?_
    refine s_val (v_callD (fun _ => ih ks[i] (by have := psizeL_get hi; omega) (by omega))) ?_
    refine yZ ?_
    refine s_app2 3 [3] ?_ ?_
    · simp [pats_eq]; omega
    refine yF ?_
    refine yW ?_
    refine e_draw ?_
    refine yR ?_
    refine yM ?_
    refine yI ?_
    refine yA ?_
    refine e_seq ?_
    refine ⟨i + 1, by omega, le_of (.cons rfl rfl (.cons rfl rfl (.cons rfl rfl (.cons rfl ?_ .nil)))) (.cons rfl rfl (.cons rfl ?_ (.cons rfl rfl .nil)))⟩
    · rw [wrap64 (by omega) (by omega)]
      rfl
    · have : patsc 0 (ks.take (i + 1)) = patsc 0 (ks.take i) ++ [patc 0 ks[i]] := by
        rw [pats_eq, pats_eq, List.take_succ_eq_append_getElem hi, List.map_append]; rfl
      rw [this]
      rfl
  have hi : ks.length ≤ i := by simpa [pats_eq] using hb
  refine yR ?_
  refine yL ?_
  refine yS ?_
  refine e_seq ?_
  refine Tri.ret ⟨.inr rfl, ret1 rfl resV_cell (ToPu.imp ?_)⟩
  rw [List.take_of_length_le hi]
  repeat constructor
end Go.Proofs.YtkcgkignhpepkaaGreatDoor

/- Terms of one's own. -/
namespace Go.Proofs.YtkcgkignhpepkaaGreatDoor
open Go Hs
variable {G : List (Nat × TypeId × Pu)}
theorem kitOwnTerm_c : ∀ (N : Nat) (t : Tm), tsize t ≤ N → N < 2^30 → FCall Tryz.prog G 15 [.pu (tmc 0 t)] (.pu (tmc 0 t)) := by
  intro N
  induction N with
  | zero => intro t h; have := tsize_pos t; omega
  | succ N ih =>
  intro t hp hN
  obtain ⟨k, n, r, ks, cs⟩ := t
  simp only [tsize] at hp
  have hlen := length_tsizeL ks
  have hlenc := length_csizeL cs
  refine FCall.of_tri tbl 49 Tryz.func15 rfl rfl rfl fun w0 M ρ0 D0 => ?_
  refine yR ?_
  refine s_box SS 1 ?_
  refine s_alloc SS 2 ?_
  refine e_seqN [1, 2] ?_
  refine yR ?_
  refine yF ?_
  refine yK ?_
  refine yF ?_
  refine yK ?_
  refine yA ?_
  refine yA ?_
  refine e_draw ?_
  refine yR ?_
  refine yF ?_
  refine yS ?_
  refine yF ?_
  refine yS ?_
  refine e_seq ?_
  refine yR ?_
  refine yM ?_
  refine yC ?_
  refine yJ ?_
  refine e_seq ?_
  refine Tri.ghost (Ghost.wk (env' := [(1, .ptr 1 [] 32), (2, .ptr 2 [] 32), (4, .pu (.sl 0 106 (cssc 0 cs))), (15, .pu (.sl 0 32 (tmsc 0 ks))), (16, iv .i64 (tmsc 0 ks).length), (17, iv .i64 0)])
    (heap' := [(1, .var 32 (.agg 32 [iv .i64 k, iv .i64 n, .pu (refP r), .ow 0 32 ([]), .ow 0 106 ([])])), (2, .var 32 (.agg 32 [iv .i64 0, iv .i64 0, .pu (refP Z32), .nilc, .nilc]))])
    (.cons rfl .refl (.cons rfl .refl (.cons rfl .refl (.cons rfl .refl (.cons rfl .refl (.cons rfl .refl .nil)))))) (.cons rfl (.var (.agg (.cons .refl (.cons .refl (.cons .refl (.cons .nilcOw (.cons .nilcOw .nil))))))) (.cons rfl .refl .nil))) ?_
  repeat refine Tri.seq ?_
  refine Tri.block (Tri.loop (σ := Nat) (fun i => ⟨[(1, .ptr 1 [] 32), (2, .ptr 2 [] 32), (4, .pu (.sl 0 106 (cssc 0 cs))), (15, .pu (.sl 0 32 (tmsc 0 ks))), (16, iv .i64 (tmsc 0 ks).length), (17, iv .i64 i)],
    [(1, .var 32 (.agg 32 [iv .i64 k, iv .i64 n, .pu (refP r), .ow 0 32 (tmsc 0 (ks.take i)), .ow 0 106 ([])])), (2, .var 32 (.agg 32 [iv .i64 0, iv .i64 0, .pu (refP Z32), .nilc, .nilc]))]⟩) (fun i => ks.length - i) 0 ?_ (fun i => ?_))
  · exact le_of (.cons rfl rfl (.cons rfl rfl (.cons rfl rfl (.cons rfl rfl (.cons rfl rfl (.cons rfl rfl .nil)))))) (.cons rfl rfl (.cons rfl rfl .nil))
  refine yR ?_
  refine yI ?_
  refine e_seq ?_
  refine Tri.seq (Tri.cond rfl (fun hb => Tri.skip ?_) (fun hb => Tri.exit ?_))
  · have hi : i < ks.length := by simpa [tms_eq] using hb
    refine Tri.seq (Tri.block ?_)
    refine yR ?_
    refine s_val (v_index SS (h0 := by omega) (hp := tms_get hi)) ?_
    refine yL ?_
    refine s_alloc SS 6 ?_
    refine yS ?_
    refine e_seqN [6] ?_
    refine yR ?_
    refine yF ?_
    refine yK ?_
    refine yL ?_
    refine s_val (v_callD (fun _ => ih ks[i] (by have := tsizeL_get hi; omega) (by omega))) ?_
    refine yZ ?_
    refine s_app2 1 [3] ?_ ?_
    · simp [tms_eq]; omega
    refine yF ?_
    refine yW ?_
    refine e_draw ?_
    refine yR ?_
    refine yI ?_
    refine yM ?_
    refine e_seq ?_
    refine ⟨i + 1, by omega, le_of (.cons rfl rfl (.cons rfl rfl (.cons rfl rfl (.cons rfl rfl (.cons rfl rfl (.cons rfl ?_ .nil)))))) (.cons rfl ?_ (.cons rfl rfl .nil))⟩
    · rw [wrap64 (by omega) (by omega)]
      rfl
    · have : tmsc 0 (ks.take (i + 1)) = tmsc 0 (ks.take i) ++ [tmc 0 ks[i]] := by
        rw [tms_eq, tms_eq, List.take_succ_eq_append_getElem hi, List.map_append]; rfl
      rw [this]
      rfl
  have hi : ks.length ≤ i := by simpa [tms_eq] using hb
  rw [List.take_of_length_le hi]
  refine yR ?_
  refine yM ?_
  refine yC ?_
  refine yJ ?_
  refine e_seq ?_
  repeat refine Tri.seq ?_
  refine Tri.block (Tri.loop (σ := Nat) (fun i => ⟨[(1, .ptr 1 [] 32), (2, .ptr 2 [] 32), (29, .pu (.sl 0 106 (cssc 0 cs))), (30, iv .i64 (cssc 0 cs).length), (31, iv .i64 i)],
    [(1, .var 32 (.agg 32 [iv .i64 k, iv .i64 n, .pu (refP r), .ow 0 32 (tmsc 0 ks), .ow 0 106 (cssc 0 (cs.take i))])), (2, .var 32 (.agg 32 [iv .i64 0, iv .i64 0, .pu (refP Z32), .nilc, .nilc]))]⟩) (fun i => cs.length - i) 0 ?_ (fun i => ?_))
  · exact le_of (.cons rfl rfl (.cons rfl rfl (.cons rfl rfl (.cons rfl rfl (.cons rfl rfl .nil))))) (.cons rfl rfl (.cons rfl rfl .nil))
  refine yR ?_
  refine yI ?_
  refine e_seq ?_
  refine Tri.seq (Tri.cond rfl (fun hb => Tri.skip ?_) (fun hb => Tri.exit ?_))
  · have hi : i < cs.length := by simpa [css_eq] using hb
    have hsz := csizeL_get hi
    rcases hc : cs[i] with ⟨q, b⟩
    simp only [hc, csize] at hsz
    refine Tri.seq (Tri.block ?_)
    refine yR ?_
    refine s_val (v_index SS (h0 := by omega) (hp := (css_get hi).trans (by rw [hc]))) ?_
    refine yL ?_
    refine s_alloc SS 8 ?_
    refine yS ?_
    refine e_seqN [8] ?_
    refine yR ?_
    refine yF ?_
    refine yK ?_
    refine yF ?_
    refine yL ?_
    refine s_val (v_callD (fun _ => kitOwnPattern_c _ q (Nat.le_refl _) (by omega))) ?_
    refine yF ?_
    refine yL ?_
    refine s_val (v_callD (fun _ => ih b (by omega) (by omega))) ?_
    refine yP ?_
    refine yZ ?_
    refine s_app2 1 [4] ?_ ?_
    · simp [css_eq]; omega
    refine yF ?_
    refine yW ?_
    refine e_draw ?_
    refine yR ?_
    refine yI ?_
    refine yM ?_
    refine e_seq ?_
    refine ⟨i + 1, by omega, le_of (.cons rfl rfl (.cons rfl rfl (.cons rfl rfl (.cons rfl rfl (.cons rfl ?_ .nil))))) (.cons rfl ?_ (.cons rfl rfl .nil))⟩
    · rw [wrap64 (by omega) (by omega)]
      rfl
    · have : cssc 0 (cs.take (i + 1)) = cssc 0 (cs.take i) ++ [csec 0 (.mk q b)] := by
        rw [css_eq, css_eq, List.take_succ_eq_append_getElem hi, List.map_append, hc]; rfl
      rw [this]
      rfl
  have hi : cs.length ≤ i := by simpa [css_eq] using hb
  refine yR ?_
  refine yL ?_
  refine yS ?_
  refine e_seq ?_
  refine Tri.ret ⟨.inr rfl, ret1 rfl resV_cell (ToPu.imp ?_)⟩
  rw [List.take_of_length_le hi]
  repeat constructor

theorem refOwn_c : ∀ (N : Nat) (t : Tm), tsize t ≤ N → N < 2^30 → FCall Tryz.prog G 202 [.pu (tmc 0 t)] (.pu (tmc 0 t)) := by
  intro N
  induction N with
  | zero => intro t h; have := tsize_pos t; omega
  | succ N ih =>
  intro t hp hN
  obtain ⟨k, n, r, ks, cs⟩ := t
  simp only [tsize] at hp
  have hlen := length_tsizeL ks
  have hlenc := length_csizeL cs
  refine FCall.of_tri tbl 59 Tryz.func202 rfl rfl rfl fun w0 M ρ0 D0 => ?_
  refine yR ?_
  refine s_box SS 1 ?_
  refine s_alloc SS 2 ?_
  refine e_seqN [1, 2] ?_
  refine yR ?_
  refine yF ?_
  refine yL ?_
  refine yF ?_
  refine yL ?_
  refine yF ?_
  refine yL ?_
  refine yP ?_
  refine s_alloc SS 3 ?_
  refine yS ?_
  refine e_seqN [3] ?_
  refine yR ?_
  refine yB ?_
  refine e_seq ?_
  refine Tri.ghost (Ghost.wk (env' := [(1, .ptr 1 [] 32), (2, .ptr 2 [] 32), (3, .ptr 3 [] 32), (4, iv .i64 0)])
    (heap' := [(1, .var 32 (.pu (tmc 0 (.mk k n r ks cs)))), (3, .var 32 (.agg 32 [iv .i64 k, iv .i64 n, .pu (refP r), .ow 0 32 ([]), .ow 0 106 ([])])), (2, .var 32 (.agg 32 [iv .i64 0, iv .i64 0, .pu (refP Z32), .nilc, .nilc]))])
    (.cons rfl .refl (.cons rfl .refl (.cons rfl .refl (.cons rfl .refl .nil)))) (.cons rfl .refl (.cons rfl (.var (.agg (.cons .refl (.cons .refl (.cons .refl (.cons .nilcOw (.cons .nilcOw .nil))))))) (.cons rfl .refl .nil)))) ?_
  repeat refine Tri.seq ?_
  refine Tri.block (Tri.loop (σ := Nat) (fun i => ⟨[(1, .ptr 1 [] 32), (2, .ptr 2 [] 32), (3, .ptr 3 [] 32), (4, iv .i64 i)],
    [(1, .var 32 (.pu (tmc 0 (.mk k n r ks cs)))), (3, .var 32 (.agg 32 [iv .i64 k, iv .i64 n, .pu (refP r), .ow 0 32 (tmsc 0 (ks.take i)), .ow 0 106 ([])])), (2, .var 32 (.agg 32 [iv .i64 0, iv .i64 0, .pu (refP Z32), .nilc, .nilc]))]⟩) (fun i => ks.length - i) 0 ?_ (fun i => ?_))
  · exact le_of (.cons rfl rfl (.cons rfl rfl (.cons rfl rfl (.cons rfl rfl .nil)))) (.cons rfl rfl (.cons rfl rfl (.cons rfl rfl .nil)))
  refine yR ?_
  refine yM ?_
  refine yF ?_
  refine yK ?_
  refine yC ?_
  refine yI ?_
  refine e_seq ?_
  refine Tri.cond rfl (fun hb => Tri.skip ?_) (fun hb => Tri.exit ?_)
  · have hi : i < ks.length := by simpa [tms_eq] using hb
    repeat refine Tri.seq ?_
    refine Tri.block ?_
    refine yR ?_
    refine yF ?_
    refine yK ?_
    refine yF ?_
    refine yK ?_
    refine yM ?_
    refine s_val (v_index SS (h0 := by omega) (hp := tms_get hi)) ?_
    refine yL ?_
    refine s_val (v_callD (fun _ => ih ks[i] (by have := tsizeL_get hi; omega) (by omega))) ?_
    refine yZ ?_
    refine s_app2 3 [3] ?_ ?_
    · simp [tms_eq]; omega
    refine yF ?_
    refine yW ?_
    refine e_draw ?_
    refine yR ?_
    refine yM ?_
    refine yI ?_
    refine yA ?_
    refine e_seq ?_
    refine ⟨i + 1, by omega, le_of (.cons rfl rfl (.cons rfl rfl (.cons rfl rfl (.cons rfl ?_ .nil)))) (.cons rfl rfl (.cons rfl ?_ (.cons rfl rfl .nil)))⟩
    · rw [wrap64 (by omega) (by omega)]
      rfl
    · have : tmsc 0 (ks.take (i + 1)) = tmsc 0 (ks.take i) ++ [tmc 0 ks[i]] := by
        rw [tms_eq, tms_eq, List.take_succ_eq_append_getElem hi, List.map_append]; rfl
      rw [this]
      rfl
  have hi : ks.length ≤ i := by simpa [tms_eq] using hb
  rw [List.take_of_length_le hi]
  refine yR ?_
  refine yB ?_
  refine e_seq ?_
  repeat refine Tri.seq ?_
  refine Tri.block (Tri.loop (σ := Nat) (fun i => ⟨[(1, .ptr 1 [] 32), (2, .ptr 2 [] 32), (3, .ptr 3 [] 32), (5, iv .i64 i)],
    [(1, .var 32 (.pu (tmc 0 (.mk k n r ks cs)))), (3, .var 32 (.agg 32 [iv .i64 k, iv .i64 n, .pu (refP r), .ow 0 32 (tmsc 0 ks), .ow 0 106 (cssc 0 (cs.take i))])), (2, .var 32 (.agg 32 [iv .i64 0, iv .i64 0, .pu (refP Z32), .nilc, .nilc]))]⟩) (fun i => cs.length - i) 0 ?_ (fun i => ?_))
  · exact le_of (.cons rfl rfl (.cons rfl rfl (.cons rfl rfl (.cons rfl rfl .nil)))) (.cons rfl rfl (.cons rfl rfl (.cons rfl rfl .nil)))
  refine yR ?_
  refine yM ?_
  refine yF ?_
  refine yK ?_
  refine yC ?_
  refine yI ?_
  refine e_seq ?_
  refine Tri.cond rfl (fun hb => Tri.skip ?_) (fun hb => Tri.exit ?_)
  · have hi : i < cs.length := by simpa [css_eq] using hb
    have hsz := csizeL_get hi
    rcases hc : cs[i] with ⟨q, b⟩
    simp only [hc, csize] at hsz
    have hg : (cssc 0 cs)[i]? = some (csec 0 (.mk q b)) := (css_get hi).trans (by rw [hc])
    repeat refine Tri.seq ?_
    refine Tri.block ?_
    refine yR ?_
    refine yF ?_
    refine yK ?_
    refine yF ?_
    refine yK ?_
    refine yM ?_
    refine s_val (v_index SS (h0 := by omega) (hp := hg)) ?_
    refine yF ?_
    refine yL ?_
    refine s_val (v_callD (fun _ => refOwnPattern_c _ q (Nat.le_refl _) (by omega))) ?_
    refine yF ?_
    refine yK ?_
    refine yM ?_
    refine s_val (v_index SS (h0 := by omega) (hp := hg)) ?_
    refine yF ?_
    refine yL ?_
    refine s_val (v_callD (fun _ => ih b (by omega) (by omega))) ?_
    refine yP ?_
    refine yZ ?_
    refine s_app2 3 [4] ?_ ?_
    · simp [css_eq]; omega
    refine yF ?_
    refine yW ?_
    refine e_draw ?_
    refine yR ?_
    refine yM ?_
    refine yI ?_
    refine yA ?_
    refine e_seq ?_
    refine ⟨i + 1, by omega, le_of (.cons rfl rfl (.cons rfl rfl (.cons rfl rfl (.cons rfl ?_ .nil)))) (.cons rfl rfl (.cons rfl ?_ (.cons rfl rfl .nil)))⟩
    · rw [wrap64 (by omega) (by omega)]
      rfl
    · have : cssc 0 (cs.take (i + 1)) = cssc 0 (cs.take i) ++ [csec 0 (.mk q b)] := by
        rw [css_eq, css_eq, List.take_succ_eq_append_getElem hi, List.map_append, hc]; rfl
      rw [this]
      rfl
  have hi : cs.length ≤ i := by simpa [css_eq] using hb
  refine yR ?_
  refine yL ?_
  refine yS ?_
  refine e_seq ?_
  refine Tri.ret ⟨.inr rfl, ret1 rfl resV_cell (ToPu.imp ?_)⟩
  rw [List.take_of_length_le hi]
  repeat constructor

end Go.Proofs.YtkcgkignhpepkaaGreatDoor

/- How many more variables a kid binds; how many a pattern binds. -/
namespace Go.Proofs.YtkcgkignhpepkaaGreatDoor
open Go Hs
variable {G : List (Nat × TypeId × Pu)}

def moreM (kind kid : Int) : Int := if kind = 3 ∨ (kind = 5 ∧ kid = 1) ∨ (kind = 12 ∧ kid = 1) then 1 else if kind = 12 ∧ 1 < kid then 2 else 0

theorem stepMore_c (kind kid : Int) : FCall Tryz.prog G 220 [iv .i64 kind, iv .i64 kid] (iv .i64 (moreM kind kid)) := by
  refine FCall.of_tri tbl 25 Tryz.func220 rfl rfl rfl fun w0 M ρ0 D0 => ?_
  refine yR ?_
  refine yB ?_
  refine e_seq ?_
  repeat refine Tri.seq ?_
  refine Tri.block ?_
  refine yR ?_
  refine yM ?_
  refine yI ?_
  refine yA ?_
  refine e_seq ?_
  repeat refine Tri.seq ?_
  refine Tri.cond rfl (fun h0 => ?_) (fun h0 => ?_)
  · skip
    refine Tri.skip ?_
    repeat refine Tri.seq ?_
    refine Tri.cond rfl (fun h1 => ?_) (fun h1 => ?_)
    · skip
      refine yR ?_
      refine yB ?_
      refine e_seq ?_
      repeat refine Tri.seq ?_
      exact Tri.ret ⟨.inr rfl, ret1 rfl resV_tmp (iv_imp (by simp_all [moreM]; try omega))⟩
    · skip
      refine yR ?_
      refine yM ?_
      refine yI ?_
      refine yM ?_
      refine xM ?_
      refine xI ?_
      refine yN ?_
      refine yA ?_
      refine e_seq ?_
      repeat refine Tri.seq ?_
      refine Tri.cond rfl (fun h2 => ?_) (fun h2 => ?_)
      · skip
        refine yR ?_
        refine yB ?_
        refine e_seq ?_
        repeat refine Tri.seq ?_
        exact Tri.ret ⟨.inr rfl, ret1 rfl resV_tmp (iv_imp (by simp_all [moreM]; try omega))⟩
      · skip
        refine Tri.skip ?_
        refine yR ?_
        refine yB ?_
        refine e_seq ?_
        repeat refine Tri.seq ?_
        exact Tri.ret ⟨.inr rfl, ret1 rfl resV_tmp (iv_imp (by simp_all [moreM]; try omega))⟩
  · skip
    refine yR ?_
    refine yM ?_
    refine yI ?_
    refine yM ?_
    refine xM ?_
    refine xI ?_
    refine xM ?_
    refine xM ?_
    refine xI ?_
    refine xO ?_
    refine yN ?_
    refine yA ?_
    refine e_seq ?_
    repeat refine Tri.seq ?_
    refine Tri.cond rfl (fun h1 => ?_) (fun h1 => ?_)
    · skip
      refine yR ?_
      refine yB ?_
      refine e_seq ?_
      repeat refine Tri.seq ?_
      exact Tri.ret ⟨.inr rfl, ret1 rfl resV_tmp (iv_imp (by simp_all [moreM]; try omega))⟩
    · skip
      refine yR ?_
      refine yM ?_
      refine yI ?_
      refine yM ?_
      refine xM ?_
      refine xI ?_
      refine yN ?_
      refine yA ?_
      refine e_seq ?_
      repeat refine Tri.seq ?_
      refine Tri.cond rfl (fun h2 => ?_) (fun h2 => ?_)
      · skip
        refine yR ?_
        refine yB ?_
        refine e_seq ?_
        repeat refine Tri.seq ?_
        exact Tri.ret ⟨.inr rfl, ret1 rfl resV_tmp (iv_imp (by simp_all [moreM]; try omega))⟩
      · skip
        refine Tri.skip ?_
        refine yR ?_
        refine yB ?_
        refine e_seq ?_
        repeat refine Tri.seq ?_
        exact Tri.ret ⟨.inr rfl, ret1 rfl resV_tmp (iv_imp (by simp_all [moreM]; try omega))⟩

theorem termMore_c (kind kid : Int) : FCall Tryz.prog G 192 [iv .i64 kind, iv .i64 kid] (iv .i64 (moreM kind kid)) := by
  refine FCall.of_tri tbl 27 Tryz.func192 rfl rfl rfl fun w0 M ρ0 D0 => ?_
  refine yR ?_
  refine yB ?_
  refine e_seq ?_
  repeat refine Tri.seq ?_
  refine Tri.block ?_
  refine yR ?_
  refine yM ?_
  refine yI ?_
  refine yA ?_
  refine e_seq ?_
  repeat refine Tri.seq ?_
  refine Tri.cond rfl (fun h0 => ?_) (fun h0 => ?_)
  · skip
    refine Tri.skip ?_
    repeat refine Tri.seq ?_
    refine Tri.cond rfl (fun h2 => ?_) (fun h2 => ?_)
    · skip
      refine yR ?_
      refine yB ?_
      refine e_seq ?_
      repeat refine Tri.seq ?_
      exact Tri.ret ⟨.inr rfl, ret1 rfl resV_tmp (iv_imp (by simp_all [moreM]; try omega))⟩
    · skip
      refine yR ?_
      refine yM ?_
      refine yI ?_
      refine yM ?_
      refine xM ?_
      refine xI ?_
      refine yN ?_
      refine yA ?_
      refine e_seq ?_
      repeat refine Tri.seq ?_
      refine Tri.cond rfl (fun h3 => ?_) (fun h3 => ?_)
      · skip
        refine yR ?_
        refine yB ?_
        refine e_seq ?_
        repeat refine Tri.seq ?_
        exact Tri.ret ⟨.inr rfl, ret1 rfl resV_tmp (iv_imp (by simp_all [moreM]; try omega))⟩
      · skip
        refine Tri.skip ?_
        refine yR ?_
        refine yB ?_
        refine e_seq ?_
        repeat refine Tri.seq ?_
        exact Tri.ret ⟨.inr rfl, ret1 rfl resV_tmp (iv_imp (by simp_all [moreM]; try omega))⟩
  · skip
    refine yR ?_
    refine yM ?_
    refine yI ?_
    refine yM ?_
    refine xM ?_
    refine xI ?_
    refine yN ?_
    refine yA ?_
    refine e_seq ?_
    repeat refine Tri.seq ?_
    refine Tri.cond rfl (fun h1 => ?_) (fun h1 => ?_)
    · skip
      refine Tri.skip ?_
      repeat refine Tri.seq ?_
      refine Tri.cond rfl (fun h2 => ?_) (fun h2 => ?_)
      · skip
        refine yR ?_
        refine yB ?_
        refine e_seq ?_
        repeat refine Tri.seq ?_
        exact Tri.ret ⟨.inr rfl, ret1 rfl resV_tmp (iv_imp (by simp_all [moreM]; try omega))⟩
      · skip
        refine yR ?_
        refine yM ?_
        refine yI ?_
        refine yM ?_
        refine xM ?_
        refine xI ?_
        refine yN ?_
        refine yA ?_
        refine e_seq ?_
        repeat refine Tri.seq ?_
        refine Tri.cond rfl (fun h3 => ?_) (fun h3 => ?_)
        · skip
          refine yR ?_
          refine yB ?_
          refine e_seq ?_
          repeat refine Tri.seq ?_
          exact Tri.ret ⟨.inr rfl, ret1 rfl resV_tmp (iv_imp (by simp_all [moreM]; try omega))⟩
        · skip
          refine Tri.skip ?_
          refine yR ?_
          refine yB ?_
          refine e_seq ?_
          repeat refine Tri.seq ?_
          exact Tri.ret ⟨.inr rfl, ret1 rfl resV_tmp (iv_imp (by simp_all [moreM]; try omega))⟩
    · skip
      refine yR ?_
      refine yM ?_
      refine yI ?_
      refine yM ?_
      refine xM ?_
      refine xI ?_
      refine yN ?_
      refine yA ?_
      refine e_seq ?_
      repeat refine Tri.seq ?_
      refine Tri.cond rfl (fun h2 => ?_) (fun h2 => ?_)
      · skip
        refine yR ?_
        refine yB ?_
        refine e_seq ?_
        repeat refine Tri.seq ?_
        exact Tri.ret ⟨.inr rfl, ret1 rfl resV_tmp (iv_imp (by simp_all [moreM]; try omega))⟩
      · skip
        refine yR ?_
        refine yM ?_
        refine yI ?_
        refine yM ?_
        refine xM ?_
        refine xI ?_
        refine yN ?_
        refine yA ?_
        refine e_seq ?_
        repeat refine Tri.seq ?_
        refine Tri.cond rfl (fun h3 => ?_) (fun h3 => ?_)
        · skip
          refine yR ?_
          refine yB ?_
          refine e_seq ?_
          repeat refine Tri.seq ?_
          exact Tri.ret ⟨.inr rfl, ret1 rfl resV_tmp (iv_imp (by simp_all [moreM]; try omega))⟩
        · skip
          refine Tri.skip ?_
          refine yR ?_
          refine yB ?_
          refine e_seq ?_
          repeat refine Tri.seq ?_
          exact Tri.ret ⟨.inr rfl, ret1 rfl resV_tmp (iv_imp (by simp_all [moreM]; try omega))⟩

mutual
def bindsM : Pat → Int
  | .mk k _ _ ks => if k = 1 then 1 else bindsL ks
def bindsL : List Pat → Int
  | [] => 0
  | p :: ps => bindsM p + bindsL ps
end
mutual
theorem binds_bound : ∀ (p : Pat), 0 ≤ bindsM p ∧ bindsM p ≤ psize p
  | .mk k n r ks => by
    have := bindsL_bound ks
    simp only [bindsM, psize]
    split <;> omega
theorem bindsL_bound : ∀ (ps : List Pat), 0 ≤ bindsL ps ∧ bindsL ps ≤ psizeL ps
  | [] => by simp [bindsL, psizeL]
  | p :: ps => by
    have := binds_bound p
    have := bindsL_bound ps
    simp only [bindsL, psizeL]
    omega
end
theorem bindsL_take : ∀ {ks : List Pat} {i : Nat} (h : i < ks.length), bindsL (ks.take (i + 1)) = bindsL (ks.take i) + bindsM ks[i]
  | p :: ps, 0, _ => by simp [bindsL]
  | p :: ps, i + 1, h => by
    have := bindsL_take (ks := ps) (i := i) (by simpa using h)
    simp [bindsL, this]; omega

theorem stepBinds_c : ∀ (N : Nat) (p : Pat), psize p ≤ N → N < 2^40 → FCall Tryz.prog G 222 [.pu (patc 0 p)] (iv .i64 (bindsM p)) := by
  intro N
  induction N with
  | zero => intro p h; cases p; simp [psize] at h
  | succ N ih =>
  intro p hp hN
  obtain ⟨k, n, r, ks⟩ := p
  simp only [psize] at hp
  have hlen := length_psizeL ks
  refine FCall.of_tri tbl 22 Tryz.func222 rfl rfl rfl fun w0 M ρ0 D0 => ?_
  refine yR ?_
  refine s_box SS 1 ?_
  refine yB ?_
  refine e_seqN [1] ?_
  refine yR ?_
  refine yF ?_
  refine yL ?_
  refine yI ?_
  refine e_seq ?_
  repeat refine Tri.seq ?_
  refine Tri.cond rfl (fun h0 => ?_) (fun h0 => ?_)
  · skip
    refine yR ?_
    refine yB ?_
    refine e_seq ?_
    repeat refine Tri.seq ?_
    exact Tri.ret ⟨.inr rfl, ret1 rfl resV_tmp (iv_imp (by simp_all [bindsM]))⟩
  · skip
    refine Tri.skip ?_
    refine yR ?_
    refine yB ?_
    refine e_seq ?_
    refine yR ?_
    refine yF ?_
    refine yK ?_
    refine yC ?_
    refine yJ ?_
    refine e_seq ?_
    repeat refine Tri.seq ?_
    refine Tri.block (Tri.loopW (σ := Nat) (fun i => ⟨[(10, .pu (.sl 0 104 (patsc 0 ks))), (11, iv .i64 (patsc 0 ks).length), (12, iv .i64 i), (3, iv .i64 (bindsL (ks.take i)))], []⟩) (fun i => ks.length - i) 0 ?_ ?_ (fun i => ?_))
    · exact zW
    · exact zW
    refine yR ?_
    refine yI ?_
    refine e_seq ?_
    repeat refine Tri.seq ?_
    refine Tri.cond rfl (fun h1 => ?_) (fun h1 => ?_)
    · skip
      have hi : i < ks.length := by simpa [pats_eq] using h1
      have h1' := bindsL_bound (ks.take i)
      have h2 := binds_bound ks[i]
      have h3 := psizeL_take (ks := ks) (i := i)
      have h4 := psizeL_get hi
      refine Tri.skip ?_
      repeat refine Tri.seq ?_
      refine Tri.block ?_
      refine yR ?_
      refine s_val (v_index SS (h0 := by omega) (hp := pats_get hi)) ?_
      refine yL ?_
      refine s_alloc SS 5 ?_
      refine yS ?_
      refine e_seqN [5] ?_
      refine yR ?_
      refine yM ?_
      refine yL ?_
      refine s_val (v_callD (fun _ => ih ks[i] (by omega) (by omega))) ?_
      refine yI ?_
      refine yA ?_
      refine e_seq ?_
      refine yR ?_
      refine yI ?_
      refine yM ?_
      refine e_seq ?_
      refine ⟨i + 1, by omega, le_of ?_ ?_⟩
      · repeat (first | exact SubE.nil | refine SubE.cons rfl (by first | rfl | (rw [wrap64 (by omega) (by omega)]; rfl) | (rw [bindsL_take hi, wrap64 (by omega) (by omega)])) ?_)
      · repeat (first | exact SubH.nil | refine SubH.cons rfl (by first | rfl | (rw [wrap64 (by omega) (by omega)]; rfl) | (rw [bindsL_take hi, wrap64 (by omega) (by omega)])) ?_)
    · skip
      have hi : ks.length ≤ i := by simpa [pats_eq] using h1
      rw [List.take_of_length_le hi]
      refine Tri.exit ?_
      refine yR ?_
      refine yM ?_
      refine yA ?_
      refine e_seq ?_
      repeat refine Tri.seq ?_
      exact Tri.ret ⟨.inr rfl, ret1 rfl resV_tmp (iv_imp (by simp_all [bindsM]))⟩
end Go.Proofs.YtkcgkignhpepkaaGreatDoor

/- Whether a tree is too long, or too deep. -/
namespace Go.Proofs.YtkcgkignhpepkaaGreatDoor
open Go Hs
variable {G : List (Nat × TypeId × Pu)}

section
variable (mn md : Int)
mutual
def longP (mn md d c : Int) : Pat → Bool × Int
  | .mk _ _ _ ks => if mn < c + 1 ∨ md < d then (true, c + 1) else longPs mn md (d + 1) (c + 1) ks
def longPs (mn md d c : Int) : List Pat → Bool × Int
  | [] => (false, c)
  | p :: ps => match longP mn md d c p with
    | (true, c') => (true, c')
    | (false, c') => longPs mn md d c' ps
end
mutual
def longT (mn md d c : Int) : Tm → Bool × Int
  | .mk _ _ _ ks cs => if mn < c + 1 ∨ md < d then (true, c + 1) else match longTs mn md (d + 1) (c + 1) ks with
    | (true, c') => (true, c')
    | (false, c') => longCs mn md (d + 1) c' cs
def longTs (mn md d c : Int) : List Tm → Bool × Int
  | [] => (false, c)
  | t :: ts => match longT mn md d c t with
    | (true, c') => (true, c')
    | (false, c') => longTs mn md d c' ts
def longC (mn md d c : Int) : Cs → Bool × Int
  | .mk p t => match longP mn md d c p with
    | (true, c') => (true, c')
    | (false, c') => longT mn md d c' t
def longCs (mn md d c : Int) : List Cs → Bool × Int
  | [] => (false, c)
  | x :: xs => match longC mn md d c x with
    | (true, c') => (true, c')
    | (false, c') => longCs mn md d c' xs
end
end
variable {mn md d : Int}
theorem longPs_eq : ∀ (ks : List Pat) (c : Int), longPs mn md d c ks = anyS (longP mn md d) c ks
  | [], _ => rfl
  | p :: ps, c => by
    simp only [longPs, anyS]
    rcases longP mn md d c p with ⟨b, c'⟩
    cases b
    · exact longPs_eq ps c'
    · rfl
theorem longTs_eq : ∀ (ks : List Tm) (c : Int), longTs mn md d c ks = anyS (longT mn md d) c ks
  | [], _ => rfl
  | p :: ps, c => by
    simp only [longTs, anyS]
    rcases longT mn md d c p with ⟨b, c'⟩
    cases b
    · exact longTs_eq ps c'
    · rfl
theorem longCs_eq : ∀ (ks : List Cs) (c : Int), longCs mn md d c ks = anyS (longC mn md d) c ks
  | [], _ => rfl
  | p :: ps, c => by
    simp only [longCs, anyS]
    rcases longC mn md d c p with ⟨b, c'⟩
    cases b
    · exact longCs_eq ps c'
    · rfl
/-- The count stays within its bounds. -/
def InB (mn c : Int) (r : Bool × Int) : Prop := c ≤ r.2 ∧ r.2 ≤ mn + 1 ∧ (r.1 = false → r.2 ≤ mn)
theorem InB.anyS {α : Type} {step : Int → α → Bool × Int} : ∀ (l : List α), (∀ a ∈ l, ∀ c, c ≤ mn → InB mn c (step c a)) → ∀ c, c ≤ mn → InB mn c (anyS step c l)
  | [], _, c, hc => ⟨Int.le_refl _, by simp [Hs.anyS]; omega, fun _ => hc⟩
  | a :: l, h, c, hc => by
    obtain ⟨h1, h2, h3⟩ := h a (by simp) c hc
    simp only [Hs.anyS]
    rcases hs : step c a with ⟨b, c'⟩
    rw [hs] at h1 h2 h3
    simp only at h1 h2 h3
    cases b
    · obtain ⟨k1, k2, k3⟩ := InB.anyS l (fun x hx => h x (by simp [hx])) c' (h3 rfl)
      exact ⟨Int.le_trans h1 k1, k2, k3⟩
    · exact ⟨h1, h2, fun e => by cases e⟩
mutual
theorem longP_b : ∀ (p : Pat) (d c : Int), c ≤ mn → InB mn c (longP mn md d c p)
  | .mk _ _ _ ks, d, c, hc => by
    simp only [longP]
    split
    · exact ⟨by simp; omega, by simp; omega, fun e => by cases e⟩
    · rename_i hn
      obtain ⟨k1, k2, k3⟩ := longPs_b ks (d + 1) (c + 1) (by omega)
      exact ⟨by omega, k2, k3⟩
theorem longPs_b : ∀ (ks : List Pat) (d c : Int), c ≤ mn → InB mn c (longPs mn md d c ks)
  | [], d, c, hc => ⟨by simp [longPs], by simp [longPs]; omega, fun _ => by simpa [longPs] using hc⟩
  | p :: ps, d, c, hc => by
    obtain ⟨h1, h2, h3⟩ := longP_b p d c hc
    simp only [longPs]
    rcases hs : longP mn md d c p with ⟨b, c'⟩
    rw [hs] at h1 h2 h3
    simp only at h1 h2 h3
    cases b
    · obtain ⟨k1, k2, k3⟩ := longPs_b ps d c' (h3 rfl)
      exact ⟨Int.le_trans h1 k1, k2, k3⟩
    · exact ⟨h1, h2, fun e => by cases e⟩
end
mutual
theorem longT_b : ∀ (t : Tm) (d c : Int), c ≤ mn → InB mn c (longT mn md d c t)
  | .mk _ _ _ ks cs, d, c, hc => by
    simp only [longT]
    split
    · exact ⟨by simp; omega, by simp; omega, fun e => by cases e⟩
    · rename_i hn
      obtain ⟨h1, h2, h3⟩ := longTs_b ks (d + 1) (c + 1) (by omega)
      rcases hs : longTs mn md (d + 1) (c + 1) ks with ⟨b, c'⟩
      rw [hs] at h1 h2 h3
      simp only at h1 h2 h3
      cases b
      · obtain ⟨k1, k2, k3⟩ := longCs_b cs (d + 1) c' (h3 rfl)
        refine ⟨?_, k2, k3⟩
        show c ≤ (longCs mn md (d + 1) c' cs).2
        omega
      · exact ⟨by simp; omega, h2, fun e => by cases e⟩
theorem longTs_b : ∀ (ks : List Tm) (d c : Int), c ≤ mn → InB mn c (longTs mn md d c ks)
  | [], d, c, hc => ⟨by simp [longTs], by simp [longTs]; omega, fun _ => by simpa [longTs] using hc⟩
  | p :: ps, d, c, hc => by
    obtain ⟨h1, h2, h3⟩ := longT_b p d c hc
    simp only [longTs]
    rcases hs : longT mn md d c p with ⟨b, c'⟩
    rw [hs] at h1 h2 h3
    simp only at h1 h2 h3
    cases b
    · obtain ⟨k1, k2, k3⟩ := longTs_b ps d c' (h3 rfl)
      exact ⟨Int.le_trans h1 k1, k2, k3⟩
    · exact ⟨h1, h2, fun e => by cases e⟩
theorem longC_b : ∀ (x : Cs) (d c : Int), c ≤ mn → InB mn c (longC mn md d c x)
  | .mk p t, d, c, hc => by
    obtain ⟨h1, h2, h3⟩ := longP_b (md := md) p d c hc
    simp only [longC]
    rcases hs : longP mn md d c p with ⟨b, c'⟩
    rw [hs] at h1 h2 h3
    simp only at h1 h2 h3
    cases b
    · obtain ⟨k1, k2, k3⟩ := longT_b t d c' (h3 rfl)
      exact ⟨Int.le_trans h1 k1, k2, k3⟩
    · exact ⟨h1, h2, fun e => by cases e⟩
theorem longCs_b : ∀ (ks : List Cs) (d c : Int), c ≤ mn → InB mn c (longCs mn md d c ks)
  | [], d, c, hc => ⟨by simp [longCs], by simp [longCs]; omega, fun _ => by simpa [longCs] using hc⟩
  | p :: ps, d, c, hc => by
    obtain ⟨h1, h2, h3⟩ := longC_b p d c hc
    simp only [longCs]
    rcases hs : longC mn md d c p with ⟨b, c'⟩
    rw [hs] at h1 h2 h3
    simp only at h1 h2 h3
    cases b
    · obtain ⟨k1, k2, k3⟩ := longCs_b ps d c' (h3 rfl)
      exact ⟨Int.le_trans h1 k1, k2, k3⟩
    · exact ⟨h1, h2, fun e => by cases e⟩
end
theorem psize_mem {ks : List Pat} {k : Pat} (h : k ∈ ks) : psize k ≤ psizeL ks := by
  obtain ⟨i, hi, rfl⟩ := List.getElem_of_mem h
  exact psizeL_get hi
theorem tsize_mem {ks : List Tm} {k : Tm} (h : k ∈ ks) : tsize k ≤ tsizeL ks := by
  obtain ⟨i, hi, rfl⟩ := List.getElem_of_mem h
  exact tsizeL_get hi
theorem csize_mem {ks : List Cs} {k : Cs} (h : k ∈ ks) : csize k ≤ csizeL ks := by
  obtain ⟨i, hi, rfl⟩ := List.getElem_of_mem h
  exact csizeL_get hi
end Go.Proofs.YtkcgkignhpepkaaGreatDoor

/- The walks of the counters. -/
namespace Go.Proofs.YtkcgkignhpepkaaGreatDoor
open Go Hs
variable {G : List (Nat × TypeId × Pu)}


/-! ### term.long -/
abbrev lgO (c : Int) : List (Nat × Ob) := [(90, .var 203 (.pu (.agg 203 [.leaf (.int .i64 c)])))]

theorem lgP1_c (p : Pat) (d c : Int) (hd : 0 ≤ d ∧ d ≤ 60) (h : HCall Tryz.prog G 199 [.ptr 90 [] 203, .pu (patc 0 p), iv .i64 (d + 1)] [] (lgO c) (bv (longP 300 60 (d + 1) c p).1) (lgO (longP 300 60 (d + 1) c p).2) []) :
    HCall Tryz.prog G 234 [.pu (patc 0 p), .ptr 3 [] 201, .ptr 5 [] 3] [(3, .var 201 (.ptr 90 [] 203)), (5, .var 3 (iv .i64 d))] (lgO c) (bv (longP 300 60 (d + 1) c p).1) (lgO (longP 300 60 (d + 1) c p).2) [] := by
  refine HCall.of_triD tbl 10 [90, 3, 5] Tryz.func234 rfl rfl rfl fun w0 M ρ0 D0 => ?_
  refine yR ?_
  refine s_box SS 31 ?_
  refine yB ?_
  refine e_seqN [31] ?_
  refine yR ?_
  refine yL ?_
  refine yL ?_
  refine yL ?_
  refine yI ?_
  refine s_call (h) ?_
  refine yA ?_
  refine e_seq ?_
  repeat refine Tri.seq ?_
  exact Tri.ret ⟨.inr rfl, ret1 rfl resV_tmp (VImp.refl _), by repeat (first | exact OutH.nil | refine OutH.cons rfl (by first | exact ObImp.refl _ | exact OWk.imp (by repeat constructor)) ?_)⟩

theorem lgP_c : ∀ (N : Nat) (p : Pat), psize p ≤ N → N < 2^40 → ∀ (d c : Int), 0 ≤ c ∧ c ≤ 300 → 0 ≤ d ∧ d ≤ 60 + 1 →
    HCall Tryz.prog G 199 [.ptr 90 [] 203, .pu (patc 0 p), iv .i64 d] [] (lgO c) (bv (longP 300 60 d c p).1) (lgO (longP 300 60 d c p).2) [] := by
  intro N
  induction N with
  | zero => intro p h; cases p; simp [psize] at h
  | succ N ih =>
  intro p hp hN d c hc hd
  obtain ⟨k, n, r, ks⟩ := p
  simp only [psize] at hp
  have hlen := length_psizeL ks
  have key : 0 ≤ d ∧ d ≤ 60 → c + 1 ≤ 300 → ∃ r, r.isSome = (longPs 300 60 (d + 1) (c + 1) ks).1 ∧ AnyC Tryz.prog G 234 [] [.ptr 3 [] 201, .ptr 5 [] 3] [(3, .var 201 (.ptr 90 [] 203)), (5, .var 3 (iv .i64 d))] (patsc 0 ks) (lgO (c + 1)) r (lgO (longPs 300 60 (d + 1) (c + 1) ks).2) := fun hd' hc' => by
    rw [longPs_eq, pats_eq]
    refine AnyC.state (patc 0) (longP 300 60 (d + 1)) lgO (fun c => 0 ≤ c ∧ c ≤ 300) (fun _ => rfl) ks (fun a ha c hc => ?_) (c + 1) ⟨by omega, hc'⟩
    have hb := longP_b (mn := 300) (md := 60) a (d + 1) c hc.2
    exact ⟨lgP1_c a d c hd' (ih a (by have := psize_mem ha; omega) (by omega) (d + 1) c hc (by omega)), fun e => ⟨by have := hb.1; omega, hb.2.2 e⟩⟩
  refine HCall.of_triD tbl 27 [90] Tryz.func199 rfl rfl rfl fun w0 M ρ0 D0 => ?_
  by_cases hcut : 300 < c + 1 ∨ 60 < d
  · have e : longP 300 60 d c (.mk k n r ks) = (true, c + 1) := by simp only [longP, if_pos hcut]
    rw [e, ← wrap64 (n := c + 1) (by omega) (by omega)]
    refine yR ?_
    refine s_box SS 3 ?_
    refine s_box SS 4 ?_
    refine s_box SS 5 ?_
    refine yB ?_
    refine e_seqN [3, 4, 5] ?_
    refine yR ?_
    refine yL ?_
    refine yY ?_
    refine yF ?_
    refine yL ?_
    refine yI ?_
    refine yY ?_
    refine yF ?_
    refine yS ?_
    refine e_seq ?_
    refine yR ?_
    refine yL ?_
    refine yY ?_
    refine yF ?_
    refine yL ?_
    refine yI ?_
    refine yM ?_
    refine xL ?_
    refine xI ?_
    refine yO ?_
    refine e_seq ?_
    repeat refine Tri.seq ?_
    refine Tri.cond rfl (fun h0 => ?_) (fun h0 => ?_)
    · skip
      refine yR ?_
      refine yB ?_
      refine e_seq ?_
      repeat refine Tri.seq ?_
      exact Tri.ret ⟨.inr rfl, ret1 rfl resV_tmp (VImp.refl _), by repeat (first | exact OutH.nil | refine OutH.cons rfl (by first | exact ObImp.refl _ | exact OWk.imp (by repeat constructor)) ?_)⟩
    · exfalso
      rw [wrap64 (by omega) (by omega)] at h0
      simp at h0
      omega
  · obtain ⟨r1, hr1, hA⟩ := key (by omega) (by omega)
    have e : longP 300 60 d c (.mk k n r ks) = longPs 300 60 (d + 1) (c + 1) ks := by simp only [longP, if_neg hcut]
    rw [e]
    generalize longPs 300 60 (d + 1) (c + 1) ks = q1 at hr1 hA ⊢
    obtain ⟨b1, c1⟩ := q1
    simp only at hr1 hA ⊢
    rw [← wrap64 (n := c + 1) (by omega) (by omega)] at hA
    refine yR ?_
    refine s_box SS 3 ?_
    refine s_box SS 4 ?_
    refine s_box SS 5 ?_
    refine yB ?_
    refine e_seqN [3, 4, 5] ?_
    refine yR ?_
    refine yL ?_
    refine yY ?_
    refine yF ?_
    refine yL ?_
    refine yI ?_
    refine yY ?_
    refine yF ?_
    refine yS ?_
    refine e_seq ?_
    refine yR ?_
    refine yL ?_
    refine yY ?_
    refine yF ?_
    refine yL ?_
    refine yI ?_
    refine yM ?_
    refine xL ?_
    refine xI ?_
    refine yO ?_
    refine e_seq ?_
    repeat refine Tri.seq ?_
    refine Tri.cond rfl (fun h0 => ?_) (fun h0 => ?_)
    · exfalso
      rw [wrap64 (by omega) (by omega)] at h0
      simp at h0
      omega
    · skip
      refine Tri.skip ?_
      refine yR ?_
      refine yF ?_
      refine yK ?_
      refine s_val (v_mkFnD SS) ?_
      refine s_call (conPat_d (lo := 0) (.fn (.func 234) [] [.ptr 3 [] 201, .ptr 5 [] 3]) (by rw [pats_length]; omega) hA) ?_
      refine yA ?_
      refine e_seq ?_
      repeat refine Tri.seq ?_
      exact Tri.ret ⟨.inr rfl, ret1 rfl resV_tmp (bv_imp hr1), by repeat (first | exact OutH.nil | refine OutH.cons rfl (by first | exact ObImp.refl _ | exact OWk.imp (by repeat constructor)) ?_)⟩

theorem lgT1_c (t : Tm) (d c : Int) (hd : 0 ≤ d ∧ d ≤ 60) (h : HCall Tryz.prog G 134 [.ptr 90 [] 203, .pu (tmc 0 t), iv .i64 (d + 1)] [] (lgO c) (bv (longT 300 60 (d + 1) c t).1) (lgO (longT 300 60 (d + 1) c t).2) []) :
    HCall Tryz.prog G 197 [.pu (tmc 0 t), .ptr 3 [] 201, .ptr 5 [] 3] [(3, .var 201 (.ptr 90 [] 203)), (5, .var 3 (iv .i64 d))] (lgO c) (bv (longT 300 60 (d + 1) c t).1) (lgO (longT 300 60 (d + 1) c t).2) [] := by
  refine HCall.of_triD tbl 10 [90, 3, 5] Tryz.func197 rfl rfl rfl fun w0 M ρ0 D0 => ?_
  refine yR ?_
  refine s_box SS 31 ?_
  refine yB ?_
  refine e_seqN [31] ?_
  refine yR ?_
  refine yL ?_
  refine yL ?_
  refine yL ?_
  refine yI ?_
  refine s_call (h) ?_
  refine yA ?_
  refine e_seq ?_
  repeat refine Tri.seq ?_
  exact Tri.ret ⟨.inr rfl, ret1 rfl resV_tmp (VImp.refl _), by repeat (first | exact OutH.nil | refine OutH.cons rfl (by first | exact ObImp.refl _ | exact OWk.imp (by repeat constructor)) ?_)⟩

theorem lgC_parts (mn md d c : Int) (p : Pat) (t : Tm) : longC mn md d c (.mk p t) = ((longP mn md d c p).1 || (longT mn md d (longP mn md d c p).2 t).1, if (longP mn md d c p).1 then (longP mn md d c p).2 else (longT mn md d (longP mn md d c p).2 t).2) := by
  simp only [longC]
  rcases longP mn md d c p with ⟨b, c'⟩
  cases b <;> simp

theorem lgT2_c (p : Pat) (t : Tm) (d c : Int) (hd : 0 ≤ d ∧ d ≤ 60) (h : HCall Tryz.prog G 199 [.ptr 90 [] 203, .pu (patc 0 p), iv .i64 (d + 1)] [] (lgO c) (bv (longP 300 60 (d + 1) c p).1) (lgO (longP 300 60 (d + 1) c p).2) [])
    (h2 : (longP 300 60 (d + 1) c p).1 = false → HCall Tryz.prog G 134 [.ptr 90 [] 203, .pu (tmc 0 t), iv .i64 (d + 1)] [] (lgO (longP 300 60 (d + 1) c p).2) (bv (longT 300 60 (d + 1) (longP 300 60 (d + 1) c p).2 t).1) (lgO (longT 300 60 (d + 1) (longP 300 60 (d + 1) c p).2 t).2) []) :
    HCall Tryz.prog G 198 [.pu (csec 0 (.mk p t)), .ptr 3 [] 201, .ptr 5 [] 3, .ptr 7 [] 45] [(3, .var 201 (.ptr 90 [] 203)), (5, .var 3 (iv .i64 d)), (7, .var 45 (.fn (.func 197) [] [.ptr 3 [] 201, .ptr 5 [] 3]))] (lgO c) (bv (longC 300 60 (d + 1) c (.mk p t)).1) (lgO (longC 300 60 (d + 1) c (.mk p t)).2) [] := by
  have h2' := fun e => (lgT1_c t d _ hd (h2 e)).more (HR' := [(3, .var 201 (.ptr 90 [] 203)), (5, .var 3 (iv .i64 d)), (7, .var 45 (.fn (.func 197) [] [.ptr 3 [] 201, .ptr 5 [] 3]))]) (fun l ob hl => (SubH.cons rfl rfl (.cons rfl rfl .nil) : SubH [(3, .var 201 (.ptr 90 [] 203)), (5, .var 3 (iv .i64 d)), (7, .var 45 (.fn (.func 197) [] [.ptr 3 [] 201, .ptr 5 [] 3]))] [(3, .var 201 (.ptr 90 [] 203)), (5, .var 3 (iv .i64 d))]).le l ob hl) rfl
  rw [lgC_parts]
  generalize hb1 : longP 300 60 (d + 1) c p = r1 at h2' ⊢
  obtain ⟨b1, c1⟩ := r1
  simp only at h2' ⊢
  refine HCall.of_triD tbl 18 [90, 3, 5, 7] Tryz.func198 rfl rfl rfl fun w0 M ρ0 D0 => ?_
  rw [hb1] at h
  refine yR ?_
  refine s_box SS 41 ?_
  refine yB ?_
  refine e_seqN [41] ?_
  refine yR ?_
  refine yL ?_
  refine yF ?_
  refine yL ?_
  refine yL ?_
  refine yI ?_
  refine s_call (h) ?_
  refine yM ?_
  refine xL ?_
  refine xF ?_
  refine xL ?_
  refine s_callG zG (f := 197) (args := [.pu (tmc 0 t), .ptr 3 [] 201, .ptr 5 [] 3]) (HR := [(3, .var 201 (.ptr 90 [] 203)), (5, .var 3 (iv .i64 d)), (7, .var 45 (.fn (.func 197) [] [.ptr 3 [] 201, .ptr 5 [] 3]))]) (H := lgO c1) (H' := lgO (if b1 = true then c1 else (longT 300 60 (d + 1) c1 t).2)) (v := bv (longT 300 60 (d + 1) c1 t).1) (fun e => ?_) (fun e => ?_) ?_
  · have e' : b1 = false := by simpa using e
    have := h2' e'
    simpa [e'] using this
  · have e' : b1 = true := by simpa using e
    exact .cons rfl (by simp [e']) .nil
  refine yO ?_
  refine yA ?_
  refine e_seq ?_
  repeat refine Tri.seq ?_
  exact Tri.ret ⟨.inr rfl, ret1 rfl resV_tmp (VImp.refl _), by repeat (first | exact OutH.nil | refine OutH.cons rfl (by first | exact ObImp.refl _ | exact OWk.imp (by repeat constructor)) ?_)⟩

theorem lgT_parts (d c k n : Int) (r : List Int) (ks : List Tm) (cs : List Cs) (h : ¬ (300 < c + 1 ∨ 60 < d)) : longT 300 60 d c (.mk k n r ks cs) = ((longTs 300 60 (d + 1) (c + 1) ks).1 || (longCs 300 60 (d + 1) (longTs 300 60 (d + 1) (c + 1) ks).2 cs).1, if (longTs 300 60 (d + 1) (c + 1) ks).1 then (longTs 300 60 (d + 1) (c + 1) ks).2 else (longCs 300 60 (d + 1) (longTs 300 60 (d + 1) (c + 1) ks).2 cs).2) := by
  simp only [longT, if_neg h]
  rcases longTs 300 60 (d + 1) (c + 1) ks with ⟨b, c'⟩
  cases b <;> simp

theorem lgT_c : ∀ (N : Nat) (t : Tm), tsize t ≤ N → N < 2^40 → ∀ (d c : Int), 0 ≤ c ∧ c ≤ 300 → 0 ≤ d ∧ d ≤ 60 + 1 →
    HCall Tryz.prog G 134 [.ptr 90 [] 203, .pu (tmc 0 t), iv .i64 d] [] (lgO c) (bv (longT 300 60 d c t).1) (lgO (longT 300 60 d c t).2) [] := by
  intro N
  induction N with
  | zero => intro t h; have := tsize_pos t; omega
  | succ N ih =>
  intro t hp hN d c hc hd
  obtain ⟨k, n, r, ks, cs⟩ := t
  simp only [tsize] at hp
  have hlen := length_tsizeL ks
  have hlenc := length_csizeL cs
  have keyT : 0 ≤ d ∧ d ≤ 60 → c + 1 ≤ 300 → ∃ r, r.isSome = (longTs 300 60 (d + 1) (c + 1) ks).1 ∧ AnyC Tryz.prog G 197 [] [.ptr 3 [] 201, .ptr 5 [] 3] [(3, .var 201 (.ptr 90 [] 203)), (5, .var 3 (iv .i64 d))] (tmsc 0 ks) (lgO (c + 1)) r (lgO (longTs 300 60 (d + 1) (c + 1) ks).2) := fun hd' hc' => by
    rw [longTs_eq, tms_eq]
    refine AnyC.state (tmc 0) (longT 300 60 (d + 1)) lgO (fun c => 0 ≤ c ∧ c ≤ 300) (fun _ => rfl) ks (fun a ha c hc => ?_) (c + 1) ⟨by omega, hc'⟩
    have hb := longT_b (mn := 300) (md := 60) a (d + 1) c hc.2
    exact ⟨lgT1_c a d c hd' (ih a (by have := tsize_mem ha; omega) (by omega) (d + 1) c hc (by omega)), fun e => ⟨by have := hb.1; omega, hb.2.2 e⟩⟩
  have keyC : 0 ≤ d ∧ d ≤ 60 → ∀ c1, 0 ≤ c1 ∧ c1 ≤ 300 → ∃ r, r.isSome = (longCs 300 60 (d + 1) c1 cs).1 ∧ AnyC Tryz.prog G 198 [] [.ptr 3 [] 201, .ptr 5 [] 3, .ptr 7 [] 45] [(3, .var 201 (.ptr 90 [] 203)), (5, .var 3 (iv .i64 d)), (7, .var 45 (.fn (.func 197) [] [.ptr 3 [] 201, .ptr 5 [] 3]))] (cssc 0 cs) (lgO c1) r (lgO (longCs 300 60 (d + 1) c1 cs).2) := fun hd' c1 hc1 => by
    rw [longCs_eq, css_eq]
    refine AnyC.state (csec 0) (longC 300 60 (d + 1)) lgO (fun c => 0 ≤ c ∧ c ≤ 300) (fun _ => rfl) cs (fun a ha c hc => ?_) c1 hc1
    have hb := longC_b (mn := 300) (md := 60) a (d + 1) c hc.2
    have hsz := csize_mem ha
    obtain ⟨q, b⟩ := a
    simp only [csize] at hsz
    have hp1 := longP_b (mn := 300) (md := 60) q (d + 1) c hc.2
    have htp := tsize_pos b
    exact ⟨lgT2_c q b d c hd' (lgP_c _ q (Nat.le_refl _) (by omega) (d + 1) c hc (by omega)) (fun e => ih b (by omega) (by omega) (d + 1) _ ⟨by have := hp1.1; omega, hp1.2.2 e⟩ (by omega)), fun e => ⟨by have := hb.1; omega, hb.2.2 e⟩⟩
  refine HCall.of_triD tbl 35 [90] Tryz.func134 rfl rfl rfl fun w0 M ρ0 D0 => ?_
  by_cases hcut : 300 < c + 1 ∨ 60 < d
  · have e : longT 300 60 d c (.mk k n r ks cs) = (true, c + 1) := by simp only [longT, if_pos hcut]
    rw [e, ← wrap64 (n := c + 1) (by omega) (by omega)]
    refine yR ?_
    refine s_box SS 3 ?_
    refine s_box SS 4 ?_
    refine s_box SS 5 ?_
    refine yB ?_
    refine e_seqN [3, 4, 5] ?_
    refine yR ?_
    refine yL ?_
    refine yY ?_
    refine yF ?_
    refine yL ?_
    refine yI ?_
    refine yY ?_
    refine yF ?_
    refine yS ?_
    refine e_seq ?_
    refine yR ?_
    refine yL ?_
    refine yY ?_
    refine yF ?_
    refine yL ?_
    refine yI ?_
    refine yM ?_
    refine xL ?_
    refine xI ?_
    refine yO ?_
    refine e_seq ?_
    repeat refine Tri.seq ?_
    refine Tri.cond rfl (fun h0 => ?_) (fun h0 => ?_)
    · skip
      refine yR ?_
      refine yB ?_
      refine e_seq ?_
      repeat refine Tri.seq ?_
      exact Tri.ret ⟨.inr rfl, ret1 rfl resV_tmp (VImp.refl _), by repeat (first | exact OutH.nil | refine OutH.cons rfl (by first | exact ObImp.refl _ | exact OWk.imp (by repeat constructor)) ?_)⟩
    · exfalso
      rw [wrap64 (by omega) (by omega)] at h0
      simp at h0
      omega
  · obtain ⟨r1, hr1, hA⟩ := keyT (by omega) (by omega)
    have hb1 := longTs_b (mn := 300) (md := 60) ks (d + 1) (c + 1) (by omega)
    rw [lgT_parts d c k n r ks cs hcut]
    generalize longTs 300 60 (d + 1) (c + 1) ks = q1 at hr1 hA hb1 ⊢
    obtain ⟨b1, c1⟩ := q1
    obtain ⟨hb1, _, hb2⟩ := hb1
    simp only at hr1 hA hb1 hb2 ⊢
    rw [← wrap64 (n := c + 1) (by omega) (by omega)] at hA
    have hC : b1 = false → ∃ r2 : Option Nat, r2.isSome = (longCs 300 60 (d + 1) c1 cs).1 ∧ _ := fun e => keyC (by omega) c1 ⟨by omega, hb2 e⟩
    refine yR ?_
    refine s_box SS 3 ?_
    refine s_box SS 4 ?_
    refine s_box SS 5 ?_
    refine yB ?_
    refine e_seqN [3, 4, 5] ?_
    refine yR ?_
    refine yL ?_
    refine yY ?_
    refine yF ?_
    refine yL ?_
    refine yI ?_
    refine yY ?_
    refine yF ?_
    refine yS ?_
    refine e_seq ?_
    refine yR ?_
    refine yL ?_
    refine yY ?_
    refine yF ?_
    refine yL ?_
    refine yI ?_
    refine yM ?_
    refine xL ?_
    refine xI ?_
    refine yO ?_
    refine e_seq ?_
    repeat refine Tri.seq ?_
    refine Tri.cond rfl (fun h0 => ?_) (fun h0 => ?_)
    · exfalso
      rw [wrap64 (by omega) (by omega)] at h0
      simp at h0
      omega
    · skip
      refine Tri.skip ?_
      refine yR ?_
      refine s_val (v_mkFnD SS) ?_
      refine s_alloc SS 7 ?_
      refine yS ?_
      refine e_seqN [7] ?_
      refine yR ?_
      refine yF ?_
      refine yK ?_
      refine yL ?_
      refine s_call (hr1 ▸ conTm_d (lo := 0) (.fn (.func 197) [] [.ptr 3 [] 201, .ptr 5 [] 3]) (by rw [tms_length]; omega) hA) ?_
      refine yM ?_
      refine xF ?_
      refine xL ?_
      refine s_gg zG (v_mkFnD SS) ?_
      refine s_callG zG (f := 123) (args := [.pu (.sl 0 106 (cssc 0 cs)), .fn (.func 198) [] [.ptr 3 [] 201, .ptr 5 [] 3, .ptr 7 [] 45]]) (HR := [(3, .var 201 (.ptr 90 [] 203)), (5, .var 3 (iv .i64 d)), (7, .var 45 (.fn (.func 197) [] [.ptr 3 [] 201, .ptr 5 [] 3]))]) (H := lgO c1) (H' := lgO (if b1 = true then c1 else (longCs 300 60 (d + 1) c1 cs).2)) (v := bv (longCs 300 60 (d + 1) c1 cs).1) (fun e => ?_) (fun e => ?_) ?_
      · have e' : b1 = false := by simpa using e
        obtain ⟨r2, hr2, hA2⟩ := hC e'
        have := conCs_d (lo := 0) (.fn (.func 198) [] [.ptr 3 [] 201, .ptr 5 [] 3, .ptr 7 [] 45]) (by rw [css_length]; omega) hA2
        rw [hr2] at this
        simpa [e'] using this
      · have e' : b1 = true := by simpa using e
        exact .cons rfl (by simp [e']) .nil
      refine yO ?_
      refine yA ?_
      refine e_seq ?_
      repeat refine Tri.seq ?_
      exact Tri.ret ⟨.inr rfl, ret1 rfl resV_tmp (VImp.refl _), by repeat (first | exact OutH.nil | refine OutH.cons rfl (by first | exact ObImp.refl _ | exact OWk.imp (by repeat constructor)) ?_)⟩

end Go.Proofs.YtkcgkignhpepkaaGreatDoor

/- The walks of the counters. -/
namespace Go.Proofs.YtkcgkignhpepkaaGreatDoor
open Go Hs
variable {G : List (Nat × TypeId × Pu)}


/-! ### step.great -/
abbrev grO (c : Int) : List (Nat × Ob) := [(91, .var 240 (.pu (.agg 240 [.leaf (.int .i64 c)])))]

theorem grP1_c (p : Pat) (d c : Int) (hd : 0 ≤ d ∧ d ≤ 200) (h : HCall Tryz.prog G 231 [.ptr 91 [] 240, .pu (patc 0 p), iv .i64 (d + 1)] [] (grO c) (bv (longP 3000 200 (d + 1) c p).1) (grO (longP 3000 200 (d + 1) c p).2) []) :
    HCall Tryz.prog G 245 [.pu (patc 0 p), .ptr 3 [] 238, .ptr 5 [] 3] [(3, .var 238 (.ptr 91 [] 240)), (5, .var 3 (iv .i64 d))] (grO c) (bv (longP 3000 200 (d + 1) c p).1) (grO (longP 3000 200 (d + 1) c p).2) [] := by
  refine HCall.of_triD tbl 10 [91, 3, 5] Tryz.func245 rfl rfl rfl fun w0 M ρ0 D0 => ?_
  refine yR ?_
  refine s_box SS 31 ?_
  refine yB ?_
  refine e_seqN [31] ?_
  refine yR ?_
  refine yL ?_
  refine yL ?_
  refine yL ?_
  refine yI ?_
  refine s_call (h) ?_
  refine yA ?_
  refine e_seq ?_
  repeat refine Tri.seq ?_
  exact Tri.ret ⟨.inr rfl, ret1 rfl resV_tmp (VImp.refl _), by repeat (first | exact OutH.nil | refine OutH.cons rfl (by first | exact ObImp.refl _ | exact OWk.imp (by repeat constructor)) ?_)⟩

theorem grP_c : ∀ (N : Nat) (p : Pat), psize p ≤ N → N < 2^40 → ∀ (d c : Int), 0 ≤ c ∧ c ≤ 3000 → 0 ≤ d ∧ d ≤ 200 + 1 →
    HCall Tryz.prog G 231 [.ptr 91 [] 240, .pu (patc 0 p), iv .i64 d] [] (grO c) (bv (longP 3000 200 d c p).1) (grO (longP 3000 200 d c p).2) [] := by
  intro N
  induction N with
  | zero => intro p h; cases p; simp [psize] at h
  | succ N ih =>
  intro p hp hN d c hc hd
  obtain ⟨k, n, r, ks⟩ := p
  simp only [psize] at hp
  have hlen := length_psizeL ks
  have key : 0 ≤ d ∧ d ≤ 200 → c + 1 ≤ 3000 → ∃ r, r.isSome = (longPs 3000 200 (d + 1) (c + 1) ks).1 ∧ AnyC Tryz.prog G 245 [] [.ptr 3 [] 238, .ptr 5 [] 3] [(3, .var 238 (.ptr 91 [] 240)), (5, .var 3 (iv .i64 d))] (patsc 0 ks) (grO (c + 1)) r (grO (longPs 3000 200 (d + 1) (c + 1) ks).2) := fun hd' hc' => by
    rw [longPs_eq, pats_eq]
    refine AnyC.state (patc 0) (longP 3000 200 (d + 1)) grO (fun c => 0 ≤ c ∧ c ≤ 3000) (fun _ => rfl) ks (fun a ha c hc => ?_) (c + 1) ⟨by omega, hc'⟩
    have hb := longP_b (mn := 3000) (md := 200) a (d + 1) c hc.2
    exact ⟨grP1_c a d c hd' (ih a (by have := psize_mem ha; omega) (by omega) (d + 1) c hc (by omega)), fun e => ⟨by have := hb.1; omega, hb.2.2 e⟩⟩
  refine HCall.of_triD tbl 29 [91] Tryz.func231 rfl rfl rfl fun w0 M ρ0 D0 => ?_
  by_cases hcut : 3000 < c + 1 ∨ 200 < d
  · have e : longP 3000 200 d c (.mk k n r ks) = (true, c + 1) := by simp only [longP, if_pos hcut]
    rw [e, ← wrap64 (n := c + 1) (by omega) (by omega)]
    have hb0 : (decide (IntKind.i64.wrap (c + 1) > 3000) || decide (d > 200)) = true := by rw [wrap64 (by omega) (by omega)]; simp; omega
    refine yR ?_
    refine s_box SS 3 ?_
    refine s_box SS 4 ?_
    refine s_box SS 5 ?_
    refine yB ?_
    refine e_seqN [3, 4, 5] ?_
    refine yR ?_
    refine yL ?_
    refine yY ?_
    refine yF ?_
    refine yL ?_
    refine yI ?_
    refine yY ?_
    refine yF ?_
    refine yS ?_
    refine e_seq ?_
    refine yR ?_
    refine yL ?_
    refine yY ?_
    refine yF ?_
    refine yL ?_
    refine yI ?_
    refine yM ?_
    refine xL ?_
    refine xI ?_
    refine yO ?_
    refine yM ?_
    refine xF ?_
    refine xL ?_
    refine s_gg zG (v_mkFnD SS) ?_
    refine s_callG zG (f := 120) (args := [.pu (.sl 0 104 (patsc 0 ks)), .fn (.func 245) [] [.ptr 3 [] 238, .ptr 5 [] 3]]) (HR := []) (H := []) (H' := []) (v := bv false) (fun e => by simp [hb0] at e) (fun _ => .nil) ?_
    refine yO ?_
    refine yA ?_
    refine e_seq ?_
    repeat refine Tri.seq ?_
    exact Tri.ret ⟨.inr rfl, ret1 rfl resV_tmp (bv_imp (by rw [hb0]; rfl)), by repeat (first | exact OutH.nil | refine OutH.cons rfl (by first | exact ObImp.refl _ | exact OWk.imp (by repeat constructor)) ?_)⟩
  · obtain ⟨r1, hr1, hA⟩ := key (by omega) (by omega)
    have e : longP 3000 200 d c (.mk k n r ks) = longPs 3000 200 (d + 1) (c + 1) ks := by simp only [longP, if_neg hcut]
    have hb0 : (decide (IntKind.i64.wrap (c + 1) > 3000) || decide (d > 200)) = false := by rw [wrap64 (by omega) (by omega)]; simp; omega
    rw [e]
    generalize longPs 3000 200 (d + 1) (c + 1) ks = q1 at hr1 hA ⊢
    obtain ⟨b1, c1⟩ := q1
    simp only at hr1 hA ⊢
    rw [← wrap64 (n := c + 1) (by omega) (by omega)] at hA
    refine yR ?_
    refine s_box SS 3 ?_
    refine s_box SS 4 ?_
    refine s_box SS 5 ?_
    refine yB ?_
    refine e_seqN [3, 4, 5] ?_
    refine yR ?_
    refine yL ?_
    refine yY ?_
    refine yF ?_
    refine yL ?_
    refine yI ?_
    refine yY ?_
    refine yF ?_
    refine yS ?_
    refine e_seq ?_
    refine yR ?_
    refine yL ?_
    refine yY ?_
    refine yF ?_
    refine yL ?_
    refine yI ?_
    refine yM ?_
    refine xL ?_
    refine xI ?_
    refine yO ?_
    refine yM ?_
    refine xF ?_
    refine xL ?_
    refine s_gg zG (v_mkFnD SS) ?_
    refine s_callG zG (f := 120) (args := [.pu (.sl 0 104 (patsc 0 ks)), .fn (.func 245) [] [.ptr 3 [] 238, .ptr 5 [] 3]]) (HR := [(3, .var 238 (.ptr 91 [] 240)), (5, .var 3 (iv .i64 d))]) (H := grO (IntKind.i64.wrap (c + 1))) (H' := grO c1) (v := bv b1) (fun _ => hr1 ▸ conPat_d (lo := 0) (.fn (.func 245) [] [.ptr 3 [] 238, .ptr 5 [] 3]) (by rw [pats_length]; omega) hA) (fun e => by simp [hb0] at e) ?_
    refine yO ?_
    refine yA ?_
    refine e_seq ?_
    repeat refine Tri.seq ?_
    exact Tri.ret ⟨.inr rfl, ret1 rfl resV_tmp (bv_imp (by rw [hb0]; rfl)), by repeat (first | exact OutH.nil | refine OutH.cons rfl (by first | exact ObImp.refl _ | exact OWk.imp (by repeat constructor)) ?_)⟩

theorem grT1_c (t : Tm) (d c : Int) (hd : 0 ≤ d ∧ d ≤ 200) (h : HCall Tryz.prog G 180 [.ptr 91 [] 240, .pu (tmc 0 t), iv .i64 (d + 1)] [] (grO c) (bv (longT 3000 200 (d + 1) c t).1) (grO (longT 3000 200 (d + 1) c t).2) []) :
    HCall Tryz.prog G 229 [.pu (tmc 0 t), .ptr 3 [] 238, .ptr 5 [] 3] [(3, .var 238 (.ptr 91 [] 240)), (5, .var 3 (iv .i64 d))] (grO c) (bv (longT 3000 200 (d + 1) c t).1) (grO (longT 3000 200 (d + 1) c t).2) [] := by
  refine HCall.of_triD tbl 10 [91, 3, 5] Tryz.func229 rfl rfl rfl fun w0 M ρ0 D0 => ?_
  refine yR ?_
  refine s_box SS 31 ?_
  refine yB ?_
  refine e_seqN [31] ?_
  refine yR ?_
  refine yL ?_
  refine yL ?_
  refine yL ?_
  refine yI ?_
  refine s_call (h) ?_
  refine yA ?_
  refine e_seq ?_
  repeat refine Tri.seq ?_
  exact Tri.ret ⟨.inr rfl, ret1 rfl resV_tmp (VImp.refl _), by repeat (first | exact OutH.nil | refine OutH.cons rfl (by first | exact ObImp.refl _ | exact OWk.imp (by repeat constructor)) ?_)⟩

theorem grC_parts (mn md d c : Int) (p : Pat) (t : Tm) : longC mn md d c (.mk p t) = ((longP mn md d c p).1 || (longT mn md d (longP mn md d c p).2 t).1, if (longP mn md d c p).1 then (longP mn md d c p).2 else (longT mn md d (longP mn md d c p).2 t).2) := by
  simp only [longC]
  rcases longP mn md d c p with ⟨b, c'⟩
  cases b <;> simp

theorem grT2_c (p : Pat) (t : Tm) (d c : Int) (hd : 0 ≤ d ∧ d ≤ 200) (h : HCall Tryz.prog G 231 [.ptr 91 [] 240, .pu (patc 0 p), iv .i64 (d + 1)] [] (grO c) (bv (longP 3000 200 (d + 1) c p).1) (grO (longP 3000 200 (d + 1) c p).2) [])
    (h2 : (longP 3000 200 (d + 1) c p).1 = false → HCall Tryz.prog G 180 [.ptr 91 [] 240, .pu (tmc 0 t), iv .i64 (d + 1)] [] (grO (longP 3000 200 (d + 1) c p).2) (bv (longT 3000 200 (d + 1) (longP 3000 200 (d + 1) c p).2 t).1) (grO (longT 3000 200 (d + 1) (longP 3000 200 (d + 1) c p).2 t).2) []) :
    HCall Tryz.prog G 230 [.pu (csec 0 (.mk p t)), .ptr 3 [] 238, .ptr 5 [] 3, .ptr 7 [] 45] [(3, .var 238 (.ptr 91 [] 240)), (5, .var 3 (iv .i64 d)), (7, .var 45 (.fn (.func 229) [] [.ptr 3 [] 238, .ptr 5 [] 3]))] (grO c) (bv (longC 3000 200 (d + 1) c (.mk p t)).1) (grO (longC 3000 200 (d + 1) c (.mk p t)).2) [] := by
  have h2' := fun e => (grT1_c t d _ hd (h2 e)).more (HR' := [(3, .var 238 (.ptr 91 [] 240)), (5, .var 3 (iv .i64 d)), (7, .var 45 (.fn (.func 229) [] [.ptr 3 [] 238, .ptr 5 [] 3]))]) (fun l ob hl => (SubH.cons rfl rfl (.cons rfl rfl .nil) : SubH [(3, .var 238 (.ptr 91 [] 240)), (5, .var 3 (iv .i64 d)), (7, .var 45 (.fn (.func 229) [] [.ptr 3 [] 238, .ptr 5 [] 3]))] [(3, .var 238 (.ptr 91 [] 240)), (5, .var 3 (iv .i64 d))]).le l ob hl) rfl
  rw [grC_parts]
  generalize hb1 : longP 3000 200 (d + 1) c p = r1 at h2' ⊢
  obtain ⟨b1, c1⟩ := r1
  simp only at h2' ⊢
  refine HCall.of_triD tbl 18 [91, 3, 5, 7] Tryz.func230 rfl rfl rfl fun w0 M ρ0 D0 => ?_
  rw [hb1] at h
  refine yR ?_
  refine s_box SS 41 ?_
  refine yB ?_
  refine e_seqN [41] ?_
  refine yR ?_
  refine yL ?_
  refine yF ?_
  refine yL ?_
  refine yL ?_
  refine yI ?_
  refine s_call (h) ?_
  refine yM ?_
  refine xL ?_
  refine xF ?_
  refine xL ?_
  refine s_callG zG (f := 229) (args := [.pu (tmc 0 t), .ptr 3 [] 238, .ptr 5 [] 3]) (HR := [(3, .var 238 (.ptr 91 [] 240)), (5, .var 3 (iv .i64 d)), (7, .var 45 (.fn (.func 229) [] [.ptr 3 [] 238, .ptr 5 [] 3]))]) (H := grO c1) (H' := grO (if b1 = true then c1 else (longT 3000 200 (d + 1) c1 t).2)) (v := bv (longT 3000 200 (d + 1) c1 t).1) (fun e => ?_) (fun e => ?_) ?_
  · have e' : b1 = false := by simpa using e
    have := h2' e'
    simpa [e'] using this
  · have e' : b1 = true := by simpa using e
    exact .cons rfl (by simp [e']) .nil
  refine yO ?_
  refine yA ?_
  refine e_seq ?_
  repeat refine Tri.seq ?_
  exact Tri.ret ⟨.inr rfl, ret1 rfl resV_tmp (VImp.refl _), by repeat (first | exact OutH.nil | refine OutH.cons rfl (by first | exact ObImp.refl _ | exact OWk.imp (by repeat constructor)) ?_)⟩

theorem grT_parts (d c k n : Int) (r : List Int) (ks : List Tm) (cs : List Cs) (h : ¬ (3000 < c + 1 ∨ 200 < d)) : longT 3000 200 d c (.mk k n r ks cs) = ((longTs 3000 200 (d + 1) (c + 1) ks).1 || (longCs 3000 200 (d + 1) (longTs 3000 200 (d + 1) (c + 1) ks).2 cs).1, if (longTs 3000 200 (d + 1) (c + 1) ks).1 then (longTs 3000 200 (d + 1) (c + 1) ks).2 else (longCs 3000 200 (d + 1) (longTs 3000 200 (d + 1) (c + 1) ks).2 cs).2) := by
  simp only [longT, if_neg h]
  rcases longTs 3000 200 (d + 1) (c + 1) ks with ⟨b, c'⟩
  cases b <;> simp

theorem grT_c : ∀ (N : Nat) (t : Tm), tsize t ≤ N → N < 2^40 → ∀ (d c : Int), 0 ≤ c ∧ c ≤ 3000 → 0 ≤ d ∧ d ≤ 200 + 1 →
    HCall Tryz.prog G 180 [.ptr 91 [] 240, .pu (tmc 0 t), iv .i64 d] [] (grO c) (bv (longT 3000 200 d c t).1) (grO (longT 3000 200 d c t).2) [] := by
  intro N
  induction N with
  | zero => intro t h; have := tsize_pos t; omega
  | succ N ih =>
  intro t hp hN d c hc hd
  obtain ⟨k, n, r, ks, cs⟩ := t
  simp only [tsize] at hp
  have hlen := length_tsizeL ks
  have hlenc := length_csizeL cs
  have keyT : 0 ≤ d ∧ d ≤ 200 → c + 1 ≤ 3000 → ∃ r, r.isSome = (longTs 3000 200 (d + 1) (c + 1) ks).1 ∧ AnyC Tryz.prog G 229 [] [.ptr 3 [] 238, .ptr 5 [] 3] [(3, .var 238 (.ptr 91 [] 240)), (5, .var 3 (iv .i64 d))] (tmsc 0 ks) (grO (c + 1)) r (grO (longTs 3000 200 (d + 1) (c + 1) ks).2) := fun hd' hc' => by
    rw [longTs_eq, tms_eq]
    refine AnyC.state (tmc 0) (longT 3000 200 (d + 1)) grO (fun c => 0 ≤ c ∧ c ≤ 3000) (fun _ => rfl) ks (fun a ha c hc => ?_) (c + 1) ⟨by omega, hc'⟩
    have hb := longT_b (mn := 3000) (md := 200) a (d + 1) c hc.2
    exact ⟨grT1_c a d c hd' (ih a (by have := tsize_mem ha; omega) (by omega) (d + 1) c hc (by omega)), fun e => ⟨by have := hb.1; omega, hb.2.2 e⟩⟩
  have keyC : 0 ≤ d ∧ d ≤ 200 → ∀ c1, 0 ≤ c1 ∧ c1 ≤ 3000 → ∃ r, r.isSome = (longCs 3000 200 (d + 1) c1 cs).1 ∧ AnyC Tryz.prog G 230 [] [.ptr 3 [] 238, .ptr 5 [] 3, .ptr 7 [] 45] [(3, .var 238 (.ptr 91 [] 240)), (5, .var 3 (iv .i64 d)), (7, .var 45 (.fn (.func 229) [] [.ptr 3 [] 238, .ptr 5 [] 3]))] (cssc 0 cs) (grO c1) r (grO (longCs 3000 200 (d + 1) c1 cs).2) := fun hd' c1 hc1 => by
    rw [longCs_eq, css_eq]
    refine AnyC.state (csec 0) (longC 3000 200 (d + 1)) grO (fun c => 0 ≤ c ∧ c ≤ 3000) (fun _ => rfl) cs (fun a ha c hc => ?_) c1 hc1
    have hb := longC_b (mn := 3000) (md := 200) a (d + 1) c hc.2
    have hsz := csize_mem ha
    obtain ⟨q, b⟩ := a
    simp only [csize] at hsz
    have hp1 := longP_b (mn := 3000) (md := 200) q (d + 1) c hc.2
    have htp := tsize_pos b
    exact ⟨grT2_c q b d c hd' (grP_c _ q (Nat.le_refl _) (by omega) (d + 1) c hc (by omega)) (fun e => ih b (by omega) (by omega) (d + 1) _ ⟨by have := hp1.1; omega, hp1.2.2 e⟩ (by omega)), fun e => ⟨by have := hb.1; omega, hb.2.2 e⟩⟩
  refine HCall.of_triD tbl 37 [91] Tryz.func180 rfl rfl rfl fun w0 M ρ0 D0 => ?_
  by_cases hcut : 3000 < c + 1 ∨ 200 < d
  · have e : longT 3000 200 d c (.mk k n r ks cs) = (true, c + 1) := by simp only [longT, if_pos hcut]
    rw [e, ← wrap64 (n := c + 1) (by omega) (by omega)]
    have hb0 : (decide (IntKind.i64.wrap (c + 1) > 3000) || decide (d > 200)) = true := by rw [wrap64 (by omega) (by omega)]; simp; omega
    refine yR ?_
    refine s_box SS 3 ?_
    refine s_box SS 4 ?_
    refine s_box SS 5 ?_
    refine yB ?_
    refine e_seqN [3, 4, 5] ?_
    refine yR ?_
    refine yL ?_
    refine yY ?_
    refine yF ?_
    refine yL ?_
    refine yI ?_
    refine yY ?_
    refine yF ?_
    refine yS ?_
    refine e_seq ?_
    refine yR ?_
    refine s_val (v_mkFnD SS) ?_
    refine s_alloc SS 7 ?_
    refine yS ?_
    refine e_seqN [7] ?_
    refine yR ?_
    refine yL ?_
    refine yY ?_
    refine yF ?_
    refine yL ?_
    refine yI ?_
    refine yM ?_
    refine xL ?_
    refine xI ?_
    refine yO ?_
    refine yM ?_
    refine xF ?_
    refine xL ?_
    refine xL ?_
    refine s_callG zG (f := 122) (args := [.pu (.sl 0 32 (tmsc 0 ks)), .fn (.func 229) [] [.ptr 3 [] 238, .ptr 5 [] 3]]) (HR := []) (H := []) (H' := []) (v := bv false) (fun e => by simp [hb0] at e) (fun _ => .nil) ?_
    refine yO ?_
    refine yM ?_
    refine xF ?_
    refine xL ?_
    refine s_gg zG (v_mkFnD SS) ?_
    refine s_callG zG (f := 123) (args := [.pu (.sl 0 106 (cssc 0 cs)), .fn (.func 230) [] [.ptr 3 [] 238, .ptr 5 [] 3, .ptr 7 [] 45]]) (HR := []) (H := []) (H' := []) (v := bv false) (fun e => by simp [hb0] at e) (fun _ => .nil) ?_
    refine yO ?_
    refine yA ?_
    refine e_seq ?_
    repeat refine Tri.seq ?_
    exact Tri.ret ⟨.inr rfl, ret1 rfl resV_tmp (bv_imp (by rw [hb0]; rfl)), by repeat (first | exact OutH.nil | refine OutH.cons rfl (by first | exact ObImp.refl _ | exact OWk.imp (by repeat constructor)) ?_)⟩
  · obtain ⟨r1, hr1, hA⟩ := keyT (by omega) (by omega)
    have hb1 := longTs_b (mn := 3000) (md := 200) ks (d + 1) (c + 1) (by omega)
    have hb0 : (decide (IntKind.i64.wrap (c + 1) > 3000) || decide (d > 200)) = false := by rw [wrap64 (by omega) (by omega)]; simp; omega
    rw [grT_parts d c k n r ks cs hcut]
    generalize longTs 3000 200 (d + 1) (c + 1) ks = q1 at hr1 hA hb1 ⊢
    obtain ⟨b1, c1⟩ := q1
    obtain ⟨hb1, _, hb2⟩ := hb1
    simp only at hr1 hA hb1 hb2 ⊢
    rw [← wrap64 (n := c + 1) (by omega) (by omega)] at hA
    have hC : b1 = false → ∃ r2 : Option Nat, r2.isSome = (longCs 3000 200 (d + 1) c1 cs).1 ∧ _ := fun e => keyC (by omega) c1 ⟨by omega, hb2 e⟩
    refine yR ?_
    refine s_box SS 3 ?_
    refine s_box SS 4 ?_
    refine s_box SS 5 ?_
    refine yB ?_
    refine e_seqN [3, 4, 5] ?_
    refine yR ?_
    refine yL ?_
    refine yY ?_
    refine yF ?_
    refine yL ?_
    refine yI ?_
    refine yY ?_
    refine yF ?_
    refine yS ?_
    refine e_seq ?_
    refine yR ?_
    refine s_val (v_mkFnD SS) ?_
    refine s_alloc SS 7 ?_
    refine yS ?_
    refine e_seqN [7] ?_
    refine yR ?_
    refine yL ?_
    refine yY ?_
    refine yF ?_
    refine yL ?_
    refine yI ?_
    refine yM ?_
    refine xL ?_
    refine xI ?_
    refine yO ?_
    refine yM ?_
    refine xF ?_
    refine xL ?_
    refine xL ?_
    refine s_callG zG (f := 122) (args := [.pu (.sl 0 32 (tmsc 0 ks)), .fn (.func 229) [] [.ptr 3 [] 238, .ptr 5 [] 3]]) (HR := [(3, .var 238 (.ptr 91 [] 240)), (5, .var 3 (iv .i64 d))]) (H := grO (IntKind.i64.wrap (c + 1))) (H' := grO c1) (v := bv b1) (fun _ => hr1 ▸ conTm_d (lo := 0) (.fn (.func 229) [] [.ptr 3 [] 238, .ptr 5 [] 3]) (by rw [tms_length]; omega) hA) (fun e => by simp [hb0] at e) ?_
    refine yO ?_
    refine yM ?_
    refine xF ?_
    refine xL ?_
    refine s_gg zG (v_mkFnD SS) ?_
    refine s_callG zG (f := 123) (args := [.pu (.sl 0 106 (cssc 0 cs)), .fn (.func 230) [] [.ptr 3 [] 238, .ptr 5 [] 3, .ptr 7 [] 45]]) (HR := [(3, .var 238 (.ptr 91 [] 240)), (5, .var 3 (iv .i64 d)), (7, .var 45 (.fn (.func 229) [] [.ptr 3 [] 238, .ptr 5 [] 3]))]) (H := grO c1) (H' := grO (if b1 = true then c1 else (longCs 3000 200 (d + 1) c1 cs).2)) (v := bv (longCs 3000 200 (d + 1) c1 cs).1) (fun e => ?_) (fun e => ?_) ?_
    · have e' : b1 = false := by rw [hb0] at e; simpa using e
      obtain ⟨r2, hr2, hA2⟩ := hC e'
      have := conCs_d (lo := 0) (.fn (.func 230) [] [.ptr 3 [] 238, .ptr 5 [] 3, .ptr 7 [] 45]) (by rw [css_length]; omega) hA2
      rw [hr2] at this
      simpa [e'] using this
    · have e' : b1 = true := by rw [hb0] at e; simpa using e
      exact .cons rfl (by simp [e']) .nil
    refine yO ?_
    refine yA ?_
    refine e_seq ?_
    repeat refine Tri.seq ?_
    exact Tri.ret ⟨.inr rfl, ret1 rfl resV_tmp (bv_imp (by rw [hb0]; rfl)), by repeat (first | exact OutH.nil | refine OutH.cons rfl (by first | exact ObImp.refl _ | exact OWk.imp (by repeat constructor)) ?_)⟩

end Go.Proofs.YtkcgkignhpepkaaGreatDoor

/- Small functions of the checker of terms. -/
namespace Go.Proofs.YtkcgkignhpepkaaGreatDoor
open Go Hs
variable {G : List (Nat × TypeId × Pu)}

def offM (n lo hi : Int) : Bool := decide (n < lo) || decide (n > hi)
theorem off_c (n lo hi : Int) : FCall Tryz.prog G 235 [iv .i64 n, iv .i64 lo, iv .i64 hi] (bv (offM n lo hi)) := by
  refine FCall.of_tri tbl 15 Tryz.func235 rfl rfl rfl fun w0 M ρ0 D0 => ?_
  refine yR ?_
  refine yB ?_
  refine e_seq ?_
  refine yR ?_
  refine yM ?_
  refine yM ?_
  refine yI ?_
  refine yM ?_
  refine xM ?_
  refine xM ?_
  refine xI ?_
  refine yO ?_
  refine yA ?_
  refine e_seq ?_
  repeat refine Tri.seq ?_
  exact Tri.ret ⟨.inr rfl, ret1 rfl resV_tmp (VImp.refl _)⟩

def hasNumM (k : Int) : Bool := k == 1 || k == 2 || k == 7 || k == 10 || k == 8 || k == 11
def hasRefM (k : Int) : Bool := k == 8 || k == 11 || k == 6 || k == 12
def hasCasesM (k : Int) : Bool := k == 9
def flP (a b c : Bool) : Pu := .agg 278 [.leaf (.bool a), .leaf (.bool b), .leaf (.bool c)]
theorem flP_eq {a b c a' b' c' : Bool} {P : Program} (h1 : a = a') (h2 : b = b') (h3 : c = c') : VImp P (.pu (flP a b c)) (.pu (flP a' b' c')) := by rw [h1, h2, h3]; exact VImp.refl _
instance (a b c : Bool) : TyV Tryz.prog 278 (.pu (flP a b c)) := inferInstanceAs (TyV Tryz.prog 278 (.pu (.agg _ _)))

theorem fields_c (k : Int) : FCall Tryz.prog G 237 [iv .i64 k] (.pu (flP (hasNumM k) (hasRefM k) (hasCasesM k))) := by
  refine FCall.of_tri tbl 24 Tryz.func237 rfl rfl rfl fun w0 M ρ0 D0 => ?_
  refine yR ?_
  refine s_alloc SS 2 ?_
  refine e_seqN [2] ?_
  refine yR ?_
  refine s_alloc SS 3 ?_
  refine e_seqN [3] ?_
  refine yR ?_
  refine yM ?_
  refine e_seq ?_
  repeat refine Tri.seq ?_
  refine Tri.block ?_
  refine yR ?_
  refine yI ?_
  refine yA ?_
  refine e_seq ?_
  repeat refine Tri.seq ?_
  refine Tri.cutT ⟨[(2, .ptr 2 [] 278), (3, .ptr 3 [] 278), (4, iv .i64 k), (5, bv (k == 1 || k == 2 || k == 7 || k == 10))], [(2, .var 278 (.pu (flP false false false))), (3, .var 278 (.pu (flP false false false)))]⟩ ?_ ?_
  · skip
    repeat refine Tri.seq ?_
    refine Tri.cond rfl (fun h0 => ?_) (fun h0 => ?_)
    · skip
      refine Tri.skip ?_
      refine le_of ?_ ?_
      · repeat (first | exact SubE.nil | refine SubE.cons rfl (by first | rfl | (rw [wrap64 (by omega) (by omega)]; rfl) | (simp only [*, Bool.true_or, Bool.or_true, Bool.false_or])) ?_)
      · repeat (first | exact SubH.nil | refine SubH.cons rfl (by first | rfl | (rw [wrap64 (by omega) (by omega)]; rfl) | (simp only [*, Bool.true_or, Bool.or_true, Bool.false_or])) ?_)
    · skip
      refine yR ?_
      refine yI ?_
      refine yA ?_
      refine e_seq ?_
      repeat refine Tri.seq ?_
      refine Tri.cond rfl (fun h1 => ?_) (fun h1 => ?_)
      · skip
        refine Tri.skip ?_
        refine le_of ?_ ?_
        · repeat (first | exact SubE.nil | refine SubE.cons rfl (by first | rfl | (rw [wrap64 (by omega) (by omega)]; rfl) | (simp only [*, Bool.true_or, Bool.or_true, Bool.false_or])) ?_)
        · repeat (first | exact SubH.nil | refine SubH.cons rfl (by first | rfl | (rw [wrap64 (by omega) (by omega)]; rfl) | (simp only [*, Bool.true_or, Bool.or_true, Bool.false_or])) ?_)
      · skip
        refine yR ?_
        refine yI ?_
        refine yA ?_
        refine e_seq ?_
        repeat refine Tri.seq ?_
        refine Tri.cond rfl (fun h2 => ?_) (fun h2 => ?_)
        · skip
          refine Tri.skip ?_
          refine le_of ?_ ?_
          · repeat (first | exact SubE.nil | refine SubE.cons rfl (by first | rfl | (rw [wrap64 (by omega) (by omega)]; rfl) | (simp only [*, Bool.true_or, Bool.or_true, Bool.false_or])) ?_)
          · repeat (first | exact SubH.nil | refine SubH.cons rfl (by first | rfl | (rw [wrap64 (by omega) (by omega)]; rfl) | (simp only [*, Bool.true_or, Bool.or_true, Bool.false_or])) ?_)
        · skip
          refine yR ?_
          refine yI ?_
          refine yA ?_
          refine e_seq ?_
          refine le_of ?_ ?_
          · repeat (first | exact SubE.nil | refine SubE.cons rfl (by first | rfl | (rw [wrap64 (by omega) (by omega)]; rfl) | (simp only [*, Bool.true_or, Bool.or_true, Bool.false_or])) ?_)
          · repeat (first | exact SubH.nil | refine SubH.cons rfl (by first | rfl | (rw [wrap64 (by omega) (by omega)]; rfl) | (simp only [*, Bool.true_or, Bool.or_true, Bool.false_or])) ?_)
  · skip
    repeat refine Tri.seq ?_
    refine Tri.cond rfl (fun h3 => ?_) (fun h3 => ?_)
    · skip
      refine yR ?_
      refine s_val (v_ixo SS) ?_
      refine yS ?_
      refine e_seq ?_
      refine yR ?_
      refine yL ?_
      refine yS ?_
      refine e_seq ?_
      repeat refine Tri.seq ?_
      exact Tri.ret ⟨.inr rfl, ret1 rfl resV_cell (flP_eq (by simp_all [hasNumM]; try omega) (by simp_all [hasRefM]; try omega) (by simp_all [hasCasesM]; try omega))⟩
    · skip
      refine yR ?_
      refine yI ?_
      refine yA ?_
      refine e_seq ?_
      repeat refine Tri.seq ?_
      refine Tri.cutT ⟨[(2, .ptr 2 [] 278), (3, .ptr 3 [] 278), (4, iv .i64 k), (11, bv (k == 8 || k == 11))], [(2, .var 278 (.pu (flP false false false))), (3, .var 278 (.pu (flP false false false)))]⟩ ?_ ?_
      · skip
        repeat refine Tri.seq ?_
        refine Tri.cond rfl (fun h4 => ?_) (fun h4 => ?_)
        · skip
          refine Tri.skip ?_
          refine le_of ?_ ?_
          · repeat (first | exact SubE.nil | refine SubE.cons rfl (by first | rfl | (rw [wrap64 (by omega) (by omega)]; rfl) | (simp only [*, Bool.true_or, Bool.or_true, Bool.false_or])) ?_)
          · repeat (first | exact SubH.nil | refine SubH.cons rfl (by first | rfl | (rw [wrap64 (by omega) (by omega)]; rfl) | (simp only [*, Bool.true_or, Bool.or_true, Bool.false_or])) ?_)
        · skip
          refine yR ?_
          refine yI ?_
          refine yA ?_
          refine e_seq ?_
          refine le_of ?_ ?_
          · repeat (first | exact SubE.nil | refine SubE.cons rfl (by first | rfl | (rw [wrap64 (by omega) (by omega)]; rfl) | (simp only [*, Bool.true_or, Bool.or_true, Bool.false_or])) ?_)
          · repeat (first | exact SubH.nil | refine SubH.cons rfl (by first | rfl | (rw [wrap64 (by omega) (by omega)]; rfl) | (simp only [*, Bool.true_or, Bool.or_true, Bool.false_or])) ?_)
      · skip
        repeat refine Tri.seq ?_
        refine Tri.cond rfl (fun h5 => ?_) (fun h5 => ?_)
        · skip
          refine yR ?_
          refine s_val (v_ixo SS) ?_
          refine yS ?_
          refine s_val (v_ixo SS) ?_
          refine yS ?_
          refine e_seq ?_
          refine yR ?_
          refine yL ?_
          refine yS ?_
          refine e_seq ?_
          repeat refine Tri.seq ?_
          exact Tri.ret ⟨.inr rfl, ret1 rfl resV_cell (flP_eq (by simp_all [hasNumM]; try omega) (by simp_all [hasRefM]; try omega) (by simp_all [hasCasesM]; try omega))⟩
        · skip
          refine yR ?_
          refine yI ?_
          refine yA ?_
          refine e_seq ?_
          repeat refine Tri.seq ?_
          refine Tri.cutT ⟨[(2, .ptr 2 [] 278), (3, .ptr 3 [] 278), (4, iv .i64 k), (16, bv (k == 6 || k == 12))], [(2, .var 278 (.pu (flP false false false))), (3, .var 278 (.pu (flP false false false)))]⟩ ?_ ?_
          · skip
            repeat refine Tri.seq ?_
            refine Tri.cond rfl (fun h6 => ?_) (fun h6 => ?_)
            · skip
              refine Tri.skip ?_
              refine le_of ?_ ?_
              · repeat (first | exact SubE.nil | refine SubE.cons rfl (by first | rfl | (rw [wrap64 (by omega) (by omega)]; rfl) | (simp only [*, Bool.true_or, Bool.or_true, Bool.false_or])) ?_)
              · repeat (first | exact SubH.nil | refine SubH.cons rfl (by first | rfl | (rw [wrap64 (by omega) (by omega)]; rfl) | (simp only [*, Bool.true_or, Bool.or_true, Bool.false_or])) ?_)
            · skip
              refine yR ?_
              refine yI ?_
              refine yA ?_
              refine e_seq ?_
              refine le_of ?_ ?_
              · repeat (first | exact SubE.nil | refine SubE.cons rfl (by first | rfl | (rw [wrap64 (by omega) (by omega)]; rfl) | (simp only [*, Bool.true_or, Bool.or_true, Bool.false_or])) ?_)
              · repeat (first | exact SubH.nil | refine SubH.cons rfl (by first | rfl | (rw [wrap64 (by omega) (by omega)]; rfl) | (simp only [*, Bool.true_or, Bool.or_true, Bool.false_or])) ?_)
          · skip
            repeat refine Tri.seq ?_
            refine Tri.cond rfl (fun h7 => ?_) (fun h7 => ?_)
            · skip
              refine yR ?_
              refine s_val (v_ixo SS) ?_
              refine yS ?_
              refine e_seq ?_
              refine yR ?_
              refine yL ?_
              refine yS ?_
              refine e_seq ?_
              repeat refine Tri.seq ?_
              exact Tri.ret ⟨.inr rfl, ret1 rfl resV_cell (flP_eq (by simp_all [hasNumM]; try omega) (by simp_all [hasRefM]; try omega) (by simp_all [hasCasesM]; try omega))⟩
            · skip
              refine yR ?_
              refine yI ?_
              refine yA ?_
              refine e_seq ?_
              repeat refine Tri.seq ?_
              refine Tri.cond rfl (fun h8 => ?_) (fun h8 => ?_)
              · skip
                refine yR ?_
                refine s_val (v_ixo SS) ?_
                refine yS ?_
                refine e_seq ?_
                refine yR ?_
                refine yL ?_
                refine yS ?_
                refine e_seq ?_
                repeat refine Tri.seq ?_
                exact Tri.ret ⟨.inr rfl, ret1 rfl resV_cell (flP_eq (by simp_all [hasNumM]; try omega) (by simp_all [hasRefM]; try omega) (by simp_all [hasCasesM]; try omega))⟩
              · skip
                refine Tri.skip ?_
                refine yR ?_
                refine yL ?_
                refine yS ?_
                refine e_seq ?_
                repeat refine Tri.seq ?_
                exact Tri.ret ⟨.inr rfl, ret1 rfl resV_cell (flP_eq (by simp_all [hasNumM]; try omega) (by simp_all [hasRefM]; try omega) (by simp_all [hasCasesM]; try omega))⟩
end Go.Proofs.YtkcgkignhpepkaaGreatDoor

/- The checker of terms, but for what is in them. -/
namespace Go.Proofs.YtkcgkignhpepkaaGreatDoor
open Go Hs
variable {G : List (Nat × TypeId × Pu)}

theorem patternFields_c (k : Int) : FCall Tryz.prog G 247 [iv .i64 k] (.pu (flP (k == 2 || k == 3) (k == 3) false)) := by
  refine FCall.of_tri tbl 11 Tryz.func247 rfl rfl rfl fun w0 M ρ0 D0 => ?_
  refine yR ?_
  refine s_alloc SS 2 ?_
  refine e_seqN [2] ?_
  refine yR ?_
  refine yM ?_
  refine e_seq ?_
  repeat refine Tri.seq ?_
  refine Tri.block ?_
  refine yR ?_
  refine yI ?_
  refine yA ?_
  refine e_seq ?_
  repeat refine Tri.seq ?_
  refine Tri.cond rfl (fun h0 => ?_) (fun h0 => ?_)
  · skip
    refine yR ?_
    refine yP ?_
    refine yS ?_
    refine e_seq ?_
    repeat refine Tri.seq ?_
    exact Tri.ret ⟨.inr rfl, ret1 rfl resV_cell (flP_eq (by simp_all) (by simp_all) rfl)⟩
  · skip
    refine yR ?_
    refine yI ?_
    refine yA ?_
    refine e_seq ?_
    repeat refine Tri.seq ?_
    refine Tri.cond rfl (fun h1 => ?_) (fun h1 => ?_)
    · skip
      refine yR ?_
      refine yP ?_
      refine yS ?_
      refine e_seq ?_
      repeat refine Tri.seq ?_
      exact Tri.ret ⟨.inr rfl, ret1 rfl resV_cell (flP_eq (by simp_all) (by simp_all) rfl)⟩
    · skip
      refine Tri.skip ?_
      refine yR ?_
      refine yT ?_
      refine yS ?_
      refine e_seq ?_
      repeat refine Tri.seq ?_
      exact Tri.ret ⟨.inr rfl, ret1 rfl resV_cell (flP_eq (by simp_all) (by simp_all) rfl)⟩

def kidsM (k n : Int) : Bool := if k == 3 || k == 9 || k == 11 then n == 1 else if k == 4 || k == 5 || k == 10 then n == 2 else if k == 8 then decide (n ≤ 4) else if k == 12 then !offM n 2 10 else n == 0
theorem kids_c (k n : Int) : FCall Tryz.prog G 238 [iv .i64 k, iv .i64 n] (bv (kidsM k n)) := by
  refine FCall.of_tri tbl 29 Tryz.func238 rfl rfl rfl fun w0 M ρ0 D0 => ?_
  refine yR ?_
  refine yB ?_
  refine e_seq ?_
  refine yR ?_
  refine yM ?_
  refine e_seq ?_
  repeat refine Tri.seq ?_
  refine Tri.block ?_
  refine yR ?_
  refine yI ?_
  refine yA ?_
  refine e_seq ?_
  repeat refine Tri.seq ?_
  refine Tri.cutT ⟨[(1, iv .i64 n), (5, iv .i64 k), (6, bv (k == 3 || k == 9 || k == 11))], []⟩ ?_ ?_
  · skip
    repeat refine Tri.seq ?_
    refine Tri.cond rfl (fun h0 => ?_) (fun h0 => ?_)
    · skip
      refine Tri.skip ?_
      refine le_of ?_ ?_
      · repeat (first | exact SubE.nil | refine SubE.cons rfl (by first | rfl | (rw [wrap64 (by omega) (by omega)]; rfl) | (simp only [*, Bool.true_or, Bool.or_true, Bool.false_or])) ?_)
      · repeat (first | exact SubH.nil | refine SubH.cons rfl (by first | rfl | (rw [wrap64 (by omega) (by omega)]; rfl) | (simp only [*, Bool.true_or, Bool.or_true, Bool.false_or])) ?_)
    · skip
      refine yR ?_
      refine yI ?_
      refine yA ?_
      refine e_seq ?_
      repeat refine Tri.seq ?_
      refine Tri.cond rfl (fun h1 => ?_) (fun h1 => ?_)
      · skip
        refine Tri.skip ?_
        refine le_of ?_ ?_
        · repeat (first | exact SubE.nil | refine SubE.cons rfl (by first | rfl | (rw [wrap64 (by omega) (by omega)]; rfl) | (simp only [*, Bool.true_or, Bool.or_true, Bool.false_or])) ?_)
        · repeat (first | exact SubH.nil | refine SubH.cons rfl (by first | rfl | (rw [wrap64 (by omega) (by omega)]; rfl) | (simp only [*, Bool.true_or, Bool.or_true, Bool.false_or])) ?_)
      · skip
        refine yR ?_
        refine yI ?_
        refine yA ?_
        refine e_seq ?_
        refine le_of ?_ ?_
        · repeat (first | exact SubE.nil | refine SubE.cons rfl (by first | rfl | (rw [wrap64 (by omega) (by omega)]; rfl) | (simp only [*, Bool.true_or, Bool.or_true, Bool.false_or])) ?_)
        · repeat (first | exact SubH.nil | refine SubH.cons rfl (by first | rfl | (rw [wrap64 (by omega) (by omega)]; rfl) | (simp only [*, Bool.true_or, Bool.or_true, Bool.false_or])) ?_)
  · skip
    repeat refine Tri.seq ?_
    refine Tri.cond rfl (fun h2 => ?_) (fun h2 => ?_)
    · skip
      refine yR ?_
      refine yM ?_
      refine yI ?_
      refine yA ?_
      refine e_seq ?_
      repeat refine Tri.seq ?_
      exact Tri.ret ⟨.inr rfl, ret1 rfl resV_tmp (bv_imp (by simp_all [kidsM]))⟩
    · skip
      refine yR ?_
      refine yI ?_
      refine yA ?_
      refine e_seq ?_
      repeat refine Tri.seq ?_
      refine Tri.cutT ⟨[(1, iv .i64 n), (5, iv .i64 k), (12, bv (k == 4 || k == 5 || k == 10))], []⟩ ?_ ?_
      · skip
        repeat refine Tri.seq ?_
        refine Tri.cond rfl (fun h3 => ?_) (fun h3 => ?_)
        · skip
          refine Tri.skip ?_
          refine le_of ?_ ?_
          · repeat (first | exact SubE.nil | refine SubE.cons rfl (by first | rfl | (rw [wrap64 (by omega) (by omega)]; rfl) | (simp only [*, Bool.true_or, Bool.or_true, Bool.false_or])) ?_)
          · repeat (first | exact SubH.nil | refine SubH.cons rfl (by first | rfl | (rw [wrap64 (by omega) (by omega)]; rfl) | (simp only [*, Bool.true_or, Bool.or_true, Bool.false_or])) ?_)
        · skip
          refine yR ?_
          refine yI ?_
          refine yA ?_
          refine e_seq ?_
          repeat refine Tri.seq ?_
          refine Tri.cond rfl (fun h4 => ?_) (fun h4 => ?_)
          · skip
            refine Tri.skip ?_
            refine le_of ?_ ?_
            · repeat (first | exact SubE.nil | refine SubE.cons rfl (by first | rfl | (rw [wrap64 (by omega) (by omega)]; rfl) | (simp only [*, Bool.true_or, Bool.or_true, Bool.false_or])) ?_)
            · repeat (first | exact SubH.nil | refine SubH.cons rfl (by first | rfl | (rw [wrap64 (by omega) (by omega)]; rfl) | (simp only [*, Bool.true_or, Bool.or_true, Bool.false_or])) ?_)
          · skip
            refine yR ?_
            refine yI ?_
            refine yA ?_
            refine e_seq ?_
            refine le_of ?_ ?_
            · repeat (first | exact SubE.nil | refine SubE.cons rfl (by first | rfl | (rw [wrap64 (by omega) (by omega)]; rfl) | (simp only [*, Bool.true_or, Bool.or_true, Bool.false_or])) ?_)
            · repeat (first | exact SubH.nil | refine SubH.cons rfl (by first | rfl | (rw [wrap64 (by omega) (by omega)]; rfl) | (simp only [*, Bool.true_or, Bool.or_true, Bool.false_or])) ?_)
      · skip
        repeat refine Tri.seq ?_
        refine Tri.cond rfl (fun h5 => ?_) (fun h5 => ?_)
        · skip
          refine yR ?_
          refine yM ?_
          refine yI ?_
          refine yA ?_
          refine e_seq ?_
          repeat refine Tri.seq ?_
          exact Tri.ret ⟨.inr rfl, ret1 rfl resV_tmp (bv_imp (by simp_all [kidsM]))⟩
        · skip
          refine yR ?_
          refine yI ?_
          refine yA ?_
          refine e_seq ?_
          repeat refine Tri.seq ?_
          refine Tri.cond rfl (fun h6 => ?_) (fun h6 => ?_)
          · skip
            refine yR ?_
            refine yM ?_
            refine yI ?_
            refine yA ?_
            refine e_seq ?_
            repeat refine Tri.seq ?_
            exact Tri.ret ⟨.inr rfl, ret1 rfl resV_tmp (bv_imp (by simp_all [kidsM]))⟩
          · skip
            refine yR ?_
            refine yI ?_
            refine yA ?_
            refine e_seq ?_
            repeat refine Tri.seq ?_
            refine Tri.cond rfl (fun h7 => ?_) (fun h7 => ?_)
            · skip
              refine yR ?_
              refine yM ?_
              refine s_val (v_callD (fun _ => off_c n 2 10)) ?_
              refine yQ ?_
              refine yA ?_
              refine e_seq ?_
              repeat refine Tri.seq ?_
              exact Tri.ret ⟨.inr rfl, ret1 rfl resV_tmp (bv_imp (by simp_all [kidsM]))⟩
            · skip
              refine Tri.skip ?_
              refine yR ?_
              refine yM ?_
              refine yI ?_
              refine yA ?_
              refine e_seq ?_
              repeat refine Tri.seq ?_
              exact Tri.ret ⟨.inr rfl, ret1 rfl resV_tmp (bv_imp (by simp_all [kidsM]))⟩

def clashM (a b c : Bool) (num : Int) (ref : List Int) (cases : Int) : Bool := (num != 0 && !a) || (!(ref == Z32) && !b) || (decide (cases > 0) && !c)

theorem flag_cond (a b c a' b' c' : Bool) : Tryz.prog.eqGuardType Tryz.prog.depth 278 = false ∧ 278 < Tryz.prog.types.size ∧ tyP Tryz.prog 278 (flP a b c) = true ∧ tyP Tryz.prog 278 (flP a' b' c') = true :=
  ⟨by kernel_rfl, of_decide_eq_true (by kernel_rfl), (show tyV Tryz.prog 278 (.pu (flP a b c)) = true from TyV.ok), (show tyV Tryz.prog 278 (.pu (flP a' b' c')) = true from TyV.ok)⟩
theorem peq_flag (d : Nat) (a b c a' b' c' : Bool) : peqT Tryz.prog (d + 2) 278 (flP a b c) (flP a' b' c') = some ((a == a') && ((b == b') && ((c == c') && true))) := by
  have hu : Tryz.prog.underlying 278 = some (.array 3 4) := by kernel_rfl
  have hb : Tryz.prog.underlying 4 = some .bool := by kernel_rfl
  unfold flP
  simp only [peqT, hu, peqL, hb]
theorem bin_neF (a b c a' b' c' : Bool) : binV Tryz.prog .neq 278 (.pu (flP a b c)) (.pu (flP a' b' c')) = some (bv (!((a == a') && ((b == b') && ((c == c') && true))))) := by
  have h1 := flag_cond a b c a' b' c'
  have h2 := fun e => peq_flag e a b c a' b' c'
  unfold flP at h1 h2 ⊢
  simp only [binV, if_pos h1]
  generalize hd : (100 : Nat) = d
  obtain ⟨e, rfl⟩ : ∃ e, d = e + 2 := ⟨98, by omega⟩
  rw [h2 e]

def flList (a b c : Bool) : List Bool := [a, b, c]
theorem clash_c (a b c : Bool) (num : Int) (ref : List Int) (cases : Int) : FCall Tryz.prog G 236 [.pu (flP a b c), iv .i64 num, .pu (refP ref), iv .i64 cases] (bv (clashM a b c num ref cases)) := by
  refine FCall.of_tri tbl 38 Tryz.func236 rfl rfl rfl fun w0 M ρ0 D0 => ?_
  refine Tri.fact (i := 2) rfl (fun D w x h => ref_len h) (fun hr => ?_)
  refine yR ?_
  refine s_box SS 4 ?_
  refine s_box SS 6 ?_
  refine yB ?_
  refine e_seqN [4, 6] ?_
  refine yR ?_
  refine yM ?_
  refine yI ?_
  refine yL ?_
  refine yT ?_
  refine s_val (v_bin SS (h := bin_neS (by rw [hr]; rfl))) ?_
  refine yM ?_
  refine yI ?_
  refine yP ?_
  refine s_alloc SS 9 ?_
  refine yS ?_
  refine e_seqN [9] ?_
  refine yR ?_
  refine yL ?_
  refine s_alloc SS 10 ?_
  refine yS ?_
  refine e_seqN [10] ?_
  refine yR ?_
  refine yJ ?_
  refine e_seq ?_
  repeat refine Tri.seq ?_
  refine Tri.block (Tri.loopW (σ := Nat) (fun i => ⟨[(4, .ptr 4 [] 278), (9, .ptr 9 [] 278), (10, .ptr 10 [] 278), (21, iv .i64 i)], [(4, .var 278 (.pu (flP a b c))), (9, .var 278 (.pu (flP (num != 0) (!(ref == Z32)) (decide (cases > 0))))), (10, .var 278 (.pu (flP (if 0 < i then num != 0 && a else num != 0) (if 1 < i then !(ref == Z32) && b else !(ref == Z32)) (if 2 < i then decide (cases > 0) && c else decide (cases > 0)))))]⟩) (fun i => 3 - i) 0 ?_ ?_ (fun i => ?_))
  · exact zW
  · exact zW
  refine yR ?_
  refine yI ?_
  refine e_seq ?_
  repeat refine Tri.seq ?_
  refine Tri.cond rfl (fun h0 => ?_) (fun h0 => ?_)
  · skip
    have hi : i < 3 := by have := of_decide_eq_true h0; omega
    obtain ⟨j, hj⟩ : ∃ j, j = i + 1 := ⟨_, rfl⟩
    obtain rfl | rfl | rfl : i = 0 ∨ i = 1 ∨ i = 2 := by omega
    all_goals
      refine Tri.skip ?_
      repeat refine Tri.seq ?_
      refine Tri.block ?_
      refine yR ?_
      refine yM ?_
      refine yA ?_
      refine e_seq ?_
      refine yR ?_
      refine yM ?_
      refine yM ?_
      refine s_val (v_ixo SS) ?_
      refine yL ?_
      refine yM ?_
      refine xM ?_
      refine s_gg zG (v_ixo SS) ?_
      refine xL ?_
      refine yN ?_
      refine s_val (v_ixo SS) ?_
      refine yS ?_
      refine e_seq ?_
      refine yR ?_
      refine yI ?_
      refine yM ?_
      refine e_seq ?_
      refine ⟨j, by omega, le_of ?_ ?_⟩
      · repeat (first | exact SubE.nil | refine SubE.cons rfl (by first | rfl | (rw [wrap64 (by omega) (by omega)]; rfl) | (subst hj; rfl)) ?_)
      · repeat (first | exact SubH.nil | refine SubH.cons rfl (by first | rfl | (rw [wrap64 (by omega) (by omega)]; rfl) | (subst hj; rfl)) ?_)
  · skip
    have hi : 3 ≤ i := by have := of_decide_eq_false h0; omega
    refine Tri.exit ?_
    refine yR ?_
    refine yL ?_
    refine yL ?_
    refine s_val (v_bin SS (h := bin_neF _ _ _ _ _ _)) ?_
    refine yA ?_
    refine e_seq ?_
    repeat refine Tri.seq ?_
    exact Tri.ret ⟨.inr rfl, ret1 rfl resV_tmp (bv_imp (by rw [if_pos (by omega), if_pos (by omega), if_pos (by omega)]; unfold clashM; generalize (num != 0) = p; generalize (ref == Z32) = q; generalize decide (cases > 0) = s; cases p <;> cases q <;> cases s <;> cases a <;> cases b <;> cases c <;> rfl))⟩

def patErr (k num : Int) (ref : List Int) (n : Int) : Int :=
  if offM k 1 3 then 3 else if clashM (k == 2 || k == 3) (k == 3) false num ref 0 then 7 else if decide (n > (if k == 3 then 4 else 0)) then 2
  else if (k == 2 && offM num 0 1073741824) || (k == 3 && offM num 0 7) then 3 else 0

theorem patternError_c (k n : Int) (r : List Int) (ks : List Pat) : FCall Tryz.prog G 239 [.pu (patc 0 (.mk k n r ks))] (iv .i64 (patErr k n r ks.length)) := by
  refine FCall.of_tri tbl 43 Tryz.func239 rfl rfl rfl fun w0 M ρ0 D0 => ?_
  refine yR ?_
  refine s_box SS 1 ?_
  refine yB ?_
  refine e_seqN [1] ?_
  refine yR ?_
  refine yB ?_
  refine e_seq ?_
  refine yR ?_
  refine yF ?_
  refine yL ?_
  refine yI ?_
  refine e_seq ?_
  repeat refine Tri.seq ?_
  refine Tri.cutT ⟨[(1, .ptr 1 [] 104), (3, iv .i64 (if k == 3 then 4 else 0))], [(1, .var 104 (.pu (patc 0 (.mk k n r ks))))]⟩ ?_ ?_
  · skip
    repeat refine Tri.seq ?_
    refine Tri.cond rfl (fun h0 => ?_) (fun h0 => ?_)
    · skip
      refine yR ?_
      refine yB ?_
      refine e_seq ?_
      refine le_of ?_ ?_
      · repeat (first | exact SubE.nil | refine SubE.cons rfl (by first | rfl | (rw [wrap64 (by omega) (by omega)]; rfl) | (rw [h0]; rfl)) ?_)
      · repeat (first | exact SubH.nil | refine SubH.cons rfl (by first | rfl | (rw [wrap64 (by omega) (by omega)]; rfl) | (rw [h0]; rfl)) ?_)
    · skip
      refine Tri.skip ?_
      refine le_of ?_ ?_
      · repeat (first | exact SubE.nil | refine SubE.cons rfl (by first | rfl | (rw [wrap64 (by omega) (by omega)]; rfl) | (rw [h0]; rfl)) ?_)
      · repeat (first | exact SubH.nil | refine SubH.cons rfl (by first | rfl | (rw [wrap64 (by omega) (by omega)]; rfl) | (rw [h0]; rfl)) ?_)
  · skip
    repeat refine Tri.seq ?_
    refine Tri.block ?_
    refine yR ?_
    refine yF ?_
    refine yL ?_
    refine s_val (v_callD (fun _ => off_c k 1 3)) ?_
    refine yA ?_
    refine e_seq ?_
    repeat refine Tri.seq ?_
    refine Tri.cond rfl (fun h1 => ?_) (fun h1 => ?_)
    · skip
      refine yR ?_
      refine yB ?_
      refine e_seq ?_
      repeat refine Tri.seq ?_
      exact Tri.ret ⟨.inr rfl, ret1 rfl resV_tmp (iv_imp (by (try rw [pats_length] at h3); unfold patErr; (repeat' split) <;> simp_all <;> omega))⟩
    · skip
      refine yR ?_
      refine yF ?_
      refine yL ?_
      refine s_val (v_callD (fun _ => patternFields_c k)) ?_
      refine yF ?_
      refine yL ?_
      refine yF ?_
      refine yL ?_
      refine s_val (v_callD (fun _ => clash_c (k == 2 || k == 3) (k == 3) false n r 0)) ?_
      refine yA ?_
      refine e_draw ?_
      repeat refine Tri.seq ?_
      refine Tri.cond rfl (fun h2 => ?_) (fun h2 => ?_)
      · skip
        refine yR ?_
        refine yB ?_
        refine e_seq ?_
        repeat refine Tri.seq ?_
        exact Tri.ret ⟨.inr rfl, ret1 rfl resV_tmp (iv_imp (by (try rw [pats_length] at h3); unfold patErr; (repeat' split) <;> simp_all <;> omega))⟩
      · skip
        refine yR ?_
        refine yF ?_
        refine yK ?_
        refine yC ?_
        refine yM ?_
        refine yI ?_
        refine yA ?_
        refine e_seq ?_
        repeat refine Tri.seq ?_
        refine Tri.cond rfl (fun h3 => ?_) (fun h3 => ?_)
        · skip
          refine yR ?_
          refine yB ?_
          refine e_seq ?_
          repeat refine Tri.seq ?_
          exact Tri.ret ⟨.inr rfl, ret1 rfl resV_tmp (iv_imp (by (try rw [pats_length] at h3); unfold patErr; (repeat' split) <;> simp_all <;> omega))⟩
        · skip
          refine yR ?_
          refine yF ?_
          refine yL ?_
          refine yI ?_
          refine yM ?_
          refine xF ?_
          refine xL ?_
          refine s_gg zG (v_callD (fun _ => off_c n 0 1073741824)) ?_
          refine yN ?_
          refine yA ?_
          refine e_seq ?_
          repeat refine Tri.seq ?_
          refine Tri.cond rfl (fun h4 => ?_) (fun h4 => ?_)
          · skip
            refine Tri.skip ?_
            repeat refine Tri.seq ?_
            refine Tri.cond rfl (fun h5 => ?_) (fun h5 => ?_)
            · skip
              refine yR ?_
              refine yB ?_
              refine e_seq ?_
              repeat refine Tri.seq ?_
              exact Tri.ret ⟨.inr rfl, ret1 rfl resV_tmp (iv_imp (by (try rw [pats_length] at h3); unfold patErr; (repeat' split) <;> simp_all <;> omega))⟩
            · skip
              refine Tri.skip ?_
              refine yR ?_
              refine yB ?_
              refine e_seq ?_
              repeat refine Tri.seq ?_
              exact Tri.ret ⟨.inr rfl, ret1 rfl resV_tmp (iv_imp (by (try rw [pats_length] at h3); unfold patErr; (repeat' split) <;> simp_all <;> omega))⟩
          · skip
            refine yR ?_
            refine yF ?_
            refine yL ?_
            refine yI ?_
            refine yM ?_
            refine xF ?_
            refine xL ?_
            refine s_gg zG (v_callD (fun _ => off_c n 0 7)) ?_
            refine yN ?_
            refine yA ?_
            refine e_seq ?_
            repeat refine Tri.seq ?_
            refine Tri.cond rfl (fun h5 => ?_) (fun h5 => ?_)
            · skip
              refine yR ?_
              refine yB ?_
              refine e_seq ?_
              repeat refine Tri.seq ?_
              exact Tri.ret ⟨.inr rfl, ret1 rfl resV_tmp (iv_imp (by (try rw [pats_length] at h3); unfold patErr; (repeat' split) <;> simp_all <;> omega))⟩
            · skip
              refine Tri.skip ?_
              refine yR ?_
              refine yB ?_
              refine e_seq ?_
              repeat refine Tri.seq ?_
              exact Tri.ret ⟨.inr rfl, ret1 rfl resV_tmp (iv_imp (by (try rw [pats_length] at h3); unfold patErr; (repeat' split) <;> simp_all <;> omega))⟩
end Go.Proofs.YtkcgkignhpepkaaGreatDoor

/- The errors of patterns, and of a term by itself. -/
namespace Go.Proofs.YtkcgkignhpepkaaGreatDoor
open Go Hs
variable {G : List (Nat × TypeId × Pu)}

/-- The first error of a list. -/
def firstE {α : Type} (f : α → Int) : List α → Int
  | [] => 0
  | a :: l => if f a = 0 then firstE f l else f a
theorem firstE_take {α : Type} (f : α → Int) : ∀ {l : List α} {i : Nat} (h : i < l.length), firstE f (l.take (i + 1)) = if firstE f (l.take i) = 0 then f l[i] else firstE f (l.take i)
  | a :: l, 0, _ => by
    simp only [List.take_zero, List.take_succ_cons, firstE, List.getElem_cons_zero, if_true]
    split <;> simp_all
  | a :: l, i + 1, h => by
    have ih := firstE_take f (l := l) (i := i) (by simpa using h)
    simp only [List.take_succ_cons, firstE, List.getElem_cons_succ]
    split
    · exact ih
    · rfl
theorem firstE_pre {α : Type} (f : α → Int) : ∀ {l : List α} {i : Nat}, firstE f (l.take i) ≠ 0 → firstE f l = firstE f (l.take i)
  | [], i, h => by simp [firstE] at h
  | a :: l, 0, h => by simp [firstE] at h
  | a :: l, i + 1, h => by
    simp only [List.take_succ_cons, firstE] at h ⊢
    split
    · rename_i h0
      rw [if_pos h0] at h
      exact firstE_pre f h
    · rfl
mutual
def perr : Pat → Int
  | .mk k n r ks => if patErr k n r ks.length = 0 then perrL ks else patErr k n r ks.length
def perrL : List Pat → Int
  | [] => 0
  | p :: ps => if perr p = 0 then perrL ps else perr p
end
theorem perrL_eq : ∀ ks, perrL ks = firstE perr ks
  | [] => rfl
  | p :: ps => by simp only [perrL, firstE, perrL_eq ps]

theorem wk0 (x : Int) (ks : List Pat) : Wk (iv .i64 x) (iv .i64 (if x = 0 then firstE perr (ks.take 0) else x)) := by
  have e : (if x = 0 then firstE perr (ks.take 0) else x) = x := by split <;> simp_all [firstE]
  rw [e]
  exact .refl

theorem patternsError_c : ∀ (N : Nat) (p : Pat), psize p ≤ N → N < 2^40 → FCall Tryz.prog G 201 [.pu (patc 0 p)] (iv .i64 (perr p)) := by
  intro N
  induction N with
  | zero => intro p h; cases p; simp [psize] at h
  | succ N ih =>
  intro p hp hN
  obtain ⟨k, n, r, ks⟩ := p
  simp only [psize] at hp
  have hlen := length_psizeL ks
  refine FCall.of_tri tbl 25 Tryz.func201 rfl rfl rfl fun w0 M ρ0 D0 => ?_
  refine yR ?_
  refine s_box SS 1 ?_
  refine yB ?_
  refine e_seqN [1] ?_
  refine yR ?_
  refine yL ?_
  refine s_val (v_callD (fun _ => patternError_c k n r ks)) ?_
  refine yA ?_
  refine e_seq ?_
  refine yR ?_
  refine yB ?_
  refine e_seq ?_
  repeat refine Tri.seq ?_
  refine Tri.block (Tri.loopW (σ := Nat) (fun i => ⟨[(1, .ptr 1 [] 104), (4, iv .i64 i), (3, iv .i64 (if patErr k n r ks.length = 0 then firstE perr (ks.take i) else patErr k n r ks.length))], [(1, .var 104 (.pu (patc 0 (.mk k n r ks))))]⟩) (fun i => ks.length - i) 0 ?_ ?_ (fun i => ?_))
  · repeat (first | exact .nil | refine .cons rfl (by first | exact .refl | (focus ((repeat constructor); done)) | (exact wk0 _ _)) ?_)
  · repeat (first | exact .nil | refine .cons rfl (by first | exact .refl | (focus ((repeat constructor); done)) | (exact wk0 _ _)) ?_)
  refine yR ?_
  refine yM ?_
  refine yF ?_
  refine yK ?_
  refine yC ?_
  refine yI ?_
  refine yM ?_
  refine xM ?_
  refine xI ?_
  refine yN ?_
  refine e_seq ?_
  repeat refine Tri.seq ?_
  refine Tri.cond rfl (fun h0 => ?_) (fun h0 => ?_)
  · skip
    simp only [Bool.and_eq_true, decide_eq_true_eq, beq_iff_eq] at h0
    obtain ⟨h0, he⟩ := h0
    have hi : i < ks.length := by rw [pats_length] at h0; omega
    have he0 : patErr k n r ks.length = 0 := by split at he <;> simp_all
    rw [if_pos he0] at he
    refine Tri.skip ?_
    repeat refine Tri.seq ?_
    refine Tri.block ?_
    refine yR ?_
    refine yF ?_
    refine yK ?_
    refine yM ?_
    refine s_val (v_index SS (h0 := by omega) (hp := pats_get hi)) ?_
    refine yL ?_
    refine s_val (v_callD (fun _ => ih ks[i] (by have := psizeL_get hi; omega) (by omega))) ?_
    refine yA ?_
    refine e_seq ?_
    refine yR ?_
    refine yM ?_
    refine yI ?_
    refine yA ?_
    refine e_seq ?_
    refine ⟨i + 1, by omega, le_of ?_ ?_⟩
    · repeat (first | exact SubE.nil | refine SubE.cons rfl (by first | rfl | (rw [wrap64 (by omega) (by omega)]; rfl) | (rw [if_pos he0, firstE_take perr hi, if_pos he])) ?_)
    · repeat (first | exact SubH.nil | refine SubH.cons rfl (by first | rfl | (rw [wrap64 (by omega) (by omega)]; rfl) | (rw [if_pos he0, firstE_take perr hi, if_pos he])) ?_)
  · skip
    have hfin : (if patErr k n r ks.length = 0 then firstE perr (ks.take i) else patErr k n r ks.length) = perr (.mk k n r ks) := by
      simp only [perr, perrL_eq]
      split
      · rename_i he0
        by_cases hz : firstE perr (ks.take i) = 0
        · rw [he0, if_pos rfl, hz] at h0
          simp only [pats_length] at h0
          rw [List.take_of_length_le (by simp at h0; omega)]
        · rw [firstE_pre perr hz]
      · rfl
    refine Tri.exit ?_
    refine yR ?_
    refine yM ?_
    refine yA ?_
    refine e_seq ?_
    repeat refine Tri.seq ?_
    exact Tri.ret ⟨.inr rfl, ret1 rfl resV_tmp (iv_imp hfin)⟩
end Go.Proofs.YtkcgkignhpepkaaGreatDoor

