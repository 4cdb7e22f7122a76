/- Part 4 of the proof: lemmas on walks and the walks of the functions, in their order. -/
import Derived.Test.YtkcgkignhpepkaaGreatDoorW3
import Derived.Test.YtkcgkignhpepkaaGreatDoorProg
set_option linter.unusedSimpArgs false
set_option linter.unusedVariables false
set_option linter.unusedSectionVars false
set_option linter.constructorNameAsVariable false
/- Terms and patterns as trees, and how they stand in memory. -/
namespace Go.Proofs.YtkcgkignhpepkaaGreatDoor
open Go Hs
inductive Pat where
 | mk (kind num : Int) (ref : List Int) (kids : List Pat)
mutual
inductive Tm where
 | mk (kind num : Int) (ref : List Int) (kids : List Tm) (cases : List Cs)
inductive Cs where
 | mk (pat : Pat) (body : Tm)
end
def refP (r : List Int) : Pu := .agg 28 (r.map fun n => .leaf (.int .u8 n))
def Z32 : List Int := List.replicate 32 0
mutual
def patc (lo : Nat) : Pat → Pu
 | .mk k n r ks => .agg 104 [.leaf (.int .i64 k), .leaf (.int .i64 n), refP r, .sl lo 104 (patsc lo ks)]
def patsc (lo : Nat) : List Pat → List Pu
 | [] => []
 | p :: ps => patc lo p :: patsc lo ps
end
mutual
def tmc (lo : Nat) : Tm → Pu
 | .mk k n r ks cs => .agg 32 [.leaf (.int .i64 k), .leaf (.int .i64 n), refP r, .sl lo 32 (tmsc lo ks), .sl lo 106 (cssc lo cs)]
def tmsc (lo : Nat) : List Tm → List Pu
 | [] => []
 | t :: ts => tmc lo t :: tmsc lo ts
def csec (lo : Nat) : Cs → Pu
 | .mk p t => .agg 106 [patc lo p, tmc lo t]
def cssc (lo : Nat) : List Cs → List Pu
 | [] => []
 | c :: cs => csec lo c :: cssc lo cs
end
variable {lo : Nat}
theorem pats_eq : ∀ ks, patsc lo ks = ks.map (patc lo)
 | [] => rfl
 | p :: ps => by simp [patsc, pats_eq ps]
theorem tms_eq : ∀ ks, tmsc lo ks = ks.map (tmc lo)
 | [] => rfl
 | p :: ps => by simp [tmsc, tms_eq ps]
theorem css_eq : ∀ ks, cssc lo ks = ks.map (csec lo)
 | [] => rfl
 | p :: ps => by simp [cssc, css_eq ps]
mutual
theorem patc_low {l m : Nat} (h : m ≤ l) : ∀ p, Low (patc l p) (patc m p)
 | .mk _ _ _ ks => .agg (.cons .refl (.cons .refl (.cons .refl (.cons (.sl h (patsc_low h ks)) .nil))))
theorem patsc_low {l m : Nat} (h : m ≤ l) : ∀ ps, Lows (patsc l ps) (patsc m ps)
 | [] => .nil
 | p :: ps => .cons (patc_low h p) (patsc_low h ps)
end
mutual
theorem tmc_low {l m : Nat} (h : m ≤ l) : ∀ t, Low (tmc l t) (tmc m t)
 | .mk _ _ _ ks cs => .agg (.cons .refl (.cons .refl (.cons .refl (.cons (.sl h (tmsc_low h ks)) (.cons (.sl h (cssc_low h cs)) .nil)))))
theorem tmsc_low {l m : Nat} (h : m ≤ l) : ∀ ts, Lows (tmsc l ts) (tmsc m ts)
 | [] => .nil
 | t :: ts => .cons (tmc_low h t) (tmsc_low h ts)
theorem csec_low {l m : Nat} (h : m ≤ l) : ∀ c, Low (csec l c) (csec m c)
 | .mk p t => .agg (.cons (patc_low h p) (.cons (tmc_low h t) .nil))
theorem cssc_low {l m : Nat} (h : m ≤ l) : ∀ cs, Lows (cssc l cs) (cssc m cs)
 | [] => .nil
 | c :: cs => .cons (csec_low h c) (cssc_low h cs)
end
theorem tm_imp {P : Program} (t : Tm) : VImp P (.pu (tmc lo t)) (.pu (tmc 0 t)) := (tmc_low (Nat.zero_le _) t).imp
theorem pats_get {ks : List Pat} {i : Nat} (h : i < ks.length) : (patsc lo ks)[i]? = some (patc lo ks[i]) := by simp [pats_eq, h]
theorem tms_get {ks : List Tm} {i : Nat} (h : i < ks.length) : (tmsc lo ks)[i]? = some (tmc lo ks[i]) := by simp [tms_eq, h]
theorem css_get {ks : List Cs} {i : Nat} (h : i < ks.length) : (cssc lo ks)[i]? = some (csec lo ks[i]) := by simp [css_eq, h]
theorem pats_length (ks : List Pat) : (patsc lo ks).length = ks.length := by simp [pats_eq]
theorem tms_length (ks : List Tm) : (tmsc lo ks).length = ks.length := by simp [tms_eq]
theorem css_length (ks : List Cs) : (cssc lo ks).length = ks.length := by simp [css_eq]
mutual
def psize : Pat → Nat
 | .mk _ _ _ ks => 1 + psizeL ks
def psizeL : List Pat → Nat
 | [] => 0
 | p :: ps => psize p + psizeL ps
end
mutual
def tsize : Tm → Nat
 | .mk _ _ _ ks cs => 1 + tsizeL ks + csizeL cs
def tsizeL : List Tm → Nat
 | [] => 0
 | t :: ts => tsize t + tsizeL ts
def csize : Cs → Nat
 | .mk p t => psize p + tsize t
def csizeL : List Cs → Nat
 | [] => 0
 | c :: cs => csize c + csizeL cs
end
theorem psize_pos (p : Pat) : 1 ≤ psize p := by cases p; simp [psize]
theorem tsize_pos (t : Tm) : 1 ≤ tsize t := by cases t; simp [tsize]; omega
theorem csize_pos (c : Cs) : 1 ≤ csize c := by cases c with | mk p t => have := psize_pos p; simp [csize]; omega
theorem psizeL_get : ∀ {ks : List Pat} {i : Nat} (h : i < ks.length), psize ks[i] ≤ psizeL ks
 | p :: ps, 0, _ => by simp [psizeL]
 | p :: ps, i + 1, h => by
  have := psizeL_get (ks := ps) (i := i) (by simpa using h)
  simp [psizeL]; omega
theorem tsizeL_get : ∀ {ks : List Tm} {i : Nat} (h : i < ks.length), tsize ks[i] ≤ tsizeL ks
 | p :: ps, 0, _ => by simp [tsizeL]
 | p :: ps, i + 1, h => by
  have := tsizeL_get (ks := ps) (i := i) (by simpa using h)
  simp [tsizeL]; omega
theorem csizeL_get : ∀ {ks : List Cs} {i : Nat} (h : i < ks.length), csize ks[i] ≤ csizeL ks
 | p :: ps, 0, _ => by simp [csizeL]
 | p :: ps, i + 1, h => by
  have := csizeL_get (ks := ps) (i := i) (by simpa using h)
  simp [csizeL]; omega
theorem length_psizeL : ∀ (ks : List Pat), ks.length ≤ psizeL ks
 | [] => by simp [psizeL]
 | p :: ps => by
  have := length_psizeL ps
  have := psize_pos p
  simp [psizeL]; omega
theorem length_tsizeL : ∀ (ks : List Tm), ks.length ≤ tsizeL ks
 | [] => by simp [tsizeL]
 | p :: ps => by
  have := length_tsizeL ps
  have := tsize_pos p
  simp [tsizeL]; omega
theorem length_csizeL : ∀ (ks : List Cs), ks.length ≤ csizeL ks
 | [] => by simp [csizeL]
 | p :: ps => by
  have := length_csizeL ps
  have := csize_pos p
  simp [csizeL]; omega
theorem psizeL_take : ∀ {ks : List Pat} {i : Nat}, psizeL (ks.take i) ≤ psizeL ks
 | [], i => by simp [psizeL]
 | p :: ps, 0 => by simp [psizeL]
 | p :: ps, i + 1 => by
  have := psizeL_take (ks := ps) (i := i)
  simp [psizeL]; omega
theorem tsizeL_take : ∀ {ks : List Tm} {i : Nat}, tsizeL (ks.take i) ≤ tsizeL ks
 | [], i => by simp [tsizeL]
 | p :: ps, 0 => by simp [tsizeL]
 | p :: ps, i + 1 => by
  have := tsizeL_take (ks := ps) (i := i)
  simp [tsizeL]; omega
theorem tbl : tableOk Tryz.prog = true := by kernel_rfl
theorem mixed : Tryz.prog.follows .mixedOrders = true := by kernel_rfl
noncomputable def SS : Seat Tryz.prog := Seat.auto [] tbl
theorem zG {p : Prop} (h : p := by first | exact Guard.T rfl rfl rfl | exact Guard.F rfl rfl rfl | exact Guard.gT rfl rfl rfl | exact Guard.gF rfl rfl rfl) : p := h
theorem yM {n g : Prop} (c : n) (h : n → g := by exact fun c => s_move SS c) : g := h c
theorem yL {n g : Prop} (c : n) (h : n → g := by first | exact fun c => s_val (v_load SS) c | exact fun c => s_val (v_loadp SS) c) : g := h c
theorem yI {n g : Prop} (c : n) (h : n → g := by exact fun c => s_val (v_int SS) c) : g := h c
theorem yA {n g : Prop} (c : n) (h : n → g := by first | exact fun c => s_assignOw c | exact fun c => s_val (v_assign SS) c) : g := h c
theorem yF {n g : Prop} (c : n) (h : n → g := by first | exact fun c => s_val (v_field SS) c | exact fun c => s_val (v_fieldp SS) c) : g := h c
theorem yB {n g : Prop} (c : n) (h : n → g := by exact fun c => s_val (v_assign SS) c) : g := h c
theorem yS {n g : Prop} (c : n) (h : n → g := by exact fun c => s_store SS c) : g := h c
theorem xL {n g : Prop} (c : n) (h : n → g := by first | exact fun c => s_gg zG (v_load SS) c | exact fun c => s_gg zG (v_loadp SS) c) : g := h c
theorem xF {n g : Prop} (c : n) (h : n → g := by first | exact fun c => s_gg zG (v_field SS) c | exact fun c => s_gg zG (v_fieldp SS) c) : g := h c
theorem yK {n g : Prop} (c : n) (h : n → g := by first | exact fun c => s_load SS c | exact fun c => s_val (v_loadp SS) c) : g := h c
theorem xI {n g : Prop} (c : n) (h : n → g := by exact fun c => s_gg zG (v_int SS) c) : g := h c
theorem xM {n g : Prop} (c : n) (h : n → g := by exact fun c => s_gg zG (v_move SS) c) : g := h c
theorem yN {n g : Prop} (c : n) (h : n → g := by exact fun c => s_val (v_and SS) c) : g := h c
theorem yC {n g : Prop} (c : n) (h : n → g := by first | exact fun c => s_val (v_len SS) c | exact fun c => s_val (v_lenx SS) c | exact fun c => s_val (v_len0 SS) c | exact fun c => s_val (v_lena SS) c) : g := h c
theorem yZ {n g : Prop} (c : n) (h : n → g := by exact fun c => s_sl SS c) : g := h c
theorem yX {n g : Prop} (c : n) (h : n → g := by exact fun c => s_val (v_extract SS) c) : g := h c
theorem yP {n g : Prop} (c : n) (h : n → g := by first | exact fun c => s_val (v_litP SS) c | exact fun c => s_val (v_litA SS) c) : g := h c
theorem yO {n g : Prop} (c : n) (h : n → g := by exact fun c => s_val (v_or SS) c) : g := h c
theorem yG {n g : Prop} (c : n) (h : n → g := by exact fun c => s_val (v_loadp SS) c) : g := h c
theorem yJ {n g : Prop} (c : n) (h : n → g := by exact fun c => s_val (v_move SS) c) : g := h c
theorem yY {n g : Prop} (c : n) (h : n → g := by exact fun c => s_val (v_nilCheck SS) c) : g := h c
theorem yQ {n g : Prop} (c : n) (h : n → g := by exact fun c => s_val (v_not SS) c) : g := h c
theorem yW {n g : Prop} (c : n) (h : n → g := by first | exact fun c => s_storeOw SS c | exact fun c => s_store SS c) : g := h c
theorem yT {n g : Prop} (c : n) (h : n → g := by first | exact fun c => s_val (v_lit0 SS) c | exact fun c => s_val (v_litP SS) c | exact fun c => s_val (v_litA SS) c) : g := h c
theorem xQ {n g : Prop} (c : n) (h : n → g := by exact fun c => s_gg zG (v_not SS) c) : g := h c
theorem xC {n g : Prop} (c : n) (h : n → g := by first | exact fun c => s_gg zG (v_len SS) c | exact fun c => s_gg zG (v_lenx SS) c | exact fun c => s_gg zG (v_len0 SS) c | exact fun c => s_gg zG (v_lena SS) c) : g := h c
theorem xN {n g : Prop} (c : n) (h : n → g := by exact fun c => s_gg zG (v_andg SS) c) : g := h c
theorem xP {n g : Prop} (c : n) (h : n → g := by first | exact fun c => s_gg zG (v_litP SS) c | exact fun c => s_gg zG (v_litA SS) c) : g := h c
theorem xO {n g : Prop} (c : n) (h : n → g := by exact fun c => s_gg zG (v_org SS) c) : g := h c
theorem zW {p : Prop} (h : p := by repeat (first | exact .nil | refine .cons rfl (by first | exact .refl | (focus ((repeat constructor); done))) ?_)) : p := h
theorem zE {p : Prop} (h : p := by repeat (first | exact SubE.nil | refine SubE.cons rfl (by first | rfl | (rw [wrap64 (by omega) (by omega)]; rfl)) ?_)) : p := h
theorem zH {p : Prop} (h : p := by repeat (first | exact SubH.nil | refine SubH.cons rfl (by first | rfl | (rw [wrap64 (by omega) (by omega)]; rfl)) ?_)) : p := h
theorem tQ {n g : Prop} (c : n) (h : n → g := by intro c; (repeat refine Tri.seq ?_); exact c) : g := h c
theorem zO {p : Prop} (h : p := by repeat (first | exact OutH.nil | refine OutH.cons rfl (by first | exact ObImp.refl _ | exact OWk.imp (by repeat constructor)) ?_)) : p := h
theorem yR {n g : Prop} (c : n) (h : n → g := by intro c; (repeat refine Tri.seq ?_); exact Tri.region mixed c) : g := h c
theorem Y0 {n g : Prop} (c : n) (h : n → g := by intro c; refine e_seq ?_; refine tQ ?_; exact c) : g := h c
theorem Y1 {n g : Prop} (c : n) (h : n → g := by intro c; refine yR ?_; refine yM ?_; exact c) : g := h c
theorem Y2 {n g : Prop} (c : n) (h : n → g := by intro c; refine yA ?_; refine Y0 ?_; exact c) : g := h c
theorem Y3 {n g : Prop} (c : n) (h : n → g := by intro c; refine yF ?_; refine yL ?_; exact c) : g := h c
theorem Y4 {n g : Prop} (c : n) (h : n → g := by intro c; refine yR ?_; refine yL ?_; exact c) : g := h c
theorem Y5 {n g : Prop} (c : n) (h : n → g := by intro c; refine yR ?_; refine yI ?_; exact c) : g := h c
theorem Y6 {n g : Prop} (c : n) (h : n → g := by intro c; refine yR ?_; refine yB ?_; exact c) : g := h c
theorem Y7 {n g : Prop} (c : n) (h : n → g := by intro c; refine xF ?_; refine xL ?_; exact c) : g := h c
theorem Y8 {n g : Prop} (c : n) (h : n → g := by intro c; refine Y6 ?_; refine Y0 ?_; exact c) : g := h c
theorem Y9 {n g : Prop} (c : n) (h : n → g := by intro c; refine yF ?_; refine yK ?_; exact c) : g := h c
theorem Y10 {n g : Prop} (c : n) (h : n → g := by intro c; refine yS ?_; refine Y0 ?_; exact c) : g := h c
theorem Y11 {n g : Prop} (c : n) (h : n → g := by intro c; refine Y1 ?_; refine yI ?_; exact c) : g := h c
theorem Y12 {n g : Prop} (c : n) (h : n → g := by intro c; refine Y5 ?_; refine Y2 ?_; exact c) : g := h c
theorem Y13 {n g : Prop} (c : n) (h : n → g := by intro c; refine yY ?_; refine Y3 ?_; exact c) : g := h c
theorem Y14 {n g : Prop} (c : n) (h : n → g := by intro c; refine yA ?_; refine e_seq ?_; exact c) : g := h c
theorem Y15 {n g : Prop} (c : n) (h : n → g := by intro c; refine yM ?_; refine Y7 ?_; exact c) : g := h c
theorem Y16 {n g : Prop} (c : n) (h : n → g := by intro c; refine yR ?_; refine Y3 ?_; exact c) : g := h c
theorem Y17 {n g : Prop} (c : n) (h : n → g := by intro c; refine yS ?_; refine e_seq ?_; exact c) : g := h c
theorem Y18 {n g : Prop} (c : n) (h : n → g := by intro c; refine e_draw ?_; refine tQ ?_; exact c) : g := h c
theorem Y19 {n g : Prop} (c : n) (h : n → g := by intro c; refine xI ?_; refine yN ?_; exact c) : g := h c
theorem Y20 {n g : Prop} (c : n) (h : n → g := by intro c; refine Y6 ?_; refine e_seq ?_; exact c) : g := h c
theorem Y21 {n g : Prop} (c : n) (h : n → g := by intro c; refine yM ?_; refine yM ?_; exact c) : g := h c
theorem Y22 {n g : Prop} (c : n) (h : n → g := by intro c; refine yM ?_; refine xM ?_; exact c) : g := h c
theorem Y23 {n g : Prop} (c : n) (h : n → g := by intro c; refine yR ?_; refine Y9 ?_; exact c) : g := h c
theorem Y24 {n g : Prop} (c : n) (h : n → g := by intro c; refine xI ?_; refine yO ?_; exact c) : g := h c
theorem Y25 {n g : Prop} (c : n) (h : n → g := by intro c; refine yS ?_; refine Y18 ?_; exact c) : g := h c
theorem Y26 {n g : Prop} (c : n) (h : n → g := by intro c; refine Y5 ?_; refine yM ?_; exact c) : g := h c
theorem Y27 {n g : Prop} (c : n) (h : n → g := by intro c; refine Y26 ?_; refine e_seq ?_; exact c) : g := h c
theorem Y28 {n g : Prop} (c : n) (h : n → g := by intro c; refine Y4 ?_; refine Y13 ?_; exact c) : g := h c
theorem Y29 {n g : Prop} (c : n) (h : n → g := by intro c; refine Y1 ?_; refine yM ?_; exact c) : g := h c
theorem Y30 {n g : Prop} (c : n) (h : n → g := by intro c; refine yM ?_; refine yL ?_; exact c) : g := h c
theorem Y31 {n g : Prop} (c : n) (h : n → g := by intro c; refine Y5 ?_; refine Y0 ?_; exact c) : g := h c
theorem Y32 {n g : Prop} (c : n) (h : n → g := by intro c; refine Y1 ?_; refine yL ?_; exact c) : g := h c
theorem Y33 {n g : Prop} (c : n) (h : n → g := by intro c; refine yJ ?_; refine Y0 ?_; exact c) : g := h c
theorem Y34 {n g : Prop} (c : n) (h : n → g := by intro c; refine Y16 ?_; refine yI ?_; exact c) : g := h c
theorem Y35 {n g : Prop} (c : n) (h : n → g := by intro c; refine Y22 ?_; refine Y19 ?_; exact c) : g := h c
theorem Y36 {n g : Prop} (c : n) (h : n → g := by intro c; refine Y4 ?_; refine yL ?_; exact c) : g := h c
theorem Y37 {n g : Prop} (c : n) (h : n → g := by intro c; refine Y1 ?_; refine yC ?_; exact c) : g := h c
theorem Y38 {n g : Prop} (c : n) (h : n → g := by intro c; refine Y11 ?_; refine Y2 ?_; exact c) : g := h c
theorem Y39 {n g : Prop} (c : n) (h : n → g := by intro c; refine Y24 ?_; refine Y15 ?_; exact c) : g := h c
theorem Y40 {n g : Prop} (c : n) (h : n → g := by intro c; refine yR ?_; refine yG ?_; exact c) : g := h c
theorem Y41 {n g : Prop} (c : n) (h : n → g := by intro c; refine yP ?_; refine Y10 ?_; exact c) : g := h c
theorem Y42 {n g : Prop} (c : n) (h : n → g := by intro c; refine yB ?_; refine Y0 ?_; exact c) : g := h c
theorem Y43 {n g : Prop} (c : n) (h : n → g := by intro c; refine yM ?_; refine yX ?_; exact c) : g := h c
theorem Y44 {n g : Prop} (c : n) (h : n → g := by intro c; refine Y15 ?_; refine Y7 ?_; exact c) : g := h c
theorem Y45 {n g : Prop} (c : n) (h : n → g := by intro c; refine yI ?_; refine Y0 ?_; exact c) : g := h c
theorem Y46 {n g : Prop} (c : n) (h : n → g := by intro c; refine Y43 ?_; refine yX ?_; exact c) : g := h c
theorem Y47 {n g : Prop} (c : n) (h : n → g := by intro c; refine Y1 ?_; refine Y13 ?_; exact c) : g := h c
theorem Y48 {n g : Prop} (c : n) (h : n → g := by intro c; refine yS ?_; refine yA ?_; exact c) : g := h c
theorem Y49 {n g : Prop} (c : n) (h : n → g := by intro c; refine Y11 ?_; refine Y35 ?_; exact c) : g := h c
theorem Y50 {n g : Prop} (c : n) (h : n → g := by intro c; refine yY ?_; refine yF ?_; exact c) : g := h c
theorem Y51 {n g : Prop} (c : n) (h : n → g := by intro c; refine Y49 ?_; refine Y2 ?_; exact c) : g := h c
theorem Y52 {n g : Prop} (c : n) (h : n → g := by intro c; refine Y23 ?_; refine yC ?_; exact c) : g := h c
theorem Y53 {n g : Prop} (c : n) (h : n → g := by intro c; refine Y28 ?_; refine yI ?_; exact c) : g := h c
theorem Y54 {n g : Prop} (c : n) (h : n → g := by intro c; refine Y17 ?_; refine yR ?_; exact c) : g := h c
theorem Y55 {n g : Prop} (c : n) (h : n → g := by intro c; refine Y9 ?_; refine yC ?_; exact c) : g := h c
theorem Y56 {n g : Prop} (c : n) (h : n → g := by intro c; refine yL ?_; refine yZ ?_; exact c) : g := h c
theorem Y57 {n g : Prop} (c : n) (h : n → g := by intro c; refine Y4 ?_; refine Y10 ?_; exact c) : g := h c
theorem Y58 {n g : Prop} (c : n) (h : n → g := by intro c; refine yR ?_; refine yT ?_; exact c) : g := h c
theorem Y59 {n g : Prop} (c : n) (h : n → g := by intro c; refine yS ?_; refine Y42 ?_; exact c) : g := h c
theorem Y60 {n g : Prop} (c : n) (h : n → g := by intro c; refine yM ?_; refine xL ?_; exact c) : g := h c
theorem Y61 {n g : Prop} (c : n) (h : n → g := by intro c; refine Y11 ?_; refine Y0 ?_; exact c) : g := h c
theorem Y62 {n g : Prop} (c : n) (h : n → g := by intro c; refine Y37 ?_; refine Y33 ?_; exact c) : g := h c
theorem Y63 {n g : Prop} (c : n) (h : n → g := by intro c; refine Y1 ?_; refine Y14 ?_; exact c) : g := h c
theorem Y64 {n g : Prop} (c : n) (h : n → g := by intro c; refine yZ ?_; refine yP ?_; exact c) : g := h c
theorem Y65 {n g : Prop} (c : n) (h : n → g := by intro c; refine Y34 ?_; refine Y15 ?_; exact c) : g := h c
instance : Okt Tryz.prog 3 3 := ⟨by kernel_rfl⟩
instance : Sc Tryz.prog 3 := ⟨by kernel_rfl⟩
instance : Zr SS 3 (.pu (.leaf (.int .i64 0))) := ⟨by kernel_rfl⟩
instance : Okt Tryz.prog 4 4 := ⟨by kernel_rfl⟩
instance : Sc Tryz.prog 4 := ⟨by kernel_rfl⟩
instance : Okt Tryz.prog 5 5 := ⟨by kernel_rfl⟩
instance : Sc Tryz.prog 5 := ⟨by kernel_rfl⟩
instance : Zr SS 5 (.pu (.leaf (.int .u8 0))) := ⟨by kernel_rfl⟩
instance : Sc Tryz.prog 9 := ⟨by kernel_rfl⟩
instance : Sc Tryz.prog 22 := ⟨by kernel_rfl⟩
instance : Sl Tryz.prog 22 130 := ⟨by kernel_rfl⟩
instance : Sc Tryz.prog 23 := ⟨by kernel_rfl⟩
instance : Sl Tryz.prog 23 136 := ⟨by kernel_rfl⟩
instance : Okt Tryz.prog 24 24 := ⟨by kernel_rfl⟩
instance : Sc Tryz.prog 24 := ⟨by kernel_rfl⟩
instance : Sl Tryz.prog 24 116 := ⟨by kernel_rfl⟩
instance : Okt Tryz.prog 26 26 := ⟨by kernel_rfl⟩
instance : Ag Tryz.prog 26 := ⟨by kernel_rfl⟩
instance : AgT Tryz.prog 26 [22, 23, 24] := ⟨by kernel_rfl⟩
instance : Fld Tryz.prog 26 2 24 := ⟨by kernel_rfl⟩
instance : Zr SS 26 (.agg 26 [.nilc, .nilc, .nilc]) := ⟨by kernel_rfl⟩
instance : Okt Tryz.prog 28 28 := ⟨by kernel_rfl⟩
instance : Ag Tryz.prog 28 := ⟨by kernel_rfl⟩
instance : Zr SS 28 (.pu (refP Z32)) := ⟨by kernel_rfl⟩
instance : Okt Tryz.prog 29 29 := ⟨by kernel_rfl⟩
instance : Sc Tryz.prog 29 := ⟨by kernel_rfl⟩
instance : Sl Tryz.prog 29 32 := ⟨by kernel_rfl⟩
instance : El Tryz.prog 29 32 96 := ⟨by kernel_rfl⟩
instance : Okt Tryz.prog 30 30 := ⟨by kernel_rfl⟩
instance : Sc Tryz.prog 30 := ⟨by kernel_rfl⟩
instance : Sl Tryz.prog 30 106 := ⟨by kernel_rfl⟩
instance : El Tryz.prog 30 106 168 := ⟨by kernel_rfl⟩
instance : Okt Tryz.prog 32 32 := ⟨by kernel_rfl⟩
instance : Ag Tryz.prog 32 := ⟨by kernel_rfl⟩
instance : AgT Tryz.prog 32 [3, 3, 28, 29, 30] := ⟨by kernel_rfl⟩
instance : Fld Tryz.prog 32 0 3 := ⟨by kernel_rfl⟩
instance : Fld Tryz.prog 32 1 3 := ⟨by kernel_rfl⟩
instance : Fld Tryz.prog 32 2 28 := ⟨by kernel_rfl⟩
instance : Fld Tryz.prog 32 3 29 := ⟨by kernel_rfl⟩
instance : Fld Tryz.prog 32 4 30 := ⟨by kernel_rfl⟩
instance : Zr SS 32 (.agg 32 [(.pu (.leaf (.int .i64 0))), (.pu (.leaf (.int .i64 0))), (.pu (refP Z32)), .nilc, .nilc]) := ⟨by kernel_rfl⟩
instance : Okt Tryz.prog 36 36 := ⟨by kernel_rfl⟩
instance : Sc Tryz.prog 36 := ⟨by kernel_rfl⟩
instance : Okt Tryz.prog 37 37 := ⟨by kernel_rfl⟩
instance : Sc Tryz.prog 37 := ⟨by kernel_rfl⟩
instance : Zr SS 37 (.pu (.leaf (.int .i64 0))) := ⟨by kernel_rfl⟩
instance : Okt Tryz.prog 39 39 := ⟨by kernel_rfl⟩
instance : Sc Tryz.prog 39 := ⟨by kernel_rfl⟩
instance : Sl Tryz.prog 39 3 := ⟨by kernel_rfl⟩
instance : El Tryz.prog 39 3 8 := ⟨by kernel_rfl⟩
instance : Zr SS 39 .nilc := ⟨by kernel_rfl⟩
instance : Okt Tryz.prog 45 45 := ⟨by kernel_rfl⟩
instance : Sc Tryz.prog 45 := ⟨by kernel_rfl⟩
instance : Zr SS 45 (.pu (.leaf .nilFunc)) := ⟨by kernel_rfl⟩
instance : Okt Tryz.prog 48 48 := ⟨by kernel_rfl⟩
instance : Sc Tryz.prog 48 := ⟨by kernel_rfl⟩
instance : Sl Tryz.prog 48 5 := ⟨by kernel_rfl⟩
instance : El Tryz.prog 48 5 1 := ⟨by kernel_rfl⟩
instance : Okt Tryz.prog 50 50 := ⟨by kernel_rfl⟩
instance : Sc Tryz.prog 50 := ⟨by kernel_rfl⟩
instance : Okt Tryz.prog 53 53 := ⟨by kernel_rfl⟩
instance : Sc Tryz.prog 53 := ⟨by kernel_rfl⟩
instance : Sl Tryz.prog 53 58 := ⟨by kernel_rfl⟩
instance : El Tryz.prog 53 58 112 := ⟨by kernel_rfl⟩
instance : Zr SS 53 .nilc := ⟨by kernel_rfl⟩
instance : Okt Tryz.prog 54 54 := ⟨by kernel_rfl⟩
instance : Sc Tryz.prog 54 := ⟨by kernel_rfl⟩
instance : Sl Tryz.prog 54 28 := ⟨by kernel_rfl⟩
instance : El Tryz.prog 54 28 32 := ⟨by kernel_rfl⟩
instance : Okt Tryz.prog 56 56 := ⟨by kernel_rfl⟩
instance : Ag Tryz.prog 56 := ⟨by kernel_rfl⟩
instance : Fld Tryz.prog 56 0 54 := ⟨by kernel_rfl⟩
instance : Fld Tryz.prog 56 1 4 := ⟨by kernel_rfl⟩
instance : Fld Tryz.prog 56 2 3 := ⟨by kernel_rfl⟩
instance : Okt Tryz.prog 58 58 := ⟨by kernel_rfl⟩
instance : Ag Tryz.prog 58 := ⟨by kernel_rfl⟩
instance : AgT Tryz.prog 58 [3, 3, 28, 53, 56] := ⟨by kernel_rfl⟩
instance : Fld Tryz.prog 58 0 3 := ⟨by kernel_rfl⟩
instance : Fld Tryz.prog 58 1 3 := ⟨by kernel_rfl⟩
instance : Fld Tryz.prog 58 2 28 := ⟨by kernel_rfl⟩
instance : Fld Tryz.prog 58 3 53 := ⟨by kernel_rfl⟩
instance : Fld Tryz.prog 58 4 56 := ⟨by kernel_rfl⟩
instance : Zr SS 58 (.agg 58 [(.pu (.leaf (.int .i64 0))), (.pu (.leaf (.int .i64 0))), (.pu (refP Z32)), .nilc, (.agg 56 [.nilc, (.pu (.leaf (.bool false))), (.pu (.leaf (.int .i64 0)))])]) := ⟨by kernel_rfl⟩
instance : Okt Tryz.prog 65 65 := ⟨by kernel_rfl⟩
instance : Ag Tryz.prog 65 := ⟨by kernel_rfl⟩
instance : AgT Tryz.prog 65 [3, 3, 32, 28, 3] := ⟨by kernel_rfl⟩
instance : Fld Tryz.prog 65 0 3 := ⟨by kernel_rfl⟩
instance : Fld Tryz.prog 65 1 3 := ⟨by kernel_rfl⟩
instance : Fld Tryz.prog 65 2 32 := ⟨by kernel_rfl⟩
instance : Zr SS 65 (.agg 65 [(.pu (.leaf (.int .i64 0))), (.pu (.leaf (.int .i64 0))), (.agg 32 [(.pu (.leaf (.int .i64 0))), (.pu (.leaf (.int .i64 0))), (.pu (refP Z32)), .nilc, .nilc]), (.pu (refP Z32)), (.pu (.leaf (.int .i64 0)))]) := ⟨by kernel_rfl⟩
instance : Okt Tryz.prog 102 102 := ⟨by kernel_rfl⟩
instance : Sc Tryz.prog 102 := ⟨by kernel_rfl⟩
instance : Sl Tryz.prog 102 104 := ⟨by kernel_rfl⟩
instance : El Tryz.prog 102 104 72 := ⟨by kernel_rfl⟩
instance : Okt Tryz.prog 104 104 := ⟨by kernel_rfl⟩
instance : Ag Tryz.prog 104 := ⟨by kernel_rfl⟩
instance : AgT Tryz.prog 104 [3, 3, 28, 102] := ⟨by kernel_rfl⟩
instance : Fld Tryz.prog 104 0 3 := ⟨by kernel_rfl⟩
instance : Fld Tryz.prog 104 1 3 := ⟨by kernel_rfl⟩
instance : Fld Tryz.prog 104 2 28 := ⟨by kernel_rfl⟩
instance : Fld Tryz.prog 104 3 102 := ⟨by kernel_rfl⟩
instance : Zr SS 104 (.agg 104 [(.pu (.leaf (.int .i64 0))), (.pu (.leaf (.int .i64 0))), (.pu (refP Z32)), .nilc]) := ⟨by kernel_rfl⟩
instance : Okt Tryz.prog 106 106 := ⟨by kernel_rfl⟩
instance : Ag Tryz.prog 106 := ⟨by kernel_rfl⟩
instance : AgT Tryz.prog 106 [104, 32] := ⟨by kernel_rfl⟩
instance : Fld Tryz.prog 106 0 104 := ⟨by kernel_rfl⟩
instance : Fld Tryz.prog 106 1 32 := ⟨by kernel_rfl⟩
instance : Zr SS 106 (.agg 106 [(.agg 104 [(.pu (.leaf (.int .i64 0))), (.pu (.leaf (.int .i64 0))), (.pu (refP Z32)), .nilc]), (.agg 32 [(.pu (.leaf (.int .i64 0))), (.pu (.leaf (.int .i64 0))), (.pu (refP Z32)), .nilc, .nilc])]) := ⟨by kernel_rfl⟩
instance : Okt Tryz.prog 116 116 := ⟨by kernel_rfl⟩
instance : Ag Tryz.prog 116 := ⟨by kernel_rfl⟩
instance : AgT Tryz.prog 116 [28, 32] := ⟨by kernel_rfl⟩
instance : Fld Tryz.prog 116 0 28 := ⟨by kernel_rfl⟩
instance : Fld Tryz.prog 116 1 32 := ⟨by kernel_rfl⟩
instance : Zr SS 116 (.agg 116 [(.pu (refP Z32)), (.agg 32 [(.pu (.leaf (.int .i64 0))), (.pu (.leaf (.int .i64 0))), (.pu (refP Z32)), .nilc, .nilc])]) := ⟨by kernel_rfl⟩
instance : Sc Tryz.prog 126 := ⟨by kernel_rfl⟩
instance : Sl Tryz.prog 126 53 := ⟨by kernel_rfl⟩
instance : Ag Tryz.prog 128 := ⟨by kernel_rfl⟩
instance : AgT Tryz.prog 128 [9, 3, 126] := ⟨by kernel_rfl⟩
instance : Zr SS 128 (.agg 128 [(.pu (.leaf (.string ⟨#[]⟩))), (.pu (.leaf (.int .i64 0))), .nilc]) := ⟨by kernel_rfl⟩
instance : Ag Tryz.prog 130 := ⟨by kernel_rfl⟩
instance : AgT Tryz.prog 130 [28, 128] := ⟨by kernel_rfl⟩
instance : Zr SS 130 (.agg 130 [(.pu (refP Z32)), (.agg 128 [(.pu (.leaf (.string ⟨#[]⟩))), (.pu (.leaf (.int .i64 0))), .nilc])]) := ⟨by kernel_rfl⟩
instance : Sc Tryz.prog 132 := ⟨by kernel_rfl⟩
instance : Sl Tryz.prog 132 167 := ⟨by kernel_rfl⟩
instance : Ag Tryz.prog 134 := ⟨by kernel_rfl⟩
instance : AgT Tryz.prog 134 [9, 132] := ⟨by kernel_rfl⟩
instance : Zr SS 134 (.agg 134 [(.pu (.leaf (.string ⟨#[]⟩))), .nilc]) := ⟨by kernel_rfl⟩
instance : Ag Tryz.prog 136 := ⟨by kernel_rfl⟩
instance : AgT Tryz.prog 136 [28, 134] := ⟨by kernel_rfl⟩
instance : Zr SS 136 (.agg 136 [(.pu (refP Z32)), (.agg 134 [(.pu (.leaf (.string ⟨#[]⟩))), .nilc])]) := ⟨by kernel_rfl⟩
instance : Okt Tryz.prog 147 147 := ⟨by kernel_rfl⟩
instance : Ag Tryz.prog 147 := ⟨by kernel_rfl⟩
instance : AgT Tryz.prog 147 [39, 29] := ⟨by kernel_rfl⟩
instance : Fld Tryz.prog 147 0 39 := ⟨by kernel_rfl⟩
instance : Fld Tryz.prog 147 1 29 := ⟨by kernel_rfl⟩
instance : Zr SS 147 (.agg 147 [.nilc, .nilc]) := ⟨by kernel_rfl⟩
instance : Okt Tryz.prog 149 149 := ⟨by kernel_rfl⟩
instance : Sc Tryz.prog 149 := ⟨by kernel_rfl⟩
instance : Zr SS 149 (.pu (.leaf (.pointer none))) := ⟨by kernel_rfl⟩
instance : Mp Tryz.prog 152 28 4 := ⟨by kernel_rfl⟩
instance : Ag Tryz.prog 167 := ⟨by kernel_rfl⟩
instance : AgT Tryz.prog 167 [58, 58] := ⟨by kernel_rfl⟩
instance : Zr SS 167 (.agg 167 [(.agg 58 [(.pu (.leaf (.int .i64 0))), (.pu (.leaf (.int .i64 0))), (.pu (refP Z32)), .nilc, (.agg 56 [.nilc, (.pu (.leaf (.bool false))), (.pu (.leaf (.int .i64 0)))])]), (.agg 58 [(.pu (.leaf (.int .i64 0))), (.pu (.leaf (.int .i64 0))), (.pu (refP Z32)), .nilc, (.agg 56 [.nilc, (.pu (.leaf (.bool false))), (.pu (.leaf (.int .i64 0)))])])]) := ⟨by kernel_rfl⟩
instance : Okt Tryz.prog 169 169 := ⟨by kernel_rfl⟩
instance : Sc Tryz.prog 169 := ⟨by kernel_rfl⟩
instance : Okt Tryz.prog 171 171 := ⟨by kernel_rfl⟩
instance : Ag Tryz.prog 171 := ⟨by kernel_rfl⟩
instance : AgT Tryz.prog 171 [48, 3, 169] := ⟨by kernel_rfl⟩
instance : Fld Tryz.prog 171 0 48 := ⟨by kernel_rfl⟩
instance : Fld Tryz.prog 171 1 3 := ⟨by kernel_rfl⟩
instance : Fld Tryz.prog 171 2 169 := ⟨by kernel_rfl⟩
instance : Zr SS 171 (.agg 171 [.nilc, (.pu (.leaf (.int .i64 0))), (.pu (.leaf (.int .u64 0)))]) := ⟨by kernel_rfl⟩
instance : Okt Tryz.prog 172 172 := ⟨by kernel_rfl⟩
instance : Sc Tryz.prog 172 := ⟨by kernel_rfl⟩
instance : Okt Tryz.prog 174 174 := ⟨by kernel_rfl⟩
instance : Ag Tryz.prog 174 := ⟨by kernel_rfl⟩
instance : AgT Tryz.prog 174 [50, 3] := ⟨by kernel_rfl⟩
instance : Fld Tryz.prog 174 0 50 := ⟨by kernel_rfl⟩
instance : Fld Tryz.prog 174 1 3 := ⟨by kernel_rfl⟩
instance : Zr SS 174 (.pu (.agg 174 [(.leaf (.pointer none)), (.leaf (.int .i64 0))])) := ⟨by kernel_rfl⟩
instance : Okt Tryz.prog 177 177 := ⟨by kernel_rfl⟩
instance : Sc Tryz.prog 177 := ⟨by kernel_rfl⟩
instance : Okt Tryz.prog 178 178 := ⟨by kernel_rfl⟩
instance : Sc Tryz.prog 178 := ⟨by kernel_rfl⟩
instance : Mp Tryz.prog 178 28 32 := ⟨by kernel_rfl⟩
instance : Okt Tryz.prog 179 179 := ⟨by kernel_rfl⟩
instance : Ag Tryz.prog 179 := ⟨by kernel_rfl⟩
instance : AgT Tryz.prog 179 [177, 177, 177, 177, 177, 177, 177, 177] := ⟨by kernel_rfl⟩
instance : Arr Tryz.prog 179 8 177 := ⟨by kernel_rfl⟩
instance : Zr SS 179 (.pu (.agg 179 (List.replicate 8 (.leaf .nilFunc)))) := ⟨by kernel_rfl⟩
instance : Okt Tryz.prog 181 181 := ⟨by kernel_rfl⟩
instance : Ag Tryz.prog 181 := ⟨by kernel_rfl⟩
instance : AgT Tryz.prog 181 [26, 178, 179] := ⟨by kernel_rfl⟩
instance : Fld Tryz.prog 181 0 26 := ⟨by kernel_rfl⟩
instance : Fld Tryz.prog 181 1 178 := ⟨by kernel_rfl⟩
instance : Fld Tryz.prog 181 2 179 := ⟨by kernel_rfl⟩
instance : Zr SS 181 (.agg 181 [(.agg 26 [.nilc, .nilc, .nilc]), (.pu (.leaf (.map none))), (.pu (.agg 179 (List.replicate 8 (.leaf .nilFunc))))]) := ⟨by kernel_rfl⟩
instance : Okt Tryz.prog 200 200 := ⟨by kernel_rfl⟩
instance : Ag Tryz.prog 200 := ⟨by kernel_rfl⟩
instance : AgT Tryz.prog 200 [32, 3] := ⟨by kernel_rfl⟩
instance : Fld Tryz.prog 200 0 32 := ⟨by kernel_rfl⟩
instance : Fld Tryz.prog 200 1 3 := ⟨by kernel_rfl⟩
instance : Zr SS 200 (.agg 200 [(.agg 32 [(.pu (.leaf (.int .i64 0))), (.pu (.leaf (.int .i64 0))), (.pu (refP Z32)), .nilc, .nilc]), (.pu (.leaf (.int .i64 0)))]) := ⟨by kernel_rfl⟩
instance : Okt Tryz.prog 201 201 := ⟨by kernel_rfl⟩
instance : Sc Tryz.prog 201 := ⟨by kernel_rfl⟩
instance : Okt Tryz.prog 203 203 := ⟨by kernel_rfl⟩
instance : Ag Tryz.prog 203 := ⟨by kernel_rfl⟩
instance : Fld Tryz.prog 203 0 3 := ⟨by kernel_rfl⟩
instance : Zr SS 203 (.pu (.agg 203 [(.leaf (.int .i64 0))])) := ⟨by kernel_rfl⟩
instance : Okt Tryz.prog 204 204 := ⟨by kernel_rfl⟩
instance : Sc Tryz.prog 204 := ⟨by kernel_rfl⟩
instance : Okt Tryz.prog 206 206 := ⟨by kernel_rfl⟩
instance : Ag Tryz.prog 206 := ⟨by kernel_rfl⟩
instance : AgT Tryz.prog 206 [3, 204] := ⟨by kernel_rfl⟩
instance : Fld Tryz.prog 206 0 3 := ⟨by kernel_rfl⟩
instance : Fld Tryz.prog 206 1 204 := ⟨by kernel_rfl⟩
instance : Zr SS 206 (.pu (.agg 206 [(.leaf (.int .i64 0)), (.leaf .nilFunc)])) := ⟨by kernel_rfl⟩
instance : Okt Tryz.prog 227 227 := ⟨by kernel_rfl⟩
instance : Ag Tryz.prog 227 := ⟨by kernel_rfl⟩
instance : AgT Tryz.prog 227 [28, 3] := ⟨by kernel_rfl⟩
instance : Fld Tryz.prog 227 1 3 := ⟨by kernel_rfl⟩
instance : Zr SS 227 (.pu (.agg 227 [(refP Z32), (.leaf (.int .i64 0))])) := ⟨by kernel_rfl⟩
instance : Okt Tryz.prog 238 238 := ⟨by kernel_rfl⟩
instance : Sc Tryz.prog 238 := ⟨by kernel_rfl⟩
instance : Okt Tryz.prog 240 240 := ⟨by kernel_rfl⟩
instance : Ag Tryz.prog 240 := ⟨by kernel_rfl⟩
instance : Fld Tryz.prog 240 0 3 := ⟨by kernel_rfl⟩
instance : Zr SS 240 (.pu (.agg 240 [(.leaf (.int .i64 0))])) := ⟨by kernel_rfl⟩
instance : Okt Tryz.prog 278 278 := ⟨by kernel_rfl⟩
instance : Ag Tryz.prog 278 := ⟨by kernel_rfl⟩
instance : AgT Tryz.prog 278 [4, 4, 4] := ⟨by kernel_rfl⟩
instance : Arr Tryz.prog 278 3 4 := ⟨by kernel_rfl⟩
instance : Zr SS 278 (.pu (.agg 278 (List.replicate 3 (.leaf (.bool false))))) := ⟨by kernel_rfl⟩
instance (p : Pat) : TyV Tryz.prog 104 (.pu (patc lo p)) := by cases p; exact inferInstanceAs (TyV Tryz.prog 104 (.pu (.agg _ _)))
instance (t : Tm) : TyV Tryz.prog 32 (.pu (tmc lo t)) := by cases t; exact inferInstanceAs (TyV Tryz.prog 32 (.pu (.agg _ _)))
instance (c : Cs) : TyV Tryz.prog 106 (.pu (csec lo c)) := by cases c; exact inferInstanceAs (TyV Tryz.prog 106 (.pu (.agg _ _)))
instance (r : List Int) : TyV Tryz.prog 28 (.pu (refP r)) := inferInstanceAs (TyV Tryz.prog 28 (.pu (.agg _ _)))
end Go.Proofs.YtkcgkignhpepkaaGreatDoor

/- Digests: as long as they are, and compared. -/
namespace Go.Proofs.YtkcgkignhpepkaaGreatDoor
open Go Hs
variable {lo : Nat}
theorem ref_len {D : Nat → Nat → Prop} {w : World} {r : List Int} {x : List Value} (h : PR Tryz.prog D w (refP r) x) : r.length = 32 := by
 have hc : comps Tryz.prog 28 = some (List.replicate 32 (1, 5)) := by kernel_rfl
 unfold refP at h
 cases h with
 | agg h1 h2 =>
  rw [hc] at h1
  simp only [Option.some.injEq] at h1
  subst h1
  have := h2.length.2
  simpa using this
mutual
def wfP : Pat → Prop
 | .mk _ _ r ks => r.length = 32 ∧ wfPs ks
def wfPs : List Pat → Prop
 | [] => True
 | p :: ps => wfP p ∧ wfPs ps
end
mutual
def wfT : Tm → Prop
 | .mk _ _ r ks cs => r.length = 32 ∧ wfTs ks ∧ wfCs cs
def wfTs : List Tm → Prop
 | [] => True
 | t :: ts => wfT t ∧ wfTs ts
def wfC : Cs → Prop
 | .mk p t => wfP p ∧ wfT t
def wfCs : List Cs → Prop
 | [] => True
 | c :: cs => wfC c ∧ wfCs cs
end
theorem wfTs_mem : ∀ {ks : List Tm}, wfTs ks → ∀ k ∈ ks, wfT k
 | [], _, k, h => by cases h
 | p :: ps, h, k, hk => by
  rcases List.mem_cons.1 hk with rfl | hk
  ·exact h.1
  ·exact wfTs_mem h.2 k hk
theorem PR_agg {D : Nat → Nat → Prop} {w : World} {T : TypeId} {ps : List Pu} {x : List Value} (h : PR Tryz.prog D w (.agg T ps) x) : ∃ cs, PRs Tryz.prog D w cs ps x := by
 cases h with
 | agg _ h => exact ⟨_, h⟩
theorem PRs_cons {D : Nat → Nat → Prop} {w : World} {cs : List (Nat × TypeId)} {p : Pu} {ps : List Pu} {x : List Value} (h : PRs Tryz.prog D w cs (p :: ps) x) : (∃ y, PR Tryz.prog D w p y) ∧ ∃ cs' y, PRs Tryz.prog D w cs' ps y := by
 cases h with
 | cons h _ _ t => exact ⟨⟨_, h⟩, _, _, t⟩
theorem PR_sl {D : Nat → Nat → Prop} {w : World} {E : TypeId} {ps : List Pu} {x : List Value} (h : PR Tryz.prog D w (.sl lo E ps) x) : ∃ cs y, PRs Tryz.prog D w cs ps y := by
 cases h with
 | sl0 => exact ⟨[], [], .nil⟩
 | sl _ _ h _ _ => exact ⟨_, _, h⟩
mutual
theorem pat_wf {D : Nat → Nat → Prop} {w : World} : ∀ {p : Pat} {x : List Value}, PR Tryz.prog D w (patc lo p) x → wfP p
 | .mk k n r ks, x, h => by
  obtain ⟨_, h⟩ := PR_agg h
  obtain ⟨_, _, _, h⟩ := PRs_cons h
  obtain ⟨_, _, _, h⟩ := PRs_cons h
  obtain ⟨⟨_, h1⟩, _, _, h⟩ := PRs_cons h
  obtain ⟨⟨_, h2⟩, _⟩ := PRs_cons h
  obtain ⟨_, _, h2⟩ := PR_sl h2
  exact ⟨ref_len h1, pats_wf h2⟩
theorem pats_wf {D : Nat → Nat → Prop} {w : World} : ∀ {ks : List Pat} {cs : List (Nat × TypeId)} {x : List Value}, PRs Tryz.prog D w cs (patsc lo ks) x → wfPs ks
 | [], _, _, _ => trivial
 | p :: ps, _, _, h => by
  obtain ⟨⟨_, h1⟩, _, _, h2⟩ := PRs_cons h
  exact ⟨pat_wf h1, pats_wf h2⟩
end
mutual
theorem tm_wf {D : Nat → Nat → Prop} {w : World} : ∀ {t : Tm} {x : List Value}, PR Tryz.prog D w (tmc lo t) x → wfT t
 | .mk k n r ks cs, x, h => by
  obtain ⟨_, h⟩ := PR_agg h
  obtain ⟨_, _, _, h⟩ := PRs_cons h
  obtain ⟨_, _, _, h⟩ := PRs_cons h
  obtain ⟨⟨_, h1⟩, _, _, h⟩ := PRs_cons h
  obtain ⟨⟨_, h2⟩, _, _, h⟩ := PRs_cons h
  obtain ⟨⟨_, h3⟩, _⟩ := PRs_cons h
  obtain ⟨_, _, h2⟩ := PR_sl h2
  obtain ⟨_, _, h3⟩ := PR_sl h3
  exact ⟨ref_len h1, tms_wf h2, css_wf h3⟩
theorem tms_wf {D : Nat → Nat → Prop} {w : World} : ∀ {ks : List Tm} {cs : List (Nat × TypeId)} {x : List Value}, PRs Tryz.prog D w cs (tmsc lo ks) x → wfTs ks
 | [], _, _, _ => trivial
 | p :: ps, _, _, h => by
  obtain ⟨⟨_, h1⟩, _, _, h2⟩ := PRs_cons h
  exact ⟨tm_wf h1, tms_wf h2⟩
theorem cs_wf {D : Nat → Nat → Prop} {w : World} : ∀ {c : Cs} {x : List Value}, PR Tryz.prog D w (csec lo c) x → wfC c
 | .mk p t, x, h => by
  obtain ⟨_, h⟩ := PR_agg h
  obtain ⟨⟨_, h1⟩, _, _, h⟩ := PRs_cons h
  obtain ⟨⟨_, h2⟩, _⟩ := PRs_cons h
  exact ⟨pat_wf h1, tm_wf h2⟩
theorem css_wf {D : Nat → Nat → Prop} {w : World} : ∀ {ks : List Cs} {cs : List (Nat × TypeId)} {x : List Value}, PRs Tryz.prog D w cs (cssc lo ks) x → wfCs ks
 | [], _, _, _ => trivial
 | p :: ps, _, _, h => by
  obtain ⟨⟨_, h1⟩, _, _, h2⟩ := PRs_cons h
  exact ⟨cs_wf h1, css_wf h2⟩
end
theorem peq_u8 (d : Nat) (a b : Int) : peqT Tryz.prog (d + 1) 5 (.leaf (.int .u8 a)) (.leaf (.int .u8 b)) = some (a == b) := by
 have hu : Tryz.prog.underlying 5 = some (.int .u8) := by kernel_rfl
 simp [peqT, hu]
theorem peqL_u8 (d : Nat) : ∀ (r s : List Int), r.length = s.length → peqL (peqT Tryz.prog (d + 1) 5) (r.map fun n => .leaf (.int .u8 n)) (s.map fun n => .leaf (.int .u8 n)) = some (r == s)
 | [], [], _ => rfl
 | a :: r, b :: s, h => by
  simp only [List.map_cons, peqL, peq_u8, peqL_u8 d r s (by simpa using h)]
  rfl
 | [], _ :: _, h => by simp at h
 | _ :: _, [], h => by simp at h
theorem peq_refD (d : Nat) {r s : List Int} (h : r.length = s.length) : peqT Tryz.prog (d + 2) 28 (refP r) (refP s) = some (r == s) := by
 have hu : Tryz.prog.underlying 28 = some (.array 32 5) := by kernel_rfl
 rw [← peqL_u8 d r s h]
 unfold refP
 rw [peqT.eq_def]
 simp only [hu]
theorem peq_ref {r s : List Int} (h : r.length = s.length) : peqT Tryz.prog 100 28 (refP r) (refP s) = some (r == s) := by
 generalize hd : (100 : Nat) = d
 obtain ⟨e, rfl⟩ : ∃ e, d = e + 2 := ⟨98, by omega⟩
 exact peq_refD e h
theorem sum_cond (r s : List Int) : Tryz.prog.eqGuardType Tryz.prog.depth 28 = false ∧ 28 < Tryz.prog.types.size ∧ tyP Tryz.prog 28 (refP r) = true ∧ tyP Tryz.prog 28 (refP s) = true :=
 ⟨by kernel_rfl, of_decide_eq_true (by kernel_rfl), (show tyV Tryz.prog 28 (.pu (refP r)) = true from TyV.ok), (show tyV Tryz.prog 28 (.pu (refP s)) = true from TyV.ok)⟩
theorem bin_eqS {r s : List Int} (h : r.length = s.length) : binV Tryz.prog .eql 28 (.pu (refP r)) (.pu (refP s)) = some (bv (r == s)) := by
 have h1 := sum_cond r s
 have h2 := peq_ref h
 unfold refP at h1 h2 ⊢
 simp only [binV, if_pos h1, h2]
theorem bin_neS {r s : List Int} (h : r.length = s.length) : binV Tryz.prog .neq 28 (.pu (refP r)) (.pu (refP s)) = some (bv (!(r == s))) := by
 have h1 := sum_cond r s
 have h2 := peq_ref h
 unfold refP at h1 h2 ⊢
 simp only [binV, if_pos h1, h2]
end Go.Proofs.YtkcgkignhpepkaaGreatDoor

/- slices.IndexFunc, slices.ContainsFunc with a callback. -/
namespace Go.Proofs.YtkcgkignhpepkaaGreatDoor
open Go Hs
variable {G : List (Nat × TypeId × Pu)} {lo : Nat}
theorem idxPat_c {vf : PV} {f : FuncId} {first captured : List PV} {HR : List (Nat × Ob)} (hvf : fnV vf = some (f, first, captured)) (hst : Str vf vf) (hnt : isTup vf = false) (hent : entersB Tryz.prog f = true) (hna : (first ++ captured).any isTup = false)
  (hfree : ∀ l ob, get HR l = some ob → freeOb ob = true) {ps : List Pu} (hlen : ps.length < 4611686018427387904) {H H' : List (Nat × Ob)} {r : Option Nat} (hd0 : disjB HR H' = true) (hk : ∀ l ob, get H l = some ob → ∃ ob', get H' l = some ob') (hR : ∀ l ob, get HR l = some ob → get H l = none)
  (h : AnyC Tryz.prog G f first captured HR ps H r H') : HCall Tryz.prog G 184 [.pu (.sl lo 104 ps), vf] HR H (iv .i64 (idxV r)) H' [] := by
 refine HCall.of_tri tbl (n := 19) (L := keysOf H' ++ heapLabs H') Tryz.func184 rfl rfl hfree (fun l ob hl => disjB_none hd0 hl) (fun l hl => by simp [PV.labs] at hl) (fun l ob hl => keys_mem hl) hk ?_
 rintro ⟨w0, n', M, G', L, R, ρ0, D0, ro⟩ hn hG hL hR' hro
 simp only at hn hG hL hR' hro
 subst hn hG hL hR' hro
 have hset : ∀ (i : Nat) (H1 : List (Nat × Ob)) (r1 : Option Nat), AnyC Tryz.prog G' f first captured HR (ps.drop i) H1 r1 H' → True := fun _ _ _ _ => trivial
 let σ := {s : Nat × List (Nat × Ob) × Option Nat // AnyC Tryz.prog G' f first captured HR (ps.drop s.1) s.2.1 s.2.2 H' ∧ s.1 ≤ ps.length ∧ idxV r = (match s.2.2 with | some j => ((s.1 + j : Nat) : Int) | none => -1) ∧ (∀ l ob, get s.2.1 l = some ob → l ∉ keysOf HR)}
 refine Y20 ?_;refine Y62 ?_;refine Tri.block (Tri.loop (σ := σ) (fun s => ⟨[(0, .pu (.sl lo 104 ps)), (1, vf), (7, iv .i64 ps.length), (8, iv .i64 s.1.1)], HR ++ s.1.2.1⟩) (fun s => ps.length - s.1.1) ⟨(0, H, r), by simpa using h, Nat.zero_le _, by cases r <;> simp [idxV], fun l ob hl hm => ?_⟩ ?_ (fun s => ?_))
 ·obtain ⟨ob', ho⟩ := get_some_of (a := HR) hm
  rw [hR l ob' ho] at hl
  cases hl
 ·exact le_same (.cons rfl rfl (.cons rfl rfl (.cons rfl rfl (.cons rfl rfl .nil))))
 obtain ⟨⟨i, H1, r1⟩, hA, hi0, hr1, hdisj⟩ := s
 simp only at hA hi0 hr1 hdisj ⊢
 refine Y5 ?_;refine e_seq ?_;refine Tri.seq (Tri.cond rfl (fun hb => Tri.skip ?_) (fun hb => Tri.exit ?_))
 ·have hi : i < ps.length := by simpa using hb
  obtain ⟨p, hp⟩ : ∃ p, ps[i]? = some p := ⟨ps[i], by simp [hi]⟩
  have hdr : ps.drop i = p :: ps.drop (i + 1) := by
   rw [List.drop_eq_getElem_cons hi]
   simp only [List.getElem?_eq_getElem hi, Option.some.injEq] at hp
   rw [hp]
  rw [hdr] at hA
  have hHR : ∀ l ob, get HR l = some ob → ∃ ob1, get (HR ++ H1) l = some ob1 ∧ ObImp Tryz.prog ob1 ob := fun l ob hl => ⟨ob, by rw [get_append, hl]; rfl, ObImp.refl _⟩
  have hH1 : ∀ l ob, get H1 l = some ob → l ∉ keysOf HR ∧ ∃ ob1, get (HR ++ H1) l = some ob1 ∧ ObImp Tryz.prog ob1 ob := fun l ob hl => by
   refine ⟨hdisj l ob hl, ob, ?_, ObImp.refl _⟩
   rw [get_append]
   cases hg : get HR l with
   | some o => exact absurd (get_keys hg) (hdisj l ob hl)
   | none => simpa using hl
  have hnt2 : (first ++ [PV.pu p] ++ captured).any isTup = false := by
   simp only [List.any_append, Bool.or_eq_false_iff] at hna ⊢
   exact ⟨⟨hna.1, by simp [isTup]⟩, hna.2⟩
  refine Tri.seq (Tri.block ?_);refine Y63 ?_
  cases hA with
  | hit hc hd =>
   refine yR ?_;refine s_val (v_move SS (h := Ev.mk rfl hst)) ?_;refine Y21 ?_;refine s_val (v_index SS (h0 := by omega) (hp := hp)) ?_;refine yL ?_;refine step_call (vf := vf) (first := first) (captured := captured) (vs := [.pu p]) (HR := HR) (H := H1) (news := []) rfl hst hvf hent (.cons (.mk rfl .pu) .nil) rfl (VImps.refl _) hnt2 hHR hH1 hc rfl ?_;refine Y0 ?_;refine Tri.condT rfl ?_;refine Y63 ?_;refine Tri.ret ⟨.inr rfl, _, Ghost.refl _, ret1 rfl resV_tmp (iv_imp ?_), fun l ob hl => ⟨ob, ?_, ObImp.refl _⟩⟩
   ·rw [hr1]
    simp
   ·rw [get_append, hl]; rfl
  | next hc hd t =>
   rename_i H2 r2
   refine yR ?_;refine s_val (v_move SS (h := Ev.mk rfl hst)) ?_;refine Y21 ?_;refine s_val (v_index SS (h0 := by omega) (hp := hp)) ?_;refine yL ?_;refine step_call (vf := vf) (first := first) (captured := captured) (vs := [.pu p]) (HR := HR) (H := H1) (news := []) rfl hst hvf hent (.cons (.mk rfl .pu) .nil) rfl (VImps.refl _) hnt2 hHR hH1 hc rfl ?_;refine Y0 ?_;refine Tri.condF rfl ?_;refine Tri.skip ?_;refine Y27 ?_
   refine ⟨⟨(i + 1, H2, r2), t, hi, ?_, fun l ob hl hm => ?_⟩, by simp; omega, le_call hd (.cons rfl rfl (.cons rfl rfl (.cons rfl rfl (.cons rfl ?_ .nil))))⟩
   ·rw [hr1]
    cases r2 with
    | none => rfl
    | some j => exact congrArg (fun n : Nat => (n : Int)) (show i + (j + 1) = i + 1 + j by omega)
   ·obtain ⟨ob', ho⟩ := get_some_of (a := HR) hm
    rw [disjB_none hd hl] at ho
    cases ho
   ·rw [wrap64 (by omega) (by omega)]
    rfl
 ·have hi : i = ps.length := by
   have : ps.length ≤ i := by simpa using hb
   omega
  subst hi
  rw [List.drop_length] at hA
  cases hA
  refine Y20 ?_;refine Tri.ret ⟨.inr rfl, _, Ghost.refl _, ret1 rfl resV_tmp (iv_imp (by rw [hr1])), fun l ob hl => ⟨ob, ?_, ObImp.refl _⟩⟩;rw [get_append]
  cases hg : get HR l with
  | some o => exact absurd (get_keys hg) (hdisj l ob hl)
  | none => simpa using hl
theorem conPat_c {vf : PV} {f : FuncId} {first captured : List PV} {HR : List (Nat × Ob)} (hvf : fnV vf = some (f, first, captured)) (hst : Str vf vf) (hnt : isTup vf = false) (hent : entersB Tryz.prog f = true) (hna : (first ++ captured).any isTup = false)
  (hfree : ∀ l ob, get HR l = some ob → freeOb ob = true) {ps : List Pu} (hlen : ps.length < 4611686018427387904) {H H' : List (Nat × Ob)} {r : Option Nat} (hd0 : disjB HR H' = true) (hd1 : disjB HR H = true) (hk : ∀ l ob, get H l = some ob → ∃ ob', get H' l = some ob')
  (h : AnyC Tryz.prog G f first captured HR ps H r H') : HCall Tryz.prog G 120 [.pu (.sl lo 104 ps), vf] HR H (bv r.isSome) H' [] := by
 refine HCall.of_tri tbl (n := 9) (L := keysOf H' ++ heapLabs H') Tryz.func120 rfl rfl hfree (fun l ob hl => disjB_none hd0 hl) (fun l hl => by simp [PV.labs] at hl) (fun l ob hl => keys_mem hl) hk ?_
 rintro ⟨w0, n', M, G', L, R, ρ0, D0, ro⟩ hn hG hL hR' hro
 simp only at hn hG hL hR' hro
 subst hn hG hL hR' hro
 have hHR : ∀ l ob, get HR l = some ob → ∃ ob1, get (HR ++ H) l = some ob1 ∧ ObImp Tryz.prog ob1 ob := fun l ob hl => ⟨ob, by rw [get_append, hl]; rfl, ObImp.refl _⟩
 have hH1 : ∀ l ob, get H l = some ob → l ∉ keysOf HR ∧ ∃ ob1, get (HR ++ H) l = some ob1 ∧ ObImp Tryz.prog ob1 ob := fun l ob hl => by
  have hz := disjB_none hd1 hl
  refine ⟨fun hm => ?_, ob, ?_, ObImp.refl _⟩
  ·obtain ⟨ob', ho⟩ := get_some_of (a := HR) hm
   rw [hz] at ho; cases ho
  ·rw [get_append, hz]; simpa using hl
 refine Y20 ?_;refine Y1 ?_;refine s_val (v_move SS (h := Ev.mk rfl hst)) ?_;refine step_call (vf := .pu (.leaf (.func (.func 184) #[] #[]))) (first := []) (captured := []) (vs := [.pu (.sl lo 104 ps), vf]) (HR := HR) (H := H) (news := []) rfl .pu rfl (by kernel_rfl) (.cons (.mk rfl .pu) (.cons (.mk rfl hst) .nil)) (by rw [List.any_cons, List.any_cons, hnt]; rfl) (VImps.refl _) (by rw [List.nil_append, List.append_nil, List.any_cons, List.any_cons, hnt]; rfl) hHR hH1 (idxPat_c hvf hst hnt hent hna hfree hlen hd0 hk (fun l ob hl => disjB_none' hd1 hl) h) rfl ?_;refine yI ?_;refine Y14 ?_;refine Tri.ret ⟨.inr rfl, _, Ghost.refl _, ret1 rfl resV_tmp (bv_imp ?_), fun l ob hl => ⟨ob, by rw [get_append, hl]; rfl, ObImp.refl _⟩⟩
 cases r with
 | none => simp [idxV]
 | some j => simp [idxV]
theorem conPat_d (vf : PV) {f : FuncId} {first captured : List PV} {HR : List (Nat × Ob)} {ps : List Pu} (hlen : ps.length < 4611686018427387904) {H H' : List (Nat × Ob)} {r : Option Nat} (h : AnyC Tryz.prog G f first captured HR ps H r H')
  (hvf : fnV vf = some (f, first, captured) := by rfl) (hst : Str vf vf := by repeat constructor) (hnt : isTup vf = false := by rfl) (hent : entersB Tryz.prog f = true := by kernel_rfl) (hna : (first ++ captured).any isTup = false := by rfl)
  (hfree : HR.all (fun q => freeOb q.2) = true := by rfl) (hd0 : disjB HR H' = true := by rfl) (hd1 : disjB HR H = true := by rfl) (hk : ((keysOf H).all fun l => (keysOf H').contains l) = true := by rfl) :
  HCall Tryz.prog G 120 [.pu (.sl lo 104 ps), vf] HR H (bv r.isSome) H' [] :=
 conPat_c hvf hst hnt hent hna (fun l ob hl => List.all_eq_true.1 hfree _ (get_mem hl)) hlen hd0 hd1 (fun l ob hl => get_some_of (by simpa [keysOf] using List.all_eq_true.1 hk l (get_keys hl))) h
theorem idxTm_c {vf : PV} {f : FuncId} {first captured : List PV} {HR : List (Nat × Ob)} (hvf : fnV vf = some (f, first, captured)) (hst : Str vf vf) (hnt : isTup vf = false) (hent : entersB Tryz.prog f = true) (hna : (first ++ captured).any isTup = false)
  (hfree : ∀ l ob, get HR l = some ob → freeOb ob = true) {ps : List Pu} (hlen : ps.length < 4611686018427387904) {H H' : List (Nat × Ob)} {r : Option Nat} (hd0 : disjB HR H' = true) (hk : ∀ l ob, get H l = some ob → ∃ ob', get H' l = some ob') (hR : ∀ l ob, get HR l = some ob → get H l = none)
  (h : AnyC Tryz.prog G f first captured HR ps H r H') : HCall Tryz.prog G 185 [.pu (.sl lo 32 ps), vf] HR H (iv .i64 (idxV r)) H' [] := by
 refine HCall.of_tri tbl (n := 19) (L := keysOf H' ++ heapLabs H') Tryz.func185 rfl rfl hfree (fun l ob hl => disjB_none hd0 hl) (fun l hl => by simp [PV.labs] at hl) (fun l ob hl => keys_mem hl) hk ?_
 rintro ⟨w0, n', M, G', L, R, ρ0, D0, ro⟩ hn hG hL hR' hro
 simp only at hn hG hL hR' hro
 subst hn hG hL hR' hro
 have hset : ∀ (i : Nat) (H1 : List (Nat × Ob)) (r1 : Option Nat), AnyC Tryz.prog G' f first captured HR (ps.drop i) H1 r1 H' → True := fun _ _ _ _ => trivial
 let σ := {s : Nat × List (Nat × Ob) × Option Nat // AnyC Tryz.prog G' f first captured HR (ps.drop s.1) s.2.1 s.2.2 H' ∧ s.1 ≤ ps.length ∧ idxV r = (match s.2.2 with | some j => ((s.1 + j : Nat) : Int) | none => -1) ∧ (∀ l ob, get s.2.1 l = some ob → l ∉ keysOf HR)}
 refine Y20 ?_;refine Y62 ?_;refine Tri.block (Tri.loop (σ := σ) (fun s => ⟨[(0, .pu (.sl lo 32 ps)), (1, vf), (7, iv .i64 ps.length), (8, iv .i64 s.1.1)], HR ++ s.1.2.1⟩) (fun s => ps.length - s.1.1) ⟨(0, H, r), by simpa using h, Nat.zero_le _, by cases r <;> simp [idxV], fun l ob hl hm => ?_⟩ ?_ (fun s => ?_))
 ·obtain ⟨ob', ho⟩ := get_some_of (a := HR) hm
  rw [hR l ob' ho] at hl
  cases hl
 ·exact le_same (.cons rfl rfl (.cons rfl rfl (.cons rfl rfl (.cons rfl rfl .nil))))
 obtain ⟨⟨i, H1, r1⟩, hA, hi0, hr1, hdisj⟩ := s
 simp only at hA hi0 hr1 hdisj ⊢
 refine Y5 ?_;refine e_seq ?_;refine Tri.seq (Tri.cond rfl (fun hb => Tri.skip ?_) (fun hb => Tri.exit ?_))
 ·have hi : i < ps.length := by simpa using hb
  obtain ⟨p, hp⟩ : ∃ p, ps[i]? = some p := ⟨ps[i], by simp [hi]⟩
  have hdr : ps.drop i = p :: ps.drop (i + 1) := by
   rw [List.drop_eq_getElem_cons hi]
   simp only [List.getElem?_eq_getElem hi, Option.some.injEq] at hp
   rw [hp]
  rw [hdr] at hA
  have hHR : ∀ l ob, get HR l = some ob → ∃ ob1, get (HR ++ H1) l = some ob1 ∧ ObImp Tryz.prog ob1 ob := fun l ob hl => ⟨ob, by rw [get_append, hl]; rfl, ObImp.refl _⟩
  have hH1 : ∀ l ob, get H1 l = some ob → l ∉ keysOf HR ∧ ∃ ob1, get (HR ++ H1) l = some ob1 ∧ ObImp Tryz.prog ob1 ob := fun l ob hl => by
   refine ⟨hdisj l ob hl, ob, ?_, ObImp.refl _⟩
   rw [get_append]
   cases hg : get HR l with
   | some o => exact absurd (get_keys hg) (hdisj l ob hl)
   | none => simpa using hl
  have hnt2 : (first ++ [PV.pu p] ++ captured).any isTup = false := by
   simp only [List.any_append, Bool.or_eq_false_iff] at hna ⊢
   exact ⟨⟨hna.1, by simp [isTup]⟩, hna.2⟩
  refine Tri.seq (Tri.block ?_);refine Y63 ?_
  cases hA with
  | hit hc hd =>
   refine yR ?_;refine s_val (v_move SS (h := Ev.mk rfl hst)) ?_;refine Y21 ?_;refine s_val (v_index SS (h0 := by omega) (hp := hp)) ?_;refine yL ?_;refine step_call (vf := vf) (first := first) (captured := captured) (vs := [.pu p]) (HR := HR) (H := H1) (news := []) rfl hst hvf hent (.cons (.mk rfl .pu) .nil) rfl (VImps.refl _) hnt2 hHR hH1 hc rfl ?_;refine Y0 ?_;refine Tri.condT rfl ?_;refine Y63 ?_;refine Tri.ret ⟨.inr rfl, _, Ghost.refl _, ret1 rfl resV_tmp (iv_imp ?_), fun l ob hl => ⟨ob, ?_, ObImp.refl _⟩⟩
   ·rw [hr1]
    simp
   ·rw [get_append, hl]; rfl
  | next hc hd t =>
   rename_i H2 r2
   refine yR ?_;refine s_val (v_move SS (h := Ev.mk rfl hst)) ?_;refine Y21 ?_;refine s_val (v_index SS (h0 := by omega) (hp := hp)) ?_;refine yL ?_;refine step_call (vf := vf) (first := first) (captured := captured) (vs := [.pu p]) (HR := HR) (H := H1) (news := []) rfl hst hvf hent (.cons (.mk rfl .pu) .nil) rfl (VImps.refl _) hnt2 hHR hH1 hc rfl ?_;refine Y0 ?_;refine Tri.condF rfl ?_;refine Tri.skip ?_;refine Y27 ?_
   refine ⟨⟨(i + 1, H2, r2), t, hi, ?_, fun l ob hl hm => ?_⟩, by simp; omega, le_call hd (.cons rfl rfl (.cons rfl rfl (.cons rfl rfl (.cons rfl ?_ .nil))))⟩
   ·rw [hr1]
    cases r2 with
    | none => rfl
    | some j => exact congrArg (fun n : Nat => (n : Int)) (show i + (j + 1) = i + 1 + j by omega)
   ·obtain ⟨ob', ho⟩ := get_some_of (a := HR) hm
    rw [disjB_none hd hl] at ho
    cases ho
   ·rw [wrap64 (by omega) (by omega)]
    rfl
 ·have hi : i = ps.length := by
   have : ps.length ≤ i := by simpa using hb
   omega
  subst hi
  rw [List.drop_length] at hA
  cases hA
  refine Y20 ?_;refine Tri.ret ⟨.inr rfl, _, Ghost.refl _, ret1 rfl resV_tmp (iv_imp (by rw [hr1])), fun l ob hl => ⟨ob, ?_, ObImp.refl _⟩⟩;rw [get_append]
  cases hg : get HR l with
  | some o => exact absurd (get_keys hg) (hdisj l ob hl)
  | none => simpa using hl
theorem conTm_c {vf : PV} {f : FuncId} {first captured : List PV} {HR : List (Nat × Ob)} (hvf : fnV vf = some (f, first, captured)) (hst : Str vf vf) (hnt : isTup vf = false) (hent : entersB Tryz.prog f = true) (hna : (first ++ captured).any isTup = false)
  (hfree : ∀ l ob, get HR l = some ob → freeOb ob = true) {ps : List Pu} (hlen : ps.length < 4611686018427387904) {H H' : List (Nat × Ob)} {r : Option Nat} (hd0 : disjB HR H' = true) (hd1 : disjB HR H = true) (hk : ∀ l ob, get H l = some ob → ∃ ob', get H' l = some ob')
  (h : AnyC Tryz.prog G f first captured HR ps H r H') : HCall Tryz.prog G 122 [.pu (.sl lo 32 ps), vf] HR H (bv r.isSome) H' [] := by
 refine HCall.of_tri tbl (n := 9) (L := keysOf H' ++ heapLabs H') Tryz.func122 rfl rfl hfree (fun l ob hl => disjB_none hd0 hl) (fun l hl => by simp [PV.labs] at hl) (fun l ob hl => keys_mem hl) hk ?_
 rintro ⟨w0, n', M, G', L, R, ρ0, D0, ro⟩ hn hG hL hR' hro
 simp only at hn hG hL hR' hro
 subst hn hG hL hR' hro
 have hHR : ∀ l ob, get HR l = some ob → ∃ ob1, get (HR ++ H) l = some ob1 ∧ ObImp Tryz.prog ob1 ob := fun l ob hl => ⟨ob, by rw [get_append, hl]; rfl, ObImp.refl _⟩
 have hH1 : ∀ l ob, get H l = some ob → l ∉ keysOf HR ∧ ∃ ob1, get (HR ++ H) l = some ob1 ∧ ObImp Tryz.prog ob1 ob := fun l ob hl => by
  have hz := disjB_none hd1 hl
  refine ⟨fun hm => ?_, ob, ?_, ObImp.refl _⟩
  ·obtain ⟨ob', ho⟩ := get_some_of (a := HR) hm
   rw [hz] at ho; cases ho
  ·rw [get_append, hz]; simpa using hl
 refine Y20 ?_;refine Y1 ?_;refine s_val (v_move SS (h := Ev.mk rfl hst)) ?_;refine step_call (vf := .pu (.leaf (.func (.func 185) #[] #[]))) (first := []) (captured := []) (vs := [.pu (.sl lo 32 ps), vf]) (HR := HR) (H := H) (news := []) rfl .pu rfl (by kernel_rfl) (.cons (.mk rfl .pu) (.cons (.mk rfl hst) .nil)) (by rw [List.any_cons, List.any_cons, hnt]; rfl) (VImps.refl _) (by rw [List.nil_append, List.append_nil, List.any_cons, List.any_cons, hnt]; rfl) hHR hH1 (idxTm_c hvf hst hnt hent hna hfree hlen hd0 hk (fun l ob hl => disjB_none' hd1 hl) h) rfl ?_;refine yI ?_;refine Y14 ?_;refine Tri.ret ⟨.inr rfl, _, Ghost.refl _, ret1 rfl resV_tmp (bv_imp ?_), fun l ob hl => ⟨ob, by rw [get_append, hl]; rfl, ObImp.refl _⟩⟩
 cases r with
 | none => simp [idxV]
 | some j => simp [idxV]
theorem conTm_d (vf : PV) {f : FuncId} {first captured : List PV} {HR : List (Nat × Ob)} {ps : List Pu} (hlen : ps.length < 4611686018427387904) {H H' : List (Nat × Ob)} {r : Option Nat} (h : AnyC Tryz.prog G f first captured HR ps H r H')
  (hvf : fnV vf = some (f, first, captured) := by rfl) (hst : Str vf vf := by repeat constructor) (hnt : isTup vf = false := by rfl) (hent : entersB Tryz.prog f = true := by kernel_rfl) (hna : (first ++ captured).any isTup = false := by rfl)
  (hfree : HR.all (fun q => freeOb q.2) = true := by rfl) (hd0 : disjB HR H' = true := by rfl) (hd1 : disjB HR H = true := by rfl) (hk : ((keysOf H).all fun l => (keysOf H').contains l) = true := by rfl) :
  HCall Tryz.prog G 122 [.pu (.sl lo 32 ps), vf] HR H (bv r.isSome) H' [] :=
 conTm_c hvf hst hnt hent hna (fun l ob hl => List.all_eq_true.1 hfree _ (get_mem hl)) hlen hd0 hd1 (fun l ob hl => get_some_of (by simpa [keysOf] using List.all_eq_true.1 hk l (get_keys hl))) h
theorem idxCs_c {vf : PV} {f : FuncId} {first captured : List PV} {HR : List (Nat × Ob)} (hvf : fnV vf = some (f, first, captured)) (hst : Str vf vf) (hnt : isTup vf = false) (hent : entersB Tryz.prog f = true) (hna : (first ++ captured).any isTup = false)
  (hfree : ∀ l ob, get HR l = some ob → freeOb ob = true) {ps : List Pu} (hlen : ps.length < 4611686018427387904) {H H' : List (Nat × Ob)} {r : Option Nat} (hd0 : disjB HR H' = true) (hk : ∀ l ob, get H l = some ob → ∃ ob', get H' l = some ob') (hR : ∀ l ob, get HR l = some ob → get H l = none)
  (h : AnyC Tryz.prog G f first captured HR ps H r H') : HCall Tryz.prog G 186 [.pu (.sl lo 106 ps), vf] HR H (iv .i64 (idxV r)) H' [] := by
 refine HCall.of_tri tbl (n := 19) (L := keysOf H' ++ heapLabs H') Tryz.func186 rfl rfl hfree (fun l ob hl => disjB_none hd0 hl) (fun l hl => by simp [PV.labs] at hl) (fun l ob hl => keys_mem hl) hk ?_
 rintro ⟨w0, n', M, G', L, R, ρ0, D0, ro⟩ hn hG hL hR' hro
 simp only at hn hG hL hR' hro
 subst hn hG hL hR' hro
 have hset : ∀ (i : Nat) (H1 : List (Nat × Ob)) (r1 : Option Nat), AnyC Tryz.prog G' f first captured HR (ps.drop i) H1 r1 H' → True := fun _ _ _ _ => trivial
 let σ := {s : Nat × List (Nat × Ob) × Option Nat // AnyC Tryz.prog G' f first captured HR (ps.drop s.1) s.2.1 s.2.2 H' ∧ s.1 ≤ ps.length ∧ idxV r = (match s.2.2 with | some j => ((s.1 + j : Nat) : Int) | none => -1) ∧ (∀ l ob, get s.2.1 l = some ob → l ∉ keysOf HR)}
 refine Y20 ?_;refine Y62 ?_;refine Tri.block (Tri.loop (σ := σ) (fun s => ⟨[(0, .pu (.sl lo 106 ps)), (1, vf), (7, iv .i64 ps.length), (8, iv .i64 s.1.1)], HR ++ s.1.2.1⟩) (fun s => ps.length - s.1.1) ⟨(0, H, r), by simpa using h, Nat.zero_le _, by cases r <;> simp [idxV], fun l ob hl hm => ?_⟩ ?_ (fun s => ?_))
 ·obtain ⟨ob', ho⟩ := get_some_of (a := HR) hm
  rw [hR l ob' ho] at hl
  cases hl
 ·exact le_same (.cons rfl rfl (.cons rfl rfl (.cons rfl rfl (.cons rfl rfl .nil))))
 obtain ⟨⟨i, H1, r1⟩, hA, hi0, hr1, hdisj⟩ := s
 simp only at hA hi0 hr1 hdisj ⊢
 refine Y5 ?_;refine e_seq ?_;refine Tri.seq (Tri.cond rfl (fun hb => Tri.skip ?_) (fun hb => Tri.exit ?_))
 ·have hi : i < ps.length := by simpa using hb
  obtain ⟨p, hp⟩ : ∃ p, ps[i]? = some p := ⟨ps[i], by simp [hi]⟩
  have hdr : ps.drop i = p :: ps.drop (i + 1) := by
   rw [List.drop_eq_getElem_cons hi]
   simp only [List.getElem?_eq_getElem hi, Option.some.injEq] at hp
   rw [hp]
  rw [hdr] at hA
  have hHR : ∀ l ob, get HR l = some ob → ∃ ob1, get (HR ++ H1) l = some ob1 ∧ ObImp Tryz.prog ob1 ob := fun l ob hl => ⟨ob, by rw [get_append, hl]; rfl, ObImp.refl _⟩
  have hH1 : ∀ l ob, get H1 l = some ob → l ∉ keysOf HR ∧ ∃ ob1, get (HR ++ H1) l = some ob1 ∧ ObImp Tryz.prog ob1 ob := fun l ob hl => by
   refine ⟨hdisj l ob hl, ob, ?_, ObImp.refl _⟩
   rw [get_append]
   cases hg : get HR l with
   | some o => exact absurd (get_keys hg) (hdisj l ob hl)
   | none => simpa using hl
  have hnt2 : (first ++ [PV.pu p] ++ captured).any isTup = false := by
   simp only [List.any_append, Bool.or_eq_false_iff] at hna ⊢
   exact ⟨⟨hna.1, by simp [isTup]⟩, hna.2⟩
  refine Tri.seq (Tri.block ?_);refine Y63 ?_
  cases hA with
  | hit hc hd =>
   refine yR ?_;refine s_val (v_move SS (h := Ev.mk rfl hst)) ?_;refine Y21 ?_;refine s_val (v_index SS (h0 := by omega) (hp := hp)) ?_;refine yL ?_;refine step_call (vf := vf) (first := first) (captured := captured) (vs := [.pu p]) (HR := HR) (H := H1) (news := []) rfl hst hvf hent (.cons (.mk rfl .pu) .nil) rfl (VImps.refl _) hnt2 hHR hH1 hc rfl ?_;refine Y0 ?_;refine Tri.condT rfl ?_;refine Y63 ?_;refine Tri.ret ⟨.inr rfl, _, Ghost.refl _, ret1 rfl resV_tmp (iv_imp ?_), fun l ob hl => ⟨ob, ?_, ObImp.refl _⟩⟩
   ·rw [hr1]
    simp
   ·rw [get_append, hl]; rfl
  | next hc hd t =>
   rename_i H2 r2
   refine yR ?_;refine s_val (v_move SS (h := Ev.mk rfl hst)) ?_;refine Y21 ?_;refine s_val (v_index SS (h0 := by omega) (hp := hp)) ?_;refine yL ?_;refine step_call (vf := vf) (first := first) (captured := captured) (vs := [.pu p]) (HR := HR) (H := H1) (news := []) rfl hst hvf hent (.cons (.mk rfl .pu) .nil) rfl (VImps.refl _) hnt2 hHR hH1 hc rfl ?_;refine Y0 ?_;refine Tri.condF rfl ?_;refine Tri.skip ?_;refine Y27 ?_
   refine ⟨⟨(i + 1, H2, r2), t, hi, ?_, fun l ob hl hm => ?_⟩, by simp; omega, le_call hd (.cons rfl rfl (.cons rfl rfl (.cons rfl rfl (.cons rfl ?_ .nil))))⟩
   ·rw [hr1]
    cases r2 with
    | none => rfl
    | some j => exact congrArg (fun n : Nat => (n : Int)) (show i + (j + 1) = i + 1 + j by omega)
   ·obtain ⟨ob', ho⟩ := get_some_of (a := HR) hm
    rw [disjB_none hd hl] at ho
    cases ho
   ·rw [wrap64 (by omega) (by omega)]
    rfl
 ·have hi : i = ps.length := by
   have : ps.length ≤ i := by simpa using hb
   omega
  subst hi
  rw [List.drop_length] at hA
  cases hA
  refine Y20 ?_;refine Tri.ret ⟨.inr rfl, _, Ghost.refl _, ret1 rfl resV_tmp (iv_imp (by rw [hr1])), fun l ob hl => ⟨ob, ?_, ObImp.refl _⟩⟩;rw [get_append]
  cases hg : get HR l with
  | some o => exact absurd (get_keys hg) (hdisj l ob hl)
  | none => simpa using hl
theorem conCs_c {vf : PV} {f : FuncId} {first captured : List PV} {HR : List (Nat × Ob)} (hvf : fnV vf = some (f, first, captured)) (hst : Str vf vf) (hnt : isTup vf = false) (hent : entersB Tryz.prog f = true) (hna : (first ++ captured).any isTup = false)
  (hfree : ∀ l ob, get HR l = some ob → freeOb ob = true) {ps : List Pu} (hlen : ps.length < 4611686018427387904) {H H' : List (Nat × Ob)} {r : Option Nat} (hd0 : disjB HR H' = true) (hd1 : disjB HR H = true) (hk : ∀ l ob, get H l = some ob → ∃ ob', get H' l = some ob')
  (h : AnyC Tryz.prog G f first captured HR ps H r H') : HCall Tryz.prog G 123 [.pu (.sl lo 106 ps), vf] HR H (bv r.isSome) H' [] := by
 refine HCall.of_tri tbl (n := 9) (L := keysOf H' ++ heapLabs H') Tryz.func123 rfl rfl hfree (fun l ob hl => disjB_none hd0 hl) (fun l hl => by simp [PV.labs] at hl) (fun l ob hl => keys_mem hl) hk ?_
 rintro ⟨w0, n', M, G', L, R, ρ0, D0, ro⟩ hn hG hL hR' hro
 simp only at hn hG hL hR' hro
 subst hn hG hL hR' hro
 have hHR : ∀ l ob, get HR l = some ob → ∃ ob1, get (HR ++ H) l = some ob1 ∧ ObImp Tryz.prog ob1 ob := fun l ob hl => ⟨ob, by rw [get_append, hl]; rfl, ObImp.refl _⟩
 have hH1 : ∀ l ob, get H l = some ob → l ∉ keysOf HR ∧ ∃ ob1, get (HR ++ H) l = some ob1 ∧ ObImp Tryz.prog ob1 ob := fun l ob hl => by
  have hz := disjB_none hd1 hl
  refine ⟨fun hm => ?_, ob, ?_, ObImp.refl _⟩
  ·obtain ⟨ob', ho⟩ := get_some_of (a := HR) hm
   rw [hz] at ho; cases ho
  ·rw [get_append, hz]; simpa using hl
 refine Y20 ?_;refine Y1 ?_;refine s_val (v_move SS (h := Ev.mk rfl hst)) ?_;refine step_call (vf := .pu (.leaf (.func (.func 186) #[] #[]))) (first := []) (captured := []) (vs := [.pu (.sl lo 106 ps), vf]) (HR := HR) (H := H) (news := []) rfl .pu rfl (by kernel_rfl) (.cons (.mk rfl .pu) (.cons (.mk rfl hst) .nil)) (by rw [List.any_cons, List.any_cons, hnt]; rfl) (VImps.refl _) (by rw [List.nil_append, List.append_nil, List.any_cons, List.any_cons, hnt]; rfl) hHR hH1 (idxCs_c hvf hst hnt hent hna hfree hlen hd0 hk (fun l ob hl => disjB_none' hd1 hl) h) rfl ?_;refine yI ?_;refine Y14 ?_;refine Tri.ret ⟨.inr rfl, _, Ghost.refl _, ret1 rfl resV_tmp (bv_imp ?_), fun l ob hl => ⟨ob, by rw [get_append, hl]; rfl, ObImp.refl _⟩⟩
 cases r with
 | none => simp [idxV]
 | some j => simp [idxV]
theorem conCs_d (vf : PV) {f : FuncId} {first captured : List PV} {HR : List (Nat × Ob)} {ps : List Pu} (hlen : ps.length < 4611686018427387904) {H H' : List (Nat × Ob)} {r : Option Nat} (h : AnyC Tryz.prog G f first captured HR ps H r H')
  (hvf : fnV vf = some (f, first, captured) := by rfl) (hst : Str vf vf := by repeat constructor) (hnt : isTup vf = false := by rfl) (hent : entersB Tryz.prog f = true := by kernel_rfl) (hna : (first ++ captured).any isTup = false := by rfl)
  (hfree : HR.all (fun q => freeOb q.2) = true := by rfl) (hd0 : disjB HR H' = true := by rfl) (hd1 : disjB HR H = true := by rfl) (hk : ((keysOf H).all fun l => (keysOf H').contains l) = true := by rfl) :
  HCall Tryz.prog G 123 [.pu (.sl lo 106 ps), vf] HR H (bv r.isSome) H' [] :=
 conCs_c hvf hst hnt hent hna (fun l ob hl => List.all_eq_true.1 hfree _ (get_mem hl)) hlen hd0 hd1 (fun l ob hl => get_some_of (by simpa [keysOf] using List.all_eq_true.1 hk l (get_keys hl))) h
end Go.Proofs.YtkcgkignhpepkaaGreatDoor

/- The kit's words for terms. -/
namespace Go.Proofs.YtkcgkignhpepkaaGreatDoor
open Go Hs
variable {G : List (Nat × TypeId × Pu)}
theorem Nu_c (n : Int) : FCall Tryz.prog G 33 [iv .i64 n] (.pu (tmc 0 (.mk 2 n Z32 [] []))) := by
 refine FCall.of_tri tbl 5 Tryz.func33 rfl rfl rfl fun w0 M ρ0 D0 => ?_
 refine yR ?_;refine s_alloc SS 2 ?_;refine e_seqN [2] ?_;refine Y1 ?_;refine yP ?_;refine Y17 ?_;exact Tri.ret ⟨.inr rfl, ret1 rfl resV_cell (ToPu.imp (by repeat constructor))⟩
theorem Va_c (n : Int) : FCall Tryz.prog G 32 [iv .i64 n] (.pu (tmc 0 (.mk 1 n Z32 [] []))) := by
 refine FCall.of_tri tbl 5 Tryz.func32 rfl rfl rfl fun w0 M ρ0 D0 => ?_
 refine yR ?_;refine s_alloc SS 2 ?_;refine e_seqN [2] ?_;refine Y1 ?_;refine yP ?_;refine Y17 ?_;exact Tri.ret ⟨.inr rfl, ret1 rfl resV_cell (ToPu.imp (by repeat constructor))⟩
theorem Ca_c (p : Pat) (t : Tm) : FCall Tryz.prog G 65 [.pu (patc 0 p), .pu (tmc 0 t)] (.pu (csec 0 (.mk p t))) := by
 refine FCall.of_tri tbl 8 Tryz.func65 rfl rfl rfl fun w0 M ρ0 D0 => ?_
 refine yR ?_;refine s_box SS 2 ?_;refine s_box SS 3 ?_;refine s_alloc SS 4 ?_;refine e_seqN [2, 3, 4] ?_;refine Y36 ?_;refine yP ?_;refine Y17 ?_;exact Tri.ret ⟨.inr rfl, ret1 rfl resV_cell (ToPu.imp (by repeat constructor))⟩
theorem Ma_c (t : Tm) (cs : List Cs) : FCall Tryz.prog G 62 [.pu (tmc 0 t), .pu (.sl 0 106 (cssc 0 cs))] (.pu (tmc 0 (.mk 9 0 Z32 [t] cs))) := by
 refine FCall.of_tri tbl 9 Tryz.func62 rfl rfl rfl fun w0 M ρ0 D0 => ?_
 refine yR ?_;refine s_box SS 2 ?_;refine s_alloc SS 4 ?_;refine e_seqN [2, 4] ?_;refine Y4 ?_;refine yZ ?_;refine yM ?_;refine yP ?_;refine Y17 ?_;exact Tri.ret ⟨.inr rfl, ret1 rfl resV_cell (ToPu.imp (by repeat constructor))⟩
theorem Ap_c (s t : Tm) : FCall Tryz.prog G 31 [.pu (tmc 0 s), .pu (tmc 0 t)] (.pu (tmc 0 (.mk 4 0 Z32 [s, t] []))) := by
 refine FCall.of_tri tbl 9 Tryz.func31 rfl rfl rfl fun w0 M ρ0 D0 => ?_
 refine yR ?_;refine s_box SS 2 ?_;refine s_box SS 3 ?_;refine s_alloc SS 4 ?_;refine e_seqN [2, 3, 4] ?_;refine Y36 ?_;refine Y64 ?_;refine Y17 ?_;exact Tri.ret ⟨.inr rfl, ret1 rfl resV_cell (ToPu.imp (by repeat constructor))⟩
theorem De_c (r : List Int) : FCall Tryz.prog G 61 [.pu (refP r)] (.pu (tmc 0 (.mk 6 0 r [] []))) := by
 refine FCall.of_tri tbl 5 Tryz.func61 rfl rfl rfl fun w0 M ρ0 D0 => ?_
 refine yR ?_;refine s_box SS 1 ?_;refine s_alloc SS 2 ?_;refine e_seqN [1, 2] ?_;refine Y4 ?_;refine yP ?_;refine Y17 ?_;exact Tri.ret ⟨.inr rfl, ret1 rfl resV_cell (ToPu.imp (by repeat constructor))⟩
theorem Co_c (r : List Int) (n : Int) (ks : List Tm) : FCall Tryz.prog G 43 [.pu (refP r), iv .i64 n, .pu (.sl 0 32 (tmsc 0 ks))] (.pu (tmc 0 (.mk 8 n r ks []))) := by
 refine FCall.of_tri tbl 11 Tryz.func43 rfl rfl rfl fun w0 M ρ0 D0 => ?_
 refine yR ?_;refine s_box SS 3 ?_;refine s_alloc SS 6 ?_;refine e_seqN [3, 6] ?_;refine Y4 ?_;refine Y21 ?_;refine yP ?_;refine Y17 ?_;exact Tri.ret ⟨.inr rfl, ret1 rfl resV_cell (ToPu.imp (by repeat constructor))⟩
theorem La_c (t : Tm) : FCall Tryz.prog G 30 [.pu (tmc 0 t)] (.pu (tmc 0 (.mk 3 0 Z32 [t] []))) := by
 refine FCall.of_tri tbl 6 Tryz.func30 rfl rfl rfl fun w0 M ρ0 D0 => ?_
 refine yR ?_;refine s_box SS 1 ?_;refine s_alloc SS 2 ?_;refine e_seqN [1, 2] ?_;refine Y4 ?_;refine Y64 ?_;refine Y17 ?_;exact Tri.ret ⟨.inr rfl, ret1 rfl resV_cell (ToPu.imp (by repeat constructor))⟩
theorem Pr_c (n : Int) (s t : Tm) : FCall Tryz.prog G 34 [iv .i64 n, .pu (tmc 0 s), .pu (tmc 0 t)] (.pu (tmc 0 (.mk 10 n Z32 [s, t] []))) := by
 refine FCall.of_tri tbl 12 Tryz.func34 rfl rfl rfl fun w0 M ρ0 D0 => ?_
 refine yR ?_;refine s_box SS 4 ?_;refine s_box SS 5 ?_;refine s_alloc SS 6 ?_;refine e_seqN [4, 5, 6] ?_;refine Y32 ?_;refine Y56 ?_;refine yP ?_;refine Y17 ?_;exact Tri.ret ⟨.inr rfl, ret1 rfl resV_cell (ToPu.imp (by repeat constructor))⟩
theorem Any_c : FCall Tryz.prog G 68 [] (.pu (patc 0 (.mk 1 0 Z32 []))) := by
 refine FCall.of_tri tbl 2 Tryz.func68 rfl rfl rfl fun w0 M ρ0 D0 => ?_
 refine yR ?_;refine s_alloc SS 0 ?_;refine e_seqN [0] ?_;refine yR ?_;refine yP ?_;refine Y17 ?_;exact Tri.ret ⟨.inr rfl, ret1 rfl resV_cell (ToPu.imp (by repeat constructor))⟩
theorem PN_c (n : Int) : FCall Tryz.prog G 66 [iv .i64 n] (.pu (patc 0 (.mk 2 n Z32 []))) := by
 refine FCall.of_tri tbl 5 Tryz.func66 rfl rfl rfl fun w0 M ρ0 D0 => ?_
 refine yR ?_;refine s_alloc SS 2 ?_;refine e_seqN [2] ?_;refine Y1 ?_;refine yP ?_;refine Y17 ?_;exact Tri.ret ⟨.inr rfl, ret1 rfl resV_cell (ToPu.imp (by repeat constructor))⟩
end Go.Proofs.YtkcgkignhpepkaaGreatDoor

/- The law's own words for terms. -/
namespace Go.Proofs.YtkcgkignhpepkaaGreatDoor
open Go Hs
variable {G : List (Nat × TypeId × Pu)}
def vaT (n : Int) : Tm := .mk 1 n Z32 [] []
def nuT (n : Int) : Tm := .mk 2 n Z32 [] []
def apT (s t : Tm) : Tm := .mk 4 0 Z32 [s, t] []
theorem Once_c : FCall Tryz.prog G 71 [] (.pu (tmc 0 (apT (vaT 0) (vaT 1)))) := by
 refine FCall.of_tri tbl 4 Tryz.func71 rfl rfl rfl fun w0 M ρ0 D0 => ?_
 refine yR ?_;refine s_alloc SS 0 ?_;refine e_seqN [0] ?_;refine yR ?_;refine s_val (v_callD (fun _ => Va_c 0)) ?_;refine s_val (v_callD (fun _ => Va_c 1)) ?_;refine s_val (v_callD (fun _ => Ap_c (vaT 0) (vaT 1))) ?_;refine Y17 ?_;exact Tri.ret ⟨.inr rfl, ret1 rfl resV_cell (ToPu.imp (by repeat constructor))⟩
theorem Ask_c (r : List Int) (n : Int) (t : Tm) : FCall Tryz.prog G 38 [.pu (refP r), iv .i64 n, .pu (tmc 0 t)] (.pu (tmc 0 (.mk 11 n r [t] []))) := by
 refine FCall.of_tri tbl 12 Tryz.func38 rfl rfl rfl fun w0 M ρ0 D0 => ?_
 refine yR ?_;refine s_box SS 3 ?_;refine s_box SS 5 ?_;refine s_alloc SS 6 ?_;refine e_seqN [3, 5, 6] ?_;refine Y4 ?_;refine Y30 ?_;refine Y64 ?_;refine Y17 ?_;exact Tri.ret ⟨.inr rfl, ret1 rfl resV_cell (ToPu.imp (by repeat constructor))⟩
def prT (n : Int) (s t : Tm) : Tm := .mk 10 n Z32 [s, t] []
theorem Twice_c : FCall Tryz.prog G 72 [] (.pu (tmc 0 (prT 1 (apT (vaT 0) (nuT 1)) (apT (vaT 0) (nuT 2))))) := by
 refine FCall.of_tri tbl 8 Tryz.func72 rfl rfl rfl fun w0 M ρ0 D0 => ?_
 refine yR ?_;refine s_alloc SS 0 ?_;refine e_seqN [0] ?_;refine yR ?_;refine s_val (v_callD (fun _ => Va_c 0)) ?_;refine s_val (v_callD (fun _ => Nu_c 1)) ?_;refine s_val (v_callD (fun _ => Ap_c (vaT 0) (nuT 1))) ?_;refine s_val (v_callD (fun _ => Va_c 0)) ?_;refine s_val (v_callD (fun _ => Nu_c 2)) ?_;refine s_val (v_callD (fun _ => Ap_c (vaT 0) (nuT 2))) ?_;refine s_val (v_callD (fun _ => Pr_c 1 (apT (vaT 0) (nuT 1)) (apT (vaT 0) (nuT 2)))) ?_;refine Y17 ?_;exact Tri.ret ⟨.inr rfl, ret1 rfl resV_cell (ToPu.imp (by repeat constructor))⟩
end Go.Proofs.YtkcgkignhpepkaaGreatDoor

/- Patterns of one's own. -/
namespace Go.Proofs.YtkcgkignhpepkaaGreatDoor
open Go Hs
variable {G : List (Nat × TypeId × Pu)}
end Go.Proofs.YtkcgkignhpepkaaGreatDoor

/- Terms of one's own. -/
namespace Go.Proofs.YtkcgkignhpepkaaGreatDoor
open Go Hs
variable {G : List (Nat × TypeId × Pu)}
end Go.Proofs.YtkcgkignhpepkaaGreatDoor

/- How many more variables a kid binds; how many a pattern binds. -/
namespace Go.Proofs.YtkcgkignhpepkaaGreatDoor
open Go Hs
variable {G : List (Nat × TypeId × Pu)}
def moreM (kind kid : Int) : Int := if kind = 3 ∨ (kind = 5 ∧ kid = 1) ∨ (kind = 12 ∧ kid = 1) then 1 else if kind = 12 ∧ 1 < kid then 2 else 0
theorem stepMore_c (kind kid : Int) : FCall Tryz.prog G 220 [iv .i64 kind, iv .i64 kid] (iv .i64 (moreM kind kid)) := by
 refine FCall.of_tri tbl 25 Tryz.func220 rfl rfl rfl fun w0 M ρ0 D0 => ?_
 refine Y8 ?_;refine Tri.block ?_;refine Y38 ?_;refine Tri.cond rfl (fun h0 => ?_) (fun h0 => ?_)
 ·skip
  refine Tri.skip ?_;refine tQ ?_;refine Tri.cond rfl (fun h1 => ?_) (fun h1 => ?_)
  ·skip
   refine Y8 ?_;exact Tri.ret ⟨.inr rfl, ret1 rfl resV_tmp (iv_imp (by simp_all [moreM]; try omega))⟩
  ·skip
   refine Y51 ?_;refine Tri.cond rfl (fun h2 => ?_) (fun h2 => ?_)
   ·skip
    refine Y8 ?_;exact Tri.ret ⟨.inr rfl, ret1 rfl resV_tmp (iv_imp (by simp_all [moreM]; try omega))⟩
   ·skip
    refine Tri.skip ?_;refine Y8 ?_;exact Tri.ret ⟨.inr rfl, ret1 rfl resV_tmp (iv_imp (by simp_all [moreM]; try omega))⟩
 ·skip
  refine Y11 ?_;refine Y22 ?_;refine xI ?_;refine xM ?_;refine xM ?_;refine xI ?_;refine xO ?_;refine yN ?_;refine Y2 ?_;refine Tri.cond rfl (fun h1 => ?_) (fun h1 => ?_)
  ·skip
   refine Y8 ?_;exact Tri.ret ⟨.inr rfl, ret1 rfl resV_tmp (iv_imp (by simp_all [moreM]; try omega))⟩
  ·skip
   refine Y51 ?_;refine Tri.cond rfl (fun h2 => ?_) (fun h2 => ?_)
   ·skip
    refine Y8 ?_;exact Tri.ret ⟨.inr rfl, ret1 rfl resV_tmp (iv_imp (by simp_all [moreM]; try omega))⟩
   ·skip
    refine Tri.skip ?_;refine Y8 ?_;exact Tri.ret ⟨.inr rfl, ret1 rfl resV_tmp (iv_imp (by simp_all [moreM]; try omega))⟩
theorem termMore_c (kind kid : Int) : FCall Tryz.prog G 192 [iv .i64 kind, iv .i64 kid] (iv .i64 (moreM kind kid)) := by
 refine FCall.of_tri tbl 27 Tryz.func192 rfl rfl rfl fun w0 M ρ0 D0 => ?_
 refine Y8 ?_;refine Tri.block ?_;refine Y38 ?_;refine Tri.cond rfl (fun h0 => ?_) (fun h0 => ?_)
 ·skip
  refine Tri.skip ?_;refine tQ ?_;refine Tri.cond rfl (fun h2 => ?_) (fun h2 => ?_)
  ·skip
   refine Y8 ?_;exact Tri.ret ⟨.inr rfl, ret1 rfl resV_tmp (iv_imp (by simp_all [moreM]; try omega))⟩
  ·skip
   refine Y51 ?_;refine Tri.cond rfl (fun h3 => ?_) (fun h3 => ?_)
   ·skip
    refine Y8 ?_;exact Tri.ret ⟨.inr rfl, ret1 rfl resV_tmp (iv_imp (by simp_all [moreM]; try omega))⟩
   ·skip
    refine Tri.skip ?_;refine Y8 ?_;exact Tri.ret ⟨.inr rfl, ret1 rfl resV_tmp (iv_imp (by simp_all [moreM]; try omega))⟩
 ·skip
  refine Y51 ?_;refine Tri.cond rfl (fun h1 => ?_) (fun h1 => ?_)
  ·skip
   refine Tri.skip ?_;refine tQ ?_;refine Tri.cond rfl (fun h2 => ?_) (fun h2 => ?_)
   ·skip
    refine Y8 ?_;exact Tri.ret ⟨.inr rfl, ret1 rfl resV_tmp (iv_imp (by simp_all [moreM]; try omega))⟩
   ·skip
    refine Y51 ?_;refine Tri.cond rfl (fun h3 => ?_) (fun h3 => ?_)
    ·skip
     refine Y8 ?_;exact Tri.ret ⟨.inr rfl, ret1 rfl resV_tmp (iv_imp (by simp_all [moreM]; try omega))⟩
    ·skip
     refine Tri.skip ?_;refine Y8 ?_;exact Tri.ret ⟨.inr rfl, ret1 rfl resV_tmp (iv_imp (by simp_all [moreM]; try omega))⟩
  ·skip
   refine Y51 ?_;refine Tri.cond rfl (fun h2 => ?_) (fun h2 => ?_)
   ·skip
    refine Y8 ?_;exact Tri.ret ⟨.inr rfl, ret1 rfl resV_tmp (iv_imp (by simp_all [moreM]; try omega))⟩
   ·skip
    refine Y51 ?_;refine Tri.cond rfl (fun h3 => ?_) (fun h3 => ?_)
    ·skip
     refine Y8 ?_;exact Tri.ret ⟨.inr rfl, ret1 rfl resV_tmp (iv_imp (by simp_all [moreM]; try omega))⟩
    ·skip
     refine Tri.skip ?_;refine Y8 ?_;exact Tri.ret ⟨.inr rfl, ret1 rfl resV_tmp (iv_imp (by simp_all [moreM]; try omega))⟩
mutual
def bindsM : Pat → Int
 | .mk k _ _ ks => if k = 1 then 1 else bindsL ks
def bindsL : List Pat → Int
 | [] => 0
 | p :: ps => bindsM p + bindsL ps
end
mutual
theorem binds_bound : ∀ (p : Pat), 0 ≤ bindsM p ∧ bindsM p ≤ psize p
 | .mk k n r ks => by
  have := bindsL_bound ks
  simp only [bindsM, psize]
  split <;> omega
theorem bindsL_bound : ∀ (ps : List Pat), 0 ≤ bindsL ps ∧ bindsL ps ≤ psizeL ps
 | [] => by simp [bindsL, psizeL]
 | p :: ps => by
  have := binds_bound p
  have := bindsL_bound ps
  simp only [bindsL, psizeL]
  omega
end
theorem bindsL_take : ∀ {ks : List Pat} {i : Nat} (h : i < ks.length), bindsL (ks.take (i + 1)) = bindsL (ks.take i) + bindsM ks[i]
 | p :: ps, 0, _ => by simp [bindsL]
 | p :: ps, i + 1, h => by
  have := bindsL_take (ks := ps) (i := i) (by simpa using h)
  simp [bindsL, this]; omega
theorem stepBinds_c : ∀ (N : Nat) (p : Pat), psize p ≤ N → N < 2^40 → FCall Tryz.prog G 222 [.pu (patc 0 p)] (iv .i64 (bindsM p)) := by
 intro N
 induction N with
 | zero => intro p h; cases p; simp [psize] at h
 | succ N ih =>
 intro p hp hN
 obtain ⟨k, n, r, ks⟩ := p
 simp only [psize] at hp
 have hlen := length_psizeL ks
 refine FCall.of_tri tbl 22 Tryz.func222 rfl rfl rfl fun w0 M ρ0 D0 => ?_
 refine yR ?_;refine s_box SS 1 ?_;refine yB ?_;refine e_seqN [1] ?_;refine Y34 ?_;refine Y0 ?_;refine Tri.cond rfl (fun h0 => ?_) (fun h0 => ?_)
 ·skip
  refine Y8 ?_;exact Tri.ret ⟨.inr rfl, ret1 rfl resV_tmp (iv_imp (by simp_all [bindsM]))⟩
 ·skip
  refine Tri.skip ?_;refine Y20 ?_;refine Y52 ?_;refine Y33 ?_;refine Tri.block (Tri.loopW (σ := Nat) (fun i => ⟨[(10, .pu (.sl 0 104 (patsc 0 ks))), (11, iv .i64 (patsc 0 ks).length), (12, iv .i64 i), (3, iv .i64 (bindsL (ks.take i)))], []⟩) (fun i => ks.length - i) 0 ?_ ?_ (fun i => ?_))
  ·exact zW
  ·exact zW
  refine Y31 ?_;refine Tri.cond rfl (fun h1 => ?_) (fun h1 => ?_)
  ·skip
   have hi : i < ks.length := by simpa [pats_eq] using h1
   have h1' := bindsL_bound (ks.take i)
   have h2 := binds_bound ks[i]
   have h3 := psizeL_take (ks := ks) (i := i)
   have h4 := psizeL_get hi
   refine Tri.skip ?_;refine tQ ?_;refine Tri.block ?_;refine yR ?_;refine s_val (v_index SS (h0 := by omega) (hp := pats_get hi)) ?_;refine yL ?_;refine s_alloc SS 5 ?_;refine yS ?_;refine e_seqN [5] ?_;refine Y32 ?_;refine s_val (v_callD (fun _ => ih ks[i] (by omega) (by omega))) ?_;refine yI ?_;refine Y14 ?_;refine Y27 ?_
   refine ⟨i + 1, by omega, le_of ?_ ?_⟩
   ·repeat (first | exact SubE.nil | refine SubE.cons rfl (by first | rfl | (rw [wrap64 (by omega) (by omega)]; rfl) | (rw [bindsL_take hi, wrap64 (by omega) (by omega)])) ?_)
   ·repeat (first | exact SubH.nil | refine SubH.cons rfl (by first | rfl | (rw [wrap64 (by omega) (by omega)]; rfl) | (rw [bindsL_take hi, wrap64 (by omega) (by omega)])) ?_)
  ·skip
   have hi : ks.length ≤ i := by simpa [pats_eq] using h1
   rw [List.take_of_length_le hi];refine Tri.exit ?_;refine Y1 ?_;refine Y2 ?_;exact Tri.ret ⟨.inr rfl, ret1 rfl resV_tmp (iv_imp (by simp_all [bindsM]))⟩
end Go.Proofs.YtkcgkignhpepkaaGreatDoor

/- Whether a tree is too long, or too deep. -/
namespace Go.Proofs.YtkcgkignhpepkaaGreatDoor
open Go Hs
variable {G : List (Nat × TypeId × Pu)}
section
variable (mn md : Int)
mutual
def longP (mn md d c : Int) : Pat → Bool × Int
 | .mk _ _ _ ks => if mn < c + 1 ∨ md < d then (true, c + 1) else longPs mn md (d + 1) (c + 1) ks
def longPs (mn md d c : Int) : List Pat → Bool × Int
 | [] => (false, c)
 | p :: ps => match longP mn md d c p with
  | (true, c') => (true, c')
  | (false, c') => longPs mn md d c' ps
end
mutual
def longT (mn md d c : Int) : Tm → Bool × Int
 | .mk _ _ _ ks cs => if mn < c + 1 ∨ md < d then (true, c + 1) else match longTs mn md (d + 1) (c + 1) ks with
  | (true, c') => (true, c')
  | (false, c') => longCs mn md (d + 1) c' cs
def longTs (mn md d c : Int) : List Tm → Bool × Int
 | [] => (false, c)
 | t :: ts => match longT mn md d c t with
  | (true, c') => (true, c')
  | (false, c') => longTs mn md d c' ts
def longC (mn md d c : Int) : Cs → Bool × Int
 | .mk p t => match longP mn md d c p with
  | (true, c') => (true, c')
  | (false, c') => longT mn md d c' t
def longCs (mn md d c : Int) : List Cs → Bool × Int
 | [] => (false, c)
 | x :: xs => match longC mn md d c x with
  | (true, c') => (true, c')
  | (false, c') => longCs mn md d c' xs
end
end
variable {mn md d : Int}
theorem longPs_eq : ∀ (ks : List Pat) (c : Int), longPs mn md d c ks = anyS (longP mn md d) c ks
 | [], _ => rfl
 | p :: ps, c => by
  simp only [longPs, anyS]
  rcases longP mn md d c p with ⟨b, c'⟩
  cases b
  ·exact longPs_eq ps c'
  ·rfl
theorem longTs_eq : ∀ (ks : List Tm) (c : Int), longTs mn md d c ks = anyS (longT mn md d) c ks
 | [], _ => rfl
 | p :: ps, c => by
  simp only [longTs, anyS]
  rcases longT mn md d c p with ⟨b, c'⟩
  cases b
  ·exact longTs_eq ps c'
  ·rfl
theorem longCs_eq : ∀ (ks : List Cs) (c : Int), longCs mn md d c ks = anyS (longC mn md d) c ks
 | [], _ => rfl
 | p :: ps, c => by
  simp only [longCs, anyS]
  rcases longC mn md d c p with ⟨b, c'⟩
  cases b
  ·exact longCs_eq ps c'
  ·rfl
def InB (mn c : Int) (r : Bool × Int) : Prop := c ≤ r.2 ∧ r.2 ≤ mn + 1 ∧ (r.1 = false → r.2 ≤ mn)
mutual
theorem longP_b : ∀ (p : Pat) (d c : Int), c ≤ mn → InB mn c (longP mn md d c p)
 | .mk _ _ _ ks, d, c, hc => by
  simp only [longP]
  split
  ·exact ⟨by simp; omega, by simp; omega, fun e => by cases e⟩
  ·rename_i hn
   obtain ⟨k1, k2, k3⟩ := longPs_b ks (d + 1) (c + 1) (by omega)
   exact ⟨by omega, k2, k3⟩
theorem longPs_b : ∀ (ks : List Pat) (d c : Int), c ≤ mn → InB mn c (longPs mn md d c ks)
 | [], d, c, hc => ⟨by simp [longPs], by simp [longPs]; omega, fun _ => by simpa [longPs] using hc⟩
 | p :: ps, d, c, hc => by
  obtain ⟨h1, h2, h3⟩ := longP_b p d c hc
  simp only [longPs]
  rcases hs : longP mn md d c p with ⟨b, c'⟩
  rw [hs] at h1 h2 h3
  simp only at h1 h2 h3
  cases b
  ·obtain ⟨k1, k2, k3⟩ := longPs_b ps d c' (h3 rfl)
   exact ⟨Int.le_trans h1 k1, k2, k3⟩
  ·exact ⟨h1, h2, fun e => by cases e⟩
end
mutual
theorem longT_b : ∀ (t : Tm) (d c : Int), c ≤ mn → InB mn c (longT mn md d c t)
 | .mk _ _ _ ks cs, d, c, hc => by
  simp only [longT]
  split
  ·exact ⟨by simp; omega, by simp; omega, fun e => by cases e⟩
  ·rename_i hn
   obtain ⟨h1, h2, h3⟩ := longTs_b ks (d + 1) (c + 1) (by omega)
   rcases hs : longTs mn md (d + 1) (c + 1) ks with ⟨b, c'⟩
   rw [hs] at h1 h2 h3
   simp only at h1 h2 h3
   cases b
   ·obtain ⟨k1, k2, k3⟩ := longCs_b cs (d + 1) c' (h3 rfl)
    refine ⟨?_, k2, k3⟩
    show c ≤ (longCs mn md (d + 1) c' cs).2
    omega
   ·exact ⟨by simp; omega, h2, fun e => by cases e⟩
theorem longTs_b : ∀ (ks : List Tm) (d c : Int), c ≤ mn → InB mn c (longTs mn md d c ks)
 | [], d, c, hc => ⟨by simp [longTs], by simp [longTs]; omega, fun _ => by simpa [longTs] using hc⟩
 | p :: ps, d, c, hc => by
  obtain ⟨h1, h2, h3⟩ := longT_b p d c hc
  simp only [longTs]
  rcases hs : longT mn md d c p with ⟨b, c'⟩
  rw [hs] at h1 h2 h3
  simp only at h1 h2 h3
  cases b
  ·obtain ⟨k1, k2, k3⟩ := longTs_b ps d c' (h3 rfl)
   exact ⟨Int.le_trans h1 k1, k2, k3⟩
  ·exact ⟨h1, h2, fun e => by cases e⟩
theorem longC_b : ∀ (x : Cs) (d c : Int), c ≤ mn → InB mn c (longC mn md d c x)
 | .mk p t, d, c, hc => by
  obtain ⟨h1, h2, h3⟩ := longP_b (md := md) p d c hc
  simp only [longC]
  rcases hs : longP mn md d c p with ⟨b, c'⟩
  rw [hs] at h1 h2 h3
  simp only at h1 h2 h3
  cases b
  ·obtain ⟨k1, k2, k3⟩ := longT_b t d c' (h3 rfl)
   exact ⟨Int.le_trans h1 k1, k2, k3⟩
  ·exact ⟨h1, h2, fun e => by cases e⟩
theorem longCs_b : ∀ (ks : List Cs) (d c : Int), c ≤ mn → InB mn c (longCs mn md d c ks)
 | [], d, c, hc => ⟨by simp [longCs], by simp [longCs]; omega, fun _ => by simpa [longCs] using hc⟩
 | p :: ps, d, c, hc => by
  obtain ⟨h1, h2, h3⟩ := longC_b p d c hc
  simp only [longCs]
  rcases hs : longC mn md d c p with ⟨b, c'⟩
  rw [hs] at h1 h2 h3
  simp only at h1 h2 h3
  cases b
  ·obtain ⟨k1, k2, k3⟩ := longCs_b ps d c' (h3 rfl)
   exact ⟨Int.le_trans h1 k1, k2, k3⟩
  ·exact ⟨h1, h2, fun e => by cases e⟩
end
theorem psize_mem {ks : List Pat} {k : Pat} (h : k ∈ ks) : psize k ≤ psizeL ks := by
 obtain ⟨i, hi, rfl⟩ := List.getElem_of_mem h
 exact psizeL_get hi
theorem tsize_mem {ks : List Tm} {k : Tm} (h : k ∈ ks) : tsize k ≤ tsizeL ks := by
 obtain ⟨i, hi, rfl⟩ := List.getElem_of_mem h
 exact tsizeL_get hi
theorem csize_mem {ks : List Cs} {k : Cs} (h : k ∈ ks) : csize k ≤ csizeL ks := by
 obtain ⟨i, hi, rfl⟩ := List.getElem_of_mem h
 exact csizeL_get hi
end Go.Proofs.YtkcgkignhpepkaaGreatDoor

/- The walks of the counters. -/
namespace Go.Proofs.YtkcgkignhpepkaaGreatDoor
open Go Hs
variable {G : List (Nat × TypeId × Pu)}
abbrev lgO (c : Int) : List (Nat × Ob) := [(90, .var 203 (.pu (.agg 203 [.leaf (.int .i64 c)])))]
theorem lgP1_c (p : Pat) (d c : Int) (hd : 0 ≤ d ∧ d ≤ 60) (h : HCall Tryz.prog G 199 [.ptr 90 [] 203, .pu (patc 0 p), iv .i64 (d + 1)] [] (lgO c) (bv (longP 300 60 (d + 1) c p).1) (lgO (longP 300 60 (d + 1) c p).2) []) :
  HCall Tryz.prog G 234 [.pu (patc 0 p), .ptr 3 [] 201, .ptr 5 [] 3] [(3, .var 201 (.ptr 90 [] 203)), (5, .var 3 (iv .i64 d))] (lgO c) (bv (longP 300 60 (d + 1) c p).1) (lgO (longP 300 60 (d + 1) c p).2) [] := by
 refine HCall.of_triD tbl 10 [90, 3, 5] Tryz.func234 rfl rfl rfl fun w0 M ρ0 D0 => ?_
 refine yR ?_;refine s_box SS 31 ?_;refine yB ?_;refine e_seqN [31] ?_;refine Y36 ?_;refine yL ?_;refine yI ?_;refine s_call (h) ?_;refine Y2 ?_;exact Tri.ret ⟨.inr rfl, ret1 rfl resV_tmp (VImp.refl _), zO⟩
theorem lgP_c : ∀ (N : Nat) (p : Pat), psize p ≤ N → N < 2^40 → ∀ (d c : Int), 0 ≤ c ∧ c ≤ 300 → 0 ≤ d ∧ d ≤ 60 + 1 →
  HCall Tryz.prog G 199 [.ptr 90 [] 203, .pu (patc 0 p), iv .i64 d] [] (lgO c) (bv (longP 300 60 d c p).1) (lgO (longP 300 60 d c p).2) [] := by
 intro N
 induction N with
 | zero => intro p h; cases p; simp [psize] at h
 | succ N ih =>
 intro p hp hN d c hc hd
 obtain ⟨k, n, r, ks⟩ := p
 simp only [psize] at hp
 have hlen := length_psizeL ks
 have key : 0 ≤ d ∧ d ≤ 60 → c + 1 ≤ 300 → ∃ r, r.isSome = (longPs 300 60 (d + 1) (c + 1) ks).1 ∧ AnyC Tryz.prog G 234 [] [.ptr 3 [] 201, .ptr 5 [] 3] [(3, .var 201 (.ptr 90 [] 203)), (5, .var 3 (iv .i64 d))] (patsc 0 ks) (lgO (c + 1)) r (lgO (longPs 300 60 (d + 1) (c + 1) ks).2) := fun hd' hc' => by
  rw [longPs_eq, pats_eq];refine AnyC.state (patc 0) (longP 300 60 (d + 1)) lgO (fun c => 0 ≤ c ∧ c ≤ 300) (fun _ => rfl) ks (fun a ha c hc => ?_) (c + 1) ⟨by omega, hc'⟩
  have hb := longP_b (mn := 300) (md := 60) a (d + 1) c hc.2
  exact ⟨lgP1_c a d c hd' (ih a (by have := psize_mem ha; omega) (by omega) (d + 1) c hc (by omega)), fun e => ⟨by have := hb.1; omega, hb.2.2 e⟩⟩
 refine HCall.of_triD tbl 27 [90] Tryz.func199 rfl rfl rfl fun w0 M ρ0 D0 => ?_
 by_cases hcut : 300 < c + 1 ∨ 60 < d
 ·have e : longP 300 60 d c (.mk k n r ks) = (true, c + 1) := by simp only [longP, if_pos hcut]
  rw [e, ← wrap64 (n := c + 1) (by omega) (by omega)];refine yR ?_;refine s_box SS 3 ?_;refine s_box SS 4 ?_;refine s_box SS 5 ?_;refine yB ?_;refine e_seqN [3, 4, 5] ?_;refine Y53 ?_;refine Y50 ?_;refine Y17 ?_;refine Y53 ?_;refine Y60 ?_;refine Y24 ?_;refine Y0 ?_;refine Tri.cond rfl (fun h0 => ?_) (fun h0 => ?_)
  ·skip
   refine Y8 ?_;exact Tri.ret ⟨.inr rfl, ret1 rfl resV_tmp (VImp.refl _), zO⟩
  ·exfalso
   rw [wrap64 (by omega) (by omega)] at h0
   simp at h0
   omega
 ·obtain ⟨r1, hr1, hA⟩ := key (by omega) (by omega)
  have e : longP 300 60 d c (.mk k n r ks) = longPs 300 60 (d + 1) (c + 1) ks := by simp only [longP, if_neg hcut]
  rw [e]
  generalize longPs 300 60 (d + 1) (c + 1) ks = q1 at hr1 hA ⊢
  obtain ⟨b1, c1⟩ := q1
  simp only at hr1 hA ⊢
  rw [← wrap64 (n := c + 1) (by omega) (by omega)] at hA
  refine yR ?_;refine s_box SS 3 ?_;refine s_box SS 4 ?_;refine s_box SS 5 ?_;refine yB ?_;refine e_seqN [3, 4, 5] ?_;refine Y53 ?_;refine Y50 ?_;refine Y17 ?_;refine Y53 ?_;refine Y60 ?_;refine Y24 ?_;refine Y0 ?_;refine Tri.cond rfl (fun h0 => ?_) (fun h0 => ?_)
  ·exfalso
   rw [wrap64 (by omega) (by omega)] at h0
   simp at h0
   omega
  ·skip
   refine Tri.skip ?_;refine Y23 ?_;refine s_val (v_mkFnD SS) ?_;refine s_call (conPat_d (lo := 0) (.fn (.func 234) [] [.ptr 3 [] 201, .ptr 5 [] 3]) (by rw [pats_length]; omega) hA) ?_;refine Y2 ?_;exact Tri.ret ⟨.inr rfl, ret1 rfl resV_tmp (bv_imp hr1), zO⟩
theorem lgT1_c (t : Tm) (d c : Int) (hd : 0 ≤ d ∧ d ≤ 60) (h : HCall Tryz.prog G 134 [.ptr 90 [] 203, .pu (tmc 0 t), iv .i64 (d + 1)] [] (lgO c) (bv (longT 300 60 (d + 1) c t).1) (lgO (longT 300 60 (d + 1) c t).2) []) :
  HCall Tryz.prog G 197 [.pu (tmc 0 t), .ptr 3 [] 201, .ptr 5 [] 3] [(3, .var 201 (.ptr 90 [] 203)), (5, .var 3 (iv .i64 d))] (lgO c) (bv (longT 300 60 (d + 1) c t).1) (lgO (longT 300 60 (d + 1) c t).2) [] := by
 refine HCall.of_triD tbl 10 [90, 3, 5] Tryz.func197 rfl rfl rfl fun w0 M ρ0 D0 => ?_
 refine yR ?_;refine s_box SS 31 ?_;refine yB ?_;refine e_seqN [31] ?_;refine Y36 ?_;refine yL ?_;refine yI ?_;refine s_call (h) ?_;refine Y2 ?_;exact Tri.ret ⟨.inr rfl, ret1 rfl resV_tmp (VImp.refl _), zO⟩
theorem lgC_parts (mn md d c : Int) (p : Pat) (t : Tm) : longC mn md d c (.mk p t) = ((longP mn md d c p).1 || (longT mn md d (longP mn md d c p).2 t).1, if (longP mn md d c p).1 then (longP mn md d c p).2 else (longT mn md d (longP mn md d c p).2 t).2) := by
 simp only [longC]
 rcases longP mn md d c p with ⟨b, c'⟩
 cases b <;> simp
theorem lgT2_c (p : Pat) (t : Tm) (d c : Int) (hd : 0 ≤ d ∧ d ≤ 60) (h : HCall Tryz.prog G 199 [.ptr 90 [] 203, .pu (patc 0 p), iv .i64 (d + 1)] [] (lgO c) (bv (longP 300 60 (d + 1) c p).1) (lgO (longP 300 60 (d + 1) c p).2) [])
  (h2 : (longP 300 60 (d + 1) c p).1 = false → HCall Tryz.prog G 134 [.ptr 90 [] 203, .pu (tmc 0 t), iv .i64 (d + 1)] [] (lgO (longP 300 60 (d + 1) c p).2) (bv (longT 300 60 (d + 1) (longP 300 60 (d + 1) c p).2 t).1) (lgO (longT 300 60 (d + 1) (longP 300 60 (d + 1) c p).2 t).2) []) :
  HCall Tryz.prog G 198 [.pu (csec 0 (.mk p t)), .ptr 3 [] 201, .ptr 5 [] 3, .ptr 7 [] 45] [(3, .var 201 (.ptr 90 [] 203)), (5, .var 3 (iv .i64 d)), (7, .var 45 (.fn (.func 197) [] [.ptr 3 [] 201, .ptr 5 [] 3]))] (lgO c) (bv (longC 300 60 (d + 1) c (.mk p t)).1) (lgO (longC 300 60 (d + 1) c (.mk p t)).2) [] := by
 have h2' := fun e => (lgT1_c t d _ hd (h2 e)).more (HR' := [(3, .var 201 (.ptr 90 [] 203)), (5, .var 3 (iv .i64 d)), (7, .var 45 (.fn (.func 197) [] [.ptr 3 [] 201, .ptr 5 [] 3]))]) (fun l ob hl => (SubH.cons rfl rfl (.cons rfl rfl .nil) : SubH [(3, .var 201 (.ptr 90 [] 203)), (5, .var 3 (iv .i64 d)), (7, .var 45 (.fn (.func 197) [] [.ptr 3 [] 201, .ptr 5 [] 3]))] [(3, .var 201 (.ptr 90 [] 203)), (5, .var 3 (iv .i64 d))]).le l ob hl) rfl
 rw [lgC_parts]
 generalize hb1 : longP 300 60 (d + 1) c p = r1 at h2' ⊢
 obtain ⟨b1, c1⟩ := r1
 simp only at h2' ⊢
 refine HCall.of_triD tbl 18 [90, 3, 5, 7] Tryz.func198 rfl rfl rfl fun w0 M ρ0 D0 => ?_
 rw [hb1] at h
 refine yR ?_;refine s_box SS 41 ?_;refine yB ?_;refine e_seqN [41] ?_;refine Y4 ?_;refine Y3 ?_;refine yL ?_;refine yI ?_;refine s_call (h) ?_;refine Y60 ?_;refine Y7 ?_;refine s_callG zG (f := 197) (args := [.pu (tmc 0 t), .ptr 3 [] 201, .ptr 5 [] 3]) (HR := [(3, .var 201 (.ptr 90 [] 203)), (5, .var 3 (iv .i64 d)), (7, .var 45 (.fn (.func 197) [] [.ptr 3 [] 201, .ptr 5 [] 3]))]) (H := lgO c1) (H' := lgO (if b1 = true then c1 else (longT 300 60 (d + 1) c1 t).2)) (v := bv (longT 300 60 (d + 1) c1 t).1) (fun e => ?_) (fun e => ?_) ?_
 ·have e' : b1 = false := by simpa using e
  have := h2' e'
  simpa [e'] using this
 ·have e' : b1 = true := by simpa using e
  exact .cons rfl (by simp [e']) .nil
 refine yO ?_;refine Y2 ?_;exact Tri.ret ⟨.inr rfl, ret1 rfl resV_tmp (VImp.refl _), zO⟩
theorem lgT_parts (d c k n : Int) (r : List Int) (ks : List Tm) (cs : List Cs) (h : ¬ (300 < c + 1 ∨ 60 < d)) : longT 300 60 d c (.mk k n r ks cs) = ((longTs 300 60 (d + 1) (c + 1) ks).1 || (longCs 300 60 (d + 1) (longTs 300 60 (d + 1) (c + 1) ks).2 cs).1, if (longTs 300 60 (d + 1) (c + 1) ks).1 then (longTs 300 60 (d + 1) (c + 1) ks).2 else (longCs 300 60 (d + 1) (longTs 300 60 (d + 1) (c + 1) ks).2 cs).2) := by
 simp only [longT, if_neg h]
 rcases longTs 300 60 (d + 1) (c + 1) ks with ⟨b, c'⟩
 cases b <;> simp
theorem lgT_c : ∀ (N : Nat) (t : Tm), tsize t ≤ N → N < 2^40 → ∀ (d c : Int), 0 ≤ c ∧ c ≤ 300 → 0 ≤ d ∧ d ≤ 60 + 1 →
  HCall Tryz.prog G 134 [.ptr 90 [] 203, .pu (tmc 0 t), iv .i64 d] [] (lgO c) (bv (longT 300 60 d c t).1) (lgO (longT 300 60 d c t).2) [] := by
 intro N
 induction N with
 | zero => intro t h; have := tsize_pos t; omega
 | succ N ih =>
 intro t hp hN d c hc hd
 obtain ⟨k, n, r, ks, cs⟩ := t
 simp only [tsize] at hp
 have hlen := length_tsizeL ks
 have hlenc := length_csizeL cs
 have keyT : 0 ≤ d ∧ d ≤ 60 → c + 1 ≤ 300 → ∃ r, r.isSome = (longTs 300 60 (d + 1) (c + 1) ks).1 ∧ AnyC Tryz.prog G 197 [] [.ptr 3 [] 201, .ptr 5 [] 3] [(3, .var 201 (.ptr 90 [] 203)), (5, .var 3 (iv .i64 d))] (tmsc 0 ks) (lgO (c + 1)) r (lgO (longTs 300 60 (d + 1) (c + 1) ks).2) := fun hd' hc' => by
  rw [longTs_eq, tms_eq];refine AnyC.state (tmc 0) (longT 300 60 (d + 1)) lgO (fun c => 0 ≤ c ∧ c ≤ 300) (fun _ => rfl) ks (fun a ha c hc => ?_) (c + 1) ⟨by omega, hc'⟩
  have hb := longT_b (mn := 300) (md := 60) a (d + 1) c hc.2
  exact ⟨lgT1_c a d c hd' (ih a (by have := tsize_mem ha; omega) (by omega) (d + 1) c hc (by omega)), fun e => ⟨by have := hb.1; omega, hb.2.2 e⟩⟩
 have keyC : 0 ≤ d ∧ d ≤ 60 → ∀ c1, 0 ≤ c1 ∧ c1 ≤ 300 → ∃ r, r.isSome = (longCs 300 60 (d + 1) c1 cs).1 ∧ AnyC Tryz.prog G 198 [] [.ptr 3 [] 201, .ptr 5 [] 3, .ptr 7 [] 45] [(3, .var 201 (.ptr 90 [] 203)), (5, .var 3 (iv .i64 d)), (7, .var 45 (.fn (.func 197) [] [.ptr 3 [] 201, .ptr 5 [] 3]))] (cssc 0 cs) (lgO c1) r (lgO (longCs 300 60 (d + 1) c1 cs).2) := fun hd' c1 hc1 => by
  rw [longCs_eq, css_eq];refine AnyC.state (csec 0) (longC 300 60 (d + 1)) lgO (fun c => 0 ≤ c ∧ c ≤ 300) (fun _ => rfl) cs (fun a ha c hc => ?_) c1 hc1
  have hb := longC_b (mn := 300) (md := 60) a (d + 1) c hc.2
  have hsz := csize_mem ha
  obtain ⟨q, b⟩ := a
  simp only [csize] at hsz
  have hp1 := longP_b (mn := 300) (md := 60) q (d + 1) c hc.2
  have htp := tsize_pos b
  exact ⟨lgT2_c q b d c hd' (lgP_c _ q (Nat.le_refl _) (by omega) (d + 1) c hc (by omega)) (fun e => ih b (by omega) (by omega) (d + 1) _ ⟨by have := hp1.1; omega, hp1.2.2 e⟩ (by omega)), fun e => ⟨by have := hb.1; omega, hb.2.2 e⟩⟩
 refine HCall.of_triD tbl 35 [90] Tryz.func134 rfl rfl rfl fun w0 M ρ0 D0 => ?_
 by_cases hcut : 300 < c + 1 ∨ 60 < d
 ·have e : longT 300 60 d c (.mk k n r ks cs) = (true, c + 1) := by simp only [longT, if_pos hcut]
  rw [e, ← wrap64 (n := c + 1) (by omega) (by omega)];refine yR ?_;refine s_box SS 3 ?_;refine s_box SS 4 ?_;refine s_box SS 5 ?_;refine yB ?_;refine e_seqN [3, 4, 5] ?_;refine Y53 ?_;refine Y50 ?_;refine Y17 ?_;refine Y53 ?_;refine Y60 ?_;refine Y24 ?_;refine Y0 ?_;refine Tri.cond rfl (fun h0 => ?_) (fun h0 => ?_)
  ·skip
   refine Y8 ?_;exact Tri.ret ⟨.inr rfl, ret1 rfl resV_tmp (VImp.refl _), zO⟩
  ·exfalso
   rw [wrap64 (by omega) (by omega)] at h0
   simp at h0
   omega
 ·obtain ⟨r1, hr1, hA⟩ := keyT (by omega) (by omega)
  have hb1 := longTs_b (mn := 300) (md := 60) ks (d + 1) (c + 1) (by omega)
  rw [lgT_parts d c k n r ks cs hcut]
  generalize longTs 300 60 (d + 1) (c + 1) ks = q1 at hr1 hA hb1 ⊢
  obtain ⟨b1, c1⟩ := q1
  obtain ⟨hb1, _, hb2⟩ := hb1
  simp only at hr1 hA hb1 hb2 ⊢
  rw [← wrap64 (n := c + 1) (by omega) (by omega)] at hA
  have hC : b1 = false → ∃ r2 : Option Nat, r2.isSome = (longCs 300 60 (d + 1) c1 cs).1 ∧ _ := fun e => keyC (by omega) c1 ⟨by omega, hb2 e⟩
  refine yR ?_;refine s_box SS 3 ?_;refine s_box SS 4 ?_;refine s_box SS 5 ?_;refine yB ?_;refine e_seqN [3, 4, 5] ?_;refine Y53 ?_;refine Y50 ?_;refine Y17 ?_;refine Y53 ?_;refine Y60 ?_;refine Y24 ?_;refine Y0 ?_;refine Tri.cond rfl (fun h0 => ?_) (fun h0 => ?_)
  ·exfalso
   rw [wrap64 (by omega) (by omega)] at h0
   simp at h0
   omega
  ·skip
   refine Tri.skip ?_;refine yR ?_;refine s_val (v_mkFnD SS) ?_;refine s_alloc SS 7 ?_;refine yS ?_;refine e_seqN [7] ?_;refine Y23 ?_;refine yL ?_;refine s_call (hr1 ▸ conTm_d (lo := 0) (.fn (.func 197) [] [.ptr 3 [] 201, .ptr 5 [] 3]) (by rw [tms_length]; omega) hA) ?_;refine Y15 ?_;refine s_gg zG (v_mkFnD SS) ?_;refine s_callG zG (f := 123) (args := [.pu (.sl 0 106 (cssc 0 cs)), .fn (.func 198) [] [.ptr 3 [] 201, .ptr 5 [] 3, .ptr 7 [] 45]]) (HR := [(3, .var 201 (.ptr 90 [] 203)), (5, .var 3 (iv .i64 d)), (7, .var 45 (.fn (.func 197) [] [.ptr 3 [] 201, .ptr 5 [] 3]))]) (H := lgO c1) (H' := lgO (if b1 = true then c1 else (longCs 300 60 (d + 1) c1 cs).2)) (v := bv (longCs 300 60 (d + 1) c1 cs).1) (fun e => ?_) (fun e => ?_) ?_
   ·have e' : b1 = false := by simpa using e
    obtain ⟨r2, hr2, hA2⟩ := hC e'
    have := conCs_d (lo := 0) (.fn (.func 198) [] [.ptr 3 [] 201, .ptr 5 [] 3, .ptr 7 [] 45]) (by rw [css_length]; omega) hA2
    rw [hr2] at this
    simpa [e'] using this
   ·have e' : b1 = true := by simpa using e
    exact .cons rfl (by simp [e']) .nil
   refine yO ?_;refine Y2 ?_;exact Tri.ret ⟨.inr rfl, ret1 rfl resV_tmp (VImp.refl _), zO⟩
end Go.Proofs.YtkcgkignhpepkaaGreatDoor

/- The walks of the counters. -/
namespace Go.Proofs.YtkcgkignhpepkaaGreatDoor
open Go Hs
variable {G : List (Nat × TypeId × Pu)}
abbrev grO (c : Int) : List (Nat × Ob) := [(91, .var 240 (.pu (.agg 240 [.leaf (.int .i64 c)])))]
theorem grP1_c (p : Pat) (d c : Int) (hd : 0 ≤ d ∧ d ≤ 200) (h : HCall Tryz.prog G 231 [.ptr 91 [] 240, .pu (patc 0 p), iv .i64 (d + 1)] [] (grO c) (bv (longP 3000 200 (d + 1) c p).1) (grO (longP 3000 200 (d + 1) c p).2) []) :
  HCall Tryz.prog G 245 [.pu (patc 0 p), .ptr 3 [] 238, .ptr 5 [] 3] [(3, .var 238 (.ptr 91 [] 240)), (5, .var 3 (iv .i64 d))] (grO c) (bv (longP 3000 200 (d + 1) c p).1) (grO (longP 3000 200 (d + 1) c p).2) [] := by
 refine HCall.of_triD tbl 10 [91, 3, 5] Tryz.func245 rfl rfl rfl fun w0 M ρ0 D0 => ?_
 refine yR ?_;refine s_box SS 31 ?_;refine yB ?_;refine e_seqN [31] ?_;refine Y36 ?_;refine yL ?_;refine yI ?_;refine s_call (h) ?_;refine Y2 ?_;exact Tri.ret ⟨.inr rfl, ret1 rfl resV_tmp (VImp.refl _), zO⟩
theorem grP_c : ∀ (N : Nat) (p : Pat), psize p ≤ N → N < 2^40 → ∀ (d c : Int), 0 ≤ c ∧ c ≤ 3000 → 0 ≤ d ∧ d ≤ 200 + 1 →
  HCall Tryz.prog G 231 [.ptr 91 [] 240, .pu (patc 0 p), iv .i64 d] [] (grO c) (bv (longP 3000 200 d c p).1) (grO (longP 3000 200 d c p).2) [] := by
 intro N
 induction N with
 | zero => intro p h; cases p; simp [psize] at h
 | succ N ih =>
 intro p hp hN d c hc hd
 obtain ⟨k, n, r, ks⟩ := p
 simp only [psize] at hp
 have hlen := length_psizeL ks
 have key : 0 ≤ d ∧ d ≤ 200 → c + 1 ≤ 3000 → ∃ r, r.isSome = (longPs 3000 200 (d + 1) (c + 1) ks).1 ∧ AnyC Tryz.prog G 245 [] [.ptr 3 [] 238, .ptr 5 [] 3] [(3, .var 238 (.ptr 91 [] 240)), (5, .var 3 (iv .i64 d))] (patsc 0 ks) (grO (c + 1)) r (grO (longPs 3000 200 (d + 1) (c + 1) ks).2) := fun hd' hc' => by
  rw [longPs_eq, pats_eq];refine AnyC.state (patc 0) (longP 3000 200 (d + 1)) grO (fun c => 0 ≤ c ∧ c ≤ 3000) (fun _ => rfl) ks (fun a ha c hc => ?_) (c + 1) ⟨by omega, hc'⟩
  have hb := longP_b (mn := 3000) (md := 200) a (d + 1) c hc.2
  exact ⟨grP1_c a d c hd' (ih a (by have := psize_mem ha; omega) (by omega) (d + 1) c hc (by omega)), fun e => ⟨by have := hb.1; omega, hb.2.2 e⟩⟩
 refine HCall.of_triD tbl 29 [91] Tryz.func231 rfl rfl rfl fun w0 M ρ0 D0 => ?_
 by_cases hcut : 3000 < c + 1 ∨ 200 < d
 ·have e : longP 3000 200 d c (.mk k n r ks) = (true, c + 1) := by simp only [longP, if_pos hcut]
  rw [e, ← wrap64 (n := c + 1) (by omega) (by omega)]
  have hb0 : (decide (IntKind.i64.wrap (c + 1) > 3000) || decide (d > 200)) = true := by rw [wrap64 (by omega) (by omega)]; simp; omega
  refine yR ?_;refine s_box SS 3 ?_;refine s_box SS 4 ?_;refine s_box SS 5 ?_;refine yB ?_;refine e_seqN [3, 4, 5] ?_;refine Y53 ?_;refine Y50 ?_;refine Y17 ?_;refine Y53 ?_;refine Y60 ?_;refine Y39 ?_;refine s_gg zG (v_mkFnD SS) ?_;refine s_callG zG (f := 120) (args := [.pu (.sl 0 104 (patsc 0 ks)), .fn (.func 245) [] [.ptr 3 [] 238, .ptr 5 [] 3]]) (HR := []) (H := []) (H' := []) (v := bv false) (fun e => by simp [hb0] at e) (fun _ => .nil) ?_;refine yO ?_;refine Y2 ?_;exact Tri.ret ⟨.inr rfl, ret1 rfl resV_tmp (bv_imp (by rw [hb0]; rfl)), zO⟩
 ·obtain ⟨r1, hr1, hA⟩ := key (by omega) (by omega)
  have e : longP 3000 200 d c (.mk k n r ks) = longPs 3000 200 (d + 1) (c + 1) ks := by simp only [longP, if_neg hcut]
  have hb0 : (decide (IntKind.i64.wrap (c + 1) > 3000) || decide (d > 200)) = false := by rw [wrap64 (by omega) (by omega)]; simp; omega
  rw [e]
  generalize longPs 3000 200 (d + 1) (c + 1) ks = q1 at hr1 hA ⊢
  obtain ⟨b1, c1⟩ := q1
  simp only at hr1 hA ⊢
  rw [← wrap64 (n := c + 1) (by omega) (by omega)] at hA
  refine yR ?_;refine s_box SS 3 ?_;refine s_box SS 4 ?_;refine s_box SS 5 ?_;refine yB ?_;refine e_seqN [3, 4, 5] ?_;refine Y53 ?_;refine Y50 ?_;refine Y17 ?_;refine Y53 ?_;refine Y60 ?_;refine Y39 ?_;refine s_gg zG (v_mkFnD SS) ?_;refine s_callG zG (f := 120) (args := [.pu (.sl 0 104 (patsc 0 ks)), .fn (.func 245) [] [.ptr 3 [] 238, .ptr 5 [] 3]]) (HR := [(3, .var 238 (.ptr 91 [] 240)), (5, .var 3 (iv .i64 d))]) (H := grO (IntKind.i64.wrap (c + 1))) (H' := grO c1) (v := bv b1) (fun _ => hr1 ▸ conPat_d (lo := 0) (.fn (.func 245) [] [.ptr 3 [] 238, .ptr 5 [] 3]) (by rw [pats_length]; omega) hA) (fun e => by simp [hb0] at e) ?_;refine yO ?_;refine Y2 ?_
  exact Tri.ret ⟨.inr rfl, ret1 rfl resV_tmp (bv_imp (by rw [hb0]; rfl)), zO⟩
theorem grT1_c (t : Tm) (d c : Int) (hd : 0 ≤ d ∧ d ≤ 200) (h : HCall Tryz.prog G 180 [.ptr 91 [] 240, .pu (tmc 0 t), iv .i64 (d + 1)] [] (grO c) (bv (longT 3000 200 (d + 1) c t).1) (grO (longT 3000 200 (d + 1) c t).2) []) :
  HCall Tryz.prog G 229 [.pu (tmc 0 t), .ptr 3 [] 238, .ptr 5 [] 3] [(3, .var 238 (.ptr 91 [] 240)), (5, .var 3 (iv .i64 d))] (grO c) (bv (longT 3000 200 (d + 1) c t).1) (grO (longT 3000 200 (d + 1) c t).2) [] := by
 refine HCall.of_triD tbl 10 [91, 3, 5] Tryz.func229 rfl rfl rfl fun w0 M ρ0 D0 => ?_
 refine yR ?_;refine s_box SS 31 ?_;refine yB ?_;refine e_seqN [31] ?_;refine Y36 ?_;refine yL ?_;refine yI ?_;refine s_call (h) ?_;refine Y2 ?_;exact Tri.ret ⟨.inr rfl, ret1 rfl resV_tmp (VImp.refl _), zO⟩
theorem grC_parts (mn md d c : Int) (p : Pat) (t : Tm) : longC mn md d c (.mk p t) = ((longP mn md d c p).1 || (longT mn md d (longP mn md d c p).2 t).1, if (longP mn md d c p).1 then (longP mn md d c p).2 else (longT mn md d (longP mn md d c p).2 t).2) := by
 simp only [longC]
 rcases longP mn md d c p with ⟨b, c'⟩
 cases b <;> simp
theorem grT2_c (p : Pat) (t : Tm) (d c : Int) (hd : 0 ≤ d ∧ d ≤ 200) (h : HCall Tryz.prog G 231 [.ptr 91 [] 240, .pu (patc 0 p), iv .i64 (d + 1)] [] (grO c) (bv (longP 3000 200 (d + 1) c p).1) (grO (longP 3000 200 (d + 1) c p).2) [])
  (h2 : (longP 3000 200 (d + 1) c p).1 = false → HCall Tryz.prog G 180 [.ptr 91 [] 240, .pu (tmc 0 t), iv .i64 (d + 1)] [] (grO (longP 3000 200 (d + 1) c p).2) (bv (longT 3000 200 (d + 1) (longP 3000 200 (d + 1) c p).2 t).1) (grO (longT 3000 200 (d + 1) (longP 3000 200 (d + 1) c p).2 t).2) []) :
  HCall Tryz.prog G 230 [.pu (csec 0 (.mk p t)), .ptr 3 [] 238, .ptr 5 [] 3, .ptr 7 [] 45] [(3, .var 238 (.ptr 91 [] 240)), (5, .var 3 (iv .i64 d)), (7, .var 45 (.fn (.func 229) [] [.ptr 3 [] 238, .ptr 5 [] 3]))] (grO c) (bv (longC 3000 200 (d + 1) c (.mk p t)).1) (grO (longC 3000 200 (d + 1) c (.mk p t)).2) [] := by
 have h2' := fun e => (grT1_c t d _ hd (h2 e)).more (HR' := [(3, .var 238 (.ptr 91 [] 240)), (5, .var 3 (iv .i64 d)), (7, .var 45 (.fn (.func 229) [] [.ptr 3 [] 238, .ptr 5 [] 3]))]) (fun l ob hl => (SubH.cons rfl rfl (.cons rfl rfl .nil) : SubH [(3, .var 238 (.ptr 91 [] 240)), (5, .var 3 (iv .i64 d)), (7, .var 45 (.fn (.func 229) [] [.ptr 3 [] 238, .ptr 5 [] 3]))] [(3, .var 238 (.ptr 91 [] 240)), (5, .var 3 (iv .i64 d))]).le l ob hl) rfl
 rw [grC_parts]
 generalize hb1 : longP 3000 200 (d + 1) c p = r1 at h2' ⊢
 obtain ⟨b1, c1⟩ := r1
 simp only at h2' ⊢
 refine HCall.of_triD tbl 18 [91, 3, 5, 7] Tryz.func230 rfl rfl rfl fun w0 M ρ0 D0 => ?_
 rw [hb1] at h
 refine yR ?_;refine s_box SS 41 ?_;refine yB ?_;refine e_seqN [41] ?_;refine Y4 ?_;refine Y3 ?_;refine yL ?_;refine yI ?_;refine s_call (h) ?_;refine Y60 ?_;refine Y7 ?_;refine s_callG zG (f := 229) (args := [.pu (tmc 0 t), .ptr 3 [] 238, .ptr 5 [] 3]) (HR := [(3, .var 238 (.ptr 91 [] 240)), (5, .var 3 (iv .i64 d)), (7, .var 45 (.fn (.func 229) [] [.ptr 3 [] 238, .ptr 5 [] 3]))]) (H := grO c1) (H' := grO (if b1 = true then c1 else (longT 3000 200 (d + 1) c1 t).2)) (v := bv (longT 3000 200 (d + 1) c1 t).1) (fun e => ?_) (fun e => ?_) ?_
 ·have e' : b1 = false := by simpa using e
  have := h2' e'
  simpa [e'] using this
 ·have e' : b1 = true := by simpa using e
  exact .cons rfl (by simp [e']) .nil
 refine yO ?_;refine Y2 ?_;exact Tri.ret ⟨.inr rfl, ret1 rfl resV_tmp (VImp.refl _), zO⟩
theorem grT_parts (d c k n : Int) (r : List Int) (ks : List Tm) (cs : List Cs) (h : ¬ (3000 < c + 1 ∨ 200 < d)) : longT 3000 200 d c (.mk k n r ks cs) = ((longTs 3000 200 (d + 1) (c + 1) ks).1 || (longCs 3000 200 (d + 1) (longTs 3000 200 (d + 1) (c + 1) ks).2 cs).1, if (longTs 3000 200 (d + 1) (c + 1) ks).1 then (longTs 3000 200 (d + 1) (c + 1) ks).2 else (longCs 3000 200 (d + 1) (longTs 3000 200 (d + 1) (c + 1) ks).2 cs).2) := by
 simp only [longT, if_neg h]
 rcases longTs 3000 200 (d + 1) (c + 1) ks with ⟨b, c'⟩
 cases b <;> simp
theorem grT_c : ∀ (N : Nat) (t : Tm), tsize t ≤ N → N < 2^40 → ∀ (d c : Int), 0 ≤ c ∧ c ≤ 3000 → 0 ≤ d ∧ d ≤ 200 + 1 →
  HCall Tryz.prog G 180 [.ptr 91 [] 240, .pu (tmc 0 t), iv .i64 d] [] (grO c) (bv (longT 3000 200 d c t).1) (grO (longT 3000 200 d c t).2) [] := by
 intro N
 induction N with
 | zero => intro t h; have := tsize_pos t; omega
 | succ N ih =>
 intro t hp hN d c hc hd
 obtain ⟨k, n, r, ks, cs⟩ := t
 simp only [tsize] at hp
 have hlen := length_tsizeL ks
 have hlenc := length_csizeL cs
 have keyT : 0 ≤ d ∧ d ≤ 200 → c + 1 ≤ 3000 → ∃ r, r.isSome = (longTs 3000 200 (d + 1) (c + 1) ks).1 ∧ AnyC Tryz.prog G 229 [] [.ptr 3 [] 238, .ptr 5 [] 3] [(3, .var 238 (.ptr 91 [] 240)), (5, .var 3 (iv .i64 d))] (tmsc 0 ks) (grO (c + 1)) r (grO (longTs 3000 200 (d + 1) (c + 1) ks).2) := fun hd' hc' => by
  rw [longTs_eq, tms_eq];refine AnyC.state (tmc 0) (longT 3000 200 (d + 1)) grO (fun c => 0 ≤ c ∧ c ≤ 3000) (fun _ => rfl) ks (fun a ha c hc => ?_) (c + 1) ⟨by omega, hc'⟩
  have hb := longT_b (mn := 3000) (md := 200) a (d + 1) c hc.2
  exact ⟨grT1_c a d c hd' (ih a (by have := tsize_mem ha; omega) (by omega) (d + 1) c hc (by omega)), fun e => ⟨by have := hb.1; omega, hb.2.2 e⟩⟩
 have keyC : 0 ≤ d ∧ d ≤ 200 → ∀ c1, 0 ≤ c1 ∧ c1 ≤ 3000 → ∃ r, r.isSome = (longCs 3000 200 (d + 1) c1 cs).1 ∧ AnyC Tryz.prog G 230 [] [.ptr 3 [] 238, .ptr 5 [] 3, .ptr 7 [] 45] [(3, .var 238 (.ptr 91 [] 240)), (5, .var 3 (iv .i64 d)), (7, .var 45 (.fn (.func 229) [] [.ptr 3 [] 238, .ptr 5 [] 3]))] (cssc 0 cs) (grO c1) r (grO (longCs 3000 200 (d + 1) c1 cs).2) := fun hd' c1 hc1 => by
  rw [longCs_eq, css_eq];refine AnyC.state (csec 0) (longC 3000 200 (d + 1)) grO (fun c => 0 ≤ c ∧ c ≤ 3000) (fun _ => rfl) cs (fun a ha c hc => ?_) c1 hc1
  have hb := longC_b (mn := 3000) (md := 200) a (d + 1) c hc.2
  have hsz := csize_mem ha
  obtain ⟨q, b⟩ := a
  simp only [csize] at hsz
  have hp1 := longP_b (mn := 3000) (md := 200) q (d + 1) c hc.2
  have htp := tsize_pos b
  exact ⟨grT2_c q b d c hd' (grP_c _ q (Nat.le_refl _) (by omega) (d + 1) c hc (by omega)) (fun e => ih b (by omega) (by omega) (d + 1) _ ⟨by have := hp1.1; omega, hp1.2.2 e⟩ (by omega)), fun e => ⟨by have := hb.1; omega, hb.2.2 e⟩⟩
 refine HCall.of_triD tbl 37 [91] Tryz.func180 rfl rfl rfl fun w0 M ρ0 D0 => ?_
 by_cases hcut : 3000 < c + 1 ∨ 200 < d
 ·have e : longT 3000 200 d c (.mk k n r ks cs) = (true, c + 1) := by simp only [longT, if_pos hcut]
  rw [e, ← wrap64 (n := c + 1) (by omega) (by omega)]
  have hb0 : (decide (IntKind.i64.wrap (c + 1) > 3000) || decide (d > 200)) = true := by rw [wrap64 (by omega) (by omega)]; simp; omega
  refine yR ?_;refine s_box SS 3 ?_;refine s_box SS 4 ?_;refine s_box SS 5 ?_;refine yB ?_;refine e_seqN [3, 4, 5] ?_;refine Y53 ?_;refine Y50 ?_;refine Y54 ?_;refine s_val (v_mkFnD SS) ?_;refine s_alloc SS 7 ?_;refine yS ?_;refine e_seqN [7] ?_;refine Y53 ?_;refine Y60 ?_;refine Y39 ?_;refine xL ?_;refine s_callG zG (f := 122) (args := [.pu (.sl 0 32 (tmsc 0 ks)), .fn (.func 229) [] [.ptr 3 [] 238, .ptr 5 [] 3]]) (HR := []) (H := []) (H' := []) (v := bv false) (fun e => by simp [hb0] at e) (fun _ => .nil) ?_;refine yO ?_;refine Y15 ?_;refine s_gg zG (v_mkFnD SS) ?_
  refine s_callG zG (f := 123) (args := [.pu (.sl 0 106 (cssc 0 cs)), .fn (.func 230) [] [.ptr 3 [] 238, .ptr 5 [] 3, .ptr 7 [] 45]]) (HR := []) (H := []) (H' := []) (v := bv false) (fun e => by simp [hb0] at e) (fun _ => .nil) ?_;refine yO ?_;refine Y2 ?_;exact Tri.ret ⟨.inr rfl, ret1 rfl resV_tmp (bv_imp (by rw [hb0]; rfl)), zO⟩
 ·obtain ⟨r1, hr1, hA⟩ := keyT (by omega) (by omega)
  have hb1 := longTs_b (mn := 3000) (md := 200) ks (d + 1) (c + 1) (by omega)
  have hb0 : (decide (IntKind.i64.wrap (c + 1) > 3000) || decide (d > 200)) = false := by rw [wrap64 (by omega) (by omega)]; simp; omega
  rw [grT_parts d c k n r ks cs hcut]
  generalize longTs 3000 200 (d + 1) (c + 1) ks = q1 at hr1 hA hb1 ⊢
  obtain ⟨b1, c1⟩ := q1
  obtain ⟨hb1, _, hb2⟩ := hb1
  simp only at hr1 hA hb1 hb2 ⊢
  rw [← wrap64 (n := c + 1) (by omega) (by omega)] at hA
  have hC : b1 = false → ∃ r2 : Option Nat, r2.isSome = (longCs 3000 200 (d + 1) c1 cs).1 ∧ _ := fun e => keyC (by omega) c1 ⟨by omega, hb2 e⟩
  refine yR ?_;refine s_box SS 3 ?_;refine s_box SS 4 ?_;refine s_box SS 5 ?_;refine yB ?_;refine e_seqN [3, 4, 5] ?_;refine Y53 ?_;refine Y50 ?_;refine Y54 ?_;refine s_val (v_mkFnD SS) ?_;refine s_alloc SS 7 ?_;refine yS ?_;refine e_seqN [7] ?_;refine Y53 ?_;refine Y60 ?_;refine Y39 ?_;refine xL ?_;refine s_callG zG (f := 122) (args := [.pu (.sl 0 32 (tmsc 0 ks)), .fn (.func 229) [] [.ptr 3 [] 238, .ptr 5 [] 3]]) (HR := [(3, .var 238 (.ptr 91 [] 240)), (5, .var 3 (iv .i64 d))]) (H := grO (IntKind.i64.wrap (c + 1))) (H' := grO c1) (v := bv b1) (fun _ => hr1 ▸ conTm_d (lo := 0) (.fn (.func 229) [] [.ptr 3 [] 238, .ptr 5 [] 3]) (by rw [tms_length]; omega) hA) (fun e => by simp [hb0] at e) ?_
  refine yO ?_;refine Y15 ?_;refine s_gg zG (v_mkFnD SS) ?_;refine s_callG zG (f := 123) (args := [.pu (.sl 0 106 (cssc 0 cs)), .fn (.func 230) [] [.ptr 3 [] 238, .ptr 5 [] 3, .ptr 7 [] 45]]) (HR := [(3, .var 238 (.ptr 91 [] 240)), (5, .var 3 (iv .i64 d)), (7, .var 45 (.fn (.func 229) [] [.ptr 3 [] 238, .ptr 5 [] 3]))]) (H := grO c1) (H' := grO (if b1 = true then c1 else (longCs 3000 200 (d + 1) c1 cs).2)) (v := bv (longCs 3000 200 (d + 1) c1 cs).1) (fun e => ?_) (fun e => ?_) ?_
  ·have e' : b1 = false := by rw [hb0] at e; simpa using e
   obtain ⟨r2, hr2, hA2⟩ := hC e'
   have := conCs_d (lo := 0) (.fn (.func 230) [] [.ptr 3 [] 238, .ptr 5 [] 3, .ptr 7 [] 45]) (by rw [css_length]; omega) hA2
   rw [hr2] at this
   simpa [e'] using this
  ·have e' : b1 = true := by rw [hb0] at e; simpa using e
   exact .cons rfl (by simp [e']) .nil
  refine yO ?_;refine Y2 ?_;exact Tri.ret ⟨.inr rfl, ret1 rfl resV_tmp (bv_imp (by rw [hb0]; rfl)), zO⟩
end Go.Proofs.YtkcgkignhpepkaaGreatDoor

/- Small functions of the checker of terms. -/
namespace Go.Proofs.YtkcgkignhpepkaaGreatDoor
open Go Hs
variable {G : List (Nat × TypeId × Pu)}
def offM (n lo hi : Int) : Bool := decide (n < lo) || decide (n > hi)
theorem off_c (n lo hi : Int) : FCall Tryz.prog G 235 [iv .i64 n, iv .i64 lo, iv .i64 hi] (bv (offM n lo hi)) := by
 refine FCall.of_tri tbl 15 Tryz.func235 rfl rfl rfl fun w0 M ρ0 D0 => ?_
 refine Y20 ?_;refine Y29 ?_;refine yI ?_;refine Y22 ?_;refine xM ?_;refine Y24 ?_;refine Y2 ?_;exact Tri.ret ⟨.inr rfl, ret1 rfl resV_tmp (VImp.refl _)⟩
def hasNumM (k : Int) : Bool := k == 1 || k == 2 || k == 7 || k == 10 || k == 8 || k == 11
def hasRefM (k : Int) : Bool := k == 8 || k == 11 || k == 6 || k == 12
def hasCasesM (k : Int) : Bool := k == 9
def flP (a b c : Bool) : Pu := .agg 278 [.leaf (.bool a), .leaf (.bool b), .leaf (.bool c)]
theorem flP_eq {a b c a' b' c' : Bool} {P : Program} (h1 : a = a') (h2 : b = b') (h3 : c = c') : VImp P (.pu (flP a b c)) (.pu (flP a' b' c')) := by rw [h1, h2, h3]; exact VImp.refl _
instance (a b c : Bool) : TyV Tryz.prog 278 (.pu (flP a b c)) := inferInstanceAs (TyV Tryz.prog 278 (.pu (.agg _ _)))
theorem fields_c (k : Int) : FCall Tryz.prog G 237 [iv .i64 k] (.pu (flP (hasNumM k) (hasRefM k) (hasCasesM k))) := by
 refine FCall.of_tri tbl 24 Tryz.func237 rfl rfl rfl fun w0 M ρ0 D0 => ?_
 refine yR ?_;refine s_alloc SS 2 ?_;refine e_seqN [2] ?_;refine yR ?_;refine s_alloc SS 3 ?_;refine e_seqN [3] ?_;refine Y1 ?_;refine Y0 ?_;refine Tri.block ?_;refine Y12 ?_;refine Tri.cutT ⟨[(2, .ptr 2 [] 278), (3, .ptr 3 [] 278), (4, iv .i64 k), (5, bv (k == 1 || k == 2 || k == 7 || k == 10))], [(2, .var 278 (.pu (flP false false false))), (3, .var 278 (.pu (flP false false false)))]⟩ ?_ ?_
 ·skip
  refine tQ ?_;refine Tri.cond rfl (fun h0 => ?_) (fun h0 => ?_)
  ·skip
   refine Tri.skip ?_;refine le_of ?_ ?_
   ·repeat (first | exact SubE.nil | refine SubE.cons rfl (by first | rfl | (rw [wrap64 (by omega) (by omega)]; rfl) | (simp only [*, Bool.true_or, Bool.or_true, Bool.false_or])) ?_)
   ·repeat (first | exact SubH.nil | refine SubH.cons rfl (by first | rfl | (rw [wrap64 (by omega) (by omega)]; rfl) | (simp only [*, Bool.true_or, Bool.or_true, Bool.false_or])) ?_)
  ·skip
   refine Y12 ?_;refine Tri.cond rfl (fun h1 => ?_) (fun h1 => ?_)
   ·skip
    refine Tri.skip ?_;refine le_of ?_ ?_
    ·repeat (first | exact SubE.nil | refine SubE.cons rfl (by first | rfl | (rw [wrap64 (by omega) (by omega)]; rfl) | (simp only [*, Bool.true_or, Bool.or_true, Bool.false_or])) ?_)
    ·repeat (first | exact SubH.nil | refine SubH.cons rfl (by first | rfl | (rw [wrap64 (by omega) (by omega)]; rfl) | (simp only [*, Bool.true_or, Bool.or_true, Bool.false_or])) ?_)
   ·skip
    refine Y12 ?_;refine Tri.cond rfl (fun h2 => ?_) (fun h2 => ?_)
    ·skip
     refine Tri.skip ?_;refine le_of ?_ ?_
     ·repeat (first | exact SubE.nil | refine SubE.cons rfl (by first | rfl | (rw [wrap64 (by omega) (by omega)]; rfl) | (simp only [*, Bool.true_or, Bool.or_true, Bool.false_or])) ?_)
     ·repeat (first | exact SubH.nil | refine SubH.cons rfl (by first | rfl | (rw [wrap64 (by omega) (by omega)]; rfl) | (simp only [*, Bool.true_or, Bool.or_true, Bool.false_or])) ?_)
    ·skip
     refine Y5 ?_;refine Y14 ?_;refine le_of ?_ ?_
     ·repeat (first | exact SubE.nil | refine SubE.cons rfl (by first | rfl | (rw [wrap64 (by omega) (by omega)]; rfl) | (simp only [*, Bool.true_or, Bool.or_true, Bool.false_or])) ?_)
     ·repeat (first | exact SubH.nil | refine SubH.cons rfl (by first | rfl | (rw [wrap64 (by omega) (by omega)]; rfl) | (simp only [*, Bool.true_or, Bool.or_true, Bool.false_or])) ?_)
 ·skip
  refine tQ ?_;refine Tri.cond rfl (fun h3 => ?_) (fun h3 => ?_)
  ·skip
   refine yR ?_;refine s_val (v_ixo SS) ?_;refine Y17 ?_;refine Y57 ?_;exact Tri.ret ⟨.inr rfl, ret1 rfl resV_cell (flP_eq (by simp_all [hasNumM]; try omega) (by simp_all [hasRefM]; try omega) (by simp_all [hasCasesM]; try omega))⟩
  ·skip
   refine Y12 ?_;refine Tri.cutT ⟨[(2, .ptr 2 [] 278), (3, .ptr 3 [] 278), (4, iv .i64 k), (11, bv (k == 8 || k == 11))], [(2, .var 278 (.pu (flP false false false))), (3, .var 278 (.pu (flP false false false)))]⟩ ?_ ?_
   ·skip
    refine tQ ?_;refine Tri.cond rfl (fun h4 => ?_) (fun h4 => ?_)
    ·skip
     refine Tri.skip ?_;refine le_of ?_ ?_
     ·repeat (first | exact SubE.nil | refine SubE.cons rfl (by first | rfl | (rw [wrap64 (by omega) (by omega)]; rfl) | (simp only [*, Bool.true_or, Bool.or_true, Bool.false_or])) ?_)
     ·repeat (first | exact SubH.nil | refine SubH.cons rfl (by first | rfl | (rw [wrap64 (by omega) (by omega)]; rfl) | (simp only [*, Bool.true_or, Bool.or_true, Bool.false_or])) ?_)
    ·skip
     refine Y5 ?_;refine Y14 ?_;refine le_of ?_ ?_
     ·repeat (first | exact SubE.nil | refine SubE.cons rfl (by first | rfl | (rw [wrap64 (by omega) (by omega)]; rfl) | (simp only [*, Bool.true_or, Bool.or_true, Bool.false_or])) ?_)
     ·repeat (first | exact SubH.nil | refine SubH.cons rfl (by first | rfl | (rw [wrap64 (by omega) (by omega)]; rfl) | (simp only [*, Bool.true_or, Bool.or_true, Bool.false_or])) ?_)
   ·skip
    refine tQ ?_;refine Tri.cond rfl (fun h5 => ?_) (fun h5 => ?_)
    ·skip
     refine yR ?_;refine s_val (v_ixo SS) ?_;refine yS ?_;refine s_val (v_ixo SS) ?_;refine Y17 ?_;refine Y57 ?_;exact Tri.ret ⟨.inr rfl, ret1 rfl resV_cell (flP_eq (by simp_all [hasNumM]; try omega) (by simp_all [hasRefM]; try omega) (by simp_all [hasCasesM]; try omega))⟩
    ·skip
     refine Y12 ?_;refine Tri.cutT ⟨[(2, .ptr 2 [] 278), (3, .ptr 3 [] 278), (4, iv .i64 k), (16, bv (k == 6 || k == 12))], [(2, .var 278 (.pu (flP false false false))), (3, .var 278 (.pu (flP false false false)))]⟩ ?_ ?_
     ·skip
      refine tQ ?_;refine Tri.cond rfl (fun h6 => ?_) (fun h6 => ?_)
      ·skip
       refine Tri.skip ?_;refine le_of ?_ ?_
       ·repeat (first | exact SubE.nil | refine SubE.cons rfl (by first | rfl | (rw [wrap64 (by omega) (by omega)]; rfl) | (simp only [*, Bool.true_or, Bool.or_true, Bool.false_or])) ?_)
       ·repeat (first | exact SubH.nil | refine SubH.cons rfl (by first | rfl | (rw [wrap64 (by omega) (by omega)]; rfl) | (simp only [*, Bool.true_or, Bool.or_true, Bool.false_or])) ?_)
      ·skip
       refine Y5 ?_;refine Y14 ?_;refine le_of ?_ ?_
       ·repeat (first | exact SubE.nil | refine SubE.cons rfl (by first | rfl | (rw [wrap64 (by omega) (by omega)]; rfl) | (simp only [*, Bool.true_or, Bool.or_true, Bool.false_or])) ?_)
       ·repeat (first | exact SubH.nil | refine SubH.cons rfl (by first | rfl | (rw [wrap64 (by omega) (by omega)]; rfl) | (simp only [*, Bool.true_or, Bool.or_true, Bool.false_or])) ?_)
     ·skip
      refine tQ ?_;refine Tri.cond rfl (fun h7 => ?_) (fun h7 => ?_)
      ·skip
       refine yR ?_;refine s_val (v_ixo SS) ?_;refine Y17 ?_;refine Y57 ?_;exact Tri.ret ⟨.inr rfl, ret1 rfl resV_cell (flP_eq (by simp_all [hasNumM]; try omega) (by simp_all [hasRefM]; try omega) (by simp_all [hasCasesM]; try omega))⟩
      ·skip
       refine Y12 ?_;refine Tri.cond rfl (fun h8 => ?_) (fun h8 => ?_)
       ·skip
        refine yR ?_;refine s_val (v_ixo SS) ?_;refine Y17 ?_;refine Y57 ?_;exact Tri.ret ⟨.inr rfl, ret1 rfl resV_cell (flP_eq (by simp_all [hasNumM]; try omega) (by simp_all [hasRefM]; try omega) (by simp_all [hasCasesM]; try omega))⟩
       ·skip
        refine Tri.skip ?_;refine Y57 ?_;exact Tri.ret ⟨.inr rfl, ret1 rfl resV_cell (flP_eq (by simp_all [hasNumM]; try omega) (by simp_all [hasRefM]; try omega) (by simp_all [hasCasesM]; try omega))⟩
end Go.Proofs.YtkcgkignhpepkaaGreatDoor

/- The checker of terms, but for what is in them. -/
namespace Go.Proofs.YtkcgkignhpepkaaGreatDoor
open Go Hs
variable {G : List (Nat × TypeId × Pu)}
theorem patternFields_c (k : Int) : FCall Tryz.prog G 247 [iv .i64 k] (.pu (flP (k == 2 || k == 3) (k == 3) false)) := by
 refine FCall.of_tri tbl 11 Tryz.func247 rfl rfl rfl fun w0 M ρ0 D0 => ?_
 refine yR ?_;refine s_alloc SS 2 ?_;refine e_seqN [2] ?_;refine Y1 ?_;refine Y0 ?_;refine Tri.block ?_;refine Y12 ?_;refine Tri.cond rfl (fun h0 => ?_) (fun h0 => ?_)
 ·skip
  refine yR ?_;refine Y41 ?_;exact Tri.ret ⟨.inr rfl, ret1 rfl resV_cell (flP_eq (by simp_all) (by simp_all) rfl)⟩
 ·skip
  refine Y12 ?_;refine Tri.cond rfl (fun h1 => ?_) (fun h1 => ?_)
  ·skip
   refine yR ?_;refine Y41 ?_;exact Tri.ret ⟨.inr rfl, ret1 rfl resV_cell (flP_eq (by simp_all) (by simp_all) rfl)⟩
  ·skip
   refine Tri.skip ?_;refine Y58 ?_;refine Y10 ?_;exact Tri.ret ⟨.inr rfl, ret1 rfl resV_cell (flP_eq (by simp_all) (by simp_all) rfl)⟩
def kidsM (k n : Int) : Bool := if k == 3 || k == 9 || k == 11 then n == 1 else if k == 4 || k == 5 || k == 10 then n == 2 else if k == 8 then decide (n ≤ 4) else if k == 12 then !offM n 2 10 else n == 0
theorem kids_c (k n : Int) : FCall Tryz.prog G 238 [iv .i64 k, iv .i64 n] (bv (kidsM k n)) := by
 refine FCall.of_tri tbl 29 Tryz.func238 rfl rfl rfl fun w0 M ρ0 D0 => ?_
 refine Y20 ?_;refine Y1 ?_;refine Y0 ?_;refine Tri.block ?_;refine Y12 ?_;refine Tri.cutT ⟨[(1, iv .i64 n), (5, iv .i64 k), (6, bv (k == 3 || k == 9 || k == 11))], []⟩ ?_ ?_
 ·skip
  refine tQ ?_;refine Tri.cond rfl (fun h0 => ?_) (fun h0 => ?_)
  ·skip
   refine Tri.skip ?_;refine le_of ?_ ?_
   ·repeat (first | exact SubE.nil | refine SubE.cons rfl (by first | rfl | (rw [wrap64 (by omega) (by omega)]; rfl) | (simp only [*, Bool.true_or, Bool.or_true, Bool.false_or])) ?_)
   ·repeat (first | exact SubH.nil | refine SubH.cons rfl (by first | rfl | (rw [wrap64 (by omega) (by omega)]; rfl) | (simp only [*, Bool.true_or, Bool.or_true, Bool.false_or])) ?_)
  ·skip
   refine Y12 ?_;refine Tri.cond rfl (fun h1 => ?_) (fun h1 => ?_)
   ·skip
    refine Tri.skip ?_;refine le_of ?_ ?_
    ·repeat (first | exact SubE.nil | refine SubE.cons rfl (by first | rfl | (rw [wrap64 (by omega) (by omega)]; rfl) | (simp only [*, Bool.true_or, Bool.or_true, Bool.false_or])) ?_)
    ·repeat (first | exact SubH.nil | refine SubH.cons rfl (by first | rfl | (rw [wrap64 (by omega) (by omega)]; rfl) | (simp only [*, Bool.true_or, Bool.or_true, Bool.false_or])) ?_)
   ·skip
    refine Y5 ?_;refine Y14 ?_;refine le_of ?_ ?_
    ·repeat (first | exact SubE.nil | refine SubE.cons rfl (by first | rfl | (rw [wrap64 (by omega) (by omega)]; rfl) | (simp only [*, Bool.true_or, Bool.or_true, Bool.false_or])) ?_)
    ·repeat (first | exact SubH.nil | refine SubH.cons rfl (by first | rfl | (rw [wrap64 (by omega) (by omega)]; rfl) | (simp only [*, Bool.true_or, Bool.or_true, Bool.false_or])) ?_)
 ·skip
  refine tQ ?_;refine Tri.cond rfl (fun h2 => ?_) (fun h2 => ?_)
  ·skip
   refine Y38 ?_;exact Tri.ret ⟨.inr rfl, ret1 rfl resV_tmp (bv_imp (by simp_all [kidsM]))⟩
  ·skip
   refine Y12 ?_;refine Tri.cutT ⟨[(1, iv .i64 n), (5, iv .i64 k), (12, bv (k == 4 || k == 5 || k == 10))], []⟩ ?_ ?_
   ·skip
    refine tQ ?_;refine Tri.cond rfl (fun h3 => ?_) (fun h3 => ?_)
    ·skip
     refine Tri.skip ?_;refine le_of ?_ ?_
     ·repeat (first | exact SubE.nil | refine SubE.cons rfl (by first | rfl | (rw [wrap64 (by omega) (by omega)]; rfl) | (simp only [*, Bool.true_or, Bool.or_true, Bool.false_or])) ?_)
     ·repeat (first | exact SubH.nil | refine SubH.cons rfl (by first | rfl | (rw [wrap64 (by omega) (by omega)]; rfl) | (simp only [*, Bool.true_or, Bool.or_true, Bool.false_or])) ?_)
    ·skip
     refine Y12 ?_;refine Tri.cond rfl (fun h4 => ?_) (fun h4 => ?_)
     ·skip
      refine Tri.skip ?_;refine le_of ?_ ?_
      ·repeat (first | exact SubE.nil | refine SubE.cons rfl (by first | rfl | (rw [wrap64 (by omega) (by omega)]; rfl) | (simp only [*, Bool.true_or, Bool.or_true, Bool.false_or])) ?_)
      ·repeat (first | exact SubH.nil | refine SubH.cons rfl (by first | rfl | (rw [wrap64 (by omega) (by omega)]; rfl) | (simp only [*, Bool.true_or, Bool.or_true, Bool.false_or])) ?_)
     ·skip
      refine Y5 ?_;refine Y14 ?_;refine le_of ?_ ?_
      ·repeat (first | exact SubE.nil | refine SubE.cons rfl (by first | rfl | (rw [wrap64 (by omega) (by omega)]; rfl) | (simp only [*, Bool.true_or, Bool.or_true, Bool.false_or])) ?_)
      ·repeat (first | exact SubH.nil | refine SubH.cons rfl (by first | rfl | (rw [wrap64 (by omega) (by omega)]; rfl) | (simp only [*, Bool.true_or, Bool.or_true, Bool.false_or])) ?_)
   ·skip
    refine tQ ?_;refine Tri.cond rfl (fun h5 => ?_) (fun h5 => ?_)
    ·skip
     refine Y38 ?_;exact Tri.ret ⟨.inr rfl, ret1 rfl resV_tmp (bv_imp (by simp_all [kidsM]))⟩
    ·skip
     refine Y12 ?_;refine Tri.cond rfl (fun h6 => ?_) (fun h6 => ?_)
     ·skip
      refine Y38 ?_;exact Tri.ret ⟨.inr rfl, ret1 rfl resV_tmp (bv_imp (by simp_all [kidsM]))⟩
     ·skip
      refine Y12 ?_;refine Tri.cond rfl (fun h7 => ?_) (fun h7 => ?_)
      ·skip
       refine Y1 ?_;refine s_val (v_callD (fun _ => off_c n 2 10)) ?_;refine yQ ?_;refine Y2 ?_;exact Tri.ret ⟨.inr rfl, ret1 rfl resV_tmp (bv_imp (by simp_all [kidsM]))⟩
      ·skip
       refine Tri.skip ?_;refine Y38 ?_;exact Tri.ret ⟨.inr rfl, ret1 rfl resV_tmp (bv_imp (by simp_all [kidsM]))⟩
def clashM (a b c : Bool) (num : Int) (ref : List Int) (cases : Int) : Bool := (num != 0 && !a) || (!(ref == Z32) && !b) || (decide (cases > 0) && !c)
theorem flag_cond (a b c a' b' c' : Bool) : Tryz.prog.eqGuardType Tryz.prog.depth 278 = false ∧ 278 < Tryz.prog.types.size ∧ tyP Tryz.prog 278 (flP a b c) = true ∧ tyP Tryz.prog 278 (flP a' b' c') = true :=
 ⟨by kernel_rfl, of_decide_eq_true (by kernel_rfl), (show tyV Tryz.prog 278 (.pu (flP a b c)) = true from TyV.ok), (show tyV Tryz.prog 278 (.pu (flP a' b' c')) = true from TyV.ok)⟩
theorem peq_flag (d : Nat) (a b c a' b' c' : Bool) : peqT Tryz.prog (d + 2) 278 (flP a b c) (flP a' b' c') = some ((a == a') && ((b == b') && ((c == c') && true))) := by
 have hu : Tryz.prog.underlying 278 = some (.array 3 4) := by kernel_rfl
 have hb : Tryz.prog.underlying 4 = some .bool := by kernel_rfl
 unfold flP
 simp only [peqT, hu, peqL, hb]
theorem bin_neF (a b c a' b' c' : Bool) : binV Tryz.prog .neq 278 (.pu (flP a b c)) (.pu (flP a' b' c')) = some (bv (!((a == a') && ((b == b') && ((c == c') && true))))) := by
 have h1 := flag_cond a b c a' b' c'
 have h2 := fun e => peq_flag e a b c a' b' c'
 unfold flP at h1 h2 ⊢
 simp only [binV, if_pos h1]
 generalize hd : (100 : Nat) = d
 obtain ⟨e, rfl⟩ : ∃ e, d = e + 2 := ⟨98, by omega⟩
 rw [h2 e]
theorem clash_c (a b c : Bool) (num : Int) (ref : List Int) (cases : Int) : FCall Tryz.prog G 236 [.pu (flP a b c), iv .i64 num, .pu (refP ref), iv .i64 cases] (bv (clashM a b c num ref cases)) := by
 refine FCall.of_tri tbl 38 Tryz.func236 rfl rfl rfl fun w0 M ρ0 D0 => ?_
 refine Tri.fact (i := 2) rfl (fun D w x h => ref_len h) (fun hr => ?_);refine yR ?_;refine s_box SS 4 ?_;refine s_box SS 6 ?_;refine yB ?_;refine e_seqN [4, 6] ?_;refine Y11 ?_;refine yL ?_;refine yT ?_;refine s_val (v_bin SS (h := bin_neS (by rw [hr]; rfl))) ?_;refine yM ?_;refine yI ?_;refine yP ?_;refine s_alloc SS 9 ?_;refine yS ?_;refine e_seqN [9] ?_;refine Y4 ?_;refine s_alloc SS 10 ?_;refine yS ?_;refine e_seqN [10] ?_;refine yR ?_;refine Y33 ?_
 refine Tri.block (Tri.loopW (σ := Nat) (fun i => ⟨[(4, .ptr 4 [] 278), (9, .ptr 9 [] 278), (10, .ptr 10 [] 278), (21, iv .i64 i)], [(4, .var 278 (.pu (flP a b c))), (9, .var 278 (.pu (flP (num != 0) (!(ref == Z32)) (decide (cases > 0))))), (10, .var 278 (.pu (flP (if 0 < i then num != 0 && a else num != 0) (if 1 < i then !(ref == Z32) && b else !(ref == Z32)) (if 2 < i then decide (cases > 0) && c else decide (cases > 0)))))]⟩) (fun i => 3 - i) 0 ?_ ?_ (fun i => ?_))
 ·exact zW
 ·exact zW
 refine Y31 ?_;refine Tri.cond rfl (fun h0 => ?_) (fun h0 => ?_)
 ·skip
  have hi : i < 3 := by have := of_decide_eq_true h0; omega
  obtain ⟨j, hj⟩ : ∃ j, j = i + 1 := ⟨_, rfl⟩
  obtain rfl | rfl | rfl : i = 0 ∨ i = 1 ∨ i = 2 := by omega
  all_goals
   refine Tri.skip ?_;refine tQ ?_;refine Tri.block ?_;refine Y63 ?_;refine Y29 ?_;refine s_val (v_ixo SS) ?_;refine yL ?_;refine Y22 ?_;refine s_gg zG (v_ixo SS) ?_;refine xL ?_;refine yN ?_;refine s_val (v_ixo SS) ?_;refine Y17 ?_;refine Y27 ?_
   refine ⟨j, by omega, le_of ?_ ?_⟩
   ·repeat (first | exact SubE.nil | refine SubE.cons rfl (by first | rfl | (rw [wrap64 (by omega) (by omega)]; rfl) | (subst hj; rfl)) ?_)
   ·repeat (first | exact SubH.nil | refine SubH.cons rfl (by first | rfl | (rw [wrap64 (by omega) (by omega)]; rfl) | (subst hj; rfl)) ?_)
 ·skip
  have hi : 3 ≤ i := by have := of_decide_eq_false h0; omega
  refine Tri.exit ?_;refine Y36 ?_;refine s_val (v_bin SS (h := bin_neF _ _ _ _ _ _)) ?_;refine Y2 ?_;exact Tri.ret ⟨.inr rfl, ret1 rfl resV_tmp (bv_imp (by rw [if_pos (by omega), if_pos (by omega), if_pos (by omega)]; unfold clashM; generalize (num != 0) = p; generalize (ref == Z32) = q; generalize decide (cases > 0) = s; cases p <;> cases q <;> cases s <;> cases a <;> cases b <;> cases c <;> rfl))⟩
def patErr (k num : Int) (ref : List Int) (n : Int) : Int :=
 if offM k 1 3 then 3 else if clashM (k == 2 || k == 3) (k == 3) false num ref 0 then 7 else if decide (n > (if k == 3 then 4 else 0)) then 2
 else if (k == 2 && offM num 0 1073741824) || (k == 3 && offM num 0 7) then 3 else 0
theorem patternError_c (k n : Int) (r : List Int) (ks : List Pat) : FCall Tryz.prog G 239 [.pu (patc 0 (.mk k n r ks))] (iv .i64 (patErr k n r ks.length)) := by
 refine FCall.of_tri tbl 43 Tryz.func239 rfl rfl rfl fun w0 M ρ0 D0 => ?_
 refine yR ?_;refine s_box SS 1 ?_;refine yB ?_;refine e_seqN [1] ?_;refine Y20 ?_;refine Y34 ?_;refine Y0 ?_;refine Tri.cutT ⟨[(1, .ptr 1 [] 104), (3, iv .i64 (if k == 3 then 4 else 0))], [(1, .var 104 (.pu (patc 0 (.mk k n r ks))))]⟩ ?_ ?_
 ·skip
  refine tQ ?_;refine Tri.cond rfl (fun h0 => ?_) (fun h0 => ?_)
  ·skip
   refine Y20 ?_;refine le_of ?_ ?_
   ·repeat (first | exact SubE.nil | refine SubE.cons rfl (by first | rfl | (rw [wrap64 (by omega) (by omega)]; rfl) | (rw [h0]; rfl)) ?_)
   ·repeat (first | exact SubH.nil | refine SubH.cons rfl (by first | rfl | (rw [wrap64 (by omega) (by omega)]; rfl) | (rw [h0]; rfl)) ?_)
  ·skip
   refine Tri.skip ?_;refine le_of ?_ ?_
   ·repeat (first | exact SubE.nil | refine SubE.cons rfl (by first | rfl | (rw [wrap64 (by omega) (by omega)]; rfl) | (rw [h0]; rfl)) ?_)
   ·repeat (first | exact SubH.nil | refine SubH.cons rfl (by first | rfl | (rw [wrap64 (by omega) (by omega)]; rfl) | (rw [h0]; rfl)) ?_)
 ·skip
  refine tQ ?_;refine Tri.block ?_;refine Y16 ?_;refine s_val (v_callD (fun _ => off_c k 1 3)) ?_;refine Y2 ?_;refine Tri.cond rfl (fun h1 => ?_) (fun h1 => ?_)
  ·skip
   refine Y8 ?_;exact Tri.ret ⟨.inr rfl, ret1 rfl resV_tmp (iv_imp (by (try rw [pats_length] at h3); unfold patErr; (repeat' split) <;> simp_all <;> omega))⟩
  ·skip
   refine Y16 ?_;refine s_val (v_callD (fun _ => patternFields_c k)) ?_;refine Y3 ?_;refine Y3 ?_;refine s_val (v_callD (fun _ => clash_c (k == 2 || k == 3) (k == 3) false n r 0)) ?_;refine yA ?_;refine Y18 ?_;refine Tri.cond rfl (fun h2 => ?_) (fun h2 => ?_)
   ·skip
    refine Y8 ?_;exact Tri.ret ⟨.inr rfl, ret1 rfl resV_tmp (iv_imp (by (try rw [pats_length] at h3); unfold patErr; (repeat' split) <;> simp_all <;> omega))⟩
   ·skip
    refine Y52 ?_;refine yM ?_;refine yI ?_;refine Y2 ?_;refine Tri.cond rfl (fun h3 => ?_) (fun h3 => ?_)
    ·skip
     refine Y8 ?_;exact Tri.ret ⟨.inr rfl, ret1 rfl resV_tmp (iv_imp (by (try rw [pats_length] at h3); unfold patErr; (repeat' split) <;> simp_all <;> omega))⟩
    ·skip
     refine Y65 ?_;refine s_gg zG (v_callD (fun _ => off_c n 0 1073741824)) ?_;refine yN ?_;refine Y2 ?_;refine Tri.cond rfl (fun h4 => ?_) (fun h4 => ?_)
     ·skip
      refine Tri.skip ?_;refine tQ ?_;refine Tri.cond rfl (fun h5 => ?_) (fun h5 => ?_)
      ·skip
       refine Y8 ?_;exact Tri.ret ⟨.inr rfl, ret1 rfl resV_tmp (iv_imp (by (try rw [pats_length] at h3); unfold patErr; (repeat' split) <;> simp_all <;> omega))⟩
      ·skip
       refine Tri.skip ?_;refine Y8 ?_;exact Tri.ret ⟨.inr rfl, ret1 rfl resV_tmp (iv_imp (by (try rw [pats_length] at h3); unfold patErr; (repeat' split) <;> simp_all <;> omega))⟩
     ·skip
      refine Y65 ?_;refine s_gg zG (v_callD (fun _ => off_c n 0 7)) ?_;refine yN ?_;refine Y2 ?_;refine Tri.cond rfl (fun h5 => ?_) (fun h5 => ?_)
      ·skip
       refine Y8 ?_;exact Tri.ret ⟨.inr rfl, ret1 rfl resV_tmp (iv_imp (by (try rw [pats_length] at h3); unfold patErr; (repeat' split) <;> simp_all <;> omega))⟩
      ·skip
       refine Tri.skip ?_;refine Y8 ?_;exact Tri.ret ⟨.inr rfl, ret1 rfl resV_tmp (iv_imp (by (try rw [pats_length] at h3); unfold patErr; (repeat' split) <;> simp_all <;> omega))⟩
end Go.Proofs.YtkcgkignhpepkaaGreatDoor

/- The errors of patterns, and of a term by itself. -/
namespace Go.Proofs.YtkcgkignhpepkaaGreatDoor
open Go Hs
variable {G : List (Nat × TypeId × Pu)}
def firstE {α : Type} (f : α → Int) : List α → Int
 | [] => 0
 | a :: l => if f a = 0 then firstE f l else f a
theorem firstE_take {α : Type} (f : α → Int) : ∀ {l : List α} {i : Nat} (h : i < l.length), firstE f (l.take (i + 1)) = if firstE f (l.take i) = 0 then f l[i] else firstE f (l.take i)
 | a :: l, 0, _ => by
  simp only [List.take_zero, List.take_succ_cons, firstE, List.getElem_cons_zero, if_true]
  split <;> simp_all
 | a :: l, i + 1, h => by
  have ih := firstE_take f (l := l) (i := i) (by simpa using h)
  simp only [List.take_succ_cons, firstE, List.getElem_cons_succ]
  split
  ·exact ih
  ·rfl
theorem firstE_pre {α : Type} (f : α → Int) : ∀ {l : List α} {i : Nat}, firstE f (l.take i) ≠ 0 → firstE f l = firstE f (l.take i)
 | [], i, h => by simp [firstE] at h
 | a :: l, 0, h => by simp [firstE] at h
 | a :: l, i + 1, h => by
  simp only [List.take_succ_cons, firstE] at h ⊢
  split
  ·rename_i h0
   rw [if_pos h0] at h
   exact firstE_pre f h
  ·rfl
mutual
def perr : Pat → Int
 | .mk k n r ks => if patErr k n r ks.length = 0 then perrL ks else patErr k n r ks.length
def perrL : List Pat → Int
 | [] => 0
 | p :: ps => if perr p = 0 then perrL ps else perr p
end
theorem perrL_eq : ∀ ks, perrL ks = firstE perr ks
 | [] => rfl
 | p :: ps => by simp only [perrL, firstE, perrL_eq ps]
theorem wk0 (x : Int) (ks : List Pat) : Wk (iv .i64 x) (iv .i64 (if x = 0 then firstE perr (ks.take 0) else x)) := by
 have e : (if x = 0 then firstE perr (ks.take 0) else x) = x := by split <;> simp_all [firstE]
 rw [e];exact .refl
theorem patternsError_c : ∀ (N : Nat) (p : Pat), psize p ≤ N → N < 2^40 → FCall Tryz.prog G 201 [.pu (patc 0 p)] (iv .i64 (perr p)) := by
 intro N
 induction N with
 | zero => intro p h; cases p; simp [psize] at h
 | succ N ih =>
 intro p hp hN
 obtain ⟨k, n, r, ks⟩ := p
 simp only [psize] at hp
 have hlen := length_psizeL ks
 refine FCall.of_tri tbl 25 Tryz.func201 rfl rfl rfl fun w0 M ρ0 D0 => ?_
 refine yR ?_;refine s_box SS 1 ?_;refine yB ?_;refine e_seqN [1] ?_;refine Y4 ?_;refine s_val (v_callD (fun _ => patternError_c k n r ks)) ?_;refine Y14 ?_;refine Y8 ?_;refine Tri.block (Tri.loopW (σ := Nat) (fun i => ⟨[(1, .ptr 1 [] 104), (4, iv .i64 i), (3, iv .i64 (if patErr k n r ks.length = 0 then firstE perr (ks.take i) else patErr k n r ks.length))], [(1, .var 104 (.pu (patc 0 (.mk k n r ks))))]⟩) (fun i => ks.length - i) 0 ?_ ?_ (fun i => ?_))
 ·repeat (first | exact .nil | refine .cons rfl (by first | exact .refl | (focus ((repeat constructor); done)) | (exact wk0 _ _)) ?_)
 ·repeat (first | exact .nil | refine .cons rfl (by first | exact .refl | (focus ((repeat constructor); done)) | (exact wk0 _ _)) ?_)
 refine Y1 ?_;refine Y55 ?_;refine yI ?_;refine Y35 ?_;refine Y0 ?_;refine Tri.cond rfl (fun h0 => ?_) (fun h0 => ?_)
 ·skip
  simp only [Bool.and_eq_true, decide_eq_true_eq, beq_iff_eq] at h0
  obtain ⟨h0, he⟩ := h0
  have hi : i < ks.length := by rw [pats_length] at h0; omega
  have he0 : patErr k n r ks.length = 0 := by split at he <;> simp_all
  rw [if_pos he0] at he
  refine Tri.skip ?_;refine tQ ?_;refine Tri.block ?_;refine Y23 ?_;refine yM ?_;refine s_val (v_index SS (h0 := by omega) (hp := pats_get hi)) ?_;refine yL ?_;refine s_val (v_callD (fun _ => ih ks[i] (by have := psizeL_get hi; omega) (by omega))) ?_;refine Y14 ?_;refine Y11 ?_;refine Y14 ?_
  refine ⟨i + 1, by omega, le_of ?_ ?_⟩
  ·repeat (first | exact SubE.nil | refine SubE.cons rfl (by first | rfl | (rw [wrap64 (by omega) (by omega)]; rfl) | (rw [if_pos he0, firstE_take perr hi, if_pos he])) ?_)
  ·repeat (first | exact SubH.nil | refine SubH.cons rfl (by first | rfl | (rw [wrap64 (by omega) (by omega)]; rfl) | (rw [if_pos he0, firstE_take perr hi, if_pos he])) ?_)
 ·skip
  have hfin : (if patErr k n r ks.length = 0 then firstE perr (ks.take i) else patErr k n r ks.length) = perr (.mk k n r ks) := by
   simp only [perr, perrL_eq]
   split
   ·rename_i he0
    by_cases hz : firstE perr (ks.take i) = 0
    ·rw [he0, if_pos rfl, hz] at h0
     simp only [pats_length] at h0
     rw [List.take_of_length_le (by simp at h0; omega)]
    ·rw [firstE_pre perr hz]
   ·rfl
  refine Tri.exit ?_;refine Y1 ?_;refine Y2 ?_;exact Tri.ret ⟨.inr rfl, ret1 rfl resV_tmp (iv_imp hfin)⟩
end Go.Proofs.YtkcgkignhpepkaaGreatDoor

/- The checker of terms at a term itself. -/
namespace Go.Proofs.YtkcgkignhpepkaaGreatDoor
open Go Hs
variable {G : List (Nat × TypeId × Pu)}
theorem termBinds_c : ∀ (N : Nat) (p : Pat), psize p ≤ N → N < 2^40 → FCall Tryz.prog G 193 [.pu (patc 0 p)] (iv .i64 (bindsM p)) := by
 intro N
 induction N with
 | zero => intro p h; cases p; simp [psize] at h
 | succ N ih =>
 intro p hp hN
 obtain ⟨k, n, r, ks⟩ := p
 simp only [psize] at hp
 have hlen := length_psizeL ks
 refine FCall.of_tri tbl 22 Tryz.func193 rfl rfl rfl fun w0 M ρ0 D0 => ?_
 refine yR ?_;refine s_box SS 1 ?_;refine yB ?_;refine e_seqN [1] ?_;refine Y34 ?_;refine Y0 ?_;refine Tri.cond rfl (fun h0 => ?_) (fun h0 => ?_)
 ·skip
  refine Y8 ?_;exact Tri.ret ⟨.inr rfl, ret1 rfl resV_tmp (iv_imp (by simp_all [bindsM]))⟩
 ·skip
  refine Tri.skip ?_;refine Y20 ?_;refine Y52 ?_;refine Y33 ?_;refine Tri.block (Tri.loopW (σ := Nat) (fun i => ⟨[(10, .pu (.sl 0 104 (patsc 0 ks))), (11, iv .i64 (patsc 0 ks).length), (12, iv .i64 i), (3, iv .i64 (bindsL (ks.take i)))], []⟩) (fun i => ks.length - i) 0 ?_ ?_ (fun i => ?_))
  ·exact zW
  ·exact zW
  refine Y31 ?_;refine Tri.cond rfl (fun h1 => ?_) (fun h1 => ?_)
  ·skip
   have hi : i < ks.length := by simpa [pats_eq] using h1
   have h1' := bindsL_bound (ks.take i)
   have h2 := binds_bound ks[i]
   have h3 := psizeL_take (ks := ks) (i := i)
   have h4 := psizeL_get hi
   refine Tri.skip ?_;refine tQ ?_;refine Tri.block ?_;refine yR ?_;refine s_val (v_index SS (h0 := by omega) (hp := pats_get hi)) ?_;refine yL ?_;refine s_alloc SS 5 ?_;refine yS ?_;refine e_seqN [5] ?_;refine Y32 ?_;refine s_val (v_callD (fun _ => ih ks[i] (by omega) (by omega))) ?_;refine yI ?_;refine Y14 ?_;refine Y27 ?_
   refine ⟨i + 1, by omega, le_of ?_ ?_⟩
   ·repeat (first | exact SubE.nil | refine SubE.cons rfl (by first | rfl | (rw [wrap64 (by omega) (by omega)]; rfl) | (rw [bindsL_take hi, wrap64 (by omega) (by omega)])) ?_)
   ·repeat (first | exact SubH.nil | refine SubH.cons rfl (by first | rfl | (rw [wrap64 (by omega) (by omega)]; rfl) | (rw [bindsL_take hi, wrap64 (by omega) (by omega)])) ?_)
  ·skip
   have hi : ks.length ≤ i := by simpa [pats_eq] using h1
   rw [List.take_of_length_le hi];refine Tri.exit ?_;refine Y1 ?_;refine Y2 ?_;exact Tri.ret ⟨.inr rfl, ret1 rfl resV_tmp (iv_imp (by simp_all [bindsM]))⟩
def knownM (depth n bound : Int) : Bool := decide (n ≥ 0) && (decide (n < bound) || decide (IntKind.wrap .i64 (n - bound) < depth))
abbrev dpO (depth : Int) : List (Nat × Ob) := [(901, .var 3 (iv .i64 depth))]
theorem known_c (depth n bound : Int) : HCall Tryz.prog G 135 [iv .i64 n, iv .i64 bound, .ptr 901 [] 3] (dpO depth) [] (bv (knownM depth n bound)) [] [] := by
 refine HCall.of_triD tbl 20 [] Tryz.func135 rfl rfl rfl fun w0 M ρ0 D0 => ?_
 refine Y20 ?_;refine Y11 ?_;refine Y22 ?_;refine xM ?_;refine xI ?_;refine xM ?_;refine xM ?_;refine xM ?_;refine xI ?_;refine xL ?_;refine xI ?_;refine xO ?_;refine yN ?_;refine Y2 ?_;exact Tri.ret ⟨.inr rfl, ret1 rfl resV_tmp (bv_imp (by simp only [knownM])), zO⟩
abbrev chV (members : Int) : PV := .agg 206 [iv .i64 members, .fn (.func 135) [] [.ptr 901 [] 3]]
def termErr (members depth bound k n : Int) (r : List Int) (nk nc : Int) : Int :=
 if offM k 1 12 then 3 else if clashM (hasNumM k) (hasRefM k) (hasCasesM k) n r nc then 7 else if !kidsM k nk || decide (nc > 8) then 2
 else if k == 10 && offM n 1 5 then 3
 else if k == 1 && !knownM depth n bound then 1
 else if k == 7 && (decide (n < 0) || decide (n ≥ members)) then 1
 else if (k == 2 || k == 8 || k == 11) && offM n 0 (if k == 8 || k == 11 then 7 else 1073741824) then 3 else 0
set_option maxHeartbeats 2000000 in
theorem cterm_c' (members depth bound : Int) (k n : Int) (r : List Int) (ks : List Tm) (cs : List Cs) :
  HCall Tryz.prog G 200 [chV members, .pu (tmc 0 (.mk k n r ks cs)), iv .i64 bound] (dpO depth) [] (iv .i64 (termErr members depth bound k n r (tmsc 0 ks).length (cssc 0 cs).length)) [] [] := by
 refine HCall.of_triD tbl 88 [] Tryz.func200 rfl rfl rfl fun w0 M ρ0 D0 => ?_
 refine yR ?_;refine s_box SS 3 ?_;refine s_box SS 4 ?_;refine yB ?_;refine e_seqN [3, 4] ?_;refine tQ ?_;refine Tri.block ?_;refine Y16 ?_;refine s_val (v_callD (fun _ => off_c k 1 12)) ?_;refine Y2 ?_;refine Tri.cond rfl (fun h0 => ?_) (fun h0 => ?_)
 ·skip
  refine Y8 ?_;exact Tri.ret ⟨.inr rfl, ret1 rfl resV_tmp (iv_imp (by first | (simp only [termErr, *, Bool.false_eq_true, Bool.true_and, Bool.false_and, Bool.or_false, Bool.or_true, Bool.true_or, Bool.false_or, if_false, if_true]; done) | (exfalso; simp_all; done) | (unfold termErr; (repeat' split) <;> simp_all <;> omega))), zO⟩
 ·skip
  refine Y16 ?_;refine s_val (v_callD (fun _ => fields_c k)) ?_;refine Y3 ?_;refine Y3 ?_;refine Y55 ?_;refine s_val (v_callD (fun _ => clash_c (hasNumM k) (hasRefM k) (hasCasesM k) n r ((cssc 0 cs).length : Int))) ?_;refine yA ?_;refine Y18 ?_;refine Tri.cond rfl (fun h1 => ?_) (fun h1 => ?_)
  ·skip
   refine Y8 ?_;exact Tri.ret ⟨.inr rfl, ret1 rfl resV_tmp (iv_imp (by first | (simp only [termErr, *, Bool.false_eq_true, Bool.true_and, Bool.false_and, Bool.or_false, Bool.or_true, Bool.true_or, Bool.false_or, if_false, if_true]; done) | (exfalso; simp_all; done) | (unfold termErr; (repeat' split) <;> simp_all <;> omega))), zO⟩
  ·skip
   refine Y16 ?_;refine Y55 ?_;refine s_val (v_callD (fun _ => kids_c k ((tmsc 0 ks).length : Int))) ?_;refine yQ ?_;refine Y15 ?_;refine xC ?_;refine Y24 ?_;refine Y2 ?_;refine Tri.cond rfl (fun h2 => ?_) (fun h2 => ?_)
   ·skip
    refine Y8 ?_;exact Tri.ret ⟨.inr rfl, ret1 rfl resV_tmp (iv_imp (by first | (simp only [termErr, *, Bool.false_eq_true, Bool.true_and, Bool.false_and, Bool.or_false, Bool.or_true, Bool.true_or, Bool.false_or, if_false, if_true]; done) | (exfalso; simp_all; done) | (unfold termErr; (repeat' split) <;> simp_all <;> omega))), zO⟩
   ·skip
    refine Tri.skip ?_;refine Y20 ?_;refine Y16 ?_;refine Y0 ?_;refine Tri.block ?_;refine Y12 ?_;refine Tri.cond rfl (fun h3 => ?_) (fun h3 => ?_)
    ·skip
     refine Y16 ?_;refine s_val (v_callD (fun _ => off_c n 1 5)) ?_;refine Y0 ?_;refine Tri.cond rfl (fun h4 => ?_) (fun h4 => ?_)
     ·skip
      refine Y8 ?_;exact Tri.ret ⟨.inr rfl, ret1 rfl resV_tmp (iv_imp (by first | (simp only [termErr, *, Bool.false_eq_true, Bool.true_and, Bool.false_and, Bool.or_false, Bool.or_true, Bool.true_or, Bool.false_or, if_false, if_true]; done) | (exfalso; simp_all; done) | (unfold termErr; (repeat' split) <;> simp_all <;> omega))), zO⟩
     ·skip
      refine Tri.skip ?_;refine Y65 ?_;refine Y39 ?_;refine Y39 ?_;refine xM ?_;refine s_gg zG (v_callD (fun _ => off_c n 0 _)) ?_;refine yN ?_;refine Y0 ?_;refine Tri.cond rfl (fun h11 => ?_) (fun h11 => ?_)
      ·skip
       refine Y8 ?_;exact Tri.ret ⟨.inr rfl, ret1 rfl resV_tmp (iv_imp (by first | (simp only [termErr, *, Bool.false_eq_true, Bool.true_and, Bool.false_and, Bool.or_false, Bool.or_true, Bool.true_or, Bool.false_or, if_false, if_true]; done) | (exfalso; simp_all; done) | (unfold termErr; (repeat' split) <;> simp_all <;> omega))), zO⟩
      ·skip
       refine Tri.skip ?_;refine Y8 ?_;exact Tri.ret ⟨.inr rfl, ret1 rfl resV_tmp (iv_imp (by first | (simp only [termErr, *, Bool.false_eq_true, Bool.true_and, Bool.false_and, Bool.or_false, Bool.or_true, Bool.true_or, Bool.false_or, if_false, if_true]; done) | (exfalso; simp_all; done) | (unfold termErr; (repeat' split) <;> simp_all <;> omega))), zO⟩
    ·skip
     refine Y12 ?_;refine Tri.cond rfl (fun h5 => ?_) (fun h5 => ?_)
     ·skip
      refine Tri.skip ?_;refine tQ ?_;refine Tri.cond rfl (fun h6 => ?_) (fun h6 => ?_)
      ·skip
       refine Y20 ?_;refine Y65 ?_;refine Y39 ?_;refine Y39 ?_;refine xM ?_;refine s_gg zG (v_callD (fun _ => off_c n 0 _)) ?_;refine yN ?_;refine Y0 ?_;refine Tri.cond rfl (fun h11 => ?_) (fun h11 => ?_)
       ·skip
        refine Y8 ?_;exact Tri.ret ⟨.inr rfl, ret1 rfl resV_tmp (iv_imp (by first | (simp only [termErr, *, Bool.false_eq_true, Bool.true_and, Bool.false_and, Bool.or_false, Bool.or_true, Bool.true_or, Bool.false_or, if_false, if_true]; done) | (exfalso; simp_all; done) | (unfold termErr; (repeat' split) <;> simp_all <;> omega))), zO⟩
       ·skip
        refine Tri.skip ?_;refine Y8 ?_;exact Tri.ret ⟨.inr rfl, ret1 rfl resV_tmp (iv_imp (by first | (simp only [termErr, *, Bool.false_eq_true, Bool.true_and, Bool.false_and, Bool.or_false, Bool.or_true, Bool.true_or, Bool.false_or, if_false, if_true]; done) | (exfalso; simp_all; done) | (unfold termErr; (repeat' split) <;> simp_all <;> omega))), zO⟩
      ·skip
       refine Y12 ?_;refine Tri.cond rfl (fun h7 => ?_) (fun h7 => ?_)
       ·skip
        refine Y16 ?_;refine Y3 ?_;refine yM ?_;refine s_val (v_callO (fun _ => known_c depth n bound)) ?_;refine yQ ?_;refine Y0 ?_;refine Tri.cond rfl (fun h8 => ?_) (fun h8 => ?_)
        ·skip
         refine Y8 ?_;exact Tri.ret ⟨.inr rfl, ret1 rfl resV_tmp (iv_imp (by first | (simp only [termErr, *, Bool.false_eq_true, Bool.true_and, Bool.false_and, Bool.or_false, Bool.or_true, Bool.true_or, Bool.false_or, if_false, if_true]; done) | (exfalso; simp_all; done) | (unfold termErr; (repeat' split) <;> simp_all <;> omega))), zO⟩
        ·skip
         refine Tri.skip ?_;refine Y65 ?_;refine Y39 ?_;refine Y39 ?_;refine xM ?_;refine s_gg zG (v_callD (fun _ => off_c n 0 _)) ?_;refine yN ?_;refine Y0 ?_;refine Tri.cond rfl (fun h11 => ?_) (fun h11 => ?_)
         ·skip
          refine Y8 ?_;exact Tri.ret ⟨.inr rfl, ret1 rfl resV_tmp (iv_imp (by first | (simp only [termErr, *, Bool.false_eq_true, Bool.true_and, Bool.false_and, Bool.or_false, Bool.or_true, Bool.true_or, Bool.false_or, if_false, if_true]; done) | (exfalso; simp_all; done) | (unfold termErr; (repeat' split) <;> simp_all <;> omega))), zO⟩
         ·skip
          refine Tri.skip ?_;refine Y8 ?_;exact Tri.ret ⟨.inr rfl, ret1 rfl resV_tmp (iv_imp (by first | (simp only [termErr, *, Bool.false_eq_true, Bool.true_and, Bool.false_and, Bool.or_false, Bool.or_true, Bool.true_or, Bool.false_or, if_false, if_true]; done) | (exfalso; simp_all; done) | (unfold termErr; (repeat' split) <;> simp_all <;> omega))), zO⟩
       ·skip
        refine Y12 ?_;refine Tri.cond rfl (fun h9 => ?_) (fun h9 => ?_)
        ·skip
         refine Y34 ?_;refine Y44 ?_;refine Y24 ?_;refine Y0 ?_;refine Tri.cond rfl (fun h10 => ?_) (fun h10 => ?_)
         ·skip
          refine Y8 ?_;exact Tri.ret ⟨.inr rfl, ret1 rfl resV_tmp (iv_imp (by first | (simp only [termErr, *, Bool.false_eq_true, Bool.true_and, Bool.false_and, Bool.or_false, Bool.or_true, Bool.true_or, Bool.false_or, if_false, if_true]; done) | (exfalso; simp_all; done) | (unfold termErr; (repeat' split) <;> simp_all <;> omega))), zO⟩
         ·skip
          refine Tri.skip ?_;refine Y65 ?_;refine Y39 ?_;refine Y39 ?_;refine xM ?_;refine s_gg zG (v_callD (fun _ => off_c n 0 _)) ?_;refine yN ?_;refine Y0 ?_;refine Tri.cond rfl (fun h11 => ?_) (fun h11 => ?_)
          ·skip
           refine Y8 ?_;exact Tri.ret ⟨.inr rfl, ret1 rfl resV_tmp (iv_imp (by first | (simp only [termErr, *, Bool.false_eq_true, Bool.true_and, Bool.false_and, Bool.or_false, Bool.or_true, Bool.true_or, Bool.false_or, if_false, if_true]; done) | (exfalso; simp_all; done) | (unfold termErr; (repeat' split) <;> simp_all <;> omega))), zO⟩
          ·skip
           refine Tri.skip ?_;refine Y8 ?_;exact Tri.ret ⟨.inr rfl, ret1 rfl resV_tmp (iv_imp (by first | (simp only [termErr, *, Bool.false_eq_true, Bool.true_and, Bool.false_and, Bool.or_false, Bool.or_true, Bool.true_or, Bool.false_or, if_false, if_true]; done) | (exfalso; simp_all; done) | (unfold termErr; (repeat' split) <;> simp_all <;> omega))), zO⟩
        ·skip
         refine Tri.skip ?_;refine Y65 ?_;refine Y39 ?_;refine Y39 ?_;refine xM ?_;refine s_gg zG (v_callD (fun _ => off_c n 0 _)) ?_;refine yN ?_;refine Y0 ?_;refine Tri.cond rfl (fun h11 => ?_) (fun h11 => ?_)
         ·skip
          refine Y8 ?_;exact Tri.ret ⟨.inr rfl, ret1 rfl resV_tmp (iv_imp (by first | (simp only [termErr, *, Bool.false_eq_true, Bool.true_and, Bool.false_and, Bool.or_false, Bool.or_true, Bool.true_or, Bool.false_or, if_false, if_true]; done) | (exfalso; simp_all; done) | (unfold termErr; (repeat' split) <;> simp_all <;> omega))), zO⟩
         ·skip
          refine Tri.skip ?_;refine Y8 ?_;exact Tri.ret ⟨.inr rfl, ret1 rfl resV_tmp (iv_imp (by first | (simp only [termErr, *, Bool.false_eq_true, Bool.true_and, Bool.false_and, Bool.or_false, Bool.or_true, Bool.true_or, Bool.false_or, if_false, if_true]; done) | (exfalso; simp_all; done) | (unfold termErr; (repeat' split) <;> simp_all <;> omega))), zO⟩
     ·skip
      refine Y12 ?_;refine Tri.cond rfl (fun h6 => ?_) (fun h6 => ?_)
      ·skip
       refine Y20 ?_;refine Y65 ?_;refine Y39 ?_;refine Y39 ?_;refine xM ?_;refine s_gg zG (v_callD (fun _ => off_c n 0 _)) ?_;refine yN ?_;refine Y0 ?_;refine Tri.cond rfl (fun h11 => ?_) (fun h11 => ?_)
       ·skip
        refine Y8 ?_;exact Tri.ret ⟨.inr rfl, ret1 rfl resV_tmp (iv_imp (by first | (simp only [termErr, *, Bool.false_eq_true, Bool.true_and, Bool.false_and, Bool.or_false, Bool.or_true, Bool.true_or, Bool.false_or, if_false, if_true]; done) | (exfalso; simp_all; done) | (unfold termErr; (repeat' split) <;> simp_all <;> omega))), zO⟩
       ·skip
        refine Tri.skip ?_;refine Y8 ?_;exact Tri.ret ⟨.inr rfl, ret1 rfl resV_tmp (iv_imp (by first | (simp only [termErr, *, Bool.false_eq_true, Bool.true_and, Bool.false_and, Bool.or_false, Bool.or_true, Bool.true_or, Bool.false_or, if_false, if_true]; done) | (exfalso; simp_all; done) | (unfold termErr; (repeat' split) <;> simp_all <;> omega))), zO⟩
      ·skip
       refine Y12 ?_;refine Tri.cond rfl (fun h7 => ?_) (fun h7 => ?_)
       ·skip
        refine Y16 ?_;refine Y3 ?_;refine yM ?_;refine s_val (v_callO (fun _ => known_c depth n bound)) ?_;refine yQ ?_;refine Y0 ?_;refine Tri.cond rfl (fun h8 => ?_) (fun h8 => ?_)
        ·skip
         refine Y8 ?_;exact Tri.ret ⟨.inr rfl, ret1 rfl resV_tmp (iv_imp (by first | (simp only [termErr, *, Bool.false_eq_true, Bool.true_and, Bool.false_and, Bool.or_false, Bool.or_true, Bool.true_or, Bool.false_or, if_false, if_true]; done) | (exfalso; simp_all; done) | (unfold termErr; (repeat' split) <;> simp_all <;> omega))), zO⟩
        ·skip
         refine Tri.skip ?_;refine Y65 ?_;refine Y39 ?_;refine Y39 ?_;refine xM ?_;refine s_gg zG (v_callD (fun _ => off_c n 0 _)) ?_;refine yN ?_;refine Y0 ?_;refine Tri.cond rfl (fun h11 => ?_) (fun h11 => ?_)
         ·skip
          refine Y8 ?_;exact Tri.ret ⟨.inr rfl, ret1 rfl resV_tmp (iv_imp (by first | (simp only [termErr, *, Bool.false_eq_true, Bool.true_and, Bool.false_and, Bool.or_false, Bool.or_true, Bool.true_or, Bool.false_or, if_false, if_true]; done) | (exfalso; simp_all; done) | (unfold termErr; (repeat' split) <;> simp_all <;> omega))), zO⟩
         ·skip
          refine Tri.skip ?_;refine Y8 ?_;exact Tri.ret ⟨.inr rfl, ret1 rfl resV_tmp (iv_imp (by first | (simp only [termErr, *, Bool.false_eq_true, Bool.true_and, Bool.false_and, Bool.or_false, Bool.or_true, Bool.true_or, Bool.false_or, if_false, if_true]; done) | (exfalso; simp_all; done) | (unfold termErr; (repeat' split) <;> simp_all <;> omega))), zO⟩
       ·skip
        refine Y12 ?_;refine Tri.cond rfl (fun h9 => ?_) (fun h9 => ?_)
        ·skip
         refine Y34 ?_;refine Y44 ?_;refine Y24 ?_;refine Y0 ?_;refine Tri.cond rfl (fun h10 => ?_) (fun h10 => ?_)
         ·skip
          refine Y8 ?_;exact Tri.ret ⟨.inr rfl, ret1 rfl resV_tmp (iv_imp (by first | (simp only [termErr, *, Bool.false_eq_true, Bool.true_and, Bool.false_and, Bool.or_false, Bool.or_true, Bool.true_or, Bool.false_or, if_false, if_true]; done) | (exfalso; simp_all; done) | (unfold termErr; (repeat' split) <;> simp_all <;> omega))), zO⟩
         ·skip
          refine Tri.skip ?_;refine Y65 ?_;refine Y39 ?_;refine Y39 ?_;refine xM ?_;refine s_gg zG (v_callD (fun _ => off_c n 0 _)) ?_;refine yN ?_;refine Y0 ?_;refine Tri.cond rfl (fun h11 => ?_) (fun h11 => ?_)
          ·skip
           refine Y8 ?_;exact Tri.ret ⟨.inr rfl, ret1 rfl resV_tmp (iv_imp (by first | (simp only [termErr, *, Bool.false_eq_true, Bool.true_and, Bool.false_and, Bool.or_false, Bool.or_true, Bool.true_or, Bool.false_or, if_false, if_true]; done) | (exfalso; simp_all; done) | (unfold termErr; (repeat' split) <;> simp_all <;> omega))), zO⟩
          ·skip
           refine Tri.skip ?_;refine Y8 ?_;exact Tri.ret ⟨.inr rfl, ret1 rfl resV_tmp (iv_imp (by first | (simp only [termErr, *, Bool.false_eq_true, Bool.true_and, Bool.false_and, Bool.or_false, Bool.or_true, Bool.true_or, Bool.false_or, if_false, if_true]; done) | (exfalso; simp_all; done) | (unfold termErr; (repeat' split) <;> simp_all <;> omega))), zO⟩
        ·skip
         refine Tri.skip ?_;refine Y65 ?_;refine Y39 ?_;refine Y39 ?_;refine xM ?_;refine s_gg zG (v_callD (fun _ => off_c n 0 _)) ?_;refine yN ?_;refine Y0 ?_;refine Tri.cond rfl (fun h11 => ?_) (fun h11 => ?_)
         ·skip
          refine Y8 ?_;exact Tri.ret ⟨.inr rfl, ret1 rfl resV_tmp (iv_imp (by first | (simp only [termErr, *, Bool.false_eq_true, Bool.true_and, Bool.false_and, Bool.or_false, Bool.or_true, Bool.true_or, Bool.false_or, if_false, if_true]; done) | (exfalso; simp_all; done) | (unfold termErr; (repeat' split) <;> simp_all <;> omega))), zO⟩
         ·skip
          refine Tri.skip ?_;refine Y8 ?_;exact Tri.ret ⟨.inr rfl, ret1 rfl resV_tmp (iv_imp (by first | (simp only [termErr, *, Bool.false_eq_true, Bool.true_and, Bool.false_and, Bool.or_false, Bool.or_true, Bool.true_or, Bool.false_or, if_false, if_true]; done) | (exfalso; simp_all; done) | (unfold termErr; (repeat' split) <;> simp_all <;> omega))), zO⟩
theorem cterm_c (members depth bound : Int) (k n : Int) (r : List Int) (ks : List Tm) (cs : List Cs) :
  HCall Tryz.prog G 200 [chV members, .pu (tmc 0 (.mk k n r ks cs)), iv .i64 bound] (dpO depth) [] (iv .i64 (termErr members depth bound k n r ks.length cs.length)) [] [] := by
 have := cterm_c' (G := G) members depth bound k n r ks cs
 rwa [tms_length, css_length] at this
end Go.Proofs.YtkcgkignhpepkaaGreatDoor

/- The parts of a term, and the checker of all of them. -/
namespace Go.Proofs.YtkcgkignhpepkaaGreatDoor
open Go Hs
variable {G : List (Nat × TypeId × Pu)}
def csT : Cs → Tm
 | .mk _ t => t
def csB : Cs → Int
 | .mk p _ => bindsM p
structure It where
 i : Int
 t : Tm
 more : Int
def kidIts (k : Int) (ks : List Tm) : List It := ks.mapIdx fun i x => ⟨i, x, moreM k i⟩
def caseIts (n : Nat) (cs : List Cs) : List It := cs.mapIdx fun i c => ⟨(n : Int) + i, csT c, csB c⟩
def itsOf : Tm → List It
 | .mk k _ _ ks cs => kidIts k ks ++ caseIts ks.length cs
def partP (t : Tm) (m : Int) : Pu := .agg 200 [tmc 0 t, .leaf (.int .i64 m)]
def itE (x : It) : List PV := [iv .i64 x.i, .pu (partP x.t x.more)]
theorem parts_c (t : Tm) : HCall Tryz.prog G 132 [.pu (tmc 0 t)] [] [] (.fn (.func 191) [] [.ptr 801 [] 32]) [(801, .var 32 (.pu (tmc 0 t)))] [801] := by
 refine HCall.of_triD tbl 4 [] Tryz.func132 rfl rfl rfl fun w0 M ρ0 D0 => ?_
 refine yR ?_;refine s_box SS 801 ?_;refine yB ?_;refine e_seqN [801] ?_;refine yR ?_;refine s_val (v_mkFnD SS) ?_;refine Y2 ?_;exact Tri.ret ⟨.inr rfl, ret1 rfl resV_tmp (VImp.refl _), zO⟩
abbrev foO (e : Int) : List (Nat × Ob) := [(6, .var 37 (iv .i64 e))]
def rOf (r : Loop) : Option Int → Loop
 | none => r
 | some _ => doneL r .ret
def zOf : Option Int → Int
 | none => 0
 | some e => e
theorem yc_parts {P : Program} {X : Ctx} {l lam : Nat} {r : Loop} {HR : List (Nat × Ob)} {enc : It → List PV} {out : It → Option Int} {x : It} (h : YC P X l lam r HR (foO 0) enc out (fun _ => .ret) foO x) : YCall P X l (enc x) HR ((lam, .loop r) :: foO 0) (bv (out x).isNone) [(lam, .loop (rOf r (out x))), (6, .var 37 (iv .i64 (zOf (out x))))] := by
 unfold YC at h
 cases ho : out x with
 | none => rw [ho] at h; exact h
 | some e => rw [ho] at h; exact h
theorem find_at {α β : Type} {out : α → Option β} {l : List α} {i : Nat} (hi : i < l.length) (h : ∀ j (hj : j < i), out (l[j]'(by omega)) = none) {e : β} (he : out l[i] = some e) : l.findSome? out = some e := by
 induction l generalizing i with
 | nil => simp at hi
 | cons a l ih =>
  cases i with
  | zero => simp at he; simp [he]
  | succ i =>
   have h0 := h 0 (by omega)
   simp at h0
   simp only [List.findSome?_cons, h0]
   exact ih (by simpa using hi) (fun j hj => by have := h (j + 1) (by omega); simpa using this) (by simpa using he)
theorem find_none {α β : Type} {out : α → Option β} {l : List α} (h : ∀ j (hj : j < l.length), out l[j] = none) : l.findSome? out = none := by
 rw [List.findSome?_eq_none_iff]
 intro x hx
 obtain ⟨j, hj, rfl⟩ := List.getElem_of_mem hx
 exact h j hj
abbrev paO (t : Tm) (members depth bound : Int) : List (Nat × Ob) := [(801, .var 32 (.pu (tmc 0 t))), (3, .var 206 (chV members)), (5, .var 3 (iv .i64 bound)), (901, .var 3 (iv .i64 depth))]
theorem parts1_c (t : Tm) (hs : tsize t < 2^40) (members depth bound : Int) (out : It → Option Int) :
  IterC Tryz.prog G 191 [.ptr 801 [] 32] 900 [801, 3, 5, 901, 6, 900] (paO t members depth bound) (foO 0) (itsOf t) itE out (fun _ => .ret) foO := by
 obtain ⟨k, n, r, ks, cs⟩ := t
 refine IterC.of_tri tbl 49 Tryz.func191 rfl rfl (fun r z => by cases z <;> rfl) fun l rc w0 M ρ0 D0 hy => ?_
 simp only [tsize] at hs
 have hlen := length_tsizeL ks
 have hlenc := length_csizeL cs
 have hk : ∀ i (hi : i < ks.length), (itsOf (.mk k n r ks cs))[i]'(by simp [itsOf, kidIts, caseIts]; omega) = ⟨i, ks[i], moreM k i⟩ := fun i hi => by
  simp [itsOf, kidIts, List.getElem_append_left, hi]
 have hc : ∀ i (hi : i < cs.length), (itsOf (.mk k n r ks cs))[ks.length + i]'(by simp [itsOf, kidIts, caseIts]; omega) = ⟨(ks.length : Int) + i, csT cs[i], csB cs[i]⟩ := fun i hi => by
  simp [itsOf, kidIts, caseIts, List.getElem_append_right]
 have hL : (itsOf (.mk k n r ks cs)).length = ks.length + cs.length := by simp [itsOf, kidIts, caseIts]
 refine Y52 ?_;refine Y33 ?_;refine Tri.block (Tri.loopW (σ := {i : Nat // ∀ j (hj : j < i) (hl : j < ks.length), out ⟨j, ks[j], moreM k j⟩ = none}) (fun i => ⟨[(0, .fn (.yield l) [] []), (1, .ptr 801 [] 32), (8, .pu (.sl 0 32 (tmsc 0 ks))), (9, iv .i64 (tmsc 0 ks).length), (10, iv .i64 i.1)], [(801, .var 32 (.pu (tmc 0 (.mk k n r ks cs)))), (3, .var 206 (chV members)), (5, .var 3 (iv .i64 bound)), (901, .var 3 (iv .i64 depth)), (900, .loop rc), (6, .var 37 (iv .i64 0))]⟩) (fun i => ks.length - i.1) ⟨0, by intro j hj; omega⟩ ?_ ?_ (fun i => ?_))
 ·exact zW
 ·exact zW
 refine Y31 ?_;refine Tri.cond rfl (fun h0 => ?_) (fun h0 => ?_)
 ·skip
  have hi : i.1 < ks.length := by rw [tms_length] at h0; simpa using h0
  have hy' := yc_parts (hy ⟨i.1, ks[i.1], moreM k i.1⟩ (by rw [← hk i.1 hi]; exact List.getElem_mem _))
  refine Tri.skip ?_;refine tQ ?_;refine Tri.block ?_;refine Y1 ?_;refine s_val (v_index SS (h0 := by omega) (hp := tms_get hi)) ?_;refine yL ?_;refine s_alloc SS 4 ?_;refine yA ?_;refine yS ?_;refine e_seqN [4] ?_;refine Y29 ?_;refine yL ?_;refine Y3 ?_;refine yM ?_;refine s_val (v_callD (fun _ => termMore_c k i.1)) ?_;refine yP ?_;refine s_yield hy' ?_;refine yQ ?_;refine Y18 ?_;refine Tri.cond rfl (fun h1 => ?_) (fun h1 => ?_)
  ·skip
   obtain ⟨e, he⟩ : ∃ e, out ⟨i.1, ks[i.1], moreM k i.1⟩ = some e := by
    cases ho : out ⟨i.1, ks[i.1], moreM k i.1⟩ with
    | none => rw [ho] at h1; cases h1
    | some e => exact ⟨e, rfl⟩
   have hfin : (itsOf (.mk k n r ks cs)).findSome? out = some e := find_at (i := i.1) (by rw [hL]; omega) (fun j hj => by rw [hk j (by omega)]; exact i.2 j hj (by omega)) (by rw [hk i.1 hi]; exact he)
   rw [hfin];refine tQ ?_;exact Tri.ret ⟨.inr rfl, ret0, .cons rfl (by rw [he]; exact ObImp.refl _) (.cons rfl (by rw [he]; exact ObImp.refl _) .nil)⟩
  ·skip
   have he : out ⟨i.1, ks[i.1], moreM k i.1⟩ = none := by
    cases ho : out ⟨i.1, ks[i.1], moreM k i.1⟩ with
    | none => rfl
    | some e => rw [ho] at h1; cases h1
   have hnext : ∀ j (hj : j < i.1 + 1) (hl : j < ks.length), out ⟨j, ks[j], moreM k j⟩ = none := fun j hj hl => by
    rcases Nat.lt_or_ge j i.1 with h' | h'
    ·exact i.2 j h' hl
    ·obtain rfl : j = i.1 := by omega
     exact he
   refine Tri.skip ?_;refine Y27 ?_
   refine ⟨⟨i.1 + 1, hnext⟩, by show ks.length - (i.1 + 1) < ks.length - i.1; omega, le_of ?_ ?_⟩
   ·repeat (first | exact SubE.nil | refine SubE.cons rfl (by first | rfl | (rw [wrap64 (by omega) (by omega)]; rfl) | (rw [he]; rfl)) ?_)
   ·repeat (first | exact SubH.nil | refine SubH.cons rfl (by first | rfl | (rw [wrap64 (by omega) (by omega)]; rfl) | (rw [he]; rfl)) ?_)
 ·skip
  have hK : ∀ j (hj : j < ks.length), out ⟨j, ks[j], moreM k j⟩ = none := fun j hj => i.2 j (by rw [tms_length] at h0; simp at h0; omega) hj
  refine Tri.exit ?_;refine Y52 ?_;refine Y33 ?_;refine Tri.block (Tri.loopW (σ := {i : Nat // ∀ j (hj : j < i) (hl : j < cs.length), out ⟨(ks.length : Int) + j, csT cs[j], csB cs[j]⟩ = none}) (fun i => ⟨[(0, .fn (.yield l) [] []), (1, .ptr 801 [] 32), (27, .pu (.sl 0 106 (cssc 0 cs))), (28, iv .i64 (cssc 0 cs).length), (29, iv .i64 i.1)], [(801, .var 32 (.pu (tmc 0 (.mk k n r ks cs)))), (3, .var 206 (chV members)), (5, .var 3 (iv .i64 bound)), (901, .var 3 (iv .i64 depth)), (900, .loop rc), (6, .var 37 (iv .i64 0))]⟩) (fun i => cs.length - i.1) ⟨0, by intro j hj; omega⟩ ?_ ?_ (fun i => ?_))
  ·exact zW
  ·exact zW
  refine Y31 ?_;refine Tri.cond rfl (fun h2 => ?_) (fun h2 => ?_)
  ·skip
   have hi : i.1 < cs.length := by rw [css_length] at h2; simpa using h2
   have hy' := hc i.1 hi ▸ yc_parts (hy _ (List.getElem_mem (l := itsOf (.mk k n r ks cs)) (n := ks.length + i.1) (by rw [hL]; omega)))
   have hget := css_get (lo := 0) hi
   have hsz := csize_mem (List.getElem_mem hi)
   have hcm := i.2
   generalize hci : cs[i.1] = ci at hy' hget hsz
   obtain ⟨q, b⟩ := ci
   simp only [csT, csB] at hy'
   have hw : IntKind.wrap .i64 (((tmsc 0 ks).length : Int) + (i.1 : Int)) = (ks.length : Int) + i.1 := by rw [tms_length, wrap64 (by omega) (by omega)]
   refine Tri.skip ?_;refine tQ ?_;refine Tri.block ?_;refine Y1 ?_;refine s_val (v_index SS (h0 := by omega) (hp := hget)) ?_;refine yL ?_;refine s_alloc SS 66 ?_;refine yA ?_;refine yS ?_;refine e_seqN [66] ?_;refine Y1 ?_;refine Y55 ?_;refine yM ?_;refine yI ?_;refine Y3 ?_;refine Y3 ?_;refine s_val (v_callD (fun _ => termBinds_c _ q (Nat.le_refl _) (by simp only [csize] at hsz; omega))) ?_;refine yP ?_;refine s_yield hy' (himp := .cons (iv_imp hw) (.cons (VImp.refl _) .nil)) ?_;refine yQ ?_;refine Y18 ?_;refine Tri.cond rfl (fun h3 => ?_) (fun h3 => ?_)
   ·skip
    obtain ⟨e, he⟩ : ∃ e, out ⟨(ks.length : Int) + i.1, b, bindsM q⟩ = some e := by
     cases ho : out ⟨(ks.length : Int) + i.1, b, bindsM q⟩ with
     | none => rw [ho] at h3; cases h3
     | some e => exact ⟨e, rfl⟩
    have hfin : (itsOf (.mk k n r ks cs)).findSome? out = some e := find_at (i := ks.length + i.1) (by rw [hL]; omega) (fun j hj => by
     rcases Nat.lt_or_ge j ks.length with h' | h'
     ·rw [hk j h']; exact hK j h'
     ·obtain ⟨j', rfl⟩ := Nat.exists_eq_add_of_le h'
      rw [hc j' (by omega)]; exact hcm j' (by omega) (by omega)) (by rw [hc i.1 hi, hci]; exact he)
    rw [hfin];refine tQ ?_;exact Tri.ret ⟨.inr rfl, ret0, .cons rfl (by rw [he]; exact ObImp.refl _) (.cons rfl (by rw [he]; exact ObImp.refl _) .nil)⟩
   ·skip
    have he : out ⟨(ks.length : Int) + i.1, b, bindsM q⟩ = none := by
     cases ho : out ⟨(ks.length : Int) + i.1, b, bindsM q⟩ with
     | none => rfl
     | some e => rw [ho] at h3; cases h3
    have hnext : ∀ j (hj : j < i.1 + 1) (hl : j < cs.length), out ⟨(ks.length : Int) + j, csT cs[j], csB cs[j]⟩ = none := fun j hj hl => by
     rcases Nat.lt_or_ge j i.1 with h' | h'
     ·exact hcm j h' hl
     ·obtain rfl : j = i.1 := by omega
      rw [hci]; exact he
    refine Tri.skip ?_;refine Y27 ?_
    refine ⟨⟨i.1 + 1, hnext⟩, by show cs.length - (i.1 + 1) < cs.length - i.1; omega, le_of ?_ ?_⟩
    ·repeat (first | exact SubE.nil | refine SubE.cons rfl (by first | rfl | (rw [wrap64 (by omega) (by omega)]; rfl) | (rw [he]; rfl)) ?_)
    ·repeat (first | exact SubH.nil | refine SubH.cons rfl (by first | rfl | (rw [wrap64 (by omega) (by omega)]; rfl) | (rw [he]; rfl)) ?_)
  ·skip
   have hC : ∀ j (hj : j < cs.length), out ⟨(ks.length : Int) + j, csT cs[j], csB cs[j]⟩ = none := fun j hj => i.2 j (by rw [css_length] at h2; simp at h2; omega) hj
   have hfin : (itsOf (.mk k n r ks cs)).findSome? out = none := find_none fun j hj => by
    rcases Nat.lt_or_ge j ks.length with h' | h'
    ·rw [hk j h']; exact hK j h'
    ·obtain ⟨j', rfl⟩ := Nat.exists_eq_add_of_le h'
     rw [hL] at hj
     rw [hc j' (by omega)]; exact hC j' (by omega)
   rw [hfin];refine Tri.exit ?_;exact ⟨.inl rfl, ret0, .cons rfl (ObImp.refl _) (.cons rfl (ObImp.refl _) .nil)⟩
end Go.Proofs.YtkcgkignhpepkaaGreatDoor

/- The checker of terms, whole. -/
namespace Go.Proofs.YtkcgkignhpepkaaGreatDoor
open Go Hs
variable {G : List (Nat × TypeId × Pu)}
def csP : Cs → Pat
 | .mk p _ => p
def orE (a b : Int) : Int := if a = 0 then b else a
mutual
def aerr (m d b : Int) : Tm → Int
 | .mk k n r ks cs => orE (termErr m d b k n r ks.length cs.length) (orE (firstE (fun c => perr (csP c)) cs) (orE (aerrK m d b k 0 ks) (aerrC m d b cs)))
def aerrK (m d b k : Int) (i : Nat) : List Tm → Int
 | [] => 0
 | t :: ts => orE (aerr m d (b + moreM k i) t) (aerrK m d b k (i + 1) ts)
def aerrC (m d b : Int) : List Cs → Int
 | [] => 0
 | c :: cs => orE (aerrCs m d b c) (aerrC m d b cs)
def aerrCs (m d b : Int) : Cs → Int
 | .mk p t => aerr m d (b + bindsM p) t
end
def outA (m d b : Int) (x : It) : Option Int := if aerr m d (b + x.more) x.t = 0 then none else some (aerr m d (b + x.more) x.t)
theorem zOf_append {out : It → Option Int} (h : ∀ x e, out x = some e → e ≠ 0) : ∀ (l l' : List It), zOf ((l ++ l').findSome? out) = orE (zOf (l.findSome? out)) (zOf (l'.findSome? out))
 | [], l' => by simp [orE, zOf]
 | x :: l, l' => by
  simp only [List.cons_append, List.findSome?_cons]
  cases ho : out x with
  | none => exact zOf_append h l l'
  | some e => have := h x e ho; simp [zOf, orE, this]
theorem outA_ne {m d b : Int} : ∀ x e, outA m d b x = some e → e ≠ 0 := fun x e h => by
 unfold outA at h
 split at h
 ·cases h
 ·rename_i h0; cases h; exact h0
theorem zK (m d b k : Int) : ∀ (ks : List Tm) (i : Nat), zOf ((ks.mapIdx fun j x => (⟨((i + j : Nat) : Int), x, moreM k ((i + j : Nat) : Int)⟩ : It)).findSome? (outA m d b)) = aerrK m d b k i ks
 | [], i => rfl
 | t :: ts, i => by
  have ih := zK m d b k ts (i + 1)
  simp only [List.mapIdx_cons, List.findSome?_cons, aerrK, Nat.add_zero]
  have e : (fun (j : Nat) (x : Tm) => (⟨((i + (j + 1) : Nat) : Int), x, moreM k ((i + (j + 1) : Nat) : Int)⟩ : It)) = fun j x => ⟨((i + 1 + j : Nat) : Int), x, moreM k ((i + 1 + j : Nat) : Int)⟩ := by funext j x; rw [show i + (j + 1) = i + 1 + j by omega]
  rw [e]
  unfold orE
  by_cases h : aerr m d (b + moreM k i) t = 0
  ·rw [show outA m d b ⟨(i : Int), t, moreM k i⟩ = none by simp [outA, h], if_pos h]
   exact ih
  ·rw [show outA m d b ⟨(i : Int), t, moreM k i⟩ = some (aerr m d (b + moreM k i) t) by simp [outA, h], if_neg h]
   rfl
theorem zC (m d b : Int) (n : Nat) : ∀ (cs : List Cs) (i : Nat), zOf ((cs.mapIdx fun j c => (⟨(n : Int) + ((i + j : Nat) : Int), csT c, csB c⟩ : It)).findSome? (outA m d b)) = aerrC m d b cs
 | [], i => rfl
 | .mk q t :: cs, i => by
  have ih := zC m d b n cs (i + 1)
  simp only [List.mapIdx_cons, List.findSome?_cons, aerrC, aerrCs, Nat.add_zero]
  have e : (fun (j : Nat) (c : Cs) => (⟨(n : Int) + ((i + (j + 1) : Nat) : Int), csT c, csB c⟩ : It)) = fun j c => ⟨(n : Int) + ((i + 1 + j : Nat) : Int), csT c, csB c⟩ := by funext j c; rw [show i + (j + 1) = i + 1 + j by omega]
  rw [e];rw [show csT (.mk q t) = t from rfl, show csB (.mk q t) = bindsM q from rfl]
  unfold orE
  by_cases h : aerr m d (b + bindsM q) t = 0
  ·rw [show outA m d b ⟨(n : Int) + (i : Int), t, bindsM q⟩ = none by simp [outA, h], if_pos h]
   exact ih
  ·rw [show outA m d b ⟨(n : Int) + (i : Int), t, bindsM q⟩ = some (aerr m d (b + bindsM q) t) by simp [outA, h], if_neg h]
   rfl
theorem z_its (m d b k n : Int) (r : List Int) (ks : List Tm) (cs : List Cs) : zOf ((itsOf (.mk k n r ks cs)).findSome? (outA m d b)) = orE (aerrK m d b k 0 ks) (aerrC m d b cs) := by
 have h1 := zK m d b k ks 0
 have h2 := zC m d b ks.length cs 0
 simp only [Nat.zero_add] at h1 h2
 unfold itsOf kidIts caseIts
 rw [zOf_append outA_ne, h1, h2]
theorem it_bound {k n : Int} {r : List Int} {ks : List Tm} {cs : List Cs} {x : It} (h : x ∈ itsOf (.mk k n r ks cs)) : tsize x.t ≤ tsizeL ks + csizeL cs ∧ 0 ≤ x.more ∧ x.more + 2 * tsize x.t ≤ 2 * (1 + tsizeL ks + csizeL cs) := by
 unfold itsOf kidIts caseIts at h
 rcases List.mem_append.1 h with h | h
 ·obtain ⟨i, hi, rfl⟩ := List.mem_mapIdx.1 h
  have := tsize_mem (List.getElem_mem hi)
  have : moreM k i = 0 ∨ moreM k i = 1 ∨ moreM k i = 2 := by unfold moreM; split <;> (try split) <;> simp
  simp only
  omega
 ·obtain ⟨i, hi, rfl⟩ := List.mem_mapIdx.1 h
  have := csize_mem (List.getElem_mem hi)
  generalize cs[i] = c at this ⊢
  obtain ⟨q, t⟩ := c
  have hb := binds_bound q
  simp only [csT, csB, csize] at this ⊢
  omega
instance (t : Tm) (m : Int) : TyV Tryz.prog 200 (.pu (partP t m)) := inferInstanceAs (TyV Tryz.prog 200 (.pu (.agg _ _)))
theorem css_pat {lo : Nat} {c : Cs} : csec lo c = .agg 106 [patc lo (csP c), tmc lo (csT c)] := by cases c; rfl
theorem all_c (members depth : Int) : ∀ (N : Nat) (t : Tm), tsize t ≤ N → N < 2^40 → ∀ bound : Int, 0 ≤ bound → bound + 2 * tsize t ≤ 2^42 →
  HCall Tryz.prog G 136 [chV members, .pu (tmc 0 t), iv .i64 bound] (dpO depth) [] (iv .i64 (aerr members depth bound t)) [] [] := by
 intro N
 induction N with
 | zero => intro t h; have := tsize_pos t; omega
 | succ N ih =>
 intro t hp hN bound hb0 hb1
 obtain ⟨k, n, r, ks, cs⟩ := t
 have hsz : tsize (.mk k n r ks cs) < 2^40 := by omega
 simp only [tsize] at hp hb1
 have hlen := length_tsizeL ks
 have hlenc := length_csizeL cs
 refine HCall.of_triD tbl 50 [] Tryz.func136 rfl rfl rfl fun w0 M ρ0 D0 => ?_
 refine yR ?_;refine s_box SS 3 ?_;refine s_box SS 4 ?_;refine s_box SS 5 ?_;refine s_alloc SS 6 ?_;refine e_seqN [3, 4, 5, 6] ?_;refine Y36 ?_;refine yL ?_;refine s_val (v_callO (fun _ => cterm_c members depth bound k n r ks cs)) ?_;refine Y14 ?_;refine Y61 ?_;refine Tri.cond rfl (fun h0 => ?_) (fun h0 => ?_)
 ·skip
  have h0' : termErr members depth bound k n r ks.length cs.length ≠ 0 := by simpa using h0
  refine Y1 ?_;refine Y10 ?_;exact Tri.ret ⟨.inr rfl, ret1 rfl resV_cell (iv_imp (by simp [aerr, orE, h0'])), zO⟩
 ·skip
  have h0' : termErr members depth bound k n r ks.length cs.length = 0 := by simpa using h0
  refine Tri.skip ?_;refine Y52 ?_;refine Y33 ?_;refine Tri.block (Tri.loopW (σ := {i : Nat // firstE (fun c => perr (csP c)) (cs.take i) = 0}) (fun i => ⟨[(3, .ptr 3 [] 206), (4, .ptr 4 [] 32), (5, .ptr 5 [] 3), (6, .ptr 6 [] 37), (22, .pu (.sl 0 106 (cssc 0 cs))), (23, iv .i64 (cssc 0 cs).length), (24, iv .i64 i.1)], [(3, .var 206 (chV members)), (4, .var 32 (.pu (tmc 0 (.mk k n r ks cs)))), (5, .var 3 (iv .i64 bound)), (6, .var 37 (iv .i64 0)), (901, .var 3 (iv .i64 depth))]⟩) (fun i => cs.length - i.1) ⟨0, rfl⟩ ?_ ?_ (fun i => ?_))
  ·exact zW
  ·exact zW
  refine Y31 ?_;refine Tri.cond rfl (fun h1 => ?_) (fun h1 => ?_)
  ·skip
   have hi : i.1 < cs.length := by rw [css_length] at h1; simpa using h1
   have hcz := csize_mem (List.getElem_mem hi)
   have hpz : psize (csP cs[i.1]) ≤ csize cs[i.1] := by generalize cs[i.1] = c; cases c; simp only [csP, csize]; omega
   have hget := css_get (lo := 0) hi
   rw [css_pat] at hget
   refine Tri.skip ?_;refine tQ ?_;refine Tri.block ?_;refine yR ?_;refine s_val (v_index SS (h0 := by omega) (hp := hget)) ?_;refine yL ?_;refine s_alloc SS 9 ?_;refine yS ?_;refine e_seqN [9] ?_;refine Y16 ?_;refine s_val (v_callD (fun _ => patternsError_c _ (csP cs[i.1]) (Nat.le_refl _) (by omega))) ?_;refine Y14 ?_;refine Y61 ?_;refine Tri.cond rfl (fun h2 => ?_) (fun h2 => ?_)
   ·skip
    have h2' : perr (csP cs[i.1]) ≠ 0 := by simpa using h2
    have hf : firstE (fun c => perr (csP c)) (cs.take (i.1 + 1)) = perr (csP cs[i.1]) := by rw [firstE_take _ hi, if_pos i.2]
    have hf2 := firstE_pre (fun c => perr (csP c)) (l := cs) (i := i.1 + 1) (by rw [hf]; exact h2')
    refine Y1 ?_;refine Y10 ?_;exact Tri.ret ⟨.inr rfl, ret1 rfl resV_cell (iv_imp (by simp [aerr, orE, h0', hf2, hf, h2'])), zO⟩
   ·skip
    have h2' : perr (csP cs[i.1]) = 0 := by simpa using h2
    have hnext : firstE (fun c => perr (csP c)) (cs.take (i.1 + 1)) = 0 := by rw [firstE_take _ hi, if_pos i.2, h2']
    refine Tri.skip ?_;refine Y27 ?_
    refine ⟨⟨i.1 + 1, hnext⟩, by show cs.length - (i.1 + 1) < cs.length - i.1; omega, le_of ?_ ?_⟩
    ·exact zE
    ·exact zH
  ·skip
   have hz1 : firstE (fun c => perr (csP c)) cs = 0 := by have := i.2; rwa [List.take_of_length_le (by rw [css_length] at h1; simp at h1; omega)] at this
   have hz2 := z_its members depth bound k n r ks cs
   have haerr : aerr members depth bound (.mk k n r ks cs) = zOf ((itsOf (.mk k n r ks cs)).findSome? (outA members depth bound)) := by rw [hz2]; simp [aerr, orE, h0', hz1]
   refine Tri.exit ?_;refine Y4 ?_;refine s_call (parts_c (.mk k n r ks cs)) ?_;refine e_seqN [801] ?_;refine tQ ?_;refine Tri.block ?_;refine tQ ?_;refine Tri.overFunc 900 [801, 3, 5, 901, 6, 900] [6, 900] [(3, .ptr 3 [] 206), (5, .ptr 5 [] 3), (6, .ptr 6 [] 37)] (parts1_c (.mk k n r ks cs) hsz members depth bound (outA members depth bound)) (by intro x _; rfl) (fun x hx r w0 M ρ0 D0 l => ?_) (fun hdone => ?_) (fun z hz => ?_)
   ·skip
    refine yR ?_;refine s_alloc SS 12 ?_;refine yS ?_;refine e_seqN [12] ?_
    refine ⟨rfl, ?_⟩
    have hit := it_bound hx
    have hcall := ih x.t (by omega) (by omega) (bound + x.more) (by omega) (by omega)
    refine tQ ?_;refine Tri.block ?_;refine Y4 ?_;refine Y3 ?_;refine yL ?_;refine Y3 ?_;refine yI ?_;refine s_val (v_callO (fun _ => hcall)) ?_;refine Y14 ?_;refine Y61 ?_;refine Tri.cond rfl (fun h3 => ?_) (fun h3 => ?_)
    ·skip
     have h3' : outA members depth bound x = some (aerr members depth (bound + x.more) x.t) := by unfold outA; rw [if_neg (by simpa using h3)]
     refine Y1 ?_;refine Y10 ?_;refine Tri.ret ⟨rfl, ?_, ?_⟩
     ·rw [h3']; rfl
     ·rw [h3']; exact .cons rfl (ObImp.refl _) .nil
    ·skip
     have h3' : outA members depth bound x = none := by unfold outA; rw [if_pos (by simpa using h3)]
     refine Tri.skip ?_
     refine ⟨rfl, ?_, ?_⟩
     ·rw [h3']; rfl
     ·rw [h3']; exact .cons rfl (ObImp.refl _) .nil
   ·skip
    refine yR ?_;refine Y10 ?_;exact Tri.ret ⟨.inr rfl, ret1 rfl resV_cell (iv_imp (by rw [haerr, hdone]; rfl)), zO⟩
   ·skip
    exact Tri.ret ⟨.inr rfl, ret1 rfl resV_cell (iv_imp (by rw [haerr, hz]; rfl)), .nil⟩
end Go.Proofs.YtkcgkignhpepkaaGreatDoor

/- The checks of a term, and of a world and a term. -/
namespace Go.Proofs.YtkcgkignhpepkaaGreatDoor
open Go Hs
variable {G : List (Nat × TypeId × Pu)}
def checkM (t : Tm) (depth members : Int) : Int := if (longT 300 60 1 0 t).1 then 11 else aerr members depth 0 t
theorem check_c (t : Tm) (hN : tsize t < 2^40) (depth members : Int) : FCall Tryz.prog G 60 [.pu (tmc 0 t), iv .i64 depth, iv .i64 members] (iv .i64 (checkM t depth members)) := by
 refine FCall.of_tri tbl 18 Tryz.func60 rfl rfl rfl fun w0 M ρ0 D0 => ?_
 refine yR ?_;refine s_box SS 3 ?_;refine s_box SS 901 ?_;refine yB ?_;refine e_seqN [3, 901] ?_;refine Y58 ?_;refine s_box SS 90 ?_;refine yL ?_;refine s_call (lgT_c _ t (Nat.le_refl _) hN 1 0 (by omega) (by omega)) ?_;refine e_seqN [90] ?_;refine tQ ?_;refine Tri.cond rfl (fun h0 => ?_) (fun h0 => ?_)
 ·skip
  refine Y8 ?_;exact Tri.ret ⟨.inr rfl, ret1 rfl resV_tmp (iv_imp (by simp [checkM, h0]))⟩
 ·skip
  refine Tri.skip ?_;refine Y1 ?_;refine s_val (v_mkFnD SS) ?_;refine yP ?_;refine s_alloc SS 7 ?_;refine yS ?_;refine e_seqN [7] ?_;refine Y36 ?_;refine s_val (v_callO (fun _ => all_c members depth _ t (Nat.le_refl _) hN 0 (by omega) (by omega))) ?_;refine Y2 ?_;exact Tri.ret ⟨.inr rfl, ret1 rfl resV_tmp (iv_imp (by simp [checkM, h0]))⟩
abbrev KT := List Int × Tm
def ktP (x : KT) : Pu := .agg 116 [refP x.1, tmc 0 x.2]
def wdP (a b : Pu) (ts : List KT) : Pu := .agg 26 [a, b, .sl 0 116 (ts.map ktP)]
instance (x : KT) : TyV Tryz.prog 116 (.pu (ktP x)) := inferInstanceAs (TyV Tryz.prog 116 (.pu (.agg _ _)))
instance (a b : Pu) (ts : List KT) : TyV Tryz.prog 26 (.pu (wdP a b ts)) := inferInstanceAs (TyV Tryz.prog 26 (.pu (.agg _ _)))
theorem kt_get {ts : List KT} {i : Nat} (h : i < ts.length) : (ts.map ktP)[i]? = some (ktP ts[i]) := by simp [h]
theorem kts_wf {D : Nat → Nat → Prop} {w : World} : ∀ {ts : List KT} {cs : List (Nat × TypeId)} {x : List Value}, PRs Tryz.prog D w cs (ts.map ktP) x → ∀ x ∈ ts, x.1.length = 32
 | [], _, _, _, x, hx => by cases hx
 | t :: ts, _, _, h, x, hx => by
  obtain ⟨⟨_, h1⟩, _, _, h2⟩ := PRs_cons h
  rcases List.mem_cons.1 hx with rfl | hx
  ·obtain ⟨_, h1⟩ := PR_agg h1
   obtain ⟨⟨_, h1⟩, _⟩ := PRs_cons h1
   exact ref_len h1
  ·exact kts_wf h2 x hx
theorem wd_wf {D : Nat → Nat → Prop} {w : World} {a b : Pu} {ts : List KT} {x : List Value} (h : PR Tryz.prog D w (wdP a b ts) x) : ∀ x ∈ ts, x.1.length = 32 := by
 obtain ⟨_, h⟩ := PR_agg h
 obtain ⟨_, _, _, h⟩ := PRs_cons h
 obtain ⟨_, _, _, h⟩ := PRs_cons h
 obtain ⟨⟨_, h⟩, _⟩ := PRs_cons h
 obtain ⟨_, _, h⟩ := PR_sl h
 exact kts_wf h
def mapE (l : List (List Int × PV)) : List (Pu × PV) := l.map fun x => (refP x.1, x.2)
def lookS (s : List Int) : List (List Int × PV) → Option PV
 | [] => none
 | x :: l => if s = x.1 then some x.2 else lookS s l
theorem findE_none {s : List Int} (hs : s.length = 32) : ∀ {l : List (List Int × PV)} {i : Nat}, (∀ x ∈ l, x.1.length = 32) → lookS s l = none → findE Tryz.prog 28 (refP s) (mapE l) i = some none
 | [], _, _, _ => rfl
 | x :: l, i, h, hn => by
  simp only [lookS] at hn
  split at hn
  ·cases hn
  ·rename_i hne
   simp only [mapE, List.map_cons, findE, peq_ref (hs.trans (h x (by simp)).symm)]
   rw [show (s == x.1) = false by simpa using hne];exact findE_none hs (fun y hy => h y (by simp [hy])) hn
theorem findE_some {s : List Int} (hs : s.length = 32) : ∀ {l : List (List Int × PV)} {i : Nat} {v : PV}, (∀ x ∈ l, x.1.length = 32) → lookS s l = some v → ∃ j, findE Tryz.prog 28 (refP s) (mapE l) i = some (some (j, v))
 | [], _, _, _, h => by cases h
 | x :: l, i, v, h, hn => by
  simp only [lookS] at hn
  simp only [mapE, List.map_cons, findE, peq_ref (hs.trans (h x (by simp)).symm)]
  split at hn
  ·rename_i he
   simp at hn
   rw [show (s == x.1) = true by simpa using he];exact ⟨i, by rw [hn]⟩
  ·rename_i hne
   rw [show (s == x.1) = false by simpa using hne];exact findE_some hs (fun y hy => h y (by simp [hy])) hn
theorem mapGet_none {s : List Int} {V : TypeId} {z : PV} {l : List (List Int × PV)} (hz : SS.Z V = some z) (hs : s.length = 32) (h : ∀ x ∈ l, x.1.length = 32) (hn : lookS s l = none) : mapGet Tryz.prog SS 28 V (refP s) (mapE l) = some (z, false) := by
 unfold mapGet
 rw [findE_none hs h hn, hz]
theorem mapGet_some {s : List Int} {V : TypeId} {v : PV} {l : List (List Int × PV)} (hs : s.length = 32) (h : ∀ x ∈ l, x.1.length = 32) (hn : lookS s l = some v) : mapGet Tryz.prog SS 28 V (refP s) (mapE l) = some (v, true) := by
 unfold mapGet
 obtain ⟨j, hj⟩ := findE_some (i := 0) hs h hn
 rw [hj]
theorem mapE_ty (l : List (List Int × PV)) : ∀ q ∈ mapE l, tyP Tryz.prog 28 q.1 = true := by
 intro q hq
 obtain ⟨x, _, rfl⟩ := List.mem_map.1 hq
 exact (sum_cond x.1 x.1).2.2.1
theorem mapE_append (l : List (List Int × PV)) (s : List Int) (v : PV) : mapE (l ++ [(s, v)]) = mapE l ++ [(refP s, v)] := by simp [mapE]
instance {V : TypeId} {α : Type} {l : List α} {f : α → List Int} {g : α → Pu} : NoLab (.map 28 V (mapE (l.map fun x => (f x, .pu (g x))))) := ⟨by
 have := (NoLab.map (K := 28) (V := V) (l := l) (f := fun x => refP (f x)) (g := fun x => .pu (g x)) (fun _ => rfl)).ok
 unfold mapE
 rw [List.map_map]
 exact this⟩
instance {K V : TypeId} {es : List (Pu × PV)} {k p : Pu} [h : NoLab (.map K V es)] : NoLab (.map K V (es ++ [(k, .pu p)])) := ⟨by
 have h1 : PV.labsL (es.map (·.2)) = [] := h.ok
 show PV.labsL ((es ++ [(k, PV.pu p)]).map (·.2)) = []
 rw [List.map_append]
 generalize es.map (·.2) = l at h1 ⊢
 induction l with
 | nil => rfl
 | cons a l ih => simp only [PV.labsL, List.append_eq_nil_iff, List.cons_append] at h1 ⊢; exact ⟨h1.1, ih h1.2⟩⟩
def metL (ts : List KT) : List (List Int × PV) := ts.map fun x => (x.1, bv true)
theorem look_met {s : List Int} : ∀ {ts : List KT}, lookS s (metL ts) = if s ∈ ts.map (·.1) then some (bv true) else none
 | [] => by simp [metL, lookS]
 | x :: ts => by
  have ih := look_met (s := s) (ts := ts)
  unfold metL at ih ⊢
  simp only [List.map_cons, lookS, ih, List.mem_cons]
  by_cases h : s = x.1
  ·simp [h]
  ·simp only [h, if_false, false_or]
instance {V : TypeId} {ts : List KT} : NoLab (.map 28 V (mapE (metL ts))) := inferInstanceAs (NoLab (.map 28 V (mapE (ts.map fun x => (x.1, .pu (.leaf (.bool true)))))))
theorem metL_take {ts : List KT} {i : Nat} (h : i < ts.length) : metL (ts.take (i + 1)) = metL (ts.take i) ++ [(ts[i].1, bv true)] := by
 unfold metL
 rw [List.take_succ_eq_append_getElem h, List.map_append]; rfl
theorem met_len {ts : List KT} (h : ∀ x ∈ ts, x.1.length = 32) : ∀ x ∈ metL ts, x.1.length = 32 := by
 intro x hx
 obtain ⟨y, hy, rfl⟩ := List.mem_map.1 hx
 exact h y hy
def dupM (ts : List KT) : Bool := !decide (ts.map (·.1)).Nodup
def stepCheckM (ts : List KT) (t : Tm) : Int := if decide ((ts.length : Int) > 40) then 2 else orE (firstE (fun x => checkM x.2 0 0) ts) (if dupM ts then 5 else checkM t 0 0)
theorem nodup_take {α : Type} {l : List α} {i : Nat} (h : i < l.length) : (l.take (i + 1)).Nodup ↔ (l.take i).Nodup ∧ l[i] ∉ l.take i := by
 rw [List.take_succ_eq_append_getElem h, List.nodup_append]
 simp only [List.nodup_cons, List.not_mem_nil, not_false_eq_true, List.nodup_nil, and_self, true_and, List.mem_singleton]
 exact ⟨fun ⟨h1, h2⟩ => ⟨h1, fun hm => h2 _ hm _ rfl rfl⟩, fun ⟨h1, h2⟩ => ⟨h1, fun a ha b hb e => h2 (by rw [← hb, ← e]; exact ha)⟩⟩
theorem stepCheck_c (a b : Pu) (ts : List KT) (t : Tm) (hts : ∀ x ∈ ts, tsize x.2 < 2^40) (hN : tsize t < 2^40) : FCall Tryz.prog G 19 [.pu (wdP a b ts), .pu (tmc 0 t)] (iv .i64 (stepCheckM ts t)) := by
 refine FCall.of_tri tbl 47 Tryz.func19 rfl rfl rfl fun w0 M ρ0 D0 => ?_
 refine Tri.fact (i := 0) rfl (fun D w x h => wd_wf h) (fun hr => ?_);refine yR ?_;refine s_box SS 2 ?_;refine s_box SS 3 ?_;refine yB ?_;refine e_seqN [2, 3] ?_;refine Y52 ?_;refine Y45 ?_;refine Tri.cond rfl (fun h0 => ?_) (fun h0 => ?_)
 ·skip
  refine Y8 ?_;exact Tri.ret ⟨.inr rfl, ret1 rfl resV_tmp (iv_imp (by simp at h0; simp [stepCheckM, h0]))⟩
 ·skip
  have hts40 : ¬ ((ts.length : Int) > 40) := by simpa using h0
  refine Tri.skip ?_;refine Y52 ?_;refine Y33 ?_;refine Tri.block (Tri.loopW (σ := {i : Nat // firstE (fun x : KT => checkM x.2 0 0) (ts.take i) = 0}) (fun i => ⟨[(2, .ptr 2 [] 26), (3, .ptr 3 [] 32), (16, .pu (.sl 0 116 (ts.map ktP))), (17, iv .i64 (ts.map ktP).length), (18, iv .i64 i.1)], [(2, .var 26 (.pu (wdP a b ts))), (3, .var 32 (.pu (tmc 0 t)))]⟩) (fun i => ts.length - i.1) ⟨0, rfl⟩ ?_ ?_ (fun i => ?_))
  ·exact zW
  ·exact zW
  refine Y31 ?_;refine Tri.cond rfl (fun h1 => ?_) (fun h1 => ?_)
  ·skip
   have hi : i.1 < ts.length := by simpa using h1
   refine Tri.skip ?_;refine tQ ?_;refine Tri.block ?_;refine yR ?_;refine s_val (v_index SS (h0 := by omega) (hp := kt_get hi)) ?_;refine yL ?_;refine s_alloc SS 6 ?_;refine yS ?_;refine e_seqN [6] ?_;refine Y16 ?_;refine s_val (v_callD (fun _ => check_c ts[i.1].2 (hts _ (List.getElem_mem hi)) 0 0)) ?_;refine Y14 ?_;refine Y61 ?_;refine Tri.cond rfl (fun h2 => ?_) (fun h2 => ?_)
   ·skip
    have h2' : checkM ts[i.1].2 0 0 ≠ 0 := by simpa using h2
    have hf : firstE (fun x : KT => checkM x.2 0 0) (ts.take (i.1 + 1)) = checkM ts[i.1].2 0 0 := by rw [firstE_take _ hi, if_pos i.2]
    have hf2 := firstE_pre (fun x : KT => checkM x.2 0 0) (l := ts) (i := i.1 + 1) (by rw [hf]; exact h2')
    refine Y1 ?_;refine Y2 ?_;exact Tri.ret ⟨.inr rfl, ret1 rfl resV_tmp (iv_imp (by simp [stepCheckM, hts40, orE, hf2, hf, h2']))⟩
   ·skip
    have h2' : checkM ts[i.1].2 0 0 = 0 := by simpa using h2
    have hnext : firstE (fun x : KT => checkM x.2 0 0) (ts.take (i.1 + 1)) = 0 := by rw [firstE_take _ hi, if_pos i.2, h2']
    refine Tri.skip ?_;refine Y27 ?_
    refine ⟨⟨i.1 + 1, hnext⟩, by show ts.length - (i.1 + 1) < ts.length - i.1; omega, le_of ?_ ?_⟩
    ·exact zE
    ·exact zH
  ·skip
   have hz1 : firstE (fun x : KT => checkM x.2 0 0) ts = 0 := by have := i.2; rwa [List.take_of_length_le (by simp at h1; omega)] at this
   refine Tri.exit ?_;refine yR ?_;refine s_makeMap 29 ?_;refine yA ?_;refine e_seqN [29] ?_;refine Y52 ?_;refine Y33 ?_;refine Tri.block (Tri.loopW (σ := {i : Nat // ((ts.take i).map (·.1)).Nodup}) (fun i => ⟨[(2, .ptr 2 [] 26), (3, .ptr 3 [] 32), (31, .pu (.sl 0 116 (ts.map ktP))), (32, iv .i64 (ts.map ktP).length), (33, iv .i64 i.1), (8, .mp 29 28 4)], [(2, .var 26 (.pu (wdP a b ts))), (3, .var 32 (.pu (tmc 0 t))), (29, .map 28 4 (mapE (metL (ts.take i.1))))]⟩) (fun i => ts.length - i.1) ⟨0, by simp⟩ ?_ ?_ (fun i => ?_))
   ·exact zW
   ·exact zW
   refine Y31 ?_;refine Tri.cond rfl (fun h3 => ?_) (fun h3 => ?_)
   ·skip
    have hi : i.1 < ts.length := by simpa using h3
    have hr1 := hr _ (List.getElem_mem hi)
    have hr2 := met_len (fun x hx => hr x (List.mem_of_mem_take hx)) (ts := ts.take i.1)
    have hdup := nodup_take (l := ts.map (·.1)) (i := i.1) (by simpa using hi)
    rw [List.map_take.symm, List.map_take.symm, List.getElem_map] at hdup
    have hget : mapGet Tryz.prog SS 28 4 (refP ts[i.1].1) (mapE (metL (ts.take i.1))) = some (bv (decide (ts[i.1].1 ∈ (ts.take i.1).map (·.1))), decide (ts[i.1].1 ∈ (ts.take i.1).map (·.1))) := by
     by_cases hm : ts[i.1].1 ∈ (ts.take i.1).map (·.1)
     ·rw [mapGet_some hr1 hr2 (by rw [look_met, if_pos hm]), decide_eq_true hm]
     ·rw [mapGet_none (z := bv false) (by kernel_rfl) hr1 hr2 (by rw [look_met, if_neg hm]), decide_eq_false hm]
    refine Tri.skip ?_;refine tQ ?_;refine Tri.block ?_;refine yR ?_;refine s_val (v_index SS (h0 := by omega) (hp := kt_get hi)) ?_;refine yL ?_;refine s_alloc SS 10 ?_;refine yS ?_;refine e_seqN [10] ?_;refine Y1 ?_;refine Y3 ?_;refine s_val (v_lookup SS rfl rfl rfl (VImp.refl _) (mapE_ty _) (sum_cond _ [] ).2.2.1 hget) ?_;refine Y0 ?_;refine Tri.cond rfl (fun h4 => ?_) (fun h4 => ?_)
    ·skip
     have hm : ts[i.1].1 ∈ (ts.take i.1).map (·.1) := by simpa using h4
     have hnd : ¬ (ts.map (·.1)).Nodup := fun hn => by
      have h2 : ((ts.take (i.1 + 1)).map (·.1)).Nodup := by rw [List.map_take]; exact hn.sublist (List.take_sublist _ _)
      exact (hdup.1 h2).2 hm
     refine Y8 ?_;exact Tri.ret ⟨.inr rfl, ret1 rfl resV_tmp (iv_imp (by simp [stepCheckM, hts40, orE, hz1, dupM, hnd]))⟩
    ·skip
     have hm : ts[i.1].1 ∉ (ts.take i.1).map (·.1) := by simpa using h4
     have hnone : lookS ts[i.1].1 (metL (ts.take i.1)) = none := by rw [look_met, if_neg hm]
     have hnext : ((ts.take (i.1 + 1)).map (·.1)).Nodup := hdup.2 ⟨i.2, hm⟩
     refine Tri.skip ?_;refine Y1 ?_;refine Y3 ?_;refine step_insert SS (u := bv true) rfl rfl rfl rfl (VImp.refl _) rfl (VImp.refl _) rfl (mapE_ty _) (sum_cond _ [] ).2.2.1 (findE_none hr1 hr2 hnone) (labs := []) (fun l' h => by rw [NoLab.ok] at h; exact h) ?_;refine e_seq ?_;refine Y27 ?_
     refine ⟨⟨i.1 + 1, hnext⟩, by show ts.length - (i.1 + 1) < ts.length - i.1; omega, le_of ?_ ?_⟩
     ·repeat (first | exact SubE.nil | refine SubE.cons rfl (by first | rfl | (rw [wrap64 (by omega) (by omega)]; rfl) | (simp only [metL_take hi, mapE_append])) ?_)
     ·repeat (first | exact SubH.nil | refine SubH.cons rfl (by first | rfl | (rw [wrap64 (by omega) (by omega)]; rfl) | (simp only [metL_take hi, mapE_append])) ?_)
   ·skip
    have hnd : (ts.map (·.1)).Nodup := by have := i.2; rwa [List.take_of_length_le (by simp at h3; omega)] at this
    refine Tri.exit ?_;refine Y4 ?_;refine s_val (v_callD (fun _ => check_c t hN 0 0)) ?_;refine Y2 ?_;exact Tri.ret ⟨.inr rfl, ret1 rfl resV_tmp (iv_imp (by simp [stepCheckM, hts40, orE, hz1, dupM, hnd]))⟩
end Go.Proofs.YtkcgkignhpepkaaGreatDoor

/- Patterns of one's own. -/
namespace Go.Proofs.YtkcgkignhpepkaaGreatDoor
open Go Hs
variable {G : List (Nat × TypeId × Pu)}
theorem stepOwnPatternN_c : ∀ (N : Nat) (p : Pat), psize p ≤ N → N < 2^30 → FCallN Tryz.prog G 221 [.pu (patc 0 p)] (fun n => .pu (patc n p)) := by
 intro N
 induction N with
 | zero => intro p h; cases p; simp [psize] at h
 | succ N ih =>
 intro p hp hN
 obtain ⟨k, n, r, ks⟩ := p
 simp only [psize] at hp
 have hlen := length_psizeL ks
 refine FCallN.of_tri tbl 24 Tryz.func221 rfl rfl (fun _ => rfl) fun w0 M ρ0 D0 hM => ?_
 refine yR ?_;refine s_box SS 1 ?_;refine s_alloc SS 2 ?_;refine e_seqN [1, 2] ?_;refine Y23 ?_;refine Y14 ?_;refine yR ?_;refine yF ?_;refine Y17 ?_;refine Y37 ?_;refine yJ ?_;refine e_seq ?_
 refine Tri.ghost (Ghost.wk (env' := [(1, .ptr 1 [] 104), (2, .ptr 2 [] 104), (9, .pu (.sl 0 104 (patsc 0 ks))), (10, iv .i64 (patsc 0 ks).length), (11, iv .i64 0)])
  (heap' := [(1, .var 104 (.agg 104 [iv .i64 k, iv .i64 n, .pu (refP r), .ow w0.heap.size 104 []])), (2, .var 104 (.agg 104 [iv .i64 0, iv .i64 0, .pu (refP Z32), .nilc]))])
  (.cons rfl .refl (.cons rfl .refl (.cons rfl .refl (.cons rfl .refl (.cons rfl .refl .nil))))) (.cons rfl (.var (.agg (.cons .refl (.cons .refl (.cons .refl (.cons .nilcOw .nil)))))) (.cons rfl .refl .nil))) ?_
 refine tQ ?_
 refine Tri.block (Tri.loop (σ := Nat) (fun i => ⟨[(1, .ptr 1 [] 104), (2, .ptr 2 [] 104), (9, .pu (.sl 0 104 (patsc 0 ks))), (10, iv .i64 (patsc 0 ks).length), (11, iv .i64 i)],
  [(1, .var 104 (.agg 104 [iv .i64 k, iv .i64 n, .pu (refP r), .ow w0.heap.size 104 (patsc w0.heap.size (ks.take i))])), (2, .var 104 (.agg 104 [iv .i64 0, iv .i64 0, .pu (refP Z32), .nilc]))]⟩) (fun i => ks.length - i) 0 ?_ (fun i => ?_))
 ·exact le_of (.cons rfl rfl (.cons rfl rfl (.cons rfl rfl (.cons rfl rfl (.cons rfl rfl .nil))))) (.cons rfl rfl (.cons rfl rfl .nil))
 refine Y5 ?_;refine e_seq ?_;refine Tri.seq (Tri.cond rfl (fun hb => Tri.skip ?_) (fun hb => Tri.exit ?_))
 ·have hi : i < ks.length := by simpa [pats_eq] using hb
  refine Tri.seq (Tri.block ?_);refine yR ?_;refine s_val (v_index SS (h0 := by omega) (hp := pats_get hi)) ?_;refine yL ?_;refine s_alloc SS 5 ?_;refine yS ?_;refine e_seqN [5] ?_;refine Y23 ?_;refine yL ?_;refine s_val (v_callN (fun m n h => (patc_low h _).imp) (fun _ => ih ks[i] (by have := psizeL_get hi; omega) (by omega))) ?_;refine yZ ?_;refine s_app2 1 [3] ?_ ?_
  ·simp [pats_eq]; omega
  refine yF ?_;refine yW ?_;refine e_draw ?_;refine Y27 ?_
  refine ⟨i + 1, by omega, le_of (.cons rfl rfl (.cons rfl rfl (.cons rfl rfl (.cons rfl rfl (.cons rfl ?_ .nil))))) (.cons rfl ?_ (.cons rfl rfl .nil))⟩
  ·rw [wrap64 (by omega) (by omega)]
   rfl
  ·have : patsc w0.heap.size (ks.take (i + 1)) = patsc w0.heap.size (ks.take i) ++ [patc w0.heap.size ks[i]] := by
    rw [pats_eq, pats_eq, List.take_succ_eq_append_getElem hi, List.map_append]; rfl
   rw [this]
   rfl
 have hi : ks.length ≤ i := by simpa [pats_eq] using hb
 refine Y4 ?_;refine Y17 ?_;refine Tri.ret ⟨.inr rfl, ret1 rfl resV_cell (ToPu.imp ?_)⟩;rw [List.take_of_length_le hi]
 repeat constructor
end Go.Proofs.YtkcgkignhpepkaaGreatDoor

/- Values. -/
namespace Go.Proofs.YtkcgkignhpepkaaGreatDoor
open Go Hs
variable {G : List (Nat × TypeId × Pu)}
theorem anyS_pure {α : Type} (φ : α → Bool) (c : Int) : ∀ l : List α, anyS (fun c a => (φ a, c)) c l = (l.any φ, c)
 | [] => rfl
 | a :: l => by
  have ih := anyS_pure φ c l
  simp only [anyS, List.any_cons]
  cases φ a
  ·simpa using ih
  ·rfl
abbrev fV (f : FuncId) : PV := .pu (.leaf (.func (.func f) #[] #[]))
theorem every1_c (f : FuncId) (he : entersB Tryz.prog f = true) (x : Tm) (b : Bool) (h : FCall Tryz.prog G f [.pu (tmc 0 x)] (bv b)) :
  HCall Tryz.prog G 165 [.pu (tmc 0 x), .ptr 3 [] 45] [(3, .var 45 (fV f))] [] (bv (!b)) [] [] := by
 refine HCall.of_triD tbl 8 [3] Tryz.func165 rfl rfl rfl fun w0 M ρ0 D0 => ?_
 refine yR ?_;refine s_box SS 31 ?_;refine yB ?_;refine e_seqN [31] ?_;refine Y36 ?_;refine s_val (v_callO (fun _ => h) (he := he)) ?_;refine yQ ?_;refine Y2 ?_;exact Tri.ret ⟨.inr rfl, ret1 rfl resV_tmp (VImp.refl _), zO⟩
theorem every_c (f : FuncId) (he : entersB Tryz.prog f = true) (φ : Tm → Bool) (ks : List Tm) (hl : ks.length < 2^60) (h : ∀ x ∈ ks, FCall Tryz.prog G f [.pu (tmc 0 x)] (bv (φ x))) :
  FCall Tryz.prog G 96 [.pu (.sl 0 32 (tmsc 0 ks)), fV f] (bv (ks.all φ)) := by
 have hA : ∃ r : Option Nat, r.isSome = !(ks.all φ) ∧ AnyC Tryz.prog G 165 [] [.ptr 3 [] 45] [(3, .var 45 (fV f))] (tmsc 0 ks) [] r [] := by
  have := AnyC.state (P := Tryz.prog) (G := G) (f := 165) (first := []) (captured := [.ptr 3 [] 45]) (HR := [(3, .var 45 (fV f))]) (tmc 0) (fun c a => (!φ a, c)) (fun _ => []) (fun _ => True) (fun _ => rfl) ks (fun a ha c _ => ⟨every1_c f he a (φ a) (h a ha), fun _ => trivial⟩) 0 trivial
  rw [anyS_pure] at this
  obtain ⟨r, h1, h2⟩ := this
  refine ⟨r, by rw [h1, List.not_all_eq_any_not], ?_⟩
  rw [tms_eq]; exact h2
 obtain ⟨r, hr, hA⟩ := hA
 refine FCall.of_tri tbl 9 Tryz.func96 rfl rfl rfl fun w0 M ρ0 D0 => ?_
 refine yR ?_;refine s_box SS 3 ?_;refine yB ?_;refine e_seqN [3] ?_;refine Y1 ?_;refine s_val (v_mkFnD SS) ?_;refine s_call (conTm_d (lo := 0) (.fn (.func 165) [] [.ptr 3 [] 45]) (by rw [tms_length]; omega) hA) ?_;refine yQ ?_;refine Y2 ?_;exact Tri.ret ⟨.inr rfl, ret1 rfl resV_tmp (bv_imp (by rw [hr]; simp))⟩
mutual
def valM : Tm → Bool
 | .mk k _ _ ks _ => k == 2 || k == 3 || (k == 8 && valL ks)
def valL : List Tm → Bool
 | [] => true
 | t :: ts => valM t && valL ts
end
theorem valL_eq : ∀ ks, valL ks = ks.all valM
 | [] => rfl
 | t :: ts => by simp [valL, valL_eq ts]
theorem value_c : ∀ (N : Nat) (t : Tm), tsize t ≤ N → N < 2^40 → FCall Tryz.prog G 21 [.pu (tmc 0 t)] (bv (valM t)) := by
 intro N
 induction N with
 | zero => intro t h; have := tsize_pos t; omega
 | succ N ih =>
 intro t hp hN
 obtain ⟨k, n, r, ks, cs⟩ := t
 simp only [tsize] at hp
 have hlen := length_tsizeL ks
 refine FCall.of_tri tbl 21 Tryz.func21 rfl rfl rfl fun w0 M ρ0 D0 => ?_
 refine yR ?_;refine s_box SS 1 ?_;refine yB ?_;refine e_seqN [1] ?_;refine Y65 ?_;refine Y39 ?_;refine xI ?_;refine xM ?_;refine Y7 ?_;refine s_gg zG (v_callD (fun _ => every_c 21 (by kernel_rfl) valM ks (by omega) (fun x hx => ih x (by have := tsize_mem hx; omega) (by omega)))) ?_;refine xN ?_;refine yO ?_;refine Y2 ?_;exact Tri.ret ⟨.inr rfl, ret1 rfl resV_tmp (bv_imp (by simp only [valM, valL_eq]))⟩
end Go.Proofs.YtkcgkignhpepkaaGreatDoor

/- Values put for variables. -/
namespace Go.Proofs.YtkcgkignhpepkaaGreatDoor
open Go Hs
variable {G : List (Nat × TypeId × Pu)}
mutual
def putM (vs : List Tm) (d : Int) : Tm → Tm
 | .mk k n r ks cs =>
  if hC : k = 1 ∧ 0 ≤ IntKind.wrap .i64 (n - d) ∧ 0 < vs.length then
   if h : IntKind.wrap .i64 (n - d) < vs.length then vs[vs.length - 1 - (IntKind.wrap .i64 (n - d)).toNat]'(by omega)
   else .mk k (IntKind.wrap .i64 (n - vs.length)) r (putK vs d k 0 ks) (putC vs d cs)
  else .mk k n r (putK vs d k 0 ks) (putC vs d cs)
def putK (vs : List Tm) (d k : Int) (i : Nat) : List Tm → List Tm
 | [] => []
 | t :: ts => putM vs (d + moreM k i) t :: putK vs d k (i + 1) ts
def putC (vs : List Tm) (d : Int) : List Cs → List Cs
 | [] => []
 | c :: cs => putS vs d c :: putC vs d cs
def putS (vs : List Tm) (d : Int) : Cs → Cs
 | .mk q t => .mk q (putM vs (d + bindsM q) t)
end
theorem putK_len (vs : List Tm) (d k : Int) : ∀ (ks : List Tm) (i : Nat), (putK vs d k i ks).length = ks.length
 | [], _ => rfl
 | t :: ts, i => by simp [putK, putK_len vs d k ts]
theorem putK_get (vs : List Tm) (d k : Int) : ∀ (ks : List Tm) (i j : Nat) (h : j < ks.length), (putK vs d k i ks)[j]'(by rw [putK_len]; exact h) = putM vs (d + moreM k ((i + j : Nat) : Int)) ks[j]
 | t :: ts, i, 0, _ => by simp [putK]
 | t :: ts, i, j + 1, h => by
  have := putK_get vs d k ts (i + 1) j (by simpa using h)
  simp only [putK, List.getElem_cons_succ, this]
  rw [show i + 1 + j = i + (j + 1) by omega]
theorem putC_len (vs : List Tm) (d : Int) : ∀ (cs : List Cs), (putC vs d cs).length = cs.length
 | [] => rfl
 | t :: ts => by simp [putC, putC_len vs d ts]
theorem putC_get (vs : List Tm) (d : Int) : ∀ (cs : List Cs) (j : Nat) (h : j < cs.length), (putC vs d cs)[j]'(by rw [putC_len]; exact h) = putS vs d cs[j]
 | t :: ts, 0, _ => by simp [putC]
 | t :: ts, j + 1, h => by simpa [putC] using putC_get vs d ts j (by simpa using h)
def rowM (lo : Nat) (out ks : List Tm) (i : Nat) : List PV := ((out.take i).map (tmc lo) ++ (ks.drop i).map (tmc 0)).map .pu
theorem rowM_zero (lo : Nat) (out ks : List Tm) : rowM lo out ks 0 = (tmsc 0 ks).map .pu := by simp [rowM, tms_eq]
theorem rowM_all (lo : Nat) (out ks : List Tm) (h : out.length = ks.length) {i : Nat} (hi : ks.length ≤ i) : rowM lo out ks i = (tmsc lo out).map .pu := by
 simp [rowM, tms_eq, List.take_of_length_le (show out.length ≤ i by omega), List.drop_of_length_le hi]
theorem rowM_get (lo : Nat) (out ks : List Tm) (h : out.length = ks.length) {i : Nat} (hi : i < ks.length) : (rowM lo out ks i)[i]? = some (.pu (tmc 0 ks[i])) := by
 unfold rowM
 rw [List.getElem?_map, List.getElem?_append_right (by simp; omega)]
 simp [List.length_take, Nat.min_eq_left (show i ≤ out.length by omega), hi]
theorem rowM_set (lo : Nat) (out ks : List Tm) (h : out.length = ks.length) {i : Nat} (hi : i < ks.length) : (rowM lo out ks i).set i (.pu (tmc lo (out[i]'(by omega)))) = rowM lo out ks (i + 1) := by
 unfold rowM
 have e1 : ks.drop i = ks[i] :: ks.drop (i + 1) := List.drop_eq_getElem_cons hi
 rw [List.take_succ_eq_append_getElem (show i < out.length by omega), e1]
 simp only [List.map_append, List.map_cons, List.map_nil, List.append_assoc, List.cons_append, List.nil_append, List.map_take, List.map_drop]
 rw [List.set_append_right _ _ (by simp; omega)]
 simp [List.length_take, Nat.min_eq_left (show i ≤ out.length by omega)]
instance {lo : Nat} {out ks : List Tm} {i : Nat} : NoLab (.row 32 (rowM lo out ks i)) := NoLab.row (f := id)
theorem more_b (k : Int) (i : Int) : 0 ≤ moreM k i ∧ moreM k i ≤ 2 := by unfold moreM; split <;> (try split) <;> simp
set_option maxHeartbeats 1000000 in
theorem put_c' (vs : List Tm) (hvl : vs.length < 2^30) (hvs : ∀ v ∈ vs, FCallN Tryz.prog G 156 [.pu (tmc 0 v), iv .i64 0, .pu (.sl 0 32 [])] (fun m => .pu (tmc m v))) : ∀ (N : Nat) (t : Tm), tsize t ≤ N → N < 2^30 → ∀ d : Int, 0 ≤ d → d + 2 * tsize t ≤ 2^42 →
  FCallN Tryz.prog G 156 [.pu (tmc 0 t), iv .i64 d, .pu (.sl 0 32 (tmsc 0 vs))] (fun m => .pu (tmc m (putM vs d t))) := by
 intro N
 induction N with
 | zero => intro t h; have := tsize_pos t; omega
 | succ N ih =>
 intro t hp hN d hd0 hd1
 obtain ⟨k, n, r, ks, cs⟩ := t
 simp only [tsize] at hp hd1
 have hlen := length_tsizeL ks
 have hlenc := length_csizeL cs
 obtain ⟨out, hout⟩ : ∃ out, out = putK vs d k 0 ks := ⟨_, rfl⟩
 have houtl : out.length = ks.length := by rw [hout, putK_len]
 refine FCallN.of_tri tbl 109 Tryz.func156 rfl rfl (fun _ => rfl) fun w0 M ρ0 D0 hM => ?_
 refine yR ?_;refine s_box SS 3 ?_;refine s_alloc SS 6 ?_;refine e_seqN [3, 6] ?_;refine Y16 ?_;refine yM ?_;refine yI ?_;refine Y14 ?_;refine Y34 ?_;refine Y35 ?_;refine Y22 ?_;refine xC ?_;refine Y19 ?_;refine Y0 ?_;refine Tri.cutW (σ := {n' : Int // putM vs d (.mk k n r ks cs) = .mk k n' r (putK vs d k 0 ks) (putC vs d cs)}) (fun n' => ⟨[(1, iv .i64 d), (2, .pu (.sl 0 32 (tmsc 0 vs))), (3, .ptr 3 [] 32), (6, .ptr 6 [] 32)], [(3, .var 32 (.pu (tmc 0 (.mk k n'.1 r ks cs)))), (6, .var 32 (.agg 32 [iv .i64 0, iv .i64 0, .pu (refP Z32), .nilc, .nilc]))]⟩) ?_ (fun n' => ?_)
 ·skip
  refine tQ ?_;refine Tri.cond rfl (fun h0 => ?_) (fun h0 => ?_)
  ·skip
   have hC : k = 1 ∧ 0 ≤ IntKind.wrap .i64 (n - d) ∧ 0 < vs.length := by rw [tms_length] at h0; simp at h0; omega
   obtain ⟨m, hm⟩ : ∃ m, m = IntKind.wrap .i64 (n - d) := ⟨_, rfl⟩
   rw [← hm] at hC
   refine Y29 ?_;refine yC ?_;refine Y45 ?_;refine Tri.cond rfl (fun h1 => ?_) (fun h1 => ?_)
   ·skip
    have h1' : IntKind.wrap .i64 (n - d) < vs.length := by rw [tms_length] at h1; simpa using h1
    rw [← hm] at h1'
    have hj : vs.length - 1 - m.toNat < vs.length := by omega
    have hidx : IntKind.wrap .i64 (IntKind.wrap .i64 (((tmsc 0 vs).length : Int) - 1) - IntKind.wrap .i64 (n - d)) = ((vs.length - 1 - m.toNat : Nat) : Int) := by
     rw [← hm, tms_length, wrap64 (n := (vs.length : Int) - 1) (by omega) (by omega), wrap64 (by omega) (by omega)]; omega
    have hput : putM vs d (.mk k n r ks cs) = vs[vs.length - 1 - m.toNat] := by
     simp only [putM, ← hm]; rw [dif_pos hC, dif_pos h1']
    refine Y29 ?_;refine yC ?_;refine yI ?_;refine yM ?_;refine yI ?_;refine s_val (v_index SS (h0 := by rw [hidx]; omega) (hp := by rw [hidx]; exact tms_get hj)) ?_;refine yL ?_;refine s_val (v_callN (fun m n h => (tmc_low h _).imp) (fun _ => hvs _ (List.getElem_mem hj))) ?_;refine Y10 ?_;exact Tri.ret ⟨.inr rfl, ret1 rfl resV_cell (VImp.of_eq (by rw [hput]))⟩
   ·skip
    have h1' : ¬ IntKind.wrap .i64 (n - d) < vs.length := by rw [tms_length] at h1; simpa using h1
    have hput : putM vs d (.mk k n r ks cs) = .mk k (IntKind.wrap .i64 (n - (tmsc 0 vs).length)) r (putK vs d k 0 ks) (putC vs d cs) := by
     rw [hm] at hC
     simp only [putM]; rw [dif_pos hC, dif_neg h1', tms_length]
    refine Tri.skip ?_;refine Y16 ?_;refine yM ?_;refine yC ?_;refine yI ?_;refine yF ?_;refine Y17 ?_
    refine ⟨⟨_, hput⟩, ?_, ?_⟩
    ·exact zW
    ·exact zW
  ·skip
   have hC : ¬ (k = 1 ∧ 0 ≤ IntKind.wrap .i64 (n - d) ∧ 0 < vs.length) := fun hC => by
    obtain ⟨a, b, c⟩ := hC
    have c' : (0 : Int) < vs.length := by omega
    rw [tms_length] at h0
    simp [a, b, c'] at h0
    try (rw [h0] at c; simp at c)
   have hput : putM vs d (.mk k n r ks cs) = .mk k n r (putK vs d k 0 ks) (putC vs d cs) := by
    simp only [putM]; rw [dif_neg hC]
   refine Tri.skip ?_
   refine ⟨⟨_, hput⟩, ?_, ?_⟩
   ·exact zW
   ·exact zW
 ·skip
  obtain ⟨n', hput⟩ := n'
  refine Y23 ?_;refine Y9 ?_;refine yA ?_;refine yA ?_;refine e_draw ?_;refine Y37 ?_;refine s_make SS (n := (tmsc 0 ks).length) 55 (by rw [tms_length]; omega) (by rw [tms_length]; omega) ?_;refine yF ?_;refine yW ?_;refine yF ?_;refine yS ?_;refine e_seqN [55] ?_;refine Y23 ?_;refine yM ?_;refine s_copy SS ?_;refine e_seq ?_;refine Y37 ?_;refine yJ ?_;refine e_seq ?_;rw [← rowM_zero w0.heap.size out ks];refine tQ ?_
  refine Tri.block (Tri.loopW (σ := Nat) (fun i => ⟨[(1, iv .i64 d), (2, .pu (.sl 0 32 (tmsc 0 vs))), (3, .ptr 3 [] 32), (6, .ptr 6 [] 32), (9, .pu (.sl 0 106 (cssc 0 cs))), (62, .pu (.sl 0 32 (tmsc 0 ks))), (63, iv .i64 (tmsc 0 ks).length), (64, iv .i64 i)], [(3, .var 32 (.agg 32 [iv .i64 k, iv .i64 n', .pu (refP r), .arr 55 32 0 (tmsc 0 ks).length, .nilc])), (6, .var 32 (.agg 32 [iv .i64 0, iv .i64 0, .pu (refP Z32), .nilc, .nilc])), (55, .row 32 (rowM w0.heap.size out ks i))]⟩) (fun i => ks.length - i) 0 ?_ ?_ (fun i => ?_))
  ·exact zW
  ·exact zW
  refine Y31 ?_;refine Tri.cond rfl (fun h2 => ?_) (fun h2 => ?_)
  ·skip
   have hlt : i < (tmsc 0 ks).length := by simpa using h2
   have hi : i < ks.length := by rwa [tms_length] at hlt
   have hmo := more_b k i
   have hsz := tsize_mem (List.getElem_mem hi)
   have hrow := rowM_set w0.heap.size out ks houtl hi
   have hel : out[i]'(by omega) = putM vs (d + moreM k i) ks[i] := by
    have := putK_get vs d k ks 0 i hi
    rw [Nat.zero_add] at this
    rw [← this]; congr 1
   rw [hel] at hrow
   refine Tri.skip ?_;refine tQ ?_;refine Tri.block ?_;refine Y1 ?_;refine s_val (v_index SS (h0 := by omega) (hp := tms_get hi)) ?_;refine yL ?_;refine s_alloc SS 11 ?_;refine yA ?_;refine yS ?_;refine e_seqN [11] ?_;refine Y23 ?_;refine Y30 ?_;refine yM ?_;refine Y3 ?_;refine yM ?_;refine s_val (v_callD (fun _ => stepMore_c k i)) ?_;refine yI ?_;refine yM ?_;refine s_val (v_callN (fun m n h => (tmc_low h _).imp) (fun _ => ih ks[i] (by omega) (by omega) (d + moreM k i) (by omega) (by omega))) ?_;refine s_val (v_ixa SS) ?_;refine s_storeR SS (rowM_get w0.heap.size out ks houtl hi) ?_;refine e_draw ?_;refine Y27 ?_
   refine ⟨i + 1, by omega, le_of ?_ ?_⟩
   ·repeat (first | exact SubE.nil | refine SubE.cons rfl (by first | rfl | (rw [wrap64 (by omega) (by omega)]; rfl) | (simp only [← hrow])) ?_)
   ·repeat (first | exact SubH.nil | refine SubH.cons rfl (by first | rfl | (rw [wrap64 (by omega) (by omega)]; rfl) | (simp only [← hrow])) ?_)
  ·skip
   have hi : ks.length ≤ i := by rw [tms_length] at h2; simpa using h2
   rw [rowM_all _ _ _ houtl hi];refine Tri.exit ?_;refine Tri.freeze (lo := w0.heap.size) (l := 55) (E := 32) (ps := tmsc w0.heap.size out) (env' := [(1, iv .i64 d), (2, .pu (.sl 0 32 (tmsc 0 vs))), (3, .ptr 3 [] 32), (6, .ptr 6 [] 32), (9, .pu (.sl 0 106 (cssc 0 cs)))]) (heap' := [(3, .var 32 (.agg 32 [iv .i64 k, iv .i64 n', .pu (refP r), .pu (.sl w0.heap.size 32 (tmsc w0.heap.size out)), .nilc])), (6, .var 32 (.agg 32 [iv .i64 0, iv .i64 0, .pu (refP Z32), .nilc, .nilc]))]) rfl (.inr ⟨Nat.le_refl _, hM⟩) ?_ (h2 := .cons rfl rfl (by simp [frzOb, frzV, frzL, tms_length, houtl]) (.cons rfl rfl rfl .nil));refine Y62 ?_
   refine Tri.block (Tri.loopW (σ := Nat) (fun i => ⟨[(1, iv .i64 d), (2, .pu (.sl 0 32 (tmsc 0 vs))), (3, .ptr 3 [] 32), (6, .ptr 6 [] 32), (83, .pu (.sl 0 106 (cssc 0 cs))), (84, iv .i64 (cssc 0 cs).length), (85, iv .i64 i)], [(3, .var 32 (.agg 32 [iv .i64 k, iv .i64 n', .pu (refP r), .pu (.sl w0.heap.size 32 (tmsc w0.heap.size out)), .ow w0.heap.size 106 (cssc w0.heap.size ((putC vs d cs).take i))])), (6, .var 32 (.agg 32 [iv .i64 0, iv .i64 0, .pu (refP Z32), .nilc, .nilc]))]⟩) (fun i => cs.length - i) 0 ?_ ?_ (fun i => ?_))
   ·exact zW
   ·exact zW
   refine Y31 ?_;refine Tri.cond rfl (fun h3 => ?_) (fun h3 => ?_)
   ·skip
    have hi : i < cs.length := by rw [css_length] at h3; simpa using h3
    have hsz := csize_mem (List.getElem_mem hi)
    have hget := css_get (lo := 0) hi
    have hpc := putC_get vs d cs i hi
    generalize hci : cs[i] = ci at hget hsz hpc
    obtain ⟨q, b⟩ := ci
    simp only [csize] at hsz
    have hbb := binds_bound q
    have hcs : cssc w0.heap.size ((putC vs d cs).take (i + 1)) = cssc w0.heap.size ((putC vs d cs).take i) ++ [csec w0.heap.size (.mk q (putM vs (d + bindsM q) b))] := by
     rw [css_eq, css_eq, List.take_succ_eq_append_getElem (by rw [putC_len]; exact hi), List.map_append, hpc]; rfl
    refine Tri.skip ?_;refine tQ ?_;refine Tri.block ?_;refine yR ?_;refine s_val (v_index SS (h0 := by omega) (hp := hget)) ?_;refine yL ?_;refine s_alloc SS 13 ?_;refine yS ?_;refine e_seqN [13] ?_;refine Y23 ?_;refine Y3 ?_;refine s_val (v_callN (fun m n h => (patc_low h _).imp) (fun _ => stepOwnPatternN_c _ q (Nat.le_refl _) (by omega))) ?_;refine Y3 ?_;refine yM ?_;refine Y3 ?_;refine s_val (v_callD (fun _ => stepBinds_c _ q (Nat.le_refl _) (by omega))) ?_;refine yI ?_;refine yM ?_;refine s_val (v_callN (fun m n h => (tmc_low h _).imp) (fun _ => ih b (by omega) (by omega) (d + bindsM q) (by omega) (by omega))) ?_;refine yP ?_;refine yZ ?_;refine s_app2 3 [4] ?_ ?_
    ·simp [css_eq, putC_len]; omega
    refine yF ?_;refine yW ?_;refine e_draw ?_;refine Y27 ?_
    refine ⟨i + 1, by omega, le_of ?_ ?_⟩
    ·repeat (first | exact SubE.nil | refine SubE.cons rfl (by first | rfl | (rw [wrap64 (by omega) (by omega)]; rfl) | (rw [hcs]; rfl)) ?_)
    ·repeat (first | exact SubH.nil | refine SubH.cons rfl (by first | rfl | (rw [wrap64 (by omega) (by omega)]; rfl) | (rw [hcs]; rfl)) ?_)
   ·skip
    have hi : cs.length ≤ i := by rw [css_length] at h3; simpa using h3
    rw [List.take_of_length_le (by rw [putC_len]; exact hi)];refine Tri.exit ?_;refine Y57 ?_;exact Tri.ret ⟨.inr rfl, ret1 rfl resV_cell ((by rw [hput, ← hout]; exact ToPu.imp (by repeat constructor)))⟩
mutual
theorem putM_nil (d : Int) : ∀ t : Tm, putM [] d t = t
 | .mk k n r ks cs => by
  simp only [putM, List.length_nil, Nat.lt_irrefl, and_false, dite_false]
  rw [putK_nil d k ks 0, putC_nil d cs]
theorem putK_nil (d k : Int) : ∀ (ks : List Tm) (i : Nat), putK [] d k i ks = ks
 | [], _ => rfl
 | t :: ts, i => by simp only [putK]; rw [putM_nil _ t, putK_nil d k ts (i + 1)]
theorem putC_nil (d : Int) : ∀ (cs : List Cs), putC [] d cs = cs
 | [] => rfl
 | c :: cs => by simp only [putC]; rw [putS_nil d c, putC_nil d cs]
theorem putS_nil (d : Int) : ∀ (c : Cs), putS [] d c = c
 | .mk q t => by simp only [putS]; rw [putM_nil _ t]
end
theorem put0_c (t : Tm) (h : tsize t < 2^30) : FCallN Tryz.prog G 156 [.pu (tmc 0 t), iv .i64 0, .pu (.sl 0 32 [])] (fun m => .pu (tmc m t)) := by
 have := put_c' (G := G) [] (by simp) (fun v hv => by cases hv) _ t (Nat.le_refl _) h 0 (by omega) (by omega)
 rwa [putM_nil] at this
theorem put_c (vs : List Tm) (hvl : vs.length < 2^30) (hvs : ∀ v ∈ vs, tsize v < 2^30) (t : Tm) (h : tsize t < 2^30) : FCallN Tryz.prog G 156 [.pu (tmc 0 t), iv .i64 0, .pu (.sl 0 32 (tmsc 0 vs))] (fun m => .pu (tmc m (putM vs 0 t))) :=
 put_c' vs hvl (fun v hv => put0_c v (hvs v hv)) _ t (Nat.le_refl _) h 0 (by omega) (by omega)
theorem own_c (t : Tm) (h : tsize t < 2^30) : FCallN Tryz.prog G 114 [.pu (tmc 0 t)] (fun m => .pu (tmc m t)) := by
 refine FCallN.of_tri tbl 5 Tryz.func114 rfl rfl (fun _ => rfl) fun w0 M ρ0 D0 hM => ?_
 refine yR ?_;refine s_box SS 1 ?_;refine s_alloc SS 2 ?_;refine e_seqN [1, 2] ?_;refine Y4 ?_;refine s_val (v_callN (fun m n h => (tmc_low h _).imp) (fun _ => put0_c t h)) ?_;refine Y10 ?_;exact Tri.ret ⟨.inr rfl, ret1 rfl resV_cell (ToPu.imp (by repeat constructor))⟩
end Go.Proofs.YtkcgkignhpepkaaGreatDoor

/- Patterns and terms. -/
namespace Go.Proofs.YtkcgkignhpepkaaGreatDoor
open Go Hs
variable {G : List (Nat × TypeId × Pu)}
def Tm.kind : Tm → Int
 | .mk k _ _ _ _ => k
def Tm.num : Tm → Int
 | .mk _ n _ _ _ => n
def Tm.ref : Tm → List Int
 | .mk _ _ r _ _ => r
def Tm.kids : Tm → List Tm
 | .mk _ _ _ ks _ => ks
def Tm.cases : Tm → List Cs
 | .mk _ _ _ _ cs => cs
def fitAdd (a b : List Tm × Bool) : List Tm × Bool := if a.2 && b.2 then (a.1 ++ b.1, true) else ([], false)
mutual
def fitsM : Pat → Tm → List Tm × Bool
 | .mk k n r ks, v => if k = 1 then ([v], true) else if k = 2 then ([], v.kind == 2 && v.num == n)
  else if k = 3 then (if v.kind != 8 || !(v.ref == r) || v.num != n || ((v.kids.length : Int) != ks.length) then ([], false) else fitsL ks v.kids) else ([], false)
def fitsL : List Pat → List Tm → List Tm × Bool
 | [], _ => ([], true)
 | _ :: _, [] => ([], false)
 | p :: ps, v :: vs => fitAdd (fitsM p v) (fitsL ps vs)
end
mutual
theorem fits_b : ∀ (p : Pat) (v : Tm), (fitsM p v).1.length ≤ tsize v
 | .mk k n r ks, v => by
  have hv := tsize_pos v
  simp only [fitsM]
  split
  ·simp; omega
  ·split
   ·simp
   ·split
    ·split
     ·simp
     ·have := fitsL_b ks v.kids
      obtain ⟨k', n', r', ks', cs'⟩ := v
      simp only [Tm.kids, tsize] at this ⊢
      omega
    ·simp
theorem fitsL_b : ∀ (ps : List Pat) (vs : List Tm), (fitsL ps vs).1.length ≤ tsizeL vs
 | [], vs => by simp [fitsL]
 | _ :: _, [] => by simp [fitsL]
 | p :: ps, v :: vs => by
  have h1 := fits_b p v
  have h2 := fitsL_b ps vs
  simp only [fitsL, fitAdd, tsizeL]
  split
  ·simp; omega
  ·simp
end
theorem fitsL_take : ∀ {ps : List Pat} {vs : List Tm} {i : Nat} (h : i < ps.length) (h2 : i < vs.length), fitsL (ps.take (i + 1)) (vs.take (i + 1)) = fitAdd (fitsL (ps.take i) (vs.take i)) (fitsM ps[i] vs[i])
 | p :: ps, v :: vs, 0, _, _ => by
  simp only [List.take_zero, List.take_succ_cons, fitsL, List.getElem_cons_zero]
  rcases fitsM p v with ⟨l, b⟩
  cases b <;> simp [fitAdd]
 | p :: ps, v :: vs, i + 1, h, h2 => by
  have h' : i < ps.length := by simpa using h
  have h2' : i < vs.length := by simpa using h2
  have ih := fitsL_take (ps := ps) (vs := vs) (i := i) h' h2'
  simp only [List.take_succ_cons, fitsL, List.getElem_cons_succ, ih]
  rcases fitsM p v with ⟨l, b⟩
  rcases fitsL (ps.take i) (vs.take i) with ⟨l2, b2⟩
  rcases fitsM ps[i] vs[i] with ⟨l3, b3⟩
  cases b <;> cases b2 <;> cases b3 <;> simp [fitAdd]
theorem fitsL_stop : ∀ {ps : List Pat} {vs : List Tm} {i : Nat}, (fitsL (ps.take i) (vs.take i)).2 = false → fitsL ps vs = ([], false)
 | [], vs, i, h => by simp [fitsL] at h
 | p :: ps, vs, 0, h => by simp [fitsL] at h
 | p :: ps, [], i + 1, h => by simp [fitsL]
 | p :: ps, v :: vs, i + 1, h => by
  simp only [List.take_succ_cons, fitsL] at h ⊢
  rcases hpv : fitsM p v with ⟨l, b⟩
  rw [hpv] at h
  cases b
  ·simp [fitAdd]
  ·have : (fitsL (ps.take i) (vs.take i)).2 = false := by
    rcases hq : fitsL (ps.take i) (vs.take i) with ⟨l2, b2⟩
    cases b2
    ·rfl
    ·rw [hq] at h; revert h; simp only [fitAdd]; split <;> simp_all
   rw [fitsL_stop this]
   simp [fitAdd]
abbrev fitV (m : Nat) (x : List Tm × Bool) : PV := .tup [.pu (.sl m 32 (tmsc m x.1)), bv x.2]
theorem fitV_low {P : Program} {m n : Nat} (h : n ≤ m) (x : List Tm × Bool) : VImp P (fitV m x) (fitV n x) := VImps.tup (.cons (Low.imp (.sl h (tmsc_low h _))) (.cons (VImp.refl _) .nil)) (notTup rfl)
theorem fits_c : ∀ (N : Nat) (p : Pat), psize p ≤ N → ∀ (t : Tm), tsize t < 2^30 → FCallN Tryz.prog G 138 [.pu (patc 0 p), .pu (tmc 0 t)] (fun m => fitV m (fitsM p t)) := by
 intro N
 induction N with
 | zero => intro p h; cases p; simp [psize] at h
 | succ N ih =>
 intro p hp t hN
 obtain ⟨k, n, r, ks⟩ := p
 obtain ⟨k', n', r', ks', cs'⟩ := t
 simp only [psize] at hp
 have hsz : 1 + tsizeL ks' + csizeL cs' < 2^30 := by simpa only [tsize] using hN
 have hlen := length_psizeL ks
 have hlen' := length_tsizeL ks'
 refine FCallN.of_tri tbl 83 Tryz.func138 rfl rfl (fun _ => rfl) fun w0 M ρ0 D0 hM => ?_
 refine Tri.fact (i := 0) rfl (fun D w x h => pat_wf h) (fun hr => ?_);refine Tri.fact (i := 1) rfl (fun D w x h => tm_wf h) (fun hr' => ?_)
 simp only [wfP, wfT] at hr hr'
 refine yR ?_;refine s_box SS 2 ?_;refine s_box SS 3 ?_;refine yB ?_;refine yB ?_;refine e_seqN [2, 3] ?_;refine Y16 ?_;refine Y0 ?_;refine Tri.block ?_;refine Y12 ?_;refine Tri.cond rfl (fun h0 => ?_) (fun h0 => ?_)
 ·skip
  have hf : fitsM (.mk k n r ks) (.mk k' n' r' ks' cs') = ([.mk k' n' r' ks' cs'], true) := by simp at h0; simp [fitsM, h0]
  refine Y4 ?_;refine s_val (v_callN (fun m n h => (tmc_low h _).imp) (fun _ => own_c (.mk k' n' r' ks' cs') hN)) ?_;refine s_sl SS (lo := w0.heap.size) ?_;refine yA ?_;refine Y42 ?_;rw [hf];exact Tri.ret ⟨.inr rfl, ret2 rfl resV_tmp (ToPu.imp (by repeat constructor)) resV_tmp (VImp.refl _)⟩
 ·skip
  refine Y12 ?_;refine Tri.cond rfl (fun h1 => ?_) (fun h1 => ?_)
  ·skip
   have hf : fitsM (.mk k n r ks) (.mk k' n' r' ks' cs') = ([], k' == 2 && n' == n) := by simp at h1; simp [fitsM, h1, Tm.kind, Tm.num]
   refine Y34 ?_;refine Y44 ?_;refine Y19 ?_;refine yB ?_;refine yA ?_;refine Y18 ?_;rw [hf];exact Tri.ret ⟨.inr rfl, ret2 rfl resV_tmp (ToPu.imp (by repeat constructor)) resV_tmp (VImp.refl _)⟩
  ·skip
   refine Y12 ?_;refine Tri.cond rfl (fun h2 => ?_) (fun h2 => ?_)
   ·skip
    refine Y34 ?_;refine Y44 ?_;refine s_gg zG (v_bin SS (h := bin_neS (hr'.1.trans hr.1.symm))) ?_;refine yO ?_;refine Y44 ?_;refine Y39 ?_;refine xC ?_;refine Y7 ?_;refine xC ?_;refine Y24 ?_;refine Y0 ?_;refine Tri.cond rfl (fun h3 => ?_) (fun h3 => ?_)
    ·skip
     have hf : fitsM (.mk k n r ks) (.mk k' n' r' ks' cs') = ([], false) := by
      rw [tms_length, pats_length] at h3
      simp only [beq_iff_eq] at h2
      rw [h2]
      show (if (k' != 8 || !(r' == r) || n' != n || ((ks'.length : Int) != ks.length)) = true then (([], false) : List Tm × Bool) else fitsL ks ks') = _
      exact if_pos h3
     refine Y6 ?_;refine Y42 ?_;rw [hf];exact Tri.ret ⟨.inr rfl, ret2 rfl resV_tmp (ToPu.imp (by repeat constructor)) resV_tmp (VImp.refl _)⟩
    ·skip
     have hf : fitsM (.mk k n r ks) (.mk k' n' r' ks' cs') = fitsL ks ks' := by
      rw [tms_length, pats_length] at h3
      simp only [beq_iff_eq] at h2
      rw [h2]
      show (if (k' != 8 || !(r' == r) || n' != n || ((ks'.length : Int) != ks.length)) = true then (([], false) : List Tm × Bool) else fitsL ks ks') = _
      exact if_neg (by rw [h3]; simp)
     have hll : ks'.length = ks.length := by
      rw [tms_length, pats_length] at h3
      simp only [Bool.or_eq_false_iff, bne_eq_false_iff_eq] at h3
      omega
     refine Tri.skip ?_;refine Y20 ?_;refine Y52 ?_;refine Y33 ?_;refine Tri.block (Tri.loopW (σ := {x : Nat × List Tm // fitsL (ks.take x.1) (ks'.take x.1) = (x.2, true)}) (fun i => ⟨[(2, .ptr 2 [] 104), (3, .ptr 3 [] 32), (6, .ow w0.heap.size 32 (tmsc w0.heap.size i.1.2)), (59, .pu (.sl 0 104 (patsc 0 ks))), (60, iv .i64 (patsc 0 ks).length), (61, iv .i64 i.1.1)], [(2, .var 104 (.pu (patc 0 (.mk k n r ks)))), (3, .var 32 (.pu (tmc 0 (.mk k' n' r' ks' cs'))))]⟩) (fun i => ks.length - i.1.1) ⟨(0, []), by simp [fitsL]⟩ ?_ ?_ (fun i => ?_))
     ·repeat (first | exact .nil | refine .cons rfl (by first | exact .refl | (focus ((repeat constructor); done)) | (exact .nilcOw)) ?_)
     ·repeat (first | exact .nil | refine .cons rfl (by first | exact .refl | (focus ((repeat constructor); done)) | (exact .nilcOw)) ?_)
     refine Y31 ?_;refine Tri.cond rfl (fun h4 => ?_) (fun h4 => ?_)
     ·skip
      have hi : i.1.1 < ks.length := by rw [pats_length] at h4; simpa using h4
      have hi' : i.1.1 < ks'.length := by omega
      have htk := fitsL_take hi hi'
      rw [i.2] at htk
      have hsp := psizeL_get hi
      have hst := tsize_mem (List.getElem_mem hi')
      refine Tri.skip ?_;refine tQ ?_;refine Tri.block ?_;refine Y1 ?_;refine s_val (v_index SS (h0 := by omega) (hp := pats_get hi)) ?_;refine yL ?_;refine s_alloc SS 8 ?_;refine yA ?_;refine yS ?_;refine e_seqN [8] ?_;refine Y4 ?_;refine Y9 ?_;refine yM ?_;refine s_val (v_index SS (h0 := by omega) (hp := tms_get hi')) ?_;refine yL ?_;refine s_val (v_callN (fun m n h => fitV_low h _) (fun _ => ih ks[i.1.1] (by omega) ks'[i.1.1] (by omega))) ?_;refine Y46 ?_;refine yA ?_;refine yA ?_;refine e_draw ?_;refine Y1 ?_;refine yQ ?_;refine Y0 ?_;refine Tri.cond rfl (fun h5 => ?_) (fun h5 => ?_)
      ·skip
       have hf2 : fitsL ks ks' = ([], false) := fitsL_stop (i := i.1.1 + 1) (by
        rw [htk]; simp at h5; simp [fitAdd, h5])
       rw [hf2] at hf
       refine Y6 ?_;refine Y42 ?_;rw [hf];exact Tri.ret ⟨.inr rfl, ret2 rfl resV_tmp (ToPu.imp (by repeat constructor)) resV_tmp (VImp.refl _)⟩
      ·skip
       have hnext : fitsL (ks.take (i.1.1 + 1)) (ks'.take (i.1.1 + 1)) = (i.1.2 ++ (fitsM ks[i.1.1] ks'[i.1.1]).1, true) := by
        rw [htk]; simp at h5; simp [fitAdd, h5]
       refine Tri.skip ?_;refine Y29 ?_;refine s_app1 6 ?_ ?_
       ·have h1 := fitsL_b (ks.take i.1.1) (ks'.take i.1.1)
        have h2 := fits_b ks[i.1.1] ks'[i.1.1]
        have h3 := tsizeL_take (ks := ks') (i := i.1.1)
        rw [i.2] at h1
        simp only [tms_length] at h1 ⊢
        omega
       refine Y14 ?_;refine Y27 ?_
       refine ⟨⟨(i.1.1 + 1, i.1.2 ++ (fitsM ks[i.1.1] ks'[i.1.1]).1), hnext⟩, by show ks.length - (i.1.1 + 1) < ks.length - i.1.1; omega, le_of ?_ ?_⟩
       ·repeat (first | exact SubE.nil | refine SubE.cons rfl (by first | rfl | (rw [wrap64 (by omega) (by omega)]; rfl) | (simp only [tms_eq, List.map_append])) ?_)
       ·repeat (first | exact SubH.nil | refine SubH.cons rfl (by first | rfl | (rw [wrap64 (by omega) (by omega)]; rfl) | (simp only [tms_eq, List.map_append])) ?_)
     ·skip
      have hf2 : fitsL ks ks' = (i.1.2, true) := by
       have := i.2
       rwa [List.take_of_length_le (by rw [pats_length] at h4; simp at h4; omega), List.take_of_length_le (by rw [pats_length] at h4; simp at h4; omega)] at this
      rw [hf2] at hf
      refine Tri.exit ?_;refine Y1 ?_;refine yA ?_;refine Y42 ?_;rw [hf];exact Tri.ret ⟨.inr rfl, ret2 rfl resV_tmp (ToPu.imp (by repeat constructor)) resV_tmp (VImp.refl _)⟩
   ·skip
    have hf : fitsM (.mk k n r ks) (.mk k' n' r' ks' cs') = ([], false) := by
     simp at h0 h1 h2
     simp [fitsM, h0, h1, h2]
    refine Tri.skip ?_;refine Y6 ?_;refine Y42 ?_;rw [hf];exact Tri.ret ⟨.inr rfl, ret2 rfl resV_tmp (ToPu.imp (by repeat constructor)) resV_tmp (VImp.refl _)⟩
end Go.Proofs.YtkcgkignhpepkaaGreatDoor

/- What comes of a Prim, and of a Match. -/
namespace Go.Proofs.YtkcgkignhpepkaaGreatDoor
open Go Hs
variable {G : List (Nat × TypeId × Pu)}
def natM (n : Int) : Tm := .mk 2 n Z32 [] []
def primV (op a b : Int) : Int :=
 if op = 1 then IntKind.wrap .i64 (a + b) else if op = 2 then IntKind.wrap .i64 (a - b) else if op = 3 then IntKind.wrap .i64 (a * b)
 else if op = 4 then (if a = b then 1 else 0) else if op = 5 then (if a < b then 1 else 0) else 0
def capM (x : Int) : Int := if 1073741824 < (if x < 0 then 0 else x) then 1073741824 else (if x < 0 then 0 else x)
def primM (op a b : Int) : Tm := natM (capM (primV op a b))
theorem primE {P : Program} (m : Nat) (op a b : Int) {x : Int} (xk yk : Int) (xr yr : List Int) (xs ys : List Tm) (xc yc : List Cs) (h : x = primV op a b) :
  VImp P (.agg 32 [iv .i64 2, iv .i64 (if 1073741824 < (if x < 0 then 0 else x) then 1073741824 else (if x < 0 then 0 else x)), .pu (refP Z32), .nilc, .nilc]) (.pu (tmc m (primM op (Tm.mk xk a xr xs xc).num (Tm.mk yk b yr ys yc).num))) := by
 subst h;exact ToPu.imp (by unfold primM natM capM Tm.num; repeat constructor)
theorem prim_c (k n : Int) (r : List Int) (ks : List Tm) (cs : List Cs) (h2 : 2 ≤ ks.length) : FCallN Tryz.prog G 159 [.pu (tmc 0 (.mk k n r ks cs))] (fun m => .pu (tmc m (primM n ks[0].num ks[1].num))) := by
 have hg0 := tms_get (lo := 0) (ks := ks) (i := 0) (by omega)
 have hg1 := tms_get (lo := 0) (ks := ks) (i := 1) (by omega)
 generalize ks[0] = x at hg0 ⊢
 generalize ks[1] = y at hg1 ⊢
 obtain ⟨xk, xn, xr, xs, xc⟩ := x
 obtain ⟨yk, yn, yr, ys, yc⟩ := y
 refine FCallN.of_tri tbl 47 Tryz.func159 rfl rfl (fun _ => rfl) fun w0 M ρ0 D0 hM => ?_
 refine yR ?_;refine s_box SS 1 ?_;refine s_alloc SS 2 ?_;refine e_seqN [1, 2] ?_;refine Y23 ?_;refine s_val (v_index SS (h0 := by omega) (hp := hg0)) ?_;refine Y3 ?_;refine Y9 ?_;refine s_val (v_index SS (h0 := by omega) (hp := hg1)) ?_;refine Y3 ?_;refine yA ?_;refine yA ?_;refine e_draw ?_;refine Y20 ?_;refine Y16 ?_;refine Y0 ?_;refine Tri.block ?_;refine Y12 ?_;refine Tri.cond rfl (fun h0 => ?_) (fun h0 => ?_)
 ·skip
  refine Y29 ?_;refine yI ?_;refine Y14 ?_;refine Y1 ?_;refine s_val (v_maxD) ?_;refine s_val (v_minD) ?_;refine Y41 ?_;exact Tri.ret ⟨.inr rfl, ret1 rfl resV_cell ((by first | exact primE _ _ _ _ _ _ _ _ _ _ _ _ (by simp only [beq_iff_eq, beq_eq_false_iff_ne, ne_eq, decide_eq_true_eq, decide_eq_false_iff_not] at *; simp_all [primV])))⟩
 ·skip
  refine Y12 ?_;refine Tri.cond rfl (fun h1 => ?_) (fun h1 => ?_)
  ·skip
   refine Y29 ?_;refine yI ?_;refine Y14 ?_;refine Y1 ?_;refine s_val (v_maxD) ?_;refine s_val (v_minD) ?_;refine Y41 ?_;exact Tri.ret ⟨.inr rfl, ret1 rfl resV_cell ((by first | exact primE _ _ _ _ _ _ _ _ _ _ _ _ (by simp only [beq_iff_eq, beq_eq_false_iff_ne, ne_eq, decide_eq_true_eq, decide_eq_false_iff_not] at *; simp_all [primV])))⟩
  ·skip
   refine Y12 ?_;refine Tri.cond rfl (fun h2 => ?_) (fun h2 => ?_)
   ·skip
    refine Y29 ?_;refine yI ?_;refine Y14 ?_;refine Y1 ?_;refine s_val (v_maxD) ?_;refine s_val (v_minD) ?_;refine Y41 ?_;exact Tri.ret ⟨.inr rfl, ret1 rfl resV_cell ((by first | exact primE _ _ _ _ _ _ _ _ _ _ _ _ (by simp only [beq_iff_eq, beq_eq_false_iff_ne, ne_eq, decide_eq_true_eq, decide_eq_false_iff_not] at *; simp_all [primV])))⟩
   ·skip
    refine Y12 ?_;refine Tri.cond rfl (fun h3 => ?_) (fun h3 => ?_)
    ·skip
     refine Y29 ?_;refine Y45 ?_;refine Tri.cond rfl (fun h4 => ?_) (fun h4 => ?_)
     ·skip
      refine Y20 ?_;refine Y1 ?_;refine s_val (v_maxD) ?_;refine s_val (v_minD) ?_;refine Y41 ?_;exact Tri.ret ⟨.inr rfl, ret1 rfl resV_cell ((by first | exact primE _ _ _ _ _ _ _ _ _ _ _ _ (by simp only [beq_iff_eq, beq_eq_false_iff_ne, ne_eq, decide_eq_true_eq, decide_eq_false_iff_not] at *; simp_all [primV])))⟩
     ·skip
      refine Tri.skip ?_;refine Y1 ?_;refine s_val (v_maxD) ?_;refine s_val (v_minD) ?_;refine Y41 ?_;exact Tri.ret ⟨.inr rfl, ret1 rfl resV_cell ((by first | exact primE _ _ _ _ _ _ _ _ _ _ _ _ (by simp only [beq_iff_eq, beq_eq_false_iff_ne, ne_eq, decide_eq_true_eq, decide_eq_false_iff_not] at *; simp_all [primV])))⟩
    ·skip
     refine Y12 ?_;refine Tri.cond rfl (fun h5 => ?_) (fun h5 => ?_)
     ·skip
      refine Y29 ?_;refine Y45 ?_;refine Tri.cond rfl (fun h6 => ?_) (fun h6 => ?_)
      ·skip
       refine Y20 ?_;refine Y1 ?_;refine s_val (v_maxD) ?_;refine s_val (v_minD) ?_;refine Y41 ?_;exact Tri.ret ⟨.inr rfl, ret1 rfl resV_cell ((by first | exact primE _ _ _ _ _ _ _ _ _ _ _ _ (by simp only [beq_iff_eq, beq_eq_false_iff_ne, ne_eq, decide_eq_true_eq, decide_eq_false_iff_not] at *; simp_all [primV])))⟩
      ·skip
       refine Tri.skip ?_;refine Y1 ?_;refine s_val (v_maxD) ?_;refine s_val (v_minD) ?_;refine Y41 ?_;exact Tri.ret ⟨.inr rfl, ret1 rfl resV_cell ((by first | exact primE _ _ _ _ _ _ _ _ _ _ _ _ (by simp only [beq_iff_eq, beq_eq_false_iff_ne, ne_eq, decide_eq_true_eq, decide_eq_false_iff_not] at *; simp_all [primV])))⟩
     ·skip
      refine Tri.skip ?_;refine Y1 ?_;refine s_val (v_maxD) ?_;refine s_val (v_minD) ?_;refine Y41 ?_;exact Tri.ret ⟨.inr rfl, ret1 rfl resV_cell ((by first | exact primE _ _ _ _ _ _ _ _ _ _ _ _ (by simp only [beq_iff_eq, beq_eq_false_iff_ne, ne_eq, decide_eq_true_eq, decide_eq_false_iff_not] at *; simp_all [primV])))⟩
def noneM : Tm := .mk 0 0 Z32 [] []
def matchM : List Cs → Tm → Tm
 | [], _ => noneM
 | .mk q b :: cs, v => if (fitsM q v).2 then putM (fitsM q v).1 0 b else matchM cs v
mutual
theorem fits_sz : ∀ (p : Pat) (v : Tm), ∀ x ∈ (fitsM p v).1, tsize x ≤ tsize v
 | .mk k n r ks, v, x, hx => by
  simp only [fitsM] at hx
  split at hx
  ·simp at hx; rw [hx]; omega
  ·split at hx
   ·simp at hx
   ·split at hx
    ·split at hx
     ·simp at hx
     ·have := fitsL_sz ks v.kids x hx
      obtain ⟨k', n', r', ks', cs'⟩ := v
      simp only [Tm.kids, tsize] at this ⊢
      omega
    ·simp at hx
theorem fitsL_sz : ∀ (ps : List Pat) (vs : List Tm), ∀ x ∈ (fitsL ps vs).1, tsize x ≤ tsizeL vs
 | [], vs, x, hx => by simp [fitsL] at hx
 | _ :: _, [], x, hx => by simp [fitsL] at hx
 | p :: ps, v :: vs, x, hx => by
  simp only [fitsL, fitAdd] at hx
  simp only [tsizeL]
  split at hx
  ·rcases List.mem_append.1 hx with h | h
   ·have := fits_sz p v x h; omega
   ·have := fitsL_sz ps vs x h; omega
  ·simp at hx
end
theorem matched_c (k n : Int) (r : List Int) (ks : List Tm) (cs : List Cs) (h1 : 1 ≤ ks.length) (hN : tsize (.mk k n r ks cs) < 2^30) : FCallN Tryz.prog G 160 [.pu (tmc 0 (.mk k n r ks cs))] (fun m => .pu (tmc m (matchM cs ks[0]))) := by
 have hg0 := tms_get (lo := 0) (ks := ks) (i := 0) (by omega)
 have hs0 := tsize_mem (List.getElem_mem (l := ks) (n := 0) (by omega))
 generalize ks[0] = v at hg0 hs0 ⊢
 have hsz : 1 + tsizeL ks + csizeL cs < 2^30 := by simpa only [tsize] using hN
 have hlenc := length_csizeL cs
 refine FCallN.of_tri tbl 31 Tryz.func160 rfl rfl (fun _ => rfl) fun w0 M ρ0 D0 hM => ?_
 refine yR ?_;refine s_box SS 1 ?_;refine s_alloc SS 2 ?_;refine e_seqN [1, 2] ?_;refine Y52 ?_;refine Y33 ?_;refine Tri.block (Tri.loopW (σ := {i : Nat // matchM cs v = matchM (cs.drop i) v}) (fun i => ⟨[(1, .ptr 1 [] 32), (2, .ptr 2 [] 32), (8, .pu (.sl 0 106 (cssc 0 cs))), (9, iv .i64 (cssc 0 cs).length), (10, iv .i64 i.1)], [(1, .var 32 (.pu (tmc 0 (.mk k n r ks cs)))), (2, .var 32 (.agg 32 [iv .i64 0, iv .i64 0, .pu (refP Z32), .nilc, .nilc]))]⟩) (fun i => cs.length - i.1) ⟨0, rfl⟩ ?_ ?_ (fun i => ?_))
 ·exact zW
 ·exact zW
 refine Y31 ?_;refine Tri.cond rfl (fun h0 => ?_) (fun h0 => ?_)
 ·skip
  have hi : i.1 < cs.length := by rw [css_length] at h0; simpa using h0
  have hget := css_get (lo := 0) hi
  have hcz := csize_mem (List.getElem_mem hi)
  have hdrop := i.2
  rw [List.drop_eq_getElem_cons hi] at hdrop
  generalize hci : cs[i.1] = ci at hget hcz hdrop
  obtain ⟨q, b⟩ := ci
  simp only [csize] at hcz
  have hfb := fits_b q v
  refine Tri.skip ?_;refine tQ ?_;refine Tri.block ?_;refine yR ?_;refine s_val (v_index SS (h0 := by omega) (hp := hget)) ?_;refine yL ?_;refine s_alloc SS 4 ?_;refine yS ?_;refine e_seqN [4] ?_;refine Y16 ?_;refine Y9 ?_;refine s_val (v_index SS (h0 := by omega) (hp := hg0)) ?_;refine yL ?_;refine s_val (v_callN (fun m n h => fitV_low h _) (fun _ => fits_c _ q (Nat.le_refl _) v (by omega))) ?_;refine Y46 ?_;refine yA ?_;refine yA ?_;refine e_draw ?_;refine Y1 ?_;refine Y0 ?_;refine Tri.cond rfl (fun h1 => ?_) (fun h1 => ?_)
  ·skip
   have hm : matchM cs v = putM (fitsM q v).1 0 b := hdrop.trans (by simp only [matchM, h1, if_true])
   refine Y16 ?_;refine yM ?_;refine s_val (v_callN (fun m n h => (tmc_low h _).imp) (fun _ => put_c (fitsM q v).1 (by omega) (fun x hx => by have := fits_sz q v x hx; omega) b (by omega)) (himp := .cons (VImp.refl _) (.cons (VImp.refl _) (.cons (Low.imp (.sl (Nat.zero_le _) (tmsc_low (Nat.zero_le _) _))) .nil)))) ?_;refine Y10 ?_;exact Tri.ret ⟨.inr rfl, ret1 rfl resV_cell ((by rw [hm]; exact VImp.refl _))⟩
  ·skip
   have hnext : matchM cs v = matchM (cs.drop (i.1 + 1)) v := hdrop.trans (by simp only [matchM, h1, Bool.false_eq_true, if_false])
   refine Tri.skip ?_;refine Y27 ?_
   refine ⟨⟨i.1 + 1, hnext⟩, by show cs.length - (i.1 + 1) < cs.length - i.1; omega, le_of ?_ ?_⟩
   ·exact zE
   ·exact zH
 ·skip
  have hm : matchM cs v = noneM := by have := i.2; rwa [List.drop_of_length_le (by rw [css_length] at h0; simp at h0; omega)] at this
  refine Tri.exit ?_;refine Y58 ?_;refine Y10 ?_;exact Tri.ret ⟨.inr rfl, ret1 rfl resV_cell ((by rw [hm]; exact ToPu.imp (by repeat constructor)))⟩
end Go.Proofs.YtkcgkignhpepkaaGreatDoor

/- The place of work: its parts. -/
namespace Go.Proofs.YtkcgkignhpepkaaGreatDoor
open Go Hs
variable {G : List (Nat × TypeId × Pu)}
def pathL (path : List Nat) : List Pu := path.map fun (n : Nat) => .leaf (.int .i64 (n : Int))
def siteP (path : List Nat) (way : List Tm) : Pu := .agg 147 [.sl 0 3 (pathL path), .sl 0 32 (tmsc 0 way)]
instance (path : List Nat) (way : List Tm) : TyV Tryz.prog 147 (.pu (siteP path way)) := inferInstanceAs (TyV Tryz.prog 147 (.pu (.agg _ _)))
theorem path_len (path : List Nat) : (pathL path).length = path.length := by simp [pathL]
theorem path_get {path : List Nat} {i : Nat} (h : i < path.length) : (pathL path)[i]? = some (.leaf (.int .i64 (path[i] : Nat))) := by simp [pathL, h]
theorem site_wf {D : Nat → Nat → Prop} {w : World} {path : List Nat} {way : List Tm} {x : List Value} (h : PR Tryz.prog D w (siteP path way) x) : wfTs way := by
 obtain ⟨_, h⟩ := PR_agg h
 obtain ⟨_, _, _, h⟩ := PRs_cons h
 obtain ⟨⟨_, h⟩, _⟩ := PRs_cons h
 obtain ⟨_, _, h⟩ := PR_sl h
 exact tms_wf h
theorem at_c (path : List Nat) (way : List Tm) (h : path.length < way.length) : FCall Tryz.prog G 154 [.pu (siteP path way)] (.pu (tmc 0 way[path.length])) := by
 refine FCall.of_tri tbl 10 Tryz.func154 rfl rfl rfl fun w0 M ρ0 D0 => ?_
 refine yR ?_;refine s_box SS 1 ?_;refine s_alloc SS 2 ?_;refine e_seqN [1, 2] ?_;refine Y23 ?_;refine Y55 ?_;refine s_val (v_index SS (h0 := by omega) (hp := by rw [path_len]; exact tms_get h)) ?_;refine yL ?_;refine Y10 ?_;exact Tri.ret ⟨.inr rfl, ret1 rfl resV_cell (VImp.refl _)⟩
def opP (r : List Int) (n : Int) : Pu := .agg 227 [refP r, .leaf (.int .i64 n)]
instance (r : List Int) (n : Int) : TyV Tryz.prog 227 (.pu (opP r n)) := inferInstanceAs (TyV Tryz.prog 227 (.pu (.agg _ _)))
theorem op_cond (r : List Int) (n : Int) (r' : List Int) (n' : Int) : Tryz.prog.eqGuardType Tryz.prog.depth 227 = false ∧ 227 < Tryz.prog.types.size ∧ tyP Tryz.prog 227 (opP r n) = true ∧ tyP Tryz.prog 227 (opP r' n') = true :=
 ⟨by kernel_rfl, of_decide_eq_true (by kernel_rfl), (show tyV Tryz.prog 227 (.pu (opP r n)) = true from TyV.ok), (show tyV Tryz.prog 227 (.pu (opP r' n')) = true from TyV.ok)⟩
theorem list2 {α : Type} : ∀ {l : List α}, l.length = 2 → ∃ a b, l = [a, b]
 | [a, b], _ => ⟨a, b, rfl⟩
theorem op_fields : ∃ f1 f2 : Field, Tryz.prog.underlying 227 = some (.struct #[f1, f2]) ∧ f1.name ≠ "_" ∧ f2.name ≠ "_" ∧ f1.type = 28 ∧ f2.type = 3 := by
 have h : (match Tryz.prog.underlying 227 with | some (.struct fs) => (fs.toList.map (·.type) == [28, 3]) && fs.toList.all (fun f => f.name != "_") | _ => false) = true := by kernel_rfl
 split at h
 ·rename_i fs hfs
  obtain ⟨l⟩ := fs
  simp only [Bool.and_eq_true, beq_iff_eq] at h
  obtain ⟨h1, h2⟩ := h
  obtain ⟨f1, f2, rfl⟩ : ∃ f1 f2, l = [f1, f2] := list2 (by simpa using congrArg List.length h1)
  simp only [List.map_cons, List.map_nil, List.cons.injEq, and_true] at h1
  simp only [List.all_cons, List.all_nil, Bool.and_true, Bool.and_eq_true, bne_iff_ne] at h2
  exact ⟨f1, f2, hfs, h2.1, h2.2, h1.1, h1.2⟩
 ·cases h
theorem peq_op (d : Nat) {r : List Int} (n : Int) {r' : List Int} (n' : Int) (h : r.length = r'.length) : peqT Tryz.prog (d + 4) 227 (opP r n) (opP r' n') = some ((r == r') && ((n == n') && true)) := by
 obtain ⟨f1, f2, hu, a1, a2, b1, b2⟩ := op_fields
 have hs : Tryz.prog.stoodInHeld 227 = false := by kernel_rfl
 have hi : Tryz.prog.underlying 3 = some (.int .i64) := by kernel_rfl
 have hr := peq_refD (d + 1) h
 have hn : peqT Tryz.prog (d + 3) 3 (.leaf (.int .i64 n)) (.leaf (.int .i64 n')) = some (n == n') := by simp only [peqT, hi, if_true]
 unfold opP
 rw [peqT.eq_def]
 simp only [hu, hs, Bool.false_eq_true, if_false, peqF, a1, a2, b1, b2, hr, hn]
theorem bin_eqO {r : List Int} {n : Int} {r' : List Int} {n' : Int} (h : r.length = r'.length) : binV Tryz.prog .eql 227 (.pu (opP r n)) (.pu (opP r' n')) = some (bv ((r == r') && ((n == n') && true))) := by
 have h1 := op_cond r n r' n'
 have h2 := fun e => peq_op e n n' h
 unfold opP at h1 h2 ⊢
 simp only [binV, if_pos h1]
 generalize hd : (100 : Nat) = d
 obtain ⟨e, rfl⟩ : ∃ e, d = e + 4 := ⟨96, by omega⟩
 rw [h2 e]
theorem op_wf {D : Nat → Nat → Prop} {w : World} {r : List Int} {n : Int} {x : List Value} (h : PR Tryz.prog D w (opP r n) x) : r.length = 32 := by
 obtain ⟨_, h⟩ := PR_agg h
 obtain ⟨⟨_, h⟩, _⟩ := PRs_cons h
 exact ref_len h
def handM (way : List Tm) (r : List Int) : Nat → Int
 | 0 => -1
 | n + 1 => match way[n]? with
  | some x => if x.kind == 12 && x.ref == r then n else handM way r n
  | none => handM way r n
theorem handler_c (path : List Nat) (way : List Tm) (r : List Int) (n : Int) (h : path.length ≤ way.length) (hl : way.length < 2^40) : FCall Tryz.prog G 164 [.pu (siteP path way), .pu (opP r n)] (iv .i64 (handM way r path.length)) := by
 refine FCall.of_tri tbl 33 Tryz.func164 rfl rfl rfl fun w0 M ρ0 D0 => ?_
 refine Tri.fact (i := 0) rfl (fun D w x h => site_wf h) (fun hr => ?_);refine Tri.fact (i := 1) rfl (fun D w x h => op_wf h) (fun hr' => ?_);refine yR ?_;refine s_box SS 2 ?_;refine s_box SS 3 ?_;refine yB ?_;refine e_seqN [2, 3] ?_;refine Y52 ?_;refine yI ?_;refine Y2 ?_;refine Tri.block (Tri.loopW (σ := {j : Nat // j ≤ path.length ∧ handM way r path.length = handM way r j}) (fun i => ⟨[(2, .ptr 2 [] 147), (3, .ptr 3 [] 227), (5, iv .i64 ((i.1 : Int) - 1))], [(2, .var 147 (.pu (siteP path way))), (3, .var 227 (.pu (opP r n)))]⟩) (fun i => i.1) ⟨path.length, Nat.le_refl _, rfl⟩ ?_ ?_ (fun i => ?_))
 ·repeat (first | exact .nil | refine .cons rfl (by first | exact .refl | (focus ((repeat constructor); done)) | (rw [path_len, wrap64 (by omega) (by omega)]; exact .refl)) ?_)
 ·repeat (first | exact .nil | refine .cons rfl (by first | exact .refl | (focus ((repeat constructor); done)) | (rw [path_len, wrap64 (by omega) (by omega)]; exact .refl)) ?_)
 refine Y61 ?_;refine Tri.cond rfl (fun h0 => ?_) (fun h0 => ?_)
 ·skip
  have hj : 0 < i.1 := by simp at h0; omega
  obtain ⟨j, hj⟩ : ∃ j, i.1 = j + 1 := ⟨i.1 - 1, by omega⟩
  have hjw : j < way.length := by have := i.2.1; omega
  have hx := tms_get (lo := 0) hjw
  have hxl := wfTs_mem hr _ (List.getElem_mem hjw)
  have hst := i.2.2
  rw [hj] at hst
  simp only [handM, List.getElem?_eq_getElem hjw] at hst
  generalize way[j] = x at hx hxl hst
  obtain ⟨xk, xn, xr, xs, xc⟩ := x
  refine Tri.skip ?_;refine tQ ?_;refine Tri.block ?_;refine Y23 ?_;refine yM ?_;refine s_val (v_index SS (h0 := by omega) (hp := by rw [show ((i.1 : Int) - 1).toNat = j by omega]; exact hx)) ?_;refine yL ?_;refine s_alloc SS 6 ?_;refine yS ?_;refine e_seqN [6] ?_;refine Y34 ?_;refine Y44 ?_;refine xP ?_;refine xL ?_;refine s_gg zG (v_bin SS (h := bin_eqO (hxl.1.trans hr'.symm))) ?_;refine yN ?_;refine Y0 ?_;refine Tri.cond rfl (fun h1 => ?_) (fun h1 => ?_)
  ·skip
   refine Y1 ?_;refine Y2 ?_;exact Tri.ret ⟨.inr rfl, ret1 rfl resV_tmp (iv_imp (by simp_all [Tm.kind, Tm.ref]))⟩
  ·skip
   have hnext : handM way r path.length = handM way r j := by simp_all [Tm.kind, Tm.ref]
   refine Tri.skip ?_;refine Y11 ?_;refine Y14 ?_
   refine ⟨⟨j, by omega, hnext⟩, by show j < i.1; omega, le_of ?_ ?_⟩
   ·repeat (first | exact SubE.nil | refine SubE.cons rfl (by first | rfl | (rw [wrap64 (by omega) (by omega)]; rfl) | (rw [wrap64 (by omega) (by omega)]; rw [show ((i.1 : Int) - 1 - 1) = (j : Int) - 1 by omega])) ?_)
   ·repeat (first | exact SubH.nil | refine SubH.cons rfl (by first | rfl | (rw [wrap64 (by omega) (by omega)]; rfl) | (rw [wrap64 (by omega) (by omega)]; rw [show ((i.1 : Int) - 1 - 1) = (j : Int) - 1 by omega])) ?_)
 ·skip
  refine Tri.exit ?_;refine Y8 ?_;exact Tri.ret ⟨.inr rfl, ret1 rfl resV_tmp (iv_imp (by have := i.2.2; simp at h0; rw [this, show i.1 = 0 by omega]; rfl))⟩
end Go.Proofs.YtkcgkignhpepkaaGreatDoor

/- A term in the place of work. -/
namespace Go.Proofs.YtkcgkignhpepkaaGreatDoor
open Go Hs
variable {G : List (Nat × TypeId × Pu)}
def setKid : Tm → Nat → Tm → Tm
 | .mk k n r ks cs, j, x => .mk k n r (ks.set j x) cs
def fillM (way : List Tm) (path : List Nat) (lo : Nat) : Nat → Tm → Tm
 | 0, x => x
 | n + 1, x => if n < lo then x else match way[n]?, path[n]? with
  | some t, some k => fillM way path lo n (setKid t k x)
  | _, _ => x
theorem tms_set (lo : Nat) (ks : List Tm) (j : Nat) (x : Tm) : ((tmsc lo ks).map PV.pu).set j (.pu (tmc lo x)) = (tmsc lo (ks.set j x)).map .pu := by
 rw [tms_eq, tms_eq, List.map_set, List.map_set]
theorem tms_setl (ks : List Tm) (j : Nat) (x : Tm) : (ks.set j x).length = ks.length := by simp
theorem filled_c (path : List Nat) (way : List Tm) (lo hi : Nat) (x : Tm) (h1 : hi ≤ path.length) (h2 : hi ≤ way.length) (hp : ∀ i (h : i < hi), path[i] < way[i].kids.length) (hw : ∀ t ∈ way, t.kids.length < 2^30) (hl : path.length < 2^30) (hlo : lo < 2^40) :
  FCall Tryz.prog G 153 [.pu (siteP path way), iv .i64 lo, iv .i64 hi, .pu (tmc 0 x)] (.pu (tmc 0 (fillM way path lo hi x))) := by
 refine FCall.of_tri tbl 44 Tryz.func153 rfl rfl rfl fun w0 M ρ0 D0 => ?_
 refine yR ?_;refine s_box SS 4 ?_;refine s_box SS 7 ?_;refine s_alloc SS 8 ?_;refine e_seqN [4, 7, 8] ?_;refine Y38 ?_;refine Tri.block (Tri.loopW (σ := {q : Nat × Tm // q.1 ≤ hi ∧ fillM way path lo hi x = fillM way path lo q.1 q.2}) (fun i => ⟨[(1, iv .i64 lo), (4, .ptr 4 [] 147), (7, .ptr 7 [] 32), (8, .ptr 8 [] 32), (9, iv .i64 ((i.1.1 : Int) - 1))], [(4, .var 147 (.pu (siteP path way))), (7, .var 32 (.pu (tmc 0 i.1.2))), (8, .var 32 (.agg 32 [iv .i64 0, iv .i64 0, .pu (refP Z32), .nilc, .nilc]))]⟩) (fun i => i.1.1) ⟨(hi, x), Nat.le_refl _, rfl⟩ ?_ ?_ (fun i => ?_))
 ·repeat (first | exact .nil | refine .cons rfl (by first | exact .refl | (focus ((repeat constructor); done)) | (rw [wrap64 (by omega) (by omega)]; exact .refl)) ?_)
 ·repeat (first | exact .nil | refine .cons rfl (by first | exact .refl | (focus ((repeat constructor); done)) | (rw [wrap64 (by omega) (by omega)]; exact .refl)) ?_)
 refine Y29 ?_;refine Y45 ?_;refine Tri.cond rfl (fun h0 => ?_) (fun h0 => ?_)
 ·skip
  have hlj : (lo : Int) ≤ (i.1.1 : Int) - 1 := by simpa using h0
  obtain ⟨j, hj⟩ : ∃ j, i.1.1 = j + 1 := ⟨i.1.1 - 1, by omega⟩
  have hi1 := i.2.1
  have hjw : j < way.length := by omega
  have hjp : j < path.length := by omega
  have hx := tms_get (lo := 0) hjw
  have hk := hp j (by omega)
  have hkl := hw _ (List.getElem_mem hjw)
  have hpg := path_get hjp
  have hst := i.2.2
  rw [hj] at hst
  simp only [fillM, List.getElem?_eq_getElem hjw, List.getElem?_eq_getElem hjp, if_neg (show ¬ j < lo by omega)] at hst
  generalize path[j] = m at hk hpg hst
  generalize way[j] = t at hx hk hkl hst
  obtain ⟨k, n, r, ks, cs⟩ := t
  simp only [Tm.kids] at hk hkl
  have hnext := hst
  have hkt : m < (tmsc 0 ks).length := by rw [tms_length]; exact hk
  have hto : ((i.1.1 : Int) - 1).toNat = j := by omega
  refine Tri.skip ?_;refine tQ ?_;refine Tri.block ?_;refine Y23 ?_;refine yM ?_;refine s_val (v_index SS (h0 := by omega) (hp := by rw [hto]; exact hx)) ?_;refine yL ?_;refine s_alloc SS 10 ?_;refine yS ?_;refine e_seqN [10] ?_;refine Y52 ?_;refine s_make SS (n := (tmsc 0 ks).length) 27 (by rw [tms_length]; omega) (by rw [tms_length]; omega) ?_;refine yA ?_;refine e_seqN [27] ?_;refine Y1 ?_;refine Y9 ?_;refine s_copy SS ?_;refine e_seq ?_;refine Y1 ?_;refine Y9 ?_;refine yM ?_;refine s_val (v_index SS (h0 := by omega) (hp := by rw [hto]; exact hpg)) ?_;refine yL ?_;refine yL ?_;refine s_val (v_ixa SS) ?_;refine s_storeR SS (i := m) (vs := (tmsc 0 ks).map .pu) (u0 := .pu (tmc 0 ks[m])) (by simp [tms_eq, hk]) ?_;refine e_draw ?_;rw [tms_set];refine Y1 ?_;refine yF ?_;refine yW ?_;refine e_seq ?_
  refine Y4 ?_;refine Y17 ?_;refine Tri.freeze (lo := 0) (l := 27) (E := 32) (ps := tmsc 0 (ks.set m i.1.2)) (env' := [(1, iv .i64 lo), (4, .ptr 4 [] 147), (7, .ptr 7 [] 32), (8, .ptr 8 [] 32), (9, iv .i64 ((i.1.1 : Int) - 1))]) (heap' := [(4, .var 147 (.pu (siteP path way))), (7, .var 32 (.agg 32 [.pu (.leaf (.int .i64 k)), .pu (.leaf (.int .i64 n)), .pu (refP r), .pu (.sl 0 32 (tmsc 0 (ks.set m i.1.2))), .pu (.sl 0 106 (cssc 0 cs))])), (8, .var 32 (.agg 32 [iv .i64 0, iv .i64 0, .pu (refP Z32), .nilc, .nilc]))]) rfl (.inl rfl) ?_ (h2 := .cons rfl rfl rfl (.cons rfl rfl (by simp [frzOb, frzV, frzL, tms_length, tms_setl]) (.cons rfl rfl rfl .nil)))
  refine Tri.ghost (Ghost.wk (env' := [(1, iv .i64 lo), (4, .ptr 4 [] 147), (7, .ptr 7 [] 32), (8, .ptr 8 [] 32), (9, iv .i64 ((i.1.1 : Int) - 1))]) (heap' := [(4, .var 147 (.pu (siteP path way))), (7, .var 32 (.pu (tmc 0 (setKid (.mk k n r ks cs) m i.1.2)))), (8, .var 32 (.agg 32 [iv .i64 0, iv .i64 0, .pu (refP Z32), .nilc, .nilc]))]) (by repeat (first | exact .nil | refine .cons rfl .refl ?_)) (.cons rfl .refl (.cons rfl (by repeat constructor) (.cons rfl .refl .nil)))) ?_;refine Y11 ?_;refine Y14 ?_
  refine ⟨⟨(j, setKid (.mk k n r ks cs) m i.1.2), by omega, hnext⟩, by show j < i.1.1; omega, le_of ?_ ?_⟩
  ·repeat (first | exact SubE.nil | refine SubE.cons rfl (by first | rfl | (rw [wrap64 (by omega) (by omega)]; rfl) | (rw [wrap64 (by omega) (by omega)]; rw [show ((i.1.1 : Int) - 1 - 1) = (j : Int) - 1 by omega])) ?_)
  ·repeat (first | exact SubH.nil | refine SubH.cons rfl (by first | rfl | (rw [wrap64 (by omega) (by omega)]; rfl) | (rw [wrap64 (by omega) (by omega)]; rw [show ((i.1.1 : Int) - 1 - 1) = (j : Int) - 1 by omega])) ?_)
 ·skip
  have hlj : (i.1.1 : Int) - 1 < (lo : Int) := by simpa using h0
  have hfin : fillM way path lo hi x = i.1.2 := i.2.2.trans (by
   cases hq : i.1.1 with
   | zero => rfl
   | succ j => rw [hq] at hlj; simp only [fillM]; rw [if_pos (by omega)])
  refine Tri.exit ?_;refine Y57 ?_;exact Tri.ret ⟨.inr rfl, ret1 rfl resV_cell (VImp.of_eq (congrArg (fun t => PV.pu (tmc 0 t)) hfin.symm))⟩
end Go.Proofs.YtkcgkignhpepkaaGreatDoor

