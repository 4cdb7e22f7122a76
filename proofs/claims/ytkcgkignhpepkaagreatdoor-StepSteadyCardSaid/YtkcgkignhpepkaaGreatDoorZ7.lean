/- Part 7 of the proof: lemmas on walks and the walks of the functions, in their order. -/
import Derived.Test.YtkcgkignhpepkaaGreatDoorZ6
set_option linter.unusedSimpArgs false
set_option linter.unusedVariables false
set_option linter.unusedSectionVars false
set_option linter.constructorNameAsVariable false
/- StepSteady: terms of size 6 are not too long; which definitions occur. -/
namespace Go.Proofs.YtkcgkignhpepkaaGreatDoor
open Go Hs
section
variable (bs : List Int)
section
class Kt (m : Sk) : Prop where
 h : ∀ d s l, (a5 (m.f d s l).1 : Int) ≤ 1 + 18 * max l 0 - 18 * max (m.f d s l).2.2 0
variable (k : Sk) [hk : Kt k] [hc : Sc k]
instance (d : Int) (s : Sd) (l : Int) : Zs (k.f d s l).1 (1 + 18 * max l 0 - 18 * max (k.f d s l).2.2 0) := ⟨hk.h d s l⟩
theorem bx5 (d : Int) (s : Sd) (l : Int) : ∀ i : Nat, (c7 (scL k d s l i).1 : Int) ≤ 1 * i + 18 * max l 0 - 18 * max (scL k d s l i).2.2 0
 | 0 => by simp [scL, c7]
 | i + 1 => by
  have h1 := bx5 d s l i
  have h2 := hk.h d (scL k d s l i).2.1 (scL k d s l i).2.2
  simp only [scL, as1, c7]
  push_cast
  omega
theorem bU5 (d : Int) (s : Sd) (l : Int) : ∀ i : Nat, (d6 (caL bs k d s l i).1 : Int) ≤ 8 * i + 18 * max l 0 - 18 * max (caL bs k d s l i).2.2 0
 | 0 => by simp [caL, d6]
 | i + 1 => by
  have h1 := bU5 d s l i
  have h2 := hk.h (d + j2 (m7 bs 2 (caL bs k d s l i).2.1).1) (m7 bs 2 (caL bs k d s l i).2.1).2 (caL bs k d s l i).2.2
  have h3 := Z9 bs 2 7 (by omega) (caL bs k d s l i).2.1
  simp only [caL, ay1, d6, u7]
  push_cast
  omega
theorem bK3 (x : Int) (d : Int) (s : Sd) (l : Int) : (a5 (w5 bs k x d s l).1 : Int) ≤ 19 + 18 * max l 0 - 18 * max (w5 bs k x d s l).2.2 0 := by
 simp only [w5]
 split
 ·(refine Zs.mono inferInstance ?_; (try dsimp only); omega)
 split
 ·(refine Zs.mono inferInstance ?_; (try dsimp only); omega)
 split
 ·(refine Zs.mono inferInstance ?_; (try dsimp only); omega)
 split
 ·(refine Zs.mono inferInstance ?_; (try dsimp only); omega)
 split
 ·(refine Zs.mono inferInstance ?_; (try dsimp only); omega)
 split
 ·(refine Zs.mono inferInstance ?_; (try dsimp only); omega)
 split
 ·(refine Zs.mono inferInstance ?_; (try dsimp only); omega)
 split
 ·(refine Zs.mono inferInstance ?_; (try dsimp only); omega)
 split
 ·have h1 := hk.h (d + 0) (p5 bs 11 3 s).2 l
  generalize k.f (d + 0) (p5 bs 11 3 s).2 l = e at h1
  have h2 := hk.h (d + 1) e.2.1 e.2.2
  generalize k.f (d + 1) e.2.1 e.2.2 = g at h2
  have h3 := bx5 k (d + 2) (a4 bs 3 g.2.1).2 g.2.2 (a4 bs 3 g.2.1).1.toNat
  have h4 := aa4 bs g.2.1
  simp only [haM, a5, c7, d6]
  push_cast
  omega
 split
 ·have h1 := hk.h (d + 0) s l
  generalize k.f (d + 0) s l = e at h1
  have h3 := bU5 bs k d (a4 bs 3 e.2.1).2 e.2.2 (a4 bs 3 e.2.1).1.toNat
  have h4 := aa4 bs e.2.1
  simp only [maM, a5, c7]
  push_cast
  omega
 ·have h3 := bx5 k (d + 0) (a4 bs 3 (a4 bs 3 (p5 bs 1 4 s).2).2).2 l (a4 bs 3 (a4 bs 3 (p5 bs 1 4 s).2).2).1.toNat
  have h4 := aa4 bs (a4 bs 3 (p5 bs 1 4 s).2).2
  simp only [coM, a5, d6]
  push_cast
  omega
instance scoped_kt : ∀ n : Nat, Kt (j9 bs n)
 | 0 => ⟨fun d s l => by
  simp only [j9]
  split
  ·rename_i hl
   have := ac3 bs aa8 _ (R5 bs (s := s) hl) d (G0 bs (l - 1) s).2 (l - 1)
   omega
  ·simp only [nuM, a5, c7, d6]
   omega⟩
 | n + 1 => ⟨fun d s l => by
  have ih := scoped_kt n
  simp only [j9]
  by_cases hl : l - 1 ≤ 0
  ·have := ac3 bs (j9 bs n) _ (R5 bs (s := s) hl) d (G0 bs (l - 1) s).2 (l - 1)
   omega
  ·have := bK3 bs (j9 bs n) (G0 bs (l - 1) s).1 d (G0 bs (l - 1) s).2 (l - 1)
   omega⟩
theorem bf5 (s : Sd) : a5 (K3 bs 6 s).1 ≤ 109 := by
 have := (scoped_kt bs 6).h 0 s ((6 : Nat) : Int)
 simp only [K3]
 omega
end
end
section
variable (bs : List Int)
def H3 : Nat → Sd → List Nat × Sd
 | 0, s => ([], s)
 | i + 1, s => ((((H3 i s).1 ++ [((H3 i s).1 ++ [0]).getD (a4 bs ((i : Int) + 1) (H3 i s).2).1.toNat 0]).set (a4 bs ((i : Int) + 1) (H3 i s).2).1.toNat i), (a4 bs ((i : Int) + 1) (H3 i s).2).2)
theorem ai0 : ∀ (i : Nat) (s : Sd), (H3 bs i s).1.length = i
 | 0, _ => rfl
 | i + 1, s => by simp [H3, ai0 i s]
theorem aO9 : ∀ (i : Nat) (s : Sd), (H3 bs i s).1.Perm (List.range i)
 | 0, _ => .nil
 | i + 1, s => by
  have ih := aO9 i s
  have hl := ai0 bs i s
  have hb := p8 bs (H3 bs i s).2 (n := (i : Int) + 1) (by omega)
  simp only [H3]
  generalize (a4 bs ((i : Int) + 1) (H3 bs i s).2).1 = z at hb
  generalize (H3 bs i s).1 = p at ih hl
  rw [List.range_succ]
  obtain ⟨k, rfl⟩ := Int.eq_ofNat_of_zero_le hb.1
  have hk : k ≤ i := by omega
  simp only [Int.toNat_natCast]
  rcases Nat.lt_or_ge k i with h | h
  ·have hkp : k < p.length := by omega
   rw [List.set_append_left _ _ hkp]
   have e : (p ++ [0]).getD k 0 = p[k] := by rw [List.getD_eq_getElem?_getD, List.getElem?_append_left hkp, List.getElem?_eq_getElem hkp]; rfl
   rw [e];refine List.Perm.trans ?_ (ih.append_right [i])
   have e1 : p = p.take k ++ p[k] :: p.drop (k + 1) := by rw [← List.drop_eq_getElem_cons hkp, List.take_append_drop]
   have e2 : p.set k i = p.take k ++ i :: p.drop (k + 1) := by rw [List.set_eq_take_append_cons_drop, if_pos hkp]
   rw [e2]
   conv => rhs; rw [e1]
   simp only [List.append_assoc, List.cons_append]
   refine List.Perm.append_left _ ?_
   have h1 : (i :: (p.drop (k + 1) ++ [p[k]])).Perm (i :: p[k] :: p.drop (k + 1)) := (List.perm_append_singleton _ _).cons _
   have h2 : (p[k] :: (p.drop (k + 1) ++ [i])).Perm (p[k] :: i :: p.drop (k + 1)) := (List.perm_append_singleton _ _).cons _
   exact h1.trans ((List.Perm.swap _ _ _).trans h2.symm)
  ·obtain rfl : k = i := by omega
   rw [List.set_append_right _ _ (by omega), hl, Nat.sub_self];exact ih.append_right _
theorem az3 {r : List Int} {b : Tm} : ∀ {ts : List KT}, (ts.map (·.1)).Nodup → (B2 r ts = some b ↔ (r, b) ∈ ts)
 | [], _ => by simp [B2]
 | x :: ts, h => by
  rw [List.map_cons, List.nodup_cons] at h
  have ih := az3 (r := r) (b := b) h.2
  simp only [B2]
  by_cases e : r = x.1
  ·rw [if_pos e]
   constructor
   ·intro hb
    simp at hb
    rw [e, ← hb];exact List.mem_cons_self
   ·intro hm
    rcases List.mem_cons.1 hm with hm | hm
    ·rw [← hm]
    ·exact absurd (List.mem_map.2 ⟨_, hm, e⟩) h.1
  ·rw [if_neg e, ih]
   constructor
   ·intro hm; exact List.mem_cons_of_mem _ hm
   ·intro hm
    rcases List.mem_cons.1 hm with hm | hm
    ·exact absurd (by rw [← hm]) e
    ·exact hm
theorem bR7 {r : List Int} {ts us : List KT} (hu : (us.map (·.1)).Nodup) (ht : (ts.map (·.1)).Nodup) (hs : ∀ x ∈ ts, x ∈ us) (hr : (B2 r ts).isSome = true) : B2 r ts = B2 r us := by
 obtain ⟨b, hb⟩ := Option.isSome_iff_exists.1 hr
 rw [hb];exact ((az3 hu).2 (hs _ ((az3 ht).1 hb))).symm
end
inductive YT where
 | ba (x : BT)
 | li (x : BT)
 | op (x : BT)
 | pa (x y : BT)
 | fn (a b : YT) (e : List AB)
def AB.res : AB → BT
 | .fl => .b
 | _ => .n
def AB.ops : AB → Nat
 | .st => 2
 | _ => 1
def YT.data : YT → Bool
 | .fn _ _ _ => false
 | _ => true
def bt3 (r : List Int) : Option YT :=
 if r = b7 21 then some (.fn (.ba .n) (.ba .n) []) else if r = b7 22 then some (.fn (.ba .n) (.fn (.ba .n) (.ba .n) []) [])
 else if r = b7 23 then some (.fn (.li .n) (.ba .n) []) else if r = b7 24 then some (.fn (.ba .n) (.ba .n) []) else none
inductive DV : YT → Tm → Prop
 | nat (n : Int) : DV (.ba .n) (nuM n)
 | boo (n : Int) (h : n = 0 ∨ n = 1) : DV (.ba .b) (coM (b7 1) n [])
 | nil (x : BT) : DV (.li x) (coM (b7 2) 0 [])
 | cons {x : BT} {a t : Tm} (h : DV (.ba x) a) (k : DV (.li x) t) : DV (.li x) (coM (b7 2) 1 [a, t])
 | none (x : BT) : DV (.op x) (coM (b7 4) 0 [])
 | some {x : BT} {a : Tm} (h : DV (.ba x) a) : DV (.op x) (coM (b7 4) 1 [a])
 | pair {x y : BT} {a b : Tm} (h : DV (.ba x) a) (k : DV (.ba y) b) : DV (.pa x y) (coM (b7 3) 0 [a, b])
inductive PT : YT → Pat → List YT → Prop
 | any (T : YT) : PT T t8 [T]
 | nat (n : Int) : PT (.ba .n) (pnM n) []
 | boo (n : Int) : PT (.ba .b) (pcM (b7 1) n []) []
 | nil (x : BT) : PT (.li x) (pcM (b7 2) 0 []) []
 | cons {x : BT} {p q : Pat} {D E : List YT} (h : PT (.ba x) p D) (k : PT (.li x) q E) : PT (.li x) (pcM (b7 2) 1 [p, q]) (D ++ E)
 | none (x : BT) : PT (.op x) (pcM (b7 4) 0 []) []
 | some {x : BT} {p : Pat} {D : List YT} (h : PT (.ba x) p D) : PT (.op x) (pcM (b7 4) 1 [p]) D
 | pair {x y : BT} {p q : Pat} {D E : List YT} (h : PT (.ba x) p D) (k : PT (.ba y) q E) : PT (.pa x y) (pcM (b7 3) 0 [p, q]) (D ++ E)
def Exh (T : YT) (cs : List Cs) : Prop := ∀ v, DV T v → ∃ c ∈ cs, (t9 (csP c) v).2 = true
inductive HT : List YT → List AB → YT → Tm → Prop
 | va {G : List YT} {e : List AB} {T : YT} {n : Nat} (h : G[n]? = some T) : HT G e T (vaM n)
 | nu {G : List YT} {e : List AB} (n : Int) : HT G e (.ba .n) (nuM n)
 | la {G : List YT} {e f : List AB} {A B : YT} {b : Tm} (h : HT (A :: G) f B b) : HT G e (.fn A B f) (laM b)
 | ap {G : List YT} {e f : List AB} {A B : YT} {s t : Tm} (h : HT G e (.fn A B f) s) (k : HT G e A t) (hf : f ⊆ e) : HT G e B (apM s t)
 | le {G : List YT} {e : List AB} {A B : YT} {s t : Tm} (h : HT G e A s) (k : HT (A :: G) e B t) : HT G e B (leM s t)
 | de {G : List YT} {e : List AB} {T : YT} {r : List Int} (h : bt3 r = some T) : HT G e T (deM r)
 | boo {G : List YT} {e : List AB} {n : Int} (h : n = 0 ∨ n = 1) : HT G e (.ba .b) (coM (b7 1) n [])
 | nil {G : List YT} {e : List AB} {x : BT} : HT G e (.li x) (coM (b7 2) 0 [])
 | cons {G : List YT} {e : List AB} {x : BT} {s t : Tm} (h : HT G e (.ba x) s) (k : HT G e (.li x) t) : HT G e (.li x) (coM (b7 2) 1 [s, t])
 | none {G : List YT} {e : List AB} {x : BT} : HT G e (.op x) (coM (b7 4) 0 [])
 | some {G : List YT} {e : List AB} {x : BT} {s : Tm} (h : HT G e (.ba x) s) : HT G e (.op x) (coM (b7 4) 1 [s])
 | pair {G : List YT} {e : List AB} {x y : BT} {s t : Tm} (h : HT G e (.ba x) s) (k : HT G e (.ba y) t) : HT G e (.pa x y) (coM (b7 3) 0 [s, t])
 | pr {G : List YT} {e : List AB} {n : Int} {s t : Tm} (h : HT G e (.ba .n) s) (k : HT G e (.ba .n) t) : HT G e (.ba .n) (prM n s t)
 | ma {G : List YT} {e : List AB} {A T : YT} {s : Tm} {cs : List Cs} (D : Cs → List YT) (h : HT G e A s) (hA : A.data = true) (hx : Exh A cs) (hp : ∀ c, c ∈ cs → PT A (csP c) (D c)) (k : ∀ c, c ∈ cs → HT ((D c).reverse ++ G) e T (csT c)) : HT G e T (maM s cs)
 | doo {G : List YT} {e : List AB} {a : AB} {n : Nat} {T : YT} {s : Tm} (ha : a ∈ e) (hn : n < a.ops) (hT : T = .ba a.res) (h : HT G e (.ba .n) s) : HT G e T (doT a.ref n s)
 | ha {G : List YT} {e f : List AB} {a : AB} {A T : YT} {s t : Tm} {os : List Tm} (hf : f ⊆ e) (ho : os.length = a.ops) (h : HT G (a :: f) A s) (k : HT (A :: G) f T t) (l : ∀ o, o ∈ os → HT (.fn (.ba a.res) T f :: .ba .n :: G) f T o) : HT G e T (haM a.ref (s :: t :: os))
theorem HT.wk {G : List YT} {e : List AB} {T : YT} {t : Tm} (h : HT G e T t) : ∀ (G' : List YT) (e' : List AB), e ⊆ e' → HT (G ++ G') e' T t := by
 induction h with
 | va h => intro G' e' _; exact .va (by rw [List.getElem?_append_left (List.getElem?_eq_some_iff.1 h).1]; exact h)
 | nu n => intro G' e' _; exact .nu n
 | la _ ih => intro G' e' _; exact .la (ih G' _ (fun _ h => h))
 | ap _ _ hf ih1 ih2 => intro G' e' he; exact .ap (ih1 G' e' he) (ih2 G' e' he) (fun x hx => he (hf hx))
 | le _ _ ih1 ih2 => intro G' e' he; exact .le (ih1 G' e' he) (ih2 G' e' he)
 | de h => intro G' e' _; exact .de h
 | boo h => intro G' e' _; exact .boo h
 | nil => intro G' e' _; exact .nil
 | cons _ _ ih1 ih2 => intro G' e' he; exact .cons (ih1 G' e' he) (ih2 G' e' he)
 | none => intro G' e' _; exact .none
 | some _ ih => intro G' e' he; exact .some (ih G' e' he)
 | pair _ _ ih1 ih2 => intro G' e' he; exact .pair (ih1 G' e' he) (ih2 G' e' he)
 | pr _ _ ih1 ih2 => intro G' e' he; exact .pr (ih1 G' e' he) (ih2 G' e' he)
 | ma D _ hA hx hp _ ih1 ih2 => intro G' e' he; exact .ma D (ih1 G' e' he) hA hx hp (fun c hc => by rw [← List.append_assoc]; exact ih2 c hc G' e' he)
 | doo ha hn hT _ ih => intro G' e' he; exact .doo (he ha) hn hT (ih G' e' he)
 | ha hf ho _ _ _ ih1 ih2 ih3 => intro G' e' he; exact .ha (fun x hx => he (hf hx)) ho (ih1 G' _ (fun _ h => h)) (ih2 G' _ (fun _ h => h)) (fun o h => ih3 o h G' _ (fun _ h => h))
def VT (T : YT) (v : Tm) : Prop := P2 v = true ∧ ∀ e, HT [] e T v
section
def TT.yt : TT → YT
 | .ba x => .ba x
 | .li x => .li x
 | .op x => .op x
 | .pa x y => .pa x y
 | .fn x => .fn (.ba .n) (.ba x) []
theorem bK4 {t u : TT} : G9 t.ty u.ty = true → t = u := by
 rcases t with x | x | x | ⟨x, x'⟩ | x <;> rcases u with y | y | y | ⟨y, y'⟩ | y <;> cases x <;> cases y <;> (try cases x') <;> (try cases y') <;> first | exact fun _ => rfl | exact fun h => absurd h (by decide)
theorem bo2 (u : TT) : G9 v7 u.ty = false := by
 rcases u with y | y | y | ⟨y, y'⟩ | y <;> cases y <;> (try cases y') <;> decide
structure Evy (v : List Ty) (G : List YT) : Prop where
 len : G.length = v.length
 get : ∀ (j : Nat) (u : Ty), v[j]? = some u → ∀ t : TT, G9 u t.ty = true → G[v.length - 1 - j]? = some t.yt
theorem Evy.nil : Evy [] [] := ⟨rfl, by simp⟩
theorem Evy.add {v : List Ty} {G : List YT} (h : Evy v G) (w : Ty) (T : YT) (hw : ∀ t : TT, G9 w t.ty = true → T = t.yt) : Evy (v ++ [w]) (T :: G) := by
 refine ⟨by simp [h.len], fun j u hj t ht => ?_⟩
 rw [List.length_append, List.length_singleton]
 by_cases hl : j < v.length
 ·rw [List.getElem?_append_left hl] at hj
  rw [show v.length + 1 - 1 - j = (v.length - 1 - j) + 1 by omega, List.getElem?_cons_succ];exact h.get j u hj t ht
 ·have hj' := (List.getElem?_eq_some_iff.1 hj).1
  simp at hj'
  obtain rfl : j = v.length := by omega
  simp at hj
  subst hj
  simp [hw t ht]
theorem Evy.snoc {v : List Ty} {G : List YT} (h : Evy v G) (t : TT) : Evy (v ++ [t.ty]) (t.yt :: G) := h.add _ _ fun u hu => by rw [bK4 hu]
theorem Evy.lost {v : List Ty} {G : List YT} (h : Evy v G) (T : YT) : Evy (v ++ [v7]) (T :: G) := h.add _ _ fun u hu => by rw [bo2] at hu; cases hu
theorem Evy.two {v : List Ty} {G : List YT} (h : Evy v G) (t u : TT) : Evy (v ++ [t.ty, u.ty]) (u.yt :: t.yt :: G) := by
 have := (h.snoc t).snoc u
 rwa [List.append_assoc] at this
theorem Evy.ask {v : List Ty} {G : List YT} (h : Evy v G) (T : YT) : Evy (v ++ [n6, v7]) (T :: .ba .n :: G) := by
 have := (h.snoc (.ba .n)).lost T
 rwa [List.append_assoc] at this
theorem HT.eff {G : List YT} {e e' : List AB} {T : YT} {t : Tm} (h : HT G e T t) (he : e ⊆ e') : HT G e' T t := by
 have := h.wk [] e' he
 rwa [List.append_nil] at this
theorem sub_self (a : List AB) : a ⊆ a := fun _ h => h
theorem ah1 (a : List AB) : [] ⊆ a := fun _ h => by cases h
class To (m : Mk) : Prop where
 h : ∀ (t : TT) (v : List Ty) (a : List AB) (s : Sd) (l : Int) (G : List YT), Evy v G → HT G a t.yt (m.f t v a s l).1
variable (bs : List Int)
theorem cd8 (v : List Ty) (t : Ty) (i : Nat) : ∀ x ∈ knM v t i, ∃ (j : Nat) (u : Ty), v[j]? = some u ∧ G9 u t = true ∧ x = vaM ((v.length : Int) - 1 - j) := by
 intro x hx
 unfold knM at hx
 rw [List.mem_filterMap] at hx
 obtain ⟨j, _, hj⟩ := hx
 split at hj
 ·rename_i u hu
  split at hj
  ·rename_i hs
   simp only [Option.some.injEq] at hj
   exact ⟨j, u, hu, hs, hj.symm⟩
  ·cases hj
 ·cases hj
theorem bi8 {v : List Ty} {G : List YT} (hG : Evy v G) (a : List AB) (t : TT) (s : Sd) (h : (r6 bs v t.ty s).1.2 = true) : HT G a t.yt (r6 bs v t.ty s).1.1 := by
 unfold r6 at h ⊢
 split at h
 ·cases h
 ·rename_i hl
  rw [if_neg hl]
  have hb := p8 bs s (n := ((knM v t.ty v.length).length : Int)) (by omega)
  have hlt : (a4 bs (knM v t.ty v.length).length s).1.toNat < (knM v t.ty v.length).length := by omega
  obtain ⟨j, u, hj, hs, he⟩ := cd8 v t.ty v.length ((knM v t.ty v.length)[(a4 bs (knM v t.ty v.length).length s).1.toNat]'hlt) (List.getElem_mem _)
  simp only [List.getD_eq_getElem?_getD, List.getElem?_eq_getElem hlt, Option.getD_some]
  rw [he]
  have hjl := (List.getElem?_eq_some_iff.1 hj).1
  rw [show (v.length : Int) - 1 - j = ((v.length - 1 - j : Nat) : Int) by omega];exact .va (hG.get j u hj t hs)
theorem bi4 {v : List Ty} {G : List YT} (hG : Evy v G) (a : List AB) (t : TT) (base : Sd → Tm × Sd) (hb : ∀ s, HT G a t.yt (base s).1) (s : Sd) : HT G a t.yt (S5 bs v t.ty base s).1 := by
 unfold S5
 split
 ·rename_i h
  split
  ·exact bi8 bs hG a t s h
  ·exact hb _
 ·exact hb _
theorem be4 (s : Sd) : (a4 bs 2 s).1 = 0 ∨ (a4 bs 2 s).1 = 1 := by
 have := p8 bs s (n := 2) (by decide)
 omega
theorem aV1 (G : List YT) (a : List AB) (x : BT) (s : Sd) : HT G a (.ba x) (ag4 bs x s).1 := by
 cases x
 ·exact .nu _
 ·exact .boo (be4 bs s)
theorem aw5 {v : List Ty} {G : List YT} (hG : Evy v G) (a : List AB) (x : BT) (s : Sd) : HT G a (.ba x) (B0 bs x v s).1 := bi4 bs hG a (.ba x) _ (aV1 bs G a x) s
theorem bh5 {v : List Ty} {G : List YT} (hG : Evy v G) (a : List AB) (t : TT) (s : Sd) : HT G a t.yt (K5 bs t v s).1 := by
 refine bi4 bs hG a t _ (fun s => ?_) s
 cases t with
 | ba x => exact aV1 bs G a x s
 | li x => exact .nil
 | op x => exact .none
 | pa x y => exact .pair (aw5 bs hG a x s) (aw5 bs hG a y _)
 | fn x => exact .la (aw5 bs (hG.snoc (.ba .n)) [] x s)
theorem cf4 {G : List YT} {e : List AB} : HT G e (.fn (.ba .n) (.ba .n) []) (deM (b7 21)) := .de (by simp [bt3])
theorem cf3 {G : List YT} {e : List AB} : HT G e (.fn (.ba .n) (.fn (.ba .n) (.ba .n) []) []) (deM (b7 22)) := .de (by simp [bt3, b7])
theorem cf2 {G : List YT} {e : List AB} : HT G e (.fn (.li .n) (.ba .n) []) (deM (b7 23)) := .de (by simp [bt3, b7])
theorem cf1 {G : List YT} {e : List AB} : HT G e (.fn (.ba .n) (.ba .n) []) (deM (b7 24)) := .de (by simp [bt3, b7])
variable (m : Mk) [hm : To m]
theorem aq0 {v : List Ty} {G : List YT} (hG : Evy v G) (t : TT) (a : List AB) (s : Sd) (l : Int) : HT G a t.yt (m0 bs m t v a s l).1 := by
 have h := fun t a s l => hm.h t v a s l G hG
 cases t with
 | ba x =>
  cases x with
  | n =>
   simp only [m0]
   split
   ·exact .ap cf4 (h (.ba .n) a _ _) (ah1 a)
   split
   ·exact .ap (.ap cf3 (h (.ba .n) a _ _) (ah1 a)) (h (.ba .n) a _ _) (ah1 a)
   split
   ·exact .ap cf2 (h (.li .n) a _ _) (ah1 a)
   split
   ·exact .ap cf1 (.nu _) (ah1 a)
   split
   ·exact .pr (h (.ba .n) a _ _) (h (.ba .n) a _ _)
   ·exact .nu _
  | b => exact .boo (be4 bs s)
 | li x =>
  simp only [m0]
  split
  ·exact .cons (h (.ba x) a _ _) (h (.li x) a _ _)
  ·exact .nil
 | op x =>
  simp only [m0]
  split
  ·exact .some (h (.ba x) a _ _)
  ·exact .none
 | pa x y => exact .pair (h (.ba x) a _ _) (h (.ba y) a _ _)
 | fn x => exact .la (hm.h (.ba x) _ [] s l _ (hG.snoc (.ba .n)))
theorem cb1 {v : List Ty} {G : List YT} (hG : Evy v G) (t : TT) (a : List AB) (s : Sd) (l : Int) (hx : (z9 bs m t v a s l).1.2 = true) : HT G a t.yt (z9 bs m t v a s l).1.1 := by
 have h := fun t a s l => hm.h t v a s l G hG
 simp only [z9] at hx ⊢
 split at hx
 ·cases hx
 rename_i h0
 rw [if_neg h0]
 have hb := p8 bs s (n := (a.length : Int)) (by omega)
 have hc : a.getD (a4 bs a.length s).1.toNat .ab ∈ a := by
  have hlt : (a4 bs a.length s).1.toNat < a.length := by omega
  rw [List.getD_eq_getElem?_getD, List.getElem?_eq_getElem hlt];exact List.getElem_mem hlt
 generalize a.getD (a4 bs a.length s).1.toNat .ab = c at hc hx ⊢
 split at hx
 ·rename_i h1
  rw [if_pos h1]
  have hT : t.yt = .ba c.res := by
   rcases h1 with ⟨rfl, hc⟩ | ⟨rfl, rfl⟩
   ·cases c
    ·rfl
    ·exact absurd rfl hc
    ·rfl
   ·rfl
  split
  ·rename_i hst
   subst hst
   obtain ⟨n, hn⟩ : ∃ n : Nat, (a4 bs 2 (a4 bs a.length s).2).1 = (n : Int) := ⟨(a4 bs 2 (a4 bs a.length s).2).1.toNat, by have := be4 bs (a4 bs a.length s).2; omega⟩
   have hn2 : n < AB.st.ops := by
    have := be4 bs (a4 bs a.length s).2
    simp only [AB.ops]; omega
   simp only [hn]
   exact .doo hc hn2 hT (h (.ba .n) a _ _)
  ·exact .doo (n := 0) hc (by cases c <;> simp [AB.ops]) hT (h (.ba .n) a _ _)
 ·cases hx
theorem R0 {a b : Cs} {P : Cs → Prop} (ha : P a) (hb : P b) : ∀ c, c ∈ [a, b] → P c := fun c hc => by
 simp only [List.mem_cons, List.not_mem_nil, or_false] at hc
 rcases hc with rfl | rfl
 ·exact ha
 ·exact hb
theorem bv9 {a b d : Cs} {P : Cs → Prop} (ha : P a) (hb : P b) (hd : P d) : ∀ c, c ∈ [a, b, d] → P c := fun c hc => by
 simp only [List.mem_cons, List.not_mem_nil, or_false] at hc
 rcases hc with rfl | rfl | rfl
 ·exact ha
 ·exact hb
 ·exact hd
theorem bq2 {v : List Ty} {G : List YT} (hG : Evy v G) (t : TT) (a : List AB) (s : Sd) (l : Int) : HT G a t.yt (C4 bs m t v a s l).1 := by
 have h := fun t a s l => hm.h t v a s l G hG
 have h1 := fun t a s l u => hm.h t _ a s l _ (hG.snoc u)
 have h2 := fun t a s l u w => hm.h t _ a s l _ (hG.two u w)
 simp only [C4]
 generalize (f6 bs s).1 = u
 split
 ·refine .ma (A := .ba .n) (fun c => [YT.ba .n].take (j2 (csP c)).toNat) (h (.ba .n) a _ _) rfl (fun w _ => ⟨_, List.mem_cons_of_mem _ (List.mem_singleton.2 rfl), rfl⟩) (R0 (.nat _) (.any _)) (R0 (h t a _ _) (h1 t a _ _ (.ba .n)))
 split
 ·refine .ma (A := .ba .b) (fun c => [YT.ba .b].take (j2 (csP c)).toNat) (h (.ba .b) a _ _) rfl (fun w _ => ⟨_, List.mem_cons_of_mem _ (List.mem_singleton.2 rfl), rfl⟩) (R0 (.boo _) (.any _)) (R0 (h t a _ _) (h1 t a _ _ (.ba .b)))
 split
 ·refine .ma (A := .li u) (fun c => [YT.ba u, .li u].take (j2 (csP c)).toNat) (h (.li u) a _ _) rfl (fun w hw => ?_) (bv9 (.nil _) (.cons (.any _) (.nil _)) (.cons (.any _) (.any _))) (bv9 (h t a _ _) (h1 t a _ _ (.ba u)) (h2 t a _ _ (.ba u) (.li u)))
  cases hw with
  | nil => exact ⟨_, List.mem_cons_self, rfl⟩
  | cons _ _ => exact ⟨_, List.mem_cons_of_mem _ (List.mem_cons_of_mem _ List.mem_cons_self), rfl⟩
 split
 ·refine .ma (A := .op u) (fun c => [YT.ba u].take (j2 (csP c)).toNat) (h (.op u) a _ _) rfl (fun w hw => ?_) (R0 (.some (.any _)) (.none _)) (R0 (h1 t a _ _ (.ba u)) (h t a _ _))
  cases hw with
  | none => exact ⟨_, List.mem_cons_of_mem _ List.mem_cons_self, rfl⟩
  | some _ => exact ⟨_, List.mem_cons_self, rfl⟩
 split
 ·refine .ma (A := .pa u .n) (fun c => [YT.ba u, .ba .n].take (j2 (csP c)).toNat) (h (.pa u .n) a _ _) rfl (fun w hw => ?_) (R0 (.pair (.any _) (.nat _)) (.pair (.any _) (.any _))) (R0 (h1 t a _ _ (.ba u)) (h2 t a _ _ (.ba u) (.ba .n)))
  cases hw with
  | pair _ _ => exact ⟨_, List.mem_cons_of_mem _ List.mem_cons_self, rfl⟩
 ·refine .ma (A := .ba .b) (fun c => []) (h (.ba .b) a _ _) rfl (fun w hw => ?_) (R0 (.boo _) (.boo _)) (R0 (h t a _ _) (h t a _ _))
  cases hw with
  | boo n hn =>
   rcases hn with rfl | rfl
   ·exact ⟨_, List.mem_cons_self, rfl⟩
   ·exact ⟨_, List.mem_cons_of_mem _ List.mem_cons_self, rfl⟩
theorem bt6 {v : List Ty} {G : List YT} (hG : Evy v G) (t : TT) (a : List AB) (b : BT) (s : Sd) (l : Int) : HT (.fn (.ba b) t.yt a :: .ba .n :: G) a t.yt (D2 bs m t v a b s l).1 := by
 have hE := hG.ask (.fn (.ba b) t.yt a)
 have h := fun t a s l => hm.h t _ a s l _ hE
 have h1 := fun t' a s l => hm.h t' _ a s l _ (hE.snoc t)
 have ha : ∀ s l, HT (.fn (.ba b) t.yt a :: .ba .n :: G) a t.yt (apM (vaM 0) (m.f (.ba b) (v ++ [n6, v7]) a s l).1) := fun s l => .ap (f := a) (.va (n := 0) rfl) (h (.ba b) a s l) (sub_self a)
 simp only [D2]
 split
 ·split
  ·exact .le (ha _ _) (h1 t a _ _)
  ·exact ha _ _
 ·split
  ·exact .le (h t a _ _) (h1 t a _ _)
  ·exact h t a _ _
theorem ay5 {v : List Ty} {G : List YT} (hG : Evy v G) (t : TT) (a : List AB) (b : BT) (s : Sd) (l : Int) : ∀ i : Nat, (f9 bs m t v a b s l i).1.length = i ∧ ∀ o, o ∈ (f9 bs m t v a b s l i).1 → HT (.fn (.ba b) t.yt a :: .ba .n :: G) a t.yt o
 | 0 => ⟨rfl, fun o ho => by simp [f9] at ho⟩
 | i + 1 => by
  obtain ⟨h1, h2⟩ := ay5 hG t a b s l i
  refine ⟨by simp [f9, h1], fun o ho => ?_⟩
  simp only [f9, List.mem_append, List.mem_singleton] at ho
  rcases ho with ho | rfl
  ·exact h2 o ho
  ·exact bt6 bs m hG t a b _ _
theorem br6 {v : List Ty} {G : List YT} (hG : Evy v G) (t : TT) (a : List AB) (s : Sd) (l : Int) : HT G a t.yt (w7 bs m t v a s l).1 := by
 simp only [w7]
 split
 ·exact aq0 bs m hG t a _ _
 ·generalize abM (a4 bs 3 s).1 = c
  have hbk : (if c = .fl then BT.b else .n) = c.res := by cases c <;> rfl
  have hop : (if c = .st then 2 else 1) = c.ops := by cases c <;> rfl
  rw [hbk, hop]
  obtain ⟨k1, k2⟩ := ay5 bs m hG t a c.res (m.f t (v ++ [(f6 bs (c6 bs 4 (a4 bs 3 s).2).2).1.ty]) a (m.f (.ba (f6 bs (c6 bs 4 (a4 bs 3 s).2).2).1) v (if c ∈ a then a else a ++ [c]) (f6 bs (c6 bs 4 (a4 bs 3 s).2).2).2 l).2.1 (m.f (.ba (f6 bs (c6 bs 4 (a4 bs 3 s).2).2).1) v (if c ∈ a then a else a ++ [c]) (f6 bs (c6 bs 4 (a4 bs 3 s).2).2).2 l).2.2).2.1 (m.f t (v ++ [(f6 bs (c6 bs 4 (a4 bs 3 s).2).2).1.ty]) a (m.f (.ba (f6 bs (c6 bs 4 (a4 bs 3 s).2).2).1) v (if c ∈ a then a else a ++ [c]) (f6 bs (c6 bs 4 (a4 bs 3 s).2).2).2 l).2.1 (m.f (.ba (f6 bs (c6 bs 4 (a4 bs 3 s).2).2).1) v (if c ∈ a then a else a ++ [c]) (f6 bs (c6 bs 4 (a4 bs 3 s).2).2).2 l).2.2).2.2 c.ops
  refine .ha (A := .ba (f6 bs (c6 bs 4 (a4 bs 3 s).2).2).1) (sub_self a) k1 ((hm.h (.ba _) v _ _ _ G hG).eff (fun x hx => ?_)) (hm.h t _ a _ _ _ (hG.snoc (.ba _))) k2
  split at hx
  ·exact List.mem_cons_of_mem _ hx
  ·rcases List.mem_append.1 hx with hx | hx
   ·exact List.mem_cons_of_mem _ hx
   ·rw [List.mem_singleton.1 hx]; exact List.mem_cons_self
theorem bM0 {v : List Ty} {G : List YT} (hG : Evy v G) (t : TT) (a : List AB) (s : Sd) (l : Int) : HT G a t.yt (L7 bs m t v a s l).1 := by
 simp only [L7]
 split
 ·split
  ·rename_i h; exact bi8 bs hG a t _ h
  ·exact aq0 bs m hG t a _ _
 split
 ·exact .le (hm.h _ v a _ _ G hG) (hm.h t _ a _ _ _ (hG.snoc _))
 split
 ·exact .ap (f := a) (.la (hm.h t _ a _ _ _ (hG.snoc _))) (hm.h _ v a _ _ G hG) (sub_self a)
 split
 ·exact bq2 bs m hG t a _ _
 split
 ·split
  ·rename_i h; exact cb1 bs m hG t a _ _ h
  ·exact aq0 bs m hG t a _ _
 split
 ·exact br6 bs m hG t a _ _
 ·exact aq0 bs m hG t a _ _
instance term_to : ∀ n : Nat, To (t5 bs n)
 | 0 => ⟨fun t v a s l G hG => by simp only [t5]; exact bh5 bs hG a t s⟩
 | n + 1 => ⟨fun t v a s l G hG => by
  have ih := term_to n
  simp only [t5]
  split
  ·exact bh5 bs hG a t s
  ·exact bM0 bs (t5 bs n) hG t a s _⟩
theorem bv0 (size : Nat) (t : TT) (a : List AB) (s : Sd) : HT [] a t.yt (Z1 bs size t a s).1 := (term_to bs size).h t [] a s size [] .nil
end
section
variable (bs : List Int)
def R4 (r : List Int) : Prop := r = b7 21 ∨ r = b7 22 ∨ r = b7 23 ∨ r = b7 24
theorem bg1 (s : Sd) : R4 (p5 bs 21 4 s).1 := by
 have := aI4 bs (a := 21) (b := 21 + 4 - 1) s (by decide)
 simp only [p5, R4]
 generalize (y5 bs 21 (21 + 4 - 1) s).1 = z at this
 rcases (show z = 21 ∨ z = 22 ∨ z = 23 ∨ z = 24 by omega) with rfl | rfl | rfl | rfl <;> simp
theorem cf0 {G : List YT} {e : List AB} {T : YT} {t : Tm} (h : HT G e T t) : dfT R4 t := by
 induction h with
 | va => simp [vaM, dfT, dfK, dfC]
 | nu => simp [nuM, dfT, dfK, dfC]
 | la _ ih => simp [laM, dfT, dfK, dfC, ih]
 | ap _ _ _ ih1 ih2 => simp [apM, dfT, dfK, dfC, ih1, ih2]
 | le _ _ ih1 ih2 => simp [leM, dfT, dfK, dfC, ih1, ih2]
 | de h =>
  unfold bt3 at h
  refine ⟨fun _ => ?_, trivial, trivial⟩
  split at h
  ·exact .inl (by assumption)
  split at h
  ·exact .inr (.inl (by assumption))
  split at h
  ·exact .inr (.inr (.inl (by assumption)))
  split at h
  ·exact .inr (.inr (.inr (by assumption)))
  ·cases h
 | boo => simp [coM, dfT, dfK, dfC]
 | nil => simp [coM, dfT, dfK, dfC]
 | cons _ _ ih1 ih2 => simp [coM, dfT, dfK, dfC, ih1, ih2]
 | none => simp [coM, dfT, dfK, dfC]
 | some _ ih => simp [coM, dfT, dfK, dfC, ih]
 | pair _ _ ih1 ih2 => simp [coM, dfT, dfK, dfC, ih1, ih2]
 | pr _ _ ih1 ih2 => simp [prM, dfT, dfK, dfC, ih1, ih2]
 | ma D _ _ _ _ _ ih1 ih2 =>
  rename_i cs _ _ _ _
  refine ⟨by simp, ⟨ih1, trivial⟩, ?_⟩
  have : ∀ l : List Cs, (∀ c, c ∈ l → dfT R4 (csT c)) → dfC R4 l := by
   intro l
   induction l with
   | nil => intro _; trivial
   | cons c l ih => intro h; exact ⟨by have := h c (by simp); cases c; exact this, ih fun x hx => h x (by simp [hx])⟩
  exact this _ ih2
 | doo _ _ _ _ ih => simp [doT, dfT, dfK, dfC, ih]
 | ha _ _ _ _ _ ih1 ih2 ih3 => exact ⟨by simp, ⟨ih1, ih2, aJ4 ih3⟩, trivial⟩
class Dfk (m : Sk) : Prop where
 h : ∀ d s l, dfT R4 (m.f d s l).1
section
variable (k : Sk) [hk : Dfk k]
theorem aY8 (d : Int) (s : Sd) (l : Int) : ∀ i : Nat, ∀ x ∈ (scL k d s l i).1, dfT R4 x
 | 0, x, hx => by simp [scL] at hx
 | i + 1, x, hx => by
  simp only [scL, List.mem_append, List.mem_singleton] at hx
  rcases hx with hx | rfl
  ·exact aY8 d s l i x hx
  ·exact hk.h _ _ _
theorem bk5 : ∀ {a b : List Cs}, dfC R4 a → dfC R4 b → dfC R4 (a ++ b)
 | [], _, _, h => h
 | c :: cs, b, h, g => ⟨h.1, bk5 (a := cs) h.2 g⟩
theorem bH6 (d : Int) (s : Sd) (l : Int) : ∀ i : Nat, dfC R4 (caL bs k d s l i).1
 | 0 => trivial
 | i + 1 => by
  simp only [caL]
  exact bk5 (bH6 d s l i) ⟨hk.h _ _ _, trivial⟩
theorem bx8 (x : Int) (d : Int) (s : Sd) (l : Int) : dfT R4 (w5 bs k x d s l).1 := by
 have h := hk.h
 simp only [w5]
 split
 ·simp [vaM, dfT, dfK, dfC]
 split
 ·exact ⟨fun _ => bg1 bs s, trivial, trivial⟩
 split
 ·simp [nuM, dfT, dfK, dfC]
 split
 ·simp [laM, dfT, dfK, dfC, h]
 split
 ·simp [apM, dfT, dfK, dfC, h]
 split
 ·simp [leM, dfT, dfK, dfC, h]
 split
 ·simp [prM, dfT, dfK, dfC, h]
 split
 ·simp [doT, dfT, dfK, dfC, h]
 split
 ·exact ⟨by simp, ⟨h _ _ _, h _ _ _, aJ4 (aY8 k _ _ _ _)⟩, trivial⟩
 split
 ·exact ⟨by simp, ⟨h _ _ _, trivial⟩, bH6 bs k _ _ _ _⟩
 ·exact ⟨by simp, aJ4 (aY8 k _ _ _ _), trivial⟩
end
theorem bo0 (m : Sk) (x : Int) (hx : x < 4) (d : Int) (s : Sd) (l : Int) : dfT R4 (w5 bs m x d s l).1 := by
 unfold w5
 split
 ·simp [vaM, dfT, dfK, dfC]
 split
 ·exact ⟨fun _ => bg1 bs s, trivial, trivial⟩
 ·(try rw [if_pos hx])
  simp [nuM, dfT, dfK, dfC]
instance scoped_df : ∀ n : Nat, Dfk (j9 bs n)
 | 0 => ⟨fun d s l => by
  simp only [j9]
  split
  ·rename_i hl
   exact bo0 bs aa8 _ (R5 bs hl) d _ _
  ·simp [nuM, dfT, dfK, dfC]⟩
 | n + 1 => ⟨fun d s l => by
  have ih := scoped_df n
  simp only [j9]
  exact bx8 bs (j9 bs n) _ d _ _⟩
theorem bK1 (size : Nat) (s : Sd) : dfT R4 (K3 bs size s).1 := (scoped_df bs size).h 0 s size
theorem bF8 (size : Nat) (s : Sd) : dfT R4 (O9 bs size s).1 := by
 unfold O9
 split
 ·exact bK1 bs size _
 ·exact cf0 (bv0 bs size _ _ _)
theorem bu2 : ∀ x ∈ worldT, dfT R4 x.2 := by
 intro x hx
 simp only [worldT, List.mem_cons, List.not_mem_nil, or_false] at hx
 rcases hx with rfl | rfl | rfl | rfl <;> simp [laM, prM, vaM, nuM, maM, apM, deM, dfT, dfK, dfC, dfS, R4]
theorem bm0 {r : List Int} (h : R4 r) : (B2 r worldT).isSome = true := by
 rcases h with rfl | rfl | rfl | rfl <;> rfl
end
section
variable {G : List (Nat × TypeId × Pu)} {lo : Nat}
theorem bO0 {vf : PV} {f : FuncId} {first captured : List PV} {HR : List (Nat × Ob)} (hvf : fnV vf = some (f, first, captured)) (hst : Str vf vf) (hnt : j1 vf = false) (hent : j8 Tryz.prog f = true) (hna : (first ++ captured).any j1 = false)
  (hfree : ∀ l ob, get HR l = some ob → B1 ob = true) {ps : List Pu} (hlen : ps.length < 4611686018427387904) {H H' : List (Nat × Ob)} {r : Option Nat} (hd0 : A8 HR H' = true) (hk : ∀ l ob, get H l = some ob → ∃ ob', get H' l = some ob') (hR : ∀ l ob, get HR l = some ob → get H l = none)
  (h : AnyC Tryz.prog G f first captured HR ps H r H') : HCall Tryz.prog G 142 [.pu (.sl lo 116 ps), vf] HR H (iv .i64 (S6 r)) H' [] := by
 refine HCall.of_tri tbl (n := 19) (L := e9 H' ++ u4 H') Tryz.func142 rfl rfl hfree (fun l ob hl => m6 hd0 hl) (fun l hl => by simp [PV.labs] at hl) (fun l ob hl => L8 hl) hk ?_
 rintro ⟨w0, n', M, G', L, R, ρ0, D0, ro⟩ hn hG hL hR' hro
 simp only at hn hG hL hR' hro
 subst hn hG hL hR' hro
 have hset : ∀ (i : Nat) (H1 : List (Nat × Ob)) (r1 : Option Nat), AnyC Tryz.prog G' f first captured HR (ps.drop i) H1 r1 H' → True := fun _ _ _ _ => trivial
 let σ := {s : Nat × List (Nat × Ob) × Option Nat // AnyC Tryz.prog G' f first captured HR (ps.drop s.1) s.2.1 s.2.2 H' ∧ s.1 ≤ ps.length ∧ S6 r = (match s.2.2 with | some j => ((s.1 + j : Nat) : Int) | none => -1) ∧ (∀ l ob, get s.2.1 l = some ob → l ∉ e9 HR)}
 refine Y48 ?_;refine Y38 ?_;refine Tri.block (Tri.loop (σ := σ) (fun s => ⟨[(0, .pu (.sl lo 116 ps)), (1, vf), (7, iv .i64 ps.length), (8, iv .i64 s.1.1)], HR ++ s.1.2.1⟩) (fun s => ps.length - s.1.1) ⟨(0, H, r), by simpa using h, Nat.zero_le _, by cases r <;> simp [S6], fun l ob hl hm => ?_⟩ ?_ (fun s => ?_))
 ·obtain ⟨ob', ho⟩ := k8 (a := HR) hm
  rw [hR l ob' ho] at hl
  cases hl
 ·exact aq2 (.cons rfl rfl (.cons rfl rfl (.cons rfl rfl (.cons rfl rfl .nil))))
 obtain ⟨⟨i, H1, r1⟩, hA, hi0, hr1, hdisj⟩ := s
 simp only at hA hi0 hr1 hdisj ⊢
 refine Y4 ?_;refine A7 ?_;refine Tri.seq (Tri.cond rfl (fun hb => Tri.skip ?_) (fun hb => Tri.exit ?_))
 ·have hi : i < ps.length := by simpa using hb
  obtain ⟨p, hp⟩ : ∃ p, ps[i]? = some p := ⟨ps[i], by simp [hi]⟩
  have hdr : ps.drop i = p :: ps.drop (i + 1) := by
   rw [List.drop_eq_getElem_cons hi]
   simp only [List.getElem?_eq_getElem hi, Option.some.injEq] at hp
   rw [hp]
  rw [hdr] at hA
  have hHR : ∀ l ob, get HR l = some ob → ∃ ob1, get (HR ++ H1) l = some ob1 ∧ ObImp Tryz.prog ob1 ob := fun l ob hl => ⟨ob, by rw [c8, hl]; rfl, ObImp.refl _⟩
  have hH1 : ∀ l ob, get H1 l = some ob → l ∉ e9 HR ∧ ∃ ob1, get (HR ++ H1) l = some ob1 ∧ ObImp Tryz.prog ob1 ob := fun l ob hl => by
   refine ⟨hdisj l ob hl, ob, ?_, ObImp.refl _⟩
   rw [c8]
   cases hg : get HR l with
   | some o => exact absurd (m4 hg) (hdisj l ob hl)
   | none => simpa using hl
  have hnt2 : (first ++ [PV.pu p] ++ captured).any j1 = false := by
   simp only [List.any_append, Bool.or_eq_false_iff] at hna ⊢
   exact ⟨⟨hna.1, by simp [j1]⟩, hna.2⟩
  refine Tri.seq (Tri.block ?_);refine Y1 ?_;refine Y12 ?_
  cases hA with
  | hit hc hd =>
   refine yR ?_;refine b5 (I9 SS (h := Ev.mk rfl hst)) ?_;refine Y19 ?_;refine Xq hp ?_;refine yL ?_;refine A0 (vf := vf) (first := first) (captured := captured) (vs := [.pu p]) (HR := HR) (H := H1) (news := []) rfl hst hvf hent (.cons (.mk rfl .pu) .nil) rfl (VImps.refl _) hnt2 hHR hH1 hc rfl ?_;refine Y0 ?_;refine Tri.condT rfl ?_;refine Y1 ?_;refine Y12 ?_;refine Tri.ret ⟨.inr rfl, _, Ghost.refl _, A9 rfl b6 (d4 ?_), fun l ob hl => ⟨ob, ?_, ObImp.refl _⟩⟩
   ·rw [hr1]
    simp
   ·rw [c8, hl]; rfl
  | next hc hd t =>
   rename_i H2 r2
   refine yR ?_;refine b5 (I9 SS (h := Ev.mk rfl hst)) ?_;refine Y19 ?_;refine Xq hp ?_;refine yL ?_;refine A0 (vf := vf) (first := first) (captured := captured) (vs := [.pu p]) (HR := HR) (H := H1) (news := []) rfl hst hvf hent (.cons (.mk rfl .pu) .nil) rfl (VImps.refl _) hnt2 hHR hH1 hc rfl ?_;refine Y0 ?_;refine Tri.condF rfl ?_;refine Y52 ?_
   refine ⟨⟨(i + 1, H2, r2), t, hi, ?_, fun l ob hl hm => ?_⟩, by simp; omega, aq3 hd (.cons rfl rfl (.cons rfl rfl (.cons rfl rfl (.cons rfl ?_ .nil))))⟩
   ·rw [hr1]
    cases r2 with
    | none => rfl
    | some j => exact congrArg (fun n : Nat => (n : Int)) (show i + (j + 1) = i + 1 + j by omega)
   ·obtain ⟨ob', ho⟩ := k8 (a := HR) hm
    rw [m6 hd hl] at ho
    cases ho
   ·rw [b4 (by omega) (by omega)]
    rfl
 ·have hi : i = ps.length := by
   have : ps.length ≤ i := by simpa using hb
   omega
  subst hi
  rw [List.drop_length] at hA
  cases hA
  refine Y20 ?_;refine Tri.ret ⟨.inr rfl, _, Ghost.refl _, A9 rfl b6 (d4 (by rw [hr1])), fun l ob hl => ⟨ob, ?_, ObImp.refl _⟩⟩;rw [c8]
  cases hg : get HR l with
  | some o => exact absurd (m4 hg) (hdisj l ob hl)
  | none => simpa using hl
theorem bQ9 {vf : PV} {f : FuncId} {first captured : List PV} {HR : List (Nat × Ob)} (hvf : fnV vf = some (f, first, captured)) (hst : Str vf vf) (hnt : j1 vf = false) (hent : j8 Tryz.prog f = true) (hna : (first ++ captured).any j1 = false)
  (hfree : ∀ l ob, get HR l = some ob → B1 ob = true) {ps : List Pu} (hlen : ps.length < 4611686018427387904) {H H' : List (Nat × Ob)} {r : Option Nat} (hd0 : A8 HR H' = true) (hd1 : A8 HR H = true) (hk : ∀ l ob, get H l = some ob → ∃ ob', get H' l = some ob')
  (h : AnyC Tryz.prog G f first captured HR ps H r H') : HCall Tryz.prog G 79 [.pu (.sl lo 116 ps), vf] HR H (bv r.isSome) H' [] := by
 refine HCall.of_tri tbl (n := 9) (L := e9 H' ++ u4 H') Tryz.func79 rfl rfl hfree (fun l ob hl => m6 hd0 hl) (fun l hl => by simp [PV.labs] at hl) (fun l ob hl => L8 hl) hk ?_
 rintro ⟨w0, n', M, G', L, R, ρ0, D0, ro⟩ hn hG hL hR' hro
 simp only at hn hG hL hR' hro
 subst hn hG hL hR' hro
 have hHR : ∀ l ob, get HR l = some ob → ∃ ob1, get (HR ++ H) l = some ob1 ∧ ObImp Tryz.prog ob1 ob := fun l ob hl => ⟨ob, by rw [c8, hl]; rfl, ObImp.refl _⟩
 have hH1 : ∀ l ob, get H l = some ob → l ∉ e9 HR ∧ ∃ ob1, get (HR ++ H) l = some ob1 ∧ ObImp Tryz.prog ob1 ob := fun l ob hl => by
  have hz := m6 hd1 hl
  refine ⟨fun hm => ?_, ob, ?_, ObImp.refl _⟩
  ·obtain ⟨ob', ho⟩ := k8 (a := HR) hm
   rw [hz] at ho; cases ho
  ·rw [c8, hz]; simpa using hl
 refine Y48 ?_;refine b5 (I9 SS (h := Ev.mk rfl hst)) ?_;refine A0 (vf := .pu (.leaf (.func (.func 142) #[] #[]))) (first := []) (captured := []) (vs := [.pu (.sl lo 116 ps), vf]) (HR := HR) (H := H) (news := []) rfl .pu rfl (by kernel_rfl) (.cons (.mk rfl .pu) (.cons (.mk rfl hst) .nil)) (by rw [List.any_cons, List.any_cons, hnt]; rfl) (VImps.refl _) (by rw [List.nil_append, List.append_nil, List.any_cons, List.any_cons, hnt]; rfl) hHR hH1 (bO0 hvf hst hnt hent hna hfree hlen hd0 hk (fun l ob hl => I7 hd1 hl) h) rfl ?_;refine yI ?_;refine Y12 ?_;refine Tri.ret ⟨.inr rfl, _, Ghost.refl _, A9 rfl b6 (l7 ?_), fun l ob hl => ⟨ob, by rw [c8, hl]; rfl, ObImp.refl _⟩⟩
 cases r with
 | none => simp [S6]
 | some j => simp [S6]
theorem bQ8 (vf : PV) {f : FuncId} {first captured : List PV} {HR : List (Nat × Ob)} {ps : List Pu} (hlen : ps.length < 4611686018427387904) {H H' : List (Nat × Ob)} {r : Option Nat} (h : AnyC Tryz.prog G f first captured HR ps H r H')
  (hvf : fnV vf = some (f, first, captured) := by rfl) (hst : Str vf vf := by repeat constructor) (hnt : j1 vf = false := by rfl) (hent : j8 Tryz.prog f = true := by kernel_rfl) (hna : (first ++ captured).any j1 = false := by rfl)
  (hfree : HR.all (fun q => B1 q.2) = true := by rfl) (hd0 : A8 HR H' = true := by rfl) (hd1 : A8 HR H = true := by rfl) (hk : ((e9 H).all fun l => (e9 H').contains l) = true := by rfl) :
  HCall Tryz.prog G 79 [.pu (.sl lo 116 ps), vf] HR H (bv r.isSome) H' [] :=
 bQ9 hvf hst hnt hent hna (fun l ob hl => List.all_eq_true.1 hfree _ (D1 hl)) hlen hd0 hd1 (fun l ob hl => k8 (by simpa [e9] using List.all_eq_true.1 hk l (m4 hl))) h
end
section
section
variable (bs : List Int)
def V0 (l : List Nat) : List Pu := l.map fun (n : Nat) => .leaf (.int .i64 (n : Int))
theorem bM2 {l : List Nat} {i x : Nat} (h : l[i]? = some x) : (V0 l)[i]? = some (.leaf (.int .i64 (x : Int))) := by simp [V0, h]
def U9 (m : Nat) (s : Sd) (i : Nat) : List Nat := (H3 bs i s).1 ++ List.replicate (m - i) 0
theorem aP0 {m : Nat} (s : Sd) {i : Nat} (h : i ≤ m) : (U9 bs m s i).length = m := by simp [U9, ai0]; omega
theorem bp3 {m : Nat} (s : Sd) {i k v : Nat} (hi : i < m) (hk : (a4 bs ((i : Int) + 1) (H3 bs i s).2).1.toNat = k) (hki : k ≤ i) (hv : (U9 bs m s i)[k]? = some v) : ((U9 bs m s i).set i v).set k i = U9 bs m s (i + 1) := by
 obtain ⟨R, hR⟩ : ∃ R, m - i = R + 1 := ⟨m - i - 1, by omega⟩
 have hR1 : m - (i + 1) = R := by omega
 have hl := ai0 bs i s
 have e1 : U9 bs m s (i + 1) = (((H3 bs i s).1 ++ [((H3 bs i s).1 ++ [0]).getD k 0]).set k i) ++ List.replicate R 0 := by simp only [U9, H3, hk, hR1]
 have e0 : U9 bs m s i = (H3 bs i s).1 ++ 0 :: List.replicate R 0 := by simp only [U9, hR, List.replicate_succ]
 rw [e1]
 rw [e0] at hv ⊢
 generalize (H3 bs i s).1 = l at hl hv ⊢
 have hv2 : (l ++ [0]).getD k 0 = v := by
  rw [List.getD_eq_getElem?_getD]
  rcases Nat.lt_or_ge k l.length with h | h
  ·rw [List.getElem?_append_left h] at hv ⊢
   rw [hv]; rfl
  ·obtain rfl : k = l.length := by omega
   rw [List.getElem?_append_right (Nat.le_refl _)] at hv ⊢
   simp at hv ⊢
   exact hv
 rw [hv2, List.set_append_right _ _ (by omega), hl, Nat.sub_self, List.set_cons_zero]
 have e2 : l ++ v :: List.replicate R 0 = (l ++ [v]) ++ List.replicate R 0 := by simp
 rw [e2, List.set_append_left _ _ (by simp; omega)]
theorem ba3 (s : Sd) {l k : Int} [h : Bd s l k] : ∀ i : Nat, Bd (H3 bs i s).2 l (k + i)
 | 0 => by simpa [H3] using h
 | i + 1 => by
  have := ba3 s (l := l) (k := k) i
  have h2 : Bd (a4 bs ((i : Int) + 1) (H3 bs i s).2).2 l (k + i + 1) := inferInstance
  have e : k + ((i + 1 : Nat) : Int) = k + i + 1 := by omega
  rw [e];exact h2
theorem bL0 {F : List Nat} {z v : Nat} (h : F[z]? = some v) : (Ob.row 3 ((V0 F).map PV.pu)).get [z] = some (iv .i64 (v : Int)) := by
 simp [Ob.get, V0, h, aR5, iv]
theorem bh3 (F : List Nat) (i v : Nat) : ((V0 F).map PV.pu).set i (iv .i64 (v : Int)) = (V0 (F.set i v)).map PV.pu := by
 simp [V0, List.map_set, iv]
theorem cd3 : ∀ {l : List Nat}, l.length = 4 → ∃ a b c d, l = [a, b, c, d]
 | [a, b, c, d], _ => ⟨a, b, c, d, rfl⟩
theorem bL8 [hz : Bz bs] (s : Sd) {l k : Int} [h : Bd s l k] (hk : k ≤ 999990) : HCall Tryz.prog gL 75 [.ptr 950 [] 171, iv .i64 4] [] (stO bs s) (.pu (.sl 0 3 (V0 (H3 bs 4 s).1))) (stO bs (H3 bs 4 s).2) [] := by
 refine HCall.of_triD tbl 32 [950] Tryz.func75 rfl rfl rfl fun w0 M ρ0 D0 => ?_
 refine Y48 ?_;refine aZ0 SS (n := 4) 60 (by decide) (by decide) ?_;refine yA ?_;refine a6 [60] ?_;refine Y1 ?_;refine Y38 ?_;refine Tri.block (Tri.loopW (σ := {i : Nat // i ≤ 4}) (fun i => ⟨[(0, .ptr 950 [] 171), (5, .arr 60 3 0 4), (11, iv .i64 4), (12, iv .i64 i.1)], [(60, .row 3 ((V0 (U9 bs 4 s i.1)).map .pu)), (950, .var 171 (.pu (stP bs (H3 bs i.1 s).2)))]⟩) (fun i => 4 - i.1) ⟨0, by decide⟩ ?_ ?_ (fun i => ?_))
 ·exact zW
 ·exact zW
 refine Y30 ?_;refine Cq ?_ ?_
 ·intro h0
  obtain ⟨i, hi0⟩ := i
  have hi4 : i < 4 := by have := of_decide_eq_true h0; dsimp only at this; omega
  have hn : i + 1 ≤ 4 := by omega
  have hb : Bd (H3 bs i s).2 l (k + i) := ba3 bs s i
  dsimp only
  refine Y57 ?_;refine Y12 ?_;refine Y32 ?_;refine yI ?_;refine a9 (n4 bs ((i : Int) + 1) (H3 bs i s).2 (k := k + i) (by omega)) ?_;refine Y12 ?_
  have hlb := p8 bs (H3 bs i s).2 (n := (i : Int) + 1) (by omega)
  obtain ⟨z, hz0⟩ : ∃ z : Nat, (a4 bs ((i : Int) + 1) (H3 bs i s).2).1 = z := ⟨_, (Int.toNat_of_nonneg hlb.1).symm⟩
  have hzi : z ≤ i := by omega
  obtain ⟨v, hv⟩ : ∃ v, (U9 bs 4 s i)[z]? = some v := ⟨_, List.getElem?_eq_getElem (by rw [aP0 bs s hi0]; omega)⟩
  have hst := bp3 bs s hi4 (by rw [hz0]; rfl) hzi hv
  have hl4 := aP0 bs s (m := 4) hi0
  rw [hz0];refine Y1 ?_;refine Y19 ?_;refine Y19 ?_;refine yM ?_;refine b5 (aK9 SS) ?_;refine b5 (aW9 SS (hget := bL0 hv)) ?_;refine yM ?_;refine b5 (aK9 SS) ?_;refine ah5 SS (i := i) (vs := (V0 (U9 bs 4 s i)).map .pu) (u0 := iv .i64 ((U9 bs 4 s i)[i]'(by omega) : Nat)) (by simp [V0, iv, show i < (U9 bs 4 s i).length by omega]) ?_;rw [bh3];refine b5 (aK9 SS) ?_;refine ah5 SS (i := z) (vs := (V0 ((U9 bs 4 s i).set i v)).map .pu) (u0 := iv .i64 (((U9 bs 4 s i).set i v)[z]'(by simp; omega) : Nat)) (by simp only [V0, iv, List.map_map, List.getElem?_map, List.getElem?_eq_getElem (show z < ((U9 bs 4 s i).set i v).length by simp; omega), Option.map_some]; rfl) ?_;rw [bh3, hst];refine A7 ?_;refine Y25 ?_
  refine ⟨⟨i + 1, hn⟩, by show 4 - (i + 1) < 4 - i; omega, k7 ?_ ?_⟩
  ·exact zE
  ·exact zH
 ·intro h0
  obtain ⟨i, hi0⟩ := i
  obtain rfl : i = 4 := by have := of_decide_eq_false h0; dsimp only at this; omega
  have e4 : U9 bs 4 s 4 = (H3 bs 4 s).1 := by simp [U9]
  dsimp only
  rw [e4]
  obtain ⟨z1, z2, z3, z4, ez⟩ := cd3 (ai0 bs 4 s)
  rw [ez];refine Tri.exit ?_;refine Tri.freeze (lo := 0) (l := 60) (E := 3) (ps := V0 [z1, z2, z3, z4]) (env' := [(5, .pu (.sl 0 3 (V0 [z1, z2, z3, z4])))]) (heap' := [(950, .var 171 (.pu (stP bs (H3 bs 4 s).2)))]) rfl (.inl rfl) ?_;refine Y1 ?_;refine Y2 ?_;refine Rqz ?_;exact VImp.refl _
def M7 : Nat → Sd → List Int × Sd
 | 0, s => ([], s)
 | i + 1, s => ((M7 i s).1 ++ [(a4 bs 256 (M7 i s).2).1], (a4 bs 256 (M7 i s).2).2)
theorem ac2 (s : Sd) : ∀ i : Nat, (M7 bs i s).1.length = i
 | 0 => rfl
 | i + 1 => by simp [M7, ac2 s i]
theorem aX9 (s : Sd) {l k : Int} [h : Bd s l k] : ∀ i : Nat, Bd (M7 bs i s).2 l (k + i)
 | 0 => by simpa [M7] using h
 | i + 1 => by
  have := aX9 s (l := l) (k := k) i
  have h2 : Bd (a4 bs 256 (M7 bs i s).2).2 l (k + i + 1) := inferInstance
  have e : k + ((i + 1 : Nat) : Int) = k + i + 1 := by omega
  rw [e];exact h2
def af3 (s : Sd) (i : Nat) : List Int := (M7 bs i s).1 ++ List.replicate (32 - i) 0
theorem bm7 (s : Sd) {i : Nat} (hi : i < 32) : (af3 bs s i).set i (a4 bs 256 (M7 bs i s).2).1 = af3 bs s (i + 1) := by
 obtain ⟨R, hR⟩ : ∃ R, 32 - i = R + 1 := ⟨32 - i - 1, by omega⟩
 have hR1 : 32 - (i + 1) = R := by omega
 have hl := ac2 bs s i
 simp only [af3, M7, hR, hR1, List.replicate_succ]
 rw [List.set_append_right _ _ (by omega), hl, Nat.sub_self, List.set_cons_zero]
 simp
theorem bw6 (s : Sd) {i : Nat} (hi : i < 32) : (Ob.var 28 (.pu (f5 (af3 bs s i)))).get [i] = some (iv .u8 ((af3 bs s i)[i]'(by simp [af3, ac2]; omega))) := by
 have h : i < (af3 bs s i).length := by simp [af3, ac2]; omega
 simp [Ob.get, f5, D9, h, iv]
theorem bw5 (s : Sd) {i : Nat} (hi : i < 32) : (Ob.var 28 (.pu (f5 (af3 bs s i)))).set [i] (iv .u8 (a4 bs 256 (M7 bs i s).2).1) = some (.var 28 (.pu (f5 (af3 bs s (i + 1))))) := by
 have h : i < (af3 bs s i).length := by simp [af3, ac2]; omega
 rw [← bm7 bs s hi]
 simp [Ob.set, f5, aA1, h, iv, List.map_set]
theorem cc3 [hz : Bz bs] (s : Sd) {l k : Int} [h : Bd s l k] (hk : k ≤ 999900) : HCall Tryz.prog gL 77 [.ptr 950 [] 171] [] (stO bs s) (.pu (f5 (M7 bs 32 s).1)) (stO bs (M7 bs 32 s).2) [] := by
 refine HCall.of_triD tbl 15 [950] Tryz.func77 rfl rfl rfl fun w0 M ρ0 D0 => ?_
 refine yR ?_;refine a8 SS 2 ?_;refine a6 [2] ?_;refine yR ?_;refine a8 SS 3 ?_;refine a6 [3] ?_;refine yR ?_;refine Y31 ?_;refine Tri.block (Tri.loopW (σ := {i : Nat // i ≤ 32}) (fun i => ⟨[(0, .ptr 950 [] 171), (2, .ptr 2 [] 28), (3, .ptr 3 [] 28), (5, iv .i64 i.1)], [(2, .var 28 (.pu (f5 Z32))), (3, .var 28 (.pu (f5 (af3 bs s i.1)))), (950, .var 171 (.pu (stP bs (M7 bs i.1 s).2)))]⟩) (fun i => 32 - i.1) ⟨0, by decide⟩ ?_ ?_ (fun i => ?_))
 ·exact zW
 ·exact zW
 refine Y30 ?_;refine Cq ?_ ?_
 ·intro h0
  obtain ⟨i, hi0⟩ := i
  have hi4 : i < 32 := by have := of_decide_eq_true h0; dsimp only at this; omega
  have hn : i + 1 ≤ 32 := by omega
  have hb : Bd (M7 bs i s).2 l (k + i) := aX9 bs s i
  have hlb := p8 bs (M7 bs i s).2 (n := 256) (by omega)
  have e0 : IntKind.u8.wrap (a4 bs 256 (M7 bs i s).2).1 = (a4 bs 256 (M7 bs i s).2).1 := by
   generalize (a4 bs 256 (M7 bs i s).2).1 = x at hlb
   simp only [IntKind.wrap, IntKind.bits, IntKind.signed]
   simp
   omega
  dsimp only
  refine Y57 ?_;refine Y12 ?_;refine Y32 ?_;refine a9 (n4 bs 256 (M7 bs i s).2 (k := k + i) (by omega)) ?_;refine b5 (Z0 SS (hu := bk7 _)) ?_;rw [e0];refine b5 (ae4 SS) ?_;refine ap8 SS (hget := bw6 bs s hi4) (hset := bw5 bs s hi4) ?_;refine A7 ?_;refine Y25 ?_
  refine ⟨⟨i + 1, hn⟩, by show 32 - (i + 1) < 32 - i; omega, k7 ?_ ?_⟩
  ·exact zE
  ·exact zH
 ·intro h0
  obtain ⟨i, hi0⟩ := i
  obtain rfl : i = 32 := by have := of_decide_eq_false h0; dsimp only at this; omega
  have e4 : af3 bs s 32 = (M7 bs 32 s).1 := by simp [af3]
  dsimp only
  rw [e4];refine Tri.exit ?_;refine Y61 ?_;refine Rcz ?_;exact VImp.refl _
end
theorem ce2 (x y : KT) (hx : x.1.length = 32) (hy : y.1.length = 32) : HCall Tryz.prog gL 80 [.pu (ktP y), .ptr 13 [] 116] [(13, .var 116 (.pu (ktP x)))] [] (bv (y.1 == x.1)) [] [] := by
 refine HCall.of_triD tbl 9 [] Tryz.func80 rfl rfl rfl fun w0 M ρ0 D0 => ?_
 refine Y39 ?_;refine yB ?_;refine a6 [2] ?_;refine Y14 ?_;refine Y3 ?_;refine b5 (z7 SS (h := x5 (r := y.1) (s := x.1) (hy.trans hx.symm))) ?_;refine Y2 ?_;refine Rqz ?_;exact ToPu.imp (by repeat constructor)
theorem ce4 (x : KT) (hx : x.1.length = 32) (vs : List KT) (hvs : ∀ y ∈ vs, y.1.length = 32) (hn : vs.length < 1000) :
  HCall Tryz.prog gL 79 [.pu (.sl 0 116 (vs.map ktP)), .fn (.func 80) [] [.ptr 13 [] 116]] [(13, .var 116 (.pu (ktP x)))] [] (bv (vs.any fun y => y.1 == x.1)) [] [] := by
 obtain ⟨r, hr, h⟩ : ∃ r : Option Nat, r.isSome = (vs.any fun y => y.1 == x.1) ∧ AnyC Tryz.prog gL 80 [] [.ptr 13 [] 116] [(13, .var 116 (.pu (ktP x)))] (vs.map ktP) [] r [] := by
  clear hn
  induction vs with
  | nil => exact ⟨none, rfl, .nil⟩
  | cons y vs ih =>
   obtain ⟨r, h1, h2⟩ := ih fun z hz => hvs z (by simp [hz])
   have hc := ce2 x y hx (hvs y (by simp))
   cases hb : (y.1 == x.1) with
   | true => rw [hb] at hc; exact ⟨some 0, by simp [hb], .hit hc rfl⟩
   | false => rw [hb] at hc; exact ⟨r.map (· + 1), by simp [hb, ← h1], .next hc rfl h2⟩
 rw [← hr];exact bQ8 (lo := 0) _ (by simp; omega) h
end
section
section
variable (bs : List Int)
theorem as3 : ∀ (a b : List Tm), u9 (a ++ b) = max (u9 a) (u9 b)
 | [], b => by simp [u9]
 | x :: a, b => by simp only [List.cons_append, u9, as3 a b]; omega
theorem ay8 : ∀ (a b : List Cs), w4 (a ++ b) = max (w4 a) (w4 b)
 | [], b => by simp [w4]
 | x :: a, b => by simp only [List.cons_append, w4, ay8 a b]; omega
class Dpk (m : Sk) (N : outParam Nat) : Prop where
 h : ∀ d s l, F3 (m.f d s l).1 ≤ N
section
variable (k : Sk) {N : Nat} [hk : Dpk k N]
theorem aY7 (d : Int) (s : Sd) (l : Int) : ∀ i : Nat, u9 (scL k d s l i).1 ≤ N
 | 0 => by simp [scL, u9]
 | i + 1 => by
  have h1 := aY7 d s l i
  have h2 := hk.h d (scL k d s l i).2.1 (scL k d s l i).2.2
  simp only [scL, as3, u9]
  omega
theorem bH5 (hN : 7 ≤ N) (d : Int) (s : Sd) (l : Int) : ∀ i : Nat, w4 (caL bs k d s l i).1 ≤ N
 | 0 => by simp [caL, w4]
 | i + 1 => by
  have h1 := bH5 hN d s l i
  have h2 := hk.h (d + j2 (m7 bs 2 (caL bs k d s l i).2.1).1) (m7 bs 2 (caL bs k d s l i).2.1).2 (caL bs k d s l i).2.2
  have h3 := Z9 bs 2 7 (by omega) (caL bs k d s l i).2.1
  have h4 := aO7 (m7 bs 2 (caL bs k d s l i).2.1).1
  simp only [caL, ay8, w4, aU5]
  omega
theorem bx7 (hN : 7 ≤ N) (x : Int) (d : Int) (s : Sd) (l : Int) : F3 (w5 bs k x d s l).1 ≤ N + 1 := by
 have h := hk.h
 simp only [w5]
 split
 ·simp only [vaM, F3, u9, w4]; omega
 split
 ·simp only [deM, F3, u9, w4]; omega
 split
 ·simp only [nuM, F3, u9, w4]; omega
 split
 ·have h1 := h (d + 1) s l
  simp only [laM, F3, u9, w4]; omega
 split
 ·have h1 := h (d + 0) s l
  have h2 := h (d + 0) (k.f (d + 0) s l).2.1 (k.f (d + 0) s l).2.2
  simp only [apM, F3, u9, w4]; omega
 split
 ·have h1 := h (d + 0) s l
  have h2 := h (d + 1) (k.f (d + 0) s l).2.1 (k.f (d + 0) s l).2.2
  simp only [leM, F3, u9, w4]; omega
 split
 ·have h1 := h (d + 0) (y5 bs 1 5 s).2 l
  have h2 := h (d + 0) (k.f (d + 0) (y5 bs 1 5 s).2 l).2.1 (k.f (d + 0) (y5 bs 1 5 s).2 l).2.2
  simp only [prM, F3, u9, w4]; omega
 split
 ·have h1 := h (d + 0) (a4 bs 2 (p5 bs 11 3 s).2).2 l
  simp only [doT, F3, u9, w4]; omega
 split
 ·have h1 := h (d + 0) (p5 bs 11 3 s).2 l
  generalize k.f (d + 0) (p5 bs 11 3 s).2 l = e at h1
  have h2 := h (d + 1) e.2.1 e.2.2
  generalize k.f (d + 1) e.2.1 e.2.2 = g at h2
  have h3 := aY7 k (d + 2) (a4 bs 3 g.2.1).2 g.2.2 (a4 bs 3 g.2.1).1.toNat
  simp only [haM, F3, u9, w4]
  omega
 split
 ·have h1 := h (d + 0) s l
  generalize k.f (d + 0) s l = e at h1
  have h3 := bH5 bs k hN d (a4 bs 3 e.2.1).2 e.2.2 (a4 bs 3 e.2.1).1.toNat
  simp only [maM, F3, u9]
  omega
 ·have h3 := aY7 k (d + 0) (a4 bs 3 (a4 bs 3 (p5 bs 1 4 s).2).2).2 l (a4 bs 3 (a4 bs 3 (p5 bs 1 4 s).2).2).1.toNat
  simp only [coM, F3, w4]
  omega
end
theorem bn9 (m : Sk) (x : Int) (hx : x < 4) (d : Int) (s : Sd) (l : Int) : F3 (w5 bs m x d s l).1 ≤ 1 := by
 unfold w5
 split
 ·simp only [vaM, F3, u9, w4]; omega
 split
 ·simp only [deM, F3, u9, w4]; omega
 ·(try rw [if_pos hx])
  simp only [nuM, F3, u9, w4]; omega
instance scoped_dp : ∀ n : Nat, Dpk (j9 bs n) (n + 8)
 | 0 => ⟨fun d s l => by
  simp only [j9]
  split
  ·rename_i hl
   have := bn9 bs aa8 _ (R5 bs (s := s) hl) d (G0 bs (l - 1) s).2 (l - 1)
   omega
  ·simp only [nuM, F3, u9, w4]; omega⟩
 | n + 1 => ⟨fun d s l => by
  have ih := scoped_dp n
  simp only [j9]
  have := bx7 bs (j9 bs n) (by omega) (G0 bs (l - 1) s).1 d (G0 bs (l - 1) s).2 (l - 1)
  omega⟩
theorem aM7 (s : Sd) : p9 (K3 bs 6 s).1 0 0 = 0 := by
 have hz := bf5 bs s
 have hd : F3 (K3 bs 6 s).1 ≤ 14 := (scoped_dp bs 6).h 0 s ((6 : Nat) : Int)
 have hr := bf4 bs 6 s
 have hl := (aw3 300 60 (K3 bs 6 s).1 1 0).1 ⟨by omega, by omega⟩
 unfold p9
 rw [hl]
 simp only [Bool.false_eq_true, if_false]
 exact aI2 hr.gd hr.lc
theorem bW9 (s : Sd) (h0 : 0 ≤ s.a) : 0 ≤ (K3 bs 6 s).2.a ∧ (K3 bs 6 s).2.a ≤ s.a + 13000 := by
 have hb : Bd s ((6 : Nat) : Int) (s.a + 12006 - 1152921504606846976) := ⟨by omega⟩
 have h := (inferInstance : Bd ((j9 bs 6).f 0 s ((6 : Nat) : Int)).2.1 ((j9 bs 6).f 0 s ((6 : Nat) : Int)).2.2 (s.a + 12006 - 1152921504606846976 + 100)).h
 simp only [K3]
 omega
end
theorem bl9 : ∀ x ∈ worldT, rgT x.2 := by
 intro x hx
 simp only [worldT, List.mem_cons, List.not_mem_nil, or_false] at hx
 rcases hx with rfl | rfl | rfl | rfl <;> simp [laM, prM, vaM, nuM, maM, apM, deM, rgT, rgK, rgC, rgS]
structure Goodw (vs : List KT) : Prop where
 sub : ∀ x ∈ worldT, x ∈ vs
 nd : (vs.map (·.1)).Nodup
 ok : ∀ x ∈ vs, x.1.length = 32 ∧ a5 x.2 ≤ 300 ∧ p9 x.2 0 0 = 0
 len : vs.length ≤ 40
theorem ag6 : ∀ x ∈ worldT, x.1.length = 32 ∧ a5 x.2 ≤ 300 ∧ p9 x.2 0 0 = 0 := by
 intro x hx
 simp only [worldT, List.mem_cons, List.not_mem_nil, or_false] at hx
 rcases hx with rfl | rfl | rfl | rfl <;> exact ⟨by decide, by decide, by decide⟩
theorem world_good : Goodw worldT := ⟨fun _ h => h, by decide, ag6, by decide⟩
def ae6 (O : List Nat) : List KT := O.map fun k => worldT.getD k (Z32, p7)
theorem bp2 {O : List Nat} (h : O.Perm (List.range 4)) : Goodw (ae6 O) := by
 have hp : (ae6 O).Perm worldT := (h.map fun k => worldT.getD k (Z32, p7)).trans (.of_eq rfl)
 exact ⟨fun x hx => hp.mem_iff.2 hx, (hp.map (·.1)).nodup_iff.2 world_good.nd, fun x hx => ag6 x (hp.mem_iff.1 hx), by rw [hp.length_eq]; decide⟩
theorem bD3 {vs : List KT} {x : KT} (i : Nat) (h : Goodw vs) (hx : (vs.any fun y => y.1 == x.1) = false) (h1 : x.1.length = 32) (h2 : a5 x.2 ≤ 300) (h3 : p9 x.2 0 0 = 0) (hl : vs.length < 40) : Goodw (vs.take i ++ [x] ++ vs.drop i) := by
 have hp : (vs.take i ++ [x] ++ vs.drop i).Perm (x :: vs) := by
  have e := List.take_append_drop i vs
  rw [List.append_assoc];refine (List.perm_append_comm).trans ?_;rw [List.singleton_append, List.cons_append];refine .cons _ ?_;refine List.perm_append_comm.trans ?_;rw [e]
 refine ⟨fun y hy => hp.mem_iff.2 (List.mem_cons_of_mem _ (h.sub y hy)), (hp.map (·.1)).nodup_iff.2 ?_, fun y hy => ?_, by rw [hp.length_eq, List.length_cons]; omega⟩
 ·rw [List.map_cons, List.nodup_cons]
  refine ⟨fun hm => ?_, h.nd⟩
  obtain ⟨y, hy, e⟩ := List.mem_map.1 hm
  have := List.any_eq_false.1 hx y hy
  simp [e] at this
 ·rcases List.mem_cons.1 (hp.mem_iff.1 hy) with rfl | hy
  ·exact ⟨h1, h2, h3⟩
  ·exact h.ok y hy
theorem ax6 {α : Type} {f : α → Int} : ∀ {l : List α}, (∀ x ∈ l, f x = 0) → m9 f l = 0
 | [], _ => rfl
 | a :: l, h => by simp only [m9, if_pos (h a (by simp))]; exact ax6 fun x hx => h x (by simp [hx])
theorem Z2 {vs : List KT} (h : Goodw vs) (t : Tm) : i9 vs t = p9 t 0 0 := by
 have h1 := h.len
 have h2 : m9 (fun x : KT => p9 x.2 0 0) vs = 0 := ax6 fun x hx => (h.ok x hx).2.2
 have h3 : bs7 vs = false := by simp [bs7, h.nd]
 unfold i9
 rw [if_neg (by simp; omega), h2, h3]
 simp [orE]
theorem bH7 {vs : List KT} (h : Goodw vs) : ∀ r, R4 r → B2 r worldT = B2 r vs := fun r hr => bR7 h.nd world_good.nd h.sub (bm0 hr)
theorem by6 {vs : List KT} (h : Goodw vs) {t : Tm} (hr : Rt t) (hd : dfT R4 t) (fuel : Int) : E7 vs t fuel = E7 worldT t fuel := by
 have e1 := Z2 h t
 have e2 := Z2 world_good t
 unfold E7
 rw [e1, e2]
 by_cases hc : p9 t 0 0 = 0
 ·have hz := (D8 hc).2
  have hb : ∀ x ∈ worldT, shT x.2 := fun x hx => (D8 (ag6 x hx).2.2).1
  have hw : ∀ x ∈ worldT, Rt x.2 := fun x hx => bH2 (ag6 x hx).2.2 (bl9 x hx)
  rw [bo7 (bH7 h) bu2 hb fuel.toNat 0 t hd hr (by omega) hw]
 ·rw [if_neg hc, if_neg hc]
theorem bd6 (e : EndM) : aK0 e e = true := by simp [aK0, U5]
theorem bo1 (ts : List KT) (t : Tm) (fuel : Int) : (ae5 ts t t fuel).2 = (E7 ts t fuel).2 ∧ ((E7 ts t fuel).2 = 0 → (ae5 ts t t fuel).1 = true) := by
 unfold ae5
 by_cases hc : i9 ts t = 0
 ·rw [if_pos hc, if_pos hc]
  by_cases hr : (E7 ts t fuel).2 = 0
  ·rw [if_pos hr, if_pos hr]
   exact ⟨hr.symm, fun _ => bd6 _⟩
  ·rw [if_neg hr]
   exact ⟨rfl, fun h => absurd h hr⟩
 ·rw [if_neg hc]
  have e : E7 ts t fuel = (endZ, i9 ts t) := by unfold E7; rw [if_neg hc]
  rw [e];exact ⟨rfl, fun h => absurd h hc⟩
end
theorem ba2 (l : List Nat) (o : Nat) : (ae6 l).map ktP ++ [ktP (worldT.getD o (Z32, p7))] = (ae6 (l ++ [o])).map ktP := by simp [ae6]
theorem bN6 (vs : List KT) (i : Nat) (x : KT) : (vs.map ktP).take i ++ [ktP x] ++ (vs.map ktP).drop i = (vs.take i ++ [x] ++ vs.drop i).map ktP := by simp [List.map_take, List.map_drop]
set_option maxHeartbeats 8000000 in
set_option maxRecDepth 8000 in
theorem aF8 (cs ds : List Int) (hcs : cs.length < 2^63) (hds : ds.length < 2^63) (a : Int) (ha : 0 ≤ a ∧ a ≤ 255) :
  FCall Tryz.prog gL 11 [.pu (.sl 0 5 (byP cs)), .pu (.sl 0 5 (byP ds)), iv .u8 a] (bv true) := by
 have hbz : Bz (cs.take 300) := ⟨by simp; omega⟩
 have hbz2 : Bz (ds.take 300) := ⟨by simp; omega⟩
 have hrt := bF7 (cs.take 300) 20 ⟨0, 88172645463325252⟩
 have hsz := bO8 (cs.take 300) 20 (by omega) ⟨0, 88172645463325252⟩
 have hdf := bF8 (cs.take 300) 20 ⟨0, 88172645463325252⟩
 have hdc := bO9 (cs.take 300) 20 (by omega) ⟨0, 88172645463325252⟩ (by decide)
 generalize (O9 (cs.take 300) 20 ⟨0, 88172645463325252⟩).2 = s9 at hdc
 generalize (O9 (cs.take 300) 20 ⟨0, 88172645463325252⟩).1 = t at hrt hsz hdf hdc
 obtain ⟨bs, hbs⟩ : ∃ bs, ds.take 300 = bs := ⟨_, rfl⟩
 have hofc := cc9 ds (by omega)
 rw [hbs] at hbz2 hofc
 have hb0 : Bd ⟨0, 88172645463325252⟩ 0 (-1152921504606846976) := ⟨by decide⟩
 have hor := bL8 bs ⟨0, 88172645463325252⟩ (k := -1152921504606846976) (by decide)
 have hob := (ba3 bs ⟨0, 88172645463325252⟩ (l := 0) (k := -1152921504606846976) 4).h
 have hperm := aO9 bs 4 ⟨0, 88172645463325252⟩
 generalize (H3 bs 4 ⟨0, 88172645463325252⟩).1 = O at hor hperm
 generalize (H3 bs 4 ⟨0, 88172645463325252⟩).2 = s1 at hor hob
 have hs1 : 0 ≤ s1.a ∧ s1.a ≤ 4 := by omega
 have hO4 : O.length = 4 := by simpa using hperm.length_eq
 have hbd1 : Bd s1 0 (s1.a - 1152921504606846976) := ⟨by omega⟩
 have hlm := n4 (G := gL) bs 4 s1 (k := s1.a - 1152921504606846976) (by omega)
 have hlb := p8 bs s1 (n := 4) (by omega)
 have hla := (inferInstance : Bd (a4 bs 4 s1).2 0 (s1.a - 1152921504606846976 + 1)).h
 generalize (a4 bs 4 s1).1 = m at hlm hlb
 generalize (a4 bs 4 s1).2 = s2 at hlm hla
 have hs2 : 0 ≤ s2.a ∧ s2.a ≤ 10 := by omega
 obtain ⟨mm, rfl⟩ := Int.eq_ofNat_of_zero_le hlb.1
 have hmm : mm ≤ 3 := by omega
 refine FCall.of_triP tbl 150 Tryz.func11 rfl rfl rfl (g := 0) rfl (by decide +kernel) fun w0 M ρ0 D0 hw0 => ?_
 refine Y20 ?_;refine yR ?_;refine Dq bS7 ?_;refine a8 SS 7 ?_;refine yS ?_;refine a6 [7] ?_;refine Y1 ?_;refine a9 (cc9 cs (by omega)) ?_;refine a9 (hdc) ?_;refine a8 SS 8 ?_;refine yS ?_;refine a6 [950, 8] ?_;refine Tri.ghost (Ghost.wk (env' := [(1, .pu (.sl 0 5 (byP ds))), (2, iv .u8 a), (7, .ptr 7 [] 26), (8, .ptr 8 [] 32)]) (heap' := [(7, .var 26 (.pu (wdP ar6 ar5 worldT))), (8, .var 32 (.pu (tmc 0 t)))]) (by exact zW) (by exact zW)) ?_;refine Y1 ?_;refine a9 (hofc) ?_;refine yA ?_;refine a6 [950] ?_;refine yR ?_;refine a8 SS 10 ?_;refine a6 [10] ?_;refine Y1 ?_;refine Y64 ?_;refine a9 (hor) ?_;refine Y38 ?_
 refine Tri.block (Tri.loopW (σ := Nat) (fun i => ⟨[(2, iv .u8 a), (7, .ptr 7 [] 26), (8, .ptr 8 [] 32), (9, .ptr 950 [] 171), (10, .ptr 10 [] 26), (30, .pu (.sl 0 3 (V0 O))), (31, iv .i64 (V0 O).length), (32, iv .i64 i)], [(7, .var 26 (.pu (wdP ar6 ar5 worldT))), (8, .var 32 (.pu (tmc 0 t))), (10, .var 26 (.agg 26 [.nilc, .nilc, .fl 116 ((ae6 (O.take i)).map ktP)])), (950, .var 171 (.pu (stP bs s1)))]⟩) (fun i => 4 - i) 0 ?_ ?_ (fun i => ?_))
 ·repeat (first | exact .nil | refine .cons rfl (by first | exact .refl | (focus ((repeat constructor); done)) | (exact .var (.agg (.cons .refl (.cons .refl (.cons .nilcFl .nil)))))) ?_)
 ·repeat (first | exact .nil | refine .cons rfl (by first | exact .refl | (focus ((repeat constructor); done)) | (exact .var (.agg (.cons .refl (.cons .refl (.cons .nilcFl .nil)))))) ?_)
 refine Y30 ?_;refine Cq ?_ ?_
 ·intro h0
  have hi : i < O.length := by have := of_decide_eq_true h0; simp [V0] at this; omega
  have hi4 : i < 4 := by omega
  have ho4 : O[i] < 4 := List.mem_range.1 (hperm.mem_iff.1 (List.getElem_mem hi))
  have htk : O.take (i + 1) = O.take i ++ [O[i]] := List.take_succ_eq_append_getElem hi
  have hget := bM2 (List.getElem?_eq_getElem hi)
  have hsn := ba2 (O.take i) O[i]
  rw [← htk] at hsn
  generalize O[i] = o at ho4 hget hsn
  have hx : (worldT.map ktP)[o]? = some (ktP (worldT.getD o (Z32, p7))) := by
   obtain rfl | rfl | rfl | rfl : o = 0 ∨ o = 1 ∨ o = 2 ∨ o = 3 := by omega
   all_goals rfl
  have hpl : ((ae6 (O.take i)).map ktP).length ≤ 4 := by simp [ae6]; omega
  refine Y76 ?_;refine Xq hget ?_;refine yL ?_;refine Y12 ?_;refine Y22 ?_;refine Y8 ?_;refine yM ?_;refine Xq hx ?_;refine Y66 ?_;refine bK8 10 [2] (ys := [ktP (worldT.getD o (Z32, p7))]) ?_ ?_
  ·simp only [List.length_cons, List.length_nil]; omega
  refine yF ?_;refine aB5 SS ?_;refine x8 ?_;refine Y25 ?_
  refine ⟨i + 1, by omega, k7 ?_ ?_⟩
  ·repeat (first | exact SubE.nil | refine SubE.cons rfl (by first | rfl | (rw [b4 (by omega) (by omega)]; rfl) | ((rw [hsn]; rfl))) ?_)
  ·repeat (first | exact SubH.nil | refine SubH.cons rfl (by first | rfl | (rw [b4 (by omega) (by omega)]; rfl) | ((rw [hsn]; rfl))) ?_)
 ·intro h0
  have hi : O.length ≤ i := by have := of_decide_eq_false h0; simp [V0] at this; omega
  rw [List.take_of_length_le hi];refine Tri.exit ?_;refine Y1 ?_;refine a9 (hlm) ?_;refine Y31 ?_;refine Tri.block (Tri.loopW (σ := {q : Nat × List KT × Sd // q.1 ≤ mm ∧ Goodw q.2.1 ∧ q.2.1.length ≤ 4 + q.1 ∧ 0 ≤ q.2.2.a ∧ q.2.2.a ≤ 10 + 20000 * (q.1 : Int)}) (fun i => ⟨[(2, iv .u8 a), (7, .ptr 7 [] 26), (8, .ptr 8 [] 32), (9, .ptr 950 [] 171), (10, .ptr 10 [] 26), (48, iv .i64 (mm : Nat)), (49, iv .i64 (i.1.1 : Nat))], [(7, .var 26 (.pu (wdP ar6 ar5 worldT))), (8, .var 32 (.pu (tmc 0 t))), (10, .var 26 (.agg 26 [.nilc, .nilc, .fl 116 (i.1.2.1.map ktP)])), (950, .var 171 (.pu (stP bs i.1.2.2)))]⟩) (fun i => mm - i.1.1) ⟨(0, ae6 O, s2), by omega, bp2 hperm, by simp [ae6, hO4], hs2.1, by simpa using hs2.2⟩ ?_ ?_ (fun i => ?_))
  ·exact zW
  ·exact zW
  obtain ⟨⟨j, vs, s⟩, hj, hgw, hvl, hsa0, hsa⟩ := i
  dsimp only at hj hgw hvl hsa0 hsa ⊢
  refine Y30 ?_;refine Cq ?_ ?_
  ·intro h1
   have hjm : j < mm := by have := of_decide_eq_true h1; omega
   have hbd2 : Bd s 0 (s.a - 1152921504606846976) := ⟨by omega⟩
   have hsum := cc3 bs s (k := s.a - 1152921504606846976) (by omega)
   have hsl := ac2 bs s 32
   have hsb := (aX9 bs s (l := 0) (k := s.a - 1152921504606846976) 32).h
   generalize (M7 bs 32 s).1 = r at hsum hsl
   generalize (M7 bs 32 s).2 = s3 at hsum hsb
   have hs3 : 0 ≤ s3.a ∧ s3.a ≤ s.a + 32 := by push_cast at hsb; omega
   have hsc := bx3 bs 6 (by omega) s3 (by omega)
   have hck := aM7 bs s3
   have hbz6 := bf5 bs s3
   have hs4 := bW9 bs s3 hs3.1
   generalize (K3 bs 6 s3).1 = bo at hsc hck hbz6
   generalize (K3 bs 6 s3).2 = s4 at hsc hs4
   have hbd4 : Bd s4 0 (s4.a - 1152921504606846976) := ⟨by omega⟩
   have hhas := ce4 (r, bo) hsl vs (fun y hy => (hgw.ok y hy).1) (by omega)
   have hml : (vs.map ktP).length = vs.length := by simp
   have hle := n4 (G := gL) bs (((vs.map ktP).length : Int) + 1) s4 (k := s4.a - 1152921504606846976) (by omega)
   have hlb4 := p8 bs s4 (n := ((vs.map ktP).length : Int) + 1) (by omega)
   have hla4 := (inferInstance : Bd (a4 bs (((vs.map ktP).length : Int) + 1) s4).2 0 (s4.a - 1152921504606846976 + 1)).h
   generalize (a4 bs (((vs.map ktP).length : Int) + 1) s4).1 = z at hle hlb4
   generalize (a4 bs (((vs.map ktP).length : Int) + 1) s4).2 = s5 at hle hla4
   obtain ⟨ii, rfl⟩ := Int.eq_ofNat_of_zero_le hlb4.1
   have hs5 : 0 ≤ s5.a ∧ s5.a ≤ s4.a + 1 := by omega
   refine Y57 ?_;refine a9 (hsum) ?_;refine yM ?_;refine a9 (hsc) ?_;refine yP ?_;refine a8 SS 13 ?_;refine yS ?_;refine a6 [13] ?_;refine Y22 ?_;refine b5 (H8 SS) ?_;refine bX3 10 [2] (HR := [(13, .var 116 (.pu (ktP (r, bo))))]) hhas ?_ (hHR := hr1 rfl (by decide));refine yQ ?_;refine Y0 ?_;refine Cq ?_ ?_
   ·intro h2
    have hno : (vs.any fun y => y.1 == r) = false := by simpa using h2
    obtain ⟨vs', hvs'⟩ : ∃ vs', vs.take ii ++ [(r, bo)] ++ vs.drop ii = vs' := ⟨_, rfl⟩
    obtain ⟨s', hs'⟩ : ∃ s', s5 = s' := ⟨_, rfl⟩
    have hins := bN6 vs ii (r, bo)
    rw [hvs'] at hins
    have hg' : Goodw vs' := hvs' ▸ bD3 ii hgw hno hsl (show a5 bo ≤ 300 by omega) hck (by omega)
    have hnx : j + 1 ≤ mm ∧ Goodw vs' ∧ vs'.length ≤ 4 + (j + 1) ∧ 0 ≤ s'.a ∧ s'.a ≤ 10 + 20000 * ((j + 1 : Nat) : Int) := ⟨by omega, hg', by rw [← hvs']; simp; omega, by rw [← hs']; omega, by rw [← hs']; push_cast; omega⟩
    refine Y22 ?_;refine yM ?_;refine Y8 ?_;refine b5 (bV7 SS) ?_;refine yI ?_;refine a9 (hle) ?_;refine yL ?_;refine aN1 SS (lo := w0.heap.size) ?_;refine cc4 10 [2] ce3 (i := ii) (ps := vs.map ktP) (q := ktP (r, bo)) (by omega) (by omega) hw0 ?_;rw [hins];refine yF ?_;refine aB5 SS ?_;refine x8 ?_;rw [hs'];refine Y25 ?_
    refine ⟨⟨(j + 1, vs', s'), hnx⟩, by show mm - (j + 1) < mm - j; omega, k7 ?_ ?_⟩
    ·exact zE
    ·exact zH
   ·intro h2
    obtain ⟨vs', hvs'⟩ : ∃ vs', vs = vs' := ⟨_, rfl⟩
    obtain ⟨s', hs'⟩ : ∃ s', s4 = s' := ⟨_, rfl⟩
    have hnx : j + 1 ≤ mm ∧ Goodw vs' ∧ vs'.length ≤ 4 + (j + 1) ∧ 0 ≤ s'.a ∧ s'.a ≤ 10 + 20000 * ((j + 1 : Nat) : Int) := ⟨by omega, hvs' ▸ hgw, by rw [← hvs']; omega, by rw [← hs']; omega, by rw [← hs']; push_cast; omega⟩
    rw [hvs', hs'];refine Y52 ?_
    refine ⟨⟨(j + 1, vs', s'), hnx⟩, by show mm - (j + 1) < mm - j; omega, k7 ?_ ?_⟩
    ·exact zE
    ·exact zH
  ·intro h1
   have hru := by6 hgw hrt hdf a
   have hr1 := aN2 (G := gL) ar6 ar5 worldT t a wsz (by omega)
   have hts : ∀ x ∈ vs, a5 x.2 < 2^40 := fun x hx => Nat.lt_of_le_of_lt (hgw.ok x hx).2.1 (by decide)
   have hr2 := aN2 (G := gL) awA awB vs t a hts (by omega)
   have hsm := bX0 (G := gL) awA awB vs t t a hts (by omega) (by omega)
   have hsf := bo1 vs t a
   have hok := (aZ3 (ts := worldT) (t := t) a).2
   rw [hru] at hr2 hsf
   generalize E7 worldT t a = R1 at hr1 hr2 hsf hok
   generalize ae5 vs t t a = S1 at hsm hsf
   obtain ⟨⟨k1, p1, t1, f1, n1⟩, e1⟩ := R1
   obtain ⟨is, g⟩ := S1
   dsimp only at hsf hok
   obtain ⟨rfl, hsf⟩ := hsf
   have hst := bK5 (G := gL) _ t1 t1 (Nat.le_refl _) (by omega) (by omega)
   refine Tri.exit ?_;refine Tri.unfl 10 [2] (ob' := .var 26 (.agg 26 [.nilc, .nilc, .pu (.sl 0 116 (vs.map ktP))])) ?_ (T := 24) (off := 2) (by kernel_rfl);refine Y43 ?_;refine yM ?_;refine b5 (Z0 SS (hu := aJ5 ha)) ?_;refine Dq hr1 ?_;refine Y58 ?_;refine a8 SS 14 ?_;refine Y73 ?_;refine a6 [14] ?_;refine Y43 ?_;refine yM ?_;refine b5 (Z0 SS (hu := aJ5 ha)) ?_;refine Dq hr2 ?_;refine Y58 ?_;refine a8 SS 16 ?_;refine Y73 ?_;refine a6 [16] ?_;refine Y32 ?_;refine Y53 ?_;refine Cq ?_ ?_
   ·intro h3;exfalso
    simp at h3
   ·intro h3
    refine Tri.skip ?_;refine Y43 ?_;refine yL ?_;refine yM ?_;refine b5 (Z0 SS (hu := aJ5 ha)) ?_;refine Dq hsm ?_;refine Y58 ?_;refine yA ?_;refine Y12 ?_;refine Y15 ?_;refine Y42 ?_;refine xI ?_;refine xM ?_;refine Y7 ?_;refine Y7 ?_;refine xI ?_;refine xN ?_;refine xM ?_;refine Y7 ?_;refine Y7 ?_;refine q8 zG (z7 SS (h := x5 (r := f1) (s := f1) rfl)) ?_;refine xN ?_;refine xM ?_;refine Y7 ?_;refine Y7 ?_;refine xI ?_;refine xN ?_;refine xM ?_;refine Y7 ?_;refine Y7 ?_;refine q8 zG (o6 (fun _ => hst)) ?_;refine xN ?_;refine xM ?_;refine xM ?_;refine xN ?_;refine yO ?_;refine Y28 ?_;refine xM ?_;refine Y21 ?_;refine yM ?_
    refine q8 zG (o6 (fun _ => bH9)) ?_;refine yN ?_;refine Y2 ?_;refine Rq ?_;exact l7 (by by_cases he : g = 0 <;> simp [he, U5, hsf])
end Go.Proofs.YtkcgkignhpepkaaGreatDoor
