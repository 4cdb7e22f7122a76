/- Part 6 of the proof: lemmas on walks and the walks of the functions, in their order. -/
import Derived.Test.YtkcgkignhpepkaaGreatDoorZ5
import Derived.OpenShut
import Derived.Deep.DeepHandedRow
import Derived.Shelf.Spec.SlicesInsertGrow
import Derived.WalkKit
set_option linter.unusedSimpArgs false
set_option linter.unusedVariables false
set_option linter.unusedSectionVars false
set_option linter.constructorNameAsVariable false
/- The maker's questions and matches. -/
namespace Go.Proofs.YtkcgkignhpepkaaGreatDoor
open Go Hs
section
class Dn (x l : Int) : Prop where
 h : x ≤ l
instance dn_refl (l : Int) : Dn l l := ⟨Int.le_refl _⟩
instance (m : Mk) [hm : Ml m] (t : TT) (v : List Ty) (a : List AB) (s : Sd) (x l : Int) [h : Dn x l] : Dn (m.f t v a s x).2.2 l := ⟨Int.le_trans (hm.h t v a s x) h.h⟩
section
variable (bs : List Int) (m : Mk) [hm : Ml m]
instance (t : TT) (v : List Ty) (a : List AB) (s : Sd) (x l : Int) [h : Dn x l] : Dn (m0 bs m t v a s x).2.2 l := by
 cases t with
 | ba y =>
  cases y <;> simp only [m0] <;> repeat' split
  all_goals infer_instance
 | li y => simp only [m0]; split <;> infer_instance
 | op y => simp only [m0]; split <;> infer_instance
 | pa y z => simp only [m0]; infer_instance
 | fn y => simp only [m0]; infer_instance
instance (t : TT) (v : List Ty) (a : List AB) (s : Sd) (x l : Int) [h : Dn x l] : Dn (z9 bs m t v a s x).2.2 l := by
 simp only [z9]
 repeat' split
 all_goals infer_instance
instance (t : TT) (v : List Ty) (a : List AB) (s : Sd) (x l : Int) [h : Dn x l] : Dn (C4 bs m t v a s x).2.2 l := by
 simp only [C4]
 repeat' split
 all_goals infer_instance
instance (t : TT) (v : List Ty) (a : List AB) (b : BT) (s : Sd) (x l : Int) [h : Dn x l] : Dn (D2 bs m t v a b s x).2.2 l := by
 simp only [D2]
 repeat' split
 all_goals infer_instance
instance clauses_dn (t : TT) (v : List Ty) (a : List AB) (b : BT) (s : Sd) (x l : Int) [h : Dn x l] : ∀ i, Dn (f9 bs m t v a b s x i).2.2 l
 | 0 => h
 | i + 1 => by
  have := clauses_dn t v a b s x l i
  simp only [f9]
  infer_instance
instance (t : TT) (v : List Ty) (a : List AB) (s : Sd) (x l : Int) [h : Dn x l] : Dn (w7 bs m t v a s x).2.2 l := by
 simp only [w7]
 split
 ·infer_instance
 ·exact clauses_dn bs m t v a _ _ _ l _
instance (t : TT) (v : List Ty) (a : List AB) (s : Sd) (x l : Int) [h : Dn x l] : Dn (L7 bs m t v a s x).2.2 l := by
 simp only [L7]
 repeat' split
 all_goals infer_instance
end
instance term_ml (bs : List Int) : ∀ n : Nat, Ml (t5 bs n)
 | 0 => ⟨fun t v a s l => by simp only [t5]; omega⟩
 | n + 1 => ⟨fun t v a s l => by
  have ih := term_ml bs n
  simp only [t5]
  split
  ·show l - 1 ≤ l
   omega
  ·have := (inferInstance : Dn (L7 bs (t5 bs n) t v a s (l - 1)).2.2 (l - 1)).h
   show (L7 bs (t5 bs n) t v a s (l - 1)).2.2 ≤ l
   omega⟩
theorem Lt.dn {x l : Int} {n : Nat} (h : Lt l n) (d : Dn x l) : Lt x n := ⟨Int.le_trans d.h h.h⟩
variable (bs : List Int) [hz : Bz bs] (m : Mk) [hm : Mc m] [hml : Ml m] (n : Nat)
theorem bI0 {t : TT} {k' n' : Int} {r' : List Int} {ks' : List Ty} (hty : t.ty = .mk k' n' r' ks') (c : AB) :
  (((G9 (.mk k' n' r' ks') n6 == (c.ref == b7 12)) || ((k' != 2) && !(c.ref == b7 12))) || ((c.ref == b7 12) && !(G9 (.mk k' n' r' ks') (.mk 4 0 (b7 1) [])))) = !decide ((t = .ba .n ∧ c ≠ .fl) ∨ (t = .ba .b ∧ c = .fl)) := by
 rcases t with (_ | _) | (_ | _) | (_ | _) | ⟨_ | _, _ | _⟩ | (_ | _) <;> simp only [TT.ty, BT.ty, n6, Ty.mk.injEq] at hty <;> obtain ⟨rfl, rfl, rfl, rfl⟩ := hty <;> cases c <;> rfl
theorem bl4 (c : AB) : (c.ref == b7 11) = decide (c = .st) := by cases c <;> rfl
theorem bw3 (a : List AB) {i : Nat} (h : i < a.length) : (w9 a)[i]? = some (f5 (a.getD i .ab).ref) := by
 simp [w9, List.getD_eq_getElem?_getD, h]
set_option maxHeartbeats 1000000 in
theorem cg6 (H : ak1 bs m n) (t : TT) (v : List Ty) (a : List AB) (hv : Vk v n) (ha : a.length + n ≤ 40) (s : Sd) (l : Int) {k : Int} [h : Bd s l k] [hl : Lt l n] (hk : k ≤ -300) :
  HCall Tryz.prog gL 177 [.ptr 951 [] 174, .pu (tyc t.ty), .pu (.sl 0 58 (w6 v)), .pu (.sl 0 28 (w9 a))] [] (mkO bs s l) (.tup [.pu (tmc 0 (z9 bs m t v a s l).1.1), bv (z9 bs m t v a s l).1.2]) (mkO bs (z9 bs m t v a s l).2.1 (z9 bs m t v a s l).2.2) [] := by
 obtain ⟨k', n', r', ks', hty⟩ : ∃ k n r ks, t.ty = .mk k n r ks := by rcases t.ty with ⟨a, b, c, d⟩; exact ⟨a, b, c, d, rfl⟩
 have hsm := N6 t
 rw [hty] at hsm ⊢
 have hal := as4 a
 refine HCall.of_triD tbl 72 [950, 951] Tryz.func177 rfl rfl rfl fun w0 M ρ0 D0 => ?_
 refine yR ?_;refine o9 SS 5 ?_;refine a8 SS 8 ?_;refine yB ?_;refine a6 [5, 8] ?_;refine Y1 ?_;refine yC ?_;refine Y53 ?_;refine Cq ?_ ?_
 ·intro h0
  have g0 : a.length = 0 := by have := eq_of_beq h0; omega
  have e : z9 bs m t v a s l = ((S2, false), s, l) := by unfold z9; rw [if_pos g0]
  rw [e];refine yR ?_;refine yT ?_;refine yS ?_;refine Y62 ?_;exact Tri.ret ⟨.inr rfl, K8 rfl n9 (ToPu.imp (by repeat constructor)) b6 (VImp.refl _), zO⟩
 ·intro h0
  have g0 : ¬ a.length = 0 := by intro e; rw [hal, e] at h0; simp at h0
  have hb := p8 bs s (n := (a.length : Int)) (by omega)
  have hget := bw3 a (i := (a4 bs a.length s).1.toNat) (by omega)
  obtain ⟨c, hc⟩ : ∃ c, c = a.getD (a4 bs a.length s).1.toNat .ab := ⟨_, rfl⟩
  rw [← hc] at hget
  have hcl : c.ref.length = (b7 12).length := by rw [ab9]; rfl
  have hcl1 : c.ref.length = (b7 11).length := by rw [ab9]; rfl
  refine Tri.skip ?_;refine Y32 ?_;refine Y13 ?_;refine yM ?_;refine yC ?_;rw [hal];refine a9 (n4 bs _ s (by omega)) ?_;refine b5 (j6 SS (h0 := hb.1) (hp := hget)) ?_;refine yL ?_;refine a8 SS 10 ?_;refine yS ?_;refine yB ?_;refine a6 [10] ?_;refine Y5 ?_;refine Dq N_c ?_;refine Dq (aG5 _ (.mk k' n' r' ks') n6 (Nat.le_refl _) (by omega) (by decide)) ?_;refine yL ?_;refine yG ?_;refine b5 (z7 SS (h := x5 hcl)) ?_;refine b5 (z7 SS (h := bF5 _ _)) ?_;refine Y11 ?_;refine xI ?_;refine xM ?_;refine xL ?_;refine q8 zG (U0 SS) ?_;refine q8 zG (z7 SS (h := aJ8 hcl)) ?_;refine xN ?_;refine yO ?_;refine Y69 ?_;refine q8 zG (U0 SS) ?_;refine q8 zG (z7 SS (h := x5 hcl)) ?_;refine xM ?_;refine xL ?_
  refine q8 zG (U0 SS) ?_;refine q8 zG (o6 (fun _ => D_c (b7 1) [])) ?_;refine q8 zG (o6 (fun _ => aG5 _ (.mk k' n' r' ks') (.mk 4 0 (b7 1) []) (Nat.le_refl _) (by omega) (by decide))) ?_;refine xQ ?_;refine xN ?_;refine yO ?_;refine x8 ?_
  have hcd := bI0 hty c
  refine tQ ?_;refine Cq ?_ ?_
  ·intro h1
   have g1 : ¬ ((t = .ba .n ∧ c ≠ .fl) ∨ (t = .ba .b ∧ c = .fl)) := by
    intro hx
    have := hcd.symm.trans h1
    rw [decide_eq_true hx] at this
    cases this
   have e : z9 bs m t v a s l = ((S2, false), (a4 bs a.length s).2, l) := by
    unfold z9
    rw [if_neg g0]
    simp only [← hc]
    rw [if_neg g1]
   rw [e];refine yR ?_;refine yT ?_;refine yS ?_;refine Y62 ?_;exact Tri.ret ⟨.inr rfl, K8 rfl n9 (ToPu.imp (by repeat constructor)) b6 (VImp.refl _), zO⟩
  ·intro h1
   have g1 : ((t = .ba .n ∧ c ≠ .fl) ∨ (t = .ba .b ∧ c = .fl)) := Decidable.byContradiction fun hx => by
    have := hcd.symm.trans h1
    rw [decide_eq_false hx] at this
    cases this
   refine Tri.skip ?_;refine Y5 ?_;refine yG ?_;refine b5 (z7 SS (h := x5 hcl1)) ?_;refine Y0 ?_;refine Cq ?_ ?_
   ·intro h2
    have g2 : c = .st := by have := (bl4 c).symm.trans h2; simpa using this
    have e : z9 bs m t v a s l = ((doT c.ref (a4 bs 2 (a4 bs a.length s).2).1 (m.f (.ba .n) v a (a4 bs 2 (a4 bs a.length s).2).2 l).1, true), (m.f (.ba .n) v a (a4 bs 2 (a4 bs a.length s).2).2 l).2) := by
     unfold z9
     rw [if_neg g0]
     simp only [← hc]
     rw [if_pos g1, if_pos g2]
    rw [e]
    have hsp : Bd (a4 bs 2 (a4 bs a.length s).2).2 l (k + 2) := Bd.mono (inferInstance : Bd (a4 bs 2 (a4 bs a.length s).2).2 l (k + 1 + 1)) (by omega)
    refine Y55 ?_;refine a9 (n4 bs 2 (a4 bs a.length s).2 (by omega)) ?_;refine Y12 ?_
    obtain ⟨q, hq⟩ : ∃ q, q = (a4 bs 2 (a4 bs a.length s).2).2 := ⟨_, rfl⟩
    rw [← hq] at hsp ⊢
    refine Y5 ?_;refine Y19 ?_;refine Dq N_c ?_;refine Y19 ?_;refine a9 (H (.ba .n) v a q l (k + 2) hv ha (by omega)) ?_;refine Dq (aW5 c.ref _ _) ?_;refine yS ?_;refine yB ?_;refine Y23 ?_;exact Tri.ret ⟨.inr rfl, K8 rfl n9 (VImp.refl _) b6 (VImp.refl _), zO⟩
   ·intro h2
    have g2 : ¬ c = .st := by have := (bl4 c).symm.trans h2; exact of_decide_eq_false this
    have e : z9 bs m t v a s l = ((doT c.ref 0 (m.f (.ba .n) v a (a4 bs a.length s).2 l).1, true), (m.f (.ba .n) v a (a4 bs a.length s).2 l).2) := by
     unfold z9
     rw [if_neg g0]
     simp only [← hc]
     rw [if_pos g1, if_neg g2]
    rw [e]
    have hsp : Bd (a4 bs a.length s).2 l (k + 2) := Bd.mono (inferInstance : Bd (a4 bs a.length s).2 l (k + 1)) (by omega)
    obtain ⟨q, hq⟩ : ∃ q, q = (a4 bs a.length s).2 := ⟨_, rfl⟩
    rw [← hq] at hsp ⊢
    refine Tri.skip ?_;refine Y5 ?_;refine Y19 ?_;refine Dq N_c ?_;refine Y19 ?_;refine a9 (H (.ba .n) v a q l (k + 2) hv ha (by omega)) ?_;refine Dq (aW5 c.ref _ _) ?_;refine yS ?_;refine yB ?_;refine Y23 ?_;exact Tri.ret ⟨.inr rfl, K8 rfl n9 (VImp.refl _) b6 (VImp.refl _), zO⟩
set_option maxHeartbeats 2000000 in
theorem bM6 (H : ak1 bs m n) (t : TT) (v : List Ty) (a : List AB) (hv : Vk v (n + 1)) (ha : a.length + n ≤ 40) (s : Sd) (l : Int) {k : Int} [h : Bd s l k] [hl : Lt l n] (hk : k ≤ -500) :
  HCall Tryz.prog gL 176 [.ptr 951 [] 174, .pu (tyc t.ty), .pu (.sl 0 58 (w6 v)), .pu (.sl 0 28 (w9 a))] [] (mkO bs s l) (.pu (tmc 0 (C4 bs m t v a s l).1)) (mkO bs (C4 bs m t v a s l).2.1 (C4 bs m t v a s l).2.2) [] := by
 have hvl := hv.len
 have hv0 : Vk v n := hv.less
 have hs1 (x : BT) : y9 x.ty ≤ 3 := az1 x
 have hs2 (x : BT) : y9 (TT.li x).ty ≤ 3 := N6 _
 have hu1 (x : BT) : Vk (v ++ [x.ty]) n := hv.app (by simp) (by simp [hs1])
 have hu2 : Vk (v ++ [n6]) n := hu1 .n
 have hu3 (x : BT) : Vk (v ++ [x.ty, n6]) n := hv.app (by simp) (by simp [hs1]; exact hs1 .n)
 have hu4 (x : BT) : Vk (v ++ [x.ty, (TT.li x).ty]) n := hv.app (by simp) (by simp [hs1, hs2])
 obtain ⟨u, hu⟩ : ∃ u, u = f6 bs s := ⟨_, rfl⟩
 obtain ⟨q, hq⟩ : ∃ q, q = a4 bs 6 (f6 bs s).2 := ⟨_, rfl⟩
 have hbu : Bd u.2 l (k + 1) := hu ▸ inferInstance
 have hbq : Bd q.2 l (k + 2) := hq ▸ Bd.mono (inferInstance : Bd (a4 bs 6 (f6 bs s).2).2 l (k + 1 + 1)) (by omega)
 refine HCall.of_triD tbl 254 [950, 951] Tryz.func176 rfl rfl rfl fun w0 M ρ0 D0 => ?_
 simp only [C4]
 refine yR ?_;refine o9 SS 5 ?_;refine a8 SS 8 ?_;refine a6 [5, 8] ?_;refine Y55 ?_;refine a9 (O3 bs s (by omega)) ?_;refine a8 SS 9 ?_;refine yS ?_;refine a6 [9] ?_;refine Y55 ?_;refine a9 (n4 bs 6 (f6 bs s).2 (by omega)) ?_;refine A7 ?_;rw [← hq, ← hu];refine Y77 ?_;refine Y16 ?_;refine Cq ?_ ?_
 ·intro h0
  rw [if_pos (eq_of_beq h0)];refine Y1 ?_;refine Dq N_c ?_;refine Y19 ?_;refine a9 (H (.ba .n) v a q.2 l _ hv0 ha (by omega)) ?_;refine a8 SS 10 ?_;refine yS ?_;refine a6 [10] ?_;refine Y5 ?_;refine yM ?_;refine Y13 ?_;refine a9 (n4 bs 3 (m.f (.ba .n) v a q.2 l).2.1 (by omega)) ?_;refine Dq (bI6 _) ?_;refine Y36 ?_;refine Y19 ?_;refine a9 (H t v a (a4 bs 3 (m.f (.ba .n) v a q.2 l).2.1).2 _ _ hv0 ha (by omega)) ?_;refine Dq (X6 (pnM _) _) ?_;refine Dq Q7 ?_;refine Y36 ?_;refine yM ?_;refine Dq N_c ?_;refine yZ ?_;refine Dq (F7 v [n6] (by omega) (by simp)) ?_;refine yM ?_
  refine a9 (H t (v ++ [n6]) a (m.f t v a (a4 bs 3 (m.f (.ba .n) v a q.2 l).2.1).2 (m.f (.ba .n) v a q.2 l).2.2).2.1 _ _ hu2 ha (by omega)) ?_;refine Dq (X6 t8 _) ?_;refine yZ ?_;refine Dq (aW3 _ [.mk (pnM _) _, .mk t8 _]) ?_;refine Y29 ?_;refine Rcz ?_;exact VImp.refl _
 ·intro h0
  rw [if_neg (fun e => by rw [e] at h0; simp at h0)];refine Y16 ?_;refine Cq ?_ ?_
  ·intro h1
   rw [if_pos (eq_of_beq h1)];refine Y1 ?_;refine yG ?_;refine Dq (D_c (b7 1) []) ?_;refine Y19 ?_;refine a9 (H (.ba .b) v a q.2 l _ hv0 ha (by omega)) ?_;refine a8 SS 11 ?_;refine yS ?_;refine a6 [11] ?_;refine Y5 ?_;refine yG ?_;refine yM ?_;refine Y13 ?_;refine a9 (n4 bs 2 (m.f (.ba .b) v a q.2 l).2.1 (by omega)) ?_;refine Dq (an0 (b7 1) _ []) ?_;refine Y36 ?_;refine Y19 ?_;refine a9 (H t v a (a4 bs 2 (m.f (.ba .b) v a q.2 l).2.1).2 _ _ hv0 ha (by omega)) ?_;refine Dq (X6 (pcM (b7 1) _ []) _) ?_;refine Dq Q7 ?_;refine Y36 ?_;refine yM ?_;refine yG ?_;refine Dq (D_c (b7 1) []) ?_;refine yZ ?_;refine Dq (F7 v [BT.b.ty] (by omega) (by simp)) ?_
   refine yM ?_;refine a9 (H t (v ++ [BT.b.ty]) a (m.f t v a (a4 bs 2 (m.f (.ba .b) v a q.2 l).2.1).2 (m.f (.ba .b) v a q.2 l).2.2).2.1 _ _ (hu1 .b) ha (by omega)) ?_;refine Dq (X6 t8 _) ?_;refine yZ ?_;refine Dq (aW3 _ [.mk (pcM (b7 1) _ []) _, .mk t8 _]) ?_;refine Y29 ?_;refine Rcz ?_;exact VImp.refl _
  ·intro h1
   rw [if_neg (fun e => by rw [e] at h1; simp at h1)];refine Y16 ?_;refine Cq ?_ ?_
   ·intro h2
    rw [if_pos (eq_of_beq h2)];refine Y1 ?_;refine yG ?_;refine Y66 ?_;refine Dq (D_c (b7 2) [_]) ?_;refine Y19 ?_;refine a9 (H (.li u.1) v a q.2 l _ hv0 ha (by omega)) ?_;refine a8 SS 12 ?_;refine yS ?_;refine a6 [12] ?_;refine Y5 ?_;refine yG ?_;refine Dq (an0 (b7 2) 0 []) ?_;refine Y36 ?_;refine Y19 ?_;refine a9 (H t v a (m.f (.li u.1) v a q.2 l).2.1 _ _ hv0 ha (by omega)) ?_;refine Dq (X6 (pcM (b7 2) 0 []) _) ?_;refine yG ?_;refine Dq Q7 ?_;refine yG ?_;refine Dq (an0 (b7 2) 0 []) ?_;refine yZ ?_;refine Dq (an0 (b7 2) 1 [t8, pcM (b7 2) 0 []]) ?_;refine Y36 ?_;refine Y36 ?_;refine yZ ?_
    refine Dq (F7 v [u.1.ty] (by omega) (by simp)) ?_;refine yM ?_;refine a9 (H t (v ++ [u.1.ty]) a (m.f t v a (m.f (.li u.1) v a q.2 l).2.1 (m.f (.li u.1) v a q.2 l).2.2).2.1 _ _ (hu1 u.1) ha (by omega)) ?_;refine Dq (X6 (pcM (b7 2) 1 [t8, pcM (b7 2) 0 []]) _) ?_;refine yG ?_;refine Dq Q7 ?_;refine Dq Q7 ?_;refine yZ ?_;refine Dq (an0 (b7 2) 1 [t8, t8]) ?_;refine Y36 ?_;refine Y36 ?_;refine yG ?_;refine Y66 ?_;refine Dq (D_c (b7 2) [_]) ?_;refine yZ ?_;refine Dq (F7 v [u.1.ty, (TT.li u.1).ty] (by omega) (by simp)) ?_;refine yM ?_
    refine a9 (H t (v ++ [u.1.ty, (TT.li u.1).ty]) a (m.f t (v ++ [u.1.ty]) a (m.f t v a (m.f (.li u.1) v a q.2 l).2.1 (m.f (.li u.1) v a q.2 l).2.2).2.1 (m.f t v a (m.f (.li u.1) v a q.2 l).2.1 (m.f (.li u.1) v a q.2 l).2.2).2.2).2.1 _ _ (hu4 u.1) ha (by omega)) ?_;refine Dq (X6 (pcM (b7 2) 1 [t8, t8]) _) ?_;refine yZ ?_;refine Dq (aW3 _ [.mk (pcM (b7 2) 0 []) _, .mk (pcM (b7 2) 1 [t8, pcM (b7 2) 0 []]) _, .mk (pcM (b7 2) 1 [t8, t8]) _]) ?_;refine Y29 ?_;refine Rcz ?_;exact VImp.refl _
   ·intro h2
    rw [if_neg (fun e => by rw [e] at h2; simp at h2)];refine Y16 ?_;refine Cq ?_ ?_
    ·intro h3
     rw [if_pos (eq_of_beq h3)];refine Y1 ?_;refine yG ?_;refine Y66 ?_;refine Dq (D_c (b7 4) [_]) ?_;refine Y19 ?_;refine a9 (H (.op u.1) v a q.2 l _ hv0 ha (by omega)) ?_;refine a8 SS 13 ?_;refine yS ?_;refine a6 [13] ?_;refine Y5 ?_;refine yG ?_;refine Dq Q7 ?_;refine yZ ?_;refine Dq (an0 (b7 4) 1 [t8]) ?_;refine Y36 ?_;refine Y36 ?_;refine yZ ?_;refine Dq (F7 v [u.1.ty] (by omega) (by simp)) ?_;refine yM ?_;refine a9 (H t (v ++ [u.1.ty]) a (m.f (.op u.1) v a q.2 l).2.1 _ _ (hu1 u.1) ha (by omega)) ?_;refine Dq (X6 (pcM (b7 4) 1 [t8]) _) ?_;refine yG ?_;refine Dq (an0 (b7 4) 0 []) ?_;refine Y36 ?_;refine Y19 ?_
     refine a9 (H t v a (m.f t (v ++ [u.1.ty]) a (m.f (.op u.1) v a q.2 l).2.1 (m.f (.op u.1) v a q.2 l).2.2).2.1 _ _ hv0 ha (by omega)) ?_;refine Dq (X6 (pcM (b7 4) 0 []) _) ?_;refine yZ ?_;refine Dq (aW3 _ [.mk (pcM (b7 4) 1 [t8]) _, .mk (pcM (b7 4) 0 []) _]) ?_;refine Y29 ?_;refine Rcz ?_;exact VImp.refl _
    ·intro h3
     rw [if_neg (fun e => by rw [e] at h3; simp at h3)];refine Y16 ?_;refine Cq ?_ ?_
     ·intro h4
      rw [if_pos (eq_of_beq h4)];refine Y1 ?_;refine yG ?_;refine yL ?_;refine Dq N_c ?_;refine yZ ?_;refine Dq (D_c (b7 3) [_, _]) ?_;refine Y19 ?_;refine a9 (H (.pa u.1 .n) v a q.2 l _ hv0 ha (by omega)) ?_;refine a8 SS 14 ?_;refine yS ?_;refine G6 [14] ?_;refine Y5 ?_;refine yG ?_;refine Dq Q7 ?_;refine yM ?_;refine Y13 ?_;refine a9 (n4 bs 2 (m.f (.pa u.1 .n) v a q.2 l).2.1 (by omega)) ?_;refine Dq (bI6 _) ?_;refine yZ ?_;refine Dq (an0 (b7 3) 0 [t8, pnM _]) ?_;refine Y36 ?_;refine Y36 ?_;refine yZ ?_;refine Dq (F7 v [u.1.ty] (by omega) (by simp)) ?_;refine yM ?_
      refine a9 (H t (v ++ [u.1.ty]) a (a4 bs 2 (m.f (.pa u.1 .n) v a q.2 l).2.1).2 _ _ (hu1 u.1) ha (by omega)) ?_;refine Dq (X6 (pcM (b7 3) 0 [t8, pnM _]) _) ?_;refine yG ?_;refine Dq Q7 ?_;refine Dq Q7 ?_;refine yZ ?_;refine Dq (an0 (b7 3) 0 [t8, t8]) ?_;refine Y36 ?_;refine Y36 ?_;refine Dq N_c ?_;refine yZ ?_;refine Dq (F7 v [u.1.ty, n6] (by omega) (by simp)) ?_;refine yM ?_;refine a9 (H t (v ++ [u.1.ty, n6]) a (m.f t (v ++ [u.1.ty]) a (a4 bs 2 (m.f (.pa u.1 .n) v a q.2 l).2.1).2 (m.f (.pa u.1 .n) v a q.2 l).2.2).2.1 _ _ (hu3 u.1) ha (by omega)) ?_;refine Dq (X6 (pcM (b7 3) 0 [t8, t8]) _) ?_;refine yZ ?_
      refine Dq (aW3 _ [.mk (pcM (b7 3) 0 [t8, pnM _]) _, .mk (pcM (b7 3) 0 [t8, t8]) _]) ?_;refine Y29 ?_;refine Rcz ?_;exact VImp.refl _
     ·intro h4
      rw [if_neg (fun e => by rw [e] at h4; simp at h4)];refine Y72 ?_;refine yG ?_;refine Dq (D_c (b7 1) []) ?_;refine Y19 ?_;refine a9 (H (.ba .b) v a q.2 l _ hv0 ha (by omega)) ?_;refine a8 SS 15 ?_;refine yS ?_;refine a6 [15] ?_;refine Y5 ?_;refine yG ?_;refine Dq (an0 (b7 1) 0 []) ?_;refine Y36 ?_;refine Y19 ?_;refine a9 (H t v a (m.f (.ba .b) v a q.2 l).2.1 _ _ hv0 ha (by omega)) ?_;refine Dq (X6 (pcM (b7 1) 0 []) _) ?_;refine yG ?_;refine Dq (an0 (b7 1) 1 []) ?_;refine Y36 ?_;refine Y19 ?_;refine a9 (H t v a (m.f t v a (m.f (.ba .b) v a q.2 l).2.1 (m.f (.ba .b) v a q.2 l).2.2).2.1 _ _ hv0 ha (by omega)) ?_;refine Dq (X6 (pcM (b7 1) 1 []) _) ?_;refine yZ ?_
      refine Dq (aW3 _ [.mk (pcM (b7 1) 0 []) _, .mk (pcM (b7 1) 1 []) _]) ?_;refine Y29 ?_;refine Rcz ?_;exact VImp.refl _
end
section
theorem az7 (x y : AB) : (x.ref == y.ref) = decide (x = y) := by cases x <;> cases y <;> rfl
section
variable {G : List (Nat × TypeId × Pu)}
theorem bN8 (a : List AB) (c : AB) (ha : a.length ≤ 40) : ∃ z : Int, (z ≥ 0 ↔ c ∈ a) ∧ FCall Tryz.prog G 244 [.pu (.sl 0 28 (w9 a)), .pu (f5 c.ref)] (iv .i64 z) := by
 have hal := as4 a
 by_cases hm : c ∈ a
 ·obtain ⟨j, hj, hjc, hbef⟩ : ∃ j, ∃ h : j < a.length, a[j] = c ∧ ∀ i (hi : i < j), a[i]'(by omega) ≠ c := by
   obtain ⟨j, ⟨hj, hjc⟩, hmin⟩ := bU1 (p := fun j => ∃ h : j < a.length, a[j] = c) (by obtain ⟨i, hi, e⟩ := List.getElem_of_mem hm; exact ⟨i, hi, e⟩)
   exact ⟨j, hj, hjc, fun i hi e => by have := hmin i ⟨by omega, e⟩; omega⟩
  refine ⟨j, by simp [hm], ?_⟩
  refine Fq 19 Tryz.func244 ?_;intro w0 M ρ0 D0
  refine Y45 ?_;refine yB ?_;refine a6 [3] ?_;refine Y1 ?_;refine Y38 ?_;refine Tri.block (Tri.loopW (σ := {i : Nat // i ≤ j}) (fun i => ⟨[(0, .pu (.sl 0 28 (w9 a))), (3, .ptr 3 [] 28), (7, iv .i64 (w9 a).length), (8, iv .i64 i.1)], [(3, .var 28 (.pu (f5 c.ref)))]⟩) (fun i => j - i.1) ⟨0, Nat.zero_le _⟩ ?_ ?_ (fun i => ?_))
  ·exact zW
  ·exact zW
  refine Y30 ?_;refine Cq ?_ ?_
  ·intro h0
   have hi : i.1 < a.length := by have := i.2; omega
   have hget : (w9 a)[i.1]? = some (f5 (a[i.1]).ref) := by simp [w9, hi]
   refine Y57 ?_;refine Y12 ?_;refine Y5 ?_;refine Y19 ?_;refine Xq hget ?_;refine yL ?_;refine b5 (z7 SS (h := x5 ((ab9 c).trans (ab9 _).symm))) ?_;refine Y23 ?_;refine Cq ?_ ?_
   ·intro h1
    have he : c = a[i.1] := of_decide_eq_true ((az7 c a[i.1]).symm.trans h1)
    have hij : i.1 = j := Decidable.byContradiction fun hne => hbef i.1 (by have := i.2; omega) he.symm
    refine Y1 ?_;refine Y2 ?_;refine Rq ?_;exact d4 (by rw [hij])
   ·intro h1
    have he : ¬ c = a[i.1] := of_decide_eq_false ((az7 c a[i.1]).symm.trans h1)
    have hn : i.1 + 1 ≤ j := Decidable.byContradiction fun hne => by
     have hij : i.1 = j := by have := i.2; omega
     apply he;rw [← hjc]
     congr 1
     exact hij.symm
    refine Y52 ?_
    refine ⟨⟨i.1 + 1, hn⟩, by show j - (i.1 + 1) < j - i.1; omega, k7 ?_ ?_⟩
    ·exact zE
    ·exact zH
  ·intro h0;exfalso
   have := of_decide_eq_false h0
   have := i.2
   omega
 ·refine ⟨-1, by simp [hm], ?_⟩
  refine Fq 19 Tryz.func244 ?_;intro w0 M ρ0 D0
  refine Y45 ?_;refine yB ?_;refine a6 [3] ?_;refine Y1 ?_;refine Y38 ?_;refine Tri.block (Tri.loopW (σ := Nat) (fun i => ⟨[(0, .pu (.sl 0 28 (w9 a))), (3, .ptr 3 [] 28), (7, iv .i64 (w9 a).length), (8, iv .i64 i)], [(3, .var 28 (.pu (f5 c.ref)))]⟩) (fun i => a.length - i) 0 ?_ ?_ (fun i => ?_))
  ·exact zW
  ·exact zW
  refine Y30 ?_;refine Cq ?_ ?_
  ·intro h0
   have hi : i < a.length := by have := of_decide_eq_true h0; omega
   have hget : (w9 a)[i]? = some (f5 (a[i]).ref) := by simp [w9, hi]
   refine Y57 ?_;refine Y12 ?_;refine Y5 ?_;refine Y19 ?_;refine Xq hget ?_;refine yL ?_;refine b5 (z7 SS (h := x5 ((ab9 c).trans (ab9 _).symm))) ?_;refine Y23 ?_;refine Cq ?_ ?_
   ·intro h1;exfalso
    have he : c = a[i] := of_decide_eq_true ((az7 c a[i]).symm.trans h1)
    exact hm (he ▸ List.getElem_mem hi)
   ·intro h1
    refine Y52 ?_
    refine ⟨i + 1, by omega, k7 ?_ ?_⟩
    ·exact zE
    ·exact zH
  ·intro h0
   refine Tri.exit ?_;refine Y9 ?_;refine Rq ?_;exact VImp.refl _
theorem bc7 (a : List AB) (c : AB) (ha : a.length ≤ 40) : FCall Tryz.prog G 226 [.pu (.sl 0 28 (w9 a)), .pu (f5 c.ref)] (bv (decide (c ∈ a))) := by
 obtain ⟨z, hz, hc⟩ := bN8 (G := G) a c ha
 refine Fq 9 Tryz.func226 ?_;intro w0 M ρ0 D0
 refine Y45 ?_;refine yB ?_;refine a6 [3] ?_;refine Y40 ?_;refine Dq hc ?_;refine yI ?_;refine Y2 ?_;refine Rq ?_;exact l7 (decide_eq_decide.2 hz)
theorem bU9 (r : List Int) (ks : List Tm) : FCall Tryz.prog G 37 [.pu (f5 r), .xs 0 32 (l5 0 ks)] (.agg 32 [iv .i64 12, iv .i64 0, .pu (f5 r), .xs 0 32 (l5 0 ks), .nilc]) := by
 refine Fq 8 Tryz.func37 ?_;intro w0 M ρ0 D0
 refine Y39 ?_;refine a8 SS 4 ?_;refine a6 [2, 4] ?_;refine Y5 ?_;refine yM ?_;refine Y49 ?_;refine Rc ?_;exact VImp.refl _
end
end
section
variable (bs : List Int) [hz : Bz bs] (m : Mk) [hm : Mc m] [hml : Ml m] (n : Nat)
theorem bw4 (a b : List AB) : w9 (a ++ b) = w9 a ++ w9 b := by simp [w9]
theorem cb5 {G : List (Nat × TypeId × Pu)} (s t : Tm) : FCall Tryz.prog G 44 [.pu (tmc 0 s), .pu (tmc 0 t)] (.pu (tmc 0 (leM s t))) := by
 refine Fq 9 Tryz.func44 ?_;intro w0 M ρ0 D0
 refine Y65 ?_;refine a8 SS 4 ?_;refine a6 [2, 3, 4] ?_;refine Y43 ?_;refine yZ ?_;refine Y49 ?_;refine Rc ?_;exact ToPu.imp (by repeat constructor)
theorem bD5 (c : AB) : (if c = .st then 2 else 1 : Nat) ≤ 2 := by split <;> omega
theorem bS6 {k : Int} (h : 0 ≤ k ∧ k < 3) : [f5 (b7 11), f5 (b7 12), f5 (b7 13)][k.toNat]? = some (f5 (abM k).ref) := by
 obtain ⟨j, rfl⟩ := Int.eq_ofNat_of_zero_le h.1
 have hj : j < 3 := by omega
 rcases j with _ | _ | _ | j <;> first | rfl | omega
theorem bO5 {t : TT} {k n : Int} {r : List Int} {ks : List Ty} (h : t.ty = .mk k n r ks) : (k == 3) = bN5 t := by
 rcases t with (_ | _) | x | x | ⟨x, y⟩ | x <;> simp [TT.ty, BT.ty, n6] at h <;> obtain ⟨rfl, _⟩ := h <;> rfl
theorem ao8 (t : TT) (v : List Ty) (a : List AB) (back : BT) (s : Sd) (l : Int) : ∀ i, (f9 bs m t v a back s l i).1.length ≤ i
 | 0 => by simp [f9]
 | i + 1 => by
  have := ao8 t v a back s l i
  simp [f9]; omega
set_option maxHeartbeats 4000000 in
theorem bE1 (H : ak1 bs m n) (t : TT) (v : List Ty) (a : List AB) (hv : Vk v (n + 1)) (ha : a.length + (n + 1) ≤ 40) (s : Sd) (l : Int) {k : Int} [h : Bd s l k] [hl : Lt l n] (hk : k ≤ -1100) :
  HCall Tryz.prog gL 178 [.ptr 951 [] 174, .pu (tyc t.ty), .pu (.sl 0 58 (w6 v)), .pu (.sl 0 28 (w9 a))] [] (mkO bs s l) (.pu (tmc 0 (w7 bs m t v a s l).1)) (mkO bs (w7 bs m t v a s l).2.1 (w7 bs m t v a s l).2.2) [] := by
 obtain ⟨k', n', r', ks', hty⟩ : ∃ k n r ks, t.ty = .mk k n r ks := by rcases t.ty with ⟨a, b, c, d⟩; exact ⟨a, b, c, d, rfl⟩
 have hvl := hv.len
 have hal := as4 a
 have hv0 : Vk v n := hv.less
 have hs1 (x : BT) : y9 x.ty ≤ 3 := az1 x
 have hu1 (x : BT) : Vk (v ++ [x.ty]) n := hv.app (by simp) (by simp [hs1])
 have hu2 : Vk (v ++ [n6, v7]) n := hv.app (by simp) (by simp [n6, v7, y9, F1])
 have hu3 : Vk (v ++ [n6, v7] ++ [t.ty]) n := by rw [List.append_assoc]; exact hv.app (by simp) (by simp [n6, v7, y9, F1]; exact N6 t)
 have hb3 := p8 bs s (n := 3) (by decide)
 obtain ⟨c, hc⟩ : ∃ c, c = abM (a4 bs 3 s).1 := ⟨_, rfl⟩
 have hcg := bS6 hb3
 rw [← hc] at hcg
 obtain ⟨q, hq⟩ : ∃ q, q = c6 bs 4 (a4 bs 3 s).2 := ⟨_, rfl⟩
 have hbq : Bd q.2 l (k + 2) := hq ▸ Bd.mono (inferInstance : Bd (c6 bs 4 (a4 bs 3 s).2).2 l (k + 1 + 1)) (by omega)
 have hty3 := bO5 hty
 rw [hty]
 refine HCall.of_triD tbl 133 [950, 951] Tryz.func178 rfl rfl rfl fun w0 M ρ0 D0 => ?_
 simp only [w7, ← hc, ← hq]
 refine yR ?_;refine o9 SS 5 ?_;refine a8 SS 8 ?_;refine a6 [5, 8] ?_;refine Y51 ?_;refine yG ?_;refine yG ?_;refine yZ ?_;refine yM ?_;refine Y13 ?_;refine a9 (n4 bs 3 s (by omega)) ?_;refine b5 (aL0 SS (h0 := hb3.1) (hp := hcg)) ?_;refine yL ?_;refine a8 SS 9 ?_;refine yS ?_;refine G6 [9] ?_;refine Y55 ?_;refine a9 (L4 bs 4 (a4 bs 3 s).2 (by omega)) ?_;refine Y11 ?_;refine Y34 ?_;refine A7 ?_;rw [← hq];refine tQ ?_;refine Cq ?_ ?_
 ·intro h0
  have hc0 : q.1 = true ∨ bN5 t = true := by rw [hty3] at h0; simpa using h0
  rw [if_pos hc0];refine Y40 ?_;refine Y19 ?_;rw [← hty];refine a9 (aH3 bs m n H t v a hv (by omega) q.2 l (by omega)) ?_;refine Y10 ?_;refine Rcz ?_;exact VImp.refl _
 ·intro h0
  have hc0 : ¬ (q.1 = true ∨ bN5 t = true) := by rw [hty3] at h0; simpa using h0
  rw [if_neg hc0]
  obtain ⟨u, hu⟩ : ∃ u, u = f6 bs q.2 := ⟨_, rfl⟩
  have hbu : Bd u.2 l (k + 3) := hu ▸ Bd.mono (inferInstance : Bd (f6 bs q.2).2 l (k + 2 + 1)) (by omega)
  rw [← hu];refine Tri.skip ?_;refine Y55 ?_;refine a9 (O3 bs q.2 (by omega)) ?_;refine a8 SS 10 ?_;refine yS ?_;refine a6 [10] ?_;rw [← hu];refine Y1 ?_;refine Y12 ?_;refine Y40 ?_;refine Dq (bc7 a c (by omega)) ?_;refine yQ ?_;refine Y0 ?_;refine Tri.cutW (σ := {z : List AB // z = if c ∈ a then a else a ++ [c]}) (fun z => ⟨[(0, .ptr 951 [] 174), (2, .pu (.sl 0 58 (w6 v))), (3, .pu (.sl 0 28 (w9 a))), (5, .ptr 5 [] 58), (8, .ptr 8 [] 32), (9, .ptr 9 [] 28), (10, .ptr 10 [] 58), (11, .pu (.sl 0 28 (w9 z.1)))], [(5, .var 58 (.pu (tyc (.mk k' n' r' ks')))), (8, .var 32 (.agg 32 [iv .i64 0, iv .i64 0, .pu (f5 Z32), .nilc, .nilc])), (9, .var 28 (.pu (f5 c.ref))), (10, .var 58 (.pu (tyc u.1.ty)))] ++ mkO bs u.2 l⟩) ?_ (fun z => ?_)
  ·skip
   refine tQ ?_;refine Cq ?_ ?_
   ·intro h1
    have hca : ¬ c ∈ a := by simpa using h1
    have hz0 : a ++ [c] = if c ∈ a then a else a ++ [c] := by rw [if_neg hca]
    have hz1 := bw4 a [c]
    refine Y1 ?_;refine aG7 (bG9 (w9 a) (by omega)) ?_;refine Y66 ?_;refine by4 ?_ ?_
    ·simp [w9]; omega
    refine yA ?_;refine x8 ?_
    refine ⟨⟨_, hz0⟩, ?_, ?_⟩
    try rw [hz1]
    ·exact zW
    ·exact zW
   ·intro h1
    have hca : c ∈ a := by simpa using h1
    have hz0 : a = if c ∈ a then a else a ++ [c] := by rw [if_pos hca]
    refine Tri.skip ?_
    refine ⟨⟨_, hz0⟩, ?_, ?_⟩
    try rw [hz1]
    ·exact zW
    ·exact zW
  ·skip
   obtain ⟨z, hz⟩ := z
   dsimp only
   rw [← hz]
   have hzl : z.length + n ≤ 40 := by rw [hz]; split <;> (try simp) <;> omega
   obtain ⟨e, he⟩ : ∃ e, e = m.f (.ba u.1) v z u.2 l := ⟨_, rfl⟩
   have hbe : Bd e.2.1 e.2.2 (k + 103) := he ▸ Bd.mono (inferInstance : Bd (m.f (.ba u.1) v z u.2 l).2.1 (m.f (.ba u.1) v z u.2 l).2.2 (k + 3 + 100)) (by omega)
   have hle : Lt e.2.2 n := he ▸ inferInstance
   obtain ⟨g, hg⟩ : ∃ g, g = m.f t (v ++ [u.1.ty]) a e.2.1 e.2.2 := ⟨_, rfl⟩
   have hbg : Bd g.2.1 g.2.2 (k + 203) := hg ▸ Bd.mono (inferInstance : Bd (m.f t (v ++ [u.1.ty]) a e.2.1 e.2.2).2.1 (m.f t (v ++ [u.1.ty]) a e.2.1 e.2.2).2.2 (k + 103 + 100)) (by omega)
   have hlg : Lt g.2.2 n := hg ▸ inferInstance
   rw [← he, ← hg];refine Y5 ?_;refine Y36 ?_;refine Y19 ?_;refine a9 (H (.ba u.1) v z u.2 l _ hv0 hzl (by omega)) ?_;refine Y36 ?_;refine Y36 ?_;refine yZ ?_;rw [← he];refine Dq (F7 v [u.1.ty] (by omega) (by simp)) ?_;refine yM ?_;rw [← hty];refine a9 (H t (v ++ [u.1.ty]) a e.2.1 e.2.2 _ (hu1 u.1) (by omega) (by omega)) ?_;rw [← hg];refine aN1 SS ?_;refine Dq (bU9 c.ref [e.1, g.1]) ?_;refine a8 SS 12 ?_;refine yS ?_;refine G6 [12] ?_;refine yR ?_;refine Dq N_c ?_;refine a8 SS 13 ?_;refine yS ?_;refine a6 [13] ?_;refine Y20 ?_
   obtain ⟨back, hback⟩ : ∃ b : BT, b = if c = .fl then .b else .n := ⟨_, rfl⟩
   obtain ⟨many, hmany⟩ : ∃ b : Nat, b = if c = .st then 2 else 1 := ⟨_, rfl⟩
   rw [← hback, ← hmany]
   have hbk (i : Nat) (hi : i ≤ many) : Bd (f9 bs m t v a back g.2.1 g.2.2 i).2.1 (f9 bs m t v a back g.2.1 g.2.2 i).2.2 (k + 807) := Bd.mono (ag2 bs m t v a back g.2.1 g.2.2 (k + 203) i) (by have h9 := bD5 c; rw [← hmany] at h9; omega)
   have hlk (i : Nat) : Lt (f9 bs m t v a back g.2.1 g.2.2 i).2.2 n := hlg.dn (clauses_dn bs m t v a back g.2.1 g.2.2 g.2.2 i)
   refine Y5 ?_;refine Y0 ?_;refine Tri.cutT ⟨[(0, .ptr 951 [] 174), (2, .pu (.sl 0 58 (w6 v))), (3, .pu (.sl 0 28 (w9 a))), (5, .ptr 5 [] 58), (8, .ptr 8 [] 32), (12, .ptr 12 [] 32), (13, .ptr 13 [] 58), (14, iv .i64 many)], [(5, .var 58 (.pu (tyc t.ty))), (8, .var 32 (.agg 32 [iv .i64 0, iv .i64 0, .pu (f5 Z32), .nilc, .nilc])), (12, .var 32 (.agg 32 [iv .i64 12, iv .i64 0, .pu (f5 c.ref), .xs 0 32 (l5 0 [e.1, g.1]), .nilc])), (13, .var 58 (.pu (tyc back.ty)))] ++ mkO bs g.2.1 g.2.2⟩ ?_ ?_
   ·skip
    refine Y77 ?_;refine Y51 ?_;refine b5 (z7 SS (h := x5 (ab9 c))) ?_;refine Y2 ?_;refine Cq ?_ ?_
    ·intro h2
     have hst : c = .st := of_decide_eq_true ((bl4 c).symm.trans h2)
     have hg2 : many = 2 := by rw [hmany, if_pos hst]
     have hg3 : back = .n := by rw [hback, if_neg (by rw [hst]; decide)]
     refine Y20 ?_;refine k7 ?_ ?_
     ·repeat (first | exact SubE.nil | refine SubE.cons rfl (by first | rfl | (rw [b4 (by omega) (by omega)]; rfl) | (first | (rw [hty]; done) | (rw [hg2]; rfl) | (rw [hg3]; rfl))) ?_)
     ·repeat (first | exact SubH.nil | refine SubH.cons rfl (by first | rfl | (rw [b4 (by omega) (by omega)]; rfl) | (first | (rw [hty]; done) | (rw [hg2]; rfl) | (rw [hg3]; rfl))) ?_)
    ·intro h2
     have hst : ¬ c = .st := of_decide_eq_false ((bl4 c).symm.trans h2)
     have hg2 : many = 1 := by rw [hmany, if_neg hst]
     refine Y51 ?_;refine b5 (z7 SS (h := x5 (ab9 c))) ?_;refine Y2 ?_;refine Cq ?_ ?_
     ·intro h3
      have hfl : c = .fl := of_decide_eq_true ((az7 c .fl).symm.trans h3)
      have hg3 : back = .b := by rw [hback, if_pos hfl]
      refine Y51 ?_;refine Dq (D_c (b7 1) []) ?_;refine Y17 ?_;refine k7 ?_ ?_
      ·repeat (first | exact SubE.nil | refine SubE.cons rfl (by first | rfl | (rw [b4 (by omega) (by omega)]; rfl) | (first | (rw [hty]; done) | (rw [hg2]; rfl) | (rw [hg3]; rfl))) ?_)
      ·repeat (first | exact SubH.nil | refine SubH.cons rfl (by first | rfl | (rw [b4 (by omega) (by omega)]; rfl) | (first | (rw [hty]; done) | (rw [hg2]; rfl) | (rw [hg3]; rfl))) ?_)
     ·intro h3
      have hfl : ¬ c = .fl := of_decide_eq_false ((az7 c .fl).symm.trans h3)
      have hg3 : back = .n := by rw [hback, if_neg hfl]
      refine Tri.skip ?_;refine k7 ?_ ?_
      ·repeat (first | exact SubE.nil | refine SubE.cons rfl (by first | rfl | (rw [b4 (by omega) (by omega)]; rfl) | (first | (rw [hty]; done) | (rw [hg2]; rfl) | (rw [hg3]; rfl))) ?_)
      ·repeat (first | exact SubH.nil | refine SubH.cons rfl (by first | rfl | (rw [b4 (by omega) (by omega)]; rfl) | (first | (rw [hty]; done) | (rw [hg2]; rfl) | (rw [hg3]; rfl))) ?_)
   ·skip
    refine Y1 ?_;refine Y31 ?_;refine Tri.block (Tri.loopW (σ := {i : Nat // i ≤ many}) (fun i => ⟨[(0, .ptr 951 [] 174), (2, .pu (.sl 0 58 (w6 v))), (3, .pu (.sl 0 28 (w9 a))), (5, .ptr 5 [] 58), (8, .ptr 8 [] 32), (12, .ptr 12 [] 32), (13, .ptr 13 [] 58), (84, iv .i64 many), (85, iv .i64 i.1)], [(5, .var 58 (.pu (tyc t.ty))), (8, .var 32 (.agg 32 [iv .i64 0, iv .i64 0, .pu (f5 Z32), .nilc, .nilc])), (12, .var 32 (.agg 32 [iv .i64 12, iv .i64 0, .pu (f5 c.ref), .ow 0 32 (l5 0 (e.1 :: g.1 :: (f9 bs m t v a back g.2.1 g.2.2 i.1).1)), .nilc])), (13, .var 58 (.pu (tyc back.ty)))] ++ mkO bs (f9 bs m t v a back g.2.1 g.2.2 i.1).2.1 (f9 bs m t v a back g.2.1 g.2.2 i.1).2.2⟩) (fun i => many - i.1) ⟨0, Nat.zero_le _⟩ ?_ ?_ (fun i => ?_))
    ·exact zW
    ·exact zW
    refine Y30 ?_;refine Cq ?_ ?_
    ·intro h4
     have hi : i.1 < many := by have := of_decide_eq_true h4; omega
     have hbp := hbk i.1 i.2
     have hlp := hlk i.1
     have hstep : f9 bs m t v a back g.2.1 g.2.2 (i.1 + 1) = ((f9 bs m t v a back g.2.1 g.2.2 i.1).1 ++ [(D2 bs m t v a back (f9 bs m t v a back g.2.1 g.2.2 i.1).2.1 (f9 bs m t v a back g.2.1 g.2.2 i.1).2.2).1], (D2 bs m t v a back (f9 bs m t v a back g.2.1 g.2.2 i.1).2.1 (f9 bs m t v a back g.2.1 g.2.2 i.1).2.2).2) := rfl
     have hzsl : (f9 bs m t v a back g.2.1 g.2.2 i.1).1.length ≤ i.1 := ao8 bs m t v a back g.2.1 g.2.2 i.1
     have hmany2 : many ≤ 2 := by rw [hmany]; split <;> omega
     generalize f9 bs m t v a back g.2.1 g.2.2 i.1 = p at hbp hlp hstep hzsl ⊢
     obtain ⟨zs, s0, l0⟩ := p
     simp only at hbp hlp hstep hzsl ⊢
     obtain ⟨f, hf⟩ : ∃ f, f = m.f t (v ++ [n6, v7]) a s0 l0 := ⟨_, rfl⟩
     have hbf : Bd f.2.1 f.2.2 (k + 907) := hf ▸ Bd.mono (inferInstance : Bd (m.f t (v ++ [n6, v7]) a s0 l0).2.1 (m.f t (v ++ [n6, v7]) a s0 l0).2.2 (k + 807 + 100)) (by omega)
     have hlf : Lt f.2.2 n := hf ▸ inferInstance
     obtain ⟨x, hx⟩ : ∃ x, x = c6 bs 3 f.2.1 := ⟨_, rfl⟩
     have hbx : Bd x.2 f.2.2 (k + 908) := hx ▸ Bd.mono (inferInstance : Bd (c6 bs 3 f.2.1).2 f.2.2 (k + 907 + 1)) (by omega)
     simp only [D2, ← hf, ← hx] at hstep
     refine Y57 ?_;refine Dq N_c ?_;refine Dq bY2 ?_;refine yZ ?_;refine Dq (F7 v [n6, v7] (by omega) (by simp)) ?_;refine Y12 ?_;refine Y40 ?_;refine Y19 ?_;refine a9 (H t (v ++ [n6, v7]) a s0 l0 _ hu2 (by omega) (by omega)) ?_;refine a8 SS 16 ?_;refine yS ?_;refine a6 [16] ?_;rw [← hf];refine Y55 ?_;refine a9 (L4 bs 3 f.2.1 (by omega)) ?_;refine yQ ?_;refine A7 ?_;rw [← hx];refine tQ ?_
     refine Tri.cutW (σ := {y : Tm × Sd × Int // Bd y.2.1 y.2.2 (k + 1008) ∧ Lt y.2.2 n ∧ f9 bs m t v a back g.2.1 g.2.2 (i.1 + 1) = (zs ++ [if (c6 bs 4 y.2.1).1 = true then leM y.1 (m.f t (v ++ [n6, v7] ++ [t.ty]) a (c6 bs 4 y.2.1).2 y.2.2).1 else y.1], if (c6 bs 4 y.2.1).1 = true then (m.f t (v ++ [n6, v7] ++ [t.ty]) a (c6 bs 4 y.2.1).2 y.2.2).2 else ((c6 bs 4 y.2.1).2, y.2.2))}) (fun y => ⟨[(0, .ptr 951 [] 174), (2, .pu (.sl 0 58 (w6 v))), (3, .pu (.sl 0 28 (w9 a))), (5, .ptr 5 [] 58), (8, .ptr 8 [] 32), (12, .ptr 12 [] 32), (13, .ptr 13 [] 58), (15, .pu (.sl 0 58 (w6 (v ++ [n6, v7])))), (16, .ptr 16 [] 32), (84, iv .i64 many), (85, iv .i64 i.1)], [(5, .var 58 (.pu (tyc t.ty))), (8, .var 32 (.agg 32 [iv .i64 0, iv .i64 0, .pu (f5 Z32), .nilc, .nilc])), (12, .var 32 (.agg 32 [iv .i64 12, iv .i64 0, .pu (f5 c.ref), .ow 0 32 (l5 0 (e.1 :: g.1 :: zs)), .nilc])), (13, .var 58 (.pu (tyc back.ty))), (16, .var 32 (.pu (tmc 0 y.1.1)))] ++ mkO bs y.1.2.1 y.1.2.2⟩) ?_ (fun y => ?_)
     ·skip
      refine tQ ?_;refine Cq ?_ ?_
      ·intro h5
       have hx5 : x.1 = false := by simpa using h5
       have hy : Bd (m.f (.ba back) (v ++ [n6, v7]) a x.2 f.2.2).2.1 (m.f (.ba back) (v ++ [n6, v7]) a x.2 f.2.2).2.2 (k + 1008) ∧ Lt (m.f (.ba back) (v ++ [n6, v7]) a x.2 f.2.2).2.2 n := ⟨Bd.mono (inferInstance : Bd (m.f (.ba back) (v ++ [n6, v7]) a x.2 f.2.2).2.1 (m.f (.ba back) (v ++ [n6, v7]) a x.2 f.2.2).2.2 (k + 908 + 100)) (by omega), inferInstance⟩
       rw [if_pos hx5] at hstep
       refine yR ?_;refine Dq (W3 0) ?_;refine Y36 ?_;refine Y19 ?_;refine a9 (H (.ba back) (v ++ [n6, v7]) a x.2 f.2.2 _ hu2 (by omega) (by omega)) ?_;refine Dq (ae3 _ _) ?_;refine yS ?_;refine x8 ?_
       first | refine ⟨⟨(apM (vaM 0) (m.f (.ba back) (v ++ [n6, v7]) a x.2 f.2.2).1, (m.f (.ba back) (v ++ [n6, v7]) a x.2 f.2.2).2.1, (m.f (.ba back) (v ++ [n6, v7]) a x.2 f.2.2).2.2), hy.1, hy.2, ?_⟩, ?_, ?_⟩ | refine ⟨⟨(f.1, x.2, f.2.2), hy.1, hy.2, ?_⟩, ?_, ?_⟩
       ·rw [hstep]
        split <;> rfl
       ·exact zW
       ·exact zW
      ·intro h5
       have hx5 : ¬ x.1 = false := by simpa using h5
       have hy : Bd x.2 f.2.2 (k + 1008) ∧ Lt f.2.2 n := ⟨Bd.mono hbx (by omega), hlf⟩
       rw [if_neg hx5] at hstep
       refine Tri.skip ?_
       first | refine ⟨⟨(apM (vaM 0) (m.f (.ba back) (v ++ [n6, v7]) a x.2 f.2.2).1, (m.f (.ba back) (v ++ [n6, v7]) a x.2 f.2.2).2.1, (m.f (.ba back) (v ++ [n6, v7]) a x.2 f.2.2).2.2), hy.1, hy.2, ?_⟩, ?_, ?_⟩ | refine ⟨⟨(f.1, x.2, f.2.2), hy.1, hy.2, ?_⟩, ?_, ?_⟩
       ·rw [hstep]
        split <;> rfl
       ·exact zW
       ·exact zW
     ·skip
      obtain ⟨⟨b, s1, l1⟩, hb1, hl1, hst1⟩ := y
      simp only at hb1 hl1 hst1 ⊢
      obtain ⟨w, hw⟩ : ∃ w, w = c6 bs 4 s1 := ⟨_, rfl⟩
      have hbw : Bd w.2 l1 (k + 1009) := hw ▸ Bd.mono (inferInstance : Bd (c6 bs 4 s1).2 l1 (k + 1008 + 1)) (by omega)
      rw [← hw] at hst1
      refine Y55 ?_;refine a9 (L4 bs 4 s1 (by omega)) ?_;refine A7 ?_;rw [← hw];refine tQ ?_;refine Cq ?_ ?_
      ·intro h6
       rw [if_pos h6, if_pos h6] at hst1
       have hts : l5 0 (e.1 :: g.1 :: (f9 bs m t v a back g.2.1 g.2.2 (i.1 + 1)).1) = l5 0 (e.1 :: g.1 :: zs) ++ [tmc 0 (leM b (m.f t (v ++ [n6, v7] ++ [t.ty]) a w.2 l1).1)] := by rw [hst1]; exact P7 (e.1 :: g.1 :: zs) [_]
       refine Y5 ?_;refine Y36 ?_;refine Y36 ?_;refine yZ ?_;refine Dq (F7 (v ++ [n6, v7]) [t.ty] (by simp; omega) (by simp)) ?_;refine yM ?_;refine a9 (H t (v ++ [n6, v7] ++ [t.ty]) a w.2 l1 _ hu3 (by omega) (by omega)) ?_;refine Dq (cb5 _ _) ?_;refine yS ?_;refine x8 ?_;refine Y22 ?_;refine Y66 ?_;refine O1 12 [3] ?_ ?_
       ·simp [o8]; omega
       refine yF ?_;refine yW ?_;refine A7 ?_;refine Y25 ?_
       refine ⟨⟨i.1 + 1, hi⟩, by show many - (i.1 + 1) < many - i.1; omega, k7 ?_ ?_⟩
       ·repeat (first | exact SubE.nil | refine SubE.cons rfl (by first | rfl | (rw [b4 (by omega) (by omega)]; rfl) | (first | (rw [hts]; rfl) | (rw [hst1]; done) | (rw [hst1]; rfl))) ?_)
       ·repeat (first | exact SubH.nil | refine SubH.cons rfl (by first | rfl | (rw [b4 (by omega) (by omega)]; rfl) | (first | (rw [hts]; rfl) | (rw [hst1]; done) | (rw [hst1]; rfl))) ?_)
      ·intro h6
       rw [if_neg (by rw [h6]; decide), if_neg (by rw [h6]; decide)] at hst1
       have hts : l5 0 (e.1 :: g.1 :: (f9 bs m t v a back g.2.1 g.2.2 (i.1 + 1)).1) = l5 0 (e.1 :: g.1 :: zs) ++ [tmc 0 b] := by rw [hst1]; exact P7 (e.1 :: g.1 :: zs) [_]
       refine Tri.skip ?_;refine Y22 ?_;refine Y66 ?_;refine O1 12 [3] ?_ ?_
       ·simp [o8]; omega
       refine yF ?_;refine yW ?_;refine A7 ?_;refine Y25 ?_
       refine ⟨⟨i.1 + 1, hi⟩, by show many - (i.1 + 1) < many - i.1; omega, k7 ?_ ?_⟩
       ·repeat (first | exact SubE.nil | refine SubE.cons rfl (by first | rfl | (rw [b4 (by omega) (by omega)]; rfl) | (first | (rw [hts]; rfl) | (rw [hst1]; done) | (rw [hst1]; rfl))) ?_)
       ·repeat (first | exact SubH.nil | refine SubH.cons rfl (by first | rfl | (rw [b4 (by omega) (by omega)]; rfl) | (first | (rw [hts]; rfl) | (rw [hst1]; done) | (rw [hst1]; rfl))) ?_)
    ·intro h4
     have hi : i.1 = many := by have := of_decide_eq_false h4; have := i.2; omega
     rw [hi];refine Tri.exit ?_;refine Y61 ?_;refine Rcz ?_;exact ToPu.imp (by repeat constructor)
end
section
variable (bs : List Int) [hz : Bz bs]
theorem Bd.low {s : Sd} {l k : Int} (h : Bd s l k) (hk : k ≤ 0) : -4611686018427387904 ≤ l := by have := h.h; omega
theorem bJ4 : ak1 bs (t5 bs 0) 0 := by
 intro t v a s l k h hl hv ha hk
 have hlow := h.low hk
 have hll := hl.h
 have hwl : IntKind.i64.wrap (l - 1) = l - 1 := b4 (by omega) (by omega)
 have hb1 : Bd s (l - 1) (k + 1) := h.dec
 have hvl := hv.len
 refine HCall.of_triD tbl 117 [950, 951] Tryz.func111 rfl rfl rfl fun w0 M ρ0 D0 => ?_
 show Tri _ _ _ _ _
 simp only [t5]
 refine yR ?_;refine o9 SS 5 ?_;refine a8 SS 8 ?_;refine a6 [5, 8] ?_;refine Y55 ?_;refine yI ?_;refine Y71 ?_;rw [hwl];refine Y55 ?_;refine Y53 ?_;refine Cq ?_ ?_
 ·intro h0
  refine Y40 ?_;refine yM ?_;refine a9 (bC0 bs t v (by omega) hv.sm s (l - 1) (by omega)) ?_;refine Y10 ?_;refine Rcz ?_;exact VImp.refl _
 ·intro h0;exfalso
  have := of_decide_eq_false h0
  omega
set_option maxHeartbeats 2000000 in
theorem bJ3 (n : Nat) (H : ak1 bs (t5 bs n) n) : ak1 bs (t5 bs (n + 1)) (n + 1) := by
 intro t v a s l k h hl hv ha hk
 have hlow := h.low hk
 have hll := hl.h
 have hwl : IntKind.i64.wrap (l - 1) = l - 1 := b4 (by omega) (by omega)
 have hb1 : Bd s (l - 1) (k + 1) := h.dec
 have hvl := hv.len
 have hv0 : Vk v n := hv.less
 have hts := N6
 have hu1 (x : TT) : Vk (v ++ [x.ty]) n := hv.app (by simp) (by simp; exact N6 x)
 refine HCall.of_triD tbl 117 [950, 951] Tryz.func111 rfl rfl rfl fun w0 M ρ0 D0 => ?_
 show Tri _ _ _ _ _
 simp only [t5]
 refine yR ?_;refine o9 SS 5 ?_;refine a8 SS 8 ?_;refine a6 [5, 8] ?_;refine Y55 ?_;refine yI ?_;refine Y71 ?_;rw [hwl];refine Y55 ?_;refine Y53 ?_;refine Cq ?_ ?_
 ·intro h0
  rw [if_pos (of_decide_eq_true h0)];refine Y40 ?_;refine yM ?_;refine a9 (bC0 bs t v (by omega) hv.sm s (l - 1) (by omega)) ?_;refine Y10 ?_;refine Rcz ?_;exact VImp.refl _
 ·intro h0
  have g0 := of_decide_eq_false h0
  rw [if_neg g0]
  simp only [L7]
  obtain ⟨y, hy⟩ : ∃ y, y = l - 1 := ⟨_, rfl⟩
  rw [← hy]
  have hbd : Bd s y (k - 2001) := hy ▸ h.down (by omega)
  have hly : Lt y n := ⟨by push_cast at hll; omega⟩
  obtain ⟨q, hq⟩ : ∃ q, q = a4 bs 10 s := ⟨_, rfl⟩
  have hbq : Bd q.2 y (k - 2000) := hq ▸ Bd.mono (inferInstance : Bd (a4 bs 10 s).2 y (k - 2001 + 1)) (by omega)
  have hqb := p8 bs s (n := 10) (by decide)
  rw [← hq] at hqb ⊢
  obtain ⟨m, hm⟩ : ∃ m, m = t5 bs n := ⟨_, rfl⟩
  have hmc : Mc m := hm ▸ inferInstance
  have hml : Ml m := hm ▸ inferInstance
  rw [← hm] at H ⊢
  refine Tri.skip ?_;refine Y55 ?_;refine a9 (n4 bs 10 s (by omega)) ?_;refine A7 ?_;rw [← hq];refine Y77 ?_;refine Y16 ?_;refine Tri.cutT ⟨[(0, .ptr 951 [] 174), (2, .pu (.sl 0 58 (w6 v))), (3, .pu (.sl 0 28 (w9 a))), (5, .ptr 5 [] 58), (8, .ptr 8 [] 32), (35, iv .i64 q.1), (36, bv (decide (q.1 < 2)))], [(5, .var 58 (.pu (tyc t.ty))), (8, .var 32 (.agg 32 [iv .i64 0, iv .i64 0, .pu (f5 Z32), .nilc, .nilc]))] ++ mkO bs q.2 y⟩ ?_ ?_
  ·skip
   refine tQ ?_;refine Cq ?_ ?_
   ·intro h1
    have hx1 : (q.1 == 0) = decide (q.1 < 2) := by have := eq_of_beq h1; rw [this]; rfl
    refine Tri.skip ?_;refine k7 ?_ ?_
    ·repeat (first | exact SubE.nil | refine SubE.cons rfl (by first | rfl | (rw [b4 (by omega) (by omega)]; rfl) | (exact congrArg bv hx1)) ?_)
    ·repeat (first | exact SubH.nil | refine SubH.cons rfl (by first | rfl | (rw [b4 (by omega) (by omega)]; rfl) | (exact congrArg bv hx1)) ?_)
   ·intro h1
    have hx1 : (q.1 == 1) = decide (q.1 < 2) := by
     have g1 : ¬ q.1 = 0 := by simpa using h1
     rw [Bool.eq_iff_iff, beq_iff_eq, decide_eq_true_iff]
     omega
    refine Y4 ?_;refine Y12 ?_;refine k7 ?_ ?_
    ·repeat (first | exact SubE.nil | refine SubE.cons rfl (by first | rfl | (rw [b4 (by omega) (by omega)]; rfl) | (exact congrArg bv hx1)) ?_)
    ·repeat (first | exact SubH.nil | refine SubH.cons rfl (by first | rfl | (rw [b4 (by omega) (by omega)]; rfl) | (exact congrArg bv hx1)) ?_)
  ·skip
   refine tQ ?_;refine Cq ?_ ?_
   ·intro h2
    rw [if_pos (of_decide_eq_true h2)]
    obtain ⟨x, hx⟩ : ∃ x, x = r6 bs v t.ty q.2 := ⟨_, rfl⟩
    have hbx : Bd x.2 y (k - 1999) := hx ▸ Bd.mono (inferInstance : Bd (r6 bs v t.ty q.2).2 y (k - 2000 + 1)) (by omega)
    rw [← hx];refine Y40 ?_;refine yM ?_;refine a9 (bD8 bs v (by omega) hv.sm t.ty (N6 t) q.2 y (by omega)) ?_;refine Y58 ?_;refine a8 SS 9 ?_;refine Y73 ?_;refine a6 [9] ?_;rw [← hx];refine Y1 ?_;refine Y0 ?_;refine Cq ?_ ?_
    ·intro h3
     rw [if_pos h3];refine Y61 ?_;refine Rcz ?_;exact VImp.refl _
    ·intro h3
     rw [if_neg (by rw [h3]; decide)]
     obtain ⟨s9, hs9⟩ : ∃ s9, s9 = x.2 := ⟨_, rfl⟩
     obtain ⟨l9, hl9⟩ : ∃ l9, l9 = y := ⟨_, rfl⟩
     have hb9 : Bd s9 l9 (k - 1000) := hs9 ▸ hl9 ▸ Bd.mono hbx (by omega)
     have hlt9 : Lt l9 n := hl9 ▸ hly
     rw [← hs9, ← hl9];refine Tri.skip ?_;refine Y40 ?_;refine Y19 ?_;refine a9 (aH3 bs m n H t v a hv (by omega) s9 l9 (by omega)) ?_;refine Y10 ?_;refine Rcz ?_;exact VImp.refl _
   ·intro h2
    rw [if_neg (of_decide_eq_false h2)];refine Y16 ?_;refine Cq ?_ ?_
    ·intro h4
     rw [if_pos (eq_of_beq h4)]
     obtain ⟨u, hu⟩ : ∃ u, u = P9 bs q.2 := ⟨_, rfl⟩
     have hbu : Bd u.2 y (k - 1996) := hu ▸ Bd.mono (inferInstance : Bd (P9 bs q.2).2 y (k - 2000 + 4)) (by omega)
     rw [← hu];refine Y1 ?_;refine a9 (bx1 bs q.2 y (by omega)) ?_;refine a8 SS 11 ?_;refine yS ?_;refine a6 [11] ?_;rw [← hu];refine Y40 ?_;refine Y19 ?_;refine a9 (H u.1 v a u.2 y _ hv0 (by omega) (by omega)) ?_;refine Y36 ?_;refine Y36 ?_;refine yZ ?_;refine Dq (F7 v [u.1.ty] (by omega) (by simp)) ?_;refine yM ?_;refine a9 (H t (v ++ [u.1.ty]) a (m.f u.1 v a u.2 y).2.1 _ _ (hu1 u.1) (by omega) (by omega)) ?_;refine Dq (cb5 _ _) ?_;refine Y29 ?_;refine Rcz ?_;exact VImp.refl _
    ·intro h4
     have g4 : ¬ q.1 = 2 := by simpa using h4
     rw [if_neg g4];refine Y16 ?_;refine Cq ?_ ?_
     ·intro h5
      rw [if_pos (eq_of_beq h5)]
      obtain ⟨u, hu⟩ : ∃ u, u = P9 bs q.2 := ⟨_, rfl⟩
      have hbu : Bd u.2 y (k - 1996) := hu ▸ Bd.mono (inferInstance : Bd (P9 bs q.2).2 y (k - 2000 + 4)) (by omega)
      rw [← hu];refine Y1 ?_;refine a9 (bx1 bs q.2 y (by omega)) ?_;refine a8 SS 12 ?_;refine yS ?_;refine a6 [12] ?_;rw [← hu];refine Y40 ?_;refine Y36 ?_;refine yZ ?_;refine Dq (F7 v [u.1.ty] (by omega) (by simp)) ?_;refine yM ?_;refine a9 (H t (v ++ [u.1.ty]) a u.2 y _ (hu1 u.1) (by omega) (by omega)) ?_;refine Dq (aA7 _) ?_;refine Y36 ?_;refine Y19 ?_;refine a9 (H u.1 v a (m.f t (v ++ [u.1.ty]) a u.2 y).2.1 _ _ hv0 (by omega) (by omega)) ?_;refine Dq (ae3 _ _) ?_;refine Y29 ?_;refine Rcz ?_;exact VImp.refl _
     ·intro h5
      have g5 : ¬ q.1 = 3 := by simpa using h5
      rw [if_neg g5];refine Y16 ?_;refine Tri.cutT ⟨[(0, .ptr 951 [] 174), (2, .pu (.sl 0 58 (w6 v))), (3, .pu (.sl 0 28 (w9 a))), (5, .ptr 5 [] 58), (8, .ptr 8 [] 32), (35, iv .i64 q.1), (85, bv (decide (q.1 < 6)))], [(5, .var 58 (.pu (tyc t.ty))), (8, .var 32 (.agg 32 [iv .i64 0, iv .i64 0, .pu (f5 Z32), .nilc, .nilc]))] ++ mkO bs q.2 y⟩ ?_ ?_
      ·skip
       refine tQ ?_;refine Cq ?_ ?_
       ·intro h6
        have hx6 : (q.1 == 4) = decide (q.1 < 6) := by have := eq_of_beq h6; rw [this]; rfl
        refine Tri.skip ?_;refine k7 ?_ ?_
        ·repeat (first | exact SubE.nil | refine SubE.cons rfl (by first | rfl | (rw [b4 (by omega) (by omega)]; rfl) | (exact congrArg bv hx6)) ?_)
        ·repeat (first | exact SubH.nil | refine SubH.cons rfl (by first | rfl | (rw [b4 (by omega) (by omega)]; rfl) | (exact congrArg bv hx6)) ?_)
       ·intro h6
        have hx6 : (q.1 == 5) = decide (q.1 < 6) := by
         have g6 : ¬ q.1 = 4 := by simpa using h6
         have g2 := of_decide_eq_false h2
         rw [Bool.eq_iff_iff, beq_iff_eq, decide_eq_true_iff]
         omega
        refine Y4 ?_;refine Y12 ?_;refine k7 ?_ ?_
        ·repeat (first | exact SubE.nil | refine SubE.cons rfl (by first | rfl | (rw [b4 (by omega) (by omega)]; rfl) | (exact congrArg bv hx6)) ?_)
        ·repeat (first | exact SubH.nil | refine SubH.cons rfl (by first | rfl | (rw [b4 (by omega) (by omega)]; rfl) | (exact congrArg bv hx6)) ?_)
      ·skip
       refine tQ ?_;refine Cq ?_ ?_
       ·intro h7
        rw [if_pos (of_decide_eq_true h7)];refine Y40 ?_;refine Y19 ?_;refine a9 (bM6 bs m n H t v a hv (by omega) q.2 y (by omega)) ?_;refine Y10 ?_;refine Rcz ?_;exact VImp.refl _
       ·intro h7
        rw [if_neg (of_decide_eq_false h7)];refine Y16 ?_;refine Cq ?_ ?_
        ·intro h8
         rw [if_pos (eq_of_beq h8)]
         obtain ⟨x, hx⟩ : ∃ x, x = z9 bs m t v a q.2 y := ⟨_, rfl⟩
         have hbx : Bd x.2.1 x.2.2 (k - 1898) := hx ▸ Bd.mono (inferInstance : Bd (z9 bs m t v a q.2 y).2.1 (z9 bs m t v a q.2 y).2.2 (k - 2000 + 102)) (by omega)
         have hlx : Lt x.2.2 n := hx ▸ hly.dn (inferInstance : Dn (z9 bs m t v a q.2 y).2.2 y)
         rw [← hx];refine Y40 ?_;refine Y19 ?_;refine a9 (cg6 bs m n H t v a hv0 (by omega) q.2 y (by omega)) ?_;refine Y58 ?_;refine a8 SS 13 ?_;refine Y73 ?_;refine a6 [13] ?_;rw [← hx];refine Y1 ?_;refine Y0 ?_;refine Cq ?_ ?_
         ·intro h9
          rw [if_pos h9];refine Y61 ?_;refine Rcz ?_;exact VImp.refl _
         ·intro h9
          rw [if_neg (by rw [h9]; decide)]
          obtain ⟨s9, hs9⟩ : ∃ s9, s9 = x.2.1 := ⟨_, rfl⟩
          obtain ⟨l9, hl9⟩ : ∃ l9, l9 = x.2.2 := ⟨_, rfl⟩
          have hb9 : Bd s9 l9 (k - 1000) := hs9 ▸ hl9 ▸ Bd.mono hbx (by omega)
          have hlt9 : Lt l9 n := hl9 ▸ hlx
          rw [← hs9, ← hl9];refine Tri.skip ?_;refine Y40 ?_;refine Y19 ?_;refine a9 (aH3 bs m n H t v a hv (by omega) s9 l9 (by omega)) ?_;refine Y10 ?_;refine Rcz ?_;exact VImp.refl _
        ·intro h8
         have g8 : ¬ q.1 = 6 := by simpa using h8
         rw [if_neg g8];refine Y16 ?_;refine Cq ?_ ?_
         ·intro h10
          rw [if_pos (eq_of_beq h10)];refine Y40 ?_;refine Y19 ?_;refine a9 (bE1 bs m n H t v a hv (by omega) q.2 y (by omega)) ?_;refine Y10 ?_;refine Rcz ?_;exact VImp.refl _
         ·intro h10
          have g10 : ¬ q.1 = 7 := by simpa using h10
          rw [if_neg g10]
          obtain ⟨s9, hs9⟩ : ∃ s9, s9 = q.2 := ⟨_, rfl⟩
          obtain ⟨l9, hl9⟩ : ∃ l9, l9 = y := ⟨_, rfl⟩
          have hb9 : Bd s9 l9 (k - 1000) := hs9 ▸ hl9 ▸ Bd.mono hbq (by omega)
          have hlt9 : Lt l9 n := hl9 ▸ hly
          rw [← hs9, ← hl9];refine Tri.skip ?_;refine Y40 ?_;refine Y19 ?_;refine a9 (aH3 bs m n H t v a hv (by omega) s9 l9 (by omega)) ?_;refine Y10 ?_;refine Rcz ?_;exact VImp.refl _
theorem bw1 : ∀ n : Nat, ak1 bs (t5 bs n) n
 | 0 => bJ4 bs
 | n + 1 => bJ3 bs n (bw1 n)
def Z1 (size : Nat) (t : TT) (a : List AB) (s : Sd) : Tm × Sd := (((t5 bs size).f t [] a s size).1, ((t5 bs size).f t [] a s size).2.1)
theorem bJ0 (size : Nat) (hs : size ≤ 30) (t : TT) (a : List AB) (ha : a.length ≤ 3) (s : Sd) (h0 : 0 ≤ s.a ∧ s.a ≤ 1000000) :
  HCall Tryz.prog gL 27 [.ptr 950 [] 171, .pu (tyc t.ty), iv .i64 size, .pu (.sl 0 28 (w9 a))] [] (stO bs s) (.pu (tmc 0 (Z1 bs size t a s).1)) (stO bs (Z1 bs size t a s).2) [] := by
 have hbd : Bd s size 0 := ⟨by omega⟩
 have hlt : Lt (size : Int) size := ⟨Int.le_refl _⟩
 refine HCall.of_triD tbl 18 [950] Tryz.func27 rfl rfl rfl fun w0 M ρ0 D0 => ?_
 simp only [Z1]
 refine yR ?_;refine o9 SS 5 ?_;refine a8 SS 8 ?_;refine a6 [5, 8] ?_;refine Y32 ?_;refine yP ?_;refine o9 SS 951 ?_;refine yA ?_;refine a6 [951] ?_;refine Y40 ?_;refine yM ?_;refine a9 (bw1 bs size t [] a s size 0 ⟨by simp; omega, by simp⟩ (by omega) (by omega)) ?_;refine Y10 ?_;refine Rcz ?_;exact VImp.refl _
theorem cc9 (cs : List Int) (hl : cs.length < 9223372036854775808) : HCall Tryz.prog gL 26 [.pu (.sl 0 5 (byP cs))] [] [] (.ptr 950 [] 171) (stO (cs.take 300) ⟨0, 88172645463325252⟩) [950] := by
 have hbl := ay9 cs
 have hmin : (if (300 : Int) < ((byP cs).length : Int) then 300 else ((byP cs).length : Int)) = ((min cs.length 300 : Nat) : Int) := by split <;> omega
 have htk : (byP cs).take (min cs.length 300) = byP (cs.take 300) := by
  unfold byP
  rw [← List.map_take]
  congr 1
  by_cases h : cs.length ≤ 300
  ·rw [Nat.min_eq_left h, List.take_of_length_le (Nat.le_refl _), List.take_of_length_le h]
  ·rw [Nat.min_eq_right (by omega)]
 refine HCall.of_triD tbl 11 [] Tryz.func26 rfl rfl rfl fun w0 M ρ0 D0 => ?_
 refine Y20 ?_;refine Y32 ?_;refine yC ?_;refine b5 (T9) ?_;rw [hmin];refine b5 (bm3 SS (ps := byP cs) (r := min cs.length 300) (by omega)) ?_;rw [htk];refine aG7 (bH0 (byP (cs.take 300)) (by rw [ay9]; simp; omega)) ?_;refine yP ?_;refine o9 SS 950 ?_;refine yA ?_;refine a6 [950] ?_;refine tQ ?_;refine Rqz ?_;exact VImp.refl _
end
section
variable (bs : List Int)
def F9 (f : Sd → Pat × Sd) (s : Sd) : Nat → List Pat × Sd
 | 0 => ([], s)
 | i + 1 => ((F9 f s i).1 ++ [(f (F9 f s i).2).1], (f (F9 f s i).2).2)
def m7 : Nat → Sd → Pat × Sd
 | 0, s => if (a4 bs 5 s).1 = 3 then (pnM (a4 bs 3 (a4 bs 5 s).2).1, (a4 bs 3 (a4 bs 5 s).2).2) else (t8, (a4 bs 5 s).2)
 | d + 1, s =>
  let k := a4 bs 5 s
  if k.1 < 3 then
   let r := p5 bs 1 4 k.2
   let n := a4 bs 2 r.2
   let c := a4 bs 3 n.2
   let ks := F9 (m7 d) c.2 c.1.toNat
   (pcM r.1 n.1 ks.1, ks.2)
  else if k.1 = 3 then (pnM (a4 bs 3 k.2).1, (a4 bs 3 k.2).2) else (t8, k.2)
theorem aG9 (f : Sd → Pat × Sd) (c : Int) (hc : 0 ≤ c) (hf : ∀ s l k, Bd s l k → Bd (f s).2 l (k + c)) (s : Sd) (l k : Int) (h : Bd s l k) : ∀ i : Nat, i ≤ 2 → Bd (F9 f s i).2 l (k + c * i)
 | 0, _ => by simpa [F9] using h
 | i + 1, hi => by
  have := hf _ _ _ (aG9 f c hc hf s l k h i (by omega))
  simp only [F9]
  refine Bd.mono this ?_
  push_cast
  rw [Int.mul_add]
  omega
theorem aH1 : ∀ (d : Nat) (c : Int), c = 2 ∧ d = 0 ∨ c = 8 ∧ d = 1 ∨ c = 20 ∧ d = 2 → ∀ (s : Sd) (l k : Int), Bd s l k → Bd (m7 bs d s).2 l (k + c)
 | 0, c, hc, s, l, k, h => by
  simp only [m7]
  split <;> (refine Bd.mono inferInstance ?_; omega)
 | d + 1, c, hc, s, l, k, h => by
  obtain ⟨c0, h0, h1, h2⟩ : ∃ c0 : Int, (c0 = 2 ∧ d = 0 ∨ c0 = 8 ∧ d = 1 ∨ c0 = 20 ∧ d = 2) ∧ 4 + 2 * c0 ≤ c ∧ 0 ≤ c0 := by
   rcases hc with ⟨_, hd⟩ | ⟨rfl, hd⟩ | ⟨rfl, hd⟩
   ·omega
   ·exact ⟨2, by omega, by omega, by omega⟩
   ·exact ⟨8, by omega, by omega, by omega⟩
  simp only [m7]
  split
  ·have hb := p8 bs (a4 bs 2 (p5 bs 1 4 (a4 bs 5 s).2).2).2 (n := 3) (by decide)
   refine Bd.mono (aG9 _ c0 h2 (fun s l k h => aH1 d c0 h0 s l k h) _ l _ inferInstance _ (by omega)) ?_
   generalize (a4 bs 3 (a4 bs 2 (p5 bs 1 4 (a4 bs 5 s).2).2).2).1 = z at hb
   obtain ⟨j, rfl⟩ := Int.eq_ofNat_of_zero_le hb.1
   have hj : j < 3 := by omega
   rcases j with _ | _ | _ | j <;> simp <;> omega
  split <;> (refine Bd.mono inferInstance ?_; omega)
instance (s : Sd) (l k : Int) [h : Bd s l k] : Bd (m7 bs 2 s).2 l (k + 20) := aH1 bs 2 20 (by omega) s l k h
instance (s : Sd) (l k : Int) [h : Bd s l k] : Bd (m7 bs 1 s).2 l (k + 8) := aH1 bs 1 8 (by omega) s l k h
instance (s : Sd) (l k : Int) [h : Bd s l k] : Bd (m7 bs 0 s).2 l (k + 2) := aH1 bs 0 2 (by omega) s l k h
structure Sk where
 f : Int → Sd → Int → Tm × Sd × Int
class Sc (m : Sk) : Prop where
 h : ∀ d s l k, Bd s l k → Bd (m.f d s l).2.1 (m.f d s l).2.2 (k + 100)
 le : ∀ d s l, (m.f d s l).2.2 ≤ l
variable (m : Sk) [hm : Sc m]
instance (d : Int) (s : Sd) (l k : Int) [h : Bd s l k] : Bd (m.f d s l).2.1 (m.f d s l).2.2 (k + 100) := hm.h d s l k h
instance (d : Int) (s : Sd) (x l : Int) [h : Dn x l] : Dn (m.f d s x).2.2 l := ⟨Int.le_trans (hm.le d s x) h.h⟩
def scL (m : Sk) (d : Int) (s : Sd) (l : Int) : Nat → List Tm × Sd × Int
 | 0 => ([], s, l)
 | i + 1 => ((scL m d s l i).1 ++ [(m.f d (scL m d s l i).2.1 (scL m d s l i).2.2).1], (m.f d (scL m d s l i).2.1 (scL m d s l i).2.2).2)
def caL (m : Sk) (d : Int) (s : Sd) (l : Int) : Nat → List Cs × Sd × Int
 | 0 => ([], s, l)
 | i + 1 =>
  let p := m7 bs 2 (caL m d s l i).2.1
  let y := m.f (d + j2 p.1) p.2 (caL m d s l i).2.2
  ((caL m d s l i).1 ++ [.mk p.1 y.1], y.2)
theorem as9 (d : Int) (s : Sd) (l k : Int) [h : Bd s l k] : ∀ i : Nat, Bd (scL m d s l i).2.1 (scL m d s l i).2.2 (k + 100 * i)
 | 0 => by simpa [scL] using h
 | i + 1 => by
  have := as9 d s l k i
  simp only [scL]
  refine Bd.mono inferInstance ?_
  push_cast; omega
theorem bd3 (d : Int) (s : Sd) (l k : Int) [h : Bd s l k] : ∀ i : Nat, Bd (caL bs m d s l i).2.1 (caL bs m d s l i).2.2 (k + 120 * i)
 | 0 => by simpa [caL] using h
 | i + 1 => by
  have := bd3 d s l k i
  simp only [caL]
  refine Bd.mono inferInstance ?_
  push_cast; omega
theorem aG4 (d : Int) (s : Sd) (x l : Int) [h : Dn x l] : ∀ i : Nat, Dn (scL m d s x i).2.2 l
 | 0 => h
 | i + 1 => by
  have := aG4 d s x l i
  simp only [scL]
  infer_instance
theorem bd2 (d : Int) (s : Sd) (x l : Int) [h : Dn x l] : ∀ i : Nat, Dn (caL bs m d s x i).2.2 l
 | 0 => h
 | i + 1 => by
  have := bd2 d s x l i
  simp only [caL]
  infer_instance
def w5 (m : Sk) (k : Int) (d : Int) (s : Sd) (l : Int) : Tm × Sd × Int :=
 if k = 0 ∧ 0 < d then (vaM (a4 bs d s).1, (a4 bs d s).2, l)
 else if k = 2 then (deM (p5 bs 21 4 s).1, (p5 bs 21 4 s).2, l)
 else if k < 4 then (nuM (a4 bs 4 s).1, (a4 bs 4 s).2, l)
 else if k = 4 then let e := m.f (d + 1) s l; (laM e.1, e.2)
 else if k < 7 then let e := m.f (d + 0) s l; let g := m.f (d + 0) e.2.1 e.2.2; (apM e.1 g.1, g.2)
 else if k = 7 then let e := m.f (d + 0) s l; let g := m.f (d + 1) e.2.1 e.2.2; (leM e.1 g.1, g.2)
 else if k = 8 then let f := y5 bs 1 5 s; let e := m.f (d + 0) f.2 l; let g := m.f (d + 0) e.2.1 e.2.2; (prM f.1 e.1 g.1, g.2)
 else if k = 9 then let r := p5 bs 11 3 s; let n := a4 bs 2 r.2; let e := m.f (d + 0) n.2 l; (doT r.1 n.1 e.1, e.2)
 else if k = 10 then
  let r := p5 bs 11 3 s
  let e := m.f (d + 0) r.2 l
  let g := m.f (d + 1) e.2.1 e.2.2
  let c := a4 bs 3 g.2.1
  let z := scL m (d + 2) c.2 g.2.2 c.1.toNat
  (haM r.1 (e.1 :: g.1 :: z.1), z.2)
 else if k = 11 then
  let e := m.f (d + 0) s l
  let c := a4 bs 3 e.2.1
  let z := caL bs m d c.2 e.2.2 c.1.toNat
  (maM e.1 z.1, z.2)
 else
  let r := p5 bs 1 4 s
  let n := a4 bs 3 r.2
  let c := a4 bs 3 n.2
  let z := scL m (d + 0) c.2 l c.1.toNat
  (coM r.1 n.1 z.1, z.2)
theorem three {z : Int} (h : 0 ≤ z ∧ z < 3) : (z.toNat : Int) ≤ 2 := by omega
theorem bx9 (k' : Int) (d : Int) (s : Sd) (l k : Int) [h : Bd s l k] : Bd (w5 bs m k' d s l).2.1 (w5 bs m k' d s l).2.2 (k + 450) := by
 simp only [w5]
 repeat' split
 all_goals first
  | (refine Bd.mono inferInstance ?_; omega)
  | (refine Bd.mono (as9 m _ _ _ _ _) ?_; have := three (p8 bs (m.f (d + 1) (m.f (d + 0) (p5 bs 11 3 s).2 l).2.1 (m.f (d + 0) (p5 bs 11 3 s).2 l).2.2).2.1 (n := 3) (by decide)); omega)
  | (refine Bd.mono (bd3 bs m _ _ _ _ _) ?_; have := three (p8 bs (m.f (d + 0) s l).2.1 (n := 3) (by decide)); omega)
  | (refine Bd.mono (as9 m _ _ _ _ _) ?_; have := three (p8 bs (a4 bs 3 (p5 bs 1 4 s).2).2 (n := 3) (by decide)); omega)
theorem aM8 (k' : Int) (d : Int) (s : Sd) (x l : Int) [h : Dn x l] : Dn (w5 bs m k' d s x).2.2 l := by
 simp only [w5]
 repeat' split
 all_goals first
  | infer_instance
  | exact aG4 m _ _ _ _ _
  | exact bd2 bs m _ _ _ _ _
def G0 (l : Int) (s : Sd) : Int × Sd := if l ≤ 0 then a4 bs 4 (a4 bs 14 s).2 else a4 bs 14 s
theorem aw0 (x : Int) (s : Sd) (l k : Int) [h : Bd s l k] : Bd (G0 bs x s).2 l (k + 2) := by
 unfold G0
 split <;> (refine Bd.mono inferInstance ?_; omega)
def aa8 : Sk := ⟨fun _ s l => (S2, s, l)⟩
instance : Sc aa8 := ⟨fun _ _ _ _ h => Bd.mono h (by omega), fun _ _ l => Int.le_refl l⟩
def j9 : Nat → Sk
 | 0 => ⟨fun d s l => if l - 1 ≤ 0 then w5 bs aa8 (G0 bs (l - 1) s).1 d (G0 bs (l - 1) s).2 (l - 1) else (nuM 0, s, l - 1)⟩
 | n + 1 => ⟨fun d s l => w5 bs (j9 n) (G0 bs (l - 1) s).1 d (G0 bs (l - 1) s).2 (l - 1)⟩
end
section
section
variable (bs : List Int)
theorem R5 {x : Int} {s : Sd} (h : x ≤ 0) : (G0 bs x s).1 < 4 := by
 unfold G0
 rw [if_pos h];exact (p8 bs _ (by decide)).2
theorem bY6 (x : Int) (s : Sd) : 0 ≤ (G0 bs x s).1 ∧ (G0 bs x s).1 < 14 := by
 unfold G0
 split
 ·have := p8 bs (a4 bs 14 s).2 (n := 4) (by decide); omega
 ·exact p8 bs _ (by decide)
theorem at0 (m : Sk) (k' : Int) (hk : k' < 4) (d : Int) (s : Sd) (l k : Int) [h : Bd s l k] : Bd (w5 bs m k' d s l).2.1 (w5 bs m k' d s l).2.2 (k + 1) := by
 unfold w5
 split
 ·infer_instance
 split
 ·infer_instance
 infer_instance
instance sc_sc : ∀ n : Nat, Sc (j9 bs n)
 | 0 => ⟨fun d s l k h => by
  have hd := h.dec
  simp only [j9]
  split
  ·rename_i hl
   have := aw0 bs (l - 1) s (l - 1) (k + 1)
   exact Bd.mono (at0 bs aa8 _ (R5 bs hl) d _ _ (k + 1 + 2)) (by omega)
  ·exact Bd.mono hd (by omega), fun d s l => by
  simp only [j9]
  split
  ·have : Dn (l - 1) l := ⟨by omega⟩
   exact (aM8 bs aa8 _ d _ (l - 1) l).h
  ·show l - 1 ≤ l
   omega⟩
 | n + 1 => ⟨fun d s l k h => by
  have ih := sc_sc n
  simp only [j9]
  by_cases hl : l - 1 ≤ 0
  ·have hd := h.dec
   have := aw0 bs (l - 1) s (l - 1) (k + 1)
   exact Bd.mono (at0 bs _ _ (R5 bs hl) d _ _ (k + 1 + 2)) (by omega)
  ·have hd := h.down (by omega)
   have := aw0 bs (l - 1) s (l - 1) (k - 2001)
   exact Bd.mono (bx9 bs _ _ d _ _ (k - 2001 + 2)) (by omega), fun d s l => by
  have ih := sc_sc n
  have : Dn (l - 1) l := ⟨by omega⟩
  simp only [j9]
  exact (aM8 bs _ _ d _ (l - 1) l).h⟩
end
section
variable {G : List (Nat × TypeId × Pu)}
theorem ch0 (r : List Int) (n : Int) : FCall Tryz.prog G 67 [.pu (f5 r), iv .i64 n, .nilc] (.agg 104 [iv .i64 3, iv .i64 n, .pu (f5 r), .nilc]) := by
 refine Fq 11 Tryz.func67 ?_;intro w0 M ρ0 D0
 refine Y45 ?_;refine a8 SS 6 ?_;refine a6 [3, 6] ?_;refine Y5 ?_;refine Y19 ?_;refine Y49 ?_;refine Rc ?_;exact VImp.refl _
theorem ch2 (r : List Int) (n : Int) : FCall Tryz.prog G 43 [.pu (f5 r), iv .i64 n, .nilc] (.agg 32 [iv .i64 8, iv .i64 n, .pu (f5 r), .nilc, .nilc]) := by
 refine Fq 11 Tryz.func43 ?_;intro w0 M ρ0 D0
 refine Y45 ?_;refine a8 SS 6 ?_;refine a6 [3, 6] ?_;refine Y5 ?_;refine Y19 ?_;refine Y49 ?_;refine Rc ?_;exact VImp.refl _
theorem ch1 (t : Tm) : FCall Tryz.prog G 62 [.pu (tmc 0 t), .nilc] (.agg 32 [iv .i64 9, iv .i64 0, .pu (f5 Z32), .xs 0 32 [tmc 0 t], .nilc]) := by
 refine Fq 9 Tryz.func62 ?_;intro w0 M ρ0 D0
 refine Y39 ?_;refine a8 SS 4 ?_;refine a6 [2, 4] ?_;refine Y5 ?_;refine yZ ?_;refine yM ?_;refine Y49 ?_;refine Rc ?_;exact VImp.refl _
mutual
def pkP : Pat → Prop
 | .mk k _ _ ks => (k = 1 ∨ k = 3 ∨ ks = []) ∧ bp1 ks
def bp1 : List Pat → Prop
 | [] => True
 | p :: ps => pkP p ∧ bp1 ps
end
theorem aO4 : ∀ {ks : List Pat} {i : Nat} (h : i < ks.length), bp1 ks → pkP ks[i]
 | p :: ps, 0, _, h => h.1
 | p :: ps, i + 1, hi, h => aO4 (ks := ps) (i := i) (by simpa using hi) h.2
theorem bD0 : ∀ (N : Nat) (p : Pat), pkP p → k9 p ≤ N → N < 2^40 → FCall Tryz.prog G 209 [.pu (A6 0 p)] (iv .i64 (j2 p)) := by
 intro N
 induction N with
 | zero => intro p _ h; cases p; simp [k9] at h
 | succ N ih =>
 intro p hpk hp hN
 obtain ⟨k, n, r, ks⟩ := p
 simp only [k9] at hp
 obtain ⟨hk, hks⟩ := hpk
 have hlen := o4 ks
 refine Fq 25 Tryz.func209 ?_;intro w0 M ρ0 D0
 refine Y44 ?_;refine yB ?_;refine a6 [1] ?_;refine Y37 ?_;refine Y0 ?_;refine Cq ?_ ?_
 ·intro h0
  refine Y9 ?_;refine Rq ?_;exact d4 (by simp_all [j2])
 ·intro h0
  refine Tri.skip ?_;refine Y20 ?_;refine Y37 ?_;refine Y0 ?_;refine Cq ?_ ?_
  ·intro h1
   refine Y22 ?_;refine Y38 ?_;refine Tri.block (Tri.loopW (σ := Nat) (fun i => ⟨[(13, .pu (.sl 0 104 (v6 0 ks))), (14, iv .i64 (v6 0 ks).length), (15, iv .i64 i), (3, iv .i64 (A3 (ks.take i)))], []⟩) (fun i => ks.length - i) 0 ?_ ?_ (fun i => ?_))
   ·exact zW
   ·exact zW
   refine Y30 ?_;refine Cq ?_ ?_
   ·intro h2
    have hi : i < ks.length := by simpa [A4] using h2
    have h1' := K0 (ks.take i)
    have h2 := z8 ks[i]
    have h3 := Q1 (ks := ks) (i := i)
    have h4 := x6 hi
    refine Y76 ?_;refine b5 (j6 SS (h0 := by omega) (hp := L6 hi)) ?_;refine yL ?_;refine a8 SS 5 ?_;refine yS ?_;refine a6 [5] ?_;refine Y40 ?_;refine Dq (ih ks[i] (aO4 hi hks) (by omega) (by omega)) ?_;refine yI ?_;refine Y12 ?_;refine Y25 ?_
    refine ⟨i + 1, by omega, k7 ?_ ?_⟩
    ·repeat (first | exact SubE.nil | refine SubE.cons rfl (by first | rfl | (rw [b4 (by omega) (by omega)]; rfl) | (rw [G3 hi, b4 (by omega) (by omega)])) ?_)
    ·repeat (first | exact SubH.nil | refine SubH.cons rfl (by first | rfl | (rw [b4 (by omega) (by omega)]; rfl) | (rw [G3 hi, b4 (by omega) (by omega)])) ?_)
   ·intro h2
    have hi : ks.length ≤ i := by simpa [A4] using h2
    rw [List.take_of_length_le hi]
    have hb : j2 (.mk k n r ks) = A3 ks := by simp at h0; simp [j2, h0]
    rw [hb];refine Tri.exit ?_;refine Y1 ?_;refine Y2 ?_;refine Rq ?_;exact VImp.refl _
  ·intro h1
   have hb : j2 (.mk k n r ks) = 0 := by simp at h0 h1; simp [j2, h0]; rcases hk with hk | hk | hk <;> simp_all [A3]
   rw [hb];refine Y72 ?_;refine Y2 ?_;refine Rq ?_;exact VImp.refl _
end
section
variable (bs : List Int)
theorem ac7 (f : Sd → Pat × Sd) (s : Sd) : ∀ i, (F9 f s i).1.length = i
 | 0 => rfl
 | i + 1 => by simp [F9, ac7 f s i]
theorem al4 {f : Sd → Pat × Sd} {φ : Pat → Prop} (hf : ∀ s, φ (f s).1) (s : Sd) : ∀ i, ∀ p ∈ (F9 f s i).1, φ p
 | 0, p, hp => by simp [F9] at hp
 | i + 1, p, hp => by
  simp only [F9, List.mem_append, List.mem_singleton] at hp
  rcases hp with hp | rfl
  ·exact al4 hf s i p hp
  ·exact hf _
theorem aO5 : ∀ {l : List Pat}, (∀ p ∈ l, pkP p) → bp1 l
 | [], _ => trivial
 | p :: ps, h => ⟨h p (by simp), aO5 fun q hq => h q (by simp [hq])⟩
theorem bA1 : ∀ (d : Nat) (s : Sd), pkP (m7 bs d s).1
 | 0, s => by simp only [m7]; split <;> simp [pnM, t8, pkP, bp1]
 | d + 1, s => by
  simp only [m7]
  split
  ·exact ⟨.inr (.inl rfl), aO5 (al4 (bA1 d) _ _)⟩
  split <;> simp [pnM, t8, pkP, bp1]
theorem au3 {c : Nat} : ∀ {l : List Pat}, (∀ p ∈ l, k9 p ≤ c) → n7 l ≤ l.length * c
 | [], _ => by simp [n7]
 | p :: ps, h => by
  have h1 := h p (by simp)
  have h2 := au3 (l := ps) fun q hq => h q (by simp [hq])
  simp only [n7, List.length_cons, Nat.succ_mul]
  omega
theorem aa4 (s : Sd) : (a4 bs 3 s).1.toNat ≤ 2 := by have := p8 bs s (n := 3) (by decide); omega
theorem Z9 : ∀ (d c : Nat), (d = 0 ∧ c = 1 ∨ d = 1 ∧ c = 3 ∨ d = 2 ∧ c = 7) → ∀ (s : Sd), k9 (m7 bs d s).1 ≤ c
 | 0, c, hc, s => by simp only [m7]; split <;> simp [pnM, t8, k9, n7] <;> omega
 | d + 1, c, hc, s => by
  obtain ⟨c0, h0, h1⟩ : ∃ c0 : Nat, (d = 0 ∧ c0 = 1 ∨ d = 1 ∧ c0 = 3 ∨ d = 2 ∧ c0 = 7) ∧ 1 + 2 * c0 ≤ c := by
   rcases hc with ⟨hd, _⟩ | ⟨hd, rfl⟩ | ⟨hd, rfl⟩
   ·omega
   ·exact ⟨1, by omega, by omega⟩
   ·exact ⟨3, by omega, by omega⟩
  simp only [m7]
  split
  ·have h2 := aa4 bs (a4 bs 2 (p5 bs 1 4 (a4 bs 5 s).2).2).2
   generalize (a4 bs 3 (a4 bs 2 (p5 bs 1 4 (a4 bs 5 s).2).2).2).1.toNat = z at h2
   have h3 := au3 (al4 (f := m7 bs d) (φ := fun p => k9 p ≤ c0) (fun s => Z9 d c0 h0 s) (a4 bs 3 (a4 bs 2 (p5 bs 1 4 (a4 bs 5 s).2).2).2).2 z)
   rw [ac7] at h3
   have h4 : z * c0 ≤ 2 * c0 := Nat.mul_le_mul_right c0 h2
   simp only [pcM, k9]
   omega
  split <;> simp [pnM, t8, k9, n7] <;> omega
end
variable (bs : List Int) [hz : Bz bs]
theorem bY0 (s : Sd) {l k : Int} [h : Bd s l k] (hk : k ≤ 10000) : HCall Tryz.prog gL 208 [.ptr 950 [] 171, iv .i64 0] [] (stO bs s) (.pu (A6 0 (m7 bs 0 s).1)) (stO bs (m7 bs 0 s).2) [] := by
 refine HCall.of_triD tbl 43 [950] Tryz.func208 rfl rfl rfl fun w0 M ρ0 D0 => ?_
 simp only [m7]
 refine yR ?_;refine a8 SS 4 ?_;refine a6 [4] ?_;refine Y1 ?_;refine a9 (n4 bs 5 s (by omega)) ?_;refine Y2 ?_;refine Tri.block ?_;refine Y59 ?_;refine Cq ?_ ?_
 ·intro h0;exfalso
  simp at h0
 ·intro h0
  refine Y46 ?_;refine Cq ?_ ?_
  ·intro h2
   rw [if_pos (eq_of_beq h2)];refine Y1 ?_;refine a9 (n4 bs 3 (a4 bs 5 s).2 (by omega)) ?_;refine Dq (bI6 _) ?_;refine Y10 ?_;refine Rcz ?_;exact VImp.refl _
  ·intro h2
   rw [if_neg (fun e => by rw [e] at h2; simp at h2)];refine Tri.skip ?_;refine yR ?_;refine Dq Q7 ?_;refine Y10 ?_;refine Rcz ?_;exact VImp.refl _
theorem bA2 (K : Int) (hK : K ≤ 10000) (d : Nat) (hd : d ≤ 5) (kd : Int) (hkd : 0 ≤ kd ∧ kd ≤ 100) (ihb : ∀ s l k, Bd s l k → Bd (m7 bs d s).2 l (k + kd)) (ih : ∀ (s : Sd) (l k : Int) [Bd s l k], k ≤ K → HCall Tryz.prog gL 208 [.ptr 950 [] 171, iv .i64 d] [] (stO bs s) (.pu (A6 0 (m7 bs d s).1)) (stO bs (m7 bs d s).2) [])
  (s : Sd) {l k : Int} [h : Bd s l k] (hk : k ≤ K - 1000) : HCall Tryz.prog gL 208 [.ptr 950 [] 171, iv .i64 (d + 1 : Nat)] [] (stO bs s) (.pu (A6 0 (m7 bs (d + 1) s).1)) (stO bs (m7 bs (d + 1) s).2) [] := by
 have hw : IntKind.i64.wrap (((d + 1 : Nat) : Int) - 1) = d := by rw [b4 (by omega) (by omega)]; omega
 refine HCall.of_triD tbl 43 [950] Tryz.func208 rfl rfl rfl fun w0 M ρ0 D0 => ?_
 simp only [m7]
 refine yR ?_;refine a8 SS 4 ?_;refine a6 [4] ?_;refine Y1 ?_;refine a9 (n4 bs 5 s (by omega)) ?_;refine Y2 ?_;refine Tri.block ?_;refine Y59 ?_;refine Cq ?_ ?_
 ·intro h0
  have g0 : (a4 bs 5 s).1 < 3 := by simp at h0; omega
  rw [if_pos g0]
  obtain ⟨r, hr⟩ : ∃ r, r = p5 bs 1 4 (a4 bs 5 s).2 := ⟨_, rfl⟩
  obtain ⟨n, hn⟩ : ∃ n, n = a4 bs 2 r.2 := ⟨_, rfl⟩
  obtain ⟨c, hc⟩ : ∃ c, c = a4 bs 3 n.2 := ⟨_, rfl⟩
  have hbr : Bd r.2 l (k + 2) := hr ▸ Bd.mono (inferInstance : Bd (p5 bs 1 4 (a4 bs 5 s).2).2 l (k + 1 + 1)) (by omega)
  have hbn : Bd n.2 l (k + 3) := hn ▸ Bd.mono (inferInstance : Bd (a4 bs 2 r.2).2 l (k + 2 + 1)) (by omega)
  have hbc : Bd c.2 l (k + 4) := hc ▸ Bd.mono (inferInstance : Bd (a4 bs 3 n.2).2 l (k + 3 + 1)) (by omega)
  have hcb : 0 ≤ c.1 ∧ c.1 < 3 := hc ▸ p8 bs n.2 (n := 3) (by decide)
  have hlp (i : Nat) (hi : i ≤ 2) : Bd (F9 (m7 bs d) c.2 i).2 l (k + 300) := Bd.mono (aG9 _ kd hkd.1 ihb c.2 l (k + 4) hbc i hi) (by have : kd * (i : Int) ≤ kd * 2 := Int.mul_le_mul_of_nonneg_left (by omega) hkd.1; omega)
  rw [← hr, ← hn, ← hc];refine Y1 ?_;refine a9 (au8 bs 1 4 (a4 bs 5 s).2 (by omega)) ?_;refine yM ?_;rw [← hr];refine a9 (n4 bs 2 r.2 (by omega)) ?_;rw [← hn];refine Dq (ch0 r.1 n.1) ?_;refine a8 SS 6 ?_;refine yS ?_;refine a6 [6] ?_;refine Y1 ?_;refine a9 (n4 bs 3 n.2 (by omega)) ?_;refine yJ ?_;refine A7 ?_;rw [← hc];refine tQ ?_
  refine Tri.block (Tri.loopW (σ := {i : Nat // i ≤ c.1.toNat}) (fun i => ⟨[(0, .ptr 950 [] 171), (1, iv .i64 (d + 1 : Nat)), (4, .ptr 4 [] 104), (6, .ptr 6 [] 104), (22, iv .i64 c.1), (23, iv .i64 i.1)], [(4, .var 104 (.agg 104 [iv .i64 0, iv .i64 0, .pu (f5 Z32), .nilc])), (6, .var 104 (.agg 104 [iv .i64 3, iv .i64 n.1, .pu (f5 r.1), .ow 0 104 (v6 0 (F9 (m7 bs d) c.2 i.1).1)]))] ++ stO bs (F9 (m7 bs d) c.2 i.1).2⟩) (fun i => c.1.toNat - i.1) ⟨0, Nat.zero_le _⟩ ?_ ?_ (fun i => ?_))
  ·exact zW
  ·exact zW
  refine Y30 ?_;refine Cq ?_ ?_
  ·intro h1
   have hi : i.1 < c.1.toNat := by have := of_decide_eq_true h1; omega
   have hbi := hlp i.1 (by omega)
   have hll := ac7 (m7 bs d) c.2 i.1
   have hts : v6 0 (F9 (m7 bs d) c.2 (i.1 + 1)).1 = v6 0 (F9 (m7 bs d) c.2 i.1).1 ++ [A6 0 (m7 bs d (F9 (m7 bs d) c.2 i.1).2).1] := by simp [F9, A4]
   refine Y26 ?_;refine Y22 ?_;refine Y19 ?_;refine yI ?_;rw [hw];refine a9 (ih (F9 (m7 bs d) c.2 i.1).2 l _ (by omega)) ?_;refine yZ ?_;refine O1 6 [3] ?_ ?_
   ·simp [A4]; omega
   refine yF ?_;refine yW ?_;refine x8 ?_;refine Y25 ?_
   refine ⟨⟨i.1 + 1, hi⟩, by show c.1.toNat - (i.1 + 1) < c.1.toNat - i.1; omega, k7 ?_ ?_⟩
   ·repeat (first | exact SubE.nil | refine SubE.cons rfl (by first | rfl | (rw [b4 (by omega) (by omega)]; rfl) | ((rw [hts]; rfl))) ?_)
   ·repeat (first | exact SubH.nil | refine SubH.cons rfl (by first | rfl | (rw [b4 (by omega) (by omega)]; rfl) | ((rw [hts]; rfl))) ?_)
  ·intro h1
   have hi : i.1 = c.1.toNat := by have := of_decide_eq_false h1; have := i.2; omega
   rw [hi];refine Tri.exit ?_;refine Y61 ?_;refine Rcz ?_;exact ToPu.imp (by repeat constructor)
 ·intro h0
  have g0 : ¬ (a4 bs 5 s).1 < 3 := by simp at h0; omega
  rw [if_neg g0];refine Y46 ?_;refine Cq ?_ ?_
  ·intro h2
   rw [if_pos (eq_of_beq h2)];refine Y1 ?_;refine a9 (n4 bs 3 (a4 bs 5 s).2 (by omega)) ?_;refine Dq (bI6 _) ?_;refine Y10 ?_;refine Rcz ?_;exact VImp.refl _
  ·intro h2
   rw [if_neg (fun e => by rw [e] at h2; simp at h2)];refine Tri.skip ?_;refine yR ?_;refine Dq Q7 ?_;refine Y10 ?_;refine Rcz ?_;exact VImp.refl _
theorem bX9 (s : Sd) {l k : Int} [h : Bd s l k] (hk : k ≤ 7000) : HCall Tryz.prog gL 208 [.ptr 950 [] 171, iv .i64 2] [] (stO bs s) (.pu (A6 0 (m7 bs 2 s).1)) (stO bs (m7 bs 2 s).2) [] := by
 have h1 := fun (s : Sd) (l k : Int) [Bd s l k] (hk : k ≤ 9000) => bA2 bs 10000 (by omega) 0 (by omega) 2 (by omega) (fun s l k h => inferInstance) (fun s l k _ hk => bY0 bs s (k := k) (l := l) hk) s (k := k) (l := l) (by omega)
 exact bA2 bs 9000 (by omega) 1 (by omega) 8 (by omega) (fun s l k h => inferInstance) (fun s l k _ hk => h1 s l k hk) s (k := k) (l := l) (by omega)
end
section
def ScC (bs : List Int) (m : Sk) (n : Nat) : Prop := ∀ (d : Int) (s : Sd) (l k : Int) [Bd s l k] [Lt l n], 0 ≤ d → d + 100 * (n + 1) ≤ 100000 → k ≤ 0 →
 HCall Tryz.prog gL 141 [.ptr 951 [] 174, iv .i64 d, iv .i64 0] [] (mkO bs s l) (.pu (tmc 0 (m.f d s l).1)) (mkO bs (m.f d s l).2.1 (m.f d s l).2.2) []
variable (bs : List Int) [hz : Bz bs] (m : Sk) [hm : Sc m] (n : Nat)
abbrev scR (d : Int) : List (Nat × Ob) := [(3, .var 172 (.ptr 951 [] 174)), (4, .var 3 (iv .i64 d)), (5, .var 3 (iv .i64 0))]
instance (d : Int) (s : Sd) (l : Int) [h : Lt l n] : Lt (m.f d s l).2.2 n := ⟨Int.le_trans (hm.le d s l) h.h⟩
theorem P6 (H : ScC bs m n) (d e : Int) (hd : 0 ≤ d ∧ 0 ≤ e ∧ e ≤ 100 ∧ d + e + 100 * (n + 1) ≤ 100000) (s : Sd) (l : Int) {k : Int} [h : Bd s l k] [hl : Lt l n] (hk : k ≤ 0) : HCall Tryz.prog gL 205 [iv .i64 e, .ptr 3 [] 172, .ptr 4 [] 3, .ptr 5 [] 3] (scR d) (mkO bs s l) (.pu (tmc 0 (m.f (d + e) s l).1)) (mkO bs (m.f (d + e) s l).2.1 (m.f (d + e) s l).2.2) [] := by
 have hw : IntKind.i64.wrap (d + e) = d + e := b4 (by omega) (by omega)
 refine HCall.of_triD tbl 12 [950, 951, 3, 4, 5] Tryz.func205 rfl rfl rfl fun w0 M ρ0 D0 => ?_
 refine yR ?_;refine a8 SS 31 ?_;refine a6 [31] ?_;refine Y43 ?_;refine yM ?_;refine yI ?_;refine yL ?_;rw [hw];refine a9 (H (d + e) s l k (by omega) (by omega) hk) ?_;refine Y10 ?_;refine Rcz ?_;exact VImp.refl _
theorem aG3 (d : Int) (s : Sd) (l : Int) : ∀ i, (scL m d s l i).1.length = i
 | 0 => rfl
 | i + 1 => by simp [scL, aG3 d s l i]
theorem bl0 (d : Int) (s : Sd) (l : Int) : ∀ i, (caL bs m d s l i).1.length = i
 | 0 => rfl
 | i + 1 => by simp [caL, bl0 d s l i]
theorem bQ4 (a b : List Cs) {lo : Nat} : C7 lo (a ++ b) = C7 lo a ++ C7 lo b := by simp [R8]
set_option maxHeartbeats 4000000 in
theorem aB3 (d : Int) (s : Sd) (l k : Int) [h : Bd s l k] (hd : 0 ≤ d ∧ d ≤ 100000) (hk : k ≤ 0) (hH : 0 < l - 1 → ScC bs m n ∧ Lt (l - 1) n ∧ d + 100 * (n + 2) ≤ 100000) :
  HCall Tryz.prog gL 141 [.ptr 951 [] 174, iv .i64 d, iv .i64 0] [] (mkO bs s l) (.pu (tmc 0 (w5 bs m (G0 bs (l - 1) s).1 d (G0 bs (l - 1) s).2 (l - 1)).1)) (mkO bs (w5 bs m (G0 bs (l - 1) s).1 d (G0 bs (l - 1) s).2 (l - 1)).2.1 (w5 bs m (G0 bs (l - 1) s).1 d (G0 bs (l - 1) s).2 (l - 1)).2.2) [] := by
 have hlow := h.low hk
 have hup : l ≤ 2305843009213693952 := by have := h.h; omega
 obtain ⟨y, hy⟩ : ∃ y, y = l - 1 := ⟨_, rfl⟩
 have hwl : IntKind.i64.wrap (l - 1) = y := by rw [hy]; exact b4 (by omega) (by omega)
 have hbd : Bd s y (k + 1) := hy ▸ h.dec
 rw [← hy] at hH ⊢
 refine HCall.of_triD tbl 223 [950, 951] Tryz.func141 rfl rfl rfl fun w0 M ρ0 D0 => ?_
 refine Y45 ?_;refine Y75 ?_;refine a8 SS 6 ?_;refine a6 [3, 4, 5, 6] ?_;refine Y63 ?_;refine Y71 ?_;rw [hwl];refine Y27 ?_;refine Y12 ?_;refine Y33 ?_;refine a9 (n4 bs 14 s (by omega)) ?_;refine Y12 ?_;refine Y33 ?_;refine Y53 ?_
 refine Tri.cutW (σ := {x : Int × Sd // x = G0 bs y s}) (fun x => ⟨[(3, .ptr 3 [] 172), (4, .ptr 4 [] 3), (5, .ptr 5 [] 3), (6, .ptr 6 [] 32), (7, .fn (.func 205) [] [.ptr 3 [] 172, .ptr 4 [] 3, .ptr 5 [] 3]), (8, iv .i64 x.1.1)], [(6, .var 32 (.agg 32 [iv .i64 0, iv .i64 0, .pu (f5 Z32), .nilc, .nilc]))] ++ scR d ++ mkO bs x.1.2 y⟩) ?_ (fun x => ?_)
 ·skip
  refine tQ ?_;refine Cq ?_ ?_
  ·intro h0
   have hlw : a4 bs 4 (a4 bs 14 s).2 = G0 bs y s := by unfold G0; rw [if_pos (of_decide_eq_true h0)]
   refine Y33 ?_;refine a9 (n4 bs 4 (a4 bs 14 s).2 (by omega)) ?_;refine Y12 ?_
   refine ⟨⟨_, hlw⟩, ?_, ?_⟩
   ·exact zW
   ·exact zW
  ·intro h0
   have hlw : a4 bs 14 s = G0 bs y s := by unfold G0; rw [if_neg (of_decide_eq_false h0)]
   refine Tri.skip ?_
   refine ⟨⟨_, hlw⟩, ?_, ?_⟩
   ·exact zW
   ·exact zW
 ·skip
  obtain ⟨x, hx⟩ := x
  dsimp only
  have hbx : Bd x.2 y (k + 3) := hx ▸ Bd.mono (aw0 bs y s y (k + 1)) (by omega)
  have hxb : 0 ≤ x.1 ∧ x.1 < 14 := hx ▸ bY6 bs y s
  have hbig : ¬ x.1 < 4 → Bd x.2 y (k - 1999) ∧ ScC bs m n ∧ Lt y n ∧ d + 100 * (n + 2) ≤ 100000 := fun hx4 => by
   have hy0 : 0 < y := Decidable.byContradiction fun h0 => hx4 (hx ▸ R5 bs (by omega))
   have hb2 : Bd s y (k - 2001) := hy ▸ h.down (by omega)
   exact ⟨hx ▸ Bd.mono (aw0 bs y s y (k - 2001)) (by omega), hH hy0⟩
  rw [← hx]
  simp only [w5]
  refine Y77 ?_;refine Y15 ?_;refine Y69 ?_;refine Y21 ?_;refine Y2 ?_;refine Cq ?_ ?_
  ·intro h1
   have g1 : x.1 = 0 ∧ 0 < d := by simp at h1; omega
   rw [if_pos g1];refine Y33 ?_;refine yL ?_;refine a9 (n4 bs d x.2 (by omega)) ?_;refine Dq (W3 _) ?_;refine Y29 ?_;refine Rcz ?_;exact VImp.refl _
  ·intro h1
   have g1 : ¬ (x.1 = 0 ∧ 0 < d) := by simp at h1; omega
   rw [if_neg g1];refine Y15 ?_;refine Y69 ?_;refine Y21 ?_;refine Y2 ?_;refine Cq ?_ ?_
   ·intro h2;exfalso
    simp at h2
   ·intro h2
    refine Y46 ?_;refine Cq ?_ ?_
    ·intro h3
     rw [if_pos (eq_of_beq h3)];refine Y33 ?_;refine a9 (au8 bs 21 4 x.2 (by omega)) ?_;refine Dq (aK4 _) ?_;refine Y10 ?_;refine Rcz ?_;exact VImp.refl _
    ·intro h3
     have g3 : ¬ x.1 = 2 := by simpa using h3
     rw [if_neg g3];refine Y46 ?_;refine Cq ?_ ?_
     ·intro h4
      rw [if_pos (of_decide_eq_true h4)];refine Y33 ?_;refine a9 (n4 bs 4 x.2 (by omega)) ?_;refine Dq (X5 _) ?_;refine Y10 ?_;refine Rcz ?_;exact VImp.refl _
     ·intro h4
      have g4 := of_decide_eq_false h4
      rw [if_neg g4]
      obtain ⟨hbx2, H, hly, hdn⟩ := hbig g4
      clear hbx hbig;refine Y46 ?_;refine Cq ?_ ?_
      ·intro h5
       rw [if_pos (eq_of_beq h5)];refine Y1 ?_;refine a9 (P6 bs m n H d 1 (by omega) x.2 y (by omega)) ?_;refine Dq (aA7 _) ?_;refine Y10 ?_;refine Rcz ?_;exact VImp.refl _
      ·intro h5
       have g5 : ¬ x.1 = 4 := by simpa using h5
       rw [if_neg g5];refine Y46 ?_;refine Tri.cutT ⟨[(3, .ptr 3 [] 172), (4, .ptr 4 [] 3), (5, .ptr 5 [] 3), (6, .ptr 6 [] 32), (7, .fn (.func 205) [] [.ptr 3 [] 172, .ptr 4 [] 3, .ptr 5 [] 3]), (8, iv .i64 x.1), (88, bv (decide (x.1 < 7)))], [(6, .var 32 (.agg 32 [iv .i64 0, iv .i64 0, .pu (f5 Z32), .nilc, .nilc]))] ++ scR d ++ mkO bs x.2 y⟩ ?_ ?_
       ·skip
        refine tQ ?_;refine Cq ?_ ?_
        ·intro h6
         have hx6 : (x.1 == 5) = decide (x.1 < 7) := by have := eq_of_beq h6; rw [this]; rfl
         refine Tri.skip ?_;refine k7 ?_ ?_
         ·repeat (first | exact SubE.nil | refine SubE.cons rfl (by first | rfl | (rw [b4 (by omega) (by omega)]; rfl) | (exact congrArg bv hx6)) ?_)
         ·repeat (first | exact SubH.nil | refine SubH.cons rfl (by first | rfl | (rw [b4 (by omega) (by omega)]; rfl) | (exact congrArg bv hx6)) ?_)
        ·intro h6
         have hx6 : (x.1 == 6) = decide (x.1 < 7) := by
          have g6 : ¬ x.1 = 5 := by simpa using h6
          rw [Bool.eq_iff_iff, beq_iff_eq, decide_eq_true_iff]
          omega
         refine Y15 ?_;refine Y12 ?_;refine k7 ?_ ?_
         ·repeat (first | exact SubE.nil | refine SubE.cons rfl (by first | rfl | (rw [b4 (by omega) (by omega)]; rfl) | (exact congrArg bv hx6)) ?_)
         ·repeat (first | exact SubH.nil | refine SubH.cons rfl (by first | rfl | (rw [b4 (by omega) (by omega)]; rfl) | (exact congrArg bv hx6)) ?_)
       ·skip
        refine tQ ?_;refine Cq ?_ ?_
        ·intro h7
         rw [if_pos (of_decide_eq_true h7)];refine Y1 ?_;refine a9 (P6 bs m n H d 0 (by omega) x.2 y (by omega)) ?_;refine yM ?_;refine a9 (P6 bs m n H d 0 (by omega) (m.f (d + 0) x.2 y).2.1 _ (by omega)) ?_;refine Dq (ae3 _ _) ?_;refine Y10 ?_;refine Rcz ?_;exact VImp.refl _
        ·intro h7
         rw [if_neg (of_decide_eq_false h7)];refine Y46 ?_;refine Cq ?_ ?_
         ·intro h8
          rw [if_pos (eq_of_beq h8)];refine Y1 ?_;refine a9 (P6 bs m n H d 0 (by omega) x.2 y (by omega)) ?_;refine yM ?_;refine a9 (P6 bs m n H d 1 (by omega) (m.f (d + 0) x.2 y).2.1 _ (by omega)) ?_;refine Dq (cb5 _ _) ?_;refine Y10 ?_;refine Rcz ?_;exact VImp.refl _
         ·intro h8
          have g8 : ¬ x.1 = 7 := by simpa using h8
          rw [if_neg g8];refine Y46 ?_;refine Cq ?_ ?_
          ·intro h9
           rw [if_pos (eq_of_beq h9)];refine Y33 ?_;refine a9 (bb3 bs 1 5 x.2 (by omega)) ?_;refine yM ?_;refine a9 (P6 bs m n H d 0 (by omega) (y5 bs 1 5 x.2).2 y (by omega)) ?_;refine yM ?_;refine a9 (P6 bs m n H d 0 (by omega) (m.f (d + 0) (y5 bs 1 5 x.2).2 y).2.1 _ (by omega)) ?_;refine Dq (aA6 _ _ _) ?_;refine Y10 ?_;refine Rcz ?_;exact VImp.refl _
          ·intro h9
           have g9 : ¬ x.1 = 8 := by simpa using h9
           rw [if_neg g9];refine Y46 ?_;refine Cq ?_ ?_
           ·intro h10
            rw [if_pos (eq_of_beq h10)];refine Y33 ?_;refine a9 (au8 bs 11 3 x.2 (by omega)) ?_;refine yL ?_;refine Y13 ?_;refine a9 (n4 bs 2 (p5 bs 11 3 x.2).2 (by omega)) ?_;refine yM ?_;refine a9 (P6 bs m n H d 0 (by omega) (a4 bs 2 (p5 bs 11 3 x.2).2).2 y (by omega)) ?_;refine Dq (aW5 (p5 bs 11 3 x.2).1 _ _) ?_;refine Y29 ?_;refine Rcz ?_;exact VImp.refl _
           ·intro h10
            have g10 : ¬ x.1 = 9 := by simpa using h10
            rw [if_neg g10];refine Y46 ?_;refine Cq ?_ ?_
            ·intro h11
             rw [if_pos (eq_of_beq h11)]
             obtain ⟨r, hr⟩ : ∃ r, r = p5 bs 11 3 x.2 := ⟨_, rfl⟩
             have hbr : Bd r.2 y (k - 1998) := hr ▸ Bd.mono (inferInstance : Bd (p5 bs 11 3 x.2).2 y (k - 1999 + 1)) (by omega)
             rw [← hr]
             obtain ⟨e, he⟩ : ∃ e, e = m.f (d + 0) r.2 y := ⟨_, rfl⟩
             have hbe : Bd e.2.1 e.2.2 (k - 1898) := he ▸ Bd.mono (inferInstance : Bd (m.f (d + 0) r.2 y).2.1 (m.f (d + 0) r.2 y).2.2 (k - 1998 + 100)) (by omega)
             have hle : Lt e.2.2 n := he ▸ inferInstance
             obtain ⟨g, hg⟩ : ∃ g, g = m.f (d + 1) e.2.1 e.2.2 := ⟨_, rfl⟩
             have hbg : Bd g.2.1 g.2.2 (k - 1798) := hg ▸ Bd.mono (inferInstance : Bd (m.f (d + 1) e.2.1 e.2.2).2.1 (m.f (d + 1) e.2.1 e.2.2).2.2 (k - 1898 + 100)) (by omega)
             have hlg : Lt g.2.2 n := hg ▸ inferInstance
             obtain ⟨c, hc⟩ : ∃ c, c = a4 bs 3 g.2.1 := ⟨_, rfl⟩
             have hbc : Bd c.2 g.2.2 (k - 1797) := hc ▸ Bd.mono (inferInstance : Bd (a4 bs 3 g.2.1).2 g.2.2 (k - 1798 + 1)) (by omega)
             have hcb : 0 ≤ c.1 ∧ c.1 < 3 := hc ▸ p8 bs g.2.1 (n := 3) (by decide)
             rw [← he, ← hg, ← hc]
             have hbk (i : Nat) (hi : i ≤ 2) : Bd (scL m (d + 2) c.2 g.2.2 i).2.1 (scL m (d + 2) c.2 g.2.2 i).2.2 (k - 1000) := Bd.mono (as9 m (d + 2) c.2 g.2.2 (k - 1797) i) (by omega)
             have hlk (i : Nat) : Lt (scL m (d + 2) c.2 g.2.2 i).2.2 n := hlg.dn (aG4 m (d + 2) c.2 g.2.2 g.2.2 i)
             refine Y33 ?_;refine a9 (au8 bs 11 3 x.2 (by omega)) ?_;refine yM ?_;rw [← hr];refine a9 (P6 bs m n H d 0 (by omega) r.2 y (by omega)) ?_;refine yM ?_;rw [← he];refine a9 (P6 bs m n H d 1 (by omega) e.2.1 e.2.2 (by omega)) ?_;rw [← hg];refine aN1 SS ?_;refine Dq (bU9 r.1 [e.1, g.1]) ?_;refine a8 SS 9 ?_;refine yS ?_;refine a6 [9] ?_;refine Y33 ?_;refine a9 (n4 bs 3 g.2.1 (by omega)) ?_;refine yJ ?_;refine A7 ?_;rw [← hc];refine tQ ?_
             refine Tri.block (Tri.loopW (σ := {i : Nat // i ≤ c.1.toNat}) (fun i => ⟨[(3, .ptr 3 [] 172), (4, .ptr 4 [] 3), (5, .ptr 5 [] 3), (6, .ptr 6 [] 32), (7, .fn (.func 205) [] [.ptr 3 [] 172, .ptr 4 [] 3, .ptr 5 [] 3]), (9, .ptr 9 [] 32), (153, iv .i64 c.1), (154, iv .i64 i.1)], [(6, .var 32 (.agg 32 [iv .i64 0, iv .i64 0, .pu (f5 Z32), .nilc, .nilc])), (9, .var 32 (.agg 32 [iv .i64 12, iv .i64 0, .pu (f5 r.1), .ow 0 32 (l5 0 (e.1 :: g.1 :: (scL m (d + 2) c.2 g.2.2 i.1).1)), .nilc]))] ++ scR d ++ mkO bs (scL m (d + 2) c.2 g.2.2 i.1).2.1 (scL m (d + 2) c.2 g.2.2 i.1).2.2⟩) (fun i => c.1.toNat - i.1) ⟨0, Nat.zero_le _⟩ ?_ ?_ (fun i => ?_))
             ·exact zW
             ·exact zW
             refine Y30 ?_;refine Cq ?_ ?_
             ·intro h12
              have hi : i.1 < c.1.toNat := by have := of_decide_eq_true h12; omega
              have hbi := hbk i.1 (by omega)
              have hli := hlk i.1
              have hll := aG3 m (d + 2) c.2 g.2.2 i.1
              have hts : l5 0 (e.1 :: g.1 :: (scL m (d + 2) c.2 g.2.2 (i.1 + 1)).1) = l5 0 (e.1 :: g.1 :: (scL m (d + 2) c.2 g.2.2 i.1).1) ++ [tmc 0 (m.f (d + 2) (scL m (d + 2) c.2 g.2.2 i.1).2.1 (scL m (d + 2) c.2 g.2.2 i.1).2.2).1] := P7 (e.1 :: g.1 :: (scL m (d + 2) c.2 g.2.2 i.1).1) [_]
              refine Y26 ?_;refine Y22 ?_;refine yM ?_;refine a9 (P6 bs m n H d 2 (by omega) (scL m (d + 2) c.2 g.2.2 i.1).2.1 _ (by omega)) ?_;refine yZ ?_;refine O1 9 [3] ?_ ?_
              ·simp [o8]; omega
              refine yF ?_;refine yW ?_;refine x8 ?_;refine Y25 ?_
              refine ⟨⟨i.1 + 1, hi⟩, by show c.1.toNat - (i.1 + 1) < c.1.toNat - i.1; omega, k7 ?_ ?_⟩
              ·repeat (first | exact SubE.nil | refine SubE.cons rfl (by first | rfl | (rw [b4 (by omega) (by omega)]; rfl) | ((rw [hts]; rfl))) ?_)
              ·repeat (first | exact SubH.nil | refine SubH.cons rfl (by first | rfl | (rw [b4 (by omega) (by omega)]; rfl) | ((rw [hts]; rfl))) ?_)
             ·intro h12
              have hi : i.1 = c.1.toNat := by have := of_decide_eq_false h12; have := i.2; omega
              rw [hi];refine Tri.exit ?_;refine Y61 ?_;refine Rcz ?_;exact ToPu.imp (by repeat constructor)
            ·intro h11
             have g11 : ¬ x.1 = 10 := by simpa using h11
             rw [if_neg g11];refine Y46 ?_;refine Cq ?_ ?_
             ·intro h13
              rw [if_pos (eq_of_beq h13)]
              obtain ⟨e, he⟩ : ∃ e, e = m.f (d + 0) x.2 y := ⟨_, rfl⟩
              have hbe : Bd e.2.1 e.2.2 (k - 1899) := he ▸ Bd.mono (inferInstance : Bd (m.f (d + 0) x.2 y).2.1 (m.f (d + 0) x.2 y).2.2 (k - 1999 + 100)) (by omega)
              have hle : Lt e.2.2 n := he ▸ inferInstance
              obtain ⟨c, hc⟩ : ∃ c, c = a4 bs 3 e.2.1 := ⟨_, rfl⟩
              have hbc : Bd c.2 e.2.2 (k - 1898) := hc ▸ Bd.mono (inferInstance : Bd (a4 bs 3 e.2.1).2 e.2.2 (k - 1899 + 1)) (by omega)
              have hcb : 0 ≤ c.1 ∧ c.1 < 3 := hc ▸ p8 bs e.2.1 (n := 3) (by decide)
              rw [← he, ← hc]
              have hbk (i : Nat) (hi : i ≤ 2) : Bd (caL bs m d c.2 e.2.2 i).2.1 (caL bs m d c.2 e.2.2 i).2.2 (k - 1000) := Bd.mono (bd3 bs m d c.2 e.2.2 (k - 1898) i) (by omega)
              have hlk (i : Nat) : Lt (caL bs m d c.2 e.2.2 i).2.2 n := hle.dn (bd2 bs m d c.2 e.2.2 e.2.2 i)
              refine Y1 ?_;refine a9 (P6 bs m n H d 0 (by omega) x.2 y (by omega)) ?_;rw [← he];refine Dq (ch1 e.1) ?_;refine a8 SS 10 ?_;refine yS ?_;refine a6 [10] ?_;refine Y33 ?_;refine a9 (n4 bs 3 e.2.1 (by omega)) ?_;refine yJ ?_;refine A7 ?_;rw [← hc];refine tQ ?_
              refine Tri.block (Tri.loopW (σ := {i : Nat // i ≤ c.1.toNat}) (fun i => ⟨[(3, .ptr 3 [] 172), (4, .ptr 4 [] 3), (5, .ptr 5 [] 3), (6, .ptr 6 [] 32), (7, .fn (.func 205) [] [.ptr 3 [] 172, .ptr 4 [] 3, .ptr 5 [] 3]), (10, .ptr 10 [] 32), (175, iv .i64 c.1), (176, iv .i64 i.1)], [(6, .var 32 (.agg 32 [iv .i64 0, iv .i64 0, .pu (f5 Z32), .nilc, .nilc])), (10, .var 32 (.agg 32 [iv .i64 9, iv .i64 0, .pu (f5 Z32), .xs 0 32 [tmc 0 e.1], .ow 0 106 (C7 0 (caL bs m d c.2 e.2.2 i.1).1)]))] ++ scR d ++ mkO bs (caL bs m d c.2 e.2.2 i.1).2.1 (caL bs m d c.2 e.2.2 i.1).2.2⟩) (fun i => c.1.toNat - i.1) ⟨0, Nat.zero_le _⟩ ?_ ?_ (fun i => ?_))
              ·exact zW
              ·exact zW
              refine Y30 ?_;refine Cq ?_ ?_
              ·intro h14
               have hi : i.1 < c.1.toNat := by have := of_decide_eq_true h14; omega
               have hbi := hbk i.1 (by omega)
               have hli := hlk i.1
               have hll := bl0 bs m d c.2 e.2.2 i.1
               have hts : C7 0 (caL bs m d c.2 e.2.2 (i.1 + 1)).1 = C7 0 (caL bs m d c.2 e.2.2 i.1).1 ++ [M6 0 (.mk (m7 bs 2 (caL bs m d c.2 e.2.2 i.1).2.1).1 (m.f (d + j2 (m7 bs 2 (caL bs m d c.2 e.2.2 i.1).2.1).1) (m7 bs 2 (caL bs m d c.2 e.2.2 i.1).2.1).2 (caL bs m d c.2 e.2.2 i.1).2.2).1)] := bQ4 (caL bs m d c.2 e.2.2 i.1).1 [_]
               have hpk := bA1 bs 2 (caL bs m d c.2 e.2.2 i.1).2.1
               have hps := Z9 bs 2 7 (by omega) (caL bs m d c.2 e.2.2 i.1).2.1
               have hpb := z8 (m7 bs 2 (caL bs m d c.2 e.2.2 i.1).2.1).1
               refine Y26 ?_;refine Y33 ?_;refine a9 (bX9 bs (caL bs m d c.2 e.2.2 i.1).2.1 (by omega)) ?_;refine a8 SS 11 ?_;refine yS ?_;refine a6 [11] ?_;refine Y22 ?_;refine yL ?_;refine Y36 ?_;refine Dq (bD0 7 _ hpk hps (by omega)) ?_;refine a9 (P6 bs m n H d (j2 (m7 bs 2 (caL bs m d c.2 e.2.2 i.1).2.1).1) (by omega) (m7 bs 2 (caL bs m d c.2 e.2.2 i.1).2.1).2 _ (by omega)) ?_;refine Dq (X6 _ _) ?_;refine yZ ?_;refine O1 10 [4] ?_ ?_
               ·simp [R8]; omega
               refine yF ?_;refine yW ?_;refine x8 ?_;refine Y25 ?_
               refine ⟨⟨i.1 + 1, hi⟩, by show c.1.toNat - (i.1 + 1) < c.1.toNat - i.1; omega, k7 ?_ ?_⟩
               ·repeat (first | exact SubE.nil | refine SubE.cons rfl (by first | rfl | (rw [b4 (by omega) (by omega)]; rfl) | ((rw [hts]; rfl))) ?_)
               ·repeat (first | exact SubH.nil | refine SubH.cons rfl (by first | rfl | (rw [b4 (by omega) (by omega)]; rfl) | ((rw [hts]; rfl))) ?_)
              ·intro h14
               have hi : i.1 = c.1.toNat := by have := of_decide_eq_false h14; have := i.2; omega
               rw [hi];refine Tri.exit ?_;refine Y61 ?_;refine Rcz ?_;exact ToPu.imp (by repeat constructor)
             ·intro h13
              have g13 : ¬ x.1 = 11 := by simpa using h13
              rw [if_neg g13]
              obtain ⟨r, hr⟩ : ∃ r, r = p5 bs 1 4 x.2 := ⟨_, rfl⟩
              have hbr : Bd r.2 y (k - 1998) := hr ▸ Bd.mono (inferInstance : Bd (p5 bs 1 4 x.2).2 y (k - 1999 + 1)) (by omega)
              rw [← hr]
              obtain ⟨e, he⟩ : ∃ e, e = a4 bs 3 r.2 := ⟨_, rfl⟩
              have hbe : Bd e.2 y (k - 1997) := he ▸ Bd.mono (inferInstance : Bd (a4 bs 3 r.2).2 y (k - 1998 + 1)) (by omega)
              obtain ⟨c, hc⟩ : ∃ c, c = a4 bs 3 e.2 := ⟨_, rfl⟩
              have hbc : Bd c.2 y (k - 1996) := hc ▸ Bd.mono (inferInstance : Bd (a4 bs 3 e.2).2 y (k - 1997 + 1)) (by omega)
              have hcb : 0 ≤ c.1 ∧ c.1 < 3 := hc ▸ p8 bs e.2 (n := 3) (by decide)
              rw [← he, ← hc]
              have hbk (i : Nat) (hi : i ≤ 2) : Bd (scL m (d + 0) c.2 y i).2.1 (scL m (d + 0) c.2 y i).2.2 (k - 1000) := Bd.mono (as9 m (d + 0) c.2 y (k - 1996) i) (by omega)
              have hlk (i : Nat) : Lt (scL m (d + 0) c.2 y i).2.2 n := hly.dn (aG4 m (d + 0) c.2 y y i)
              refine Tri.skip ?_;refine Y33 ?_;refine a9 (au8 bs 1 4 x.2 (by omega)) ?_;refine yL ?_;refine Y13 ?_;rw [← hr];refine a9 (n4 bs 3 r.2 (by omega)) ?_;rw [← he];refine Dq (ch2 r.1 e.1) ?_;refine a8 SS 12 ?_;refine yS ?_;refine G6 [12] ?_;refine Y33 ?_;refine a9 (n4 bs 3 e.2 (by omega)) ?_;refine yJ ?_;refine A7 ?_;rw [← hc];refine tQ ?_
              refine Tri.block (Tri.loopW (σ := {i : Nat // i ≤ c.1.toNat}) (fun i => ⟨[(3, .ptr 3 [] 172), (4, .ptr 4 [] 3), (5, .ptr 5 [] 3), (6, .ptr 6 [] 32), (7, .fn (.func 205) [] [.ptr 3 [] 172, .ptr 4 [] 3, .ptr 5 [] 3]), (12, .ptr 12 [] 32), (211, iv .i64 c.1), (212, iv .i64 i.1)], [(6, .var 32 (.agg 32 [iv .i64 0, iv .i64 0, .pu (f5 Z32), .nilc, .nilc])), (12, .var 32 (.agg 32 [iv .i64 8, iv .i64 e.1, .pu (f5 r.1), .ow 0 32 (l5 0 (scL m (d + 0) c.2 y i.1).1), .nilc]))] ++ scR d ++ mkO bs (scL m (d + 0) c.2 y i.1).2.1 (scL m (d + 0) c.2 y i.1).2.2⟩) (fun i => c.1.toNat - i.1) ⟨0, Nat.zero_le _⟩ ?_ ?_ (fun i => ?_))
              ·exact zW
              ·exact zW
              refine Y30 ?_;refine Cq ?_ ?_
              ·intro h15
               have hi : i.1 < c.1.toNat := by have := of_decide_eq_true h15; omega
               have hbi := hbk i.1 (by omega)
               have hli := hlk i.1
               have hll := aG3 m (d + 0) c.2 y i.1
               have hts : l5 0 (scL m (d + 0) c.2 y (i.1 + 1)).1 = l5 0 (scL m (d + 0) c.2 y i.1).1 ++ [tmc 0 (m.f (d + 0) (scL m (d + 0) c.2 y i.1).2.1 (scL m (d + 0) c.2 y i.1).2.2).1] := P7 (scL m (d + 0) c.2 y i.1).1 [_]
               refine Y26 ?_;refine Y22 ?_;refine yM ?_;refine a9 (P6 bs m n H d 0 (by omega) (scL m (d + 0) c.2 y i.1).2.1 _ (by omega)) ?_;refine yZ ?_;refine O1 12 [3] ?_ ?_
               ·rw [a7, hll]; simp; omega
               refine yF ?_;refine yW ?_;refine x8 ?_;refine Y25 ?_
               refine ⟨⟨i.1 + 1, hi⟩, by show c.1.toNat - (i.1 + 1) < c.1.toNat - i.1; omega, k7 ?_ ?_⟩
               ·repeat (first | exact SubE.nil | refine SubE.cons rfl (by first | rfl | (rw [b4 (by omega) (by omega)]; rfl) | ((rw [hts]; rfl))) ?_)
               ·repeat (first | exact SubH.nil | refine SubH.cons rfl (by first | rfl | (rw [b4 (by omega) (by omega)]; rfl) | ((rw [hts]; rfl))) ?_)
              ·intro h15
               have hi : i.1 = c.1.toNat := by have := of_decide_eq_false h15; have := i.2; omega
               rw [hi];refine Tri.exit ?_;refine Y61 ?_;refine Rcz ?_;exact ToPu.imp (by repeat constructor)
theorem aM6 : ∀ n : Nat, ScC bs (j9 bs n) n
 | 0 => fun d s l k h hl hd hdn hk => by
  have hl0 := hl.h
  have hl1 : l - 1 ≤ 0 := by omega
  have e : (j9 bs 0).f d s l = w5 bs aa8 (G0 bs (l - 1) s).1 d (G0 bs (l - 1) s).2 (l - 1) := by simp only [j9, if_pos hl1]
  rw [e];exact aB3 bs aa8 0 d s l k (by omega) hk (fun h0 => by omega)
 | n + 1 => fun d s l k h hl hd hdn hk => by
  have hl0 := hl.h
  exact aB3 bs (j9 bs n) n d s l k (by omega) hk (fun h0 => ⟨aM6 n, ⟨by push_cast at hl0; omega⟩, by push_cast at hdn; omega⟩)
def K3 (size : Nat) (s : Sd) : Tm × Sd := (((j9 bs size).f 0 s size).1, ((j9 bs size).f 0 s size).2.1)
theorem bx3 (size : Nat) (hs : size ≤ 30) (s : Sd) (h0 : 0 ≤ s.a ∧ s.a ≤ 1000000) :
  HCall Tryz.prog gL 78 [.ptr 950 [] 171, iv .i64 0, iv .i64 0, iv .i64 size] [] (stO bs s) (.pu (tmc 0 (K3 bs size s).1)) (stO bs (K3 bs size s).2) [] := by
 have hbd : Bd s size 0 := ⟨by omega⟩
 have hlt : Lt (size : Int) size := ⟨Int.le_refl _⟩
 refine HCall.of_triD tbl 18 [950] Tryz.func78 rfl rfl rfl fun w0 M ρ0 D0 => ?_
 simp only [K3]
 refine yR ?_;refine a8 SS 8 ?_;refine a6 [8] ?_;refine Y32 ?_;refine yP ?_;refine o9 SS 951 ?_;refine yA ?_;refine a6 [951] ?_;refine Y1 ?_;refine Y19 ?_;refine a9 (aM6 bs size 0 s size 0 (by omega) (by omega) (by omega)) ?_;refine Y10 ?_;refine Rcz ?_;exact VImp.refl _
end
section
class Zs (t : Tm) (c : outParam Int) : Prop where
 h : (a5 t : Int) ≤ c
class ZL (t : List Tm) (c : outParam Int) : Prop where
 h : (c7 t : Int) ≤ c
class ZC (t : List Cs) (c : outParam Int) : Prop where
 h : (d6 t : Int) ≤ c
class ZP (p : Pat) (c : outParam Int) : Prop where
 h : (k9 p : Int) ≤ c
theorem Zs.mono {t : Tm} {c c' : Int} (h : Zs t c) (hc : c ≤ c') : (a5 t : Int) ≤ c' := Int.le_trans h.h hc
instance : ZL [] 0 := ⟨by simp [c7]⟩
instance (t : Tm) (ks : List Tm) (c d : Int) [h : Zs t c] [k : ZL ks d] : ZL (t :: ks) (c + d) := ⟨by have := h.h; have := k.h; simp only [c7]; omega⟩
instance : ZC [] 0 := ⟨by simp [d6]⟩
instance (p : Pat) (t : Tm) (ks : List Cs) (b c d : Int) [g : ZP p b] [h : Zs t c] [k : ZC ks d] : ZC (.mk p t :: ks) (b + c + d) := ⟨by have := g.h; have := h.h; have := k.h; simp only [d6, u7]; omega⟩
instance : ZP t8 1 := ⟨by simp [t8, k9, n7]⟩
instance (n : Int) : ZP (pnM n) 1 := ⟨by simp [pnM, k9, n7]⟩
instance (r : List Int) (n : Int) : ZP (pcM r n []) 1 := ⟨by simp [pcM, k9, n7]⟩
instance (r : List Int) (n : Int) (p : Pat) (c : Int) [h : ZP p c] : ZP (pcM r n [p]) (1 + c) := ⟨by have := h.h; simp only [pcM, k9, n7]; omega⟩
instance (r : List Int) (n : Int) (p q : Pat) (c d : Int) [h : ZP p c] [k : ZP q d] : ZP (pcM r n [p, q]) (1 + c + d) := ⟨by have := h.h; have := k.h; simp only [pcM, k9, n7]; omega⟩
instance (n : Int) : Zs (vaM n) 1 := ⟨by simp [vaM, a5, c7, d6]⟩
instance (n : Int) : Zs (nuM n) 1 := ⟨by simp [nuM, a5, c7, d6]⟩
instance (r : List Int) : Zs (deM r) 1 := ⟨by simp [deM, a5, c7, d6]⟩
instance : Zs S2 1 := ⟨by simp [S2, a5, c7, d6]⟩
instance (t : Tm) (c : Int) [h : Zs t c] : Zs (laM t) (1 + c) := ⟨by have := h.h; simp only [laM, a5, c7, d6]; omega⟩
instance (s t : Tm) (c d : Int) [h : Zs s c] [k : Zs t d] : Zs (apM s t) (1 + c + d) := ⟨by have := h.h; have := k.h; simp only [apM, a5, c7, d6]; omega⟩
instance (s t : Tm) (c d : Int) [h : Zs s c] [k : Zs t d] : Zs (leM s t) (1 + c + d) := ⟨by have := h.h; have := k.h; simp only [leM, a5, c7, d6]; omega⟩
instance (n : Int) (s t : Tm) (c d : Int) [h : Zs s c] [k : Zs t d] : Zs (prM n s t) (1 + c + d) := ⟨by have := h.h; have := k.h; simp only [prM, a5, c7, d6]; omega⟩
instance (r : List Int) (n : Int) (t : Tm) (c : Int) [h : Zs t c] : Zs (doT r n t) (1 + c) := ⟨by have := h.h; simp only [doT, a5, c7, d6]; omega⟩
instance (r : List Int) (n : Int) (ks : List Tm) (c : Int) [h : ZL ks c] : Zs (coM r n ks) (1 + c) := ⟨by have := h.h; simp only [coM, a5, d6]; omega⟩
instance (t : Tm) (cs : List Cs) (c d : Int) [h : Zs t c] [k : ZC cs d] : Zs (maM t cs) (1 + c + d) := ⟨by have := h.h; have := k.h; simp only [maM, a5, c7]; omega⟩
variable (bs : List Int)
theorem bZ5 (v : List Ty) (t : Ty) (i : Nat) : ∀ x ∈ knM v t i, ∃ j : Nat, j < v.length ∧ x = vaM ((v.length : Int) - 1 - j) := by
 intro x hx
 unfold knM at hx
 rw [List.mem_filterMap] at hx
 obtain ⟨j, _, hj⟩ := hx
 split at hj
 ·rename_i u hu
  split at hj
  ·simp at hj
   exact ⟨j, (List.getElem?_eq_some_iff.1 hu).1, hj.symm⟩
  ·cases hj
 ·cases hj
theorem aR4 {v : List Ty} {t : Ty} {s : Sd} (h : (r6 bs v t s).1.2 = true) : ∃ j : Nat, j < v.length ∧ (r6 bs v t s).1.1 = vaM ((v.length : Int) - 1 - j) := by
 unfold r6 at h ⊢
 split at h
 ·cases h
 ·rename_i hl
  rw [if_neg hl]
  have hb := p8 bs s (n := ((knM v t v.length).length : Int)) (by omega)
  have hlt : (a4 bs (knM v t v.length).length s).1.toNat < (knM v t v.length).length := by omega
  have := bZ5 v t v.length ((knM v t v.length)[(a4 bs (knM v t v.length).length s).1.toNat]'hlt) (List.getElem_mem _)
  simp only [List.getD_eq_getElem?_getD, List.getElem?_eq_getElem hlt, Option.getD_some]
  exact this
theorem bD7 (v : List Ty) (t : Ty) (s : Sd) (h : (r6 bs v t s).1.2 = true) : (a5 (r6 bs v t s).1.1 : Int) ≤ 1 := by
 obtain ⟨j, _, e⟩ := aR4 bs h
 rw [e]
 simp [vaM, a5, c7, d6]
theorem bC9 (v : List Ty) (t : Ty) (base : Sd → Tm × Sd) (c : Int) (hc : 1 ≤ c) (hb : ∀ s, (a5 (base s).1 : Int) ≤ c) (s : Sd) : (a5 (S5 bs v t base s).1 : Int) ≤ c := by
 unfold S5
 split
 ·rename_i h
  split
  ·have := bD7 bs v t s h; simp only; omega
  ·exact hb _
 ·exact hb _
theorem bl1 (x : BT) (s : Sd) : (a5 (ag4 bs x s).1 : Int) ≤ 1 := by
 cases x <;> simp [ag4, nuM, coM, a5, c7, d6]
theorem bN0 (x : BT) (v : List Ty) (s : Sd) : (a5 (B0 bs x v s).1 : Int) ≤ 1 := bC9 bs v _ _ 1 (by omega) (bl1 bs x) s
instance (x : BT) (v : List Ty) (s : Sd) : Zs (B0 bs x v s).1 1 := ⟨bN0 bs x v s⟩
theorem bB9 (t : TT) (v : List Ty) (s : Sd) : (a5 (K5 bs t v s).1 : Int) ≤ 3 := by
 refine bC9 bs v _ _ 3 (by omega) (fun s => ?_) s
 cases t with
 | ba x => have := bl1 bs x s; simp only [S0]; omega
 | li x => exact Zs.mono (inferInstance : Zs (coM (b7 2) 0 []) _) (by omega)
 | op x => exact Zs.mono (inferInstance : Zs (coM (b7 4) 0 []) _) (by omega)
 | pa x y => simp only [S0]; (refine Zs.mono inferInstance ?_; (try dsimp only); omega)
 | fn x => simp only [S0]; (refine Zs.mono inferInstance ?_; (try dsimp only); omega)
class Mz (m : Mk) : Prop where
 h : ∀ t v a s l, (a5 (m.f t v a s l).1 : Int) ≤ 100 + 2000 * max l 0 - 2000 * max (m.f t v a s l).2.2 0
variable (m : Mk) [hm : Mz m]
instance (t : TT) (v : List Ty) (a : List AB) (s : Sd) (l : Int) : Zs (m.f t v a s l).1 (100 + 2000 * max l 0 - 2000 * max (m.f t v a s l).2.2 0) := ⟨hm.h t v a s l⟩
theorem bY5 (t : TT) (v : List Ty) (a : List AB) (s : Sd) (l : Int) : (a5 (m0 bs m t v a s l).1 : Int) ≤ 210 + 2000 * max l 0 - 2000 * max (m0 bs m t v a s l).2.2 0 := by
 cases t with
 | ba x =>
  cases x <;> simp only [m0] <;> repeat' split
  all_goals (refine Zs.mono inferInstance ?_; (try dsimp only); omega)
 | li x => simp only [m0]; split <;> (refine Zs.mono inferInstance ?_; (try dsimp only); omega)
 | op x => simp only [m0]; split <;> (refine Zs.mono inferInstance ?_; (try dsimp only); omega)
 | pa x y => simp only [m0]; (refine Zs.mono inferInstance ?_; (try dsimp only); omega)
 | fn x => simp only [m0]; (refine Zs.mono inferInstance ?_; (try dsimp only); omega)
instance (t : TT) (v : List Ty) (a : List AB) (s : Sd) (l : Int) : Zs (m0 bs m t v a s l).1 (210 + 2000 * max l 0 - 2000 * max (m0 bs m t v a s l).2.2 0) := ⟨bY5 bs m t v a s l⟩
theorem cg5 (t : TT) (v : List Ty) (a : List AB) (s : Sd) (l : Int) : (a5 (z9 bs m t v a s l).1.1 : Int) ≤ 110 + 2000 * max l 0 - 2000 * max (z9 bs m t v a s l).2.2 0 := by
 simp only [z9]
 repeat' split
 all_goals (refine Zs.mono inferInstance ?_; (try dsimp only); omega)
theorem bM5 (t : TT) (v : List Ty) (a : List AB) (s : Sd) (l : Int) : (a5 (C4 bs m t v a s l).1 : Int) ≤ 420 + 2000 * max l 0 - 2000 * max (C4 bs m t v a s l).2.2 0 := by
 simp only [C4]
 repeat' split
 all_goals (refine Zs.mono inferInstance ?_; (try dsimp only); omega)
theorem bH1 [hml : Ml m] (t : TT) (v : List Ty) (a : List AB) (b : BT) (s : Sd) (l : Int) : (a5 (D2 bs m t v a b s l).1 : Int) ≤ 310 + 2000 * max l 0 - 2000 * max (D2 bs m t v a b s l).2.2 0 := by
 have h1 := hml.h t (v ++ [n6, v7]) a s l
 simp only [D2]
 repeat' split
 all_goals (refine Zs.mono inferInstance ?_; (try dsimp only); omega)
theorem aE4 [hml : Ml m] (t : TT) (v : List Ty) (a : List AB) (b : BT) (s : Sd) (l : Int) : ∀ i : Nat, (c7 (f9 bs m t v a b s l i).1 : Int) ≤ 310 * i + 2000 * max l 0 - 2000 * max (f9 bs m t v a b s l i).2.2 0
 | 0 => by simp [f9, c7]
 | i + 1 => by
  have h1 := aE4 t v a b s l i
  have h2 := bH1 bs m t v a b (f9 bs m t v a b s l i).2.1 (f9 bs m t v a b s l i).2.2
  have h3 (x y : List Tm) : c7 (x ++ y) = c7 x + c7 y := by
   induction x with
   | nil => simp [c7]
   | cons z x ih => simp only [List.cons_append, c7, ih]; omega
  simp only [f9, h3, c7]
  push_cast
  omega
theorem bE0 [hml : Ml m] (t : TT) (v : List Ty) (a : List AB) (s : Sd) (l : Int) : (a5 (w7 bs m t v a s l).1 : Int) ≤ 900 + 2000 * max l 0 - 2000 * max (w7 bs m t v a s l).2.2 0 := by
 simp only [w7]
 split
 ·(refine Zs.mono inferInstance ?_; (try dsimp only); omega)
 ·generalize (if abM (a4 bs 3 s).1 ∈ a then a else a ++ [abM (a4 bs 3 s).1]) = a'
  generalize (if abM (a4 bs 3 s).1 = .fl then BT.b else .n) = b'
  have hn : ((if abM (a4 bs 3 s).1 = .st then 2 else 1 : Nat) : Int) ≤ 2 := by split <;> simp
  generalize (if abM (a4 bs 3 s).1 = .st then 2 else 1 : Nat) = i at hn
  generalize hu : f6 bs (c6 bs 4 (a4 bs 3 s).2).2 = u
  have h1 := hm.h (.ba u.1) v a' u.2 l
  generalize m.f (.ba u.1) v a' u.2 l = e at h1
  have h2 := hm.h t (v ++ [u.1.ty]) a e.2.1 e.2.2
  generalize m.f t (v ++ [u.1.ty]) a e.2.1 e.2.2 = g at h2
  have h3 := aE4 bs m t v a b' g.2.1 g.2.2 i
  simp only [haM, a5, c7, d6]
  push_cast
  omega
theorem bY3 [hml : Ml m] (t : TT) (v : List Ty) (a : List AB) (s : Sd) (l : Int) : (a5 (L7 bs m t v a s l).1 : Int) ≤ 1000 + 2000 * max l 0 - 2000 * max (L7 bs m t v a s l).2.2 0 := by
 have hdn := (inferInstance : Dn (z9 bs m t v a (a4 bs 10 s).2 l).2.2 l).h
 simp only [L7]
 split
 ·split
  ·rename_i h
   have := bD7 bs v t.ty (a4 bs 10 s).2 h
   dsimp only
   omega
  ·(refine Zs.mono inferInstance ?_; (try dsimp only); omega)
 split
 ·(refine Zs.mono inferInstance ?_; (try dsimp only); omega)
 split
 ·(refine Zs.mono inferInstance ?_; (try dsimp only); omega)
 split
 ·have := bM5 bs m t v a (a4 bs 10 s).2 l; omega
 split
 ·split
  ·have := cg5 bs m t v a (a4 bs 10 s).2 l
   dsimp only
   omega
  ·(refine Zs.mono inferInstance ?_; (try dsimp only); omega)
 split
 ·have := bE0 bs m t v a (a4 bs 10 s).2 l; omega
 ·(refine Zs.mono inferInstance ?_; (try dsimp only); omega)
instance term_mz : ∀ n : Nat, Mz (t5 bs n)
 | 0 => ⟨fun t v a s l => by
  have := bB9 bs t v s
  simp only [t5]
  omega⟩
 | n + 1 => ⟨fun t v a s l => by
  have ih := term_mz n
  simp only [t5]
  split
  ·have := bB9 bs t v s
   dsimp only
   omega
  ·have := bY3 bs (t5 bs n) t v a s (l - 1)
   omega⟩
theorem bI9 (size : Nat) (hs : size ≤ 30) (t : TT) (a : List AB) (s : Sd) : a5 (Z1 bs size t a s).1 ≤ 70000 := by
 have := (term_mz bs size).h t [] a s size
 simp only [Z1]
 omega
class Kz (m : Sk) : Prop where
 h : ∀ d s l, (a5 (m.f d s l).1 : Int) ≤ 100 + 2000 * max l 0 - 2000 * max (m.f d s l).2.2 0
variable (k : Sk) [hk : Kz k] [hc : Sc k]
instance (d : Int) (s : Sd) (l : Int) : Zs (k.f d s l).1 (100 + 2000 * max l 0 - 2000 * max (k.f d s l).2.2 0) := ⟨hk.h d s l⟩
theorem as1 (x y : List Tm) : c7 (x ++ y) = c7 x + c7 y := by
 induction x with
 | nil => simp [c7]
 | cons z x ih => simp only [List.cons_append, c7, ih]; omega
theorem ay1 (x y : List Cs) : d6 (x ++ y) = d6 x + d6 y := by
 induction x with
 | nil => simp [d6]
 | cons z x ih => simp only [List.cons_append, d6, ih]; omega
theorem bx4 (d : Int) (s : Sd) (l : Int) : ∀ i : Nat, (c7 (scL k d s l i).1 : Int) ≤ 100 * i + 2000 * max l 0 - 2000 * max (scL k d s l i).2.2 0
 | 0 => by simp [scL, c7]
 | i + 1 => by
  have h1 := bx4 d s l i
  have h2 := hk.h d (scL k d s l i).2.1 (scL k d s l i).2.2
  simp only [scL, as1, c7]
  push_cast
  omega
theorem bU4 (d : Int) (s : Sd) (l : Int) : ∀ i : Nat, (d6 (caL bs k d s l i).1 : Int) ≤ 107 * i + 2000 * max l 0 - 2000 * max (caL bs k d s l i).2.2 0
 | 0 => by simp [caL, d6]
 | i + 1 => by
  have h1 := bU4 d s l i
  have h2 := hk.h (d + j2 (m7 bs 2 (caL bs k d s l i).2.1).1) (m7 bs 2 (caL bs k d s l i).2.1).2 (caL bs k d s l i).2.2
  have h3 := Z9 bs 2 7 (by omega) (caL bs k d s l i).2.1
  simp only [caL, ay1, d6, u7]
  push_cast
  omega
theorem bK2 (x : Int) (d : Int) (s : Sd) (l : Int) : (a5 (w5 bs k x d s l).1 : Int) ≤ 600 + 2000 * max l 0 - 2000 * max (w5 bs k x d s l).2.2 0 := by
 simp only [w5]
 split
 ·(refine Zs.mono inferInstance ?_; (try dsimp only); omega)
 split
 ·(refine Zs.mono inferInstance ?_; (try dsimp only); omega)
 split
 ·(refine Zs.mono inferInstance ?_; (try dsimp only); omega)
 split
 ·(refine Zs.mono inferInstance ?_; (try dsimp only); omega)
 split
 ·(refine Zs.mono inferInstance ?_; (try dsimp only); omega)
 split
 ·(refine Zs.mono inferInstance ?_; (try dsimp only); omega)
 split
 ·(refine Zs.mono inferInstance ?_; (try dsimp only); omega)
 split
 ·(refine Zs.mono inferInstance ?_; (try dsimp only); omega)
 split
 ·have h1 := hk.h (d + 0) (p5 bs 11 3 s).2 l
  generalize k.f (d + 0) (p5 bs 11 3 s).2 l = e at h1
  have h2 := hk.h (d + 1) e.2.1 e.2.2
  generalize k.f (d + 1) e.2.1 e.2.2 = g at h2
  have h3 := bx4 k (d + 2) (a4 bs 3 g.2.1).2 g.2.2 (a4 bs 3 g.2.1).1.toNat
  have h4 := aa4 bs g.2.1
  simp only [haM, a5, c7, d6]
  push_cast
  omega
 split
 ·have h1 := hk.h (d + 0) s l
  generalize k.f (d + 0) s l = e at h1
  have h3 := bU4 bs k d (a4 bs 3 e.2.1).2 e.2.2 (a4 bs 3 e.2.1).1.toNat
  have h4 := aa4 bs e.2.1
  simp only [maM, a5, c7]
  push_cast
  omega
 ·have h3 := bx4 k (d + 0) (a4 bs 3 (a4 bs 3 (p5 bs 1 4 s).2).2).2 l (a4 bs 3 (a4 bs 3 (p5 bs 1 4 s).2).2).1.toNat
  have h4 := aa4 bs (a4 bs 3 (p5 bs 1 4 s).2).2
  simp only [coM, a5, d6]
  push_cast
  omega
theorem ac3 (m : Sk) (x : Int) (hx : x < 4) (d : Int) (s : Sd) (l : Int) : (a5 (w5 bs m x d s l).1 : Int) ≤ 1 ∧ (w5 bs m x d s l).2.2 = l := by
 unfold w5
 split
 ·exact ⟨Zs.mono inferInstance (Int.le_refl _), rfl⟩
 split
 ·exact ⟨Zs.mono inferInstance (Int.le_refl _), rfl⟩
 ·exact ⟨Zs.mono inferInstance (Int.le_refl _), rfl⟩
instance scoped_kz : ∀ n : Nat, Kz (j9 bs n)
 | 0 => ⟨fun d s l => by
  simp only [j9]
  split
  ·rename_i hl
   have := ac3 bs aa8 _ (R5 bs (s := s) hl) d (G0 bs (l - 1) s).2 (l - 1)
   omega
  ·simp only [nuM, a5, c7, d6]
   omega⟩
 | n + 1 => ⟨fun d s l => by
  have ih := scoped_kz n
  simp only [j9]
  by_cases hl : l - 1 ≤ 0
  ·have := ac3 bs (j9 bs n) _ (R5 bs (s := s) hl) d (G0 bs (l - 1) s).2 (l - 1)
   omega
  ·have := bK2 bs (j9 bs n) (G0 bs (l - 1) s).1 d (G0 bs (l - 1) s).2 (l - 1)
   omega⟩
theorem bW8 (size : Nat) (hs : size ≤ 30) (s : Sd) : a5 (K3 bs size s).1 ≤ 70000 := by
 have := (scoped_kz bs size).h 0 s size
 simp only [K3]
 omega
end
section
variable {G : List (Nat × TypeId × Pu)}
end
section
variable {G : List (Nat × TypeId × Pu)}
end
section
variable {G : List (Nat × TypeId × Pu)}
end
section
variable {G : List (Nat × TypeId × Pu)}
end
section
variable {G : List (Nat × TypeId × Pu)}
theorem bY1 {k : Int} (h : B9 k 1 12 = false) : 1 ≤ k ∧ k ≤ 12 := by unfold B9 at h; simp at h; omega
end
section
variable {G : List (Nat × TypeId × Pu)}
end
section
variable {G : List (Nat × TypeId × Pu)}
def aT0 (v : Tm) : List Cs → Nat → Option (Nat × List Tm)
 | [], _ => none
 | .mk q _ :: cs, i => if (t9 q v).2 then some (i, (t9 q v).1) else aT0 v cs (i + 1)
def ar8 (k : Int) (ks : List Tm) : Option Nat := (ks.take (j5 k ks.length)).findIdx? fun x => !P2 x
theorem ao0 (many : Nat) : ∀ (ks : List Tm) (i : Nat), I3 many i ks = match (ks.take (many - i)).findIdx? (fun x => !P2 x) with
  | some j => (i + j) :: (match ks[j]? with | some x => d9 x | none => [])
  | none => []
 | [], i => by simp [I3]
 | t :: ts, i => by
  simp only [I3]
  split
  ·rename_i h
   obtain ⟨d, hd⟩ : ∃ d, many - i = d + 1 := ⟨many - i - 1, by omega⟩
   have ih := ao0 many ts (i + 1)
   rw [show many - (i + 1) = d by omega] at ih
   rw [hd, List.take_succ_cons, List.findIdx?_cons]
   split
   ·rename_i hv
    simp only [hv, Bool.not_true, Bool.false_eq_true, if_false]
    rw [ih]
    cases (ts.take d).findIdx? (fun x => !P2 x) with
    | none => rfl
    | some j => simp only [Option.map_some, List.getElem?_cons_succ]; congr 1; omega
   ·rename_i hv
    simp [hv]
  ·rename_i h
   rw [show many - i = 0 by omega]; rfl
theorem au4 (k n : Int) (r : List Int) (ks : List Tm) (cs : List Cs) : d9 (.mk k n r ks cs) = match ar8 k ks with
  | some j => j :: (match ks[j]? with | some x => d9 x | none => [])
  | none => [] := by
 simp only [d9]
 rw [ao0]
 simp only [Nat.sub_zero, Nat.zero_add]
 rfl
theorem ar7 {k : Int} {ks : List Tm} {j : Nat} (h : ar8 k ks = some j) : j < j5 k ks.length ∧ ∃ x, ks[j]? = some x ∧ P2 x = false := by
 unfold ar8 at h
 obtain ⟨h1, h2, _⟩ := List.findIdx?_eq_some_iff_getElem.1 h
 rw [List.length_take] at h1
 refine ⟨by omega, ks[j]'(by omega), List.getElem?_eq_getElem _, ?_⟩
 simpa using h2
end
section
variable {G : List (Nat × TypeId × Pu)}
end
section
variable {G : List (Nat × TypeId × Pu)}
mutual
def gdT (d : Int) : Tm → Prop
 | .mk k n _ ks cs => (1 ≤ k ∧ k ≤ 12 ∧ k ≠ 7) ∧ s8 k ks.length = true ∧ (k = 11 → 0 ≤ n ∧ n ≤ 7) ∧ (k = 1 → 0 ≤ n ∧ n < d) ∧ gdK d k 0 ks ∧ gdC d cs
def gdK (d k : Int) (i : Nat) : List Tm → Prop
 | [] => True
 | t :: ts => gdT (d + j0 k i) t ∧ gdK d k (i + 1) ts
def gdC (d : Int) : List Cs → Prop
 | [] => True
 | c :: cs => gdS d c ∧ gdC d cs
def gdS (d : Int) : Cs → Prop
 | .mk q t => E9 q = 0 ∧ gdT (d + j2 q) t
end
mutual
theorem ax1 : ∀ {t : Tm} {d : Int}, gdT d t → shT t
 | .mk k n r ks cs, d, h => ⟨h.2.1, h.2.2.1, bE5 h.2.2.2.2.1, bE6 h.2.2.2.2.2⟩
theorem bE5 : ∀ {ks : List Tm} {d k : Int} {i : Nat}, gdK d k i ks → shL ks
 | [], _, _, _, _ => trivial
 | t :: ts, _, _, _, h => ⟨ax1 h.1, bE5 h.2⟩
theorem bE6 : ∀ {cs : List Cs} {d : Int}, gdC d cs → shC cs
 | [], _, _ => trivial
 | .mk q t :: cs, _, h => ⟨ax1 (t := t) h.1.2, bE6 h.2⟩
end
mutual
theorem aq7 : ∀ {t : Tm} {d e : Int}, d ≤ e → gdT d t → gdT e t
 | .mk k n r ks cs, d, e, hd, h => ⟨h.1, h.2.1, h.2.2.1, fun hk => by have := h.2.2.2.1 hk; omega, aR8 hd h.2.2.2.2.1, aS0 hd h.2.2.2.2.2⟩
theorem aR8 : ∀ {ks : List Tm} {d e k : Int} {i : Nat}, d ≤ e → gdK d k i ks → gdK e k i ks
 | [], _, _, _, _, _, _ => trivial
 | t :: ts, d, e, k, i, hd, h => ⟨aq7 (by omega) h.1, aR8 hd h.2⟩
theorem aS0 : ∀ {cs : List Cs} {d e : Int}, d ≤ e → gdC d cs → gdC e cs
 | [], _, _, _, _ => trivial
 | .mk q t :: cs, d, e, hd, h => ⟨⟨h.1.1, aq7 (t := t) (d := d + j2 q) (e := e + j2 q) (by omega) h.1.2⟩, aS0 hd h.2⟩
end
theorem aX8 {b k n : Int} {r : List Int} {nk nc : Nat} (h : d8 0 0 b k n r nk nc = 0) (hn : -2^63 ≤ n ∧ n < 2^63) (hb : 0 ≤ b ∧ b < 2^62) : (1 ≤ k ∧ k ≤ 12 ∧ k ≠ 7) ∧ s8 k nk = true ∧ (k = 11 → 0 ≤ n ∧ n ≤ 7) ∧ (k = 1 → 0 ≤ n ∧ n < b) := by
 unfold d8 at h
 by_cases h0 : B9 k 1 12 = true
 ·rw [if_pos h0] at h; omega
 rw [if_neg h0] at h
 have hk := bY1 (by simpa using h0)
 by_cases h1 : u5 (y8 k) (C9 k) (x4 k) n r nc = true
 ·rw [if_pos h1] at h; omega
 rw [if_neg h1] at h
 by_cases h2 : (!s8 k nk || decide ((nc : Int) > 8)) = true
 ·rw [if_pos h2] at h; omega
 rw [if_neg h2] at h
 by_cases h3 : (k == 10 && B9 n 1 5) = true
 ·rw [if_pos h3] at h; omega
 rw [if_neg h3] at h
 by_cases h4 : (k == 1 && !aa6 0 n b) = true
 ·rw [if_pos h4] at h; omega
 rw [if_neg h4] at h
 by_cases h5 : (k == 7 && (decide (n < 0) || decide (n ≥ 0))) = true
 ·rw [if_pos h5] at h; omega
 rw [if_neg h5] at h
 by_cases h6 : ((k == 2 || k == 8 || k == 11) && B9 n 0 (if k == 8 || k == 11 then 7 else 1073741824)) = true
 ·rw [if_pos h6] at h; omega
 simp only [Bool.or_eq_true, not_or, Bool.not_eq_true, Bool.not_eq_false'] at h2
 refine ⟨⟨hk.1, hk.2, fun e => ?_⟩, by simpa using h2.1, fun e => ?_, fun e => ?_⟩
 ·subst e; simp at h5; omega
 ·subst e; simp [B9] at h6; omega
 ·subst e
  have h7 : aa6 0 n b = true := by simpa using h4
  simp only [aa6, Bool.and_eq_true, decide_eq_true_eq, Bool.or_eq_true] at h7
  refine ⟨by omega, ?_⟩
  rcases h7.2 with h | h
  ·exact h
  ·rw [b4 (by omega) (by omega)] at h; omega
mutual
theorem aK3 : ∀ {t : Tm} {b : Int}, N0 0 0 b t = 0 → rgT t → 0 ≤ b → b + 2 * a5 t ≤ 2^60 → gdT b t
 | .mk k n r ks cs, b, h, hr, hb, hz => by
  simp only [N0] at h
  obtain ⟨h1, h⟩ := x9 h
  obtain ⟨h0, h⟩ := x9 h
  obtain ⟨h2, h3⟩ := x9 h
  have hpe := ab2 h0
  simp only [a5] at hz
  obtain ⟨g1, g2, g3, g4⟩ := aX8 h1 hr.1 (by omega)
  exact ⟨g1, g2, g3, g4, aV8 h2 hr.2.1 hb (by omega), aW1 h3 hpe hr.2.2 hb (by omega)⟩
theorem aV8 : ∀ {ks : List Tm} {b k : Int} {i : Nat}, T4 0 0 b k i ks = 0 → rgK ks → 0 ≤ b → b + 2 + 2 * c7 ks ≤ 2^60 → gdK b k i ks
 | [], _, _, _, _, _, _, _ => trivial
 | t :: ts, b, k, i, h, hr, hb, hz => by
  simp only [T4] at h
  obtain ⟨h1, h2⟩ := x9 h
  simp only [c7] at hz
  have := ba6 k i
  exact ⟨aK3 h1 hr.1 (by omega) (by omega), aV8 h2 hr.2 hb (by omega)⟩
theorem aW1 : ∀ {cs : List Cs} {b : Int}, T5 0 0 b cs = 0 → (∀ c ∈ cs, E9 (csP c) = 0) → rgC cs → 0 ≤ b → b + 2 + 2 * d6 cs ≤ 2^60 → gdC b cs
 | [], _, _, _, _, _, _ => trivial
 | .mk q t :: cs, b, h, hp, hr, hb, hz => by
  simp only [T5, am8] at h
  obtain ⟨h1, h2⟩ := x9 h
  simp only [d6, u7] at hz
  have := z8 q
  exact ⟨⟨hp _ (List.mem_cons_self ..), aK3 (t := t) h1 hr.1 (by omega) (by omega)⟩, aW1 h2 (fun c hc => hp c (List.mem_cons_of_mem _ hc)) hr.2 hb (by omega)⟩
end
theorem bH3 {t : Tm} (h : p9 t 0 0 = 0) (hr : rgT t) : gdT 0 t := by
 have hz := (D8 h).2
 unfold p9 at h
 split at h
 ·cases h
 ·exact aK3 h hr (by omega) (by omega)
theorem aI3 : ∀ {ks : List Tm} {d k : Int} {i : Nat}, gdK d k i ks → ∀ {j : Nat} {x : Tm}, ks[j]? = some x → gdT (d + j0 k ((i + j : Nat) : Int)) x
 | t :: ts, d, k, i, h, 0, x, hx => by simp at hx; subst hx; exact h.1
 | t :: ts, d, k, i, h, j + 1, x, hx => by
  have := aI3 h.2 (j := j) (by simpa using hx)
  rwa [show i + 1 + j = i + (j + 1) by omega] at this
theorem O7 {t : Tm} {d : Int} (h : gdT d t) {j : Nat} {x : Tm} (hx : t.kids[j]? = some x) : gdT (d + j0 t.kind (j : Nat)) x := by
 obtain ⟨k, n, r, ks, cs⟩ := t
 have := aI3 h.2.2.2.2.1 hx
 rwa [Nat.zero_add] at this
mutual
theorem au1 (vs : List Tm) (hvs : ∀ v ∈ vs, gdT 0 v) : ∀ (t : Tm) (d : Int), 0 ≤ d → d + vs.length + 2 * a5 t ≤ 2^60 → gdT (d + vs.length) t → gdT d (A1 vs d t)
 | .mk k n r ks cs, d, hd, hz, h => by
  simp only [a5] at hz
  obtain ⟨h1, h2, h3, h4, h5, h6⟩ := h
  have hK := bg2 vs hvs ks d k 0 hd (by omega) h5
  have hC := bg3 vs hvs cs d hd (by omega) h6
  simp only [A1]
  split
  ·rename_i hc
   have hn := h4 hc.1
   have hw : IntKind.wrap .i64 (n - d) = n - d := b4 (by omega) (by omega)
   split
   ·exact aq7 hd (hvs _ (List.getElem_mem _))
   ·rename_i hlt; omega
  ·rename_i hc
   refine ⟨h1, by rw [S4]; exact h2, h3, fun hk => ?_, hK, hC⟩
   have hn := h4 hk
   refine ⟨hn.1, ?_⟩
   by_cases hv : 0 < vs.length
   ·have : ¬ 0 ≤ IntKind.wrap .i64 (n - d) := fun h0 => hc ⟨hk, h0, hv⟩
    rw [b4 (by omega) (by omega)] at this
    omega
   ·omega
theorem bg2 (vs : List Tm) (hvs : ∀ v ∈ vs, gdT 0 v) : ∀ (ks : List Tm) (d k : Int) (i : Nat), 0 ≤ d → d + vs.length + 2 + 2 * c7 ks ≤ 2^60 → gdK (d + vs.length) k i ks → gdK d k i (P4 vs d k i ks)
 | [], _, _, _, _, _, _ => trivial
 | t :: ts, d, k, i, hd, hz, h => by
  simp only [c7] at hz
  have hm := ba6 k i
  simp only [P4]
  refine ⟨au1 vs hvs t (d + j0 k i) (by omega) (by omega) ?_, bg2 vs hvs ts d k (i + 1) hd (by omega) h.2⟩
  rw [show d + j0 k i + (vs.length : Int) = d + vs.length + j0 k i by omega];exact h.1
theorem bg3 (vs : List Tm) (hvs : ∀ v ∈ vs, gdT 0 v) : ∀ (cs : List Cs) (d : Int), 0 ≤ d → d + vs.length + 2 + 2 * d6 cs ≤ 2^60 → gdC (d + vs.length) cs → gdC d (L5 vs d cs)
 | [], _, _, _, _ => trivial
 | .mk q t :: cs, d, hd, hz, h => by
  simp only [d6, u7] at hz
  have hm := z8 q
  simp only [L5, aA2]
  refine ⟨⟨h.1.1, ?_⟩, bg3 vs hvs cs d hd (by omega) h.2⟩
  have h1 : gdT (d + vs.length + j2 q) t := h.1.2
  show gdT (d + j2 q) (A1 vs (d + j2 q) t)
  exact au1 vs hvs t (d + j2 q) (by omega) (by omega) (by rw [show d + j2 q + (vs.length : Int) = d + vs.length + j2 q by omega]; exact h1)
end
theorem cd1 (i : Int) : j0 8 i = 0 := by unfold j0; simp
mutual
theorem bj5 : ∀ (p : Pat) {v : Tm} {d : Int}, gdT d v → ∀ x ∈ (t9 p v).1, gdT d x
 | .mk k n r ks, v, d, h, x, hx => by
  simp only [t9] at hx
  split at hx
  ·simp at hx; subst hx; exact h
  ·split at hx
   ·simp at hx
   ·split at hx
    ·split at hx
     ·simp at hx
     ·rename_i hc
      have hk8 : v.kind = 8 := by simp at hc; exact hc.1.1.1
      refine aS8 ks (fun j y hy => ?_) x hx
      have := O7 h hy
      rwa [hk8, cd1, Int.add_zero] at this
    ·simp at hx
theorem aS8 : ∀ (ps : List Pat) {vs : List Tm} {d : Int}, (∀ (j : Nat) (y : Tm), vs[j]? = some y → gdT d y) → ∀ x ∈ (n5 ps vs).1, gdT d x
 | [], vs, d, _, x, hx => by simp [n5] at hx
 | _ :: _, [], d, _, x, hx => by simp [n5] at hx
 | p :: ps, v :: vs, d, h, x, hx => by
  simp only [n5, H4] at hx
  split at hx
  ·simp only [List.mem_append] at hx
   rcases hx with hx | hx
   ·exact bj5 p (h 0 v rfl) x hx
   ·exact aS8 ps (fun j y hy => h (j + 1) y (by simpa using hy)) x hx
  ·simp at hx
end
mutual
theorem ax3 : ∀ (p : Pat) (v : Tm), (t9 p v).2 = true → E9 p = 0 → ((t9 p v).1.length : Int) = j2 p
 | .mk k n r ks, v, h, he => by
  simp only [E9] at he
  have hpe : C6 k n r ks.length = 0 := by split at he <;> assumption
  rw [if_pos hpe] at he
  simp only [t9] at h ⊢
  simp only [j2]
  split
  ·simp
  ·rename_i h1
   rw [if_neg h1] at h
   split
   ·rename_i h2
    have : ks = [] := by
     unfold C6 at hpe
     subst h2
     by_cases g0 : B9 2 1 3 = true
     ·rw [if_pos g0] at hpe; omega
     rw [if_neg g0] at hpe
     by_cases g1 : u5 ((2 : Int) == 2 || (2 : Int) == 3) ((2 : Int) == 3) false n r 0 = true
     ·rw [if_pos g1] at hpe; omega
     rw [if_neg g1] at hpe
     by_cases g2 : decide ((ks.length : Int) > (if (2 : Int) == 3 then 4 else 0)) = true
     ·rw [if_pos g2] at hpe; omega
     simp at g2
     exact g2
    subst this
    simp [A3]
   ·rename_i h2
    rw [if_neg h2] at h
    split
    ·rename_i h3
     rw [if_pos h3] at h
     split
     ·rename_i h4; rw [if_pos h4] at h; cases h
     ·rename_i h4; rw [if_neg h4] at h
      exact ao6 ks v.kids h he
    ·rename_i h3; rw [if_neg h3] at h; cases h
theorem ao6 : ∀ (ps : List Pat) (vs : List Tm), (n5 ps vs).2 = true → W9 ps = 0 → ((n5 ps vs).1.length : Int) = A3 ps
 | [], _, _, _ => by simp [n5, A3]
 | _ :: _, [], h, _ => by simp [n5] at h
 | p :: ps, v :: vs, h, he => by
  simp only [W9] at he
  have hp : E9 p = 0 := by split at he <;> assumption
  rw [if_pos hp] at he
  simp only [n5, H4] at h ⊢
  split
  ·rename_i hb
   simp only [Bool.and_eq_true] at hb
   have h1 := ax3 p v hb.1 hp
   have h2 := ao6 ps vs hb.2 he
   simp only [List.length_append, A3]
   omega
  ·rename_i hb; rw [if_neg hb] at h; cases h
end
end
section
variable {G : List (Nat × TypeId × Pu)}
theorem av8 {v : Tm} : ∀ {cs : List Cs} {o : Nat}, aT0 v cs o = none → q9 cs v = p7
 | [], _, _ => rfl
 | .mk q b :: cs, o, h => by
  simp only [aT0] at h
  split at h
  ·cases h
  ·rename_i hf
   simp only [q9, if_neg hf]
   exact av8 h
theorem av9 {v : Tm} (hv : gdT 0 v) : ∀ {cs : List Cs} {o : Nat}, gdC 0 cs → a5 v + 2 * d6 cs ≤ 2^50 → (aT0 v cs o).isSome = true → gdT 0 (q9 cs v)
 | [], _, _, _, h => by simp [aT0] at h
 | .mk q b :: cs, o, hc, hz, h => by
  simp only [d6, u7] at hz
  simp only [aT0] at h
  simp only [q9]
  split
  ·rename_i hf
   have hl := ax3 q v hf hc.1.1
   have hb := aI6 q v
   refine au1 _ (bj5 q hv) b 0 (Int.le_refl _) (by omega) ?_;rw [hl];exact hc.1.2
  ·rename_i hf
   rw [if_neg hf] at h
   exact av9 hv hc.2 (by omega) h
theorem ba7 {v : Tm} (hv : gdT 0 v) {cs : List Cs} (hc : gdC 0 cs) (hz : a5 v + 2 * d6 cs ≤ 2^50) : ((q9 cs v).kind != 0) = (aT0 v cs 0).isSome := by
 cases h : aT0 v cs 0 with
 | none => rw [av8 h]; rfl
 | some x =>
  have := av9 hv hc hz (by rw [h]; rfl)
  generalize q9 cs v = m at this
  obtain ⟨k, n, r, ks, cs'⟩ := m
  have h1 := this.1
  simp [Tm.kind]; omega
theorem aI0 : ∀ {p : List Nat} {t : Tm}, gdT 0 t → (∀ i (_ : i < p.length), j0 (b8 t (p.take i)).kind ((p[i]'(by assumption) : Nat) : Int) = 0) → gdT 0 (b8 t p)
 | [], t, h, _ => h
 | j :: p, t, h, hm => by
  simp only [b8]
  split
  ·rename_i x hx
   have h0 := hm 0 (by simp)
   simp only [List.take_zero, b8, List.getElem_cons_zero] at h0
   have hg := O7 h hx
   rw [h0, Int.add_zero] at hg
   refine aI0 hg fun i hi => ?_
   have := hm (i + 1) (by simpa using hi)
   simpa only [List.take_succ_cons, b8, hx, List.getElem_cons_succ] using this
  ·exact h
theorem au6 : ∀ (N : Nat) (t : Tm), a5 t ≤ N → ∀ i (hi : i < (d9 t).length), j0 (b8 t ((d9 t).take i)).kind (((d9 t)[i] : Nat) : Int) = 0
 | 0, t, h, _, _ => by have := r9 t; omega
 | N + 1, .mk k n r ks cs, h, i, hi => by
  have hpw := au4 k n r ks cs
  cases hw : ar8 k ks with
  | none => rw [hw] at hpw; simp only at hpw; rw [hpw] at hi; simp at hi
  | some j =>
   obtain ⟨hj1, x, hx, hxv⟩ := ar7 hw
   rw [hw] at hpw
   simp only [hx] at hpw
   generalize d9 (.mk k n r ks cs) = p at hpw hi
   subst hpw
   have hxs := w8 (List.mem_of_getElem? hx)
   simp only [a5] at h
   cases i with
   | zero =>
    simp only [List.take_zero, b8, Tm.kind, List.getElem_cons_zero]
    unfold j5 at hj1
    unfold j0
    split at hj1
    ·rw [if_neg (by omega), if_neg (by omega)]
    ·split at hj1
     ·rw [if_neg (by omega), if_neg (by omega)]
     ·omega
   | succ i =>
    simp only [List.take_succ_cons, b8, Tm.kids, hx, List.getElem_cons_succ]
    exact au6 N x (by omega) i (by simpa using hi)
end
section
variable {G : List (Nat × TypeId × Pu)}
end
section
variable {G : List (Nat × TypeId × Pu)}
def aG1 : Tm → List Nat → Tm → Tm
 | _, [], u => u
 | t, j :: q, u => match t.kids[j]? with
  | some x => J3 t j (aG1 x q u)
  | none => t
end
theorem aD9 (t : Tm) (j : Nat) (way : List Tm) (q : List Nat) : ∀ (m : Nat) (y : Tm), m ≤ way.length → m ≤ q.length → q7 (t :: way) (j :: q) 0 (m + 1) y = J3 t j (q7 way q 0 m y)
 | 0, y, _, _ => by simp [q7]
 | m + 1, y, h1, h2 => by
  have e1 : q7 (t :: way) (j :: q) 0 (m + 1 + 1) y = q7 (t :: way) (j :: q) 0 (m + 1) (J3 way[m] q[m] y) := by
   rw [q7]
   simp [List.getElem?_eq_getElem (show m < way.length by omega), List.getElem?_eq_getElem (show m < q.length by omega)]
  have e2 : q7 way q 0 (m + 1) y = q7 way q 0 m (J3 way[m] q[m] y) := by
   rw [q7]
   simp [List.getElem?_eq_getElem (show m < way.length by omega), List.getElem?_eq_getElem (show m < q.length by omega)]
  rw [e1, e2, aD9 t j way q m _ (by omega) (by omega)]
theorem aj2 : ∀ {p : List Nat} {t : Tm} (n : Nat) (y : Tm), okP t p → n ≤ p.length → q7 (j4 t p) p 0 n y = aG1 t (p.take n) y
 | [], t, n, y, _, h => by
  have : n = 0 := by simpa using h
  subst this
  simp [q7, aG1]
 | j :: q, t, 0, y, _, _ => by simp [q7, aG1]
 | j :: q, t, n + 1, y, ⟨x, hx, hok⟩, h => by
  simp only [List.length_cons] at h
  have hw : j4 t (j :: q) = t :: j4 x q := by simp [j4, hx]
  rw [hw, aD9 t j _ q n y (by rw [E5 hok]; omega) (by omega), aj2 n y hok (by omega)]
  simp [aG1, hx]
theorem aD8 (way : List Tm) (path : List Nat) (lo : Nat) : ∀ (m : Nat) (y : Tm), lo + m ≤ way.length → lo + m ≤ path.length → q7 way path lo (lo + m) y = q7 (way.drop lo) (path.drop lo) 0 m y
 | 0, y, _, _ => by
  cases lo with
  | zero => rfl
  | succ l => simp [q7]
 | m + 1, y, h1, h2 => by
  have e1 : q7 way path lo (lo + (m + 1)) y = q7 way path lo (lo + m) (J3 way[lo + m] path[lo + m] y) := by
   rw [show lo + (m + 1) = (lo + m) + 1 by omega, q7, if_neg (by omega)]
   simp [List.getElem?_eq_getElem (show lo + m < way.length by omega), List.getElem?_eq_getElem (show lo + m < path.length by omega)]
  have e2 : q7 (way.drop lo) (path.drop lo) 0 (m + 1) y = q7 (way.drop lo) (path.drop lo) 0 m (J3 way[lo + m] path[lo + m] y) := by
   rw [q7]
   simp [List.getElem?_drop, List.getElem?_eq_getElem (show lo + m < way.length by omega), List.getElem?_eq_getElem (show lo + m < path.length by omega)]
  rw [e1, e2, aD8 way path lo m _ (by omega) (by omega)]
theorem aK7 : ∀ {p : List Nat} {t : Tm} (n : Nat), okP t p → n ≤ p.length → (j4 t p).drop n = j4 (b8 t (p.take n)) (p.drop n) ∧ okP (b8 t (p.take n)) (p.drop n)
 | p, t, 0, h, _ => by simp only [List.drop_zero, List.take_zero, b8]; exact ⟨trivial, h⟩
 | [], t, n + 1, _, h => by simp at h
 | j :: q, t, n + 1, ⟨x, hx, hok⟩, h => by
  simp only [List.length_cons] at h
  obtain ⟨h1, h2⟩ := aK7 n hok (by omega)
  simp only [j4, hx, List.drop_succ_cons, List.take_succ_cons, b8]
  exact ⟨h1, h2⟩
theorem bs1 {p : List Nat} {t : Tm} {n : Nat} (y : Tm) (hok : okP t p) (hn : n ≤ p.length) : q7 (j4 t p) p n p.length y = aG1 (b8 t (p.take n)) (p.drop n) y := by
 obtain ⟨h1, h2⟩ := aK7 n hok hn
 have := aD8 (j4 t p) p n (p.length - n) y (by rw [E5 hok]; omega) (by omega)
 rw [show n + (p.length - n) = p.length by omega] at this
 rw [this, h1, aj2 _ y h2 (by simp)]
 congr 1
 rw [← List.length_drop, List.take_length]
theorem bD6 {p : List Nat} {t : Tm} (y : Tm) (hok : okP t p) : E4 t p y = aG1 t p y := by
 unfold E4
 rw [aj2 p.length y hok (Nat.le_refl _), List.take_length]
theorem bj2 : ∀ {ks : List Tm} {d k : Int} {i j : Nat} {x : Tm}, gdK d k i ks → gdT (d + j0 k ((i + j : Nat) : Int)) x → gdK d k i (ks.set j x)
 | [], _, _, _, _, _, _, _ => trivial
 | t :: ts, d, k, i, 0, x, h, hx => ⟨hx, h.2⟩
 | t :: ts, d, k, i, j + 1, x, h, hx => ⟨h.1, bj2 (i := i + 1) (j := j) h.2 (by rwa [show i + 1 + j = i + (j + 1) by omega])⟩
def ab0 (t : Tm) (p : List Nat) : Prop := ∀ i (_ : i < p.length), j0 (b8 t (p.take i)).kind ((p[i]'(by assumption) : Nat) : Int) = 0
theorem bb6 {t x : Tm} {j : Nat} {q : List Nat} (h : ab0 t (j :: q)) (hx : t.kids[j]? = some x) : j0 t.kind (j : Nat) = 0 ∧ ab0 x q := by
 refine ⟨h 0 (by simp), fun i hi => ?_⟩
 have := h (i + 1) (by simpa using hi)
 simpa only [List.take_succ_cons, b8, hx, List.getElem_cons_succ] using this
theorem aS2 (t : Tm) : ab0 t (d9 t) := fun i hi => au6 _ t (Nat.le_refl _) i hi
theorem ax2 {t : Tm} {p : List Nat} (h : ab0 t p) (n : Nat) : ab0 t (p.take n) := fun i hi => by
 have hl : i < p.length := by simp at hi; omega
 have hn : i < n := by simp at hi; omega
 have := h i hl
 rw [List.take_take, Nat.min_eq_left (by omega), List.getElem_take];exact this
theorem aA9 : ∀ {p : List Nat} {t : Tm} (n i : Nat), okP t p → n + i ≤ p.length → b8 (b8 t (p.take n)) ((p.drop n).take i) = b8 t (p.take (n + i))
 | p, t, 0, i, _, _ => by simp [b8]
 | [], t, n + 1, i, _, h => by simp at h
 | j :: q, t, n + 1, i, ⟨x, hx, hok⟩, h => by
  simp only [List.length_cons] at h
  rw [show n + 1 + i = (n + i) + 1 by omega]
  simp only [List.take_succ_cons, List.drop_succ_cons, b8, hx]
  exact aA9 n i hok (by omega)
theorem bb5 {t : Tm} {p : List Nat} (h : ab0 t p) (hok : okP t p) (n : Nat) (hn : n ≤ p.length) : ab0 (b8 t (p.take n)) (p.drop n) := fun i hi => by
 have hl : n + i < p.length := by simp at hi; omega
 rw [aA9 n i hok (by omega), List.getElem_drop];exact h (n + i) hl
theorem aG0 {y : Tm} : ∀ {p : List Nat} {t : Tm} {d : Int}, ab0 t p → gdT d t → gdT d y → gdT d (aG1 t p y)
 | [], _, _, _, _, hy => hy
 | j :: q, .mk k n r ks cs, d, hf, h, hy => by
  simp only [aG1]
  split
  ·rename_i x hx
   obtain ⟨h0, hq⟩ := bb6 hf hx
   simp only [aq5] at h0
   simp only [V4] at hx
   have hg := aI3 h.2.2.2.2.1 hx
   rw [Nat.zero_add, h0, Int.add_zero] at hg
   refine ⟨h.1, by rw [List.length_set]; exact h.2.1, h.2.2.1, h.2.2.2.1, bj2 h.2.2.2.2.1 ?_, h.2.2.2.2.2⟩
   rw [Nat.zero_add, h0, Int.add_zero];exact aG0 hq hg hy
  ·exact h
theorem ca1 (n d : Int) : gdT d (aP5 n) := ⟨⟨by omega, by omega, by omega⟩, by simp [s8], fun h => by omega, fun h => by omega, trivial, trivial⟩
theorem ca0 : gdT 1 ae2 := ⟨⟨by omega, by omega, by omega⟩, by simp [s8], fun h => by omega, fun _ => by omega, trivial, trivial⟩
theorem bB1 (i : Nat) : j0 4 (i : Int) = 0 := by unfold j0; rw [if_neg (by omega), if_neg (by omega)]
theorem al8 {k : Int} (h : k = 5 ∨ k = 12 ∨ k = 9 ∨ k = 11) : j0 k ((0 : Nat) : Int) = 0 := by unfold j0; rw [if_neg (by omega), if_neg (by omega)]
theorem bq1 {k : Int} (h : k = 5 ∨ k = 12) : j0 k ((1 : Nat) : Int) = 1 := by unfold j0; rw [if_pos (by omega)]
theorem bB0 {i : Nat} (h : 2 ≤ i) : j0 12 (i : Int) = 2 := by unfold j0; rw [if_neg (by omega), if_pos (by omega)]
theorem bg4 {x b : Tm} (hx : gdT 0 x) (hb : gdT 1 b) (hz : a5 b < 2^40) : gdT 0 (A1 [x] 0 b) :=
 au1 [x] (fun v hv => by simp at hv; subst hv; exact hx) b 0 (by omega) (by simp; omega) (by simpa using hb)
theorem cb3 {w f x b : Tm} (hw : gdT 0 w) (hk : w.kind = 4) (h0 : w.kids[0]? = some f) (hf : f.kind = 3) (h1 : w.kids[1]? = some x) (hb : f.kids[0]? = some b) : gdT 0 x ∧ gdT 1 b := by
 have e0 := O7 hw h0
 have e1 := O7 hw h1
 rw [hk, bB1, Int.add_zero] at e0 e1
 have e2 := O7 e0 hb
 rw [hf] at e2
 exact ⟨e1, by simpa [j0] using e2⟩
theorem bZ0 {w x b : Tm} (hw : gdT 0 w) (hk : w.kind = 5 ∨ w.kind = 12) (h0 : w.kids[0]? = some x) (h1 : w.kids[1]? = some b) : gdT 0 x ∧ gdT 1 b := by
 have e0 := O7 hw h0
 have e1 := O7 hw h1
 rw [al8 (by omega), Int.add_zero] at e0
 rw [bq1 hk] at e1
 exact ⟨e0, by simpa using e1⟩
section
variable {G : List (Nat × TypeId × Pu)}
end
theorem bV4 {t : Tm} {p : List Nat} (hok : okP t p) {n : Nat} (hn : n ≤ p.length) {x : Tm} (h : (j4 t p)[n]? = some x) : x = b8 t (p.take n) := by
 rw [y6 hok hn] at h
 exact (Option.some.inj h).symm
theorem aH9 : ∀ (way : List Tm) (r : List Int) (n : Nat), 0 ≤ r7 way r n → ∃ x, way[(r7 way r n).toNat]? = some x ∧ x.kind = 12 ∧ x.ref = r ∧ (r7 way r n).toNat < n
 | way, r, 0, h => by simp [r7] at h
 | way, r, n + 1, h => by
  cases hx : way[n]? with
  | none =>
   have e : r7 way r (n + 1) = r7 way r n := by simp only [r7, hx]
   rw [e] at h ⊢
   obtain ⟨y, h1, h2, h3, h4⟩ := aH9 way r n h
   exact ⟨y, h1, h2, h3, by omega⟩
  | some x =>
   by_cases hc : (x.kind == 12 && x.ref == r) = true
   ·have e : r7 way r (n + 1) = n := by simp only [r7, hx, if_pos hc]
    rw [e, Int.toNat_natCast]
    simp at hc
    exact ⟨x, hx, hc.1, hc.2, by omega⟩
   ·have e : r7 way r (n + 1) = r7 way r n := by simp only [r7, hx, if_neg hc]
    rw [e] at h ⊢
    obtain ⟨y, h1, h2, h3, h4⟩ := aH9 way r n h
    exact ⟨y, h1, h2, h3, by omega⟩
theorem bU2 {t : Tm} {p : List Nat} (hg : gdT 0 t) (hf : ab0 t p) (n : Nat) : gdT 0 (b8 t (p.take n)) := aI0 hg (ax2 hf n)
theorem bS3 {t : Tm} {p : List Nat} (hg : gdT 0 t) (hok : okP t p) (hf : ab0 t p) {n : Nat} (hn : n ≤ p.length) : gdT 0 (T3 t p n) := by
 refine ⟨⟨by omega, by omega, by omega⟩, by simp [s8], fun h => by omega, fun h => by omega, ⟨?_, trivial⟩, trivial⟩
 rw [bs1 ae2 hok hn]
 have : j0 3 ((0 : Nat) : Int) = 1 := by simp [j0]
 rw [this];exact aG0 (bb5 hf hok n hn) (aq7 (by omega) (bU2 hg hf n)) ca0
theorem aU9 {s : List Int} {y : Tm} : ∀ {ts : List KT}, B2 s ts = some y → ∃ x ∈ ts, x.2 = y
 | [], h => by simp [B2] at h
 | x :: ts, h => by
  simp only [B2] at h
  split at h
  ·simp at h; exact ⟨x, by simp, h⟩
  ·obtain ⟨z, h1, h2⟩ := aU9 h
   exact ⟨z, by simp [h1], h2⟩
theorem ce1 {ts : List KT} {way : List Tm} {len : Nat} {w : Tm} (h : F0 ts way len w = 5) : w.kind = 9 ∧ ∃ v, w.kids[0]? = some v ∧ ((q9 w.cases v).kind != 0) = true := by
 have hk := (D5 h).2.2.2.2.1 rfl
 obtain ⟨k, n, r, ks, cs⟩ := w
 simp only [aq5] at hk
 subst hk
 refine ⟨rfl, ?_⟩
 simp only [F0] at h
 simp at h
 simp only [V4]
 cases hf : ks[0]? with
 | none => simp [hf] at h
 | some f =>
  refine ⟨f, rfl, ?_⟩
  simp only [hf] at h
  show ((q9 cs f).kind != 0) = true
  generalize hb : ((q9 cs f).kind != 0) = bb at h
  cases bb
  ·simp at h
  ·rfl
theorem bP2 {ts : List KT} {t : Tm} {p : List Nat} (hg : gdT 0 t) (hok : okP t p) (hf : ab0 t p) (hN : a5 t < 2^28) (hb : ∀ x ∈ ts, gdT 0 x.2) {k : Int} (hk : D6 ts t p = k) (hk7 : k ≤ 7) : gdT 0 (v8 ts t p k) := by
 have hw := aI0 hg hf
 have hws : a5 (b8 t p) ≤ a5 t := t7
 have hsh := ax1 hw
 obtain ⟨i1, i2, i3, i4, i5, i6, i7, ⟨i8, _⟩, _⟩ := D5 hk
 have put : ∀ {y : Tm}, gdT 0 y → gdT 0 (E4 t p y) := fun {y} hy => by rw [bD6 y hok]; exact aG0 hf hg hy
 have let' : (b8 t p).kind = 5 ∨ (b8 t p).kind = 12 → gdT 0 (ai6 (b8 t p)) := fun hkk => by
  obtain ⟨x, b, h0, h1⟩ : ∃ x b, (b8 t p).kids[0]? = some x ∧ (b8 t p).kids[1]? = some b := by
   rcases hkk with hkk | hkk
   ·exact bq5 hsh (by omega)
   ·exact bU0 hsh hkk
  obtain ⟨g1, g2⟩ := bZ0 hw hkk h0 h1
  have := o7 h1
  simp only [ai6, h0, h1]
  exact bg4 g1 g2 (by omega)
 unfold v8
 by_cases e1 : k = 1
 ·rw [if_pos e1]
  obtain ⟨hk4, f, h0, hf3⟩ := i1 e1
  obtain ⟨f', x, h0', h1⟩ := bq5 hsh (by omega)
  obtain rfl : f' = f := Option.some.inj (h0'.symm.trans h0)
  have hfs := ax1 (O7 hw h0)
  obtain ⟨b, hb0⟩ := bq6 hfs (by omega)
  obtain ⟨g1, g2⟩ := cb3 hw hk4 h0 hf3 h1 hb0
  have := o7 h0
  have := o7 hb0
  refine put ?_
  simp only [bd5, h0, h1, hb0]
  exact bg4 g1 g2 (by omega)
 rw [if_neg e1]
 by_cases e2 : k = 2
 ·rw [if_pos e2]; exact put (let' (.inl (i2 e2)))
 rw [if_neg e2]
 by_cases e3 : k = 3
 ·rw [if_pos e3]
  obtain ⟨_, h⟩ := i3 e3
  obtain ⟨y, hy⟩ := Option.isSome_iff_exists.1 h
  obtain ⟨x, hx, rfl⟩ := aU9 hy
  rw [hy];exact put (hb x hx)
 rw [if_neg e3]
 by_cases e4 : k = 4
 ·rw [if_pos e4]
  obtain ⟨x, y, h0, h1⟩ := bq5 hsh (by have := i4 e4; omega)
  refine put ?_
  simp only [aZ9, h0, h1]
  exact ca1 _ _
 rw [if_neg e4]
 by_cases e5 : k = 5
 ·rw [if_pos e5]
  subst e5
  obtain ⟨hk9, v, h0, hm⟩ := ce1 hk
  have hv := O7 hw h0
  rw [al8 (by omega), Int.add_zero] at hv
  have hvs := o7 h0
  refine put ?_
  simp only [ba8, h0]
  generalize b8 t p = w at *
  obtain ⟨wk, wn, wr, ks, cs⟩ := w
  have hc := hw.2.2.2.2.2
  simp only [a5] at hws hvs
  have hz : (a5 v : Int) + 2 * d6 cs ≤ 2^50 := by omega
  rw [show (Tm.mk wk wn wr ks cs).cases = cs from rfl] at hm ⊢
  rw [ba7 hv hc (by omega)] at hm
  exact av9 hv hc (by omega) hm
 rw [if_neg e5]
 by_cases e6 : k = 6
 ·rw [if_pos e6]
  obtain ⟨hk11, hn0, x, hx, hxl⟩ := i6 e6
  obtain ⟨y, hy, hy12, _, hnl⟩ := aH9 _ _ _ hn0
  obtain rfl : y = x := Option.some.inj (hy.symm.trans hx)
  obtain ⟨a, ha⟩ := bq6 hsh (by omega)
  have hga := O7 hw ha
  rw [al8 (by omega), Int.add_zero] at hga
  have hnum : 0 ≤ (b8 t p).num := by
   generalize b8 t p = w at *
   obtain ⟨wk, wn, wr, ks, cs⟩ := w
   exact (hw.2.2.1 hk11).1
  have hxw := bV4 hok (by omega) hx
  have hgx := bU2 hg hf (r7 (j4 t p) (b8 t p).ref p.length).toNat
  rw [← hxw] at hgx
  obtain ⟨b, hbk⟩ : ∃ b, y.kids[(2 + (b8 t p).num).toNat]? = some b := ⟨_, List.getElem?_eq_getElem (by omega)⟩
  have hgb := O7 hgx hbk
  rw [hy12, bB0 (by omega)] at hgb
  have hbs := o7 hbk
  have hys : a5 y ≤ a5 t := by rw [hxw]; exact t7
  unfold doM
  rw [ha, ← hxw, hbk]
  simp only
  rw [aj2 _ _ hok (by omega)];refine aG0 (ax2 hf _) hg (au1 _ (fun v hv => ?_) b 0 (by omega) (by simp; omega) (by simpa using hgb))
  simp only [List.mem_cons, List.not_mem_nil, or_false] at hv
  rcases hv with rfl | rfl
  ·exact hga
  ·exact bS3 hg hok hf (by omega)
 rw [if_neg e6];exact put (let' (.inr (i7 (by omega))))
section
variable {G : List (Nat × TypeId × Pu)}
end
def V2 (k n : Int) (r : List Int) (nc : Nat) : Prop :=
 u5 (y8 k) (C9 k) (x4 k) n r nc = false ∧ nc ≤ 8 ∧ (k == 10 && B9 n 1 5) = false ∧ ((k == 2 || k == 8 || k == 11) && B9 n 0 (if k == 8 || k == 11 then 7 else 1073741824)) = false
mutual
def lcT : Tm → Prop
 | .mk k n r ks cs => V2 k n r cs.length ∧ lcK ks ∧ lcC cs
def lcK : List Tm → Prop
 | [] => True
 | t :: ts => lcT t ∧ lcK ts
def lcC : List Cs → Prop
 | [] => True
 | c :: cs => lcS c ∧ lcC cs
def lcS : Cs → Prop
 | .mk _ t => lcT t
end
theorem aL3 {m d b k n : Int} {r : List Int} {nk nc : Nat} (h : d8 m d b k n r nk nc = 0) : V2 k n r nc := by
 unfold d8 at h
 by_cases h0 : B9 k 1 12 = true
 ·rw [if_pos h0] at h; omega
 rw [if_neg h0] at h
 by_cases h1 : u5 (y8 k) (C9 k) (x4 k) n r nc = true
 ·rw [if_pos h1] at h; omega
 rw [if_neg h1] at h
 by_cases h2 : (!s8 k nk || decide ((nc : Int) > 8)) = true
 ·rw [if_pos h2] at h; omega
 rw [if_neg h2] at h
 by_cases h3 : (k == 10 && B9 n 1 5) = true
 ·rw [if_pos h3] at h; omega
 rw [if_neg h3] at h
 by_cases h4 : (k == 1 && !aa6 d n b) = true
 ·rw [if_pos h4] at h; omega
 rw [if_neg h4] at h
 by_cases h5 : (k == 7 && (decide (n < 0) || decide (n ≥ m))) = true
 ·rw [if_pos h5] at h; omega
 rw [if_neg h5] at h
 by_cases h6 : ((k == 2 || k == 8 || k == 11) && B9 n 0 (if k == 8 || k == 11 then 7 else 1073741824)) = true
 ·rw [if_pos h6] at h; omega
 simp only [Bool.or_eq_true, not_or, Bool.not_eq_true, decide_eq_true_eq] at h2
 exact ⟨by simpa using h1, by omega, by simpa using h3, by simpa using h6⟩
theorem aQ5 {m d b k n : Int} {r : List Int} {nk nc : Nat} (h : V2 k n r nc) (h1 : 1 ≤ k ∧ k ≤ 12 ∧ k ≠ 7) (h2 : s8 k nk = true) (h3 : k = 1 → 0 ≤ n ∧ n < b) : d8 m d b k n r nk nc = 0 := by
 obtain ⟨g1, g2, g3, g4⟩ := h
 unfold d8
 rw [if_neg (by simp [B9]; omega), if_neg (by rw [g1]; decide), if_neg (by rw [h2]; simp; omega), if_neg (by rw [g3]; decide)]
 rw [if_neg (by
  by_cases e : k = 1
  ·have := h3 e
   simp [e, aa6]; omega
  ·simp [e]), if_neg (by simp; omega), if_neg (by rw [g4]; decide)]
mutual
theorem aK2 {m d : Int} : ∀ {t : Tm} {b : Int}, N0 m d b t = 0 → lcT t
 | .mk k n r ks cs, b, h => by
  simp only [N0] at h
  obtain ⟨h1, h⟩ := x9 h
  obtain ⟨_, h⟩ := x9 h
  obtain ⟨h2, h3⟩ := x9 h
  exact ⟨aL3 h1, aV7 h2, aW0 h3⟩
theorem aV7 {m d : Int} : ∀ {ks : List Tm} {b k : Int} {i : Nat}, T4 m d b k i ks = 0 → lcK ks
 | [], _, _, _, _ => trivial
 | t :: ts, b, k, i, h => by
  simp only [T4] at h
  obtain ⟨h1, h2⟩ := x9 h
  exact ⟨aK2 h1, aV7 h2⟩
theorem aW0 {m d : Int} : ∀ {cs : List Cs} {b : Int}, T5 m d b cs = 0 → lcC cs
 | [], _, _ => trivial
 | .mk q t :: cs, b, h => by
  simp only [T5, am8] at h
  obtain ⟨h1, h2⟩ := x9 h
  exact ⟨aK2 (t := t) h1, aW0 h2⟩
end
mutual
theorem aI2 {m d : Int} : ∀ {t : Tm} {b : Int}, gdT b t → lcT t → N0 m d b t = 0
 | .mk k n r ks cs, b, h, hl => by
  obtain ⟨g1, g2, g3, g4, g5, g6⟩ := h
  simp only [N0, aQ5 hl.1 g1 g2 g4, aR6 g5 hl.2.1, aR7 g6 hl.2.2]
  have : m9 (fun c => E9 (csP c)) cs = 0 := aR9 g6
  rw [this]; rfl
theorem aR6 {m d : Int} : ∀ {ks : List Tm} {b k : Int} {i : Nat}, gdK b k i ks → lcK ks → T4 m d b k i ks = 0
 | [], _, _, _, _, _ => rfl
 | t :: ts, b, k, i, h, hl => by
  simp only [T4, aI2 h.1 hl.1, aR6 h.2 hl.2]; rfl
theorem aR7 {m d : Int} : ∀ {cs : List Cs} {b : Int}, gdC b cs → lcC cs → T5 m d b cs = 0
 | [], _, _, _ => rfl
 | .mk q t :: cs, b, h, hl => by
  have h1 : N0 m d (b + j2 q) t = 0 := aI2 h.1.2 hl.1
  simp only [T5, am8, h1, aR7 h.2 hl.2]; rfl
theorem aR9 : ∀ {cs : List Cs} {b : Int}, gdC b cs → m9 (fun c => E9 (csP c)) cs = 0
 | [], _, _ => rfl
 | .mk q t :: cs, b, h => by
  have h1 : E9 q = 0 := h.1.1
  simp only [m9, csP, h1, if_true]
  exact aR9 h.2
end
theorem Q5 : lcT p7 := by simp [p7, lcT, lcK, lcC, V2, u5, B9]
theorem bZ2 : lcT ae2 := by simp [ae2, lcT, lcK, lcC, V2, u5, B9]
theorem cf6 (x : Int) : 0 ≤ bt8 x ∧ bt8 x ≤ 1073741824 := by unfold bt8; omega
theorem bN3 (op a b : Int) : lcT (Z8 op a b) := by
 have := cf6 (W8 op a b)
 unfold Z8 aP5
 generalize bt8 (W8 op a b) = x at *
 simp [lcT, lcK, lcC, V2, u5, B9, y8]
 omega
theorem bi2 : ∀ {ks : List Tm}, lcK ks → ∀ x ∈ ks, lcT x
 | _ :: _, h, x, hx => by
  rcases List.mem_cons.1 hx with rfl | hx
  ·exact h.1
  ·exact bi2 h.2 x hx
theorem al2 (vs : List Tm) : ∀ (cs : List Cs) (d : Int), (L5 vs d cs).length = cs.length
 | [], _ => rfl
 | .mk q t :: cs, d => by simp [L5, al2 vs cs d]
mutual
theorem aw6 (vs : List Tm) (hv : ∀ v ∈ vs, lcT v) : ∀ (t : Tm) (d : Int), lcT t → lcT (A1 vs d t)
 | .mk k n r ks cs, d, h => by
  obtain ⟨h1, h3, h4⟩ := h
  have k1 := bh8 vs hv ks d k 0 h3
  have k2 := bh9 vs hv cs d h4
  simp only [A1]
  split
  ·rename_i hC
   split
   ·exact hv _ (List.getElem_mem _)
   ·refine ⟨?_, k1, k2⟩
    rw [al2]
    have e := hC.1
    subst e
    simpa [V2, u5, y8] using h1
  ·exact ⟨by rw [al2]; exact h1, k1, k2⟩
theorem bh8 (vs : List Tm) (hv : ∀ v ∈ vs, lcT v) : ∀ (ks : List Tm) (d k : Int) (i : Nat), lcK ks → lcK (P4 vs d k i ks)
 | [], _, _, _, _ => trivial
 | t :: ts, d, k, i, h => ⟨aw6 vs hv t _ h.1, bh8 vs hv ts d k (i + 1) h.2⟩
theorem bh9 (vs : List Tm) (hv : ∀ v ∈ vs, lcT v) : ∀ (cs : List Cs) (d : Int), lcC cs → lcC (L5 vs d cs)
 | [], _, _ => trivial
 | c :: cs, d, h => ⟨bN2 vs hv c d h.1, bh9 vs hv cs d h.2⟩
theorem bN2 (vs : List Tm) (hv : ∀ v ∈ vs, lcT v) : ∀ (c : Cs) (d : Int), lcS c → lcS (aA2 vs d c)
 | .mk q t, d, h => aw6 vs hv t _ h
end
theorem R7 {t x : Tm} {i : Nat} (h : lcT t) (hx : t.kids[i]? = some x) : lcT x := by
 obtain ⟨k, n, r, ks, cs⟩ := t
 exact bi2 h.2.1 _ (List.mem_of_getElem? hx)
theorem ai7 : ∀ {t : Tm} {p : List Nat}, lcT t → lcT (b8 t p)
 | t, [], h => h
 | t, i :: p, h => by
  simp only [b8]
  split
  ·rename_i x hx; exact ai7 (R7 h hx)
  ·exact h
theorem bi1 : ∀ {ks : List Tm} {j : Nat} {x : Tm}, lcK ks → lcT x → lcK (ks.set j x)
 | [], _, _, _, _ => trivial
 | t :: ts, 0, x, h, hx => ⟨hx, h.2⟩
 | t :: ts, j + 1, x, h, hx => ⟨h.1, bi1 h.2 hx⟩
theorem bZ3 {t x : Tm} {j : Nat} (h : lcT t) (hx : lcT x) : lcT (J3 t j x) := by
 obtain ⟨k, n, r, ks, cs⟩ := t
 exact ⟨h.1, bi1 h.2.1 hx, h.2.2⟩
theorem aq4 {t : Tm} {p : List Nat} (hok : okP t p) (ht : lcT t) (lo : Nat) : ∀ (hi : Nat) (x : Tm), hi ≤ p.length → lcT x → lcT (q7 (j4 t p) p lo hi x)
 | 0, x, _, h => h
 | n + 1, x, hn, h => by
  simp only [q7]
  split
  ·exact h
  ·rw [y6 hok (by omega), List.getElem?_eq_getElem (show n < p.length by omega)]
   exact aq4 hok ht lo n _ (by omega) (bZ3 (ai7 ht) h)
mutual
theorem bi0 : ∀ (p : Pat) (v : Tm), lcT v → ∀ x ∈ (t9 p v).1, lcT x
 | .mk k n r ks, v, h, x, hx => by
  simp only [t9] at hx
  split at hx
  ·simp at hx; rw [hx]; exact h
  ·split at hx
   ·simp at hx
   ·split at hx
    ·split at hx
     ·simp at hx
     ·obtain ⟨k', n', r', ks', cs'⟩ := v
      exact aQ8 ks ks' h.2.1 x hx
    ·simp at hx
theorem aQ8 : ∀ (ps : List Pat) (vs : List Tm), lcK vs → ∀ x ∈ (n5 ps vs).1, lcT x
 | [], vs, _, x, hx => by simp [n5] at hx
 | _ :: _, [], _, x, hx => by simp [n5] at hx
 | p :: ps, v :: vs, h, x, hx => by
  simp only [n5, H4] at hx
  split at hx
  ·rcases List.mem_append.1 hx with h' | h'
   ·exact bi0 p v h.1 x h'
   ·exact aQ8 ps vs h.2 x h'
  ·simp at hx
end
theorem aQ7 : ∀ (cs : List Cs) (v : Tm), lcC cs → lcT v → lcT (q9 cs v)
 | [], v, _, _ => Q5
 | .mk q b :: cs, v, h, hv => by
  simp only [q9]
  split
  ·exact aw6 _ (bi0 q v hv) b 0 h.1
  ·exact aQ7 cs v h.2 hv
theorem bC3 {s : List Int} {y : Tm} : ∀ {ts : List KT}, (∀ x ∈ ts, lcT x.2) → B2 s ts = some y → lcT y
 | [], _, h => by cases h
 | x :: ts, h, hy => by
  simp only [B2] at hy
  split at hy
  ·simp at hy; rw [← hy]; exact h x (by simp)
  ·exact bC3 (fun z hz => h z (by simp [hz])) hy
theorem bj9 {ts : List KT} (hb : ∀ x ∈ ts, lcT x.2) {t0 : Tm} {p : List Nat} (hs : lcT t0) (hok : okP t0 p) (k : Int) : lcT (v8 ts t0 p k) := by
 have hw := ai7 (p := p) hs
 have here : ∀ y, lcT y → lcT (E4 t0 p y) := fun y hy => aq4 hok hs 0 _ _ (Nat.le_refl _) hy
 have hput : ∀ x y, lcT x → lcT y → lcT (A1 [x] 0 y) := fun x y hx hy => aw6 _ (fun v hv => by simp at hv; rw [hv]; exact hx) _ _ hy
 have hlet : lcT (ai6 (b8 t0 p)) := by
  unfold ai6
  split
  ·rename_i x b h1 h2; exact hput _ _ (R7 hw h1) (R7 hw h2)
  ·exact Q5
 unfold v8
 split
 ·refine here _ ?_
  unfold bd5
  split
  ·rename_i f x h1 h2
   split
   ·rename_i b h3; exact hput _ _ (R7 hw h2) (R7 (R7 hw h1) h3)
   ·exact Q5
  ·exact Q5
 split
 ·exact here _ hlet
 split
 ·refine here _ ?_
  cases hy : B2 (b8 t0 p).ref ts with
  | none => exact Q5
  | some y => exact bC3 hb hy
 split
 ·refine here _ ?_
  unfold aZ9
  split
  ·exact bN3 _ _ _
  ·exact Q5
 split
 ·refine here _ ?_
  unfold ba8
  split
  ·rename_i v hv
   have hv' := R7 hw hv
   generalize b8 t0 p = w at hw
   obtain ⟨k, n, r, ks, cs⟩ := w
   exact aQ7 _ _ hw.2.2 hv'
  ·exact Q5
 split
 ·unfold doM
  split
  ·rename_i a b h1 h2
   have hlt := V6 (j4 t0 p) (b8 t0 p).ref p.length
   refine aq4 hok hs 0 _ _ (by omega) (aw6 _ (fun v hv => ?_) _ _ (R7 (ai7 hs) h2))
   simp at hv
   rcases hv with rfl | rfl
   ·exact R7 hw h1
   ·refine ⟨by simp [V2, u5, B9], ⟨aq4 hok hs _ _ _ (Nat.le_refl _) bZ2, trivial⟩, trivial⟩
  ·exact Q5
 ·exact here _ hlet
theorem ay7 {t : Tm} {d m : Int} (h : p9 t d m = 0) : lcT t := by
 unfold p9 at h
 split at h
 ·cases h
 ·exact aK2 h
structure Rt (t : Tm) : Prop where
 gd : gdT 0 t
 lc : lcT t
theorem bH2 {t : Tm} (h : p9 t 0 0 = 0) (hr : rgT t) : Rt t := ⟨bH3 h hr, ay7 h⟩
theorem bP1 {ts : List KT} (hb : ∀ x ∈ ts, Rt x.2) {t : Tm} (h : Rt t) (hN : a5 t < 2^28) {k : Int} (hk : D6 ts t (d9 t) = k) (hk7 : k ≤ 7) : Rt (v8 ts t (d9 t) k) :=
 ⟨bP2 h.gd (H5 (ax1 h.gd)) (aS2 t) hN (fun x hx => (hb x hx).gd) hk hk7, bj9 (fun x hx => (hb x hx).lc) h.lc (H5 (ax1 h.gd)) k⟩
section
class Nb (n : Int) : Prop where
 h : 0 ≤ n ∧ n ≤ 7
instance : Nb 0 := ⟨by omega⟩
instance : Nb 1 := ⟨by omega⟩
instance (bs : List Int) (s : Sd) : Nb (a4 bs 2 s).1 := ⟨by have := p8 bs s (n := 2) (by decide); omega⟩
instance (bs : List Int) (s : Sd) : Nb (a4 bs 3 s).1 := ⟨by have := p8 bs s (n := 3) (by decide); omega⟩
class Okq (p : Pat) (e : outParam Int) : Prop where
 h : E9 p = 0
 b : j2 p = e
class Okt (d : Int) (t : Tm) : Prop where
 gd : gdT d t
 lc : lcT t
class OkL (d : Int) (ks : List Tm) : Prop where
 h : ∀ x ∈ ks, Okt d x
class OkC (d : Int) (cs : List Cs) : Prop where
 gd : gdC d cs
 lc : lcC cs
theorem aD4 {d k : Int} (hk : ∀ i : Nat, j0 k i = 0) : ∀ {ks : List Tm} {i : Nat}, (∀ x ∈ ks, Okt d x) → gdK d k i ks
 | [], _, _ => trivial
 | t :: ts, i, h => ⟨by rw [hk, Int.add_zero]; exact (h t (by simp)).gd, aD4 hk fun x hx => h x (by simp [hx])⟩
theorem aH6 {d : Int} : ∀ {ks : List Tm}, (∀ x ∈ ks, Okt d x) → lcK ks
 | [], _ => trivial
 | t :: ts, h => ⟨(h t (by simp)).lc, aH6 fun x hx => h x (by simp [hx])⟩
instance (d : Int) : OkL d [] := ⟨by simp⟩
instance (d : Int) (t : Tm) (ks : List Tm) [h : Okt d t] [k : OkL d ks] : OkL d (t :: ks) := ⟨fun x hx => by
 rcases List.mem_cons.1 hx with rfl | hx
 ·exact h
 ·exact k.h x hx⟩
instance (d : Int) : OkC d [] := ⟨trivial, trivial⟩
instance (d : Int) (p : Pat) (e : Int) (t : Tm) (cs : List Cs) [hp : Okq p e] [h : Okt (d + e) t] [k : OkC d cs] : OkC d (.mk p t :: cs) := ⟨⟨⟨hp.h, hp.b ▸ h.gd⟩, k.gd⟩, h.lc, k.lc⟩
theorem bg8 {d n : Int} (h : 0 ≤ n ∧ n < d) : Okt d (vaM n) := ⟨by simp [vaM, gdT, gdK, gdC, s8]; omega, by simp [vaM, lcT, lcK, lcC, V2, u5, B9, y8]⟩
theorem bA6 {d n : Int} (h : 0 ≤ n ∧ n ≤ 1073741824) : Okt d (nuM n) := ⟨by simp [nuM, gdT, gdK, gdC, s8], by simp [nuM, lcT, lcK, lcC, V2, u5, B9, y8]; omega⟩
instance (d : Int) (r : List Int) : Okt d (deM r) := ⟨by simp [deM, gdT, gdK, gdC, s8], by simp [deM, lcT, lcK, lcC, V2, u5, B9, C9]⟩
instance (d : Int) (t : Tm) [h : Okt (d + 1) t] : Okt d (laM t) := ⟨by simpa [laM, gdT, gdK, gdC, s8, j0] using h.gd, by simpa [laM, lcT, lcK, lcC, V2, u5, B9] using h.lc⟩
instance (d : Int) (s t : Tm) [h : Okt d s] [k : Okt d t] : Okt d (apM s t) := ⟨by simpa [apM, gdT, gdK, gdC, s8, j0] using ⟨h.gd, k.gd⟩, by simpa [apM, lcT, lcK, lcC, V2, u5, B9] using ⟨h.lc, k.lc⟩⟩
instance (d : Int) (s t : Tm) [h : Okt d s] [k : Okt (d + 1) t] : Okt d (leM s t) := ⟨by simpa [leM, gdT, gdK, gdC, s8, j0] using ⟨h.gd, k.gd⟩, by simpa [leM, lcT, lcK, lcC, V2, u5, B9] using ⟨h.lc, k.lc⟩⟩
theorem cc8 {d n : Int} {s t : Tm} (hn : 1 ≤ n ∧ n ≤ 5) (h : Okt d s) (k : Okt d t) : Okt d (prM n s t) := ⟨by simpa [prM, gdT, gdK, gdC, s8, j0] using ⟨h.gd, k.gd⟩, by simpa [prM, lcT, lcK, lcC, V2, u5, B9, y8] using ⟨by omega, h.lc, k.lc⟩⟩
instance (bs : List Int) (s0 : Sd) (d : Int) (s t : Tm) [h : Okt d s] [k : Okt d t] : Okt d (prM (y5 bs 1 5 s0).1 s t) := cc8 (aI4 bs s0 (by decide)) h k
instance (bs : List Int) (s : Sd) (d : Int) : Okt d (nuM (a4 bs 4 s).1) := bA6 (by have := p8 bs s (n := 4) (by decide); omega)
instance (bs : List Int) (s : Sd) (d : Int) : Okt d (nuM ([0, 1, 2, 3, 7, 1073741824].getD (a4 bs 6 s).1.toNat 0)) := bA6 (by
 have := p8 bs s (n := 6) (by decide)
 generalize (a4 bs 6 s).1 = z at this
 obtain ⟨j, rfl⟩ := Int.eq_ofNat_of_zero_le this.1
 have hj : j < 6 := by omega
 rcases j with _ | _ | _ | _ | _ | _ | j <;> first | decide | omega)
instance (d : Int) (r : List Int) (n : Int) (t : Tm) [hn : Nb n] [h : Okt d t] : Okt d (doT r n t) := ⟨by have := hn.h; simp [doT, gdT, gdK, gdC, s8, j0]; exact ⟨by omega, h.gd⟩, by have := hn.h; simp [doT, lcT, lcK, lcC, V2, u5, B9, y8, C9]; exact ⟨by omega, h.lc⟩⟩
theorem bh0 {d : Int} {r : List Int} {n : Int} {ks : List Tm} (hn : 0 ≤ n ∧ n ≤ 7) (hl : ks.length ≤ 4) (h : ∀ x ∈ ks, Okt d x) : Okt d (coM r n ks) :=
 ⟨⟨by omega, by simp [s8]; omega, by simp, by simp, aD4 (fun i => by simp [j0]) h, trivial⟩, ⟨by simp [V2, u5, B9, y8, C9]; omega, aH6 h, trivial⟩⟩
instance (d : Int) (r : List Int) (n : Int) [hn : Nb n] : Okt d (coM r n []) := bh0 hn.h (by simp) (by simp)
instance (d : Int) (r : List Int) (n : Int) (s : Tm) [hn : Nb n] [h : Okt d s] : Okt d (coM r n [s]) := bh0 hn.h (by simp) (OkL.h (ks := [s]))
instance (d : Int) (r : List Int) (n : Int) (s t : Tm) [hn : Nb n] [h : Okt d s] [k : Okt d t] : Okt d (coM r n [s, t]) := bh0 hn.h (by simp) (OkL.h (ks := [s, t]))
theorem bj1 {d : Int} : ∀ {ks : List Tm} {i : Nat}, 2 ≤ i → (∀ x ∈ ks, Okt (d + 2) x) → gdK d 12 i ks
 | [], _, _, _ => trivial
 | t :: ts, i, hi, h => ⟨by rw [show j0 12 i = 2 by simp [j0]; omega]; exact (h t (by simp)).gd, bj1 (by omega) fun x hx => h x (by simp [hx])⟩
theorem bT8 {d : Int} {r : List Int} {s t : Tm} {ks : List Tm} (hl : ks.length ≤ 8) (hs : Okt d s) (ht : Okt (d + 1) t) (h : ∀ x ∈ ks, Okt (d + 2) x) : Okt d (haM r (s :: t :: ks)) :=
 ⟨⟨by omega, by simp [s8, B9]; omega, by simp, by simp, ⟨by rw [show j0 12 (0 : Nat) = 0 by simp [j0], Int.add_zero]; exact hs.gd, by rw [show j0 12 ((0 + 1 : Nat) : Int) = 1 by simp [j0]]; exact ht.gd, bj1 (by omega) h⟩, trivial⟩, ⟨by simp [V2, u5, B9, C9], ⟨hs.lc, ht.lc, aH6 h⟩, trivial⟩⟩
theorem bA7 {d : Int} {t : Tm} {cs : List Cs} (hl : cs.length ≤ 8) (ht : Okt d t) (h : OkC d cs) : Okt d (maM t cs) :=
 ⟨⟨by omega, by simp [s8], by simp, by simp, ⟨by rw [show j0 9 (0 : Nat) = 0 by simp [j0], Int.add_zero]; exact ht.gd, trivial⟩, h.gd⟩, ⟨by simp [V2, u5, B9, x4]; omega, ⟨ht.lc, trivial⟩, h.lc⟩⟩
instance (d : Int) (t : Tm) (c1 c2 : Cs) [ht : Okt d t] [h : OkC d [c1, c2]] : Okt d (maM t [c1, c2]) := bA7 (by simp) ht h
instance (d : Int) (t : Tm) (c1 c2 c3 : Cs) [ht : Okt d t] [h : OkC d [c1, c2, c3]] : Okt d (maM t [c1, c2, c3]) := bA7 (by simp) ht h
instance : Okq t8 1 := ⟨by simp [t8, E9, W9, C6, B9, u5], by simp [t8, j2]⟩
instance (n : Int) [h : Nb n] : Okq (pnM n) 0 := ⟨by have := h.h; simp [pnM, E9, W9, C6, B9, u5]; omega, by simp [pnM, j2, A3]⟩
theorem bg9 {r : List Int} {n : Int} {ks : List Pat} (hn : 0 ≤ n ∧ n ≤ 7) (hl : ks.length ≤ 4) (h : W9 ks = 0) : E9 (pcM r n ks) = 0 := by
 have h2 : C6 3 n r ks.length = 0 := by simp [C6, B9, u5]; omega
 simp only [pcM, E9, if_pos h2, h]
instance (r : List Int) (n : Int) [h : Nb n] : Okq (pcM r n []) 0 := ⟨bg9 h.h (by simp) rfl, by simp [pcM, j2, A3]⟩
instance (r : List Int) (n : Int) (p : Pat) (e : Int) [h : Nb n] [hp : Okq p e] : Okq (pcM r n [p]) (e + 0) := ⟨bg9 h.h (by simp) (by simp [W9, hp.h]), by simp [pcM, j2, A3, hp.b]⟩
instance (r : List Int) (n : Int) (p q : Pat) (e f : Int) [h : Nb n] [hp : Okq p e] [hq : Okq q f] : Okq (pcM r n [p, q]) (e + f) := ⟨bg9 h.h (by simp) (by simp [W9, hp.h, hq.h]), by simp [pcM, j2, A3, hp.b, hq.b]⟩
class Ln (v : List Ty) (d : Int) : Prop where
 h : (v.length : Int) = d
instance (v : List Ty) : Ln v v.length := ⟨rfl⟩
theorem Ln.one {v : List Ty} {d : Int} (h : Ln v d) (x : Ty) : Ln (v ++ [x]) (d + 1) := ⟨by have := h.h; simp; omega⟩
theorem Ln.two {v : List Ty} {d : Int} (h : Ln v d) (x y : Ty) : Ln (v ++ [x, y]) (d + 2) := ⟨by have := h.h; simp; omega⟩
instance (v : List Ty) (d : Int) (x : Ty) [h : Ln v d] : Ln (v ++ [x]) (d + 1) := h.one x
instance (v : List Ty) (d : Int) (x y : Ty) [h : Ln v d] : Ln (v ++ [x, y]) (d + 2) := h.two x y
instance (v : List Ty) (d : Int) (x : Ty) [h : Ln v d] : Ln (v ++ [x]) (d + (1 + 0)) := h.one x
instance (v : List Ty) (d : Int) (x y : Ty) [h : Ln v d] : Ln (v ++ [x, y]) (d + (1 + 1)) := h.two x y
instance (v : List Ty) (d : Int) [h : Ln v d] : Ln v (d + 0) := ⟨by have := h.h; omega⟩
class Mo (m : Mk) : Prop where
 h : ∀ t v a s l, Okt v.length (m.f t v a s l).1
variable (bs : List Int) (m : Mk) [hm : Mo m]
instance (t : TT) (v : List Ty) (a : List AB) (s : Sd) (l d : Int) [h : Ln v d] : Okt d (m.f t v a s l).1 := h.h ▸ hm.h t v a s l
theorem bi9 (v : List Ty) (t : Ty) (s : Sd) (h : (r6 bs v t s).1.2 = true) : Okt v.length (r6 bs v t s).1.1 := by
 obtain ⟨j, hj, e⟩ := aR4 bs h
 rw [e];exact bg8 (by omega)
theorem bi5 (v : List Ty) (t : Ty) (base : Sd → Tm × Sd) (hb : ∀ s, Okt v.length (base s).1) (s : Sd) : Okt v.length (S5 bs v t base s).1 := by
 unfold S5
 split
 ·rename_i h
  split
  ·exact bi9 bs v t s h
  ·exact hb _
 ·exact hb _
theorem aV2 (d : Int) (x : BT) (s : Sd) : Okt d (ag4 bs x s).1 := by
 cases x
 ·exact (inferInstance : Okt d (nuM (a4 bs 4 s).1))
 ·exact (inferInstance : Okt d (coM (b7 1) (a4 bs 2 s).1 []))
theorem bC1 (x : BT) (v : List Ty) (s : Sd) : Okt v.length (B0 bs x v s).1 := bi5 bs v _ _ (aV2 bs _ x) s
instance (x : BT) (v : List Ty) (s : Sd) (d : Int) [h : Ln v d] : Okt d (B0 bs x v s).1 := h.h ▸ bC1 bs x v s
theorem bh6 (t : TT) (v : List Ty) (s : Sd) : Okt v.length (K5 bs t v s).1 := by
 refine bi5 bs v _ _ (fun s => ?_) s
 cases t with
 | ba x => exact aV2 bs _ x s
 | li x => exact (inferInstance : Okt _ (coM (b7 2) 0 []))
 | op x => exact (inferInstance : Okt _ (coM (b7 4) 0 []))
 | pa x y => simp only [S0]; infer_instance
 | fn x => simp only [S0]; infer_instance
theorem aq1 (t : TT) (v : List Ty) (a : List AB) (s : Sd) (l : Int) : Okt v.length (m0 bs m t v a s l).1 := by
 cases t with
 | ba x =>
  cases x <;> simp only [m0] <;> repeat' split
  all_goals infer_instance
 | li x => simp only [m0]; split <;> infer_instance
 | op x => simp only [m0]; split <;> infer_instance
 | pa x y => simp only [m0]; infer_instance
 | fn x => simp only [m0]; infer_instance
theorem cb2 (t : TT) (v : List Ty) (a : List AB) (s : Sd) (l : Int) (h : (z9 bs m t v a s l).1.2 = true) : Okt v.length (z9 bs m t v a s l).1.1 := by
 simp only [z9] at h ⊢
 split at h
 ·cases h
 rename_i h0
 rw [if_neg h0]
 split at h
 ·rename_i h1
  rw [if_pos h1]
  split <;> infer_instance
 ·cases h
theorem bB4 (t : TT) (v : List Ty) (a : List AB) (s : Sd) (l : Int) : Okt v.length (C4 bs m t v a s l).1 := by
 simp only [C4]
 repeat' split
 all_goals infer_instance
theorem bt7 (t : TT) (v : List Ty) (a : List AB) (b : BT) (s : Sd) (l d : Int) [h : Ln v d] : Okt (d + 2) (D2 bs m t v a b s l).1 := by
 have hv : Okt (d + 2) (vaM 0) := bg8 (by have := h.h; omega)
 simp only [D2]
 repeat' split
 all_goals infer_instance
theorem ay6 (t : TT) (v : List Ty) (a : List AB) (b : BT) (s : Sd) (l d : Int) [h : Ln v d] : ∀ i : Nat, ∀ x ∈ (f9 bs m t v a b s l i).1, Okt (d + 2) x
 | 0, x, hx => by simp [f9] at hx
 | i + 1, x, hx => by
  simp only [f9, List.mem_append, List.mem_singleton] at hx
  rcases hx with hx | rfl
  ·exact ay6 t v a b s l d i x hx
  ·exact bt7 bs m t v a b _ _ d
theorem aj6 (m : Mk) (t : TT) (v : List Ty) (a : List AB) (back : BT) (s : Sd) (l : Int) : ∀ i, (f9 bs m t v a back s l i).1.length ≤ i
 | 0 => by simp [f9]
 | i + 1 => by
  have := aj6 m t v a back s l i
  simp [f9]; omega
theorem br7 (t : TT) (v : List Ty) (a : List AB) (s : Sd) (l : Int) : Okt v.length (w7 bs m t v a s l).1 := by
 simp only [w7]
 split
 ·exact aq1 bs m t v a _ _
 ·refine bT8 ?_ inferInstance inferInstance (ay6 bs m t v a _ _ _ _ _)
  refine Nat.le_trans (aj6 bs m t v a _ _ _ _) ?_
  split <;> omega
theorem bM1 (t : TT) (v : List Ty) (a : List AB) (s : Sd) (l : Int) : Okt v.length (L7 bs m t v a s l).1 := by
 simp only [L7]
 split
 ·split
  ·rename_i h; exact bi9 bs v t.ty _ h
  ·exact aq1 bs m t v a _ _
 split
 ·infer_instance
 split
 ·infer_instance
 split
 ·exact bB4 bs m t v a _ _
 split
 ·split
  ·rename_i h; exact cb2 bs m t v a _ _ h
  ·exact aq1 bs m t v a _ _
 split
 ·exact br7 bs m t v a _ _
 ·exact aq1 bs m t v a _ _
instance term_mo : ∀ n : Nat, Mo (t5 bs n)
 | 0 => ⟨fun t v a s l => by simp only [t5]; exact bh6 bs t v s⟩
 | n + 1 => ⟨fun t v a s l => by
  have ih := term_mo n
  simp only [t5]
  split
  ·exact bh6 bs t v s
  ·exact bM1 bs (t5 bs n) t v a s _⟩
theorem bv1 (size : Nat) (t : TT) (a : List AB) (s : Sd) : Rt (Z1 bs size t a s).1 := by
 have := (term_mo bs size).h t [] a s size
 exact ⟨this.gd, this.lc⟩
class Ko (m : Sk) : Prop where
 h : ∀ d s l, 0 ≤ d → Okt d (m.f d s l).1
variable (k : Sk) [hk : Ko k]
theorem av2 {f : Sd → Pat × Sd} (hf : ∀ s, E9 (f s).1 = 0) (s : Sd) : ∀ i, W9 (F9 f s i).1 = 0
 | 0 => rfl
 | i + 1 => by
  have := av2 hf s i
  rw [au9] at this ⊢
  simp only [F9]
  generalize (F9 f s i).1 = l at this
  induction l with
  | nil => simp [m9, hf]
  | cons a l ih =>
   simp only [m9, List.cons_append] at this ⊢
   split at this
   ·rename_i h0
    rw [if_pos h0];exact ih this
   ·rename_i h0
    exact absurd this h0
theorem aO8 : ∀ (d : Nat) (s : Sd), E9 (m7 bs d s).1 = 0
 | 0, s => by
  simp only [m7]
  split
  ·exact (inferInstance : Okq (pnM (a4 bs 3 (a4 bs 5 s).2).1) 0).h
  ·exact (inferInstance : Okq t8 1).h
 | d + 1, s => by
  simp only [m7]
  split
  ·refine bg9 (inferInstance : Nb (a4 bs 2 _).1).h ?_ (av2 (aO8 d) _ _)
   rw [ac7]
   have := aa4 bs (a4 bs 2 (p5 bs 1 4 (a4 bs 5 s).2).2).2
   omega
  split
  ·exact (inferInstance : Okq (pnM (a4 bs 3 (a4 bs 5 s).2).1) 0).h
  ·exact (inferInstance : Okq t8 1).h
theorem aY6 (d : Int) (hd : 0 ≤ d) (s : Sd) (l : Int) : ∀ i, ∀ x ∈ (scL k d s l i).1, Okt d x
 | 0, x, hx => by simp [scL] at hx
 | i + 1, x, hx => by
  simp only [scL, List.mem_append, List.mem_singleton] at hx
  rcases hx with hx | rfl
  ·exact aY6 d hd s l i x hx
  ·exact hk.h _ _ _ hd
theorem as8 (k : Sk) (d : Int) (s : Sd) (l : Int) : ∀ i, (scL k d s l i).1.length = i
 | 0 => rfl
 | i + 1 => by simp [scL, as8 k d s l i]
theorem aU6 (k : Sk) (d : Int) (s : Sd) (l : Int) : ∀ i, (caL bs k d s l i).1.length = i
 | 0 => rfl
 | i + 1 => by simp [caL, aU6 k d s l i]
theorem OkC.app {d : Int} : ∀ {a b : List Cs}, OkC d a → OkC d b → OkC d (a ++ b)
 | [], _, _, h => h
 | c :: cs, b, h, g => by
  have := OkC.app (a := cs) ⟨h.gd.2, h.lc.2⟩ g
  exact ⟨⟨h.gd.1, this.gd⟩, h.lc.1, this.lc⟩
theorem bH4 (d : Int) (hd : 0 ≤ d) (s : Sd) (l : Int) : ∀ i, OkC d (caL bs k d s l i).1
 | 0 => by simp only [caL]; infer_instance
 | i + 1 => by
  have h1 := bH4 d hd s l i
  have h2 := aO8 bs 2 (caL bs k d s l i).2.1
  have h3 := (z8 (m7 bs 2 (caL bs k d s l i).2.1).1).1
  have h4 := hk.h (d + j2 (m7 bs 2 (caL bs k d s l i).2.1).1) (m7 bs 2 (caL bs k d s l i).2.1).2 (caL bs k d s l i).2.2 (by omega)
  simp only [caL]
  exact h1.app ⟨⟨⟨h2, h4.gd⟩, trivial⟩, h4.lc, trivial⟩
theorem bx6 (x : Int) (d : Int) (hd : 0 ≤ d) (s : Sd) (l : Int) : Okt d (w5 bs k x d s l).1 := by
 have h0 : ∀ s l, Okt d (k.f (d + 0) s l).1 := fun s l => by rw [Int.add_zero]; exact hk.h d s l hd
 have h1 : ∀ s l, Okt (d + 1) (k.f (d + 1) s l).1 := fun s l => hk.h _ s l (by omega)
 simp only [w5]
 split
 ·rename_i h; exact bg8 (p8 bs s h.2)
 split
 ·infer_instance
 split
 ·infer_instance
 split
 ·have := h1 s l; infer_instance
 split
 ·have := h0 s l
  have := h0 (k.f (d + 0) s l).2.1 (k.f (d + 0) s l).2.2
  infer_instance
 split
 ·have := h0 s l
  have := h1 (k.f (d + 0) s l).2.1 (k.f (d + 0) s l).2.2
  infer_instance
 split
 ·have := h0 (y5 bs 1 5 s).2 l
  have := h0 (k.f (d + 0) (y5 bs 1 5 s).2 l).2.1 (k.f (d + 0) (y5 bs 1 5 s).2 l).2.2
  infer_instance
 split
 ·have := h0 (a4 bs 2 (p5 bs 11 3 s).2).2 l
  infer_instance
 split
 ·refine bT8 ?_ (h0 _ _) (h1 _ _) (aY6 k (d + 2) (by omega) _ _ _)
  rw [as8]
  have := aa4 bs (k.f (d + 1) (k.f (d + 0) (p5 bs 11 3 s).2 l).2.1 (k.f (d + 0) (p5 bs 11 3 s).2 l).2.2).2.1
  omega
 split
 ·refine bA7 ?_ (h0 _ _) (bH4 bs k d hd _ _ _)
  rw [aU6]
  have := aa4 bs (k.f (d + 0) s l).2.1
  omega
 ·refine bh0 (inferInstance : Nb (a4 bs 3 _).1).h ?_ (by rw [Int.add_zero]; exact aY6 k d hd _ _ _)
  rw [as8]
  have := aa4 bs (a4 bs 3 (p5 bs 1 4 s).2).2
  omega
theorem bn8 (m : Sk) (x : Int) (hx : x < 4) (d : Int) (s : Sd) (l : Int) : Okt d (w5 bs m x d s l).1 := by
 unfold w5
 split
 ·rename_i h; exact bg8 (p8 bs s h.2)
 split
 ·infer_instance
 ·infer_instance
instance scoped_ko : ∀ n : Nat, Ko (j9 bs n)
 | 0 => ⟨fun d s l hd => by
  simp only [j9]
  split
  ·rename_i hl
   exact bn8 bs aa8 _ (R5 bs hl) d _ _
  ·exact bA6 (by decide)⟩
 | n + 1 => ⟨fun d s l hd => by
  have ih := scoped_ko n
  simp only [j9]
  exact bx6 bs (j9 bs n) _ d hd _ _⟩
theorem bf4 (size : Nat) (s : Sd) : Rt (K3 bs size s).1 := by
 have := (scoped_ko bs size).h 0 s size (Int.le_refl _)
 exact ⟨this.gd, this.lc⟩
def O9 (size : Nat) (s : Sd) : Tm × Sd :=
 if (c6 bs 3 s).1 = true then K3 bs size (c6 bs 3 s).2
 else Z1 bs size (v4 bs (c6 bs 3 s).2).1 [.st, .fl] (v4 bs (c6 bs 3 s).2).2
theorem bF7 (size : Nat) (s : Sd) : Rt (O9 bs size s).1 := by
 unfold O9
 split
 ·exact bf4 bs size _
 ·exact bv1 bs size _ _ _
theorem bO8 (size : Nat) (hs : size ≤ 30) (s : Sd) : a5 (O9 bs size s).1 ≤ 70000 := by
 unfold O9
 split
 ·exact bW8 bs size hs _
 ·exact bI9 bs size hs _ _ _
theorem bl5 {s : Sd} {l k : Int} (h : Bd s l k) (hl : l = 0) : 0 ≤ s.a ∧ s.a ≤ 1152921504606846976 + k := by
 have := h.h
 subst hl
 simpa using this
theorem bO9 [hz : Bz bs] (size : Nat) (hs : size ≤ 30) (s : Sd) (h0 : 0 ≤ s.a ∧ s.a ≤ 1000) :
  HCall Tryz.prog gL 41 [.ptr 950 [] 171, iv .i64 size] [] (stO bs s) (.pu (tmc 0 (O9 bs size s).1)) (stO bs (O9 bs size s).2) [] := by
 have hb : Bd s 0 (1000 - 1152921504606846976) := ⟨by simp; omega⟩
 have hb1 := bl5 (inferInstance : Bd (c6 bs 3 s).2 0 (1000 - 1152921504606846976 + 1)) rfl
 have hb2 := bl5 (inferInstance : Bd (v4 bs (c6 bs 3 s).2).2 0 (1000 - 1152921504606846976 + 1 + 3)) rfl
 refine HCall.of_triD tbl 18 [950] Tryz.func41 rfl rfl rfl fun w0 M ρ0 D0 => ?_
 simp only [O9]
 refine yR ?_;refine a8 SS 4 ?_;refine a6 [4] ?_;refine Y1 ?_;refine a9 (L4 bs 3 s (by omega)) ?_;refine Y0 ?_;refine Cq ?_ ?_
 ·intro h0
  rw [if_pos h0];refine Y32 ?_;refine a9 (bx3 bs size hs (c6 bs 3 s).2 (by omega)) ?_;refine Y10 ?_;refine Rcz ?_;exact VImp.refl _
 ·intro h0
  rw [if_neg (by rw [h0]; decide)];refine Tri.skip ?_;refine Y32 ?_;refine a9 (aO3 bs (c6 bs 3 s).2 (by omega)) ?_;refine yM ?_;refine yG ?_;refine yG ?_;refine yZ ?_;refine a9 (bJ0 bs size hs (v4 bs (c6 bs 3 s).2).1 [.st, .fl] (by decide) (v4 bs (c6 bs 3 s).2).2 (by omega)) ?_;refine Y29 ?_;refine Rcz ?_;exact VImp.refl _
end
section
variable {G : List (Nat × TypeId × Pu)}
def aw8 (k n : Int) (r : List Int) : Pu := .agg 275 [.leaf (.int .i64 k), .leaf (.int .i64 n), f5 r]
instance (k n : Int) (r : List Int) : TyV Tryz.prog 275 (.pu (aw8 k n r)) := inferInstanceAs (TyV Tryz.prog 275 (.pu (.agg _ _)))
theorem bC8 (k n : Int) (r : List Int) (k' n' : Int) (r' : List Int) : Tryz.prog.eqGuardType Tryz.prog.depth 275 = false ∧ 275 < Tryz.prog.types.size ∧ tyP Tryz.prog 275 (aw8 k n r) = true ∧ tyP Tryz.prog 275 (aw8 k' n' r') = true :=
 ⟨by kernel_rfl, of_decide_eq_true (by kernel_rfl), (show tyV Tryz.prog 275 (.pu (aw8 k n r)) = true from TyV.ok), (show tyV Tryz.prog 275 (.pu (aw8 k' n' r')) = true from TyV.ok)⟩
theorem cd4 {α : Type} : ∀ {l : List α}, l.length = 3 → ∃ a b c, l = [a, b, c]
 | [a, b, c], _ => ⟨a, b, c, rfl⟩
theorem bb2 : ∃ f1 f2 f3 : Field, Tryz.prog.underlying 275 = some (.struct #[f1, f2, f3]) ∧ (f1.name ≠ "_" ∧ f2.name ≠ "_" ∧ f3.name ≠ "_") ∧ f1.type = 3 ∧ f2.type = 3 ∧ f3.type = 28 := by
 have h : (match Tryz.prog.underlying 275 with | some (.struct fs) => (fs.toList.map (·.type) == [3, 3, 28]) && fs.toList.all (fun f => f.name != "_") | _ => false) = true := by kernel_rfl
 split at h
 ·rename_i fs hfs
  obtain ⟨l⟩ := fs
  simp only [Bool.and_eq_true, beq_iff_eq] at h
  obtain ⟨h1, h2⟩ := h
  obtain ⟨f1, f2, f3, rfl⟩ : ∃ f1 f2 f3, l = [f1, f2, f3] := cd4 (by simpa using congrArg List.length h1)
  simp only [List.map_cons, List.map_nil, List.cons.injEq, and_true] at h1
  simp only [List.all_cons, List.all_nil, Bool.and_true, Bool.and_eq_true, bne_iff_ne] at h2
  exact ⟨f1, f2, f3, hfs, h2, h1.1, h1.2.1, h1.2.2⟩
 ·cases h
theorem bL5 (d : Nat) (k n : Int) {r : List Int} (k' n' : Int) {r' : List Int} (h : r.length = r'.length) : peqT Tryz.prog (d + 4) 275 (aw8 k n r) (aw8 k' n' r') = some ((k == k') && ((n == n') && ((r == r') && true))) := by
 obtain ⟨f1, f2, f3, hu, ⟨a1, a2, a3⟩, b1, b2, b3⟩ := bb2
 have hs : Tryz.prog.stoodInHeld 275 = false := by kernel_rfl
 have hi : Tryz.prog.underlying 3 = some (.int .i64) := by kernel_rfl
 have hr := av0 (d + 1) h
 have hn : ∀ a b : Int, peqT Tryz.prog (d + 3) 3 (.leaf (.int .i64 a)) (.leaf (.int .i64 b)) = some (a == b) := fun a b => by simp only [peqT, hi, if_true]
 unfold aw8
 rw [peqT.eq_def]
 simp only [hu, hs, Bool.false_eq_true, if_false, aO6, a1, a2, a3, b1, b2, b3, hr, hn]
theorem bS2 {k n : Int} {r : List Int} {k' n' : Int} {r' : List Int} (h : r.length = r'.length) : R9 Tryz.prog .eql 275 (.pu (aw8 k n r)) (.pu (aw8 k' n' r')) = some (bv ((k == k') && ((n == n') && ((r == r') && true)))) := by
 have h1 := bC8 k n r k' n' r'
 have h2 := fun e => bL5 e k n k' n' h
 unfold aw8 at h1 h2 ⊢
 simp only [R9, if_pos h1]
 generalize hd : (100 : Nat) = d
 obtain ⟨e, rfl⟩ : ∃ e, d = e + 4 := ⟨96, by omega⟩
 rw [h2 e]
theorem bv7 : ∀ (N : Nat) (p q : Pat), k9 p ≤ N → N < 2^40 → k9 q < 2^40 → FCall Tryz.prog G 190 [.pu (A6 0 p), .pu (A6 0 q)] (bv (Z4 p q)) := by
 intro N
 induction N with
 | zero => intro p q h; cases p; simp [k9] at h
 | succ N ih =>
 intro p q hp hN hq
 obtain ⟨k, n, r, ks⟩ := p
 obtain ⟨k', n', r', ks'⟩ := q
 simp only [k9] at hp hq
 have hlen := o4 ks
 have hlen' := o4 ks'
 refine Fq 27 Tryz.func190 ?_;intro w0 M ρ0 D0
 refine Tri.fact (i := 0) rfl (fun D w x h => af8 h) (fun hr => ?_);refine Tri.fact (i := 1) rfl (fun D w x h => af8 h) (fun hr' => ?_)
 simp only [wfP] at hr hr'
 refine Y65 ?_;refine yB ?_;refine a6 [2, 3] ?_;refine Y14 ?_;refine Y3 ?_;refine Y3 ?_;refine yP ?_;refine Y3 ?_;refine Y3 ?_;refine Y3 ?_;refine yP ?_;refine b5 (z7 SS (h := bS2 (hr.1.trans hr'.1.symm))) ?_;refine Y42 ?_;refine q8 zG (o6 (fun _ => aT8 190 (by kernel_rfl) Z4 ks ks' (by omega) (by omega) (fun i h1 h2 => ih _ _ (by have := x6 h1; omega) (by omega) (by have := x6 h2; omega)))) ?_;refine yN ?_;refine Y2 ?_;refine Rq ?_;exact l7 (by simp only [Z4, ak9, Bool.and_true, Bool.and_assoc])
theorem bv8 (c d : Cs) (hp : u7 c < 2^40) (hq : u7 d < 2^40) (h : FCall Tryz.prog G 129 [.pu (tmc 0 (csT c)), .pu (tmc 0 (csT d))] (bv (O0 (csT c) (csT d)))) : FCall Tryz.prog G 189 [.pu (M6 0 c), .pu (M6 0 d)] (bv (W6 c d)) := by
 obtain ⟨p, t⟩ := c
 obtain ⟨q, u⟩ := d
 simp only [csT, u7] at h hp hq
 refine Fq 17 Tryz.func189 ?_;intro w0 M ρ0 D0
 refine Y65 ?_;refine yB ?_;refine a6 [2, 3] ?_;refine Y14 ?_;refine Y3 ?_;refine Dq (bv7 _ p q (Nat.le_refl _) (by omega) (by omega)) ?_;refine Y42 ?_;refine q8 zG (o6 (fun _ => h)) ?_;refine yN ?_;refine Y2 ?_;refine Rq ?_;exact l7 (by simp only [W6])
theorem bv6 : ∀ (N : Nat) (t u : Tm), a5 t ≤ N → N < 2^40 → a5 u < 2^40 → FCall Tryz.prog G 129 [.pu (tmc 0 t), .pu (tmc 0 u)] (bv (O0 t u)) := by
 intro N
 induction N with
 | zero => intro t u h; have := r9 t; omega
 | succ N ih =>
 intro t u hp hN hq
 obtain ⟨k, n, r, ks, cs⟩ := t
 obtain ⟨k', n', r', ks', cs'⟩ := u
 simp only [a5] at hp hq
 have hlen := l8 ks
 have hlen' := l8 ks'
 have hlc := s6 cs
 have hlc' := s6 cs'
 refine Fq 38 Tryz.func129 ?_;intro w0 M ρ0 D0
 refine Tri.fact (i := 0) rfl (fun D w x h => an3 h) (fun hr => ?_);refine Tri.fact (i := 1) rfl (fun D w x h => an3 h) (fun hr' => ?_)
 simp only [wfT] at hr hr'
 have hcs : ∀ i (h1 : i < cs.length) (h2 : i < cs'.length), FCall Tryz.prog G 189 [.pu (M6 0 cs[i]), .pu (M6 0 cs'[i])] (bv (W6 cs[i] cs'[i])) := fun i h1 h2 => by
  have s1 := L1 h1
  have s2 := L1 h2
  generalize cs[i] = c at s1 ⊢
  generalize cs'[i] = d at s2 ⊢
  refine bv8 c d (by omega) (by omega) ?_
  obtain ⟨p, t⟩ := c
  obtain ⟨q, u⟩ := d
  simp only [u7, csT] at s1 s2 ⊢
  exact ih t u (by omega) (by omega) (by omega)
 refine Y65 ?_;refine yB ?_;refine a6 [2, 3] ?_;refine Y14 ?_;refine Y3 ?_;refine yI ?_;refine Y42 ?_;refine Y21 ?_;refine Y42 ?_;refine q8 zG (z7 SS (h := x5 (hr.1.trans hr'.1.symm))) ?_;refine yN ?_;refine Y42 ?_;refine q8 zG (o6 (fun _ => bj7 129 (by kernel_rfl) O0 ks ks' (by omega) (by omega) (fun i h1 h2 => ih _ _ (by have := K7 h1; omega) (by omega) (by have := K7 h2; omega)))) ?_;refine yN ?_;refine Y42 ?_;refine q8 zG (o6 (fun _ => bj8 189 (by kernel_rfl) W6 cs cs' (by omega) (by omega) hcs)) ?_;refine yN ?_;refine Y2 ?_
 refine Rq ?_;exact l7 (by simp only [O0, al1, ak8])
end
section
variable {G : List (Nat × TypeId × Pu)}
mutual
def N8 : Tm → Tm
 | .mk k n r ks _ => if k = 3 then .mk 3 0 Z32 [.mk 2 0 Z32 [] []] [] else .mk k n r (W5 ks) []
def W5 : List Tm → List Tm
 | [] => []
 | t :: ts => N8 t :: W5 ts
end
theorem ah4 : ∀ ks, W5 ks = ks.map N8
 | [] => rfl
 | t :: ts => by simp only [W5, List.map_cons, ah4 ts]
mutual
def ncT : Tm → Prop
 | .mk k _ _ ks cs => k = 3 ∨ (cs = [] ∧ ncL ks)
def ncL : List Tm → Prop
 | [] => True
 | t :: ts => ncT t ∧ ncL ts
end
theorem bh2 : ∀ {ks : List Tm}, ncL ks → ∀ x ∈ ks, ncT x
 | _ :: _, h, x, hx => by
  rcases List.mem_cons.1 hx with rfl | hx
  ·exact h.1
  ·exact bh2 h.2 x hx
mutual
theorem aW7 : ∀ {t : Tm}, P2 t = true → shT t → lcT t → ncT t
 | .mk k n r ks cs, hv, hs, hl => by
  by_cases h3 : k = 3
  ·exact .inl h3
  have hk : k = 2 ∨ k = 8 := by
   simp only [P2, Bool.or_eq_true, Bool.and_eq_true, beq_iff_eq] at hv
   omega
  have hc : cs = [] := by
   have := hl.1.1
   have hh : x4 k = false := by rcases hk with rfl | rfl <;> rfl
   rw [hh] at this
   simp only [u5, Bool.not_false, Bool.and_true, Bool.or_eq_false_iff, decide_eq_false_iff_not] at this
   exact List.eq_nil_of_length_eq_zero (by omega)
  refine .inr ⟨hc, ?_⟩
  rcases hk with rfl | rfl
  ·have : ks = [] := by
    have := hs.1
    simp [s8] at this
    exact this
   rw [this]; trivial
  ·simp only [P2, Bool.or_eq_true, Bool.and_eq_true, beq_iff_eq] at hv
   have hv' : aW8 ks = true := by
    rcases hv with (h | h) | h
    ·omega
    ·omega
    ·exact h.2
   exact be0 hv' hs.2.2.1 hl.2.1
theorem be0 : ∀ {ts : List Tm}, aW8 ts = true → shL ts → lcK ts → ncL ts
 | [], _, _, _ => trivial
 | t :: ts, hv, hs, hl => by
  simp only [aW8, Bool.and_eq_true] at hv
  exact ⟨aW7 hv.1 hs.1 hl.1, be0 hv.2 hs.2 hl.2⟩
end
theorem ai2 : ncT p7 := .inr ⟨rfl, trivial⟩
theorem ba4 {P : Program} {m : Nat} {T E : TypeId} {a b c d : Pu} : VImp P (.pu (.agg T [a, b, c, d, .sl 0 E []])) (.pu (.agg T [a, b, c, d, .sl m E []])) := fun C w x hx => by
 cases hx with
 | one h1 h2 =>
  refine .one (.pu ?_) h2
  have h := h1.pu_inv
  generalize x.cells.toList = z at h
  cases h with
  | agg hc h =>
   refine .agg hc ?_
   cases h with | cons p0 s0 t0 h =>
   cases h with | cons p1 s1 t1 h =>
   cases h with | cons p2 s2 t2 h =>
   cases h with | cons p3 s3 t3 h =>
   cases h with | cons p4 s4 t4 h =>
   cases h
   refine .cons p0 s0 t0 (.cons p1 s1 t1 (.cons p2 s2 t2 (.cons p3 s3 t3 (.cons ?_ s4 t4 .nil))))
   cases p4 with
   | sl0 => exact .sl0
   | sl hn => exact (hn rfl).elim
theorem bW7 : ∀ (N : Nat) (t : Tm), a5 t ≤ N → N < 2^30 → ncT t → FCallN Tryz.prog G 128 [.pu (tmc 0 t)] (fun m => .pu (tmc m (N8 t))) := by
 intro N
 induction N with
 | zero => intro t h; have := r9 t; omega
 | succ N ih =>
 intro t hp hN hnc
 obtain ⟨k, n, r, ks, cs⟩ := t
 simp only [a5] at hp
 have hlen := l8 ks
 refine FCallN.of_tri tbl 30 Tryz.func128 rfl rfl (fun _ => rfl) fun w0 M ρ0 D0 hM => ?_
 refine Y68 ?_;refine Y37 ?_;refine Y0 ?_;refine Cq ?_ ?_
 ·intro h0
  have hk : k = 3 := by simpa using h0
  have hfin : N8 (.mk k n r ks cs) = .mk 3 0 Z32 [.mk 2 0 Z32 [] []] [] := by rw [N8, if_pos hk]
  refine yR ?_;refine yP ?_;refine aN1 SS (lo := w0.heap.size) (ps := [tmc w0.heap.size (.mk 2 0 Z32 [] [])]) ?_;refine Y49 ?_;refine Rc ?_;exact (by rw [hfin]; exact ToPu.imp (by repeat constructor))
 ·intro h0
  have hk : ¬ k = 3 := by simpa using h0
  obtain ⟨hcs, hnk⟩ := hnc.resolve_left hk
  subst hcs
  have hfin : N8 (.mk k n r ks []) = .mk k n r (W5 ks) [] := by rw [N8, if_neg hk]
  refine Tri.skip ?_;refine Y22 ?_;refine Y12 ?_;refine yR ?_;refine yF ?_;refine Y17 ?_;refine Y1 ?_;refine Y38 ?_;refine Tri.block (Tri.loopW (σ := Nat) (fun i => ⟨[(1, .ptr 1 [] 32), (2, .ptr 2 [] 32), (15, .pu (.sl 0 32 (l5 0 ks))), (16, iv .i64 (l5 0 ks).length), (17, iv .i64 i)], [(1, .var 32 (.agg 32 [iv .i64 k, iv .i64 n, .pu (f5 r), .ow w0.heap.size 32 (l5 w0.heap.size (W5 (ks.take i))), .pu (.sl 0 106 [])])), (2, .var 32 (.agg 32 [iv .i64 0, iv .i64 0, .pu (f5 Z32), .nilc, .nilc]))]⟩) (fun i => ks.length - i) 0 ?_ ?_ (fun i => ?_))
  ·repeat (first | exact .nil | refine .cons rfl (by first | exact .refl | (focus ((repeat constructor); done)) | (exact .var (.agg (.cons .refl (.cons .refl (.cons .refl (.cons .nilcOw (.cons .refl .nil)))))))) ?_)
  ·repeat (first | exact .nil | refine .cons rfl (by first | exact .refl | (focus ((repeat constructor); done)) | (exact .var (.agg (.cons .refl (.cons .refl (.cons .refl (.cons .nilcOw (.cons .refl .nil)))))))) ?_)
  refine Y30 ?_;refine Cq ?_ ?_
  ·intro h1
   have hi : i < ks.length := by rw [a7] at h1; simpa using h1
   have hsz := w8 (List.getElem_mem hi)
   have hts : ∀ m, l5 m (W5 (ks.take (i + 1))) = l5 m (W5 (ks.take i)) ++ [tmc m (N8 ks[i])] := fun m => by
    rw [ah4, ah4, o8, o8, List.take_succ_eq_append_getElem hi, List.map_append, List.map_append]; rfl
   refine Y76 ?_;refine b5 (j6 SS (h0 := by omega) (hp := B6 hi)) ?_;refine yL ?_;refine a8 SS 5 ?_;refine yS ?_;refine a6 [5] ?_;refine Y22 ?_;refine yL ?_;refine b5 (F2 (fun m n h => (E6 h _).imp) (fun _ => ih ks[i] (by omega) (by omega) (bh2 hnk _ (List.getElem_mem hi)))) ?_;refine aN1 SS (lo := w0.heap.size) ?_;refine O1 1 [3] ?_ ?_
   ·simp [o8, ah4]; omega
   refine yF ?_;refine yW ?_;refine x8 ?_;refine Y25 ?_
   refine ⟨i + 1, by omega, k7 ?_ ?_⟩
   ·repeat (first | exact SubE.nil | refine SubE.cons rfl (by first | rfl | (rw [b4 (by omega) (by omega)]; rfl) | (rw [hts]; rfl)) ?_)
   ·repeat (first | exact SubH.nil | refine SubH.cons rfl (by first | rfl | (rw [b4 (by omega) (by omega)]; rfl) | (rw [hts]; rfl)) ?_)
  ·intro h1
   have hi : ks.length ≤ i := by rw [a7] at h1; simpa using h1
   rw [List.take_of_length_le hi];refine Tri.exit ?_;refine Y61 ?_;refine Rc ?_;exact (by rw [hfin]; exact VImp.trans (ToPu.imp (p := .agg 32 [.leaf (.int .i64 k), .leaf (.int .i64 n), f5 r, .sl w0.heap.size 32 (l5 w0.heap.size (W5 ks)), .sl 0 106 []]) (by repeat constructor)) ba4)
mutual
theorem ak7 : ∀ t : Tm, a5 (N8 t) ≤ 2 * a5 t
 | .mk k n r ks cs => by
  have := as7 ks
  simp only [N8]
  split
  ·simp only [a5, c7, d6]; omega
  ·simp only [a5, d6]; omega
theorem as7 : ∀ ts : List Tm, c7 (W5 ts) ≤ 2 * c7 ts
 | [] => by simp [W5, c7]
 | t :: ts => by
  have h1 := ak7 t
  have h2 := as7 ts
  have h3 := r9 t
  simp only [W5, c7]; omega
end
end
section
variable {G : List (Nat × TypeId × Pu)}
end
section
variable {G : List (Nat × TypeId × Pu)}
end
section
variable {G : List (Nat × TypeId × Pu)}
theorem au5 : ∀ (N : Nat) (t : Tm), a5 t ≤ N → ar8 (b8 t (d9 t)).kind (b8 t (d9 t)).kids = none
 | 0, t, h => by have := r9 t; omega
 | N + 1, .mk k n r ks cs, h => by
  have hpw := au4 k n r ks cs
  cases hw : ar8 k ks with
  | none => rw [hw] at hpw; simp only at hpw; rw [hpw]; exact hw
  | some j =>
   obtain ⟨hj1, x, hx, hxv⟩ := ar7 hw
   rw [hw] at hpw
   simp only [hx] at hpw
   have hxs := w8 (List.mem_of_getElem? hx)
   simp only [a5] at h
   rw [hpw]
   simp only [b8, V4, hx]
   exact au5 N x (by omega)
theorem bp0 {t x : Tm} (hk : (b8 t (d9 t)).kind = 11) (hx : (b8 t (d9 t)).kids[0]? = some x) : P2 x = true := by
 have h := au5 _ t (Nat.le_refl _)
 rw [hk] at h
 unfold ar8 at h
 rw [show j5 11 (b8 t (d9 t)).kids.length = 1 from rfl] at h
 rw [List.findIdx?_eq_none_iff] at h
 have := h x (by
  cases hks : (b8 t (d9 t)).kids with
  | nil => rw [hks] at hx; simp at hx
  | cons a l => rw [hks] at hx; simp at hx; subst hx; simp)
 simpa using this
theorem ce0 {ts : List KT} {t : Tm} (h : D6 ts t (d9 t) = 9) : (b8 t (d9 t)).kind = 11 := (D5 (show F0 ts (j4 t (d9 t)) (d9 t).length (b8 t (d9 t)) = 9 from h)).2.2.2.2.2.2.2.2 rfl
theorem bZ6 {ts : List KT} {t : Tm} : 1 ≤ D6 ts t (d9 t) ∧ D6 ts t (d9 t) ≤ 9 := (D5 (show F0 ts (j4 t (d9 t)) (d9 t).length (b8 t (d9 t)) = D6 ts t (d9 t) from rfl)).2.2.2.2.2.2.2.1
theorem bg0 {ts : List KT} {steps : Nat} {t : Tm} {e : EndM} (hs : shT t) (hl : lcT t) (h : Z6 ts steps t = some e) : ncT e.term := by
 unfold Z6 at h
 split at h
 ·rename_i hv
  simp at h; subst h; exact aW7 hv hs hl
 ·split at h
  ·rename_i h9
   simp at h; subst h
   simp only
   cases hk : (b8 t (d9 t)).kids[0]? with
   | none => exact ai2
   | some x => exact aW7 (bp0 (ce0 h9) hk) (M4 (F4 hs) hk) (R7 (ai7 hl) hk)
  ·split at h
   ·simp at h; subst h; exact ai2
   ·cases h
theorem bz2 {ts : List KT} (hbs : ∀ x ∈ ts, shT x.2) (hbl : ∀ x ∈ ts, lcT x.2) : ∀ (left steps : Nat) (t : Tm), shT t → lcT t → ncT (D4 ts left steps t).1.term
 | 0, steps, t, hs, hl => by
  simp only [D4]
  split
  ·rename_i e he; exact bg0 hs hl he
  ·exact ai2
 | left + 1, steps, t, hs, hl => by
  simp only [D4]
  split
  ·rename_i e he; exact bg0 hs hl he
  ·split
   ·exact ai2
   ·exact bz2 hbs hbl left (steps + 1) (K4 ts t) (aJ3 hbs hs (H5 hs) _) (bj9 hbl hl (H5 hs) _)
theorem aZ3 {ts : List KT} {t : Tm} (fuel : Int) : ncT (E7 ts t fuel).1.term ∧ a5 (E7 ts t fuel).1.term ≤ 3000 := by
 have hn1 : a5 p7 = 1 := by simp [p7, a5, c7, d6]
 have hZ : ncT endZ.term ∧ a5 endZ.term ≤ 3000 := ⟨ai2, by simp only [endZ]; omega⟩
 unfold E7
 split
 ·rename_i hc
  obtain ⟨_, k2, _, k4⟩ := U3 hc
  have h1 := bz2 (fun x hx => (D8 (k2 x hx)).1) (fun x hx => ay7 (k2 x hx)) fuel.toNat 0 t (D8 k4).1 (ay7 k4)
  have h2 := (aG8 (fun x hx => (D8 (k2 x hx)).1) fuel.toNat 0 t (D8 k4).1 (by have := (D8 k4).2; omega)).2
  split
  ·exact hZ
  ·split
   ·split
    ·exact ⟨h1, h2⟩
    ·split
     ·exact ⟨h1, h2⟩
     ·exact hZ
   ·exact hZ
 ·exact hZ
theorem bF6 {D : Nat → Nat → Prop} {w : World} {e : EndM} {x : List Value} (h : PR Tryz.prog D w (bO7 e) x) : e.ref.length = 32 := by
 obtain ⟨_, h⟩ := W4 h
 obtain ⟨_, _, _, h⟩ := l6 h
 obtain ⟨_, _, _, h⟩ := l6 h
 obtain ⟨_, _, _, h⟩ := l6 h
 obtain ⟨⟨_, h⟩, _⟩ := l6 h
 exact U7 h
theorem bf6 (e : EndM) (hnc : ncT e.term) (hz : a5 e.term < 2^30) : FCall Tryz.prog G 127 [.pu (bO7 e)] (.pu (tmc 0 (N8 e.term))) := by
 obtain ⟨ek, es, et, er, en⟩ := e
 refine Fq 6 Tryz.func127 ?_;intro w0 M ρ0 D0
 refine Y68 ?_;refine Y14 ?_;refine Dq ((bW7 _ et (Nat.le_refl _) hz hnc).at (aw2 _)) ?_;refine Y10 ?_;refine Rc ?_;exact ToPu.imp (by repeat constructor)
def X8 (a b : Int) : Pu := .agg 193 [.leaf (.int .i64 a), .leaf (.int .i64 b)]
instance (a b : Int) : TyV Tryz.prog 193 (.pu (X8 a b)) := inferInstanceAs (TyV Tryz.prog 193 (.pu (.agg _ _)))
theorem bm2 (a b a' b' : Int) : Tryz.prog.eqGuardType Tryz.prog.depth 193 = false ∧ 193 < Tryz.prog.types.size ∧ tyP Tryz.prog 193 (X8 a b) = true ∧ tyP Tryz.prog 193 (X8 a' b') = true :=
 ⟨by kernel_rfl, of_decide_eq_true (by kernel_rfl), (show tyV Tryz.prog 193 (.pu (X8 a b)) = true from TyV.ok), (show tyV Tryz.prog 193 (.pu (X8 a' b')) = true from TyV.ok)⟩
theorem bz9 (d : Nat) (a b a' b' : Int) : peqT Tryz.prog (d + 2) 193 (X8 a b) (X8 a' b') = some ((a == a') && ((b == b') && true)) := by
 have hu : Tryz.prog.underlying 193 = some (.array 2 3) := by kernel_rfl
 have hi : Tryz.prog.underlying 3 = some (.int .i64) := by kernel_rfl
 unfold X8
 simp only [peqT, hu, aA3, hi, if_true]
theorem bS0 (a b a' b' : Int) : R9 Tryz.prog .eql 193 (.pu (X8 a b)) (.pu (X8 a' b')) = some (bv ((a == a') && ((b == b') && true))) := by
 have h1 := bm2 a b a' b'
 have h2 := fun e => bz9 e a b a' b'
 unfold X8 at h1 h2 ⊢
 simp only [R9, if_pos h1]
 generalize hd : (100 : Nat) = d
 obtain ⟨e, rfl⟩ : ∃ e, d = e + 2 := ⟨98, by omega⟩
 rw [h2 e]
def aK0 (a b : EndM) : Bool := ((a.kind == b.kind) && ((a.num == b.num) && true)) && (a.ref == b.ref) && O0 (N8 a.term) (N8 b.term)
def ae5 (ts : List KT) (t u : Tm) (fuel : Int) : Bool × Int :=
 if i9 ts t = 0 then (if i9 ts u = 0 then (if (E7 ts t fuel).2 = 0 then (if (E7 ts u fuel).2 = 0 then (aK0 (E7 ts t fuel).1 (E7 ts u fuel).1, 0) else (false, (E7 ts u fuel).2)) else (false, (E7 ts t fuel).2)) else (false, i9 ts u)) else (false, i9 ts t)
abbrev aM9 (x : Bool × Int) : PV := .tup [bv x.1, iv .i64 x.2]
set_option maxHeartbeats 1000000 in
theorem bX0 (a b : Pu) (ts : List KT) (t u : Tm) (fuel : Int) (hts : ∀ x ∈ ts, a5 x.2 < 2^40) (hN : a5 t < 2^40) (hM : a5 u < 2^40) : FCall Tryz.prog G 56 [.pu (wdP a b ts), .pu (tmc 0 t), .pu (tmc 0 u), iv .i64 fuel] (aM9 (ae5 ts t u fuel)) := by
 refine Fq 79 Tryz.func56 ?_;intro w0 M ρ0 D0
 refine yR ?_;refine Y75 ?_;refine o9 SS 6 ?_;refine yB ?_;refine yB ?_;refine a6 [4, 5, 6] ?_;refine Y43 ?_;refine yZ ?_;refine Y38 ?_;refine Tri.block (Tri.loopW (σ := {i : Nat // i ≤ 2 ∧ (1 ≤ i → i9 ts t = 0) ∧ (2 ≤ i → i9 ts u = 0)}) (fun i => ⟨[(3, iv .i64 fuel), (4, .ptr 4 [] 26), (5, .ptr 5 [] 32), (6, .ptr 6 [] 32), (19, .pu (.sl 0 32 [tmc 0 t, tmc 0 u])), (20, iv .i64 2), (21, iv .i64 i.1)], [(4, .var 26 (.pu (wdP a b ts))), (5, .var 32 (.pu (tmc 0 t))), (6, .var 32 (.pu (tmc 0 u)))]⟩) (fun i => 2 - i.1) ⟨0, by omega, by omega, by omega⟩ ?_ ?_ (fun i => ?_))
 ·exact zW
 ·exact zW
 obtain ⟨i, hi2, hi0, hi1⟩ := i
 dsimp only at hi2 hi0 hi1 ⊢
 refine Y30 ?_;refine Cq ?_ ?_
 ·intro h0
  have hlt : i < 2 := by have := of_decide_eq_true h0; omega
  obtain ⟨x, hx, hxz, hxs⟩ : ∃ x, [tmc 0 t, tmc 0 u][i]? = some (tmc 0 x) ∧ a5 x < 2^40 ∧ (x = t ∧ i = 0 ∨ x = u ∧ i = 1) := by
   obtain rfl | rfl : i = 0 ∨ i = 1 := by omega
   ·exact ⟨t, rfl, hN, .inl ⟨rfl, rfl⟩⟩
   ·exact ⟨u, rfl, hM, .inr ⟨rfl, rfl⟩⟩
  refine Y76 ?_;refine Xq hx ?_;refine yL ?_;refine a8 SS 11 ?_;refine yS ?_;refine a6 [11] ?_;refine Y43 ?_;refine Dq (Z3 a b ts x hts hxz) ?_;refine Y12 ?_;refine Y15 ?_;refine Y0 ?_;refine Cq ?_ ?_
  ·intro h1
   have hne : ¬ i9 ts x = 0 := by simpa using h1
   have hfin : ae5 ts t u fuel = (false, i9 ts x) := by
    rcases hxs with ⟨rfl, rfl⟩ | ⟨rfl, rfl⟩
    ·rw [ae5, if_neg hne]
    ·rw [ae5, if_pos (hi0 (by omega)), if_neg hne]
   refine Y1 ?_;refine yB ?_;refine Y2 ?_;exact Tri.ret ⟨.inr rfl, K8 rfl b6 ((by rw [hfin]; exact VImp.refl _)) b6 ((by rw [hfin]; exact VImp.refl _))⟩
  ·intro h1
   have heq : i9 ts x = 0 := by simpa using h1
   have hnext : i + 1 ≤ 2 ∧ (1 ≤ i + 1 → i9 ts t = 0) ∧ (2 ≤ i + 1 → i9 ts u = 0) := by
    rcases hxs with ⟨rfl, rfl⟩ | ⟨rfl, rfl⟩
    ·exact ⟨by omega, fun _ => heq, fun h => by omega⟩
    ·exact ⟨by omega, fun _ => hi0 (by omega), fun _ => heq⟩
   refine Y52 ?_
   refine ⟨⟨i + 1, hnext⟩, by show 2 - (i + 1) < 2 - i; omega, k7 ?_ ?_⟩
   ·exact zE
   ·exact zH
 ·intro h0
  have hge : 2 ≤ i := by have := of_decide_eq_false h0; omega
  have ht := hi0 (by omega)
  have hu := hi1 hge
  have hr1 := aN2 (G := G) a b ts t fuel hts hN
  have hr2 := aN2 (G := G) a b ts u fuel hts hM
  have hk1 := aZ3 (ts := ts) (t := t) fuel
  have hk2 := aZ3 (ts := ts) (t := u) fuel
  have hsm : ae5 ts t u fuel = if (E7 ts t fuel).2 = 0 then (if (E7 ts u fuel).2 = 0 then (aK0 (E7 ts t fuel).1 (E7 ts u fuel).1, 0) else (false, (E7 ts u fuel).2)) else (false, (E7 ts t fuel).2) := by rw [ae5, if_pos ht, if_pos hu]
  generalize E7 ts t fuel = R1 at hr1 hk1 hsm
  generalize E7 ts u fuel = R2 at hr2 hk2 hsm
  obtain ⟨⟨k1, s1, t1, f1, n1⟩, r1⟩ := R1
  obtain ⟨⟨k2, s2, t2, f2, n2⟩, r2⟩ := R2
  dsimp only at hk1 hk2 hsm
  refine Tri.exit ?_;refine Y43 ?_;refine yM ?_;refine Dq hr1 ?_;refine Y58 ?_;refine a8 SS 13 ?_;refine Y73 ?_;refine a6 [13] ?_;refine Tri.fact (i := 37) rfl (fun D w x h => bF6 h) (fun hw1 => ?_);refine Y15 ?_;refine Y0 ?_;refine Cq ?_ ?_
  ·intro h2
   have hne : ¬ r1 = 0 := by simpa using h2
   rw [if_neg hne] at hsm
   refine Y1 ?_;refine yB ?_;refine Y2 ?_;exact Tri.ret ⟨.inr rfl, K8 rfl b6 ((by rw [hsm]; exact VImp.refl _)) b6 ((by rw [hsm]; exact VImp.refl _))⟩
  ·intro h2
   have he1 : r1 = 0 := by simpa using h2
   rw [if_pos he1] at hsm
   refine Tri.skip ?_;refine Y43 ?_;refine yM ?_;refine Dq hr2 ?_;refine Y58 ?_;refine a8 SS 15 ?_;refine Y73 ?_;refine a6 [15] ?_;refine Tri.fact (i := 47) rfl (fun D w x h => bF6 h) (fun hw2 => ?_);refine Y15 ?_;refine Y0 ?_;refine Cq ?_ ?_
   ·intro h3
    have hne : ¬ r2 = 0 := by simpa using h3
    rw [if_neg hne] at hsm
    refine Y1 ?_;refine yB ?_;refine Y2 ?_;exact Tri.ret ⟨.inr rfl, K8 rfl b6 ((by rw [hsm]; exact VImp.refl _)) b6 ((by rw [hsm]; exact VImp.refl _))⟩
   ·intro h3
    have he2 : r2 = 0 := by simpa using h3
    rw [if_pos he2] at hsm
    have hz1 := ak7 t1
    have hz2 := ak7 t2
    refine Tri.skip ?_;refine Y20 ?_;refine Y14 ?_;refine Y3 ?_;refine yP ?_;refine Y3 ?_;refine Y3 ?_;refine yP ?_;refine b5 (z7 SS (h := bS0 _ _ _ _)) ?_;refine Y42 ?_;refine q8 zG (z7 SS (h := x5 (hw1.trans hw2.symm))) ?_;refine yN ?_;refine Y28 ?_;refine xL ?_;refine q8 zG (p6 (fun _ => bf6 ⟨k1, s1, t1, f1, n1⟩ hk1.1 (by dsimp only; omega))) ?_;refine xM ?_;refine xL ?_;refine q8 zG (p6 (fun _ => bf6 ⟨k2, s2, t2, f2, n2⟩ hk2.1 (by dsimp only; omega))) ?_;refine q8 zG (o6 (fun _ => bv6 _ (N8 t1) (N8 t2) (Nat.le_refl _) (by omega) (by omega))) ?_;refine yN ?_;refine yA ?_;refine yB ?_;refine Y23 ?_
    exact Tri.ret ⟨.inr rfl, K8 rfl b6 ((by rw [hsm]; exact l7 rfl)) b6 ((by rw [hsm]; exact VImp.refl _))⟩
end
section
variable {G : List (Nat × TypeId × Pu)}
end
section
section
variable (m hi : Nat) (w : World)
end
section
variable {E : TypeId} {k : Nat} {Z : List Value → Prop} {m hi : Nat} {w w' w2 : World}
end
end
section
section
variable {D : Nat → Nat → Prop} {w : World} {m hi : Nat}
end
end
section
variable {G : List (Nat × TypeId × Pu)}
end
section
section
variable {G : List (Nat × TypeId × Pu)} {lo : Nat}
end
variable {G : List (Nat × TypeId × Pu)}
end
section
variable {G : List (Nat × TypeId × Pu)}
end
section
variable {G : List (Nat × TypeId × Pu)}
end
section
section
variable {G : List (Nat × TypeId × Pu)}
end
end
theorem aJ5 {x : Int} (h : 0 ≤ x ∧ x ≤ 255) : X2 Tryz.prog 5 3 (iv .u8 x) = some (iv .i64 x) := by
 have hu : Tryz.prog.underlying 5 = some (.int .u8) := by kernel_rfl
 have hi : Tryz.prog.underlying 3 = some (.int .i64) := by kernel_rfl
 unfold X2 iv
 simp only [hu, hi, b4 (n := x) (by omega) (by omega)]
theorem wsz : ∀ x ∈ worldT, a5 x.2 < 2^40 := by
 intro x hx
 simp only [worldT, List.mem_cons, List.not_mem_nil, or_false] at hx
 rcases hx with rfl | rfl | rfl | rfl <;> decide
section
open Go.ChangeShapes Go.WideShapes Go.ChangeAt Go.RowKit
theorem uB : Tryz.prog.underlying 48 = some (.slice 5) := by kernel_rfl
theorem cB : Tryz.prog.cellsOf 5 = 1 := by kernel_rfl
set_option maxRecDepth 100000 in
theorem aU7 {H : Type} {enc : TypeId × Value → H} {W : World} {base : Nat} {v : Value} {d : DataW H} {p : List MemPlace} (hv : Value.okWide Tryz.prog W .any base 48 v) (h : DataW.Trod enc Tryz.prog W 0 (fun _ => true) true 48 v d p) (hlt : ∀ x ∈ p, x.block < W.heap.size) :
  ∃ l : List Int, (∀ x ∈ l, 0 ≤ x ∧ x ≤ 255) ∧ l.length < 2^63 ∧ d7 v = false ∧ VR Tryz.prog (bd1 W) W none (.pu (.sl 0 5 (byP l))) v.cells.toList := by
 obtain ⟨a0, len, cap, rfl⟩ := okWide_slice uB hv
 obtain ⟨fuel, hf⟩ := h
 rcases open_ints uB cb0 cB hf with ⟨hcs, hx⟩ | ⟨ad, len', cap', zs, hcs, _, hl, hm, hz, hx, hcell, hwz⟩
 ·simp [Value.cells] at hcs
  obtain ⟨rfl, rfl, rfl⟩ := hcs
  exact ⟨[], by simp, by simp, rfl, .pu .sl0⟩
 ·simp [Value.cells] at hcs
  obtain ⟨rfl, rfl, rfl⟩ := hcs
  simp only [Prod.mk.injEq] at hx
  obtain ⟨rfl, rfl⟩ := hx
  simp only [if_true] at hz
  have hll : (zs.take len).length = len := by rw [List.length_take]; omega
  refine ⟨zs.take len, fun x hx => ?_, by rw [hll]; simp only [maxLen] at hm; omega, rfl, .pu ?_⟩
  ·have := hwz x (List.mem_of_mem_take hx)
   simpa [Lit.wf, IntKind.min, IntKind.max, IntKind.signed, IntKind.bits] using this
  ·by_cases h0 : zs.take len = []
   ·rw [h0] at hll
    have : len = 0 := by simpa using hll.symm
    subst this;rw [h0];exact .sl0
   ·have hpos : 0 < zs.length := by
     rcases Nat.eq_zero_or_pos zs.length with h' | h'
     ·rw [List.length_eq_zero_iff] at h'; subst h'; simp at h0
     ·exact h'
    have c0 := hcell 0 hpos
    obtain ⟨bk, off, sp⟩ := ad
    obtain rfl : sp = none := by simpa [Addr.add] using World.cell?_spot c0
    have hbk : bk < W.heap.size := hlt (.cell bk off) (MemPlace.mem_row.2 ⟨0, by omega, by simp⟩)
    have hbl : (byP (zs.take len)).length = len := by rw [ay9, hll]
    have := PR.sl (P := Tryz.prog) (D := (bd1 W).D) (w := W) (lo := 0) (E := 5) (ps := byP (zs.take len)) (b := bk) (o := off) (cap := cap) (x := (zs.take len).map fun z => Value.int .u8 z) (by simpa [byP] using h0) (by omega)
     (by rw [ay9, cB]; exact aO1 (zs.take len)) (fun j v hj => by
      rw [List.getElem?_map] at hj
      obtain ⟨z, hz', rfl⟩ := Option.map_eq_some_iff.1 hj
      obtain ⟨hjl, rfl⟩ := List.getElem?_eq_some_iff.1 hz'
      have hj' : j < zs.length := by rw [List.length_take] at hjl; omega
      have hcj := hcell j hj'
      refine ⟨?_, hbk⟩
      rw [List.getElem_take]
      have e : (zs.getD j 0) = zs[j] := by simp [List.getD_eq_getElem?_getD, hj']
      rw [e] at hcj
      cases j with
      | zero => simpa [Addr.add] using hcj
      | succ j => simpa [Addr.add] using hcj) (.inl rfl)
    rw [hbl] at this
    exact this
end
section
open Go Hs Go.RowKit Go.Lib Go.Shelf
theorem ac5 {P : Program} (hT : j3 P = true) {t E : TypeId} (hu : P.underlying t = some (.slice E)) (hlE : E < P.types.size) {w : World} (ty : TypeId) {b ko n1 cap1 : Nat} {c : Array Value} (hb : w.heap[b]? = some (.cells c E (0, 0))) {a2 : Addr} {n2 cap2 m : Nat} {xc : List Value}
  (hm : Nat.min n2 n1 = m) (hx : xc.length = m * P.cellsOf E) (hsrc : ∀ j v, xc[j]? = some v → w.cell? (a2.add j) = some v) (hone : ∀ u ∈ xc, u.oneCell' = true) (hfit : ko + xc.length ≤ c.size) :
  (Builtin.copy_ #[t, t] ty #[.slice (some ⟨b, ko, none⟩) n1 cap1, .slice (some a2) n2 cap2]).run P w = .ok (goInt m) (w.setRow b (c.toList.take ko ++ xc ++ c.toList.drop (ko + xc.length)).toArray) := by
 have h3 : (Builtin.firstCells (P.cellsOf E) m (.slice (some a2) n2 cap2)).run P w = .ok xc.toArray w := by
  have := run_loadCells_list (P := P) w a2 xc hsrc
  rw [hx] at this
  simp [Builtin.firstCells, this]
 have hst := run_storeCells_at P b ko E xc 0 c w hb (by omega) hone
 simp only [Nat.add_zero] at hst
 simp [Builtin.copy_, run_underlying hu, Builtin.lenOf, hm, v5 hT hlE, h3, hst, goInt]
section
variable {P : Program} {D : Nat → Nat → Prop} {w : World} {E : TypeId} {ps : List Pu} {p : Pu} {y yx : List Value} {B i : Nat}
theorem bi7 (hB : P.cellsOf E = B) (hi : i ≤ ps.length) (h1 : PRs P D w (List.replicate ps.length (P.cellsOf E, E)) ps y) (hx : PRs P D w (List.replicate 1 (P.cellsOf E, E)) [p] yx) :
  PRs P D w (List.replicate (ps.take i ++ [p] ++ ps.drop i).length (P.cellsOf E, E)) (ps.take i ++ [p] ++ ps.drop i) (y.take (i * B) ++ yx ++ y.drop (i * B)) := by
 have p1 := (h1.parts (l := i) hi).1
 have p2 := (h1.parts (l := i) hi).2
 have := (p1.append hx).append p2
 rw [List.replicate_append_replicate, List.replicate_append_replicate, hB] at this
 have e : (ps.take i ++ [p] ++ ps.drop i).length = i + 1 + (ps.length - i) := by simp; omega
 rw [e, hB];exact this
theorem bn7 (hB : P.cellsOf E = B) {b cap : Nat} {c : Array Value} {z : List Value} (h1 : PRs P D w (List.replicate ps.length (P.cellsOf E, E)) ps y) (hx : PRs P D w (List.replicate 1 (P.cellsOf E, E)) [p] yx) (hb : w.heap[b]? = some (.cells c E (0, 0))) (hcy : c.toList = y ++ z) (hcs : c.size = cap * P.cellsOf E)
  (hroom : ps.length + 1 ≤ cap) (hi : i < ps.length) (hD : ∀ o, ¬ D b o) {r1 r2 : Array Value} (e1 : r1 = (c.toList.take ((i + 1) * B) ++ y.drop (i * B) ++ c.toList.drop ((i + 1) * B + (y.drop (i * B)).length)).toArray) (e2 : r2 = (r1.toList.take (i * B) ++ yx ++ r1.toList.drop (i * B + yx.length)).toArray) :
  ak2 P D w E (some b) (ps.take i ++ [p] ++ ps.drop i) (.slice (some ⟨b, 0, none⟩) (ps.length + 1) cap) ((w.drew.setRow b r1).setRow b r2) := by
 have hyl : y.length = ps.length * B := by rw [h1.length.1, hB]; simp
 have hxl : yx.length = B := by rw [hx.length.1, hB]; simp
 have m1 : (i + 1) * B = i * B + B := Nat.succ_mul _ _
 have m2 : (i + 1) * B ≤ ps.length * B := Nat.mul_le_mul_right _ hi
 have m3 : (ps.length + 1) * B ≤ cap * B := Nat.mul_le_mul_right _ hroom
 rw [Nat.succ_mul] at m3
 have hcl : y.length + z.length = cap * B := by rw [← hB, ← hcs, ← Array.length_toList, hcy, List.length_append]
 generalize hA : i * B = A at *
 generalize hN : ps.length * B = N at *
 have hdl : (y.drop A).length = N - A := by rw [List.length_drop, hyl]
 have f1 : r1.toList = y.take (A + B) ++ y.drop A ++ z.drop B := by
  have d1 : List.drop (A + B + (N - A)) y = [] := List.drop_eq_nil_of_le (by omega)
  rw [e1, List.toList_toArray, hcy, m1, hdl, List.take_append_of_le_length (by omega), List.drop_append, d1, List.nil_append, show A + B + (N - A) - y.length = B by omega]
 have hTl : (y.take (A + B)).length = A + B := by rw [List.length_take]; omega
 have f2 : r2.toList = (y.take A ++ yx ++ y.drop A) ++ z.drop B := by
  have d2 : List.drop (A + B) (List.take (A + B) y ++ (List.drop A y ++ List.drop B z)) = List.drop A y ++ List.drop B z := List.drop_left' hTl
  have t2 : List.take A (List.take (A + B) y ++ (List.drop A y ++ List.drop B z)) = List.take A y := by rw [List.take_append_of_le_length (by omega), List.take_take, Nat.min_eq_left (by omega)]
  rw [e2, List.toList_toArray, f1, hxl, List.append_assoc (y.take (A + B)), t2, d2]
  simp only [List.append_assoc]
 have hblk1 : (w.drew.setRow b r1).heap[b]? = some (.cells r1 E (0, 0)) := setRow_heap w.drew b c r1 E (0, 0) hb
 have hblk2 : ((w.drew.setRow b r1).setRow b r2).heap[b]? = some (.cells r2 E (0, 0)) := setRow_heap _ b r1 r2 E (0, 0) hblk1
 have hg : Chg b w ((w.drew.setRow b r1).setRow b r2) := ⟨rfl, rfl, rfl, by rw [F8, F8]; exact Nat.le_refl _, fun b' _ hne => (x0 _ b r2 hne).trans (x0 w.drew b r1 hne), (S3 w.drew b r1).trans (S3 _ b r2)⟩
 have hmono : ∀ b' o, D b' o → D b' o ∧ ((w.drew.setRow b r1).setRow b r2).cell? ⟨b', o, none⟩ = w.cell? ⟨b', o, none⟩ := fun b' o hD' => ⟨hD', by
  have hne : b' ≠ b := fun e => by subst e; exact hD o hD'
  simp only [World.cell?, (x0 (w.drew.setRow b r1) b r2 hne).trans (x0 w.drew b r1 hne)]
  rfl⟩
 have hall := PRs.mono hmono hg.ty (bi7 (i := i) hB (Nat.le_of_lt hi) h1 hx)
 rw [hA] at hall
 have hlen : (ps.take i ++ [p] ++ ps.drop i).length = ps.length + 1 := by simp; omega
 refine ⟨b, ?_, .inl ⟨rfl, hg⟩⟩
 rw [← hlen];refine .row (c := r2) hall (by rw [hlen]; exact hroom) hblk2 f2 ?_;rw [← Array.length_toList, f2, hB]
 simp only [List.length_append, List.length_take, List.length_drop]
 omega
theorem bE2 (hB : P.cellsOf E = B) {k : Option Nat} {G : Nat} {ROW : Array Value} {R : List Value} (h1 : PRs P D w (List.replicate ps.length (P.cellsOf E, E)) ps y) (hx : PRs P D w (List.replicate 1 (P.cellsOf E, E)) [p] yx) (hlt : ∀ b o, D b o → b < w.heap.size) (hG : ps.length + 1 ≤ G) (hi : i < ps.length)
  (hR : ROW.toList = y.take (i * B) ++ R) (hRs : ROW.size = G * B) {r1 r2 : Array Value} (e1 : r1 = (ROW.toList.take (i * B) ++ yx ++ ROW.toList.drop (i * B + yx.length)).toArray) (e2 : r2 = (r1.toList.take ((i + 1) * B) ++ y.drop (i * B) ++ r1.toList.drop ((i + 1) * B + (y.drop (i * B)).length)).toArray) :
  ak2 P D w E k (ps.take i ++ [p] ++ ps.drop i) (.slice (some ⟨w.heap.size, 0, none⟩) (ps.length + 1) G) ((((w.drew.alloc (.cells ROW E)).setRow w.heap.size r1).drew).setRow w.heap.size r2) := by
 have hyl : y.length = ps.length * B := by rw [h1.length.1, hB]; simp
 have hxl : yx.length = B := by rw [hx.length.1, hB]; simp
 have m1 : (i + 1) * B = i * B + B := Nat.succ_mul _ _
 have m2 : (i + 1) * B ≤ ps.length * B := Nat.mul_le_mul_right _ hi
 have m3 : (ps.length + 1) * B ≤ G * B := Nat.mul_le_mul_right _ hG
 rw [Nat.succ_mul] at m3
 generalize hA : i * B = A at *
 generalize hN : ps.length * B = N at *
 have htl : (y.take A).length = A := by rw [List.length_take]; omega
 have hRl : A + R.length = G * B := by rw [← hRs, ← Array.length_toList, hR, List.length_append, htl]
 have hdl : (y.drop A).length = N - A := by rw [List.length_drop, hyl]
 have f1 : r1.toList = y.take A ++ yx ++ R.drop B := by
  have d1 : List.drop (A + B) (List.take A y) = [] := List.drop_eq_nil_of_le (by omega)
  have t1 : List.take A (List.take A y ++ R) = List.take A y := by rw [List.take_append_of_le_length (by omega), List.take_of_length_le (by omega)]
  rw [e1, List.toList_toArray, hR, hxl, t1, List.drop_append, d1, htl, List.nil_append, show A + B - A = B by omega]
 have hl2 : (y.take A ++ yx).length = A + B := by rw [List.length_append, htl, hxl]
 have f2 : r2.toList = (y.take A ++ yx ++ y.drop A) ++ R.drop (B + (N - A)) := by
  have d2 : List.drop (A + B + (N - A)) (List.take A y ++ yx) = [] := List.drop_eq_nil_of_le (by omega)
  have t2 : List.take (A + B) (List.take A y ++ yx ++ List.drop B R) = List.take A y ++ yx := by rw [List.take_append_of_le_length (by omega), List.take_of_length_le (by omega)]
  rw [e2, List.toList_toArray, f1, m1, hdl, t2, List.drop_append, d2, hl2, List.nil_append, List.drop_drop, show B + (A + B + (N - A) - (A + B)) = B + (N - A) by omega]
 have hnb : (w.drew.alloc (.cells ROW E)).heap[w.heap.size]? = some (.cells ROW E (0, 0)) := alloc_heap_new w.drew (.cells ROW E)
 have hblk1 : ((w.drew.alloc (.cells ROW E)).setRow w.heap.size r1).heap[w.heap.size]? = some (.cells r1 E (0, 0)) := setRow_heap _ _ ROW r1 E (0, 0) hnb
 have hblk2 : ((((w.drew.alloc (.cells ROW E)).setRow w.heap.size r1).drew).setRow w.heap.size r2).heap[w.heap.size]? = some (.cells r2 E (0, 0)) := setRow_heap _ _ r1 r2 E (0, 0) hblk1
 have g0 := B5 w (.cells ROW E)
 have hg : Grew w ((((w.drew.alloc (.cells ROW E)).setRow w.heap.size r1).drew).setRow w.heap.size r2) := ⟨rfl, rfl, rfl, by
  rw [F8]
  show w.heap.size ≤ ((w.drew.alloc (.cells ROW E)).setRow w.heap.size r1).heap.size
  rw [F8]
  exact g0.size, fun b hb => (x0 _ _ r2 (by omega)).trans ((x0 (w.drew.alloc (.cells ROW E)) _ r1 (by omega)).trans (g0.block b hb))⟩
 have hmono : ∀ b' o, D b' o → D b' o ∧ ((((w.drew.alloc (.cells ROW E)).setRow w.heap.size r1).drew).setRow w.heap.size r2).cell? ⟨b', o, none⟩ = w.cell? ⟨b', o, none⟩ := fun b' o hD' => ⟨hD', hg.cell (hlt b' o hD')⟩
 have hall := PRs.mono hmono hg.ty (bi7 (i := i) hB (Nat.le_of_lt hi) h1 hx)
 rw [hA] at hall
 have hlen : (ps.take i ++ [p] ++ ps.drop i).length = ps.length + 1 := by simp; omega
 refine ⟨w.heap.size, ?_, .inr ⟨Nat.le_refl _, hg⟩⟩
 rw [← hlen];refine .row (c := r2) hall (by rw [hlen]; exact hG) hblk2 f2 ?_;rw [← Array.length_toList, f2, hB]
 simp only [List.length_append, List.length_take, List.length_drop]
 omega
end
abbrev eK : TypeId := 116
abbrev sK : TypeId := 24
theorem uK : Tryz.prog.underlying sK = some (.slice eK) := by kernel_rfl
theorem cK : Tryz.prog.cellsOf eK = 68 := by kernel_rfl
theorem lK : eK < Tryz.prog.types.size := of_decide_eq_true (by kernel_rfl)
theorem zK1 (w : World) : (Go.sizeOf eK).run Tryz.prog w = .ok 68 w := by rw [v5 tbl lK, cK]
theorem bA4 (w : World) {vb vo b o la ca lb cb : Nat} (hne : vb ≠ b) {cA cB : Array Value} {tA tB : TypeId} (hA : w.heap[vb]? = some (.cells cA tA (0, 0))) (hB : w.heap[b]? = some (.cells cB tB (0, 0))) (hB0 : cB.size ≠ 0) :
  (callFunc 143 #[.slice (some ⟨vb, vo, none⟩) la ca, .slice (some ⟨b, o, none⟩) lb cb]).run Tryz.prog w = .ok (.value (.bool false)) w := by
 rw [run_callFunc_extern Tryz.func143 (by kernel_rfl) (by kernel_rfl) (by kernel_rfl) (e := Extern.SlicesOverlaps.overlaps #[sK, sK] #[4]) (by kernel_rfl), Lib.run_overlaps_apart w sK 4 eK uK 68 zK1 ⟨vb, vo, none⟩ ⟨b, o, none⟩ la ca lb cb hne tA tB cA.size cB.size (by simp [World.shape?, hA]) (by simp [World.shape?, hB]) hB0 (by simp [World.frozen?, hA]) (by simp [World.frozen?, hA])]
 rfl
theorem bK : Tryz.prog.bytesOf eK ≤ 4096 := of_decide_eq_true (by kernel_rfl)
theorem heK : ElemOk Tryz.prog sK eK := (inferInstance : El Tryz.prog 24 116 _).spec.1
theorem ab8 (b o j : Nat) : (⟨b, o, none⟩ : Addr).add j = ⟨b, o + j, none⟩ := Addr.add_lit _ _ _
section
variable {D : Nat → Nat → Prop} {w : World} {k : Option Nat} {x : Value} {ps : List Pu} {lo : Nat} {p : Pu} {a1 : Option Addr} {c1 : Nat}
set_option maxHeartbeats 8000000 in
set_option maxRecDepth 100000 in
theorem bN7 (hf : FlAt Tryz.prog D w eK ps k x) (hkD : ∀ b, k = some b → ∀ o, ¬ D b o) (hlt : ∀ b o, D b o → b < w.heap.size) (hp : PR Tryz.prog D w (.sl lo eK [p]) [.slice a1 1 c1]) (hn : ps.length ≤ 1000) :
  Calls Tryz.prog 81 #[x, .int .i64 ps.length, .slice a1 1 c1] w fun e w' => ∃ y, e = .returned y ∧ ak2 Tryz.prog D w eK k (ps ++ [p]) y w' := by
 obtain ⟨y, w', hrun, hnew⟩ := aE7 (ty := sK) heK hf hkD hlt hp (by simp) (by
  have h1 := bK
  have h2 : (ps.length + [p].length) * Tryz.prog.bytesOf eK ≤ 2000 * 4096 := Nat.mul_le_mul (by simp; omega) h1
  omega)
 cases hf with
 | nil h =>
  subst h
  go_enter Tryz.func81, Tryz.ntmps81
  go_wp2_with (at_builtin; refine Lib.wpList_append_run _ rfl _ _ _ _ rfl _ _ rfl rfl _ _ hrun ?_)
  go_ret
  exact ⟨_, rfl, hnew⟩
 | @row b cap c y0 z0 h1 h2 h3 h4 h5 =>
  generalize ps.length = n at *
  go_enter Tryz.func81, Tryz.ntmps81
  go_wp2_with (at_builtin; refine Lib.wpList_append_run _ rfl _ _ _ _ rfl _ _ rfl rfl _ _ hrun ?_)
  all_goals go_ret
  all_goals exact ⟨_, rfl, hnew⟩
set_option maxHeartbeats 8000000 in
set_option maxRecDepth 100000 in
theorem bq8 {b cap : Nat} {c : Array Value} {y0 z0 : List Value} {vb vo i n m : Nat} {yx : List Value} (h1 : PRs Tryz.prog D w (List.replicate ps.length (Tryz.prog.cellsOf eK, eK)) ps y0) (h3 : w.heap[b]? = some (.cells c eK (0, 0))) (h4 : c.toList = y0 ++ z0) (h5 : c.size = cap * Tryz.prog.cellsOf eK)
  (hD : ∀ o, ¬ D b o) (hx : PRs Tryz.prog D w (List.replicate 1 (Tryz.prog.cellsOf eK, eK)) [p] yx) (hv : ∀ j v, yx[j]? = some v → w.cell? ⟨vb, vo + j, none⟩ = some v ∧ D vb (vo + j)) {cA : Array Value} {tA : TypeId} (hA : w.heap[vb]? = some (.cells cA tA (0, 0))) (hi : i < n) (hnl : ps.length = n) (hroom : n + m ≤ cap) (hn : n ≤ 1000) (hm1 : m = 1) :
  Calls Tryz.prog 81 #[.slice (some ⟨b, 0, none⟩) n cap, .int .i64 i, .slice (some ⟨vb, vo, none⟩) m c1] w fun e w' => ∃ y, e = .returned y ∧ ak2 Tryz.prog D w eK (some b) (ps.take i ++ [p] ++ ps.drop i) y w' := by
 subst hm1
 have hyl : y0.length = n * 68 := by rw [h1.length.1, cK, ← hnl]; simp
 have hxl : yx.length = 68 := by rw [hx.length.1, cK]; simp
 have hcl : y0.length + z0.length = cap * 68 := by rw [← cK, ← h5, ← Array.length_toList, h4, List.length_append]
 obtain ⟨v0, hv0⟩ : ∃ v, yx[0]? = some v := ⟨_, List.getElem?_eq_getElem (by omega)⟩
 have hv1 := hv 0 v0 hv0
 have hne : vb ≠ b := fun e => hD _ (e ▸ hv1.2)
 have hov : ∀ o lb cb, (callFunc 143 #[.slice (some ⟨vb, vo, none⟩) 1 c1, .slice (some ⟨b, o, none⟩) lb cb]).run Tryz.prog w = .ok (.value (.bool false)) w := fun o lb cb => bA4 w hne hA h3 (by rw [h5, cK]; omega)
 obtain ⟨r1, e1⟩ : ∃ r1 : Array Value, r1 = (c.toList.take ((i + 1) * 68) ++ y0.drop (i * 68) ++ c.toList.drop ((i + 1) * 68 + (y0.drop (i * 68)).length)).toArray := ⟨_, rfl⟩
 obtain ⟨r2, e2⟩ : ∃ r2 : Array Value, r2 = (r1.toList.take (i * 68) ++ yx ++ r1.toList.drop (i * 68 + yx.length)).toArray := ⟨_, rfl⟩
 have hnew := bn7 (P := Tryz.prog) cK h1 hx h3 h4 h5 (by omega) (by omega) hD e1 e2
 rw [hnl] at hnew
 have hr1 : r1.size = c.size := by
  rw [e1, ← Array.length_toList, List.toList_toArray, ← Array.length_toList, h4]
  simp only [List.length_append, List.length_take, List.length_drop]
  omega
 have hcp1 : ∀ (W : World), W.heap = w.heap → ∀ (o1 o2 n1 n2 : Nat) ty dc sc, o1 = (i + 1) * 68 → o2 = i * 68 → Nat.min n2 n1 = n - i → (Builtin.copy_ #[sK, sK] ty #[.slice (some ⟨b, o1, none⟩) n1 dc, .slice (some ⟨b, o2, none⟩) n2 sc]).run Tryz.prog W = .ok (goInt (n - i : Nat)) (W.setRow b r1) := by
  intro W hW o1 o2 n1 n2 ty dc sc q1 q2 q3
  subst q1 q2;rw [e1];refine ac5 tbl uK lK ty (by rw [hW]; exact h3) q3 (by rw [List.length_drop, hyl, cK, Nat.sub_mul]) (fun j v hj => ?_) (fun u hu => h1.one u (List.mem_of_mem_drop hu)) ?_
  ·rw [ab8]
   simp only [World.cell?, hW, h3]
   rw [List.getElem?_drop] at hj
   simp only [Option.isSome_none, Bool.false_eq_true, if_false]
   rw [← Array.getElem?_toList, h4, List.getElem?_append_left (List.getElem?_eq_some_iff.1 hj).1];exact hj
  ·rw [List.length_drop, ← Array.length_toList, h4, List.length_append]
   omega
 have hcp2 : ∀ (W : World), W.heap = (w.setRow b r1).heap → ∀ (o1 n1 : Nat) ty dc, o1 = i * 68 → 1 ≤ n1 → (Builtin.copy_ #[sK, sK] ty #[.slice (some ⟨b, o1, none⟩) n1 dc, .slice (some ⟨vb, vo, none⟩) 1 c1]).run Tryz.prog W = .ok (goInt (1 : Nat)) (W.setRow b r2) := by
  intro W hW o1 n1 ty dc q1 q2
  subst q1;rw [e2];refine ac5 tbl uK lK ty (by rw [hW]; exact setRow_heap w b c r1 eK (0, 0) h3) (Nat.min_eq_left q2) (by rw [hxl, cK, Nat.one_mul]) (fun j v hj => ?_) (fun u hu => hx.one u hu) ?_
  ·rw [ab8]
   have := (hv j v hj).1
   simp only [World.cell?, hW, x0 w b r1 hne]
   exact this
  ·rw [hr1, ← Array.length_toList, h4, List.length_append]
   omega
 have hcpZ : (Builtin.copy_ #[24, 24] 3 #[.slice (some ⟨b, i * 68, none⟩) (n + 1 - i) (cap - i), .slice (some ⟨vb, vo, none⟩) 1 c1]).run Tryz.prog (w.drew.setRow b r1) = .ok (.int .i64 1) ((w.drew.setRow b r1).setRow b r2) := hcp2 (w.drew.setRow b r1) rfl (i * 68) (n + 1 - i) _ _ rfl (by omega)
 clear hr1 e1 e2 h1 h4 h5 hx hv hcl
 have bB3 : Tryz.prog.follows .mixedOrders = true := by kernel_rfl
 have hz2 : ¬ ((i : Int) = (n : Int)) := by omega
 have hw0 : IntKind.i64.wrap ((n : Int) + 1) = (n : Int) + 1 := b4 (by omega) (by omega)
 have hw1 : IntKind.i64.wrap ((i : Int) + 1) = (i : Int) + 1 := b4 (by omega) (by omega)
 have hb1 : (0 : Int) ≤ (i : Int) + 1 := by omega
 have hin : i ≤ n := by omega
 have htn : ((i : Int) + 1).toNat = i + 1 := by omega
 have hb2 : ¬ (cap = i + 1) := by omega
 have hb3 : (i : Int) ≤ (n : Int) + 1 := by omega
 have hb4 : ¬ (cap = i) := by omega
 go_enter Tryz.func81, Tryz.ntmps81
 go_wp2_with (simp only [hov])
 go_region_law_o (refine step_copy_runI rfl _ _ sK sK rfl (.slice (some ⟨b, (i + 1) * 68, none⟩) (n - i) (cap - (i + 1))) (.slice (some ⟨b, i * 68, none⟩) (n + 1 - i) (cap - i)) (by simp [Act.eval, Act.put]) (by simp [Act.eval, Act.put]) (hcp1 w.drew rfl _ _ _ _ _ _ _ rfl rfl (by simp only [Nat.min_def]; split <;> omega)) ?_)
 go_wp2_with (simp only [hcpZ])
 go_ret
 exact ⟨_, rfl, hnew⟩
set_option maxHeartbeats 8000000 in
set_option maxRecDepth 100000 in
theorem bD2 {b cap : Nat} {c : Array Value} {y0 z0 : List Value} {vb vo i n : Nat} {yx : List Value} (h1 : PRs Tryz.prog D w (List.replicate ps.length (Tryz.prog.cellsOf eK, eK)) ps y0) (h3 : w.heap[b]? = some (.cells c eK (0, 0))) (h4 : c.toList = y0 ++ z0)
  (hlt : ∀ b o, D b o → b < w.heap.size) (hx : PRs Tryz.prog D w (List.replicate 1 (Tryz.prog.cellsOf eK, eK)) [p] yx) (hv : ∀ j v, yx[j]? = some v → w.cell? ⟨vb, vo + j, none⟩ = some v ∧ D vb (vo + j)) (hi : i < n) (hnl : ps.length = n) (hnc : n ≤ cap) (hroom : cap < n + 1) (hn : n ≤ 1000) :
  Calls Tryz.prog 81 #[.slice (some ⟨b, 0, none⟩) n cap, .int .i64 i, .slice (some ⟨vb, vo, none⟩) 1 c1] w fun e w' => ∃ y, e = .returned y ∧ ak2 Tryz.prog D w eK k (ps.take i ++ [p] ++ ps.drop i) y w' := by
 have hyl : y0.length = n * 68 := by rw [h1.length.1, cK, ← hnl]; simp
 have hxl : yx.length = 68 := by rw [hx.length.1, cK]; simp
 obtain ⟨v0, hv0⟩ : ∃ v, yx[0]? = some v := ⟨_, List.getElem?_eq_getElem (by omega)⟩
 have hv1 := hv 0 v0 hv0
 have hvw : vb < w.heap.size := hlt _ _ hv1.2
 have hbw : b < w.heap.size := C8 h3
 obtain ⟨i0, z, hi0, hz0, hzs⟩ := heK.zero
 have hs68 : i0.size = 68 := by rw [← E8 hi0, cK]
 have hby : i0.bytes ≤ 4096 := by rw [← G7 hi0]; exact bK
 have hby0 : i0.bytes ≠ 0 := by rw [← G7 hi0]; exact heK.bytes
 have hcell : ∀ j v, y0[j]? = some v → w.cell? ⟨b, j, none⟩ = some v := fun j v hj => by
  rw [m8 h3, ← Array.getElem?_toList, h4, List.getElem?_append_left (List.getElem?_eq_some_iff.1 hj).1];exact hj
 have hol : (y0.take (i * 68)).length = i * 68 := by rw [List.length_take]; omega
 have hold : (Builtin.firstCells i0.size i (.slice (some ⟨b, 0, none⟩) i cap)).run Tryz.prog w.drew = .ok (y0.take (i * 68)).toArray w.drew := by
  have := run_loadCells_list (P := Tryz.prog) w.drew ⟨b, 0, none⟩ (y0.take (i * 68)) (fun j v hj => by
   rw [ab8, Nat.zero_add]
   rw [List.getElem?_take] at hj
   split at hj
   ·exact hcell j v hj
   ·cases hj)
  rw [hol] at this
  simp [Builtin.firstCells, hs68, this]
 have hint : Tryz.prog.underlying 3 = some (.int .i64) := by kernel_rfl
 have hik : i + (n + 1 - i) = n + 1 := by omega
 have hrz := Lib.run_append_grow_zeros w sK 3 sK eK i0 z .i64 .i64 uK hint hi0 hz0 (some ⟨b, 0, none⟩) i cap (y0.take (i * 68)) hold (n + 1 - i) (by omega) (by omega) (by omega) (by omega) (by
  have : (n + 1 - i) * i0.bytes ≤ 1001 * 4096 := Nat.mul_le_mul (by omega) hby
  omega) (by
  rw [hik];refine growslice_fits hroom ?_
  have : (n + 1) * i0.bytes ≤ 1001 * 4096 := Nat.mul_le_mul (by omega) hby
  omega)
 rw [hik] at hrz
 have hGn : n + 1 ≤ grownCap w (n + 1) cap eK := grownCap_ge w _ _ _
 have hG63 : grownCap w (n + 1) cap eK ≤ 9223372036854775807 := by
  have := grownCap_le_maxLen w (n + 1) cap eK (by unfold maxLen; omega)
  unfold maxLen at this
  omega
 generalize grownCap w (n + 1) cap eK = G at hrz hGn hG63
 obtain ⟨ROW, hROW⟩ : ∃ ROW : Array Value, ROW = (y0.take (i * 68)).toArray ++ Builtin.zeroCells z.cells (n + 1 - i) ++ Builtin.zeroCells z.cells (G - (n + 1)) := ⟨_, rfl⟩
 rw [← hROW] at hrz
 have hRt : ROW.toList = y0.take (i * 68) ++ ((Builtin.zeroCells z.cells (n + 1 - i)).toList ++ (Builtin.zeroCells z.cells (G - (n + 1))).toList) := by rw [hROW]; simp
 have hRs : ROW.size = G * 68 := by
  rw [hROW]
  simp only [Array.size_append, List.size_toArray, hol, size_zeroCells, hzs, hs68]
  omega
 obtain ⟨r1, e1⟩ : ∃ r1 : Array Value, r1 = (ROW.toList.take (i * 68) ++ yx ++ ROW.toList.drop (i * 68 + yx.length)).toArray := ⟨_, rfl⟩
 obtain ⟨r2, e2⟩ : ∃ r2 : Array Value, r2 = (r1.toList.take ((i + 1) * 68) ++ y0.drop (i * 68) ++ r1.toList.drop ((i + 1) * 68 + (y0.drop (i * 68)).length)).toArray := ⟨_, rfl⟩
 have hnew := bE2 (P := Tryz.prog) (k := k) cK h1 hx hlt (by omega) (by omega) hRt hRs e1 e2
 rw [hnl] at hnew
 have hr1 : r1.size = ROW.size := by
  rw [e1, ← Array.length_toList, List.toList_toArray]
  simp only [List.length_append, List.length_take, List.length_drop, Array.length_toList]
  omega
 have hnb : (w.drew.alloc (.cells ROW eK)).heap[w.heap.size]? = some (.cells ROW eK (0, 0)) := alloc_heap_new w.drew (.cells ROW eK)
 have g0 := B5 w (.cells ROW eK)
 have hcpA : ∀ (W : World), W.heap = (w.drew.alloc (.cells ROW eK)).heap → ∀ ty dc, (Builtin.copy_ #[sK, sK] ty #[.slice (some ⟨w.heap.size, i * 68, none⟩) (n + 1 - i) dc, .slice (some ⟨vb, vo, none⟩) 1 c1]).run Tryz.prog W = .ok (goInt (1 : Nat)) (W.setRow w.heap.size r1) := by
  intro W hW ty dc
  rw [e1];refine ac5 tbl uK lK ty (by rw [hW]; exact hnb) (Nat.min_eq_left (by omega)) (by rw [hxl, cK, Nat.one_mul]) (fun j v hj => ?_) (fun u hu => hx.one u hu) ?_
  ·rw [ab8]
   have := (hv j v hj).1
   rw [← g0.cell hvw] at this
   simpa only [World.cell?, hW] using this
  ·rw [hRs]
   have : (i + 1) * 68 ≤ G * 68 := Nat.mul_le_mul_right _ (by omega)
   omega
 have hcpB : ∀ (W : World), W.heap = ((w.drew.alloc (.cells ROW eK)).setRow w.heap.size r1).heap → ∀ ty dc sc, (Builtin.copy_ #[sK, sK] ty #[.slice (some ⟨w.heap.size, (i + 1) * 68, none⟩) (n - i) dc, .slice (some ⟨b, i * 68, none⟩) (n - i) sc]).run Tryz.prog W = .ok (goInt (n - i : Nat)) (W.setRow w.heap.size r2) := by
  intro W hW ty dc sc
  rw [e2];refine ac5 tbl uK lK ty (by rw [hW]; exact setRow_heap _ _ ROW r1 eK (0, 0) hnb) (Nat.min_self _) (by rw [List.length_drop, hyl, cK, Nat.sub_mul]) (fun j v hj => ?_) (fun u hu => h1.one u (List.mem_of_mem_drop hu)) ?_
  ·rw [ab8]
   rw [List.getElem?_drop] at hj
   have := hcell _ v hj
   rw [← g0.cell hbw] at this
   simp only [World.cell?, hW, x0 (w.drew.alloc (.cells ROW eK)) w.heap.size r1 (show b ≠ w.heap.size by omega)]
   exact this
  ·rw [hr1, hRs, List.length_drop, hyl]
   have : (n + 1) * 68 ≤ G * 68 := Nat.mul_le_mul_right _ hGn
   omega
 have hrzZ : (Builtin.append_ #[24, 3] 24 #[.slice (some ⟨b, 0, none⟩) i cap, .int .i64 ((n : Int) + 1 - (i : Int))]).run Tryz.prog w = .ok (.slice (some ⟨w.heap.size, 0, none⟩) (n + 1) G) (w.drew.alloc (.cells ROW eK)) := by
  have e : (n : Int) + 1 - (i : Int) = ((n + 1 - i : Nat) : Int) := by omega
  rw [e];exact hrz
 have hA1 : (Builtin.copy_ #[24, 24] 3 #[.slice (some ⟨w.heap.size, i * 68, none⟩) (n + 1 - i) (G - i), .slice (some ⟨vb, vo, none⟩) 1 c1]).run Tryz.prog (w.drew.alloc (.cells ROW eK)) = .ok (.int .i64 1) ((w.drew.alloc (.cells ROW eK)).setRow w.heap.size r1) := hcpA _ rfl _ _
 have hA2 : (Builtin.copy_ #[24, 24] 3 #[.slice (some ⟨w.heap.size, i * 68, none⟩) (n + 1 - i) (G - i), .slice (some ⟨vb, vo, none⟩) 1 c1]).run Tryz.prog (w.alloc (.cells ROW eK)).drew = .ok (.int .i64 1) ((w.alloc (.cells ROW eK)).drew.setRow w.heap.size r1) := hcpA _ rfl _ _
 clear hrz hr1 e1 e2 h1 h4 hx hv hRt hRs hROW hold hcell hnb g0
 have bB3 : Tryz.prog.follows .mixedOrders = true := by kernel_rfl
 have hz2 : ¬ ((i : Int) = (n : Int)) := by omega
 have hz3 : (cap : Int) < (n : Int) + 1 := by omega
 have hw0 : IntKind.i64.wrap ((n : Int) + 1) = (n : Int) + 1 := b4 (by omega) (by omega)
 have hw1 : IntKind.i64.wrap ((i : Int) + 1) = (i : Int) + 1 := b4 (by omega) (by omega)
 have hw2 : IntKind.i64.wrap ((n : Int) + 1 - (i : Int)) = (n : Int) + 1 - (i : Int) := b4 (by omega) (by omega)
 have hb1 : (0 : Int) ≤ (i : Int) + 1 := by omega
 have hin : i ≤ n := by omega
 have htn : ((i : Int) + 1).toNat = i + 1 := by omega
 have hGi : ¬ (G = i) := by omega
 have hGim : ¬ (G = i + 1) := by omega
 have hci : ¬ (cap = i) := by omega
 have hb3 : (i : Int) ≤ (n : Int) + 1 := by omega
 go_enter Tryz.func81, Tryz.ntmps81
 go_wp2_with (first
  | (at_builtin; refine Lib.wpList_append_run _ rfl _ _ _ _ rfl _ _ rfl rfl _ _ hrzZ ?_)
  | (simp only [hA1, hA2]))
 go_region_law_o (refine step_copy_runI rfl _ _ sK sK rfl (.slice (some ⟨w.heap.size, (i + 1) * 68, none⟩) (n - i) (G - (i + 1))) (.slice (some ⟨b, i * 68, none⟩) (n - i) (cap - i)) (by simp [Act.eval, Act.put]) (by simp [Act.eval, Act.put]) (hcpB (((w.alloc (.cells ROW eK)).drew.setRow w.heap.size r1).drew) rfl _ _ _) ?_)
 go_wp2
 go_ret
 exact ⟨_, rfl, hnew⟩
end
theorem ce3 : cb6 Tryz.prog 81 116 := by
 intro D w k x ps i lo p a1 c1 hf hkD hlt hp hlo hi hn
 by_cases hin : i = ps.length
 ·subst hin
  have e : ps.take ps.length ++ [p] ++ ps.drop ps.length = ps ++ [p] := by simp
  rw [e];exact bN7 hf hkD hlt hp hn
 ·generalize hz : ([Value.slice a1 1 c1] : List Value) = z at hp
  cases hp with
  | @sl _ _ _ vb vo cap1 yx _ _ y1 y3 y4 =>
   simp at hz
   obtain ⟨rfl, rfl⟩ := hz
   obtain ⟨_, _, cA, hA⟩ := y4.resolve_left hlo
   cases hf with
   | nil h => subst h; simp at hi hin; omega
   | @row b cap c y0 z0 h1 h2 h3 h4 h5 =>
    by_cases hroom : ps.length + 1 ≤ cap
    ·exact bq8 h1 h3 h4 h5 (hkD b rfl) y1 y3 hA (by omega) rfl hroom hn rfl
    ·exact bD2 h1 h3 h4 hlt y1 y3 (by omega) rfl h2 (by omega) hn
end
section
section
variable (R : List Int → Prop)
mutual
def dfT : Tm → Prop
 | .mk k _ r ks cs => (k = 6 → R r) ∧ dfK ks ∧ dfC cs
def dfK : List Tm → Prop
 | [] => True
 | t :: ts => dfT t ∧ dfK ts
def dfC : List Cs → Prop
 | [] => True
 | c :: cs => dfS c ∧ dfC cs
def dfS : Cs → Prop
 | .mk _ t => dfT t
end
variable {R}
theorem Q6 : dfT R p7 := by simp [p7, dfT, dfK, dfC]
theorem ca7 : dfT R ae2 := by simp [ae2, dfT, dfK, dfC]
theorem bQ2 (op a b : Int) : dfT R (Z8 op a b) := by simp [Z8, aP5, dfT, dfK, dfC]
theorem bk4 : ∀ {ks : List Tm}, dfK R ks → ∀ x ∈ ks, dfT R x
 | _ :: _, h, x, hx => by
  rcases List.mem_cons.1 hx with rfl | hx
  ·exact h.1
  ·exact bk4 h.2 x hx
theorem aJ4 : ∀ {ks : List Tm}, (∀ x ∈ ks, dfT R x) → dfK R ks
 | [], _ => trivial
 | t :: ts, h => ⟨h t (by simp), aJ4 fun x hx => h x (by simp [hx])⟩
mutual
theorem ay0 (vs : List Tm) (hv : ∀ v ∈ vs, dfT R v) : ∀ (t : Tm) (d : Int), dfT R t → dfT R (A1 vs d t)
 | .mk k n r ks cs, d, h => by
  obtain ⟨h1, h3, h4⟩ := h
  have k1 := bk0 vs hv ks d k 0 h3
  have k2 := bk1 vs hv cs d h4
  simp only [A1]
  split
  ·split
   ·exact hv _ (List.getElem_mem _)
   ·exact ⟨h1, k1, k2⟩
  ·exact ⟨h1, k1, k2⟩
theorem bk0 (vs : List Tm) (hv : ∀ v ∈ vs, dfT R v) : ∀ (ks : List Tm) (d k : Int) (i : Nat), dfK R ks → dfK R (P4 vs d k i ks)
 | [], _, _, _, _ => trivial
 | t :: ts, d, k, i, h => ⟨ay0 vs hv t _ h.1, bk0 vs hv ts d k (i + 1) h.2⟩
theorem bk1 (vs : List Tm) (hv : ∀ v ∈ vs, dfT R v) : ∀ (cs : List Cs) (d : Int), dfC R cs → dfC R (L5 vs d cs)
 | [], _, _ => trivial
 | c :: cs, d, h => ⟨bQ1 vs hv c d h.1, bk1 vs hv cs d h.2⟩
theorem bQ1 (vs : List Tm) (hv : ∀ v ∈ vs, dfT R v) : ∀ (c : Cs) (d : Int), dfS R c → dfS R (aA2 vs d c)
 | .mk q t, d, h => ay0 vs hv t _ h
end
theorem W0 {t x : Tm} {i : Nat} (h : dfT R t) (hx : t.kids[i]? = some x) : dfT R x := by
 obtain ⟨k, n, r, ks, cs⟩ := t
 exact bk4 h.2.1 _ (List.mem_of_getElem? hx)
theorem ad6 : ∀ {t : Tm} {p : List Nat}, dfT R t → dfT R (b8 t p)
 | t, [], h => h
 | t, i :: p, h => by
  simp only [b8]
  split
  ·rename_i x hx; exact ad6 (W0 h hx)
  ·exact h
theorem bk3 : ∀ {ks : List Tm} {j : Nat} {x : Tm}, dfK R ks → dfT R x → dfK R (ks.set j x)
 | [], _, _, _, _ => trivial
 | t :: ts, 0, x, h, hx => ⟨hx, h.2⟩
 | t :: ts, j + 1, x, h, hx => ⟨h.1, bk3 h.2 hx⟩
theorem ca8 {t x : Tm} {j : Nat} (h : dfT R t) (hx : dfT R x) : dfT R (J3 t j x) := by
 obtain ⟨k, n, r, ks, cs⟩ := t
 exact ⟨h.1, bk3 h.2.1 hx, h.2.2⟩
theorem ar0 {t : Tm} {p : List Nat} (hok : okP t p) (ht : dfT R t) (lo : Nat) : ∀ (hi : Nat) (x : Tm), hi ≤ p.length → dfT R x → dfT R (q7 (j4 t p) p lo hi x)
 | 0, x, _, h => h
 | n + 1, x, hn, h => by
  simp only [q7]
  split
  ·exact h
  ·rw [y6 hok (by omega), List.getElem?_eq_getElem (show n < p.length by omega)]
   exact ar0 hok ht lo n _ (by omega) (ca8 (ad6 ht) h)
mutual
theorem bk2 : ∀ (p : Pat) (v : Tm), dfT R v → ∀ x ∈ (t9 p v).1, dfT R x
 | .mk k n r ks, v, h, x, hx => by
  simp only [t9] at hx
  split at hx
  ·simp at hx; rw [hx]; exact h
  ·split at hx
   ·simp at hx
   ·split at hx
    ·split at hx
     ·simp at hx
     ·obtain ⟨k', n', r', ks', cs'⟩ := v
      exact aU1 ks ks' h.2.1 x hx
    ·simp at hx
theorem aU1 : ∀ (ps : List Pat) (vs : List Tm), dfK R vs → ∀ x ∈ (n5 ps vs).1, dfT R x
 | [], vs, _, x, hx => by simp [n5] at hx
 | _ :: _, [], _, x, hx => by simp [n5] at hx
 | p :: ps, v :: vs, h, x, hx => by
  simp only [n5, H4] at hx
  split at hx
  ·rcases List.mem_append.1 hx with h' | h'
   ·exact bk2 p v h.1 x h'
   ·exact aU1 ps vs h.2 x h'
  ·simp at hx
end
theorem aU0 : ∀ (cs : List Cs) (v : Tm), dfC R cs → dfT R v → dfT R (q9 cs v)
 | [], v, _, _ => Q6
 | .mk q b :: cs, v, h, hv => by
  simp only [q9]
  split
  ·exact ay0 _ (bk2 q v hv) b 0 h.1
  ·exact aU0 cs v h.2 hv
theorem bG1 {s : List Int} {y : Tm} : ∀ {ts : List KT}, (∀ x ∈ ts, dfT R x.2) → B2 s ts = some y → dfT R y
 | [], _, h => by cases h
 | x :: ts, h, hy => by
  simp only [B2] at hy
  split at hy
  ·simp at hy; rw [← hy]; exact h x (by simp)
  ·exact bG1 (fun z hz => h z (by simp [hz])) hy
theorem bP3 {ts : List KT} (hb : ∀ x ∈ ts, dfT R x.2) {t0 : Tm} {p : List Nat} (hs : dfT R t0) (hok : okP t0 p) (k : Int) : dfT R (v8 ts t0 p k) := by
 have hw := ad6 (p := p) hs
 have here : ∀ y, dfT R y → dfT R (E4 t0 p y) := fun y hy => ar0 hok hs 0 _ _ (Nat.le_refl _) hy
 have hput : ∀ x y, dfT R x → dfT R y → dfT R (A1 [x] 0 y) := fun x y hx hy => ay0 _ (fun v hv => by simp at hv; rw [hv]; exact hx) _ _ hy
 have hlet : dfT R (ai6 (b8 t0 p)) := by
  unfold ai6
  split
  ·rename_i x b h1 h2; exact hput _ _ (W0 hw h1) (W0 hw h2)
  ·exact Q6
 unfold v8
 split
 ·refine here _ ?_
  unfold bd5
  split
  ·rename_i f x h1 h2
   split
   ·rename_i b h3; exact hput _ _ (W0 hw h2) (W0 (W0 hw h1) h3)
   ·exact Q6
  ·exact Q6
 split
 ·exact here _ hlet
 split
 ·refine here _ ?_
  cases hy : B2 (b8 t0 p).ref ts with
  | none => exact Q6
  | some y => exact bG1 hb hy
 split
 ·refine here _ ?_
  unfold aZ9
  split
  ·exact bQ2 _ _ _
  ·exact Q6
 split
 ·refine here _ ?_
  unfold ba8
  split
  ·rename_i v hv
   have hv' := W0 hw hv
   generalize b8 t0 p = w at hw
   obtain ⟨k, n, r, ks, cs⟩ := w
   exact aU0 _ _ hw.2.2 hv'
  ·exact Q6
 split
 ·unfold doM
  split
  ·rename_i a b h1 h2
   have hlt := V6 (j4 t0 p) (b8 t0 p).ref p.length
   refine ar0 hok hs 0 _ _ (by omega) (ay0 _ (fun v hv => ?_) _ _ (W0 (ad6 hs) h2))
   simp at hv
   rcases hv with rfl | rfl
   ·exact W0 hw h1
   ·exact ⟨by simp, ⟨ar0 hok hs _ _ _ (Nat.le_refl _) ca7, trivial⟩, trivial⟩
  ·exact Q6
 ·exact here _ hlet
theorem aw7 {ts us : List KT} (hR : ∀ r, R r → B2 r ts = B2 r us) {t : Tm} (h : dfT R t) (p : List Nat) : D6 ts t p = D6 us t p := by
 unfold D6
 have hw := ad6 (p := p) h
 generalize b8 t p = w at hw ⊢
 obtain ⟨k, n, r, ks, cs⟩ := w
 simp only [F0]
 by_cases h6 : k = 6
 ·rw [hR r (hw.1 h6)]
 ·simp only [if_neg h6]
theorem bc6 {ts us : List KT} (hR : ∀ r, R r → B2 r ts = B2 r us) {t : Tm} (h : dfT R t) (p : List Nat) {k : Int} (hk : D6 ts t p = k) : v8 ts t p k = v8 us t p k := by
 unfold v8
 by_cases h3 : k = 3
 ·subst h3
  have h6 := ((D5 hk).2.2.1 rfl).1
  have hw := ad6 (p := p) h
  generalize b8 t p = w at hw h6 ⊢
  obtain ⟨k, n, r, ks, cs⟩ := w
  simp only [aq5] at h6
  simp only [aZ7, hR r (hw.1 h6)]
 ·simp only [if_neg h3]
theorem ba5 {ts us : List KT} (hR : ∀ r, R r → B2 r ts = B2 r us) {t : Tm} (h : dfT R t) : K4 ts t = K4 us t := by
 unfold K4
 rw [bc6 hR h (d9 t) rfl, aw7 hR h]
theorem bo7 {ts us : List KT} (hR : ∀ r, R r → B2 r ts = B2 r us) (hb : ∀ x ∈ ts, dfT R x.2) (hbs : ∀ x ∈ ts, shT x.2) : ∀ (a s : Nat) (t : Tm), dfT R t → Rt t → a5 t ≤ 3000 → (∀ x ∈ ts, Rt x.2) → D4 ts a s t = D4 us a s t := by
 have hE : ∀ (s : Nat) (t : Tm), dfT R t → Z6 ts s t = Z6 us s t := fun s t h => by
  unfold Z6
  rw [aw7 hR h]
 intro a
 induction a with
 | zero => intro s t h _ _ _; simp only [D4, hE s t h]
 | succ a ih =>
  intro s t h hr hz hrb
  simp only [D4]
  rw [← hE s t h, ← ba5 hR h]
  cases he : Z6 ts s t with
  | some e => rfl
  | none =>
   simp only
   cases hl : (n3 3000 200 1 0 (K4 ts t)).1 with
   | true => rfl
   | false =>
    have hz2 := ac9 (t := K4 ts t) (d := 1) (c := 0) (by decide) hl
    have h19 := bZ6 (ts := ts) (t := t)
    have h7 : D6 ts t (d9 t) ≤ 7 := by
     unfold Z6 at he
     split at he
     ·cases he
     ·split at he
      ·cases he
      ·split at he
       ·cases he
       ·omega
    simp only [Bool.false_eq_true, if_false]
    exact ih (s + 1) (K4 ts t) (bP3 hb h (H5 (ax1 hr.gd)) _) (bP1 hrb hr (by omega) rfl h7) (by omega) hrb
end
end
end Go.Proofs.YtkcgkignhpepkaaGreatDoor
