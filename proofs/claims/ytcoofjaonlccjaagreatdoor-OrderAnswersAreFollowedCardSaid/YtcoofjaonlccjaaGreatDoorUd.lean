/-
 The executor, its fifth part: whole functions are sound; a law whose plain model is always true holds. No condition.
-/
import Derived.Test.YtcoofjaonlccjaaGreatDoorUe
import Derived.ReadAgain
import Derived.ChangeSame
import Derived.ChangeArms
import Derived.ChangeOld
import Derived.OpenShut
import Derived.ProofKit
import Derived.WalkKit
import Derived.Deep.DeepHandedRow
import Derived.Lib.LaidTab
import Derived.Shelf.Spec.SlicesInsertGrow
import Derived.Shelf.Spec.SlicesGrow
import Derived.Shelf.SlSortCmp.NoneTotal
import Derived.Sort.Grow
import Derived.Shelf.Vars
import Derived.Stop.LaidErr
import Derived.Shelf.SlGeneric
import Derived.Shelf.SortM.Plain
import Derived.Shelf.SortM.SortNone
set_option linter.all false
namespace Go.Dn
variable {X : Cx} {C : Fr X.P}

def Ex.toExit : Ex → Exit
 | .normal => .normal
 | .exit id => .exit id
 | .ret => .ret

theorem rounds_ok {β : Type} {A : Ann} {c : Code} {len : Nat} {anns : List (Nat × Ann)} {K : Ex → St → Option β} {r : β} {Q : Exit → Act → World → Prop}
  (ih : ∀ {S : St} {K : Ex → St → Option β} {r : β}, den X anns c β S K = some r → ∀ {Q : Exit → Act → World → Prop},
   (∀ e S' G ρ w a, K e S' = some r → Mod C G ρ S' w a → Q e.toExit a w) → ∀ {G ρ w a}, Mod C G ρ S w a → c.wp X.P Q a w)
  (hQ : ∀ e S' G ρ w a, K e S' = some r → Mod C G ρ S' w a → Q e.toExit a w) : ∀ (n : Nat) (x : ckDen A.cks) (G : Gh) (ρ : Env) (w : World) (a : Act),
  iter n x (fun x again => den X anns c β (head A len x) fun e S' => match e with
    | .normal => match carry A S' with
     | some y => bif Nat.beq S'.tmps.length len then again y else none
     | none => none
    | .exit j => K (.exit j) S'
    | .ret => K .ret S') = some r → Mod C G ρ (head A len x) w a → Code.rounds X.P c Q n a w
 | 0, x, G, ρ, w, a, h, hM => by simp [iter] at h
 | n + 1, x, G, ρ, w, a, h, hM => by
  simp only [iter] at h
  refine ih h (fun e S' G' ρ' w' a' hk hM' => ?_) hM
  cases e with
  | normal =>
   simp only at hk
   split at hk
   ·rename_i y hy
    cases hb : Nat.beq S'.tmps.length len with
    | false => rw [hb] at hk; cases hk
    | true =>
     rw [hb] at hk
     simp only [cond_true] at hk
     obtain ⟨G2, ρ2, h2⟩ := head_ok hM' hy
     rw [Nat.eq_of_beq_eq_true hb] at h2
     exact rounds_ok ih hQ n y G2 ρ2 w' a' hk h2
   ·cases hk
  | exit id => exact hQ (.exit id) S' G' ρ' w' a' hk hM'
  | ret => exact hQ .ret S' G' ρ' w' a' hk hM'

theorem joinB_some {β γ : Type} {x : Option (β ⊕ γ)} {f : γ → Option β} {r : β} (h : joinB x f = some r) : ∃ q, x = some q ∧ (q = .inl r ∨ ∃ v, q = .inr v ∧ f v = some r) := by
 unfold joinB at h
 split at h
 ·cases h
 ·cases h; exact ⟨_, rfl, .inl rfl⟩
 ·rename_i v; exact ⟨_, rfl, .inr ⟨v, rfl, h⟩⟩
theorem inlM_some {β γ : Type} {x : Option β} {q : β ⊕ γ} (h : inlM x = some q) : ∃ r, x = some r ∧ q = .inl r := by
 unfold inlM at h
 split at h
 ·cases h; exact ⟨_, rfl, rfl⟩
 ·cases h
theorem meet_some {β : Type} {A : Ann} {n : Nat} {S : St} {q : β ⊕ ckDen A.cks} (h : meet A n S = some q) : ∃ v, carry A S = some v ∧ S.tmps.length = n ∧ q = .inr v := by
 unfold meet at h
 split at h
 ·rename_i v hv
  cases hb : Nat.beq S.tmps.length n with
  | false => rw [hb] at h; cases h
  | true => rw [hb] at h; simp only [cond_true, Option.some.injEq] at h; exact ⟨v, hv, Nat.eq_of_beq_eq_true hb, h.symm⟩
 ·cases h

theorem meet_ok {β : Type} {A : Ann} {n : Nat} {K : Ex → St → Option β} {r : β} {Q : Exit → Act → World → Prop} (hQ : ∀ e S' G ρ w a, K e S' = some r → Mod C G ρ S' w a → Q e.toExit a w) {q : β ⊕ ckDen A.cks}
  (hq : q = .inl r ∨ ∃ v, q = .inr v ∧ K .normal (head A n v) = some r) {S' : St} {G : Gh} {ρ : Env} {w : World} {a : Act} (hM : Mod C G ρ S' w a) (h : meet A n S' = some q) : Q .normal a w := by
 obtain ⟨v, h1, h2, h3⟩ := meet_some h
 rcases hq with hq | ⟨v', hq, hk⟩
 ·rw [h3] at hq; cases hq
 ·rw [h3] at hq
  cases hq
  obtain ⟨G2, ρ2, hm⟩ := head_ok hM h1
  rw [h2] at hm
  exact hQ .normal _ G2 ρ2 w a hk hm

theorem both_some {β : Type} {a b : Option β} {r : β} (h : both a b = some r) : a = some r ∧ b = some r := by
 unfold both at h
 split at h
 ·rename_i e; exact ⟨h, e ▸ h⟩
 ·cases h
theorem den_ok (hX : SpecsOk X) (hmix : X.P.follows .mixedOrders = true) (anns : List (Nat × Ann)) : ∀ (c : Code) {β : Type} {S : St} {K : Ex → St → Option β} {r : β}, den X anns c β S K = some r → ∀ {Q : Exit → Act → World → Prop},
  (∀ e S' G ρ w a, K e S' = some r → Mod C G ρ S' w a → Q e.toExit a w) → ∀ {G ρ w a}, Mod C G ρ S w a → c.wp X.P Q a w := by
 intro c
 induction c with
 | skip =>
  intro β S K r h Q hQ G ρ w a hM
  exact wp_skip (hQ .normal S G ρ w a h hM)
 | region id ops dr =>
  intro β S K r h Q hQ G ρ w a hM
  simp only [den] at h
  split at h
  ·rename_i A hA
   obtain ⟨v, hv, h⟩ := bind_some h
   have := regJ_ok hX hmix hv (Q := Q) (fun S' G ρ w a hk hJ hM => hQ .normal _ G ρ w a h (jState_ok hJ hk hM)) hM id
   simpa using this
  ·cases dr with
   | true =>
    simp only [cond_true] at h
    have := runDraw_ok hX hmix h (Q := Q) (fun S' G ρ w a hk hM => hQ .normal S' G ρ w a hk hM) hM id
    simpa using this
   | false =>
    simp only [cond_false] at h
    refine wp_region_list ?_
    have := runOps_ok hX ops.toList ops.toList h (Q := Q) (fun S' G ρ w a hk hM => hQ .normal S' G ρ w a hk hM) hM
    simpa using this
 | seq x y ihx ihy =>
  intro β S K r h Q hQ G ρ w a hM
  simp only [den] at h
  refine wp_seq (ihx h (fun e S' G' ρ' w' a' hk hM' => ?_) hM)
  cases e with
  | normal => exact ihy hk hQ hM'
  | exit id => exact hQ (.exit id) S' G' ρ' w' a' hk hM'
  | ret => exact hQ .ret S' G' ρ' w' a' hk hM'
 | cond b x y ihx ihy =>
  intro β S K r h Q hQ G ρ w a hM
  simp only [den] at h
  split at h
  ·rename_i t ht
   have hv := hM.tmps.ev b
   rw [ht] at hv
   split at h
   ·rename_i A hA
    obtain ⟨q, h1, hq⟩ := joinB_some h
    refine wp_cond_split (t := t) hv (fun e => ?_) (fun e => ?_)
    ·subst e
     simp only [cond_true] at h1
     refine ihx h1 (fun e S' G' ρ' w' a' hk hM' => ?_) hM
     cases e with
     | normal => exact meet_ok hQ hq hM' hk
     | exit j =>
      obtain ⟨r', hr, hr2⟩ := inlM_some hk
      rcases hq with hq | ⟨v, hq, _⟩
      ·rw [hr2] at hq; cases hq; exact hQ (.exit j) S' G' ρ' w' a' hr hM'
      ·rw [hr2] at hq; cases hq
     | ret =>
      obtain ⟨r', hr, hr2⟩ := inlM_some hk
      rcases hq with hq | ⟨v, hq, _⟩
      ·rw [hr2] at hq; cases hq; exact hQ .ret S' G' ρ' w' a' hr hM'
      ·rw [hr2] at hq; cases hq
    ·subst e
     simp only [cond_false] at h1
     refine ihy h1 (fun e S' G' ρ' w' a' hk hM' => ?_) hM
     cases e with
     | normal => exact meet_ok hQ hq hM' hk
     | exit j =>
      obtain ⟨r', hr, hr2⟩ := inlM_some hk
      rcases hq with hq | ⟨v, hq, _⟩
      ·rw [hr2] at hq; cases hq; exact hQ (.exit j) S' G' ρ' w' a' hr hM'
      ·rw [hr2] at hq; cases hq
     | ret =>
      obtain ⟨r', hr, hr2⟩ := inlM_some hk
      rcases hq with hq | ⟨v, hq, _⟩
      ·rw [hr2] at hq; cases hq; exact hQ .ret S' G' ρ' w' a' hr hM'
      ·rw [hr2] at hq; cases hq
   ·refine wp_cond_split (t := t) hv (fun e => ?_) (fun e => ?_)
    ·subst e; exact ihx h hQ hM
    ·subst e; exact ihy h hQ hM
  ·rename_i t ht
   have hv := hM.tmps.ev b
   rw [ht] at hv
   obtain ⟨c, hc, hf⟩ := (hv : CVDen G ρ (.nb t) _)
   cases t with
   | false =>
    have := hf rfl
    subst this
    exact wp_cond_split (t := false) hc (fun e => by cases e) (fun _ => ihy h hQ hM)
   | true =>
    obtain ⟨h1, h2⟩ := both_some h
    exact wp_cond_split (t := c) hc (fun _ => ihx h1 hQ hM) (fun _ => ihy h2 hQ hM)
  ·cases h
 | block id x ih =>
  intro β S K r h Q hQ G ρ w a hM
  simp only [den] at h
  split at h
  ·rename_i A hA
   obtain ⟨q, h1, hq⟩ := joinB_some h
   refine wp_block (ih h1 (fun e S' G' ρ' w' a' hk hM' => ?_) hM)
   cases e with
   | normal => exact meet_ok hQ hq hM' hk
   | exit j =>
    simp only at hk
    simp only [Ex.toExit, Exit.inBlock]
    split at hk
    ·rename_i hb
     rw [if_pos (Nat.eq_of_beq_eq_true hb)]
     exact meet_ok hQ hq hM' hk
    ·rename_i hb
     rw [if_neg (fun e => hb (by rw [e]; simp))]
     obtain ⟨r', hr, hr2⟩ := inlM_some hk
     rcases hq with hq | ⟨v, hq, _⟩
     ·rw [hr2] at hq; cases hq; exact hQ (.exit j) S' G' ρ' w' a' hr hM'
     ·rw [hr2] at hq; cases hq
   | ret =>
    obtain ⟨r', hr, hr2⟩ := inlM_some hk
    rcases hq with hq | ⟨v, hq, _⟩
    ·rw [hr2] at hq; cases hq; exact hQ .ret S' G' ρ' w' a' hr hM'
    ·rw [hr2] at hq; cases hq
  ·refine wp_block (ih h (fun e S' G' ρ' w' a' hk hM' => ?_) hM)
   cases e with
   | normal => exact hQ .normal S' G' ρ' w' a' hk hM'
   | exit j =>
    simp only at hk
    simp only [Ex.toExit, Exit.inBlock]
    split at hk
    ·rename_i hb
     rw [if_pos (Nat.eq_of_beq_eq_true hb)]
     exact hQ .normal S' G' ρ' w' a' hk hM'
    ·rename_i hb
     rw [if_neg (fun e => hb (by rw [e]; simp))]
     exact hQ (.exit j) S' G' ρ' w' a' hk hM'
   | ret => exact hQ .ret S' G' ρ' w' a' hk hM'
 | loop x ih =>
  intro β S K r h Q hQ G ρ w a hM
  simp only [den] at h
  split at h
  ·rename_i A hA
   split at h
   ·rename_i y hy
    obtain ⟨G2, ρ2, h2⟩ := head_ok hM hy
    exact wp_loop_rounds (A.fuel y) (rounds_ok ih hQ (A.fuel y) y G2 ρ2 w a h h2)
   ·cases h
  ·cases h
 | exit id =>
  intro β S K r h Q hQ G ρ w a hM
  exact wp_exit (hQ (.exit id) S G ρ w a h hM)
 | ret =>
  intro β S K r h Q hQ G ρ w a hM
  exact wp_ret (hQ .ret S G ρ w a h hM)
 | _ =>
  intro β S K r h
  simp [den] at h

end Go.Dn

namespace Go.Dn
variable {X : Cx} {C : Fr X.P} {G : Gh} {ρ : Env} {w : World}

def ParPins (ρ : Env) : Nat → List PM → List Value → Prop
 | _, [], _ => True
 | i, .mrow _ _ :: r, vs => (vs.head? = some (ρ.rw (pid i 0)) ∧ ∃ a n c, ρ.rw (pid i 0) = .slice a n c) ∧ ParPins ρ (i + 1) r vs.tail
 | i, .map _ _ :: r, vs => (vs.head? = some (ρ.ob (pid i 0)) ∧ ∃ b, ρ.ob (pid i 0) = .map (some b)) ∧ ParPins ρ (i + 1) r vs.tail
 | i, .box _ :: r, vs => vs.head? = some (.pointer (some ⟨ρ.bx (2000 + i), 0, none⟩)) ∧ ParPins ρ (i + 1) r vs.tail
 | i, .ar _ :: r, vs => ParPins ρ (i + 1) r vs
 | i, .arR _ :: r, vs => ParPins ρ (i + 1) r vs
 | i, .val _ :: r, vs => ParPins ρ (i + 1) r vs.tail
 | i, .row _ _ :: r, vs => ParPins ρ (i + 1) r vs.tail

theorem pid_big (i : Nat) : 10000000 ≤ pid i 0 := by simp only [pid, pD, nid]; omega
theorem ParPins.congr {ρ ρ' : Env} (hb : ∀ k, 2000 ≤ k → ρ'.bx k = ρ.bx k) (hr : ∀ k, 10000000 ≤ k → ρ'.rw k = ρ.rw k ∧ ρ'.ob k = ρ.ob k) : ∀ {ps : List PM} {i : Nat} {vs : List Value}, ParPins ρ i ps vs → ParPins ρ' i ps vs
 | [], _, _, _ => trivial
 | .mrow _ _ :: r, i, vs, h => by
  simp only [ParPins] at h ⊢
  rw [(hr _ (pid_big i)).1]; exact ⟨h.1, h.2.congr hb hr⟩
 | .map _ _ :: r, i, vs, h => by
  simp only [ParPins] at h ⊢
  rw [(hr _ (pid_big i)).2]; exact ⟨h.1, h.2.congr hb hr⟩
 | .box _ :: r, i, vs, h => by
  simp only [ParPins] at h ⊢
  rw [hb _ (by omega)]; exact ⟨h.1, h.2.congr hb hr⟩
 | .ar _ :: r, i, vs, h => ParPins.congr (ps := r) hb hr h
 | .arR _ :: r, i, vs, h => ParPins.congr (ps := r) hb hr h
 | .val _ :: r, i, vs, h => ParPins.congr (ps := r) hb hr h
 | .row _ _ :: r, i, vs, h => ParPins.congr (ps := r) hb hr h

theorem Trans.refl (G : Gh) (b : Bool) : Trans G G b := ⟨fun _ _ h => h, .inr (Gh.le_refl G)⟩

theorem args_start {ow : Nat → Option Nat} : ∀ {ps : List PM} {i : Nat} {x : inDen ps} {vs : List Value}, ArgsOk G w ow i ps x vs →
  ∃ vals : List (Ownr × Value), vals.map (·.1) = (stIts i ps).map (·.1) ∧ (∀ k v, (.inl k, v) ∈ vals → ∃ b, v = .pointer (some ⟨b, 0, none⟩)) ∧
   ∀ ρ : Env, (∀ o v, (o, v) ∈ vals → Asg ρ w o v) → (∀ o n, (o, n) ∈ stIts i ps → ∀ b, ow b = some n → ρ.own b = some o) →
    All2 (SVDen G ρ) (parSVs i ps x) vs ∧ Pieces G ρ w (parBoxes i ps x) (parRows i ps x) (parObjs i ps x) ∧ ParPins ρ i ps vs
 | [], i, x, vs, h => ⟨[], rfl, fun k v h => by simp at h, fun ρ _ _ => ⟨h, Pieces.nil, trivial⟩⟩
 | .val t :: r, i, x, vs, ⟨v, us, h1, _, hv, hu⟩ => by
  obtain ⟨vals, e, hp, hr⟩ := args_start hu
  refine ⟨vals, e, hp, fun ρ hA hO => ?_⟩
  obtain ⟨g1, g2, g3⟩ := hr ρ hA hO
  rw [h1 rfl]
  exact ⟨⟨v, us, rfl, svOf_ok ρ hv, g1⟩, g2, g3⟩
 | .row e' t :: r, i, x, vs, ⟨v, us, h1, _, ⟨hv, hv2⟩, hu⟩ => by
  obtain ⟨vals, e, hp, hr⟩ := args_start hu
  refine ⟨(.inr (pid i 0), v) :: vals, by simp [stIts, e], fun k v h => hp k v (by simpa using h), fun ρ hA hO => ?_⟩
  obtain ⟨g1, g2, g3⟩ := hr ρ (fun o v h => hA o v (by simp [h])) (fun o n h => hO o n (by simp [stIts, h]))
  have hav : ρ.rw (pid i 0) = v := hA (.inr (pid i 0)) v (by simp)
  rw [h1 rfl]
  refine ⟨⟨v, us, rfl, ⟨hav.symm, hv.isSlice⟩, g1⟩, ⟨g2.bx, fun j q hj => ?_, g2.ob⟩, g3⟩
  simp only [parRows, look_cons] at hj
  split at hj
  ·rename_i ej
   subst ej
   cases hj
   exact hv.ok (Trans.refl G _) hav (fun b hb => hO _ _ (by simp [stIts]) b (hv2 b hb))
  ·exact g2.rw j q hj
 | .mrow e' t :: r, i, x, vs, ⟨v, us, h1, _, ⟨hv, hv2⟩, hu⟩ => by
  obtain ⟨vals, e, hp, hr⟩ := args_start hu
  refine ⟨(.inr (pid i 0), v) :: vals, by simp [stIts, e], fun k v h => hp k v (by simpa using h), fun ρ hA hO => ?_⟩
  obtain ⟨g1, g2, g3⟩ := hr ρ (fun o v h => hA o v (by simp [h])) (fun o n h => hO o n (by simp [stIts, h]))
  have hav : ρ.rw (pid i 0) = v := hA (.inr (pid i 0)) v (by simp)
  rw [h1 rfl]
  refine ⟨⟨v, us, rfl, ⟨hav.symm, hv.isSlice⟩, g1⟩, ⟨g2.bx, fun j q hj => ?_, g2.ob⟩, ⟨by rw [hav]; rfl, by rw [hav]; exact hv.isSlice⟩, g3⟩
  simp only [parRows, look_cons] at hj
  split at hj
  ·rename_i ej
   subst ej
   cases hj
   exact hv.ok (Trans.refl G _) hav (fun b hb => hO _ _ (by simp [stIts]) b (hv2 b hb))
  ·exact g2.rw j q hj
 | .map kk vv :: r, i, x, vs, ⟨v, us, h1, _, ⟨b, hv, hv1, hv2⟩, hu⟩ => by
  obtain ⟨vals, e, hp, hr⟩ := args_start hu
  refine ⟨(.ob (pid i 0), v) :: vals, by simp [stIts, e], fun k v h => hp k v (by simpa using h), fun ρ hA hO => ?_⟩
  obtain ⟨g1, g2, g3⟩ := hr ρ (fun o v h => hA o v (by simp [h])) (fun o n h => hO o n (by simp [stIts, h]))
  rw [h1 rfl]
  subst hv
  have ho : ρ.own b = some (.ob (pid i 0)) := hO _ _ (by simp [stIts]) b hv1
  obtain ⟨m1, m2⟩ := hv2.ok (Trans.refl G _) (hA (.ob (pid i 0)) (.map (some b)) (by simp)) ho
  refine ⟨⟨_, us, rfl, ⟨m2.symm, b, rfl⟩, g1⟩, ⟨g2.bx, g2.rw, fun j q hj => ?_⟩, ⟨by rw [m2]; rfl, b, m2⟩, g3⟩
  simp only [parObjs, look_cons] at hj
  split at hj
  ·rename_i ej
   subst ej
   cases hj
   exact m1
  ·exact g2.ob j q hj
 | .box l :: r, i, x, vs, ⟨v, us, h1, _, hv, hu⟩ => by
  obtain ⟨vals, e, hp, hr⟩ := args_start hu
  obtain ⟨vals2, hv2, hr2⟩ := box_back (G3 := G) (d := pD) (k := 2000 + i) (Trans.refl G _) hv
  refine ⟨(.inl (2000 + i), v) :: (vals2 ++ vals), by simp [stIts, e, hv2], fun k v' h => ?_, fun ρ hA hO => ?_⟩
  ·rcases List.mem_cons.1 h with h | h
   ·cases h
    obtain ⟨b, _, _, e1, _⟩ := hv
    exact ⟨b, e1⟩
   ·rcases List.mem_append.1 h with h | h
    ·have hm : (.inl k : Ownr) ∈ vals2.map (·.1) := List.mem_map.2 ⟨_, h, rfl⟩
     rw [hv2] at hm
     obtain ⟨p, hp, e1⟩ := List.mem_map.1 hm
     obtain ⟨p1, p2⟩ := p
     simp only at e1
     subst e1
     exact absurd hp ((ots_keys (x := x.1)).2.2 k p2)
    ·exact hp k v' h
  ·obtain ⟨g1, g2, g3⟩ := hr ρ (fun o v h => hA o v (by simp [h])) (fun o n h => hO o n (by simp [stIts, h]))
   have hk := hA (.inl (2000 + i)) v (by simp)
   have g4 := hr2 ρ hk (fun o v h => hA o v (by simp [h])) (fun o n h => hO o n (by
    simp only [List.mem_cons] at h
    simp only [stIts, List.mem_cons, List.mem_append]
    rcases h with h | h
    ·exact .inl h
    ·exact .inr (.inl h)))
   rw [h1 rfl]
   exact ⟨⟨v, us, rfl, hk, g1⟩, g4.app g2, by rw [show v = _ from hk]; rfl, g3⟩
 | .ar t :: r, i, x, vs, ⟨v, us, _, h1, hv, hu⟩ => by
  obtain ⟨vals, e, hp, hr⟩ := args_start hu
  refine ⟨(.ob arId, undef) :: vals, by simp [stIts, e], fun k v h => hp k v (by simpa using h), fun ρ hA hO => ?_⟩
  obtain ⟨g1, g2, g3⟩ := hr ρ (fun o v h => hA o v (by simp [h])) (fun o n h => hO o n (by simp [stIts, h]))
  have e1 := h1 rfl
  subst e1
  refine ⟨g1, ⟨g2.bx, g2.rw, fun j q hj => ?_⟩, g3⟩
  simp only [parObjs, look_cons] at hj
  split at hj
  ·rename_i ej
   subst ej
   cases hj
   refine ⟨rfl, hv.1, hv.2.1, fun n z hz => ?_⟩
   obtain ⟨b, ws, T, f1, f2, f3, f4, f5⟩ := hv.2.2 n z hz
   exact ⟨b, ws, T, f1, nofun, fun _ => hO _ _ (by simp [stIts]) b (f3 rfl), f4, f5⟩
  ·exact g2.ob j q hj
 | .arR t :: r, i, x, vs, ⟨v, us, _, h1, hv, hu⟩ => by
  obtain ⟨vals, e, hp, hr⟩ := args_start hu
  refine ⟨vals, e, hp, fun ρ hA hO => ?_⟩
  obtain ⟨g1, g2, g3⟩ := hr ρ hA hO
  have e1 := h1 rfl
  subst e1
  refine ⟨g1, ⟨g2.bx, g2.rw, fun j q hj => ?_⟩, g3⟩
  simp only [parObjs, look_cons] at hj
  split at hj
  ·rename_i ej
   subst ej
   cases hj
   refine ⟨rfl, hv.1, hv.2.1, fun n z hz => ?_⟩
   obtain ⟨b, ws, T, f1, f2, f3, f4, f5⟩ := hv.2.2 n z hz
   exact ⟨b, ws, T, f1, f2, nofun, f4, f5⟩
  ·exact g2.ob j q hj

theorem st_new : ∀ {ps : List PM} {i : Nat} {o : Ownr} {n : Nat}, (o, n) ∈ stIts i ps → (∃ k, o = .inl k) ∨ o = .ob arId ∨ isNew pD o n
 | [], i, o, n, h => by simp [stIts] at h
 | .val _ :: r, i, o, n, h => st_new (ps := r) h
 | .arR _ :: r, i, o, n, h => st_new (ps := r) h
 | .row _ _ :: r, i, o, n, h => by
  simp only [stIts, List.mem_cons, Prod.mk.injEq] at h
  rcases h with ⟨h, h'⟩ | h
  ·subst h; subst h'; exact .inr (.inr (.inl (by rw [pid, nid_eq]; rfl)))
  ·exact st_new (ps := r) h
 | .mrow _ _ :: r, i, o, n, h => by
  simp only [stIts, List.mem_cons, Prod.mk.injEq] at h
  rcases h with ⟨h, h'⟩ | h
  ·subst h; subst h'; exact .inr (.inr (.inl (by rw [pid, nid_eq]; rfl)))
  ·exact st_new (ps := r) h
 | .map _ _ :: r, i, o, n, h => by
  simp only [stIts, List.mem_cons, Prod.mk.injEq] at h
  rcases h with ⟨h, h'⟩ | h
  ·subst h; subst h'; exact .inr (.inr (.inr (by rw [pid, nid_eq]; rfl)))
  ·exact st_new (ps := r) h
 | .box l :: r, i, o, n, h => by
  simp only [stIts, List.mem_cons, List.mem_append, Prod.mk.injEq] at h
  rcases h with ⟨h, h'⟩ | h | h
  ·exact .inl ⟨_, h⟩
  ·exact .inr (.inr (ots_new h))
  ·exact st_new (ps := r) h
 | .ar _ :: r, i, o, n, h => by
  simp only [stIts, List.mem_cons, Prod.mk.injEq] at h
  rcases h with ⟨h, h'⟩ | h
  ·exact .inr (.inl h)
  ·exact st_new (ps := r) h

/-! the end -/

def resM (tmps : Array Value) : ResultVar → Sem Value
 | .tmp t => pure (tmps.getD t undef)
 | .cell a t => do loadVar t (← asAddr (tmps.getD a undef))

theorem run_resSV {S : St} {a : Act} {s : SV} {v : ResultVar} (hM : Mod C G ρ S w a) (h : resSV X S v = some s) : ∃ u, (resM a.tmps v).run X.P w = .ok u w ∧ SVDen G ρ s u := by
 cases v with
 | tmp t =>
  simp only [resSV, Option.some.injEq] at h
  subst h
  exact ⟨_, rfl, hM.tmps.ev (.tmp t)⟩
 | cell t T =>
  simp only [resSV] at h
  split at h
  ·rename_i b off hx
   split at h
   ·rename_i l hl
    obtain ⟨s', hs, hld⟩ := loadSV_ok h
    cases hs
    have h1 := hM.tmps.ev (.tmp t)
    simp only [St.ev] at h1
    rw [hx] at h1
    have h2 : a.tmps.getD t undef = .pointer (some ⟨ρ.bx b, off, none⟩) := h1
    obtain ⟨_, vs, T', hw, hv⟩ := hM.boxes b l hl
    obtain ⟨u, hr, hsv⟩ := hld G ρ w (ρ.bx b) 0 vs hv (fun j v hj => by
     have hadd : (⟨ρ.bx b, 0, none⟩ : Addr).add j = ⟨ρ.bx b, j, none⟩ := by unfold Addr.add; split <;> simp_all
     rw [hadd, cell_of_row w _ j _ T' (0, 0) hw]; simpa using hj)
    refine ⟨u, ?_, hsv⟩
    simp only [Nat.zero_add] at hr
    simp only [resM, h2, asAddr, Sem.run_bind, Sem.run_pure, Result.andThen_ok, hr]
   ·cases h
  ·cases h

theorem run_resSVs {S : St} {a : Act} (hM : Mod C G ρ S w a) : ∀ {rs : List ResultVar} {l : List SV}, resSVs X S rs = some l → ∃ us, (rs.mapM (resM a.tmps)).run X.P w = .ok us w ∧ All2 (SVDen G ρ) l us
 | [], l, h => by
  simp only [resSVs, Option.some.injEq] at h
  subst h
  exact ⟨[], rfl, rfl⟩
 | v :: r, l, h => by
  simp only [resSVs] at h
  split at h
  ·rename_i s hs
   split at h
   ·rename_i l' hl'
    cases h
    obtain ⟨u, h1, h2⟩ := run_resSV hM hs
    obtain ⟨us, h3, h4⟩ := run_resSVs hM hl'
    refine ⟨u :: us, ?_, u, us, rfl, h2, h4⟩
    simp only [List.mapM_cons, Sem.run_bind, h1, Result.andThen_ok, h3, Sem.run_pure]
   ·cases h
  ·cases h

theorem run_results {fn : Func} {tmps : Array Value} {P : Program} {us : List Value} (h : (fn.results.toList.mapM (resM tmps)).run P w = .ok us w) : (results fn tmps).run P w = .ok (retVal us) w := by
 have e : results fn tmps = (do
  let vs ← fn.results.mapM (resM tmps)
  pure (if h : vs.size = 1 then vs[0] else .tuple vs)) := by
  unfold results
  congr 2
 rw [e, Array.mapM_eq_mapM_toList]
 simp only [Sem.run_bind, Sem.run_map, h, Result.andThen_ok, Sem.run_pure]
 match us with
 | [] => rfl
 | [v] => rfl
 | v :: u :: r => simp [retVal]

theorem packOut_nil' (S : St) (ps : List PM) (bx : Option (boxDen ps)) (s : SV) (q : List SV) : packOut S ps bx [] (s :: q) = none := rfl
theorem packOut_cons (S : St) (ps : List PM) (bx : Option (boxDen ps)) (p : RM) (r : List RM) (s : SV) (q : List SV) : packOut S ps bx (p :: r) (s :: q) = match packRes S p s with
  | some x => match packOut S ps bx r q with
   | some y => some (x, y)
   | none => none
  | none => none := rfl
theorem packOut_non (S : St) (ps : List PM) (bx : Option (boxDen ps)) (p : RM) (r : List RM) : packOut S ps bx (p :: r) [] = none := rfl

theorem cv_one' {s : SV} {c : CV} {v : Value} (hc : oneCV s = some c) (hs : SVDen G ρ s v) : CVDen G ρ c v := by
 unfold oneCV at hc
 split at hc
 ·cases hc; exact hs
 ·cases hc

section
variable {V : St} {ow : List (Ownr × Nat)} (hM : Mem C G ρ V w)
include hM

theorem packBox_ok {l : List OT} {k n : Nat} {cs : List CV} {x : otDen l} {v : Value} (hcs : look V.boxes k = some cs) (h : packOT V l cs = some x) (hv : v = .pointer (some ⟨ρ.bx k, 0, none⟩)) (ho : ∀ q, q ∈ (.inl k, n) :: ownsOT (n + 1) l cs → lookO ow q.1 = some q.2) :
  BoxAt G w (owOf ρ ow) n l x v := by
 obtain ⟨h1, vs, T, h2, h3⟩ := hM.boxes k cs hcs
 refine ⟨ρ.bx k, vs, T, hv, ?_, h2, packOT_ok hM (Gh.le_refl G) h h3 (fun q hq => ho q (by simp [hq]))⟩
 simp only [owOf, h1, Option.bind_some]
 exact ho (.inl k, n) (by simp)

theorem packRes_ok {p : RM} {s : SV} {x : p.den} {v : Value} {c : Nat} {r : List RM} {q : List SV} (h : packRes V p s = some x) (hv : SVDen G ρ s v) (ho : ∀ z, z ∈ ownsRes V c (p :: r) (s :: q) → lookO ow z.1 = some z.2) : ResOk G w (owOf ρ ow) c p x v := by
 cases p with
 | val t => exact packSV_ok hM.frozen (Lent.nil _ _ _) h hv
 | row e t =>
  simp only [packRes] at h
  split at h
  ·rename_i cv hc
   exact packRowC_ok hM (Gh.le_refl G) h (cv_one' hc hv) (fun z hz => ho z (by simp only [ownsRes, hc, List.mem_append]; exact .inl hz))
  ·cases h
 | map k e =>
  simp only [packRes] at h
  split at h
  ·rename_i cv hc
   exact packMapC_ok hM (Gh.le_refl G) h (cv_one' hc hv) (fun z hz => ho z (by simp only [ownsRes, hc, List.mem_append]; exact .inl hz))
  ·cases h
 | box l =>
  simp only [packRes] at h
  split at h
  ·rename_i k hk
   split at h
   ·rename_i cs hcs
    exact packBox_ok hM hcs h (oneRef_ok hk hv) (fun z hz => ho z (by simp only [ownsRes, hk, hcs, List.mem_append]; exact .inl hz))
   ·cases h
  ·cases h

theorem packOut_ok {ps : List PM} {bx : Option (boxDen ps)} {args : List Value} (hbx : ∀ y, bx = some y → BkOk G w (owOf ρ ow) 0 ps y args) (rs : List RM) :
  ∀ {l : List SV} {y : outDen ps rs} {us : List Value} (c : Nat), (∀ z, z ∈ ownsRes V c rs l → lookO ow z.1 = some z.2) → packOut V ps bx rs l = some y → All2 (SVDen G ρ) l us → OutOk G w (owOf ρ ow) ps args c rs y us := by
 induction rs with
 | nil =>
  intro l y us c _ h hv
  cases l with
  | nil => exact ⟨hv, hbx y h⟩
  | cons s q => rw [packOut_nil'] at h; cases h
 | cons p r ih =>
  intro l y us c ho h hv
  cases l with
  | nil => rw [packOut_non] at h; cases h
  | cons s q =>
   obtain ⟨v, us', e', hs, hq⟩ := hv
   subst e'
   rw [packOut_cons] at h
   split at h
   ·rename_i x hx
    split at h
    ·rename_i z hz
     cases h
     refine ⟨v, us', rfl, packRes_ok hM hx hs ho, ih (c + 1) (fun t ht => ho t ?_) hz hq⟩
     cases p <;> simp only [ownsRes, List.mem_append] <;> first | exact .inr ht | exact ht
    ·cases h
   ·cases h

theorem packBk_ok : ∀ {ps : List PM} {i : Nat} {y : boxDen ps} {vs : List Value}, packBk V i ps = some y → (∀ z, z ∈ ownsBk V i ps → lookO ow z.1 = some z.2) → ParPins ρ i ps vs → BkOk G w (owOf ρ ow) i ps y vs
 | [], i, y, vs, _, _, _ => trivial
 | .val _ :: r, i, y, vs, h, ho, hp => packBk_ok (ps := r) h ho hp
 | .row _ _ :: r, i, y, vs, h, ho, hp => packBk_ok (ps := r) h ho hp
 | .arR _ :: r, i, y, vs, h, ho, hp => packBk_ok (ps := r) h ho hp
 | .mrow e t :: r, i, y, vs, h, ho, ⟨⟨hp1, hp2⟩, hp⟩ => by
  simp only [packBk] at h
  split at h
  ·rename_i x z hx hz
   cases h
   have := packRowC_ok (ow := ow) (n := 64 * i) hM (Gh.le_refl G) hx (v := ρ.rw (pid i 0)) ⟨rfl, hp2⟩ (fun q hq => ho q (by
    simp only [ownsC, List.mem_singleton] at hq
    subst hq; simp [ownsBk]))
   exact ⟨⟨_, hp1, this.1, this.2⟩, packBk_ok (ps := r) hz (fun q hq => ho q (by simp [ownsBk, hq])) hp⟩
  ·cases h
 | .map kk vv :: r, i, y, vs, h, ho, ⟨⟨hp1, hp2⟩, hp⟩ => by
  simp only [packBk] at h
  split at h
  ·rename_i x z hx hz
   cases h
   obtain ⟨b, h1, h2, h3⟩ := packMapC_ok (ow := ow) (n := 64 * i) hM (Gh.le_refl G) hx (v := ρ.ob (pid i 0)) ⟨rfl, hp2⟩ (fun q hq => ho q (by
    simp only [ownsC, List.mem_singleton] at hq
    subst hq; simp [ownsBk]))
   exact ⟨⟨b, by rw [hp1, h1], h2, h3⟩, packBk_ok (ps := r) hz (fun q hq => ho q (by simp [ownsBk, hq])) hp⟩
  ·cases h
 | .box l :: r, i, y, vs, h, ho, ⟨hp1, hp⟩ => by
  simp only [packBk] at h
  split at h
  ·rename_i cs hcs
   split at h
   ·rename_i x z hx hz
    cases h
    refine ⟨⟨_, hp1, packBox_ok hM hcs hx rfl (fun q hq => ho q ?_)⟩, packBk_ok (ps := r) hz (fun q hq => ho q ?_) hp⟩
    ·simp only [ownsBk, hcs, List.cons_append, List.mem_cons, List.mem_append]
     rcases List.mem_cons.1 hq with hq | hq
     ·exact .inl hq
     ·exact .inr (.inl hq)
    ·simp only [ownsBk, hcs, List.cons_append, List.mem_cons, List.mem_append]
     exact .inr (.inr hq)
   ·cases h
  ·cases h
 | .ar t :: r, i, y, vs, h, ho, hp => by
  simp only [packBk] at h
  split at h
  ·rename_i x z hx hz
   cases h
   obtain ⟨f, hl, hf⟩ := packAr_ok hx
   have := hf rfl
   subst this
   obtain ⟨_, h1, h2, h3⟩ := hM.objs arId _ hl
   refine ⟨⟨h1, h2, fun n z hz => ?_⟩, packBk_ok (ps := r) hz (fun q hq => ho q (by simp [ownsBk, hq])) hp⟩
   obtain ⟨b, vs, T, g1, g2, g3, g4, g5⟩ := h3 n z hz
   refine ⟨b, vs, T, g1, nofun, fun _ => ?_, g4, g5⟩
   have := g3 rfl
   simp only [owOf, this, Option.bind_some]
   exact ho (.ob arId, 64 * i) (by simp [ownsBk])
  ·cases h
end

end Go.Dn

namespace Go.Dn
variable {X : Cx}

section
variable {G G' : Gh} {w : World} {ow : Nat → Option Nat} (hG : ∀ b o, G b = some o → G' b = some o)
include hG

theorem RepV.noHnd {t : Ty} {x : t.den} {v : Value} (hn : t.noHnd = true) (h : RepV G t x v) : RepV G' t x v := by
 cases t with
 | st t => obtain ⟨vs, e, hv⟩ := h; exact ⟨vs, e, RepC.noHnd hG t x vs (by simpa [Ty.noHnd] using hn) hv⟩
 | _ => exact RepC.noHnd hG _ x _ hn h
theorem RowAt.noHnd {e : TypeId} {t : Ty} {l : List t.den} {v : Value} (hn : t.noHnd = true) (h : RowAt G w e t l v) : RowAt G' w e t l v := by
 obtain ⟨xs, h1, h2⟩ := h
 exact ⟨xs, h1, h2.mono fun x cs => RepC.noHnd hG t x cs hn⟩
theorem MapAt.noHnd {k v : Ty} {l : List (k.den × v.den)} {b : Nat} (hk : k.noHnd = true) (hv : v.noHnd = true) (h : MapAt G w k v l b) : MapAt G' w k v l b := by
 obtain ⟨es, clock, h1, h2, h3⟩ := h
 exact ⟨es, clock, h1, h2.mono fun x y hxy => ⟨hxy.1.noHnd hG hk, hxy.2.noHnd hG hv⟩, h3⟩
def otNoHnd (l : List OT) : Bool := l.all fun | .val t => t.noHnd | .row _ t => t.noHnd | .map k v => k.noHnd && v.noHnd
theorem OTsOk.noHnd : ∀ {l : List OT} {n : Nat} {x : otDen l} {vs : List Value}, otNoHnd l = true → OTsOk G w ow n l x vs → OTsOk G' w ow n l x vs
 | [], _, _, _, _, h => h
 | .val t :: r, n, x, vs, hn, ⟨a, b, e, h1, h2⟩ => by
  simp only [otNoHnd, List.all_cons, Bool.and_eq_true] at hn
  exact ⟨a, b, e, RepC.noHnd hG t x.1 a hn.1 h1, OTsOk.noHnd hn.2 h2⟩
 | .row _ t :: r, n, x, vs, hn, ⟨a, b, e, ⟨v, e2, h1, h3⟩, h2⟩ => by
  simp only [otNoHnd, List.all_cons, Bool.and_eq_true] at hn
  exact ⟨a, b, e, ⟨v, e2, h1.noHnd hG hn.1, h3⟩, OTsOk.noHnd hn.2 h2⟩
 | .map k v :: r, n, x, vs, hn, ⟨a, b, e, ⟨bb, e2, h1, h3⟩, h2⟩ => by
  simp only [otNoHnd, List.all_cons, Bool.and_eq_true] at hn
  exact ⟨a, b, e, ⟨bb, e2, h1, h3.noHnd hG hn.1.1 hn.1.2⟩, OTsOk.noHnd hn.2 h2⟩
theorem BoxAt.noHnd {l : List OT} {n : Nat} {x : otDen l} {v : Value} (hn : otNoHnd l = true) (h : BoxAt G w ow n l x v) : BoxAt G' w ow n l x v := by
 obtain ⟨b, vs, T, h1, h2, h3, h4⟩ := h
 exact ⟨b, vs, T, h1, h2, h3, h4.noHnd hG hn⟩
theorem ArgsOk.noHnd : ∀ {ps : List PM} {i : Nat} {x : inDen ps} {vs : List Value}, pmNoHnd ps = true → ArgsOk G w ow i ps x vs → ArgsOk G' w ow i ps x vs
 | [], _, _, _, _, h => h
 | .val t :: r, i, x, vs, hn, ⟨v, us, h1, h2, h3, h4⟩ => by
  simp only [pmNoHnd, Bool.and_eq_true] at hn
  exact ⟨v, us, h1, h2, RepV.noHnd hG hn.1 h3, ArgsOk.noHnd hn.2 h4⟩
 | .row _ t :: r, i, x, vs, hn, ⟨v, us, h1, h2, ⟨h3, h3'⟩, h4⟩ => by
  simp only [pmNoHnd, Bool.and_eq_true] at hn
  exact ⟨v, us, h1, h2, ⟨h3.noHnd hG hn.1, h3'⟩, ArgsOk.noHnd hn.2 h4⟩
 | .mrow _ t :: r, i, x, vs, hn, ⟨v, us, h1, h2, ⟨h3, h3'⟩, h4⟩ => by
  simp only [pmNoHnd, Bool.and_eq_true] at hn
  exact ⟨v, us, h1, h2, ⟨h3.noHnd hG hn.1, h3'⟩, ArgsOk.noHnd hn.2 h4⟩
 | .map _ _ :: r, i, x, vs, hn, ⟨v, us, h1, h2, ⟨b, h3, h3', h5⟩, h4⟩ => by
  simp only [pmNoHnd, Bool.and_eq_true] at hn
  exact ⟨v, us, h1, h2, ⟨b, h3, h3', h5.noHnd hG hn.1.1 hn.1.2⟩, ArgsOk.noHnd hn.2 h4⟩
 | .box l :: r, i, x, vs, hn, ⟨v, us, h1, h2, h3, h4⟩ => by
  simp only [pmNoHnd, Bool.and_eq_true] at hn
  exact ⟨v, us, h1, h2, BoxAt.noHnd hG hn.1 h3, ArgsOk.noHnd hn.2 h4⟩
 | .ar _ :: r, i, x, vs, hn, _ => by simp [pmNoHnd] at hn
 | .arR _ :: r, i, x, vs, hn, _ => by simp [pmNoHnd] at hn
theorem BkOk.noHnd : ∀ {ps : List PM} {i : Nat} {x : boxDen ps} {vs : List Value}, pmNoHnd ps = true → BkOk G w ow i ps x vs → BkOk G' w ow i ps x vs
 | [], _, _, _, _, h => h
 | .val t :: r, i, x, vs, hn, h => by
  simp only [pmNoHnd, Bool.and_eq_true] at hn
  exact BkOk.noHnd (ps := r) hn.2 h
 | .row _ t :: r, i, x, vs, hn, h => by
  simp only [pmNoHnd, Bool.and_eq_true] at hn
  exact BkOk.noHnd (ps := r) hn.2 h
 | .mrow _ t :: r, i, x, vs, hn, ⟨⟨v, h1, h2, h3⟩, h4⟩ => by
  simp only [pmNoHnd, Bool.and_eq_true] at hn
  exact ⟨⟨v, h1, h2.noHnd hG hn.1, h3⟩, BkOk.noHnd hn.2 h4⟩
 | .map _ _ :: r, i, x, vs, hn, ⟨⟨b, h1, h2, h3⟩, h4⟩ => by
  simp only [pmNoHnd, Bool.and_eq_true] at hn
  exact ⟨⟨b, h1, h2, h3.noHnd hG hn.1.1 hn.1.2⟩, BkOk.noHnd hn.2 h4⟩
 | .box l :: r, i, x, vs, hn, ⟨⟨v, h1, h2⟩, h4⟩ => by
  simp only [pmNoHnd, Bool.and_eq_true] at hn
  exact ⟨⟨v, h1, BoxAt.noHnd hG hn.1 h2⟩, BkOk.noHnd hn.2 h4⟩
 | .ar _ :: r, i, x, vs, hn, _ => by simp [pmNoHnd] at hn
 | .arR _ :: r, i, x, vs, hn, _ => by simp [pmNoHnd] at hn
theorem OutOk.noHnd {ps : List PM} {args : List Value} (hp : pmNoHnd ps = true) : ∀ {rs : List RM} {c : Nat} {y : outDen ps rs} {vs : List Value}, rmNoHnd rs = true → OutOk G w ow ps args c rs y vs → OutOk G' w ow ps args c rs y vs
 | [], _, _, _, _, h => ⟨h.1, h.2.noHnd hG hp⟩
 | .val t :: r, c, y, vs, hn, ⟨v, us, h1, h2, h3⟩ => by
  simp only [rmNoHnd, Bool.and_eq_true] at hn
  exact ⟨v, us, h1, RepV.noHnd hG hn.1 h2, OutOk.noHnd hp hn.2 h3⟩
 | .row _ t :: r, c, y, vs, hn, ⟨v, us, h1, ⟨h2, h2'⟩, h3⟩ => by
  simp only [rmNoHnd, Bool.and_eq_true] at hn
  exact ⟨v, us, h1, ⟨h2.noHnd hG hn.1, h2'⟩, OutOk.noHnd hp hn.2 h3⟩
 | .map _ _ :: r, c, y, vs, hn, ⟨v, us, h1, ⟨b, h2, h2', h4⟩, h3⟩ => by
  simp only [rmNoHnd, Bool.and_eq_true] at hn
  exact ⟨v, us, h1, ⟨b, h2, h2', h4.noHnd hG hn.1.1 hn.1.2⟩, OutOk.noHnd hp hn.2 h3⟩
 | .box l :: r, c, y, vs, hn, ⟨v, us, h1, h2, h3⟩ => by
  simp only [rmNoHnd, Bool.and_eq_true] at hn
  exact ⟨v, us, h1, BoxAt.noHnd hG hn.1 h2, OutOk.noHnd hp hn.2 h3⟩
end

theorem parSVs_len : ∀ (ps : List PM) (i : Nat) (x : inDen ps), (parSVs i ps x).length = nArgs ps
 | [], _, _ => rfl
 | .val _ :: r, i, x => by simp [parSVs, nArgs, PM.arg, parSVs_len r]; omega
 | .row _ _ :: r, i, x => by simp [parSVs, nArgs, PM.arg, parSVs_len r]; omega
 | .mrow _ _ :: r, i, x => by simp [parSVs, nArgs, PM.arg, parSVs_len r]; omega
 | .map _ _ :: r, i, x => by simp [parSVs, nArgs, PM.arg, parSVs_len r]; omega
 | .box _ :: r, i, x => by simp [parSVs, nArgs, PM.arg, parSVs_len r]; omega
 | .ar _ :: r, i, x => by simp [parSVs, nArgs, PM.arg, parSVs_len r]
 | .arR _ :: r, i, x => by simp [parSVs, nArgs, PM.arg, parSVs_len r]

theorem parObjs_ar : ∀ {ps : List PM} {i : Nat} {x : inDen ps} {t : Ty} {l : List t.den}, hasAr ps = false → look (parObjs i ps x) arId ≠ some (.ar false t l)
 | [], i, x, t, l, _ => by simp [parObjs, look]
 | .val _ :: r, i, x, t, l, h => parObjs_ar (ps := r) h
 | .row _ _ :: r, i, x, t, l, h => parObjs_ar (ps := r) h
 | .mrow _ _ :: r, i, x, t, l, h => parObjs_ar (ps := r) h
 | .map _ _ :: r, i, x, t, l, h => by
  simp only [parObjs, look_cons]
  split
  ·simp
  ·exact parObjs_ar (ps := r) h
 | .box _ :: r, i, x, t, l, h => by
  simp only [parObjs, look_append]
  intro e
  rcases or_some e with e | ⟨_, e⟩
  ·obtain ⟨_, _, _, e'⟩ := otObjs_map e; cases e'
  ·exact parObjs_ar (ps := r) h e
 | .ar _ :: r, i, x, t, l, h => by simp [hasAr] at h
 | .arR _ :: r, i, x, t, l, h => by
  simp only [parObjs, look_cons]
  split
  ·intro e; cases e
  ·exact parObjs_ar (ps := r) h

theorem noHnd_noAr {ps : List PM} (h : pmNoHnd ps = true) : hasAr ps = false := by
 induction ps with
 | nil => rfl
 | cons p r ih => cases p <;> simp only [pmNoHnd, Bool.and_eq_true] at h <;> first | exact ih h.2 | cases h

theorem fun_core (hX : SpecsOk X) (hmix : X.P.follows .mixedOrders = true) {f : FuncId} {fn : Func} (sp : FSpec) (anns : List (Nat × Ann)) (ar : Option Ty) (hf : X.P.funcs[f]? = some fn) {G : Gh} {w : World} {ow : Nat → Option Nat} {args : List Value} {x : inDen sp.ps} {y : outDen sp.ps sp.rs}
  (hT : TabOk X.P G) (hG : Agr G w) (how : ∀ b i, ow b = some i → G b = none ∧ b < w.heap.size) (hargs : ArgsOk G w ow 0 sp.ps x args) (har : ar.isSome = true → G.hnd = (fun _ => none) ∧ hasAr sp.ps = false ∧ pmNoHnd sp.ps = true) (hN : denF X anns ar fn sp x = some y) :
  Calls X.P f args.toArray w fun e w' => ∃ G' ow' vs, e = .returned (retVal vs) ∧ G.le G' ∧ Agr G' w' ∧ w.heap.size ≤ w'.heap.size ∧ w'.os = w.os ∧ w'.output = w.output ∧
   (∀ b, b < w.heap.size → ow b = none → w'.heap[b]? = w.heap[b]? ∧ G' b = G b) ∧ (∀ b i, ow' b = some i → G' b = none ∧ b < w'.heap.size ∧ (w.heap.size ≤ b ∨ ow b ≠ none)) ∧ OutOk G' w' ow' sp.ps args 0 sp.rs y vs ∧ (hasAr sp.ps = false → ar = none → G'.hnd = G.hnd) := by
 unfold denF at hN
 split at hN
 ·cases hN
 ·rename_i hcond
  simp only [Bool.or_eq_true, not_or, Bool.not_eq_true] at hcond
  obtain ⟨⟨hdO, hdC⟩, hnoh⟩ := hcond
  split at hN
  ·rename_i c hc
   obtain ⟨vals, hvals, hpt, hst⟩ := args_start hargs
   let pv : Nat → Value := fun k => match lookV vals (.inr k) with | some v => v | none => (lookV vals (.ob k)).getD undef
   let ρ : Env := ⟨fun k => match lookV vals (.inl k) with | some v => blkOf v | none => 0, pv, fun b => (ow b).bind (findOwn (stIts 0 sp.ps)), pv, fun k => stNow w (pv k)⟩
   have hA : ∀ o v, (o, v) ∈ vals → Asg ρ w o v := fun o v hm => by
    have hl := lookV_of_mem hvals hdO hm
    cases o with
    | inl k =>
     obtain ⟨b, hb⟩ := hpt k v hm
     show v = .pointer (some ⟨match lookV vals (.inl k) with | some v => blkOf v | none => 0, 0, none⟩)
     rw [hl, hb]; rfl
    | inr j => show (match lookV vals (.inr j) with | some v => v | none => _) = v; rw [hl]
    | ob j =>
     intro b hb
     subst hb
     have hnr : lookV vals (.inr j) = none := by
      cases h1 : lookV vals (.inr j) with
      | none => rfl
      | some v' =>
       obtain ⟨n1, m1⟩ := lookV_none hvals (by rw [h1]; simp)
       obtain ⟨n2, m2⟩ := lookV_none hvals (o := .ob j) (by rw [hl]; simp)
       rcases st_new m1 with ⟨k, e⟩ | e | e
       ·cases e
       ·cases e
       ·rcases st_new m2 with ⟨k, e'⟩ | e' | e'
        ·cases e'
        ·cases e'
         rcases e with e | e
         ·have : arId = nid pD 0 0 + n1 := by simpa using e
          simp only [arId, pD, nid] at this; omega
         ·cases e
        ·have h1 : j = nid pD 0 0 + n1 := by rcases e with e | e <;> cases e; rfl
         have h2 : j = nid pD 0 0 + n2 := by rcases e' with e' | e' <;> cases e'; rfl
         have : n1 = n2 := by omega
         subst this
         have := code_unique hdC m1 m2
         cases this
     have hpv : pv j = .map (some b) := by
      show (match lookV vals (.inr j) with | some v => v | none => (lookV vals (.ob j)).getD undef) = _
      rw [hnr, hl]; rfl
     refine ⟨hpv, fun es clock hw i e' hi => ?_⟩
     show (e'.born : Int) = stNow w (pv j) i
     rw [hpv]
     simp [stNow, hw, hi]
   have hO : ∀ o n, (o, n) ∈ stIts 0 sp.ps → ∀ b, ow b = some n → ρ.own b = some o := fun o n hm b hb => by
    show (ow b).bind (findOwn (stIts 0 sp.ps)) = _
    rw [hb]; exact findOwn_of_mem hdC hm
   obtain ⟨hsv, hP, hpins⟩ := hst ρ hA hO
   let C : Fr X.P := ⟨w.heap.size, ρ.bx, pv, fun b => ow b ≠ none, w, G, hasAr sp.ps = false ∧ ar = none, hT⟩
   have hlen : args.length = nArgs sp.ps := by rw [hsv.len, parSVs_len]
   have hM : Mod C G ρ (initSt fn.ntmps ar sp.ps x) w { tmps := args.toArray ++ Array.replicate (fn.ntmps - args.toArray.size) undef, defers := [] } := by
    refine { agr := hG, le0 := Gh.le_refl G, old := fun _ _ _ => rfl, frame := fun _ _ _ => rfl, size := Nat.le_refl _, os := rfl, output := rfl, pin := fun _ _ => rfl, pinR := fun _ _ => ⟨rfl, rfl⟩, owned := ?_, boxes := hP.bx, rows := hP.rw, objs := ?_, hndI := ?_, tmps := ⟨?_, ?_⟩, defers := rfl }
    ·intro b o ho
     cases hb : ow b with
     | none =>
      have ho' : (ow b).bind (findOwn (stIts 0 sp.ps)) = some o := ho
      rw [hb] at ho'; cases ho'
     | some i => exact ⟨(how b i hb).1, (how b i hb).2, .inr (by show ow b ≠ none; rw [hb]; simp)⟩
    ·intro j q hj
     cases ar with
     | none => exact hP.ob j q hj
     | some t =>
      simp only [initSt, look_cons] at hj
      split at hj
      ·rename_i ej
       subst ej
       cases hj
       obtain ⟨h1, _⟩ := har rfl
       refine ⟨rfl, fun i b hb => (by rw [h1] at hb; cases hb), fun i i' b hb => (by rw [h1] at hb; cases hb), fun i z hz => by simp at hz⟩
      ·exact hP.ob j q hj
    ·rintro ⟨h1, h2⟩
     refine ⟨rfl, fun t l => ?_⟩
     subst h2
     exact parObjs_ar h1
    ·simp [initSt, parSVs_len, hlen]
    ·intro i s hi
     simp only [initSt] at hi
     rw [List.getElem?_append] at hi
     rw [Array.getD_eq_getD_getElem?, Array.getElem?_append]
     split at hi
     ·rename_i hlt
      obtain ⟨v, hv, hsv'⟩ := hsv.get hi
      rw [parSVs_len] at hlt
      rw [if_pos (by simpa [hlen] using hlt)]
      simpa [hv] using hsv'
     ·rw [List.getElem?_replicate] at hi
      split at hi
      ·cases hi; exact trivial
      ·cases hi
   refine calls_of_wp hf hc (den_ok (C := C) hX hmix anns c hN (fun e S' G' ρ' w' a' hk hM' => ?_) hM)
   have key : ends X fn sp S' = some y → a'.defers = [] ∧ ∃ v, (results fn a'.tmps).run X.P w' = .ok v w' ∧ ∃ G' ow' vs, Ending.returned v = .returned (retVal vs) ∧ G.le G' ∧ Agr G' w' ∧ w.heap.size ≤ w'.heap.size ∧ w'.os = w.os ∧ w'.output = w.output ∧
     (∀ b, b < w.heap.size → ow b = none → w'.heap[b]? = w.heap[b]? ∧ G' b = G b) ∧ (∀ b i, ow' b = some i → G' b = none ∧ b < w'.heap.size ∧ (w.heap.size ≤ b ∨ ow b ≠ none)) ∧ OutOk G' w' ow' sp.ps args 0 sp.rs y vs ∧ (hasAr sp.ps = false → ar = none → G'.hnd = G.hnd) := by
    intro hk
    unfold ends at hk
    have hI : ∃ G1 ρ1, Mod C G1 ρ1 (internRes X fn sp.rs S') w' a' := by
     unfold internRes
     split
     ·exact Mod.internSVs _ hM'
     ·exact ⟨_, _, hM'⟩
    generalize internRes X fn sp.rs S' = S' at hk hI
    obtain ⟨G', ρ', hM'⟩ := hI
    refine ⟨hM'.defers, ?_⟩
    unfold ends0 at hk
    split at hk
    ·rename_i l hl
     simp only at hk
     split at hk
     ·cases hk
     ·rename_i hd
      obtain ⟨us, hr, hus⟩ := run_resSVs hM' hl
      generalize hjs : lent (valOuts sp.rs l) ++ (resFz S' sp.rs l ++ parFz S' 0 sp.ps) = js at hk hd
      obtain ⟨G2, ρ2, hfz, hM2⟩ := hM'.freeze js
      generalize hV : freezeRows S' js = V at hk hd hM2
      generalize how' : ownsRes V 0 sp.rs l ++ ownsBk V 0 sp.ps = owl at hk hd
      have hd' : dupO owl = false := by simpa using hd
      have hus2 : All2 (SVDen G2 ρ2) l us := hus.mono fun s v hs => SVDen.congr hfz.le (XVDen.same hfz.bx hfz.rw hfz.ob hfz.st) hs
      have hpins2 : ParPins ρ2 0 sp.ps args := hpins.congr (fun k hk => hM2.pin k hk) (fun k hk => hM2.pinR k hk)
      refine ⟨_, run_results hr, G2, owOf ρ2 owl, us, rfl, hM2.le0, hM2.agr, hM2.size, hM2.os, hM2.output, fun b hb ho => ⟨hM2.frame b hb (by show ¬ ow b ≠ none; simp [ho]), hM2.old b hb (by show ¬ ow b ≠ none; simp [ho])⟩, fun b i hb => ?_, ?_, fun h1 h2 => (hM2.hndI ⟨h1, h2⟩).1⟩
      ·unfold owOf at hb
       cases ho : ρ2.own b with
       | none => rw [ho] at hb; cases hb
       | some o => exact hM2.owned b o ho
      ·refine packOut_ok hM2.toMem (fun y' hy' => packBk_ok hM2.toMem hy' (fun z hz => lookO_of_mem hd' (by rw [← how']; simp [hz])) hpins2) sp.rs 0 (fun z hz => lookO_of_mem hd' (by rw [← how']; simp [hz])) hk hus2
    ·cases hk
   cases e with
   | normal => exact key hk
   | ret => exact key hk
   | exit id => cases hk
  ·cases hN

theorem fun_ok (hX : SpecsOk X) (hmix : X.P.follows .mixedOrders = true) {f : FuncId} {fn : Func} (sp : FSpec) (anns : List (Nat × Ann)) (ar : Option Ty) (hf : X.P.funcs[f]? = some fn)
  (h : ∀ x y, sp.m x = some y → denF X anns ar fn sp x = some y) : FunOk X.P f sp := by
 intro G w ow args x y hG how hargs hm hT
 have hN := h x y hm
 cases ar with
 | none =>
  refine (fun_core hX hmix sp anns none hf hT hG how hargs (fun e => by cases e) hN).mono ?_
  rintro e w' ⟨G', ow', vs, h1, h2, h3, h4, h5, h6, h7, h8, h9, h10⟩
  exact ⟨G', ow', vs, h1, h2, h3, h4, h5, h6, h7, h8, h9, fun h => h10 h rfl⟩
 | some t =>
  have hN0 := hN
  unfold denF at hN0
  split at hN0
  ·cases hN0
  ·rename_i hcond
   simp only [Bool.or_eq_true, not_or, Bool.not_eq_true, Option.isSome_some, Bool.true_and, Bool.not_eq_false', Bool.and_eq_true] at hcond
   obtain ⟨_, hpn, hrn⟩ := hcond
   let G0 : Gh := ⟨G.blk, fun _ => none⟩
   have hargs0 : ArgsOk G0 w ow 0 sp.ps x args := ArgsOk.noHnd (G := G) (G' := G0) (fun _ _ h => h) hpn hargs
   refine (fun_core hX hmix sp anns (some t) hf (G := G0) ⟨hT.pow, hT.maxLen⟩ hG how hargs0 (fun _ => ⟨rfl, noHnd_noAr hpn, hpn⟩) hN).mono ?_
   rintro e w' ⟨G', ow', vs, h1, h2, h3, h4, h5, h6, h7, h8, h9, h10⟩
   refine ⟨⟨G'.blk, G.hnd⟩, ow', vs, h1, ⟨h2.blk, fun _ _ h => h⟩, h3, h4, h5, h6, h7, h8, OutOk.noHnd (G := G') (G' := ⟨G'.blk, G.hnd⟩) (fun _ _ h => h) hpn hrn h9, fun _ => rfl⟩

end Go.Dn

namespace Go.Dn

def w64 (n : Int) : Int := IntKind.wrap .i64 n
def tI : Ty := .int .i64
def wu64 (n : Int) : Int := IntKind.wrap .u64 n
def wu32 (n : Int) : Int := IntKind.wrap .u32 n
def wu8 (n : Int) : Int := IntKind.wrap .u8 n
def Ty.fu : (t : Ty) → t.den → Nat → Nat
 | .int _, n, a => Int.natAbs n + a
 | .bool, _, a => a
 | .str, s, a => List.length s + a
 | .unit, _, a => a
 | .pair s t, x, a => s.fu x.1 (t.fu x.2 a)
 | .st t, x, a => t.fu x a
 | .slice _, l, a => List.length l + a
 | .ptr t, x, a => t.fu x a
 | .clo _ _, _, a => a
 | .hnd, _, a => a
def fuelOf : (cs : List CK) → ckDen cs → Nat
 | [], _ => 2
 | .val t :: r, x => t.fu x.1 (fuelOf r x.2)
 | .own _ _ :: r, x => List.length x.1 + fuelOf r x.2
 | .map _ _ :: r, x => List.length x.1 + fuelOf r x.2
 | .ref _ _ :: r, x => fuelOf r x
 | .fn _ _ :: r, x => fuelOf r x
 | .ar _ :: r, x => List.length x.1 + fuelOf r x.2
 | .arF _ :: r, x => fuelOf r x.2
 | .rowR _ :: r, x => fuelOf r x
 | .mapR _ :: r, x => fuelOf r x
 | .rowC _ _ _ :: r, x => List.length x.1 + fuelOf r x.2
 | .mapC _ _ _ :: r, x => List.length x.1 + fuelOf r x.2

theorem iter_succ {X β : Type} (n : Nat) (x : X) (f : X → (X → Option β) → Option β) : iter (n + 1) x f = f x fun y => iter n y f := rfl

end Go.Dn

namespace Go.Dn

theorem fun_ok_str2 {P : Program} {f : FuncId} {m : inDen [.val .str, .val .str] → Option (outDen [.val .str, .val .str] [.val .str])}
  (h : ∀ (s c r : List UInt8) (w : World), m (s, c, ()) = some (r, ()) → Calls P f #[.string (bs s), .string (bs c)] w fun e w' => e = .returned (.string (bs r)) ∧ RowKit.Below w.heap.size w w') : FunOk P f ⟨[.val .str, .val .str], [.val .str], m⟩ := by
 intro G w ow args x y hG how ha hm _
 obtain ⟨s, c, u⟩ := x
 obtain ⟨r, u'⟩ := y
 obtain ⟨v, us, h1, _, hv, v', us', h2, _, hv', h3⟩ := ha
 have e1 := h1 rfl
 have e2 := h2 rfl
 have e3 : us' = [] := h3
 have e4 : v = .string (bs s) := by simpa [ArgOk, RepV, RepC] using hv
 have e5 : v' = .string (bs c) := by simpa [ArgOk, RepV, RepC] using hv'
 subst e1; subst e2; subst e3; subst e4; subst e5
 refine (h s c r w hm).mono ?_
 rintro e w' ⟨he, hb⟩
 refine ⟨G, fun _ => none, [.string (bs r)], ?_⟩
 exact {
  ret := he
  le := Gh.le_refl G
  agr := fun b o hbo => by
   have hw := hG b o hbo
   have hlt : b < w.heap.size := by
    rcases Nat.lt_or_ge b w.heap.size with h | h
    ·exact h
    ·rw [Array.getElem?_eq_none h] at hw; cases hw
   rw [hb.block b hlt]; exact hw
  size := hb.size
  os := hb.os
  output := hb.output
  old := fun b hlt _ => ⟨hb.block b hlt, rfl⟩
  own := fun b i hbi => by cases hbi
  out := ⟨_, _, rfl, rfl, rfl, trivial⟩
  hnd := fun _ => rfl }

end Go.Dn

namespace Go.Dn

theorem SpecsOk.nil (P : Program) : SpecsOk ⟨P, [], []⟩ := ⟨nofun, nofun⟩
theorem SpecsOk.cons {P : Program} {f : FuncId} {sp : FSpec} {l : List (Nat × FSpec)} {ks : List (Nat × KeyF)} (h : FunOk P f sp) (hb : HasBody P f) (r : SpecsOk ⟨P, l, ks⟩) : SpecsOk ⟨P, (f, sp) :: l, ks⟩ := by
 refine ⟨fun g sp' hg => ?_, r.key⟩
 rcases List.mem_cons.1 hg with e | e
 ·cases e; exact ⟨h, hb⟩
 ·exact r.fn g sp' e
theorem SpecsOk.consK {P : Program} {f : FuncId} {kf : KeyF} {l : List (Nat × FSpec)} {ks : List (Nat × KeyF)} (h : KeyOk P f kf) (hb : HasBody P f) (r : SpecsOk ⟨P, l, ks⟩) : SpecsOk ⟨P, l, (f, kf) :: ks⟩ := by
 refine ⟨r.fn, fun g k' hg => ?_⟩
 rcases List.mem_cons.1 hg with e | e
 ·cases e; exact ⟨h, hb⟩
 ·exact r.key g k' e
theorem has_body {P : Program} {f : FuncId} {fn : Func} (h : P.funcs[f]? = some fn) (hb : fn.body.isSome = true) (hn : fn.name ≠ "runtime.NumGoroutine") : HasBody P f := ⟨fn, h, hb, hn⟩

end Go.Dn

namespace Go.Dn

end Go.Dn

namespace Go.Dn
open Go.ChangeShapes Go.WideShapes Go.ChangeAt Go.RowKit

def Wf : (t : Ty) → t.den → Prop
 | .int k, n => k.min ≤ (show Int from n) ∧ (show Int from n) ≤ k.max
 | .bool, _ => True
 | .str, s => List.length s ≤ maxLen
 | .unit, _ => True
 | .pair a b, x => Wf a x.1 ∧ Wf b x.2
 | .st t, x => Wf t x
 | .slice t, l => List.length l ≤ maxLen ∧ ∀ x, x ∈ (show List t.den from l) → Wf t x
 | .ptr _, _ => True
 | .clo _ _, _ => True
 | .hnd, _ => True

def Fits (P : Program) : Nat → TypeId → Ty → Bool
 | 0, _, _ => false
 | d + 1, T, t => match P.underlying T, t with
  | some (.int k), .int k' => decide (k = k')
  | some .bool, .bool => true
  | some .string, .str => true
  | some (.slice e), .slice t => Nat.ble 1 t.size && (Nat.beq (P.cellsOf e) t.size && Fits P d e t)
  | some (.struct fs), .st t => Nat.beq (P.cellsOf T) t.size && fitsF (Fits P d) P fs.toList 0 t
  | _, _ => false
where
 fitsF (g : TypeId → Ty → Bool) (P : Program) : List Field → Nat → Ty → Bool
 | [], _, _ => false
 | [f], off, t => Nat.beq f.offset off && (Nat.beq (P.cellsOf f.type) t.size && g f.type t)
 | f :: r, off, .pair a b => Nat.beq f.offset off && (Nat.beq (P.cellsOf f.type) a.size && (g f.type a && fitsF g P r (off + a.size) b))
 | _, _, _ => false

def Gw (w : World) : Gh := ⟨fun b => w.heap[b]?, fun _ => none⟩
theorem agr_Gw (w : World) : Agr (Gw w) w := fun _ _ h => h

theorem cells_block {w : World} {base : Nat} {a : Addr} {n : Nat} {cs : List Value} (hn : 0 < n) (h : w.cells? base a n = some cs) :
  ∃ c T fz, a.spot = none ∧ w.heap[a.block]? = some (.cells c T fz) ∧ a.off + n ≤ c.size ∧ cs = (c.toList.drop a.off).take n := by
 obtain ⟨_, hl, hc⟩ := World.cells?_some h
 have h0 := hc 0 hn
 have hlt : 0 < cs.length := by omega
 rw [List.getElem?_eq_getElem hlt, show a.add 0 = a from rfl] at h0
 unfold World.cell? at h0
 split at h0
 ·rename_i c T fz hb
  split at h0
  ·cases h0
  ·rename_i hs
   have hspot : a.spot = none := by simpa using hs
   have hall : ∀ i, i < n → c[a.off + i]? = cs[i]? := by
    intro i hi
    have := hc i hi
    rw [← this]
    unfold World.cell? Addr.add
    by_cases h : i = 0
    ·subst h; simp [hb, hspot]
    ·simp [h, hb]
   refine ⟨c, T, fz, hspot, hb, ?_, ?_⟩
   ·have h1 := hall (n - 1) (by omega)
    rw [List.getElem?_eq_getElem (show n - 1 < cs.length by omega)] at h1
    have := (Array.getElem?_eq_some_iff.1 h1).1
    omega
   ·apply List.ext_getElem?
    intro i
    rw [List.getElem?_take, List.getElem?_drop]
    by_cases hi : i < n
    ·rw [if_pos hi, ← hall i hi]; simp
    ·rw [if_neg hi, List.getElem?_eq_none (by omega)]
 ·cases h0

section
variable {H : Type} {enc : TypeId × Value → H} {P : Program} {w : World} {base : Nat} {spare : Nat → Bool} {held : Bool}

theorem repL_of {α : Type} {R : α → List Value → Prop} {sz : Nat} {c : List Value} {y : Nat → α} (off : Nat) : ∀ n, off + n * sz ≤ c.length → (∀ i, i < n → R (y i) ((c.drop (off + i * sz)).take sz)) → RepL R ((List.range n).map y) ((c.drop off).take (n * sz))
 | 0, _, _ => by simp [RepL]
 | n + 1, hle, h => by
  rw [List.range_succ, List.map_append, List.map_singleton]
  have e : (c.drop off).take ((n + 1) * sz) = (c.drop off).take (n * sz) ++ (c.drop (off + n * sz)).take sz := by
   rw [Nat.add_mul, Nat.one_mul, List.take_add, List.drop_drop]
  rw [e]
  refine RepL.append (repL_of off n (by rw [Nat.add_mul] at hle; omega) fun i hi => h i (by omega)) ?_
  exact ⟨_, [], by simp, h n (by omega), rfl⟩

theorem open_ty : ∀ (d : Nat) (T : TypeId) (t : Ty) (fuel : Nat) (cs : List Value) (x : DataW H × List MemPlace), Fits P d T t = true → DataW.trod enc P w base spare held fuel T cs = some x →
  ∃ y : t.den, RepC (Gw w) t y cs ∧ Wf t y
 | 0, _, _, _, _, _, hf, _ => by cases hf
 | d + 1, T, t, fuel, cs, x, hf, h => by
  have ih := fun T t fuel cs x => open_ty d T t fuel cs x
  unfold Fits at hf
  split at hf
  ·rename_i k k' hu
   obtain rfl : k = k' := of_decide_eq_true hf
   obtain ⟨n, rfl, _, hw⟩ := DataW.trod_int hu h
   refine ⟨n, rfl, ?_⟩
   simp only [Lit.wf, Bool.and_eq_true, decide_eq_true_eq] at hw
   exact hw
  ·rename_i hu
   obtain ⟨b, rfl, _⟩ := DataW.trod_bool hu h
   exact ⟨b, rfl, trivial⟩
  ·rename_i hu
   obtain ⟨s, rfl, _, hw⟩ := DataW.trod_string hu h
   refine ⟨s.data.toList, ?_, hw⟩
   simp [RepC, bs]
  ·rename_i e t hu
   simp only [Bool.and_eq_true] at hf
   have hsz : 0 < t.size := Nat.le_of_ble_eq_true hf.1
   have hce : P.cellsOf e = t.size := Nat.eq_of_beq_eq_true hf.2.1
   rcases DataW.trod_slice hu h with ⟨rfl, _⟩ | ⟨a, len, cap, elems, rest, n, _, rfl, _, _, hl, hm, hlen, hel, _⟩
   ·exact ⟨[], ⟨_, rfl, none, 0, rfl, Nat.le_refl _, Nat.zero_le _, .inl rfl⟩, ⟨Nat.zero_le _, fun x hx => by cases hx⟩⟩
   ·have hone : ∀ i, i < len → ∃ y : t.den, (∃ cs', w.cells? base (a.add (i * t.size)) t.size = some cs' ∧ RepC (Gw w) t y cs') ∧ Wf t y := by
     intro i hi
     have h1 := hel i hi
     rw [List.getElem?_eq_getElem (by omega), hce] at h1
     obtain ⟨cs', h2, h3⟩ := Option.bind_eq_some_iff.1 h1
     obtain ⟨y, h4, h5⟩ := ih e t n cs' _ hf.2.2 h3
     exact ⟨y, ⟨cs', h2, h4⟩, h5⟩
    by_cases h0 : len = 0
    ·subst h0
     exact ⟨[], ⟨_, rfl, some a, cap, rfl, Nat.zero_le _, hm, .inl rfl⟩, ⟨Nat.zero_le _, fun x hx => by cases hx⟩⟩
    ·obtain ⟨y0, _, _⟩ := hone 0 (by omega)
     have : ∃ y : Nat → t.den, ∀ i, i < len → (∃ cs', w.cells? base (a.add (i * t.size)) t.size = some cs' ∧ RepC (Gw w) t (y i) cs') ∧ Wf t (y i) := by
      classical
      refine ⟨fun i => if hi : i < len then Classical.choose (hone i hi) else y0, fun i hi => ?_⟩
      simp only [dif_pos hi]
      exact Classical.choose_spec (hone i hi)
     obtain ⟨y, hy⟩ := this
     obtain ⟨⟨cs0, hc0, _⟩, _⟩ := hy 0 (by omega)
     rw [Nat.zero_mul, show a.add 0 = a from rfl] at hc0
     obtain ⟨c, T', fz, hspot, hb, _, _⟩ := cells_block hsz hc0
     have hat : ∀ i, i < len → a.off + i * t.size + t.size ≤ c.size ∧ RepC (Gw w) t (y i) ((c.toList.drop (a.off + i * t.size)).take t.size) := by
      intro i hi
      obtain ⟨⟨cs', h1, h2⟩, _⟩ := hy i hi
      obtain ⟨c', T2, fz2, h3, h4, h5, h6⟩ := cells_block hsz h1
      have hblk : (a.add (i * t.size)).block = a.block := by unfold Addr.add; split <;> rfl
      have hoff : (a.add (i * t.size)).off = a.off + i * t.size := by
       unfold Addr.add; split
       ·rename_i hz; rw [hz]; rfl
       ·rfl
      rw [hblk, hb] at h4
      cases h4
      rw [hoff] at h5 h6
      exact ⟨h5, h6 ▸ h2⟩
     have hend : a.off + len * t.size ≤ c.size := by
      have := (hat (len - 1) (by omega)).1
      have e : len * t.size = (len - 1) * t.size + t.size := by
       conv => lhs; rw [show len = len - 1 + 1 by omega]
       rw [Nat.add_mul, Nat.one_mul]
      omega
     refine ⟨(List.range len).map y, ⟨_, rfl, some a, cap, by simp, by simpa using hl, hm, .inr ⟨a.block, a.off, c, T', fz, ?_, hb, by simpa using hend, ?_⟩⟩, ⟨by simp only [List.length_map, List.length_range]; omega, fun x hx => ?_⟩⟩
     ·congr 1; cases a; cases hspot; rfl
     ·have := repL_of (R := RepC (Gw w) t) (y := y) (c := c.toList) (sz := t.size) a.off len (by simpa using hend) fun i hi => (hat i hi).2
      simpa using this
     ·obtain ⟨i, hi, rfl⟩ := List.mem_map.1 hx
      exact (hy i (by simpa using hi)).2
  ·rename_i fs t hu
   simp only [Bool.and_eq_true] at hf
   obtain ⟨xs, n, _, _, hlen, hxl, hx⟩ := DataW.trod_struct hu h
   have hct : P.cellsOf T = t.size := Nat.eq_of_beq_eq_true hf.1
   have key : ∀ (l : List Field) (k off : Nat) (t : Ty), fs.toList.drop k = l → Fits.fitsF (Fits P d) P l off t = true → off + t.size ≤ cs.length →
     ∃ y : t.den, RepC (Gw w) t y ((cs.drop off).take t.size) ∧ Wf t y := by
    intro l
    induction l with
    | nil => intro k off t _ h2; cases h2
    | cons f r ihl =>
     intro k off t hk h2 hle
     have hfk : fs[k]? = some f := by
      have := congrArg (·[0]?) hk
      simpa [List.getElem?_drop] using this
     have hxk := hx k f hfk
     have hkl : k < xs.length := by rw [hxl]; exact (Array.getElem?_eq_some_iff.1 hfk).1
     rw [List.getElem?_eq_getElem hkl] at hxk
     have hdr : fs.toList.drop (k + 1) = r := by
      have := congrArg List.tail hk
      simpa [List.tail_drop] using this
     cases r with
     | nil =>
      simp only [Fits.fitsF, Bool.and_eq_true] at h2
      obtain ⟨h3, h4, h5⟩ := h2
      rw [Nat.eq_of_beq_eq_true h3, Nat.eq_of_beq_eq_true h4] at hxk
      exact ih f.type t n _ _ h5 hxk
     | cons f' r' =>
      obtain ⟨a, b, rfl⟩ : ∃ a b, t = .pair a b := by
       cases t with
       | pair a b => exact ⟨a, b, rfl⟩
       | _ => simp [Fits.fitsF] at h2
      simp only [Fits.fitsF, Bool.and_eq_true] at h2
      obtain ⟨h3, h4, h5, h6⟩ := h2
      rw [Nat.eq_of_beq_eq_true h3, Nat.eq_of_beq_eq_true h4] at hxk
      obtain ⟨y1, g1, g2⟩ := ih f.type a n _ _ h5 hxk
      simp only [Ty.size] at hle
      obtain ⟨y2, g3, g4⟩ := ihl (k + 1) (off + a.size) b hdr h6 (by omega)
      refine ⟨(y1, y2), ⟨_, _, ?_, g1, g3⟩, ⟨g2, g4⟩⟩
      simp only [Ty.size]
      rw [List.take_add, List.drop_drop]
   obtain ⟨y, h1, h2⟩ := key fs.toList 0 0 t rfl hf.2 (by omega)
   refine ⟨y, ?_, h2⟩
   rw [List.drop_zero, List.take_of_length_le (by omega)] at h1
   exact h1
  ·cases hf

theorem open_val {r : Reach} {b0 : Nat} {d : Nat} {T : TypeId} {t : Ty} {v : Value} {dd : DataW H} {ps : List MemPlace} (hf : Fits P d T t = true) (hval : Value.okWide P w r b0 T v) (h : DataW.Trod enc P w base spare held T v dd ps) :
  ∃ y : t.den, RepV (Gw w) t y v ∧ Wf t y := by
 obtain ⟨fuel, h⟩ := h
 obtain ⟨y, h1, h2⟩ := open_ty d T t fuel _ _ hf h
 refine ⟨y, ?_, h2⟩
 cases d with
 | zero => cases hf
 | succ d =>
  unfold Fits at hf
  split at hf
  ·rename_i hu; obtain ⟨n, rfl⟩ := okWide_int hu hval; exact h1
  ·rename_i hu; obtain ⟨n, rfl⟩ := okWide_bool hu hval; exact h1
  ·rename_i hu; obtain ⟨n, rfl⟩ := okWide_string hu hval; exact h1
  ·rename_i hu; obtain ⟨a, len, cap, rfl⟩ := okWide_slice hu hval; exact h1
  ·rename_i hu; obtain ⟨c, rfl, _⟩ := okWide_struct hu hval; exact ⟨c.toList, by simp, h1⟩
  ·cases hf
end

def pms : List Ty → List PM
 | [] => []
 | t :: r => .val t :: pms r
def WfIn : (ts : List Ty) → inDen (pms ts) → Prop
 | [], _ => True
 | t :: r, x => Wf t x.1 ∧ WfIn r x.2
def fitsAll (P : Program) : List TypeId → List Ty → Bool
 | [], [] => true
 | T :: r, t :: q => Fits P 9 T t && fitsAll P r q
 | _, _ => false

theorem open_args {H : Type} {enc : TypeId × Value → H} {P : Program} {w : World} {base : Nat} {spare : Nat → Bool} {held : Bool} {r : Reach} {b0 : Nat} : ∀ {Ts : List TypeId} {ts : List Ty} {vs : List Value} {ds : List (DataW H)} {ps : List MemPlace} {i : Nat}, fitsAll P Ts ts = true →
  (∀ (j : Nat) t v, Ts[j]? = some t → vs[j]? = some v → Value.okWide P w r b0 t v) → DataW.TrodAll enc P w base spare held Ts vs ds ps →
  ∃ x, ArgsOk (Gw w) w (fun _ => none) i (pms ts) x vs ∧ WfIn ts x
 | [], [], [], [], _, _, _, _, _ => ⟨(), rfl, trivial⟩
 | T :: Ts, t :: ts, v :: vs, d :: ds, ps, i, hf, hv, ⟨p, q, h1, h2, _⟩ => by
  simp only [fitsAll, Bool.and_eq_true] at hf
  obtain ⟨y, h3, h4⟩ := open_val hf.1 (hv 0 T v rfl rfl) h1
  obtain ⟨x, h5, h6⟩ := open_args (i := i + 1) hf.2 (fun j t v ht hv' => hv (j + 1) t v ht hv') h2
  exact ⟨(y, x), ⟨v, vs, fun _ => rfl, fun h => absurd h (by simp [PM.arg]), h3, h5⟩, ⟨h4, h6⟩⟩

theorem law_calls {P : Program} {f : FuncId} {fn : Func} {ts : List Ty} {m : inDen (pms ts) → Option (outDen (pms ts) [.val .bool])} (ok : FunOk P f ⟨pms ts, [.val .bool], m⟩)
  (hm : ∀ x, WfIn ts x → ∃ y, m x = some (true, y)) (hfit : fitsAll P fn.params.toList ts = true) {tb : TypeId} (hres : fn.resultTypes = #[tb]) (htb : P.underlying tb = some .bool)
  (kids : Kids P (· < P.types.size)) (full : ∀ t e, t < P.types.size → P.underlying t = some (.slice e) → 0 < P.cellsOf e) (hlt : ∀ t ∈ fn.params.toList, t < P.types.size)
  {H : Type} {enc : TypeId × Value → H} {s : ChangeSpec} (hvars : s.vars = []) {W : World} (hT : TabOk P (Gw W)) {base : Nat} {args : Array Value} {ds gs : List (DataW H)} {before : List MemPlace}
  (hspec : s.fn H (ds ++ []) = { results := [.lit (.bool true)], args := ds })
  (hval : ∀ (j : Nat) t v, fn.params[j]? = some t → args[j]? = some v → Value.okWide P W .any base t v)
  (hW : DataW.Whole enc P fn.params.toList s.vars false W args.toList ds gs before) :
  Calls P f args W fun e W' => ∃ v, e = .returned v ∧ s.post enc P fn false true false false W args v W' := by
 have hW' := hW
 obtain ⟨p, q, hA, hV, hpq, hfz, hnd⟩ := hW
 rw [hvars] at hV
 have hg : gs = [] ∧ q = [] := by
  cases gs with
  | nil => exact ⟨rfl, hV⟩
  | cons g gs => exact absurd hV (by simp [DataW.TrodVars])
 obtain ⟨rfl, rfl⟩ := hg
 rw [List.append_nil] at hpq
 subst hpq
 obtain ⟨x, hx, hwf⟩ := open_args (i := 0) hfit (fun j t v ht hv => hval j t v (by simpa using ht) (by simpa using hv)) hA
 obtain ⟨y, hy⟩ := hm x hwf
 refine (ok (Gw W) W (fun _ => none) args.toList x (true, y) (agr_Gw W) (fun _ _ h => by cases h) hx hy hT).mono ?_
 rintro e W' ⟨G', ow', vs, hgv⟩
 have hold : ∀ b, b < W.heap.size → W'.heap[b]? = W.heap[b]? := fun b hb => (hgv.old b hb rfl).1
 have hplt := hW'.lt
 obtain ⟨v, us, rfl, hv, hus, _⟩ := hgv.out
 subst hus
 have hv' : v = .bool true := by simpa [ResOk, RepV, RepC] using hv
 subst hv'
 refine ⟨.bool true, hgv.ret, ds, [], before, [], before, [], hW', ?_, ?_, ?_, ?_, fun h => by cases h⟩
 ·rw [hspec, hres]
  exact trodAll_mk1 (shut_bool htb true)
 ·rw [hspec]
  have hsame : ∀ z, z ∈ before → W.sameAt W' z := by
   intro z hz
   have := hplt z hz
   cases z with
   | cell b off => simp only [World.sameAt, World.cell?]; rw [hold b this]
   | map b => exact hold b this
  have hre := DataW.TrodAll.respare (spare' := fun b => decide (b < W.heap.size)) kids full hlt hA (fun z hz => by simpa using hplt z hz)
  have hcar : ∀ {Ts : List TypeId} {vs : List Value} {ds : List (DataW H)} {ps : List MemPlace}, DataW.TrodAll enc P W 0 (fun b => decide (b < W.heap.size)) true Ts vs ds ps → (∀ z, z ∈ ps → W.sameAt W' z) → DataW.TrodAll enc P W' 0 (fun b => decide (b < W.heap.size)) true Ts vs ds ps := by
   intro Ts
   induction Ts with
   | nil =>
    intro vs ds ps h _
    cases vs <;> cases ds <;> first | exact h | exact absurd h (by simp [DataW.TrodAll])
   | cons T Ts ih =>
    intro vs ds ps h hs
    cases vs with
    | nil => cases ds <;> exact absurd h (by simp [DataW.TrodAll])
    | cons v vs => cases ds with
    | nil => exact absurd h (by simp [DataW.TrodAll])
    | cons d ds =>
    obtain ⟨p, q, ⟨n, h1⟩, h2, rfl⟩ := h
    exact ⟨p, q, ⟨n, DataW.trod_carry n _ _ _ h1 fun z hz => hs z (List.mem_append_left _ hz)⟩, ih h2 (fun z hz => hs z (List.mem_append_right _ hz)), rfl⟩
  exact hcar hre hsame
 ·rw [hspec, hvars]; rfl
 ·refine ⟨hgv.os, hgv.output, fun i hi => ?_⟩
  rw [hold i hi]
  cases hh : W.heap[i]? with
  | none => trivial
  | some o => cases o <;> simp [World.keptBut]

end Go.Dn

namespace Go.Dn

theorem trodAll_len {H : Type} {enc : TypeId × Value → H} {P : Program} {w : World} {base : Nat} {spare : Nat → Bool} {held : Bool} : ∀ {Ts : List TypeId} {vs : List Value} {ds : List (DataW H)} {ps : List MemPlace}, DataW.TrodAll enc P w base spare held Ts vs ds ps → ds.length = Ts.length
 | [], [], [], _, _ => rfl
 | _ :: _, _ :: _, _ :: _, _, ⟨_, _, _, h, _⟩ => by rw [List.length_cons, List.length_cons, trodAll_len h]

def flatD : Nat → DataW Unit → List Value
 | d + 1, .agg l => l.flatMap (flatD d)
 | _, .lit (.int k n) => [.int k n]
 | _, .lit (.bool b) => [.bool b]
 | _, _ => []
def layAll (P : Program) (l : List (String × DataW Unit)) (w : World) : World :=
 l.foldl (fun w p => match P.globalNamed p.1 with
  | some g => { w with heap := w.heap.modify g fun
   | .cells _ t fr => .cells (flatD 9 p.2).toArray t fr
   | o => o }
  | none => w) w

end Go.Dn

namespace Go.Dn
open Go.Proofs Go.Shelf

section
variable {P : Program} {G : Gh} {w w' : World} {ow : Nat → Option Nat} {e : TypeId}

end
end Go.Dn

namespace Go.Dn

end Go.Dn

namespace Go.Dn

def litV : (t : Ty) → t.den → Value
 | .int k, n => .int k n
 | .bool, b => .bool b
 | .str, s => .string (bs s)
 | _, _ => undef
def isLit : Ty → Bool
 | .int _ => true
 | .bool => true
 | .str => true
 | _ => false
theorem litV_of {G : Gh} {t : Ty} (ht : isLit t = true) {x : t.den} {v : Value} (h : RepV G t x v) : v = litV t x := by
 cases t <;> simp [isLit] at ht <;> simpa [RepV, RepC, litV] using h

theorem fun_ok_lit2 {P : Program} {f : FuncId} {a a' t : Ty} {m : inDen [.val a, .val a'] → Option (outDen [.val a, .val a'] [.val t])} (ha : isLit a = true) (ha' : isLit a' = true)
  (h : ∀ (s : a.den) (c : a'.den) (r : t.den) (w : World), m (s, c, ()) = some (r, ()) → ∃ v, (∀ G : Gh, RepV G t r v) ∧ Calls P f #[litV a s, litV a' c] w fun e w' => e = .returned v ∧ RowKit.Below w.heap.size w w') : FunOk P f ⟨[.val a, .val a'], [.val t], m⟩ := by
 intro G w ow args x y hG how hargs hm _
 obtain ⟨s, c, u⟩ := x
 obtain ⟨r, u'⟩ := y
 obtain ⟨v, us, h1, _, hv, v', us', h2, _, hv', h3⟩ := hargs
 have e1 := h1 rfl
 have e2 := h2 rfl
 have e3 : us' = [] := h3
 have e4 : v = litV a s := litV_of ha hv
 have e5 : v' = litV a' c := litV_of ha' hv'
 subst e1; subst e2; subst e3; subst e4; subst e5
 obtain ⟨z, hz, hc⟩ := h s c r w hm
 refine hc.mono ?_
 rintro e w' ⟨he, hb⟩
 refine ⟨G, fun _ => none, [z], ?_⟩
 exact {
  ret := he
  le := Gh.le_refl G
  agr := fun b o hbo => by
   have hw := hG b o hbo
   have hlt : b < w.heap.size := by
    rcases Nat.lt_or_ge b w.heap.size with h | h
    ·exact h
    ·rw [Array.getElem?_eq_none h] at hw; cases hw
   rw [hb.block b hlt]; exact hw
  size := hb.size
  os := hb.os
  output := hb.output
  old := fun b hlt _ => ⟨hb.block b hlt, rfl⟩
  own := fun b i hbi => by cases hbi
  out := ⟨_, _, rfl, hz G, rfl, trivial⟩
  hnd := fun _ => rfl }

end Go.Dn

namespace Go.Dn
open Go.Proofs Go.Shelf

section
variable {P : Program} {G : Gh} {w w' : World} {ow : Nat → Option Nat} {e : TypeId} {t : Ty}

end
end Go.Dn

namespace Go.Dn

end Go.Dn

namespace Go.Dn
open Go.Proofs Go.Shelf Go.Sort Go.RowKit Go.Lib

/-! ### rows in cells -/

theorem flat_get {α : Type} [Inhabited α] {enc : α → List Value} {k : Nat} (hk : ∀ x, (enc x).length = k) : ∀ (l : List α) (j : Nat), j < l.length * k → (l.flatMap enc)[j]? = some ((enc l[j / k]!)[j % k]!)
 | [], j, h => by simp at h
 | x :: l, j, h => by
  have hk0 : 0 < k := by
   rcases Nat.eq_zero_or_pos k with h0 | h0
   ·subst h0; simp at h
   ·exact h0
  rw [List.flatMap_cons]
  by_cases hj : j < k
  ·rw [List.getElem?_append_left (by rw [hk]; exact hj), Nat.div_eq_of_lt hj, Nat.mod_eq_of_lt hj]
   have h1 : j < (enc x).length := by rw [hk]; exact hj
   simp [h1]
  ·have h1 : k ≤ j := by omega
   rw [List.getElem?_append_right (by rw [hk]; exact h1), hk]
   have h2 : j - k < l.length * k := by
    rw [List.length_cons, Nat.add_mul, Nat.one_mul] at h
    omega
   rw [flat_get hk l (j - k) h2]
   have e1 : j / k = (j - k) / k + 1 := by
    conv => lhs; rw [show j = j - k + k from by omega]
    rw [Nat.add_div_right _ hk0]
   have e2 : j % k = (j - k) % k := by
    conv => lhs; rw [show j = j - k + k from by omega]
    rw [Nat.add_mod_right]
   rw [e1, e2]
   simp

section
variable {P : Program}

end
end Go.Dn

namespace Go.Dn
open Go.Lib Go.Proofs

theorem tab_pow {P : Program} {W : World} {rest : List (String × DataW Unit)} {g : Nat} {t e : TypeId} (hg : P.globalNamed "internal/strconv.uint64pow10" = some g) (hty : (P.globals[g]?).map (·.type) = some t)
  (ht : P.underlying t = some (.array 20 e)) (he : P.underlying e = some (.int .u64)) (hce : P.cellsOf e = 1) (hct : P.cellsOf t = 20) (h : laidMet P (("internal/strconv.uint64pow10", tabData .u64 pow10s) :: rest) W) :
  ∀ g, P.globalNamed "internal/strconv.uint64pow10" = some g → ∃ T fz, Gw W g = some (.cells (pow10s.map fun z => Value.int .u64 z).toArray T fz) := by
 intro g' hg'
 have := tabIs_of_head hg hty ht he hce hct h
 unfold TabIs World.var? at this
 rw [hg', Option.bind_some] at this
 show ∃ T fz, W.heap[g']? = _
 split at this
 ·rename_i cs T fz hh
  cases this
  exact ⟨T, fz, hh⟩
 ·cases this

theorem tab_max {P : Program} {W : World} {g : Nat} {t : TypeId} {zero : Array Value} (h : W.ShapedOpen P) (hg : P.globalNamed "internal/bytealg.MaxLen" = some g) (hlt : g < P.globals.size)
  (h0 : ((begin P (fun _ _ => 0) default).world.heap[g]?).bind Obj.row? = some (zero, t)) (hz : zero.size = 1)
  (hb : P.buildable t = true) (hc : P.cellTypes P.depth t = some [t]) (hu : P.underlying t = some (.int .i64)) :
  ∀ g, P.globalNamed "internal/bytealg.MaxLen" = some g → ∃ n T fz, Gw W g = some (.cells #[Value.int .i64 n] T fz) := by
 intro g' hg'
 obtain rfl : g = g' := Option.some.inj (hg.symm.trans hg')
 obtain ⟨m, hm⟩ := cell_of_shapedOpen_int h hlt h0 hz hb hc hu
 obtain ⟨cs, hh, hs, _⟩ := h.1 g zero t hlt h0
 have h1 : cs.size = 1 := by omega
 refine ⟨m, t, (0, 0), ?_⟩
 show W.heap[g]? = _
 rw [hh]
 have : cs = #[cs[0]] := by
  apply Array.ext
  ·simpa using h1
  ·intro i h2 h3
   have : i = 0 := by omega
   subst this
   rfl
 have hcell : W.cell? ⟨g, 0, none⟩ = some cs[0] := by simp [World.cell?, hh, h1]
 rw [hm] at hcell
 rw [this, ← Option.some.inj hcell]

def layIf (P : Program) (u e : TypeId) (l : List (String × DataW Unit)) (w : World) : World :=
 l.foldl (fun w p => match P.globalNamed p.1, p.2 with
  | some g, .iface _ (.ptr (.agg [.lit (.string s)])) => { w with heap := (w.heap.push (.cells #[.string ⟨s.toArray⟩] e (0, 0))).modify g fun
   | .cells _ t fr => .cells #[.iface u (.pointer (some ⟨w.heap.size, 0, none⟩))] t fr
   | o => o }
  | _, _ => w) w
def isIf : DataW Unit → Bool
 | .iface _ _ => true
 | _ => false

end Go.Dn

namespace Go.Dn
open Go.Proofs Go.Shelf Go.RowKit Go.Lib

structure InsLays (P : Program) (ρ : Ren) (k bytes : Nat) (z : Value) : Prop where
 mixed : P.follows .mixedOrders = true
 f22 : Bears P (ρ.f 22) (Body2.n22 ρ)
 f29 : ∃ fn, P.funcs[ρ.f 29]? = some fn ∧ (fn.name == "runtime.NumGoroutine") = false ∧ fn.body.isNone = true ∧ Extern.findNext fn = none ∧ Extern.find fn = some (Extern.SlicesOverlaps.overlaps #[(ρ.t 24), (ρ.t 24)] #[(ρ.t 4)])
 t0 : P.underlying (ρ.t 0) = some (TypeDesc.tuple #[])
 a0 : ∀ w, (isAgg (ρ.t 0)).run P w = .ok false w
 z0 : ∀ w, (Go.sizeOf (ρ.t 0)).run P w = .ok 1 w
 v0 : ∀ w, (zeroValue (ρ.t 0)).run P w = .ok (Value.tuple #[]) w
 t3 : P.underlying (ρ.t 3) = some (TypeDesc.int IntKind.i64)
 a3 : ∀ w, (isAgg (ρ.t 3)).run P w = .ok false w
 z3 : ∀ w, (Go.sizeOf (ρ.t 3)).run P w = .ok 1 w
 v3 : ∀ w, (zeroValue (ρ.t 3)).run P w = .ok (Value.int IntKind.i64 0) w
 t4 : P.underlying (ρ.t 4) = some (TypeDesc.bool)
 a4 : ∀ w, (isAgg (ρ.t 4)).run P w = .ok false w
 z4 : ∀ w, (Go.sizeOf (ρ.t 4)).run P w = .ok 1 w
 v4 : ∀ w, (zeroValue (ρ.t 4)).run P w = .ok (Value.bool false) w
 z9 : ∀ w, (Go.sizeOf (ρ.t 9)).run P w = .ok k w
 t24 : P.underlying (ρ.t 24) = some (TypeDesc.slice (ρ.t 9))
 a24 : ∀ w, (isAgg (ρ.t 24)).run P w = .ok false w
 z24 : ∀ w, (Go.sizeOf (ρ.t 24)).run P w = .ok 1 w
 v24 : ∀ w, (zeroValue (ρ.t 24)).run P w = .ok (Value.slice none 0 0) w
 i9 : (P.info? (ρ.t 9)).map (fun i => (i.zero, i.size, i.bytes)) = some (some z, k, bytes)
 k0 : 0 < k
 zc : z.cells.size = k

variable {P : Program} {ρ : Ren} {k bytes : Nat} {z : Value}

end Go.Dn

namespace Go.Dn

end Go.Dn

namespace Go.Dn
open Go.Proofs Go.Shelf Go.RowKit Go.Lib

section
variable {P : Program} {G : Gh} {w w' : World} {ow : Nat → Option Nat} {e : TypeId} {t : Ty}

end
end Go.Dn

namespace Go.Dn

def sortI (l : List Int) : Option (List Int × Unit) := bif decide (l.length < 4294967296) then some (l.mergeSort fun x y => decide (x ≤ y), ()) else none

end Go.Dn

namespace Go.Dn
open Go.Proofs Go.Shelf Go.Sort

theorem repL_intI {G : Gh} : ∀ {l : List Int} {cs : List Value}, RepL (RepC G (.int .i64)) l cs ↔ cs = l.map encZ
 | [], cs => by simp [RepL]
 | x :: l, cs => by
  simp only [RepL, List.map_cons]
  constructor
  ·rintro ⟨c, r, e, h1, h2⟩
   have h1' : c = [.int .i64 x] := h1
   rw [repL_intI] at h2
   subst h1'; subst h2; exact e
  ·rintro rfl
   exact ⟨[.int .i64 x], l.map encZ, rfl, rfl, repL_intI.2 rfl⟩

section
variable {P : Program}

theorem sort_coreI {ρ : Ren} (L : SlLaysM.n5 P ρ) (e0 : TypeId) {G : Gh} {w : World} {ow : Nat → Option Nat} {l r : List Int} {s : Value} (hG : Agr G w) (how : ∀ b i, ow b = some i → G b = none ∧ b < w.heap.size)
  (hown : w.ownsRow 0 (e0) 1 s l.length (l.map encZ)) (hobl : ∀ b, s.ownBlock = some b → ow b = some (64 * 0)) (hm : sortI l = some (r, ())) :
  Calls P (ρ.f 5) #[s] w fun e w' => ∃ G' ow' vs, Gives G w ow ⟨[.mrow (e0) (.int .i64)], [], fun x => sortI x.1⟩ [s] (r, ()) e w' G' ow' vs := by
 unfold sortI at hm
 cases hb0 : decide (l.length < 4294967296) with
 | false => rw [hb0] at hm; cases hm
 | true =>
  rw [hb0] at hm
  simp only [cond_true, Option.some.injEq, Prod.mk.injEq, and_true] at hm
  have hlt : l.length < 4294967296 := of_decide_eq_true hb0
  rcases hown.2 with ⟨rfl, hl0⟩ | ⟨g, cap, cur, rfl, hbase, hb, h1, h2, h3, h4⟩
  ·have hl : l = [] := List.eq_nil_of_length_eq_zero hl0
   have hr : r = [] := by rw [← hm, hl]; simp
   refine (AnyM.slices_Sort_int_none L none 0 w).mono ?_
   rintro e w' ⟨he, rfl⟩
   refine ⟨G, fun _ => none, [], ?_⟩
   exact {
    ret := he
    le := Gh.le_refl G
    agr := hG
    size := Nat.le_refl _
    os := rfl
    output := rfl
    old := fun b _ _ => ⟨rfl, rfl⟩
    own := fun b i hbi => by cases hbi
    out := ⟨rfl, ⟨_, rfl, ⟨[], ⟨by rw [hr]; rfl, .inl ⟨rfl, by rw [hr]; rfl⟩⟩, by rw [hr]; rfl⟩, fun b hb => by cases hb⟩, trivial⟩
    hnd := fun _ => rfl }
  ·have h4' : cur.toList.take l.length = List.map encZ l := by simpa using h4
   have hgs : g < w.heap.size := (Array.getElem?_eq_some_iff.1 hb).1
   have hgOw : ow g = some (64 * 0) := hobl g rfl
   have hgG := (how g _ hgOw).1
   refine (AnyM.slices_Sort_int L g 0 cap l w (holds_of_block_i hb h4') hgs (by omega)).mono ?_
   rintro e w' ⟨he, n, os, hw⟩
   rw [hm] at hw
   have hrl : r.length = l.length := by rw [← hm, List.length_mergeSort]
   have hgr := grownBy_sorted_i (w := w) (g := g) (n := n) (os := os) r.toArray
   rw [← hw] at hgr
   obtain ⟨q1, q2, q3, q4, q5⟩ := hgr
   have hrow := ownsRow_sorted_i (base := 0) (n := n) (os := os) (ss := l) (ts := r) hrl (Nat.zero_le _) hb h1 h2 (by simpa using h3)
   rw [← hw] at hrow
   refine ⟨G, fun b => if b = g then some (64 * 0) else none, [], ?_⟩
   exact {
    ret := he
    le := Gh.le_refl G
    agr := fun b o hbo => by
     have hwb := hG b o hbo
     have hne : b ≠ g := fun e => by rw [e, hgG] at hbo; cases hbo
     rw [q5 b (heap_lt hwb) (fun e => hne (Option.some.inj e))]; exact hwb
    size := q4
    os := by rw [hw]; rfl
    output := by rw [hw]; rfl
    old := fun b hbs hob => by
     have hne : b ≠ g := fun e => by rw [e, hgOw] at hob; cases hob
     exact ⟨q5 b hbs (fun e => hne (Option.some.inj e)), rfl⟩
    own := fun b i hbi => by
     by_cases e : b = g
     ·subst e; exact ⟨hgG, by omega, .inr (by rw [hgOw]; simp)⟩
     ·simp only [e, if_false] at hbi; cases hbi
    out := ⟨rfl, ⟨_, rfl, ⟨List.map encZ r, by show w'.ownsRow 0 (e0) 1 (.slice (some ⟨g, 0, none⟩) l.length cap) r.length (List.map encZ r); rw [hrl]; exact hrow, repL_intI.2 rfl⟩, fun b hbv => by
     have : some g = some b := hbv
     cases this
     show (if g = g then some (64 * 0) else none) = _
     simp⟩, trivial⟩
    hnd := fun _ => rfl }

theorem sort_int_ok {ρ : Ren} (L : SlLaysM.n5 P ρ) (e0 : TypeId) : FunOk P (ρ.f 5) ⟨[.mrow (e0) (.int .i64)], [], fun x => sortI x.1⟩ := by
 intro G w ow args x y hG how ha hm _
 obtain ⟨l, u⟩ := x
 obtain ⟨r, u'⟩ := y
 obtain ⟨s, us, a1, _, ⟨⟨xs, hown, hrep⟩, hobl⟩, a4⟩ := ha
 have e1 := a1 rfl
 have e4 : us = [] := a4
 subst e1; subst e4
 have e6 : xs = List.map encZ (l : List Int) := (repL_intI (G := G)).1 hrep
 subst e6
 exact sort_coreI (l := l) (r := r) L e0 hG how hown hobl hm

end

end Go.Dn
