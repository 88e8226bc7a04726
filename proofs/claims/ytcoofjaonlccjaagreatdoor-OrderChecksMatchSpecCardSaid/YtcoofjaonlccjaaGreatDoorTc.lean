/-
 The executor, its third part: calls, regions and orders are sound. No condition.
-/
import Derived.Test.YtcoofjaonlccjaaGreatDoorTb
import Derived.LoopN
set_option linter.all false
namespace Go.Dn
variable {β : Type} {X : Cx} {o : Oper} {S : St} {r : β} {P0 : Program} {C : Fr P0} {G : Gh} {ρ : Env} {w : World}

theorem Ownr.beq_eq {a b : Ownr} : Ownr.beq a b = true ↔ a = b := by
 cases a <;> cases b <;> simp [Ownr.beq]

theorem lookO_cons (l : List (Ownr × Nat)) (o x : Ownr) (n : Nat) : lookO ((o, n) :: l) x = if o = x then some n else lookO l x := by
 simp only [lookO]
 by_cases h : o = x
 ·subst h; simp [Ownr.beq_eq.2 rfl]
 ·have : Ownr.beq o x = false := by
   cases hb : Ownr.beq o x with
   | false => rfl
   | true => exact absurd (Ownr.beq_eq.1 hb) h
  simp [this, h]

theorem lookO_mem {l : List (Ownr × Nat)} {o : Ownr} {n : Nat} (h : lookO l o = some n) : (o, n) ∈ l := by
 induction l with
 | nil => simp [lookO] at h
 | cons p r ih =>
  obtain ⟨o', n'⟩ := p
  rw [lookO_cons] at h
  split at h
  ·rename_i e; cases h; subst e; simp
  ·exact List.mem_cons_of_mem _ (ih h)
theorem lookO_some {l : List (Ownr × Nat)} {o : Ownr} {n : Nat} (h : (o, n) ∈ l) : (lookO l o).isSome = true := by
 induction l with
 | nil => simp at h
 | cons p r ih =>
  obtain ⟨o', n'⟩ := p
  rw [lookO_cons]
  split
  ·rfl
  ·rename_i hne
   rcases List.mem_cons.1 h with h | h
   ·cases h; exact absurd rfl hne
   ·exact ih h
theorem lookO_of_mem {l : List (Ownr × Nat)} {o : Ownr} {n : Nat} (hd : dupO l = false) (h : (o, n) ∈ l) : lookO l o = some n := by
 induction l with
 | nil => simp at h
 | cons p r ih =>
  obtain ⟨o', n'⟩ := p
  simp only [dupO, Bool.or_eq_false_iff] at hd
  rw [lookO_cons]
  rcases List.mem_cons.1 h with h | h
  ·cases h; simp
  ·split
   ·rename_i e
    subst e
    have := lookO_some h
    rw [hd.1] at this; cases this
   ·exact ih hd.2 h

theorem dup_cons {x : Nat} {l : List Nat} (h : dup (x :: l) = false) : x ∉ l ∧ dup l = false := by
 simp only [dup, Bool.or_eq_false_iff, List.any_eq_false] at h
 refine ⟨fun hm => ?_, h.2⟩
 have := h.1 x hm
 simp at this

theorem code_unique {l : List (Ownr × Nat)} {o o' : Ownr} {n : Nat} (hd : dup (l.map (·.2)) = false) (h : (o, n) ∈ l) (h' : (o', n) ∈ l) : o = o' := by
 induction l with
 | nil => simp at h
 | cons p r ih =>
  rw [List.map_cons] at hd
  obtain ⟨h1, h2⟩ := dup_cons hd
  rcases List.mem_cons.1 h with g | g <;> rcases List.mem_cons.1 h' with g' | g'
  ·rw [← g] at g'; cases g'; rfl
  ·rw [← g] at h1; exact absurd (List.mem_map.2 ⟨(o', n), g', rfl⟩) h1
  ·rw [← g'] at h1; exact absurd (List.mem_map.2 ⟨(o, n), g, rfl⟩) h1
  ·exact ih h2 g g'

theorem packHd_rest {α : Type} {f : CV → Option α} {cs r : List CV} {x : α} (h : packHd f cs = some (x, r)) : r = cs.drop 1 := by
 cases cs with
 | nil => cases h
 | cons c q =>
  simp only [packHd] at h
  split at h
  ·cases h; rfl
  ·cases h
theorem packB_rest {S : St} {fb : List Nat} : ∀ (t : Ty) {cs r : List CV} {x : t.den}, packB S fb t cs = some (x, r) → r = cs.drop t.size
 | .int _, _, _, _, h => packHd_rest h
 | .bool, _, _, _, h => packHd_rest h
 | .str, _, _, _, h => packHd_rest h
 | .unit, _, _, _, h => by simp only [packB] at h; cases h; rfl
 | .pair a b, cs, r, x, h => by
  simp only [packB] at h
  split at h
  ·rename_i y q h1
   split at h
   ·rename_i z q' h2
    cases h
    rw [packB_rest b h2, packB_rest a h1, List.drop_drop]; rfl
   ·cases h
  ·cases h
 | .st t, _, _, _, h => packB_rest t h
 | .slice _, _, _, _, h => packHd_rest h
 | .ptr _, _, _, _, h => packHd_rest h
 | .clo _ _, _, _, _, h => packHd_rest h
 | .hnd, _, _, _, h => packHd_rest h

def owOf (ρ : Env) (ow : List (Ownr × Nat)) (b : Nat) : Option Nat := (ρ.own b).bind (lookO ow)

section
variable {V : St} {G2 : Gh} {ow : List (Ownr × Nat)} (hM : Mem C G ρ V w) (hle : G.le G2) (hh : G2.hnd = G.hnd)
include hM hle

theorem packRowC_ok {e : TypeId} {t : Ty} {c : CV} {l : List t.den} {v : Value} {n : Nat} (h : packRowC V e t c = some l) (hv : CVDen G ρ c v) (ho : ∀ p, p ∈ ownsC n c → lookO ow p.1 = some p.2) :
  RowAt G2 w e t l v ∧ ∀ b, v.ownBlock = some b → owOf ρ ow b = some n := by
 cases c <;> simp only [packRowC] at h <;> try cases h
 case row j =>
  split at h
  ·rename_i q hq
   split at h
   ·cases h
   ·rename_i hc
    simp only [Bool.or_eq_true, not_or, Bool.not_eq_true, Bool.not_eq_false'] at hc
    obtain ⟨et, el⟩ := castL_some h
    have hrow := hM.rows j q hq
    obtain ⟨qf, qe, qt, ql⟩ := q
    dsimp only at et el hc
    subst et; subst el
    have hee : qe = e := Nat.eq_of_beq_eq_true hc.2
    subst hee
    unfold RowOk at hrow
    rw [if_neg (by simp [hc.1])] at hrow
    obtain ⟨xs, hown, hl, hb⟩ := hrow
    have hv1 := hv.1
    subst hv1
    refine ⟨⟨xs, hown, hl.mono (RepC.mono hle _)⟩, fun b hb' => ?_⟩
    have := hb b hb'
    simp only [owOf, this, Option.bind_some]
    exact ho (.inr j, n) (by simp [ownsC])
  ·cases h
 case nils =>
  have hv' : v = .slice none 0 0 := hv
  subst hv'
  exact ⟨⟨[], World.ownsRow_nil w 0 e t.size, rfl⟩, fun b hb => by cases hb⟩

theorem packMapC_ok {kk vv : Ty} {c : CV} {l : List (kk.den × vv.den)} {v : Value} {n : Nat} (h : packMapC V kk vv c = some l) (hv : CVDen G ρ c v) (ho : ∀ p, p ∈ ownsC n c → lookO ow p.1 = some p.2) :
  ∃ b, v = .map (some b) ∧ owOf ρ ow b = some n ∧ MapAt G2 w kk vv l b := by
 cases c <;> simp only [packMapC] at h <;> try cases h
 case mp j =>
  split at h
  ·rename_i k' v' l' hl
   obtain ⟨e1, e2, e3⟩ := castM_some h
   subst e1; subst e2; subst e3
   obtain ⟨b, es, clock, h1, h2, h3, h4, h5, h6⟩ := hM.objs j _ hl
   refine ⟨b, hv.1.trans h1, ?_, es, clock, h3, h4.mono fun x y hxy => hxy.mono hle, fun i e hi => (h5 i e hi).2, h6⟩
   simp only [owOf, h2, Option.bind_some]
   exact ho (.ob j, n) (by simp [ownsC])
  ·cases h

theorem packOT_ok : ∀ {l : List OT} {cs : List CV} {x : otDen l} {vs : List Value} {n : Nat}, packOT V l cs = some x → All2 (CVDen G ρ) cs vs → (∀ p, p ∈ ownsOT n l cs → lookO ow p.1 = some p.2) → OTsOk G2 w (owOf ρ ow) n l x vs
 | [], [], x, vs, n, h, hv, _ => hv
 | [], _ :: _, x, vs, n, h, hv, _ => by simp [packOT] at h
 | .val t :: r, cs, x, vs, n, h, hv, ho => by
  simp only [packOT] at h
  split at h
  ·rename_i y cs' hy
   split at h
   ·rename_i z hz
    cases h
    obtain ⟨a, b, e, h1, h2⟩ := pack_ok hM.frozen t cs y cs' vs hy hv
    have hr := packB_rest t hy
    refine ⟨a, b, e, RepC.mono hle t y a h1, packOT_ok hz h2 (fun p hp => ho p ?_)⟩
    simp only [ownsOT, ← hr]; exact hp
   ·cases h
  ·cases h
 | .row e t :: r, [], x, vs, n, h, hv, _ => by simp [packOT] at h
 | .row e t :: r, c :: cs, x, vs, n, h, ⟨v, us, ev, hc, hcs⟩, ho => by
  simp only [packOT] at h
  split at h
  ·rename_i y hy
   split at h
   ·rename_i z hz
    cases h
    subst ev
    have h1 := packRowC_ok (n := n) hM hle hy hc (fun p hp => ho p (by simp [ownsOT, hp]))
    exact ⟨[v], us, rfl, ⟨v, rfl, h1⟩, packOT_ok hz hcs (fun p hp => ho p (by simp [ownsOT, hp]))⟩
   ·cases h
  ·cases h
 | .map k v' :: r, [], x, vs, n, h, hv, _ => by simp [packOT] at h
 | .map k v' :: r, c :: cs, x, vs, n, h, ⟨v, us, ev, hc, hcs⟩, ho => by
  simp only [packOT] at h
  split at h
  ·rename_i y hy
   split at h
   ·rename_i z hz
    cases h
    subst ev
    obtain ⟨b, h1, h2, h3⟩ := packMapC_ok (n := n) hM hle hy hc (fun p hp => ho p (by simp [ownsOT, hp]))
    subst h1
    exact ⟨[_], us, rfl, ⟨b, rfl, h2, h3⟩, packOT_ok hz hcs (fun p hp => ho p (by simp [ownsOT, hp]))⟩
   ·cases h
  ·cases h

include hh
theorem packArg_ok {fb : List Nat} (hF : Frozen G2 ρ V) (hL : Lent G2 ρ V fb) {p : PM} (hA : (∃ t, p = .arR t) → ∀ fz t l, look V.objs arId = some (.ar fz t l) → ArOk G2 w (fun _ => True) true t l) {s : SV} {x : p.den} {v : Value} {i : Nat} (h : packArg V fb p s = some x)
  (hv : p.arg = true → SVDen G ρ s v) (ho : ∀ q, q ∈ ownsArg V i p s → lookO ow q.1 = some q.2) : ArgOk G2 w (owOf ρ ow) i p x v := by
 have cv : ∀ {c : CV}, oneCV s = some c → SVDen G ρ s v → CVDen G ρ c v := by
  intro c hc hs
  unfold oneCV at hc
  split at hc
  ·cases hc; exact hs
  ·cases hc
 cases p with
 | val t => exact packSV_ok hF hL h (SVDen.congr hle (.refl ρ s) (hv rfl))
 | row e t =>
  simp only [packArg] at h
  split at h
  ·rename_i c hc
   exact packRowC_ok hM hle h (cv hc (hv rfl)) (fun q hq => ho q (by simp only [ownsArg, hc]; exact hq))
  ·cases h
 | mrow e t =>
  simp only [packArg] at h
  split at h
  ·rename_i c hc
   exact packRowC_ok hM hle h (cv hc (hv rfl)) (fun q hq => ho q (by simp only [ownsArg, hc]; exact hq))
  ·cases h
 | map k e =>
  simp only [packArg] at h
  split at h
  ·rename_i c hc
   exact packMapC_ok hM hle h (cv hc (hv rfl)) (fun q hq => ho q (by simp only [ownsArg, hc]; exact hq))
  ·cases h
 | box l =>
  simp only [packArg] at h
  split at h
  ·rename_i k hk
   split at h
   ·rename_i cs hcs
    obtain ⟨h1, vs, T, h2, h3⟩ := hM.boxes k cs hcs
    have hp : v = .pointer (some ⟨ρ.bx k, 0, none⟩) := by
     have hs := hv rfl
     unfold oneRef at hk
     split at hk
     ·split at hk
      ·rename_i hb
       cases hk
       have := Nat.eq_of_beq_eq_true hb
       subst this
       exact hs
      ·cases hk
     ·cases hk
    refine ⟨ρ.bx k, vs, T, hp, ?_, h2, packOT_ok hM hle h h3 (fun q hq => ho q (by simp only [ownsArg, hk, hcs]; exact List.mem_cons_of_mem _ hq))⟩
    simp only [owOf, h1, Option.bind_some]
    exact ho (.inl k, 64 * i) (by simp [ownsArg, hk])
   ·cases h
  ·cases h
 | ar t =>
  obtain ⟨f, hl, hf⟩ := packAr_ok (show packAr V false t = some x from h)
  have := hf rfl
  subst this
  obtain ⟨_, h1, h2, h3⟩ := hM.objs arId _ hl
  refine ⟨fun i b hb => h1 i b (by rw [← hh]; exact hb), fun i i' b hb hb' => h2 i i' b (by rw [← hh]; exact hb) (by rw [← hh]; exact hb'), fun n z hz => ?_⟩
  obtain ⟨b, vs, T, g1, g2, g3, g4, g5⟩ := h3 n z hz
  refine ⟨b, vs, T, by rw [hh]; exact g1, nofun, fun _ => ?_, g4, RepC.mono hle t z _ g5⟩
  have := g3 rfl
  simp only [owOf, this, Option.bind_some]
  exact ho (.ob arId, 64 * i) (by simp [ownsArg])
 | arR t =>
  obtain ⟨f, hl, _⟩ := packAr_ok (show packAr V true t = some x from h)
  exact hA ⟨t, rfl⟩ f t x hl

theorem packIn_ok {fb : List Nat} (hF : Frozen G2 ρ V) (hL : Lent G2 ρ V fb) : ∀ {ps : List PM} {args : List SV} {x : inDen ps} {vs : List Value} (i : Nat), ((hasArR ps = true) → ∀ fz t l, look V.objs arId = some (.ar fz t l) → ArOk G2 w (fun _ => True) true t l) →
  (∀ q, q ∈ ownsIn V i ps args → lookO ow q.1 = some q.2) → packIn V fb ps args = some x → All2 (SVDen G ρ) args vs → ArgsOk G2 w (owOf ρ ow) i ps x vs
 | [], [], x, vs, i, _, _, h, hv => by cases hv; rfl
 | [], _ :: _, x, vs, i, _, _, h, hv => by simp [packIn] at h
 | p :: r, args, x, vs, i, hA, ho, h, hv => by
  simp only [packIn] at h
  simp only [ownsIn] at ho
  have hA' : hasArR r = true → ∀ fz t l, look V.objs arId = some (.ar fz t l) → ArOk G2 w (fun _ => True) true t l := fun hr => hA (by cases p <;> first | rfl | exact hr)
  split at h
  ·rename_i s hs
   rw [hs] at ho
   split at h
   ·rename_i y hy
    split at h
    ·rename_i z hz
     cases h
     have hAp : (∃ t, p = .arR t) → ∀ fz t l, look V.objs arId = some (.ar fz t l) → ArOk G2 w (fun _ => True) true t l := fun ⟨t, e⟩ => hA (by subst e; rfl)
     cases hp : p.arg with
     | true =>
      rw [hp] at hs hz ho
      simp only [cond_true] at hs hz ho
      match args, hv, hs, hz with
      | s' :: q, ⟨v, us, e, hsv, hq⟩, hs, hz =>
       simp only [List.head?_cons, Option.some.injEq] at hs
       subst hs
       exact ⟨v, us, fun _ => e, fun e => (by rw [hp] at e; cases e), packArg_ok hM hle hh hF hL hAp hy (fun _ => hsv) (fun q hq => ho q (by simp [hq])), packIn_ok hF hL (i + 1) hA' (fun q hq => ho q (by simp at hq ⊢; exact .inr hq)) hz hq⟩
     | false =>
      rw [hp] at hs hz ho
      simp only [cond_false] at hs hz ho
      exact ⟨undef, vs, fun e => (by rw [hp] at e; cases e), fun _ => rfl, packArg_ok hM hle hh hF hL hAp hy (fun e => (by rw [hp] at e; cases e)) (fun q hq => ho q (by simp [hq])), packIn_ok hF hL (i + 1) hA' (fun q hq => ho q (by simp [hq])) hz hv⟩
    ·cases h
   ·cases h
  ·cases h
end

end Go.Dn

namespace Go.Dn
variable {β : Type} {X : Cx} {o : Oper} {S : St} {r : β} {P0 : Program} {C : Fr P0} {G : Gh} {ρ : Env} {w : World}

def Asg (ρ : Env) (w : World) : Ownr → Value → Prop
 | .inl k, v => v = .pointer (some ⟨ρ.bx k, 0, none⟩)
 | .inr j, v => ρ.rw j = v
 | .ob j, v => ∀ b, v = .map (some b) → ρ.ob j = .map (some b) ∧ ∀ es clock, w.heap[b]? = some (.map es clock) → ∀ (i : Nat) (e : MapEntry), es.toList[i]? = some e → (e.born : Int) = ρ.st j i

section
variable {G' G3 : Gh} {w' : World} {ow' : Nat → Option Nat} {ρ3 : Env}

theorem RepL.of_flat (hh : ∀ h b, G'.hnd h = some b → G3.hnd h = some b) {t : Ty} (hf : t.flat = true) : ∀ {l : List t.den} {cs : List Value}, RepL (RepC G' t) l cs → RepL (RepC G3 t) l cs
 | [], _, h => h
 | _ :: _, _, ⟨c, r, e, hx, hl⟩ => ⟨c, r, e, RepC.of_flat hh hf hx, RepL.of_flat hh hf hl⟩

def Trans (G' G3 : Gh) (flat : Bool) : Prop := (∀ h b, G'.hnd h = some b → G3.hnd h = some b) ∧ (flat = true ∨ G'.le G3)
theorem Trans.left {a b : Bool} (h : Trans G' G3 (a && b)) : Trans G' G3 a := ⟨h.1, h.2.imp (fun e => by simp at e; exact e.1) id⟩
theorem Trans.right {a b : Bool} (h : Trans G' G3 (a && b)) : Trans G' G3 b := ⟨h.1, h.2.imp (fun e => by simp at e; exact e.2) id⟩
theorem Trans.repC {t : Ty} (h : Trans G' G3 t.flat) {x : t.den} {cs : List Value} (hx : RepC G' t x cs) : RepC G3 t x cs := by
 rcases h.2 with hf | hle
 ·exact hx.of_flat h.1 hf
 ·exact RepC.mono hle t x cs hx
theorem Trans.repV {t : Ty} (h : Trans G' G3 t.flat) {x : t.den} {v : Value} (hx : RepV G' t x v) : RepV G3 t x v := by
 rcases h.2 with hf | hle
 ·exact hx.of_flat h.1 hf
 ·exact hx.mono hle
theorem Trans.repL {t : Ty} (h : Trans G' G3 t.flat) {l : List t.den} {cs : List Value} (hx : RepL (RepC G' t) l cs) : RepL (RepC G3 t) l cs := by
 rcases h.2 with hf | hle
 ·exact hx.of_flat h.1 hf
 ·exact hx.mono (RepC.mono hle t)

theorem RowAt.ok {e : TypeId} {t : Ty} {l : List t.den} {v : Value} {j : Nat} (hT : Trans G' G3 t.flat) (h : RowAt G' w' e t l v) (hv : ρ3.rw j = v) (ho : ∀ b, v.ownBlock = some b → ρ3.own b = some (.inr j)) : RowOk G3 ρ3 w' j ⟨false, e, t, l⟩ := by
 obtain ⟨xs, h1, h2⟩ := h
 unfold RowOk
 rw [if_neg (by simp)]
 subst hv
 exact ⟨xs, h1, hT.repL h2, ho⟩
theorem RowAt.isSlice {e : TypeId} {t : Ty} {l : List t.den} {v : Value} (h : RowAt G' w' e t l v) : ∃ a n c, v = .slice a n c := by
 obtain ⟨xs, h1, h2⟩ := h
 rcases h1.2 with ⟨e, _⟩ | ⟨g, cap, cur, e, _⟩
 ·exact ⟨_, _, _, e⟩
 ·exact ⟨_, _, _, e⟩

theorem MapAt.ok {k v : Ty} {l : List (k.den × v.den)} {b j : Nat} (hT : Trans G' G3 (k.flat && v.flat)) (h : MapAt G' w' k v l b) (ha : Asg ρ3 w' (.ob j) (.map (some b))) (ho : ρ3.own b = some (.ob j)) : ObjOk G3 ρ3 w' j (.map k v l) ∧ ρ3.ob j = .map (some b) := by
 obtain ⟨es, clock, h1, h2, h3, h4⟩ := h
 obtain ⟨ha, hs⟩ := ha b rfl
 exact ⟨⟨b, es, clock, ha, ho, h1, h2.mono fun x y hxy => ⟨hT.left.repV hxy.1, hT.right.repV hxy.2⟩, fun i e hi => ⟨hs es clock h1 i e hi, h3 i e hi⟩, h4⟩, ha⟩

theorem ots_back {d i : Nat} : ∀ {l : List OT} {c : Nat} {x : otDen l} {vs : List Value}, Trans G' G3 (otFlat l) → OTsOk G' w' ow' (64 * i + c) l x vs →
  ∃ vals : List (Ownr × Value), vals.map (·.1) = (otIts d i c l).map (·.1) ∧ ∀ ρ3 : Env, (∀ o v, (o, v) ∈ vals → Asg ρ3 w' o v) → (∀ o n, (o, n) ∈ otIts d i c l → ∀ b, ow' b = some n → ρ3.own b = some o) →
   All2 (CVDen G3 ρ3) (otCV d i c l x) vs ∧ (∀ j q, look (otRows d i c l x) j = some q → RowOk G3 ρ3 w' j q) ∧ (∀ j q, look (otObjs d i c l x) j = some q → ObjOk G3 ρ3 w' j q)
 | [], c, x, vs, _, h => ⟨[], rfl, fun ρ3 _ _ => ⟨h, fun j q hj => by simp [otRows, look] at hj, fun j q hj => by simp [otObjs, look] at hj⟩⟩
 | .val t :: r, c, x, vs, hT, ⟨a, b, e, h1, h2⟩ => by
  obtain ⟨vals, hv, hr⟩ := ots_back (d := d) (i := i) (c := c + 1) (l := r) (Trans.right (a := t.flat) hT) h2
  refine ⟨vals, hv, fun ρ3 hA hO => ?_⟩
  obtain ⟨g1, g2, g3⟩ := hr ρ3 hA hO
  subst e
  exact ⟨(unpack_ok ρ3 (Trans.repC (Trans.left (b := otFlat r) hT) h1)).append g1, g2, g3⟩
 | .row e' t :: r, c, x, vs, hT, ⟨a, b, e, ⟨v, ea, h1, h1'⟩, h2⟩ => by
  obtain ⟨vals, hv, hr⟩ := ots_back (d := d) (i := i) (c := c + 1) (l := r) (Trans.right (a := t.flat) hT) h2
  refine ⟨(.inr (nid d i c), v) :: vals, by simp [otIts, hv], fun ρ3 hA hO => ?_⟩
  obtain ⟨g1, g2, g3⟩ := hr ρ3 (fun o v h => hA o v (by simp [h])) (fun o n h => hO o n (by simp [otIts, h]))
  have hav : ρ3.rw (nid d i c) = v := hA (.inr (nid d i c)) v (by simp)
  subst e; subst ea
  refine ⟨⟨v, b, rfl, ⟨hav.symm, h1.isSlice⟩, g1⟩, fun j q hj => ?_, g3⟩
  simp only [otRows, look_cons] at hj
  split at hj
  ·rename_i ej
   subst ej
   cases hj
   exact h1.ok (Trans.left (b := otFlat r) hT) hav (fun b' hb' => hO _ _ (by simp [otIts]) b' (h1' b' hb'))
  ·exact g2 j q hj
 | .map k v' :: r, c, x, vs, hT, ⟨a, b, e, ⟨bb, ea, h1, h1'⟩, h2⟩ => by
  obtain ⟨vals, hv, hr⟩ := ots_back (d := d) (i := i) (c := c + 1) (l := r) (Trans.right (a := k.flat && v'.flat) hT) h2
  refine ⟨(.ob (nid d i c), .map (some bb)) :: vals, by simp [otIts, hv], fun ρ3 hA hO => ?_⟩
  obtain ⟨g1, g2, g3⟩ := hr ρ3 (fun o v h => hA o v (by simp [h])) (fun o n h => hO o n (by simp [otIts, h]))
  have ho : ρ3.own bb = some (.ob (nid d i c)) := hO _ _ (by simp [otIts]) bb h1
  obtain ⟨m1, m2⟩ := h1'.ok (Trans.left (b := otFlat r) hT) (hA (.ob (nid d i c)) (.map (some bb)) (by simp)) ho
  subst e; subst ea
  refine ⟨⟨_, b, rfl, ⟨m2.symm, bb, rfl⟩, g1⟩, g2, fun j q hj => ?_⟩
  simp only [otObjs, look_cons] at hj
  split at hj
  ·rename_i ej
   subst ej
   cases hj
   exact m1
  ·exact g3 j q hj

theorem ots_keys {d i : Nat} : ∀ {l : List OT} {c : Nat} {x : otDen l}, (∀ j n, (.inr j, n) ∈ otIts d i c l → (look (otRows d i c l x) j).isSome = true) ∧ (∀ j n, (.ob j, n) ∈ otIts d i c l → (look (otObjs d i c l x) j).isSome = true) ∧
  (∀ k n, (.inl k, n) ∉ otIts d i c l)
 | [], c, x => ⟨fun j n h => by simp [otIts] at h, fun j n h => by simp [otIts] at h, fun j n h => by simp [otIts] at h⟩
 | .val t :: r, c, x => by
  obtain ⟨h1, h2, h3⟩ := ots_keys (d := d) (i := i) (l := r) (c := c + 1) (x := x.2)
  exact ⟨h1, h2, h3⟩
 | .row e t :: r, c, x => by
  obtain ⟨h1, h2, h3⟩ := ots_keys (d := d) (i := i) (l := r) (c := c + 1) (x := x.2)
  refine ⟨fun j n h => ?_, fun j n h => ?_, fun k n h => ?_⟩
  ·simp only [otIts, List.mem_cons, Prod.mk.injEq, Ownr.inr.injEq] at h
   simp only [otRows, look_cons]
   rcases h with ⟨h, _⟩ | h
   ·simp [h]
   ·split
    ·rfl
    ·exact h1 j n h
  ·simp only [otIts, List.mem_cons, Prod.mk.injEq, reduceCtorEq, false_and, false_or] at h
   exact h2 j n h
  ·simp only [otIts, List.mem_cons, Prod.mk.injEq, reduceCtorEq, false_and, false_or] at h
   exact h3 k n h
 | .map kk vv :: r, c, x => by
  obtain ⟨h1, h2, h3⟩ := ots_keys (d := d) (i := i) (l := r) (c := c + 1) (x := x.2)
  refine ⟨fun j n h => ?_, fun j n h => ?_, fun k n h => ?_⟩
  ·simp only [otIts, List.mem_cons, Prod.mk.injEq, reduceCtorEq, false_and, false_or] at h
   exact h1 j n h
  ·simp only [otIts, List.mem_cons, Prod.mk.injEq, Ownr.ob.injEq] at h
   simp only [otObjs, look_cons]
   rcases h with ⟨h, _⟩ | h
   ·simp [h]
   ·split
    ·rfl
    ·exact h2 j n h
  ·simp only [otIts, List.mem_cons, Prod.mk.injEq, reduceCtorEq, false_and, false_or] at h
   exact h3 k n h

theorem look_append {α : Type} : ∀ (l m : List (Nat × α)) (k : Nat), look (l ++ m) k = (look l k).or (look m k)
 | [], m, k => by simp [look]
 | (j, x) :: l, m, k => by
  rw [List.cons_append, look_cons, look_cons, look_append l m k]
  split <;> simp
theorem or_some {α : Type} {a b : Option α} {x : α} (h : a.or b = some x) : a = some x ∨ (a = none ∧ b = some x) := by
 cases a with
 | none => exact .inr ⟨rfl, by simpa using h⟩
 | some y => exact .inl (by simpa using h)
theorem isSome_or {α : Type} {a b : Option α} (h : a.isSome = true ∨ b.isSome = true) : (a.or b).isSome = true := by
 cases a with
 | none => simpa using h
 | some y => rfl

def isNew (d : Nat) (o : Ownr) (n : Nat) : Prop := o = .inr (nid d 0 0 + n) ∨ o = .ob (nid d 0 0 + n)
theorem nid_eq (d i c : Nat) : nid d i c = nid d 0 0 + (64 * i + c) := by simp only [nid]; omega
theorem ots_new {d i : Nat} : ∀ {l : List OT} {c : Nat} {o : Ownr} {n : Nat}, (o, n) ∈ otIts d i c l → isNew d o n
 | [], c, o, n, h => by simp [otIts] at h
 | .val t :: r, c, o, n, h => ots_new (l := r) h
 | .row e t :: r, c, o, n, h => by
  simp only [otIts, List.mem_cons, Prod.mk.injEq] at h
  rcases h with ⟨h, h'⟩ | h
  ·subst h; subst h'; exact .inl (by rw [nid_eq])
  ·exact ots_new (l := r) h
 | .map e t :: r, c, o, n, h => by
  simp only [otIts, List.mem_cons, Prod.mk.injEq] at h
  rcases h with ⟨h, h'⟩ | h
  ·subst h; subst h'; exact .inr (by rw [nid_eq])
  ·exact ots_new (l := r) h

structure Pieces (G3 : Gh) (ρ3 : Env) (w' : World) (bx : List (Nat × List CV)) (rw : List (Nat × RowV)) (ob : List (Nat × ObjV)) : Prop where
 bx : ∀ k cs, look bx k = some cs → ρ3.own (ρ3.bx k) = some (.inl k) ∧ ∃ vs T, w'.heap[ρ3.bx k]? = some (.cells (List.toArray vs) T (0, 0)) ∧ All2 (CVDen G3 ρ3) cs vs
 rw : ∀ j q, look rw j = some q → RowOk G3 ρ3 w' j q
 ob : ∀ j q, look ob j = some q → ObjOk G3 ρ3 w' j q

theorem Pieces.app {a b : List (Nat × List CV)} {c e : List (Nat × RowV)} {f g : List (Nat × ObjV)} (h : Pieces G3 ρ3 w' a c f) (k : Pieces G3 ρ3 w' b e g) : Pieces G3 ρ3 w' (a ++ b) (c ++ e) (f ++ g) where
 bx := fun i cs hi => by
  rw [look_append] at hi
  rcases or_some hi with h1 | ⟨_, h1⟩
  ·exact h.bx i cs h1
  ·exact k.bx i cs h1
 rw := fun i cs hi => by
  rw [look_append] at hi
  rcases or_some hi with h1 | ⟨_, h1⟩
  ·exact h.rw i cs h1
  ·exact k.rw i cs h1
 ob := fun i cs hi => by
  rw [look_append] at hi
  rcases or_some hi with h1 | ⟨_, h1⟩
  ·exact h.ob i cs h1
  ·exact k.ob i cs h1
theorem Pieces.nil : Pieces G3 ρ3 w' [] [] [] := ⟨fun k cs h => by simp [look] at h, fun k cs h => by simp [look] at h, fun k cs h => by simp [look] at h⟩

theorem box_back {d i k : Nat} {l : List OT} {x : otDen l} {v : Value} (hT : Trans G' G3 (otFlat l)) (h : BoxAt G' w' ow' (64 * i) l x v) :
  ∃ vals : List (Ownr × Value), vals.map (·.1) = (otIts d i 1 l).map (·.1) ∧ ∀ ρ3 : Env, Asg ρ3 w' (.inl k) v → (∀ o v, (o, v) ∈ vals → Asg ρ3 w' o v) → (∀ o n, (o, n) ∈ (.inl k, 64 * i) :: otIts d i 1 l → ∀ b, ow' b = some n → ρ3.own b = some o) →
   Pieces G3 ρ3 w' [(k, otCV d i 1 l x)] (otRows d i 1 l x) (otObjs d i 1 l x) := by
 obtain ⟨b, vs, T, h1, h2, h3, h4⟩ := h
 obtain ⟨vals, hv, hr⟩ := ots_back (G3 := G3) (d := d) (i := i) (c := 1) hT h4
 refine ⟨vals, hv, fun ρ3 hk hA hO => ?_⟩
 obtain ⟨g1, g2, g3⟩ := hr ρ3 hA (fun o n h => hO o n (by simp [h]))
 refine ⟨fun k' cs hk' => ?_, g2, g3⟩
 rw [look_cons] at hk'
 split at hk'
 ·rename_i ek
  subst ek
  cases hk'
  have hb : b = ρ3.bx k := by
   rw [h1] at hk
   have hk2 : Value.pointer (some ⟨b, 0, none⟩) = .pointer (some ⟨ρ3.bx k, 0, none⟩) := hk
   cases hk2; rfl
  subst hb
  exact ⟨hO (.inl k) (64 * i) (by simp) _ h2, vs, T, h3, g1⟩
 ·cases hk'

theorem res_back {ps : List PM} {args : List Value} {d : Nat} : ∀ {rs : List RM} {c : Nat} {y : outDen ps rs} {vs : List Value}, Trans G' G3 (rsFlat2 rs) → OutOk G' w' ow' ps args c rs y vs →
  BkOk G' w' ow' 0 ps (outBx ps rs y) args ∧ ∃ vals : List (Ownr × Value), vals.map (·.1) = (rsIts d c rs).map (·.1) ∧ (∀ k v, (.inl k, v) ∈ vals → ∃ b, v = .pointer (some ⟨b, 0, none⟩)) ∧ ∀ ρ3 : Env, (∀ o v, (o, v) ∈ vals → Asg ρ3 w' o v) → (∀ o n, (o, n) ∈ rsIts d c rs → ∀ b, ow' b = some n → ρ3.own b = some o) →
   All2 (fun p => XVDen G3 ρ3 p.1 p.2) (outXVs ps d rs c y) vs ∧ Pieces G3 ρ3 w' (outBxs ps d rs c y) (outRws ps d rs c y) (outObs ps d rs c y)
 | [], c, y, vs, _, h => ⟨h.2, [], rfl, fun k v h => (by simp at h), fun ρ3 _ _ => ⟨h.1, Pieces.nil⟩⟩
 | .val t :: r, c, y, vs, hT, ⟨v, us, e, hv, hu⟩ => by
  obtain ⟨h0, vals, hv', hpt, hr⟩ := res_back (d := d) (rs := r) (Trans.right (a := t.flat) hT) hu
  refine ⟨h0, vals, hv', hpt, fun ρ3 hA hO => ?_⟩
  obtain ⟨g1, g2⟩ := hr ρ3 hA hO
  subst e
  exact ⟨⟨v, us, rfl, xvOf_ok ρ3 (Trans.repV (Trans.left (b := rsFlat2 r) hT) hv), g1⟩, g2⟩
 | .row e' t :: r, c, y, vs, hT, ⟨v, us, e, ⟨hv, hv2⟩, hu⟩ => by
  obtain ⟨h0, vals, hv', hpt, hr⟩ := res_back (d := d) (rs := r) (Trans.right (a := t.flat) hT) hu
  refine ⟨h0, (.inr (nid d (24 + c) 0), v) :: vals, by simp [rsIts, hv'], fun k v h => hpt k v (by simpa using h), fun ρ3 hA hO => ?_⟩
  obtain ⟨g1, g2⟩ := hr ρ3 (fun o v h => hA o v (by simp [h])) (fun o n h => hO o n (by simp [rsIts, h]))
  have hav : ρ3.rw (nid d (24 + c) 0) = v := hA (.inr (nid d (24 + c) 0)) v (by simp)
  subst e
  refine ⟨⟨v, us, rfl, ⟨hav.symm, hv.isSlice⟩, g1⟩, g2.bx, fun j q hj => ?_, g2.ob⟩
  simp only [outRws, look_cons] at hj
  split at hj
  ·rename_i ej
   subst ej
   cases hj
   exact hv.ok (Trans.left (b := rsFlat2 r) hT) hav (fun b' hb' => hO _ _ (by simp [rsIts]) b' (hv2 b' hb'))
  ·exact g2.rw j q hj
 | .map k' v' :: r, c, y, vs, hT, ⟨v, us, e, ⟨bb, hv, hv1, hv2⟩, hu⟩ => by
  obtain ⟨h0, vals, hv', hpt, hr⟩ := res_back (d := d) (rs := r) (Trans.right (a := k'.flat && v'.flat) hT) hu
  refine ⟨h0, (.ob (nid d (24 + c) 0), v) :: vals, by simp [rsIts, hv'], fun k v h => hpt k v (by simpa using h), fun ρ3 hA hO => ?_⟩
  obtain ⟨g1, g2⟩ := hr ρ3 (fun o v h => hA o v (by simp [h])) (fun o n h => hO o n (by simp [rsIts, h]))
  subst e; subst hv
  have ho : ρ3.own bb = some (.ob (nid d (24 + c) 0)) := hO _ _ (by simp [rsIts]) bb hv1
  obtain ⟨m1, m2⟩ := hv2.ok (Trans.left (b := rsFlat2 r) hT) (hA (.ob (nid d (24 + c) 0)) (.map (some bb)) (by simp)) ho
  refine ⟨⟨_, us, rfl, ⟨m2.symm, bb, rfl⟩, g1⟩, g2.bx, g2.rw, fun j q hj => ?_⟩
  simp only [outObs, look_cons] at hj
  split at hj
  ·rename_i ej
   subst ej
   cases hj
   exact m1
  ·exact g2.ob j q hj
 | .box l :: r, c, y, vs, hT, ⟨v, us, e, hv, hu⟩ => by
  obtain ⟨h0, vals, hv', hpt, hr⟩ := res_back (d := d) (rs := r) (Trans.right (a := otFlat l) hT) hu
  obtain ⟨vals2, hv2, hr2⟩ := box_back (G3 := G3) (d := d) (k := d) (Trans.left (b := rsFlat2 r) hT) hv
  refine ⟨h0, ((.inl d, v) :: vals2) ++ vals, by simp [rsIts, hv', hv2], fun k v' h => ?_, fun ρ3 hA hO => ?_⟩
  ·rcases List.mem_append.1 h with h | h
   ·rcases List.mem_cons.1 h with h | h
    ·cases h
     obtain ⟨b, _, _, e1, _⟩ := hv
     exact ⟨b, e1⟩
    ·have hm : (.inl k : Ownr) ∈ vals2.map (·.1) := List.mem_map.2 ⟨_, h, rfl⟩
     rw [hv2] at hm
     obtain ⟨p, hp, e1⟩ := List.mem_map.1 hm
     obtain ⟨p1, p2⟩ := p
     simp only at e1
     subst e1
     exact absurd hp ((ots_keys (x := y.1)).2.2 k p2)
   ·exact hpt k v' h
  obtain ⟨g1, g2⟩ := hr ρ3 (fun o v h => hA o v (by simp [h])) (fun o n h => hO o n (by simp [rsIts, h]))
  have g3 := hr2 ρ3 (hA (.inl d) v (by simp)) (fun o v h => hA o v (by simp [h])) (fun o n h => hO o n (by
   simp only [List.mem_cons] at h
   simp only [rsIts, List.cons_append, List.mem_cons, List.mem_append]
   rcases h with h | h
   ·exact .inl h
   ·exact .inr (.inl h)))
  subst e
  exact ⟨⟨v, us, rfl, hA (.inl d) v (by simp), g1⟩, g3.app g2⟩

theorem oneRow_ok {s : SV} {v : Value} {j : Option Nat} (h : oneRow s = some j) (hv : SVDen G ρ s v) : match j with | some j => v = ρ.rw j | none => v = .slice none 0 0 := by
 unfold oneRow at h
 split at h
 ·cases h; exact hv.1
 ·cases h; exact hv
 ·cases h
theorem oneRef_ok {s : SV} {v : Value} {k : Nat} (h : oneRef s = some k) (hv : SVDen G ρ s v) : v = .pointer (some ⟨ρ.bx k, 0, none⟩) := by
 unfold oneRef at h
 split at h
 ·split at h
  ·rename_i hb
   cases h
   have := Nat.eq_of_beq_eq_true hb
   subst this
   exact hv
  ·cases h
 ·cases h
theorem oneMap_ok {s : SV} {v : Value} {j : Nat} (h : oneMap s = some j) (hv : SVDen G ρ s v) : v = ρ.ob j := by
 unfold oneMap at h
 split at h
 ·cases h; exact hv.1
 ·cases h

def Old (ρ : Env) : Ownr → Value → Prop
 | .inl k, v => v = .pointer (some ⟨ρ.bx k, 0, none⟩)
 | .inr j, v => ρ.rw j = v
 | .ob j, v => ∀ b, v = .map (some b) → ρ.ob j = .map (some b)

theorem cons_head {s : SV} {q : List SV} {vs : List Value} (h : All2 (SVDen G ρ) (s :: q) vs) {v : Value} (hv : vs.head? = some v) : SVDen G ρ s v ∧ All2 (SVDen G ρ) q vs.tail := by
 obtain ⟨u, us, e, h1, h2⟩ := h
 subst e
 cases hv
 exact ⟨h1, h2⟩
theorem cons_tail {s : SV} {q : List SV} {vs : List Value} (h : All2 (SVDen G ρ) (s :: q) vs) : All2 (SVDen G ρ) q vs.tail := by
 obtain ⟨u, us, e, h1, h2⟩ := h
 subst e
 exact h2

theorem bk_back {d : Nat} (hh3 : G3.hnd = G'.hnd) : ∀ {ps : List PM} {args : List SV} {i : Nat} {y : boxDen ps} {vs : List Value}, Trans G' G3 (bxFlat ps) → BkOk G' w' ow' i ps y vs → All2 (SVDen G ρ) args vs →
  ∃ vals : List (Ownr × Value), vals.map (·.1) = (bkIts d i ps args).map (·.1) ∧ (∀ o v, (o, v) ∈ vals → Old ρ o v ∨ ∃ n, (o, n) ∈ bkIts d i ps args ∧ isNew d o n) ∧ ∀ ρ3 : Env, (∀ o v, (o, v) ∈ vals → Asg ρ3 w' o v) → (∀ o n, (o, n) ∈ bkIts d i ps args → ∀ b, ow' b = some n → ρ3.own b = some o) →
   Pieces G3 ρ3 w' (bkBoxes d i ps args y) (bkRows d i ps args y) (bkObjs d i ps args y)
 | [], args, i, y, vs, _, h, hv => ⟨[], rfl, fun o v h => by simp at h, fun ρ3 _ _ => Pieces.nil⟩
 | .val t :: r, [], i, y, vs, _, _, hv => ⟨[], rfl, fun o v h => by simp at h, fun ρ3 _ _ => Pieces.nil⟩
 | .row e t :: r, [], i, y, vs, _, _, hv => ⟨[], rfl, fun o v h => by simp at h, fun ρ3 _ _ => Pieces.nil⟩
 | .mrow e t :: r, [], i, y, vs, _, _, hv => ⟨[], rfl, fun o v h => by simp at h, fun ρ3 _ _ => Pieces.nil⟩
 | .map e t :: r, [], i, y, vs, _, _, hv => ⟨[], rfl, fun o v h => by simp at h, fun ρ3 _ _ => Pieces.nil⟩
 | .box l :: r, [], i, y, vs, _, _, hv => ⟨[], rfl, fun o v h => by simp at h, fun ρ3 _ _ => Pieces.nil⟩
 | .val t :: r, s :: q, i, y, vs, hT, h, hv => bk_back hh3 (ps := r) (by simpa [bxFlat] using hT) h (cons_tail hv)
 | .row e t :: r, s :: q, i, y, vs, hT, h, hv => bk_back hh3 (ps := r) (by simpa [bxFlat] using hT) h (cons_tail hv)
 | .arR t :: r, q, i, y, vs, hT, h, hv => by
  have := bk_back (d := d) hh3 (ps := r) (args := q) (i := i + 1) (y := y) (by simpa [bxFlat] using hT) h hv
  cases q <;> exact this
 | .ar t :: r, q, i, y, vs, hT, ⟨h1, h2⟩, hv => by
  obtain ⟨vals, hv', hold, hr⟩ := bk_back (d := d) hh3 (ps := r) (args := q) (i := i + 1) (y := y.2) (Trans.right (a := t.flat) hT) h2 hv
  have e1 : bkIts d i (.ar t :: r) q = (.ob arId, 64 * i) :: bkIts d (i + 1) r q := by cases q <;> rfl
  have e2 : bkBoxes d i (.ar t :: r) q y = bkBoxes d (i + 1) r q y.2 := by cases q <;> rfl
  have e3 : bkRows d i (.ar t :: r) q y = bkRows d (i + 1) r q y.2 := by cases q <;> rfl
  have e4 : bkObjs d i (.ar t :: r) q y = (arId, .ar false t y.1) :: bkObjs d (i + 1) r q y.2 := by cases q <;> rfl
  rw [e1, e2, e3, e4]
  refine ⟨(.ob arId, undef) :: vals, by simp [hv'], fun o v h => ?_, fun ρ3 hA hO => ?_⟩
  ·rcases List.mem_cons.1 h with h | h
   ·cases h; exact .inl fun b e => by cases e
   ·exact (hold o v h).imp id fun ⟨n, h1, h2⟩ => ⟨n, by simp [h1], h2⟩
  ·have g := hr ρ3 (fun o v h => hA o v (by simp [h])) (fun o n h => hO o n (by simp [h]))
   refine ⟨g.bx, g.rw, fun j q' hj => ?_⟩
   simp only [look_cons] at hj
   split at hj
   ·rename_i ej
    subst ej
    cases hj
    refine ⟨rfl, fun i b hb => h1.1 i b (by rw [← hh3]; exact hb), fun i i' b hb hb' => h1.2.1 i i' b (by rw [← hh3]; exact hb) (by rw [← hh3]; exact hb'), fun n z hz => ?_⟩
    obtain ⟨b, ws, T, f1, f2, f3, f4, f5⟩ := h1.2.2 n z hz
    exact ⟨b, ws, T, by rw [hh3]; exact f1, nofun, fun _ => hO _ _ (by simp) b (f3 rfl), f4, Trans.repC (Trans.left (b := bxFlat r) hT) f5⟩
   ·exact g.ob j q' hj
 | .mrow e t :: r, s :: q, i, y, vs, hT, ⟨⟨v, h0, h1, h1'⟩, h2⟩, hv => by
  obtain ⟨hs, hq⟩ := cons_head hv h0
  obtain ⟨vals, hv', hold, hr⟩ := bk_back (d := d) hh3 (ps := r) (args := q) (i := i + 1) (y := y.2) (Trans.right (a := t.flat) hT) h2 hq
  simp only [bkIts, bkBoxes, bkRows, bkObjs]
  cases ho : oneRow s with
  | none => simpa using ⟨vals, hv', hold, hr⟩
  | some jo =>
   cases jo with
   | none => simpa using ⟨vals, hv', hold, hr⟩
   | some j =>
    have hvj : v = ρ.rw j := oneRow_ok ho hs
    refine ⟨(.inr j, v) :: vals, by simp [hv'], fun o v' h => ?_, fun ρ3 hA hO => ?_⟩
    ·rcases List.mem_cons.1 h with h | h
     ·cases h; exact .inl hvj.symm
     ·exact (hold o v' h).imp id fun ⟨n, h1, h2⟩ => ⟨n, by simp [h1], h2⟩
    ·have g := hr ρ3 (fun o v h => hA o v (by simp [h])) (fun o n h => hO o n (by simp [h]))
     refine ⟨g.bx, fun j' q' hj => ?_, g.ob⟩
     simp only [List.cons_append, List.nil_append, look_cons] at hj
     split at hj
     ·rename_i ej
      subst ej
      cases hj
      exact h1.ok (Trans.left (b := bxFlat r) hT) (hA (.inr j) v (by simp)) (fun b' hb' => hO _ _ (by simp) b' (h1' b' hb'))
     ·exact g.rw j' q' hj
 | .map kk vv :: r, s :: q, i, y, vs, hT, ⟨⟨bb, h0, h1, h1'⟩, h2⟩, hv => by
  obtain ⟨hs, hq⟩ := cons_head hv h0
  obtain ⟨vals, hv', hold, hr⟩ := bk_back (d := d) hh3 (ps := r) (args := q) (i := i + 1) (y := y.2) (Trans.right (a := kk.flat && vv.flat) hT) h2 hq
  simp only [bkIts, bkBoxes, bkRows, bkObjs]
  cases ho : oneMap s with
  | none => simpa using ⟨vals, hv', hold, hr⟩
  | some j =>
   have hvj : Value.map (some bb) = ρ.ob j := oneMap_ok ho hs
   refine ⟨(.ob j, .map (some bb)) :: vals, by simp [hv'], fun o v' h => ?_, fun ρ3 hA hO => ?_⟩
   ·rcases List.mem_cons.1 h with h | h
    ·cases h; exact .inl fun b e => by rw [← hvj, e]
    ·exact (hold o v' h).imp id fun ⟨n, h1, h2⟩ => ⟨n, by simp [h1], h2⟩
   ·have g := hr ρ3 (fun o v h => hA o v (by simp [h])) (fun o n h => hO o n (by simp [h]))
    have hob : ρ3.own bb = some (.ob j) := hO _ _ (by simp) bb h1
    obtain ⟨m1, m2⟩ := h1'.ok (Trans.left (b := bxFlat r) hT) (hA (.ob j) (.map (some bb)) (by simp)) hob
    refine ⟨g.bx, g.rw, fun j' q' hj => ?_⟩
    simp only [List.cons_append, List.nil_append, look_cons] at hj
    split at hj
    ·rename_i ej
     subst ej
     cases hj
     exact m1
    ·exact g.ob j' q' hj
 | .box l :: r, s :: q, i, y, vs, hT, ⟨⟨v, h0, h1⟩, h2⟩, hv => by
  obtain ⟨hs, hq⟩ := cons_head hv h0
  obtain ⟨vals, hv', hold, hr⟩ := bk_back (d := d) hh3 (ps := r) (args := q) (i := i + 1) (y := y.2) (Trans.right (a := otFlat l) hT) h2 hq
  simp only [bkIts, bkBoxes, bkRows, bkObjs]
  cases ho : oneRef s with
  | none =>
   simpa using ⟨vals, hv', hold, hr⟩
  | some k =>
   have hvk := oneRef_ok ho hs
   obtain ⟨vals2, hv2, hr2⟩ := box_back (G3 := G3) (d := d) (k := k) (Trans.left (b := bxFlat r) hT) h1
   refine ⟨((.inl k, v) :: vals2) ++ vals, by simp [hv', hv2], fun o v' h => ?_, fun ρ3 hA hO => ?_⟩
   ·rcases List.mem_append.1 h with h | h
    ·rcases List.mem_cons.1 h with h | h
     ·cases h; exact .inl hvk
     ·right
      have hm : o ∈ vals2.map (·.1) := List.mem_map.2 ⟨_, h, rfl⟩
      rw [hv2] at hm
      obtain ⟨p, hp, e⟩ := List.mem_map.1 hm
      refine ⟨p.2, ?_, by rw [← e]; exact ots_new (n := p.2) hp⟩
      rw [← e]
      simp [hp]
    ·exact (hold o v' h).imp id fun ⟨n, h1, h2⟩ => ⟨n, by simp [h1], h2⟩
   ·have g := hr ρ3 (fun o v h => hA o v (by simp [h])) (fun o n h => hO o n (by simp [h]))
    have g3 := hr2 ρ3 (hA (.inl k) v (by simp)) (fun o v h => hA o v (by simp [h])) (fun o n h => hO o n (by
     simp only [List.mem_cons] at h
     simp only [List.cons_append, List.mem_cons, List.mem_append]
     rcases h with h | h
     ·exact .inl h
     ·exact .inr (.inl h)))
    exact g3.app g
end


theorem bk_keys {d : Nat} : ∀ {ps : List PM} {args : List SV} {i : Nat} {y : boxDen ps}, (∀ j n, (.inr j, n) ∈ bkIts d i ps args → (look (bkRows d i ps args y) j).isSome = true) ∧ (∀ j n, (.ob j, n) ∈ bkIts d i ps args → (look (bkObjs d i ps args y) j).isSome = true) ∧
  (∀ k n, (.inl k, n) ∈ bkIts d i ps args → (look (bkBoxes d i ps args y) k).isSome = true)
 | [], args, i, y => ⟨fun j n h => by simp [bkIts] at h, fun j n h => by simp [bkIts] at h, fun j n h => by simp [bkIts] at h⟩
 | .val t :: r, [], i, y => ⟨fun j n h => by simp [bkIts] at h, fun j n h => by simp [bkIts] at h, fun j n h => by simp [bkIts] at h⟩
 | .row e t :: r, [], i, y => ⟨fun j n h => by simp [bkIts] at h, fun j n h => by simp [bkIts] at h, fun j n h => by simp [bkIts] at h⟩
 | .mrow e t :: r, [], i, y => ⟨fun j n h => by simp [bkIts] at h, fun j n h => by simp [bkIts] at h, fun j n h => by simp [bkIts] at h⟩
 | .map e t :: r, [], i, y => ⟨fun j n h => by simp [bkIts] at h, fun j n h => by simp [bkIts] at h, fun j n h => by simp [bkIts] at h⟩
 | .box l :: r, [], i, y => ⟨fun j n h => by simp [bkIts] at h, fun j n h => by simp [bkIts] at h, fun j n h => by simp [bkIts] at h⟩
 | .val t :: r, s :: q, i, y => bk_keys (ps := r) (args := q) (i := i + 1)
 | .row e t :: r, s :: q, i, y => bk_keys (ps := r) (args := q) (i := i + 1)
 | .arR t :: r, q, i, y => by
  have := bk_keys (d := d) (ps := r) (args := q) (i := i + 1) (y := y)
  cases q <;> exact this
 | .ar t :: r, q, i, y => by
  obtain ⟨h1, h2, h3⟩ := bk_keys (d := d) (ps := r) (args := q) (i := i + 1) (y := y.2)
  have e1 : bkIts d i (.ar t :: r) q = (.ob arId, 64 * i) :: bkIts d (i + 1) r q := by cases q <;> rfl
  have e2 : bkBoxes d i (.ar t :: r) q y = bkBoxes d (i + 1) r q y.2 := by cases q <;> rfl
  have e3 : bkRows d i (.ar t :: r) q y = bkRows d (i + 1) r q y.2 := by cases q <;> rfl
  have e4 : bkObjs d i (.ar t :: r) q y = (arId, .ar false t y.1) :: bkObjs d (i + 1) r q y.2 := by cases q <;> rfl
  rw [e1, e2, e3, e4]
  refine ⟨fun j n h => h1 j n (by simpa using h), fun j n h => ?_, fun k n h => h3 k n (by simpa using h)⟩
  rw [look_cons]
  split
  ·rfl
  ·rename_i hne
   rcases List.mem_cons.1 h with h | h
   ·cases h; exact absurd rfl hne
   ·exact h2 j n h
 | .mrow e t :: r, s :: q, i, y => by
  obtain ⟨h1, h2, h3⟩ := bk_keys (d := d) (ps := r) (args := q) (i := i + 1) (y := y.2)
  simp only [bkIts, bkBoxes, bkRows, bkObjs]
  refine ⟨fun j n h => ?_, fun j n h => ?_, fun k n h => ?_⟩
  ·rw [look_append]
   rcases List.mem_append.1 h with h | h
   ·apply isSome_or; left
    split at h
    ·rename_i j' hj
     simp only [List.mem_singleton, Prod.mk.injEq, Ownr.inr.injEq] at h
     simp [look_cons, h.1]
    ·simp at h
   ·exact isSome_or (.inr (h1 j n h))
  ·rcases List.mem_append.1 h with h | h
   ·split at h <;> simp at h
   ·exact h2 j n h
  ·rcases List.mem_append.1 h with h | h
   ·split at h <;> simp at h
   ·exact h3 k n h
 | .map e t :: r, s :: q, i, y => by
  obtain ⟨h1, h2, h3⟩ := bk_keys (d := d) (ps := r) (args := q) (i := i + 1) (y := y.2)
  simp only [bkIts, bkBoxes, bkRows, bkObjs]
  refine ⟨fun j n h => ?_, fun j n h => ?_, fun k n h => ?_⟩
  ·rcases List.mem_append.1 h with h | h
   ·split at h <;> simp at h
   ·exact h1 j n h
  ·rw [look_append]
   rcases List.mem_append.1 h with h | h
   ·apply isSome_or; left
    split at h
    ·rename_i j' hj
     simp only [List.mem_singleton, Prod.mk.injEq, Ownr.ob.injEq] at h
     simp [look_cons, h.1]
    ·simp at h
   ·exact isSome_or (.inr (h2 j n h))
  ·rcases List.mem_append.1 h with h | h
   ·split at h <;> simp at h
   ·exact h3 k n h
 | .box l :: r, s :: q, i, y => by
  obtain ⟨h1, h2, h3⟩ := bk_keys (d := d) (ps := r) (args := q) (i := i + 1) (y := y.2)
  obtain ⟨g1, g2, g3⟩ := ots_keys (d := d) (i := i) (l := l) (c := 1) (x := y.1)
  simp only [bkIts, bkBoxes, bkRows, bkObjs]
  refine ⟨fun j n h => ?_, fun j n h => ?_, fun k n h => ?_⟩
  ·rw [look_append]
   rcases List.mem_append.1 h with h | h
   ·apply isSome_or; left
    split at h
    ·simp only [List.mem_cons, Prod.mk.injEq, reduceCtorEq, false_and, false_or] at h
     exact g1 j n h
    ·simp at h
   ·exact isSome_or (.inr (h1 j n h))
  ·rw [look_append]
   rcases List.mem_append.1 h with h | h
   ·apply isSome_or; left
    split at h
    ·simp only [List.mem_cons, Prod.mk.injEq, reduceCtorEq, false_and, false_or] at h
     exact g2 j n h
    ·simp at h
   ·exact isSome_or (.inr (h2 j n h))
  ·rw [look_append]
   rcases List.mem_append.1 h with h | h
   ·apply isSome_or; left
    split at h
    ·rename_i k' hk'
     rcases List.mem_cons.1 h with h | h
     ·cases h; simp [look_cons]
     ·exact absurd h (g3 k n)
    ·simp at h
   ·exact isSome_or (.inr (h3 k n h))

theorem rs_keys {ps : List PM} {d : Nat} : ∀ {rs : List RM} {c : Nat} {y : outDen ps rs}, (∀ j n, (.inr j, n) ∈ rsIts d c rs → (look (outRws ps d rs c y) j).isSome = true) ∧ (∀ j n, (.ob j, n) ∈ rsIts d c rs → (look (outObs ps d rs c y) j).isSome = true) ∧
  (∀ k n, (.inl k, n) ∈ rsIts d c rs → k = d ∧ 0 < nBox rs ∧ (look (outBxs ps d rs c y) k).isSome = true)
 | [], c, y => ⟨fun j n h => by simp [rsIts] at h, fun j n h => by simp [rsIts] at h, fun j n h => by simp [rsIts] at h⟩
 | .val t :: r, c, y => rs_keys (rs := r) (c := c + 1) (y := y.2)
 | .row e t :: r, c, y => by
  obtain ⟨h1, h2, h3⟩ := rs_keys (ps := ps) (d := d) (rs := r) (c := c + 1) (y := y.2)
  simp only [rsIts, outRws, outObs, outBxs, nBox, List.mem_cons, Prod.mk.injEq, Ownr.inr.injEq, reduceCtorEq, false_and, false_or]
  refine ⟨fun j n h => ?_, h2, h3⟩
  rw [look_cons]
  rcases h with ⟨h, _⟩ | h
  ·simp [h]
  ·split
   ·rfl
   ·exact h1 j n h
 | .map e t :: r, c, y => by
  obtain ⟨h1, h2, h3⟩ := rs_keys (ps := ps) (d := d) (rs := r) (c := c + 1) (y := y.2)
  simp only [rsIts, outRws, outObs, outBxs, nBox, List.mem_cons, Prod.mk.injEq, Ownr.ob.injEq, reduceCtorEq, false_and, false_or]
  refine ⟨h1, fun j n h => ?_, h3⟩
  rw [look_cons]
  rcases h with ⟨h, _⟩ | h
  ·simp [h]
  ·split
   ·rfl
   ·exact h2 j n h
 | .box l :: r, c, y => by
  obtain ⟨h1, h2, h3⟩ := rs_keys (ps := ps) (d := d) (rs := r) (c := c + 1) (y := y.2)
  obtain ⟨g1, g2, g3⟩ := ots_keys (d := d) (i := 24 + c) (l := l) (c := 1) (x := y.1)
  simp only [rsIts, outRws, outObs, outBxs, nBox, List.cons_append, List.mem_cons, List.mem_append, Prod.mk.injEq, Ownr.inl.injEq, reduceCtorEq, false_and, false_or]
  refine ⟨fun j n h => ?_, fun j n h => ?_, fun k n h => ?_⟩
  ·rw [look_append]
   rcases h with h | h
   ·exact isSome_or (.inl (g1 j n h))
   ·exact isSome_or (.inr (h1 j n h))
  ·rw [look_append]
   rcases h with h | h
   ·exact isSome_or (.inl (g2 j n h))
   ·exact isSome_or (.inr (h2 j n h))
  ·rcases h with ⟨h, _⟩ | h | h
   ·subst h; exact ⟨rfl, by omega, by simp [look_cons]⟩
   ·exact absurd h (g3 k n)
   ·obtain ⟨e, _, hk⟩ := h3 k n h
    refine ⟨e, by omega, ?_⟩
    rw [look_cons]
    split
    ·rfl
    ·exact hk

theorem rs_new {d : Nat} : ∀ {rs : List RM} {c : Nat} {o : Ownr} {n : Nat}, (o, n) ∈ rsIts d c rs → o = .inl d ∨ isNew d o n
 | [], c, o, n, h => by simp [rsIts] at h
 | .val t :: r, c, o, n, h => rs_new (rs := r) h
 | .row e t :: r, c, o, n, h => by
  simp only [rsIts, List.mem_cons, Prod.mk.injEq] at h
  rcases h with ⟨h, h'⟩ | h
  ·subst h; subst h'; exact .inr (.inl (by rw [nid_eq]; rfl))
  ·exact rs_new (rs := r) h
 | .map e t :: r, c, o, n, h => by
  simp only [rsIts, List.mem_cons, Prod.mk.injEq] at h
  rcases h with ⟨h, h'⟩ | h
  ·subst h; subst h'; exact .inr (.inr (by rw [nid_eq]; rfl))
  ·exact rs_new (rs := r) h
 | .box l :: r, c, o, n, h => by
  simp only [rsIts, List.cons_append, List.mem_cons, List.mem_append, Prod.mk.injEq] at h
  rcases h with ⟨h, _⟩ | h | h
  ·exact .inl h
  ·exact .inr (ots_new h)
  ·exact rs_new (rs := r) h

end Go.Dn

namespace Go.Dn
variable {β : Type} {X : Cx} {o : Oper} {S : St} {r : β} {P0 : Program} {C : Fr P0} {G : Gh} {ρ : Env} {w : World}

theorem idIn_cv {a b j : Nat} (h1 : a ≤ j) (h2 : j < b) (c : CV) : c.hasRow j = true ∨ c.hasObj j = true ∨ c.hasStp j = true → c.idIn a b = true := by
 have hb : ∀ i, Nat.beq i j = true → (Nat.ble a i && Nat.blt i b) = true := fun i hi => by
  have := Nat.eq_of_beq_eq_true hi
  subst this
  simp only [Bool.and_eq_true]
  exact ⟨Nat.ble_eq_true_of_le h1, by simpa using h2⟩
 intro h
 cases c <;> simp only [CV.hasRow, CV.hasObj, CV.hasStp, CV.idIn] at h ⊢ <;> first
  | (rcases h with h | h | h <;> first | exact hb _ h | cases h)

theorem idIn_false {S : St} {a b j : Nat} (h : S.idIn a b = false) (h1 : a ≤ j) (h2 : j < b) : S.hasRow j = false ∧ S.hasObj j = false ∧ S.hasStp j = false := by
 simp only [St.idIn, Bool.or_eq_false_iff, List.any_eq_false] at h
 have sv : ∀ s, s ∈ S.tmps → s.hasRow j = false ∧ s.hasObj j = false ∧ s.hasStp j = false := fun s hs => by
  have hn := h.1 s hs
  cases s with
  | v a' cs =>
   simp only [SV.idIn, List.any_eq_true, not_exists, not_and] at hn
   have key : ∀ c, c ∈ cs → ¬ (c.hasRow j = true ∨ c.hasObj j = true ∨ c.hasStp j = true) := fun c hc hx => hn c hc (idIn_cv h1 h2 c hx)
   simp only [SV.hasRow, SV.hasObj, SV.hasStp, List.any_eq_false]
   exact ⟨fun c hc e => key c hc (.inl e), fun c hc e => key c hc (.inr (.inl e)), fun c hc e => key c hc (.inr (.inr e))⟩
  | tup l =>
   simp only [SV.idIn, List.any_eq_true, not_exists, not_and] at hn
   have key : ∀ p, p ∈ l → ∀ c, c ∈ p.2 → ¬ (c.hasRow j = true ∨ c.hasObj j = true ∨ c.hasStp j = true) := fun p hp c hc hx => hn p hp c hc (idIn_cv h1 h2 c hx)
   simp only [SV.hasRow, SV.hasObj, SV.hasStp, List.any_eq_false, List.any_eq_true, not_exists, not_and]
   exact ⟨fun p hp c hc e => key p hp c hc (.inl e), fun p hp c hc e => key p hp c hc (.inr (.inl e)), fun p hp c hc e => key p hp c hc (.inr (.inr e))⟩
 have bv : ∀ p, p ∈ S.boxes → ∀ c, c ∈ p.2 → ¬ (c.hasRow j = true ∨ c.hasObj j = true ∨ c.hasStp j = true) := fun p hp c hc hx => by
  have hn := h.2 p hp
  simp only [List.any_eq_true, not_exists, not_and] at hn
  exact hn c hc (idIn_cv h1 h2 c hx)
 simp only [St.hasRow, St.hasObj, St.hasStp, Bool.or_eq_false_iff, List.any_eq_false, List.any_eq_true, not_exists, not_and]
 exact ⟨⟨fun s hs => by simp [(sv s hs).1], fun p hp c hc e => bv p hp c hc (.inl e)⟩, ⟨fun s hs => by simp [(sv s hs).2.1], fun p hp c hc e => bv p hp c hc (.inr (.inl e))⟩, ⟨fun s hs => by simp [(sv s hs).2.2], fun p hp c hc e => bv p hp c hc (.inr (.inr e))⟩⟩

theorem same_of {ρ ρ' : Env} (hb : ∀ k, S.hasBox k = true → ρ'.bx k = ρ.bx k) (hr : ∀ k, S.hasRow k = true → ρ'.rw k = ρ.rw k) (ho : ∀ k, S.hasObj k = true → ρ'.ob k = ρ.ob k) (hs : ∀ k, S.hasStp k = true → ρ'.st k = ρ.st k) : S.Same ρ ρ' := by
 have inT : ∀ s, s ∈ S.tmps → ∀ c, (∀ f : CV → Bool, f c = true → (match s with | .v _ cs => cs.any f | .tup l => l.any fun p => p.2.any f) = true) → c.Same ρ ρ' := fun s hs' c hc =>
  ⟨fun k hk => hb k (by
    simp only [St.hasBox, Bool.or_eq_true, List.any_eq_true]; left
    refine ⟨s, hs', ?_⟩
    have := hc (CV.hasBox k) hk
    cases s <;> exact this),
   fun k hk => hr k (by
    simp only [St.hasRow, Bool.or_eq_true, List.any_eq_true]; left
    refine ⟨s, hs', ?_⟩
    have := hc (CV.hasRow k) hk
    cases s <;> exact this),
   fun k hk => ho k (by
    simp only [St.hasObj, Bool.or_eq_true, List.any_eq_true]; left
    refine ⟨s, hs', ?_⟩
    have := hc (CV.hasObj k) hk
    cases s <;> exact this),
   fun k hk => hs k (by
    simp only [St.hasStp, Bool.or_eq_true, List.any_eq_true]; left
    refine ⟨s, hs', ?_⟩
    have := hc (CV.hasStp k) hk
    cases s <;> exact this)⟩
 refine ⟨fun s hs' => ?_, fun p hp c hc => ⟨fun k hk => hb k ?_, fun k hk => hr k ?_, fun k hk => ho k ?_, fun k hk => hs k ?_⟩⟩
 ·cases s with
  | v a cs => exact fun c hc => inT _ hs' c fun f hf => by simp only [List.any_eq_true]; exact ⟨c, hc, hf⟩
  | tup l => exact fun p hp c hc => inT _ hs' c fun f hf => by simp only [List.any_eq_true]; exact ⟨p, hp, c, hc, hf⟩
 ·simp only [St.hasBox, Bool.or_eq_true, List.any_eq_true]; exact .inr ⟨p, hp, c, hc, hk⟩
 ·simp only [St.hasRow, Bool.or_eq_true, List.any_eq_true]; exact .inr ⟨p, hp, c, hc, hk⟩
 ·simp only [St.hasObj, Bool.or_eq_true, List.any_eq_true]; exact .inr ⟨p, hp, c, hc, hk⟩
 ·simp only [St.hasStp, Bool.or_eq_true, List.any_eq_true]; exact .inr ⟨p, hp, c, hc, hk⟩

def lookV : List (Ownr × Value) → Ownr → Option Value
 | [], _ => none
 | (o, n) :: r, x => if o = x then some n else lookV r x
theorem lookV_mem {l : List (Ownr × Value)} {o : Ownr} {v : Value} (h : lookV l o = some v) : (o, v) ∈ l := by
 induction l with
 | nil => simp [lookV] at h
 | cons p r ih =>
  obtain ⟨o', n'⟩ := p
  simp only [lookV] at h
  split at h
  ·rename_i e; cases h; subst e; simp
  ·exact List.mem_cons_of_mem _ (ih h)
theorem lookV_of_mem {l : List (Ownr × Value)} {its : List (Ownr × Nat)} (he : l.map (·.1) = its.map (·.1)) (hd : dupO its = false) {o : Ownr} {v : Value} (h : (o, v) ∈ l) : lookV l o = some v := by
 induction l generalizing its with
 | nil => simp at h
 | cons p r ih =>
  cases its with
  | nil => simp at he
  | cons q its =>
   obtain ⟨o', v'⟩ := p
   obtain ⟨o2, n2⟩ := q
   simp only [List.map_cons, List.cons.injEq] at he
   obtain ⟨e1, e2⟩ := he
   subst e1
   simp only [dupO, Bool.or_eq_false_iff] at hd
   simp only [lookV]
   rcases List.mem_cons.1 h with h | h
   ·cases h; simp
   ·split
    ·rename_i e
     subst e
     have hm : o' ∈ its.map (·.1) := by rw [← e2]; exact List.mem_map.2 ⟨_, h, rfl⟩
     obtain ⟨x, hx, ex⟩ := List.mem_map.1 hm
     have := lookO_some (l := its) (o := o') (n := x.2) (by rw [← ex]; exact hx)
     rw [hd.1] at this; cases this
    ·exact ih e2 hd.2 h
theorem lookV_none {l : List (Ownr × Value)} {its : List (Ownr × Nat)} (he : l.map (·.1) = its.map (·.1)) {o : Ownr} (h : lookV l o ≠ none) : ∃ n, (o, n) ∈ its := by
 cases hv : lookV l o with
 | none => exact absurd hv h
 | some v =>
  have hm : o ∈ its.map (·.1) := by rw [← he]; exact List.mem_map.2 ⟨_, lookV_mem hv, rfl⟩
  obtain ⟨x, hx, ex⟩ := List.mem_map.1 hm
  exact ⟨x.2, by rw [← ex]; exact hx⟩

def findOwn : List (Ownr × Nat) → Nat → Option Ownr
 | [], _ => none
 | (o, n) :: r, x => if n = x then some o else findOwn r x
theorem findOwn_of_mem {l : List (Ownr × Nat)} (hd : dup (l.map (·.2)) = false) {o : Ownr} {n : Nat} (h : (o, n) ∈ l) : findOwn l n = some o := by
 induction l with
 | nil => simp at h
 | cons p r ih =>
  obtain ⟨o', n'⟩ := p
  rw [List.map_cons] at hd
  obtain ⟨h1, h2⟩ := dup_cons hd
  simp only [findOwn]
  rcases List.mem_cons.1 h with h | h
  ·cases h; simp
  ·split
   ·rename_i e; subst e; exact absurd (List.mem_map.2 ⟨(o, n'), h, rfl⟩) h1
   ·exact ih h2 h

theorem look_filterP {α : Type} (f : Nat → Bool) : ∀ (l : List (Nat × α)) (i : Nat), look (l.filter fun p => f p.1) i = if f i = true then look l i else none
 | [], i => by simp [look]
 | (j, y) :: r, i => by
  have ih := look_filterP f r i
  cases hU : f j with
  | false =>
   have : (List.filter (fun p : Nat × α => f p.1) ((j, y) :: r)) = r.filter fun p => f p.1 := by simp [hU]
   rw [this, ih, look_cons]
   by_cases e : j = i
   ·subst e; simp [hU]
   ·simp [e]
  | true =>
   have : (List.filter (fun p : Nat × α => f p.1) ((j, y) :: r)) = (j, y) :: r.filter fun p => f p.1 := by simp [hU]
   rw [this, look_cons, look_cons, ih]
   by_cases e : j = i
   ·subst e; simp [hU]
   ·simp [e]

def stNow (w : World) (v : Value) (i : Nat) : Int :=
 match v with
 | .map (some b) => match w.heap[b]? with
  | some (.map es _) => ((es.toList[i]?).map fun e => (e.born : Int)).getD 0
  | _ => 0
 | _ => 0
def blkOf : Value → Nat
 | .pointer (some ⟨b, _, _⟩) => b
 | _ => 0

theorem owns_freeze (S : St) (js : List Nat) : ∀ (i : Nat) (ps : List PM) (args : List SV), ownsIn (freezeRows S js) i ps args = ownsIn S i ps args
 | _, [], _ => rfl
 | i, p :: r, l => by
  have h1 : ∀ s, ownsArg (freezeRows S js) i p s = ownsArg S i p s := fun s => by cases p <;> rfl
  simp only [ownsIn, owns_freeze S js (i + 1) r, h1]

theorem nid_small {d n : Nat} (hd : d < 2000) (hn : n < 2048) : nid d 0 0 + n < 10000000 := by simp only [nid]; omega

theorem ownsIn_ar {S : St} : ∀ {ps : List PM} {args : List SV} {i : Nat}, hasAr ps = true → ∃ n, (.ob arId, n) ∈ ownsIn S i ps args
 | [], args, i, h => by simp [hasAr] at h
 | p :: r, args, i, h => by
  simp only [ownsIn, List.mem_append]
  cases p with
  | ar t => exact ⟨64 * i, .inl (by simp [PM.arg, ownsArg])⟩
  | _ =>
   obtain ⟨n, hn⟩ := ownsIn_ar (S := S) (ps := r) (args := (bif PM.arg _ then args.tail else args)) (i := i + 1) h
   exact ⟨n, .inr hn⟩

theorem packIn_ar {V : St} {fb : List Nat} : ∀ {ps : List PM} {args : List SV} {x : inDen ps}, packIn V fb ps args = some x → hasAr ps = true → ∃ t l, look V.objs arId = some (.ar false t l)
 | [], args, x, h, ha => by simp [hasAr] at ha
 | p :: r, args, x, h, ha => by
  simp only [packIn] at h
  split at h
  ·rename_i s hs
   split at h
   ·rename_i y hy
    split at h
    ·rename_i z hz
     cases p with
     | ar t =>
      obtain ⟨f, hl, hf⟩ := packAr_ok (show packAr V false t = some y from hy)
      have := hf rfl
      subst this
      exact ⟨_, _, hl⟩
     | _ => exact packIn_ar hz ha
    ·cases h
   ·cases h
  ·cases h
theorem otObjs_map {d i : Nat} : ∀ {l : List OT} {c : Nat} {x : otDen l} {j : Nat} {q : ObjV}, look (otObjs d i c l x) j = some q → ∃ k v l, q = .map k v l
 | [], c, x, j, q, h => by simp [otObjs, look] at h
 | .val _ :: r, c, x, j, q, h => otObjs_map (l := r) h
 | .row _ _ :: r, c, x, j, q, h => otObjs_map (l := r) h
 | .map k v :: r, c, x, j, q, h => by
  simp only [otObjs, look_cons] at h
  split at h
  ·cases h; exact ⟨_, _, _, rfl⟩
  ·exact otObjs_map (l := r) h
theorem outObs_map {ps : List PM} {d : Nat} : ∀ {rs : List RM} {c : Nat} {y : outDen ps rs} {j : Nat} {q : ObjV}, look (outObs ps d rs c y) j = some q → ∃ k v l, q = .map k v l
 | [], c, y, j, q, h => by simp [outObs, look] at h
 | .val _ :: r, c, y, j, q, h => outObs_map (rs := r) h
 | .row _ _ :: r, c, y, j, q, h => outObs_map (rs := r) h
 | .map k v :: r, c, y, j, q, h => by
  simp only [outObs, look_cons] at h
  split at h
  ·cases h; exact ⟨_, _, _, rfl⟩
  ·exact outObs_map (rs := r) h
 | .box l :: r, c, y, j, q, h => by
  simp only [outObs, look_append] at h
  rcases or_some h with h | ⟨_, h⟩
  ·exact otObjs_map h
  ·exact outObs_map (rs := r) h
theorem bkObjs_map {d : Nat} : ∀ {ps : List PM} {args : List SV} {i : Nat} {y : boxDen ps} {j : Nat} {q : ObjV}, hasAr ps = false → look (bkObjs d i ps args y) j = some q → ∃ k v l, q = .map k v l
 | [], args, i, y, j, q, _, h => by simp [bkObjs, look] at h
 | .val _ :: r, [], i, y, j, q, _, h => by simp [bkObjs, look] at h
 | .row _ _ :: r, [], i, y, j, q, _, h => by simp [bkObjs, look] at h
 | .mrow _ _ :: r, [], i, y, j, q, _, h => by simp [bkObjs, look] at h
 | .map _ _ :: r, [], i, y, j, q, _, h => by simp [bkObjs, look] at h
 | .box _ :: r, [], i, y, j, q, _, h => by simp [bkObjs, look] at h
 | .val _ :: r, s :: t, i, y, j, q, ha, h => bkObjs_map (ps := r) (args := t) ha h
 | .row _ _ :: r, s :: t, i, y, j, q, ha, h => bkObjs_map (ps := r) (args := t) ha h
 | .mrow _ _ :: r, s :: t, i, y, j, q, ha, h => bkObjs_map (ps := r) (args := t) ha h
 | .arR _ :: r, t, i, y, j, q, ha, h => bkObjs_map (d := d) (ps := r) (args := t) (i := i + 1) (y := y) (j := j) ha (by cases t <;> exact h)
 | .ar _ :: r, t, i, y, j, q, ha, h => by simp [hasAr] at ha
 | .map k v :: r, s :: t, i, y, j, q, ha, h => by
  simp only [bkObjs, look_append] at h
  rcases or_some h with h | ⟨_, h⟩
  ·split at h
   ·simp only [look_cons] at h
    split at h
    ·cases h; exact ⟨_, _, _, rfl⟩
    ·simp [look] at h
   ·simp [look] at h
  ·exact bkObjs_map (ps := r) (args := t) ha h
 | .box l :: r, s :: t, i, y, j, q, ha, h => by
  simp only [bkObjs, look_append] at h
  rcases or_some h with h | ⟨_, h⟩
  ·split at h
   ·exact otObjs_map h
   ·simp [look] at h
  ·exact bkObjs_map (ps := r) (args := t) ha h

theorem s_callGen {c : Call} {f : Nat} {args : List SV} {sp : FSpec} {k : St → Option β} (hX : SpecsOk X) (ho : o.op = .call c) (hcal : calleeOf S c = some (f, args)) (hsp : (f, sp) ∈ X.specs)
  (h : callGen sp S args o.dst k = some r) : ∃ S', k S' = some r ∧ SSound X.P o S S' := by
 obtain ⟨hfun, hbody⟩ := hX.fn f sp hsp
 unfold callGen at h
 simp only at h
 split at h
 ·cases h
 ·rename_i hc
  simp only [Bool.or_eq_true, not_or, Bool.not_eq_true, Bool.not_eq_false'] at hc
  obtain ⟨⟨⟨⟨⟨⟨⟨⟨⟨⟨⟨⟨hdO, hdI⟩, hdC⟩, hcode⟩, hfbo⟩, hjso⟩, harx⟩, hfresh⟩, howold⟩, hnostp⟩, hflx⟩, hnbx⟩, hdd⟩ := hc
  generalize hits : bkIts (o.dst.getD 0) 0 sp.ps args ++ rsIts (o.dst.getD 0) 0 sp.rs = its at *
  generalize how : ownsIn S 0 sp.ps args = ow at *
  split at h
  ·rename_i x hx
   obtain ⟨y, hy, h⟩ := bind_some h
   refine ⟨_, h, fun C G ρ w a Q hM => ?_⟩
   clear h
   generalize hva : valArgs sp.ps args = va at *
   obtain ⟨G1, ρ1, G2, hfz, hM1, hle2, hhn2, hagr2, hlent, harok, hG2⟩ := hM.lend (lentR S va) (lentB va) (hasArR sp.ps)
   obtain ⟨vs, hvs, hrun⟩ := calleeOf_ok (S := S) (w := w) (G := G1) (ρ := ρ1) (a := a) ho hcal (fun z _ => by
    have := hM1.tmps.ev z; rw [freeze_ev] at this; exact this) hbody
   have hF : Frozen G2 ρ1 (freezeRows S (lentR S va)) := fun j q hj hq => RepSl.mono hle2 (hM1.toMem.frozen j q hj hq)
   have hargs := packIn_ok (ow := ow) hM1.toMem hle2 hhn2 hF hlent 0 (fun e fz t l hl => harok e fz t l hl) (fun q hq => by
    rw [owns_freeze, how] at hq
    exact lookO_of_mem hdO hq) hx hvs
   -- what is handed over is not lent
   have howG : ∀ b i, owOf ρ1 ow b = some i → G2 b = none ∧ b < w.heap.size := fun b i hb => by
    unfold owOf at hb
    cases h1 : ρ1.own b with
    | none => rw [h1] at hb; cases hb
    | some o' =>
     rw [h1] at hb
     simp only [Option.bind_some] at hb
     have hbb := hM1.owned b o' h1
     refine ⟨?_, hbb.2.1⟩
     by_cases e : G2 b = G1 b
     ·rw [e]; exact hbb.1
     ·rcases hG2 b e with ⟨k', hk1, hk2⟩ | ⟨hk1, hk2⟩
      ·rw [h1] at hk1
       cases hk1
       simp only [List.any_eq_false] at hfbo
       have hm : k' ∈ lentB va := by
        simp only [inL, List.any_eq_true] at hk2
        obtain ⟨x', hx1, hx2⟩ := hk2
        rw [Nat.eq_of_beq_eq_true hx2]; exact hx1
       have := hfbo k' hm
       rw [hb] at this; simp at this
      ·rw [h1] at hk2
       cases hk2
       rw [hk1, hb] at harx; simp at harx
   have hcall := hfun G2 w (owOf ρ1 ow) vs x y hagr2 howG hargs hy (C.tab.mono (Gh.le_trans hM1.le0 hle2))
   unfold Oper.wp
   rw [hrun]
   refine hcall.mono ?_
   rintro e w' ⟨G', ow', us, hg⟩
   rw [hg.ret]
   -- the base: what was there before the call
   have base : ∃ Gb ρb Sb, Mod C Gb ρb Sb w a ∧ Sb.tmps = S.tmps ∧ Sb.boxes = S.boxes ∧ Sb.objs = S.objs ∧ Sb.rows = (if (rsFlat2 sp.rs && bxFlat sp.ps) = true then S else freezeRows S (lentR S va)).rows ∧ ρb.bx = ρ1.bx ∧ ρb.rw = ρ1.rw ∧ ρb.ob = ρ1.ob ∧ ρb.st = ρ1.st ∧ Gb.hnd = G2.hnd ∧
     (∀ b o', ρ1.own b = some o' → ρb.own b = some o') ∧ ((rsFlat2 sp.rs && bxFlat sp.ps) = true ∨ ∀ b, G2 b = Gb b) := by
    by_cases hfl : (rsFlat2 sp.rs && bxFlat sp.ps) = true
    ·exact ⟨G, ρ, S, hM, rfl, rfl, rfl, by rw [if_pos hfl], hfz.bx.symm, hfz.rw.symm, hfz.ob.symm, hfz.st.symm, (hhn2.trans hfz.hnd).symm, hfz.own, .inl hfl⟩
    ·refine ⟨G1, ρ1, _, hM1, rfl, rfl, rfl, by rw [if_neg hfl], rfl, rfl, rfl, rfl, hhn2.symm, fun _ _ h => h, .inr fun b => ?_⟩
     have hfe : (lentB va).isEmpty = true ∧ hasArR sp.ps = false := by
      rcases hflx with h1 | h1
      ·exact absurd h1 hfl
      ·simpa using h1
     cases Classical.em (G2 b = G1 b) with
     | inl e => exact e
     | inr e =>
      rcases hG2 b e with ⟨k', _, hk2⟩ | ⟨hk1, _⟩
      ·have : lentB va = [] := by simpa using hfe.1
       rw [this] at hk2; simp [inL] at hk2
      ·rw [hfe.2] at hk1; cases hk1
   obtain ⟨Gb, ρb, Sb, hMb, eT, eB, eO, eR, ebx, erw, eob, est, ehn, hown1, hflat⟩ := base
   have howN : ∀ b o', ρb.own b = some o' → lookO ow o' = none → owOf ρ1 ow b = none := fun b o' hb hn => by
    unfold owOf
    cases h1 : ρ1.own b with
    | none => rfl
    | some o2 =>
     have := hown1 b o2 h1
     rw [hb] at this
     cases this
     simpa using hn
   have hownb : ∀ b, owOf ρ1 ow b ≠ none → ∃ o', ρb.own b = some o' := fun b hb => by
    unfold owOf at hb
    cases h1 : ρ1.own b with
    | none => rw [h1] at hb; exact absurd rfl hb
    | some o' => exact ⟨o', hown1 b o' h1⟩
   have hgb : ∀ b, owOf ρ1 ow b ≠ none → Gb b = none := fun b hb => by
    obtain ⟨o', h1⟩ := hownb b hb
    exact (hMb.owned b o' h1).1
   let G3 : Gh := ⟨fun b => if b < w.heap.size ∧ owOf ρ1 ow b = none then Gb b else G' b, G'.hnd⟩
   have hle3 : Gb.le G3 := ⟨fun b o' hb => by
    have h1 := heap_lt (hMb.agr b o' hb)
    have h2 : owOf ρ1 ow b = none := by
     cases h3 : owOf ρ1 ow b with
     | none => rfl
     | some i => have := hgb b (by rw [h3]; simp); rw [hb] at this; cases this
    simp only [G3, h1, h2, and_self, if_true]; exact hb, fun i b hb => hg.le.hnd i b (by rw [← ehn]; exact hb)⟩
   have hagr3 : Agr G3 w' := fun b o' hb => by
    simp only [G3] at hb
    split at hb
    ·rename_i hb'
     rw [(hg.old b hb'.1 hb'.2).1]; exact hMb.agr b o' hb
    ·exact hg.agr b o' hb
   have hTr : Trans G' G3 (rsFlat2 sp.rs && bxFlat sp.ps) := ⟨fun _ _ h => h, by
    rcases hflat with h1 | h1
    ·exact .inl h1
    ·right
     refine ⟨fun b o' hb => ?_, fun _ _ h => h⟩
     simp only [G3]
     by_cases hb' : b < w.heap.size ∧ owOf ρ1 ow b = none
     ·rw [if_pos hb', ← h1, ← (hg.old b hb'.1 hb'.2).2]; exact hb
     ·rw [if_neg hb']; exact hb⟩
   obtain ⟨hbk, vals1, hv1, hpt1, hr1⟩ := res_back (d := o.dst.getD 0) (Trans.left hTr) hg.out
   obtain ⟨vals2, hv2, hold2, hr2⟩ := bk_back (d := o.dst.getD 0) (G := G1) (ρ := ρ1) (show G3.hnd = G'.hnd from rfl) (Trans.right hTr) hbk hvs
   generalize hvals : vals2 ++ vals1 = vals
   have hvits : vals.map (·.1) = its.map (·.1) := by rw [← hvals, ← hits]; simp [hv1, hv2]
   have hmem1 : ∀ p, p ∈ vals1 → p ∈ vals := fun p hp => by rw [← hvals]; simp [hp]
   have hmem2 : ∀ p, p ∈ vals2 → p ∈ vals := fun p hp => by rw [← hvals]; simp [hp]
   let ρ3 : Env := ⟨fun i => match lookV vals (.inl i) with | some v => blkOf v | none => ρb.bx i,
    fun i => (lookV vals (.inr i)).getD (ρb.rw i),
    fun b => match ow' b with | some n => findOwn its n | none => if owOf ρ1 ow b = none then ρb.own b else none,
    fun i => match lookV vals (.ob i) with | some (.map (some b)) => .map (some b) | _ => ρb.ob i,
    fun i => match lookV vals (.ob i) with | some v => stNow w' v | none => ρb.st i⟩
   have hA3 : ∀ o v, (o, v) ∈ vals → Asg ρ3 w' o v := fun o v hm => by
    have hl := lookV_of_mem hvits hdI hm
    cases o with
    | inl k' =>
     have hp : ∃ b, v = .pointer (some ⟨b, 0, none⟩) := by
      rw [← hvals] at hm
      rcases List.mem_append.1 hm with h1 | h1
      ·rcases hold2 _ _ h1 with h2 | ⟨n, _, h2⟩
       ·exact ⟨_, h2⟩
       ·rcases h2 with h2 | h2 <;> cases h2
      ·exact hpt1 k' v h1
     obtain ⟨b, hb⟩ := hp
     show v = .pointer (some ⟨match lookV vals (.inl k') with | some v => blkOf v | none => ρb.bx k', 0, none⟩)
     rw [hl, hb]; rfl
    | inr j => show (lookV vals (.inr j)).getD (ρb.rw j) = v; rw [hl]; rfl
    | ob j =>
     intro b hb
     subst hb
     refine ⟨?_, fun es clock hw i e' hi => ?_⟩
     ·show (match lookV vals (.ob j) with | some (.map (some b)) => Value.map (some b) | _ => ρb.ob j) = _
      rw [hl]
     ·show (e'.born : Int) = (match lookV vals (.ob j) with | some v => stNow w' v | none => ρb.st j) i
      rw [hl]
      simp [stNow, hw, hi]
   have hO3 : ∀ o n, (o, n) ∈ its → ∀ b, ow' b = some n → ρ3.own b = some o := fun o n hm b hb => by
    show (match ow' b with | some n => findOwn its n | none => _) = _
    rw [hb]; exact findOwn_of_mem hdC hm
   have hi1 : ∀ p, p ∈ rsIts (o.dst.getD 0) 0 sp.rs → p ∈ its := fun p hp => by rw [← hits]; simp [hp]
   have hi2 : ∀ p, p ∈ bkIts (o.dst.getD 0) 0 sp.ps args → p ∈ its := fun p hp => by rw [← hits]; simp [hp]
   obtain ⟨hxv, hP1⟩ := hr1 ρ3 (fun o v h => hA3 o v (hmem1 _ h)) (fun o n h => hO3 o n (hi1 _ h))
   have hP2 := hr2 ρ3 (fun o v h => hA3 o v (hmem2 _ h)) (fun o n h => hO3 o n (hi2 _ h))
   -- numbers that are new
   have hnew : ∀ o' n, (o', n) ∈ its → isNew (o.dst.getD 0) o' n → ∀ j, o' = .inr j ∨ o' = .ob j → S.hasRow j = false ∧ S.hasObj j = false := fun o' n hm hn j hj => by
    have hlt : n < 2048 := by
     have := List.all_eq_true.1 hcode (o', n) hm
     simpa using this
    have hj2 : j = nid (o.dst.getD 0) 0 0 + n := by
     rcases hn with hn | hn <;> rcases hj with hj | hj <;> rw [hn] at hj <;> cases hj <;> rfl
    have hf : S.idIn (nid (o.dst.getD 0) 0 0) (nid (o.dst.getD 0 + 1) 0 0) = false := by simpa [freshIds] using hfresh
    have := idIn_false (j := j) hf (by omega) (by rw [hj2]; simp only [nid]; omega)
    exact ⟨this.1, this.2.1⟩
   have hval : ∀ o' v, (o', v) ∈ vals → (Old ρ1 o' v) ∨ (o' = .inl (o.dst.getD 0) ∧ 0 < nBox sp.rs) ∨ ∃ n, (o', n) ∈ its ∧ isNew (o.dst.getD 0) o' n := fun o' v hm => by
    rw [← hvals] at hm
    rcases List.mem_append.1 hm with h1 | h1
    ·rcases hold2 _ _ h1 with h2 | ⟨n, h2, h3⟩
     ·exact .inl h2
     ·exact .inr (.inr ⟨n, hi2 _ h2, h3⟩)
    ·have hm2 : o' ∈ (rsIts (o.dst.getD 0) 0 sp.rs).map (·.1) := by rw [← hv1]; exact List.mem_map.2 ⟨_, h1, rfl⟩
     obtain ⟨p, hp, e1⟩ := List.mem_map.1 hm2
     obtain ⟨p1, p2⟩ := p
     simp only at e1
     subst e1
     rcases rs_new hp with h2 | h2
     ·subst h2
      exact .inr (.inl ⟨rfl, ((rs_keys (y := y)).2.2 _ _ hp).2.1⟩)
     ·exact .inr (.inr ⟨p2, hi1 _ hp, h2⟩)
   have hnb : 0 < nBox sp.rs → S.hasBox (o.dst.getD 0) = false ∧ o.dst.getD 0 < 2000 := fun h0 => by
    have h1 : Nat.blt 0 (nBox sp.rs) = true := by simpa using h0
    rw [h1] at hnbx
    simp only [Bool.true_and, Bool.or_eq_false_iff] at hnbx
    exact ⟨hnbx.1, by simpa using hdd⟩
   have sbx : ∀ k', S.hasBox k' = true ∨ 2000 ≤ k' → ρ3.bx k' = ρb.bx k' := fun k' hk' => by
    show (match lookV vals (.inl k') with | some v => blkOf v | none => ρb.bx k') = _
    cases hl : lookV vals (.inl k') with
    | none => rfl
    | some v =>
     rcases hval _ _ (lookV_mem hl) with h1 | ⟨h1, h2⟩ | ⟨n, _, h1⟩
     ·have h1' : v = .pointer (some ⟨ρ1.bx k', 0, none⟩) := h1
      rw [h1', ebx]; rfl
     ·cases h1
      rcases hk' with hk' | hk'
      ·rw [(hnb h2).1] at hk'; cases hk'
      ·exact absurd (hnb h2).2 (Nat.not_lt.2 hk')
     ·rcases h1 with h1 | h1 <;> cases h1
   have hsmall : ∀ o' n, (o', n) ∈ its → isNew (o.dst.getD 0) o' n → ∀ j, o' = .inr j ∨ o' = .ob j → j < 10000000 := fun o' n hm hn j hj => by
    have hlt : n < 2048 := by
     have := List.all_eq_true.1 hcode (o', n) hm
     simpa using this
    have hd2 : o.dst.getD 0 < 2000 := by simpa using hdd
    have hj2 : j = nid (o.dst.getD 0) 0 0 + n := by
     rcases hn with hn | hn <;> rcases hj with hj | hj <;> rw [hn] at hj <;> cases hj <;> rfl
    rw [hj2]; exact nid_small hd2 hlt
   have srw : ∀ j, S.hasRow j = true ∨ 10000000 ≤ j → ρ3.rw j = ρb.rw j := fun j hj => by
    show (lookV vals (.inr j)).getD (ρb.rw j) = _
    cases hl : lookV vals (.inr j) with
    | none => rfl
    | some v =>
     rcases hval _ _ (lookV_mem hl) with h1 | ⟨h1, _⟩ | ⟨n, h0, h1⟩
     ·have h1' : ρ1.rw j = v := h1
      rw [erw, h1']; rfl
     ·cases h1
     ·rcases hj with hj | hj
      ·have := (hnew _ _ h0 h1 j (.inl rfl)).1
       rw [hj] at this; cases this
      ·have := hsmall _ _ h0 h1 j (.inl rfl); omega
   have sob : ∀ j, S.hasObj j = true ∨ 10000000 ≤ j → ρ3.ob j = ρb.ob j := fun j hj => by
    show (match lookV vals (.ob j) with | some (.map (some b)) => Value.map (some b) | _ => ρb.ob j) = _
    split
    ·rename_i b hl
     rcases hval _ _ (lookV_mem hl) with h1 | ⟨h1, _⟩ | ⟨n, h0, h1⟩
     ·rw [eob, h1 b rfl]
     ·cases h1
     ·rcases hj with hj | hj
      ·have := (hnew _ _ h0 h1 j (.inr rfl)).2
       rw [hj] at this; cases this
      ·have := hsmall _ _ h0 h1 j (.inr rfl); omega
    ·rfl
   have inIts : ∀ o' v, lookV vals o' = some v → ∃ n, (o', n) ∈ its := fun o' v hl => lookV_none hvits (by rw [hl]; simp)
   have sst : ∀ j, S.hasStp j = true → ρ3.st j = ρb.st j := fun j hj => by
    show (match lookV vals (.ob j) with | some v => stNow w' v | none => ρb.st j) = _
    cases hl : lookV vals (.ob j) with
    | none => rfl
    | some v =>
     obtain ⟨n, hn⟩ := inIts _ _ hl
     have := List.all_eq_true.1 hnostp _ hn
     simp only [Bool.not_eq_true'] at this
     rw [hj] at this; cases this
   have hsame : S.Same ρb ρ3 := same_of (fun k' hk' => sbx k' (.inl hk')) (fun j hj => srw j (.inl hj)) (fun j hj => sob j (.inl hj)) sst
   have hkeep : ∀ b o', ρb.own b = some o' → owOf ρ1 ow b = none → ρ3.own b = some o' := fun b o' hb h1 => by
    have h2 : ow' b = none := by
     cases h3 : ow' b with
     | none => rfl
     | some i =>
      rcases (hg.own b i h3).2.2 with h4 | h4
      ·have := (hMb.owned b o' hb).2.1; omega
      ·exact absurd h1 h4
    show (match ow' b with | some n => findOwn its n | none => if owOf ρ1 ow b = none then ρb.own b else none) = _
    rw [h2]
    simp only [h1, if_true]; exact hb
   refine ⟨G3, ρ3, ?_⟩
   refine { agr := hagr3, le0 := Gh.le_trans hMb.le0 hle3, old := ?_, frame := ?_, size := Nat.le_trans hMb.size hg.size, os := hg.os.trans hMb.os, output := hg.output.trans hMb.output, pin := fun k' hk' => (sbx k' (.inr hk')).trans (hMb.pin k' hk'), pinR := fun k' hk' => ⟨(srw k' (.inr hk')).trans (hMb.pinR k' hk').1, (sob k' (.inr hk')).trans (hMb.pinR k' hk').2⟩, owned := ?_, boxes := ?_, rows := ?_, objs := ?_, hndI := fun hn => ?_, tmps := ?_, defers := ?_ }
   ·intro b hb hB
    have h1 : b < w.heap.size := Nat.lt_of_lt_of_le hb hMb.size
    have h2 : owOf ρ1 ow b = none := by
     cases h3 : owOf ρ1 ow b with
     | none => rfl
     | some i =>
      obtain ⟨o2, h4⟩ := hownb b (by rw [h3]; simp)
      rcases (hMb.owned b o2 h4).2.2 with h5 | h5
      ·omega
      ·exact absurd h5 hB
    simp only [G3, h1, h2, and_self, if_true]; exact hMb.old b hb hB
   ·intro b hb hB
    have h1 : b < w.heap.size := Nat.lt_of_lt_of_le hb hMb.size
    have h2 : owOf ρ1 ow b = none := by
     cases h3 : owOf ρ1 ow b with
     | none => rfl
     | some i =>
      obtain ⟨o2, h4⟩ := hownb b (by rw [h3]; simp)
      rcases (hMb.owned b o2 h4).2.2 with h5 | h5
      ·omega
      ·exact absurd h5 hB
    rw [(hg.old b h1 h2).1]; exact hMb.frame b hb hB
   ·intro b o' hb
    have hb' : (match ow' b with | some n => findOwn its n | none => if owOf ρ1 ow b = none then ρb.own b else none) = some o' := hb
    cases h1 : ow' b with
    | some i =>
     obtain ⟨h2, h3, h4⟩ := hg.own b i h1
     refine ⟨?_, h3, ?_⟩
     ·simp only [G3]
      rw [if_neg]
      ·exact h2
      ·rintro ⟨h5, h6⟩
       rcases h4 with h4 | h4
       ·omega
       ·exact h4 h6
     ·rcases h4 with h4 | h4
      ·exact .inl (Nat.le_trans hMb.size h4)
      ·obtain ⟨o2, h5⟩ := hownb b h4
       exact (hMb.owned b o2 h5).2.2
    | none =>
     rw [h1] at hb'
     simp only at hb'
     split at hb'
     ·rename_i h2
      have h3 := hMb.owned b o' hb'
      refine ⟨?_, Nat.lt_of_lt_of_le h3.2.1 hg.size, h3.2.2⟩
      simp only [G3, h3.2.1, h2, and_self, if_true]; exact h3.1
     ·cases hb'
   ·intro k' cs hk'
    simp only [look_append] at hk'
    rcases or_some hk' with h1 | ⟨n1, hk'⟩
    ·exact hP1.bx k' cs h1
    ·rcases or_some hk' with h1 | ⟨n2, hk'⟩
     ·exact hP2.bx k' cs h1
     ·rw [look_filterP (fun i => (lookO ow (.inl i)).isNone)] at hk'
      split at hk'
      ·rename_i hn
       have hnv : lookV vals (.inl k') = none := by
        cases hl : lookV vals (.inl k') with
        | none => rfl
        | some v =>
         obtain ⟨n, hn⟩ := inIts _ _ hl
         rw [← hits] at hn
         rcases List.mem_append.1 hn with h1 | h1
         ·have := (bk_keys (y := outBx sp.ps sp.rs y)).2.2 k' n h1
          rw [n2] at this; cases this
         ·have := ((rs_keys (y := y)).2.2 k' n h1).2.2
          rw [n1] at this; cases this
       have ebk : ρ3.bx k' = ρb.bx k' := by
        show (match lookV vals (.inl k') with | some v => blkOf v | none => ρb.bx k') = _
        rw [hnv]
       obtain ⟨h2, ws, T, h3, h4⟩ := hMb.boxes k' cs (by rw [eB]; exact hk')
       have h5 := howN _ _ h2 (by simpa using hn)
       rw [ebk]
       refine ⟨hkeep _ _ h2 h5, ws, T, ?_, All2.mono_mem (fun c hc v => CVDen.congr hle3 (hsame.boxes (k', cs) (look_mem hk') c hc)) h4⟩
       rw [(hg.old _ (heap_lt h3) h5).1]; exact h3
      ·cases hk'
   ·intro j q hj
    simp only [look_append] at hj
    rcases or_some hj with h1 | ⟨n1, hj⟩
    ·exact hP1.rw j q h1
    ·rcases or_some hj with h1 | ⟨n2, hj⟩
     ·exact hP2.rw j q h1
     ·rw [look_filterP (fun i => (lookO ow (.inr i)).isNone)] at hj
      split at hj
      ·rename_i hn
       have hnv : lookV vals (.inr j) = none := by
        cases hl : lookV vals (.inr j) with
        | none => rfl
        | some v =>
         obtain ⟨n, hn⟩ := inIts _ _ hl
         rw [← hits] at hn
         rcases List.mem_append.1 hn with h1 | h1
         ·have := (bk_keys (y := outBx sp.ps sp.rs y)).1 j n h1
          rw [n2] at this; cases this
         ·have := (rs_keys (y := y)).1 j n h1
          rw [n1] at this; cases this
       have erj : ρ3.rw j = ρb.rw j := by
        show (lookV vals (.inr j)).getD (ρb.rw j) = _
        rw [hnv]; rfl
       have hrow := hMb.rows j q (by rw [eR]; exact hj)
       have hk1 : RowOk Gb ρb w' j q := by
        unfold RowOk at hrow ⊢
        split
        ·rename_i hf; rw [if_pos hf] at hrow; exact hrow
        ·rename_i hf
         rw [if_neg hf] at hrow
         obtain ⟨xs, ⟨hlen, hor⟩, hl, hb⟩ := hrow
         refine ⟨xs, ⟨hlen, ?_⟩, hl, hb⟩
         rcases hor with h1 | ⟨g, cap, cur, hv, h0, hgg, rest⟩
         ·exact .inl h1
         ·refine .inr ⟨g, cap, cur, hv, h0, ?_, rest⟩
          have h5 := howN g _ (hb g (by rw [hv]; rfl)) (by simpa using hn)
          rw [(hg.old g (heap_lt hgg) h5).1]; exact hgg
       exact hk1.congr hle3 erj (fun b hb => hkeep b _ hb (howN b _ hb (by simpa using hn)))
      ·cases hj
   ·intro j q hj
    simp only [look_append] at hj
    rcases or_some hj with h1 | ⟨n1, hj⟩
    ·exact hP1.ob j q h1
    ·rcases or_some hj with h1 | ⟨n2, hj⟩
     ·exact hP2.ob j q h1
     ·rw [look_filterP (fun i => (lookO ow (.ob i)).isNone)] at hj
      split at hj
      ·rename_i hn
       have hn' : lookO ow (.ob j) = none := by simpa using hn
       have hnv : lookV vals (.ob j) = none := by
        cases hl : lookV vals (.ob j) with
        | none => rfl
        | some v =>
         obtain ⟨n, hn⟩ := inIts _ _ hl
         rw [← hits] at hn
         rcases List.mem_append.1 hn with h1 | h1
         ·have := (bk_keys (y := outBx sp.ps sp.rs y)).2.1 j n h1
          rw [n2] at this; cases this
         ·have := (rs_keys (y := y)).2.1 j n h1
          rw [n1] at this; cases this
       have eoj : ρ3.ob j = ρb.ob j := by
        show (match lookV vals (.ob j) with | some (.map (some b)) => Value.map (some b) | _ => ρb.ob j) = _
        rw [hnv]
       have esj : ρ3.st j = ρb.st j := by
        show (match lookV vals (.ob j) with | some v => stNow w' v | none => ρb.st j) = _
        rw [hnv]
       have hobj := hMb.objs j q (by rw [eO]; exact hj)
       cases q with
       | map kk vv l =>
        obtain ⟨b, es, clock, h1, h2, h3, h4, h5, h6⟩ := hobj
        have h7 := howN b _ h2 hn'
        exact ⟨b, es, clock, by rw [eoj]; exact h1, hkeep b _ h2 h7, by rw [(hg.old b (heap_lt h3) h7).1]; exact h3, h4.mono fun x y hxy => hxy.mono hle3, by rw [esj]; exact h5, h6⟩
       | ar fz t l =>
        obtain ⟨hja, hA⟩ := hobj
        subst hja
        have hna : hasAr sp.ps = false := by
         cases hh : hasAr sp.ps with
         | false => rfl
         | true =>
          obtain ⟨n, hn2⟩ := ownsIn_ar (S := S) (args := args) (i := 0) hh
          rw [how] at hn2
          have := lookO_some hn2
          rw [hn'] at this; cases this
        have hhn : G3.hnd = Gb.hnd := (hg.hnd hna).trans ehn.symm
        refine ⟨rfl, fun i b hb => hA.1 i b (by rw [← hhn]; exact hb), fun i i' b hb hb' => hA.2.1 i i' b (by rw [← hhn]; exact hb) (by rw [← hhn]; exact hb'), fun i z hz => ?_⟩
        obtain ⟨b, ws, T, f1, f2, f3, f4, f5⟩ := hA.2.2 i z hz
        have hob : owOf ρ1 ow b = none := by
         cases hx2 : owOf ρ1 ow b with
         | none => rfl
         | some n =>
          cases fz with
          | true => have := hgb b (by rw [hx2]; simp); rw [f2 rfl] at this; cases this
          | false => have := howN b _ (f3 rfl) hn'; rw [hx2] at this; cases this
        exact ⟨b, ws, T, by rw [hhn]; exact f1, fun e' => hle3 _ _ (f2 e'), fun e' => hkeep b _ (f3 e') hob, by rw [(hg.old b (heap_lt f4) hob).1]; exact f4, RepC.mono hle3 t z _ f5⟩
      ·cases hj
   ·obtain ⟨q1, q2⟩ := hMb.hndI hn
    have hna : hasAr sp.ps = false := by
     cases hh : hasAr sp.ps with
     | false => rfl
     | true =>
      obtain ⟨t, l, hl⟩ := packIn_ar hx hh
      exact absurd (show look Sb.objs arId = _ by rw [eO]; exact hl) (q2 t l)
    refine ⟨(hg.hnd hna).trans (ehn.symm.trans q1), fun t l hl => ?_⟩
    simp only [look_append] at hl
    rcases or_some hl with h1 | ⟨_, hl⟩
    ·obtain ⟨_, _, _, e⟩ := outObs_map h1; cases e
    ·rcases or_some hl with h1 | ⟨_, hl⟩
     ·obtain ⟨_, _, _, e⟩ := bkObjs_map hna h1; cases e
     ·rw [look_filterP (fun i => (lookO ow (.ob i)).isNone)] at hl
      split at hl
      ·exact q2 t l (by rw [eO]; exact hl)
      ·cases hl
   ·have hT : TmpsOk G3 ρ3 S a := by
     have h1 : TmpsOk Gb ρb S a := by
      have := hMb.tmps
      unfold TmpsOk at this ⊢
      rw [eT] at this; exact this
     exact h1.congr hle3 hsame
    have := hT.put o.dst (s := svOfXVs (outXVs sp.ps (o.dst.getD 0) sp.rs 0 y)) (v := retVal us) (fun _ _ => svOfXVs_ok hxv)
    cases hd : o.dst with
    | none => rw [hd] at this; exact this
    | some d => rw [hd] at this; exact this
   ·cases hd : o.dst <;> exact hMb.defers
  ·cases h

theorem Mod.dropTmp {P0 : Program} {C : Fr P0} {G : Gh} {ρ : Env} {S : St} {w : World} {a : Act} (h : Mod C G ρ S w a) (d : Option Tmp) : Mod C G ρ (dropTmp S d) w a := by
 unfold Dn.dropTmp
 split
 ·rename_i d
  split
  ·rename_i k _ _
   cases Nat.beq k d with
   | false => exact h
   | true =>
    refine { h.toMem.of_rows (S' := { S with tmps := S.tmps.set d (.v false [.any]) }) rfl rfl rfl with tmps := ⟨by simpa using h.tmps.1, fun i s hi => ?_⟩, defers := h.defers }
    have hi' : (S.tmps.set d (.v false [.any]))[i]? = some s := hi
    rw [List.getElem?_set] at hi'
    split at hi'
    ·split at hi'
     ·cases hi'; trivial
     ·cases hi'
    ·exact h.tmps.2 i s hi'
  ·exact h
 ·exact h

theorem callGenE_or {sp : FSpec} {S : St} {args : List SV} {d : Option Tmp} {k : St → Option β} {e : Option β} {r : β} (h : callGenE sp S args d k e = some r) : callGen sp S args d k = some r ∨ e = some r := by
 unfold callGenE at h
 unfold callGen
 simp only at h ⊢
 split at h
 ·cases h
 ·rename_i hc
  rw [if_neg hc]
  split at h
  ·rename_i x hx
   cases hm : sp.m x with
   | none => rw [hm] at h; exact .inr h
   | some y => rw [hm] at h; exact .inl h
  ·cases h
theorem lookAll_mem {α : Type} {l : List (Nat × α)} {k : Nat} {x : α} (h : x ∈ lookAll l k) : (k, x) ∈ l := by
 induction l with
 | nil => simp [lookAll] at h
 | cons p r ih =>
  obtain ⟨j, y⟩ := p
  simp only [lookAll] at h
  cases hb : Nat.beq j k with
  | true =>
   rw [hb] at h
   simp only [cond_true, List.mem_cons] at h
   have := Nat.eq_of_beq_eq_true hb
   subst this
   rcases h with h | h
   ·subst h; simp
   ·exact List.mem_cons_of_mem _ (ih h)
  | false => rw [hb] at h; simp only [cond_false] at h; exact List.mem_cons_of_mem _ (ih h)
theorem s_callAlts {c : Call} {f : Nat} {args : List SV} {k : St → Option β} (hX : SpecsOk X) (ho : o.op = .call c) (hcal : calleeOf S c = some (f, args)) : ∀ {l : List FSpec}, (∀ sp, sp ∈ l → (f, sp) ∈ X.specs) →
  callAlts S args o.dst k l = some r → ∃ S', k S' = some r ∧ SSound X.P o S S'
 | [], _, h => by cases h
 | [sp], hl, h => s_callGen hX ho hcal (hl sp (by simp)) h
 | sp :: sp' :: q, hl, h => by
  rcases callGenE_or h with h | h
  ·exact s_callGen hX ho hcal (hl sp (by simp)) h
  ·exact s_callAlts hX ho hcal (fun s hs => hl s (by simp [List.mem_cons] at hs ⊢; exact .inr hs)) h


theorem s_elt {c : Call} {f : Nat} {args : List SV} {kf : KeyF} {k : St → Option β} (hX : SpecsOk X) (ho : o.op = .call c) (hcal : calleeOf S c = some (f, args)) (hk : look X.keys f = some kf)
  (h : eltEv kf S args o.dst k = some r) : ∃ S', k S' = some r ∧ SSound X.P o S S' := by
 obtain ⟨hkey, hbody⟩ := hX.key f _ (look_mem hk)
 unfold eltEv at h
 split at h
 ·rename_i lo tb te m
  split at h
  ·rename_i kb o0 j sz i off
   split at h
   ·cases h
   rename_i hc0
   simp only [Bool.or_eq_true, not_or, Bool.not_eq_true, Bool.not_eq_false'] at hc0
   obtain ⟨⟨hd0, ho0⟩, hoff⟩ := hc0
   have hd : o.dst = none := by simpa using hd0
   have e0 := Nat.eq_of_beq_eq_true ho0
   have e1 := Nat.eq_of_beq_eq_true hoff
   subst e0; subst e1
   split at h
   ·rename_i cs q hcs hq
    split at h
    ·cases h
    rename_i hc1
    simp only [Bool.or_eq_true, not_or, Bool.not_eq_true, Bool.not_eq_false'] at hc1
    obtain ⟨hfz, hsz⟩ := hc1
    have hsz' := Nat.eq_of_beq_eq_true hsz
    subst hsz'
    split at h
    ·rename_i t0 l0 hlo
     split at h
     ·rename_i l ql hl hql
      obtain ⟨y, hy, h1⟩ := bind_some h
      obtain ⟨y', hy', h2⟩ := bind_some h1
      clear h h1
      obtain ⟨et, el⟩ := castL_some hl
      obtain ⟨eqt, eql⟩ := castL_some hql
      subst et; subst el
      obtain ⟨qf, qe, qt, qll⟩ := q
      dsimp only at eqt eql hfz hql
      subst eqt; subst eql; subst hfz
      refine ⟨_, h2, fun C G ρ w a Q hM => ?_⟩
      obtain ⟨vs, hvs, hrun⟩ := calleeOf_ok (S := S) (w := w) (G := G) (ρ := ρ) (a := a) ho hcal (fun z _ => hM.tmps.ev z) hbody
      obtain ⟨v1, us1, ev1, hv1, hr1⟩ := hvs
      subst ev1
      obtain ⟨v2, ev2, hv2⟩ := hr1.single
      subst ev2
      have hp1 : v1 = .pointer (some ⟨ρ.bx kb, 0, none⟩) := hv1
      obtain ⟨b, len, cap, e1, e2⟩ : ∃ b len cap, ρ.rw j = .slice (some ⟨b, 0, none⟩) len cap ∧ v2 = .pointer (some ⟨b, i * qt.size + 0, none⟩) := hv2
      rw [Nat.add_zero] at e2
      subst hp1; subst e2
      obtain ⟨hob, bvs, T, hbh, hbv⟩ := hM.boxes kb cs hcs
      have hrow := hM.rows j _ hq
      unfold RowOk at hrow
      rw [if_neg (by simp)] at hrow
      obtain ⟨xs, ⟨hlen2, hn | ⟨g, cap', cur, hv, _, hg, hnc, hcm, hcz, htake⟩⟩, hlr, hown⟩ := hrow
      ·have : qll = [] := List.eq_nil_of_length_eq_zero hn.2
       rw [this] at hy; simp at hy
      ·rw [e1] at hv
       cases hv
       have hgo := hown b (by rw [e1]; rfl)
       have hi := (List.getElem?_eq_some_iff.1 hy).1
       have hye := hlr.get (fun x cs hr => RepC.len hr) hy
       have hmul : i * qt.size + qt.size ≤ qll.length * qt.size := by rw [← Nat.succ_mul]; exact Nat.mul_le_mul_right _ hi
       have hmul2 : qll.length * qt.size ≤ cur.size := by rw [hcz]; exact Nat.mul_le_mul_right _ hnc
       obtain ⟨u, hu1, hu2⟩ := hbv.get hlo
       have hBR : ρ.bx kb ≠ b := fun e => by rw [e, hgo] at hob; cases hob
       have hye' : RepC G qt y ((cur.toList.drop (i * qt.size)).take qt.size) := by
        have : (xs.drop (i * qt.size)).take qt.size = (cur.toList.drop (i * qt.size)).take qt.size := by
         rw [← htake]
         apply List.ext_getElem?
         intro n
         by_cases hn : n < qt.size
         ·simp only [List.getElem?_take, List.getElem?_drop]
          rw [if_pos hn, if_pos hn, if_pos (by omega)]
         ·simp [List.getElem?_take, hn]
        rw [← this]; exact hye
       have hcall := hkey G w (ρ.bx kb) b i bvs T qe cur l0 y y' hM.agr (C.tab.mono hM.le0) hBR hbh ⟨u, hu1, hu2⟩ hg (hM.owned _ _ hob).1 (hM.owned _ _ hgo).1 (by omega) hye' hy'
       unfold Oper.wp
       rw [hrun]
       refine hcall.mono ?_
       rintro e w' ⟨rfl, hos, hout, hsize, hold, us, hus, hw'⟩
       have hlu := hus.len
       have hset' := RepL.set (R := RepC G qt) (n := qt.size) (fun x cs hr => RepC.len hr) hus hlr hi
       simp only [hd, Oper.upon, Act.put]
       refine ⟨G, ρ, hM.setRow (q := ⟨false, qe, qt, qll⟩) (r := ⟨false, qe, qt, qll.set i y'⟩) hq rfl rfl (b := b) (by rw [e1]; rfl) ⟨hos, hout, hsize, fun b' hb' hne => hold b' hb' (fun e => hne (by rw [e]))⟩ _ ?_ hset'⟩
       refine ⟨?_, .inr ⟨b, cap, _, ?_, Nat.zero_le _, hw', ?_, hcm, ?_, ?_⟩⟩
       ·have := hset'.len (fun x cs hr => RepC.len hr)
        simpa using this
       ·rw [e1]; simp
       ·simpa using hnc
       ·rw [← hcz]
        simp
        omega
       ·simp only [List.length_set]
        have := splice_take cur.toList us (qll.length * qt.size) (i * qt.size) qt.size 0 hmul (by simpa using hmul2) (by omega)
        simp only [Nat.add_zero, List.take_zero, List.nil_append, Nat.zero_add, hlu] at this
        have h2 : (((cur.toList.take (qll.length * qt.size)).drop (i * qt.size)).take qt.size).drop qt.size = [] := List.drop_of_length_le (by simp; omega)
        rw [h2, List.append_nil, htake] at this
        exact this
     ·cases h
    ·cases h
   ·cases h
  ·cases h
 ·cases h

theorem sEval_ok {k : St → Option β} (hX : SpecsOk X) (h : sEval X o S k = some r) : ∃ S', k S' = some r ∧ SSound X.P o S S' := by
 have dflt : lEval X o S S (fun x => k (S.app o.dst x)) = some r → ∃ S', k S' = some r ∧ SSound X.P o S S' := fun h => by
  obtain ⟨x, hk, hl, hf⟩ := lEval_ok hX h
  exact ⟨_, hk, .of_l hl hf⟩
 cases ho : o.op with
 | store t x y =>
  unfold sEval at h
  rw [ho] at h
  simp only at h
  split at h
  ·cases h
  rename_i hd0
  have hd : o.dst = none := by simpa using hd0
  split at h
  ·rename_i b off ag cs hx hy
   exact s_storeBox ho hd hx hy h
  ·rename_i j sz i off ag cs hx hy
   obtain ⟨S', h1, h2⟩ := s_storeRow (S := freezeRows S (rowsIn cs)) ho hd (by rw [freeze_ev]; exact hx) (by rw [freeze_ev]; exact hy) h
   exact ⟨S', h1, h2.freeze _⟩
  ·rename_i i off ag cs hx hy
   obtain ⟨S', h1, h2⟩ := s_storeAr (S := freezeRows S (rowsIn cs)) ho hd (by rw [freeze_ev]; exact hx) (by rw [freeze_ev]; exact hy) h
   exact ⟨S', h1, h2.freeze _⟩
  ·cases h
 | mapUpdate t m kx x =>
  unfold sEval at h
  rw [ho] at h
  simp only at h
  split at h
  ·cases h
  rename_i hd0
  have hd : o.dst = none := by simpa using hd0
  split at h
  ·rename_i kt et j ht hm
   split at h
   ·rename_i kk vv l hl
    split at h
    ·rename_i key y hk hy
     split at h
     ·rename_i hc
      simp only [Bool.and_eq_true, Bool.not_eq_true'] at hc
      exact ⟨_, h, ((s_mapUpdate ho hd ht hm hl hk hy hc.1 hc.2).intern _).freeze _⟩
     ·cases h
    ·cases h
   ·cases h
  ·cases h
 | slice t x lo hi mx =>
  unfold sEval at h
  rw [ho] at h
  simp only at h
  obtain ⟨x, hk, hl, hf⟩ := lEval_ok hX h
  exact ⟨_, hk, (SSound.of_l hl hf).freeze _⟩
 | alloc t =>
  unfold sEval at h
  rw [ho] at h
  simp only at h
  obtain ⟨x, hk, hl, hf⟩ := lEval_ok hX h
  exact ⟨_, hk, fun C G ρ w a Q hM => SSound.of_l hl hf C G ρ w a Q (hM.dropTmp _)⟩
 | buildSlice t len parts =>
  unfold sEval at h
  rw [ho] at h
  simp only at h
  obtain ⟨x, hk, hl, hf⟩ := l_buildSlice ho h
  exact ⟨_, hk, ((SSound.of_l hl hf).intern _).freeze _⟩
 | call c =>
  obtain ⟨callee, args, argTypes⟩ := c
  by_cases hb : callee = .builtin .append
  ·subst hb
   exact s_append ho h
  ·have key : sEval X o S k = (match calleeOf S ⟨callee, args, argTypes⟩ with
    | some (f, args) => (match look X.keys f with
     | some kf => if kf.isElt then eltEv kf S args o.dst k else lEval X o S S fun x => k (S.app o.dst x)
     | none => callAlts S args o.dst k (lookAll X.specs f))
    | none => lEval X o S S fun x => k (S.app o.dst x)) := by
    unfold sEval
    rw [ho]
    cases callee with
    | builtin b => cases b <;> first | rfl | exact absurd rfl hb
    | value f => rfl
    | invoke r m => rfl
   rw [key] at h
   split at h
   ·rename_i f args' hcal
    split at h
    ·rename_i kf hkf
     split at h
     ·exact s_elt hX ho hcal hkf h
     ·exact dflt h
    ·exact s_callAlts hX ho hcal (fun _ h => lookAll_mem h) h
   ·exact dflt h
 | _ =>
  unfold sEval at h
  rw [ho] at h
  exact dflt h

end Go.Dn

namespace Go.Dn
variable {β : Type} {X : Cx} {S : St} {r : β} {C : Fr X.P} {G : Gh} {ρ : Env} {w : World}

theorem ev_bool {a : Act} {d : Nat} {b : Bool} (hT : TmpsOk G ρ S a) (h : S.ev (.tmp d) = .v false [.bool b]) : S.put (some d) (.v false [.bool b]) = S ∧ a.tmps[d]? = some (.bool b) := by
 have hv := hT.ev (.tmp d)
 rw [h] at hv
 have hv' : a.eval (.tmp d) = .bool b := hv
 simp only [St.ev] at h
 rw [List.getD_eq_getElem?_getD] at h
 cases hs : S.tmps[d]? with
 | none => rw [hs] at h; cases h
 | some s =>
  rw [hs] at h
  simp only [Option.getD_some] at h
  subst h
  obtain ⟨hlt, he⟩ := List.getElem?_eq_some_iff.1 hs
  constructor
  ·simp only [St.put]
   have : S.tmps.set d (.v false [.bool b]) = S.tmps := by rw [← he]; exact List.set_getElem_self hlt
   rw [this]
  ·simp only [Act.eval, Array.getD_eq_getD_getElem?] at hv'
   have hlt' : d < a.tmps.size := by rw [hT.1]; exact hlt
   rw [Array.getElem?_eq_getElem hlt'] at hv' ⊢
   simpa using hv'

theorem guard_ok {ops : List Oper} {o : Oper} {a : Act} {g : Option (Nat × Bool × Bool)} (hT : TmpsOk G ρ S a) (h : guardOf ops o S = some g) :
  match g with
  | none => Region.wanted o (yielded ops.toArray a.tmps) = true
  | some (d, b, want) => S.put (some d) (.v false [.bool b]) = S ∧ Region.wanted o (yielded ops.toArray a.tmps) = (b == want) := by
 unfold guardOf at h
 cases hg : o.guard with
 | none =>
  rw [hg] at h
  cases h
  simp [Region.wanted, hg]
 | some p =>
  obtain ⟨j, want⟩ := p
  rw [hg] at h
  simp only at h
  split at h
  ·rename_i o' ho'
   split at h
   ·rename_i d hd
    split at h
    ·rename_i b hb
     cases h
     obtain ⟨h1, h2⟩ := ev_bool hT hb
     refine ⟨h1, ?_⟩
     have hy : yielded ops.toArray a.tmps j = some b := by
      simp [yielded, ho', hd, h2]
     simp only [Region.wanted, hg, hy]
     cases b <;> cases want <;> rfl
    ·cases h
   ·cases h
  ·cases h

theorem und_ok : SVDen G ρ undSV undef := ⟨[], rfl, rfl⟩

theorem skips_ok {ops : List Oper} {o : Oper} {a : Act} (hT : TmpsOk G ρ S a) (h : skips ops o S = true) : Region.wanted o (yielded ops.toArray a.tmps) = false := by
 unfold skips at h
 cases hg : o.guard with
 | none => rw [hg] at h; cases h
 | some p =>
  obtain ⟨j, want⟩ := p
  rw [hg] at h
  simp only at h
  split at h
  ·rename_i o' ho'
   split at h
   ·rename_i d hd
    split at h
    ·rename_i hb
     have hv := hT.ev (.tmp d)
     rw [hb] at hv
     obtain ⟨vs, hv, hn⟩ := hv
     have hn' : vs = [] := hn
     subst hn'
     have hy : yielded ops.toArray a.tmps j = none := by
      have hv' : a.tmps.getD d undef = .tuple #[] := hv
      simp only [yielded]
      have : (ops.toArray[j]?).bind (fun x => x.dst) = some d := by simp [ho', hd]
      rw [this]
      simp only [Option.bind_some]
      cases hs : a.tmps[d]? with
      | none => rfl
      | some v =>
       rw [Array.getD_eq_getD_getElem?, hs] at hv'
       simp only [Option.getD_some] at hv'
       subst hv'
       rfl
     simp [Region.wanted, hg, hy]
    ·cases h
   ·cases h
  ·cases h

theorem fork_ok {d : Nat} {b want : Bool} {yes no : St → Option β} (hS : S.put (some d) (.v false [.bool b]) = S) (h : fork S d b want yes no = some r) : ((b == want) = true ∧ yes S = some r) ∨ ((b == want) = false ∧ no S = some r) := by
 unfold fork at h
 cases want <;> cases b <;> simp only [cond_true, cond_false] at h <;> rw [hS] at h
 ·exact .inl ⟨rfl, h⟩
 ·exact .inr ⟨rfl, h⟩
 ·exact .inr ⟨rfl, h⟩
 ·exact .inl ⟨rfl, h⟩

theorem runOps_ok (hX : SpecsOk X) (ops : List Oper) : ∀ (l : List Oper) {S : St} {k : St → Option β} {r : β}, runOps X ops l S k = some r → ∀ {Q : Exit → Act → World → Prop},
  (∀ S' G ρ w a, k S' = some r → Mod C G ρ S' w a → Q .normal a w) → ∀ {G ρ w a}, Mod C G ρ S w a → wpList X.P ops.toArray Q l a w
 | [], S, k, r, h, Q, hQ, G, ρ, w, a, hM => hQ S G ρ w a h hM
 | o :: rest, S, k, r, h, Q, hQ, G, ρ, w, a, hM => by
  have step : sEval X o S (fun S => runOps X ops rest S k) = some r → o.wp X.P a w (wpList X.P ops.toArray Q rest) Q := fun h => by
   obtain ⟨S', h1, h2⟩ := sEval_ok hX h
   have := h2 C G ρ w a Q hM
   exact Oper.wp_mono (fun a' w' ⟨G', ρ', hM'⟩ => runOps_ok hX ops rest h1 hQ hM') this
  have skip : runOps X ops rest (S.put o.dst undSV) k = some r → wpList X.P ops.toArray Q rest (a.put o.dst undef) w := fun h =>
   runOps_ok hX ops rest h hQ (hM.put o.dst (fun _ _ => und_ok))
  simp only [runOps] at h
  split at h
  ·cases hs : skips ops o S with
   | false => rw [hs] at h; cases h
   | true =>
    rw [hs] at h
    have hw := skips_ok hM.tmps hs
    simp only [wpList, hw]
    rw [if_neg (by simp)]; exact skip h
  ·rename_i hg
   have hw := guard_ok hM.tmps hg
   simp only at hw
   simp only [wpList, hw, if_true]
   exact .inl (step h)
  ·rename_i d b want hg
   obtain ⟨hS, hw⟩ := guard_ok hM.tmps hg
   simp only [wpList, hw]
   rcases fork_ok hS h with ⟨hb, h⟩ | ⟨hb, h⟩
   ·rw [if_pos hb]; exact .inl (step h)
   ·rw [if_neg (by simp [hb])]; exact skip h

theorem wp_region_list {P : Program} {id : Nat} {ops : Array Oper} {Q : Exit → Act → World → Prop} {a : Act} {w : World} (h : wpList P ops Q ops.toList a w) : (Code.region id ops false).wp P Q a w := by
 apply wp_region
 have e := wpOps_eq_wpList (P := P) (ops := ops) (Q := Q) ops.toList 0 (fun j => by simp)
 have e2 : List.range ops.size = List.range' 0 ops.toList.length := by rw [List.range_eq_range']; simp
 rw [e2, e]
 exact h

/-! what a loop takes along -/

def hdVals (base : Nat) : List CK → List Value → List (Nat × Value)
 | .val t :: r, vs => hdVals base r (vs.drop t.size)
 | .own _ _ :: r, v :: q => (base, v) :: hdVals (base + 1) r q
 | .map _ _ :: r, v :: q => (base, v) :: hdVals (base + 1) r q
 | .ref _ _ :: r, _ :: q => hdVals base r q
 | .fn _ _ :: r, _ :: q => hdVals base r q
 | .ar _ :: r, q => hdVals base r q
 | .arF _ :: r, q => hdVals base r q
 | .rowR _ :: r, _ :: q => hdVals base r q
 | .mapR _ :: r, _ :: q => hdVals base r q
 | .rowC _ _ _ :: r, q => hdVals base r q
 | .mapC _ _ _ :: r, q => hdVals base r q
 | _, _ => []

theorem hdVals_ge : ∀ {cks : List CK} {base : Nat} {vs : List Value} {i : Nat} {v : Value}, look (hdVals base cks vs) i = some v → base ≤ i ∧ i < base + cks.length
 | [], base, vs, i, v, h => by simp [hdVals, look] at h
 | .val t :: r, base, vs, i, v, h => by
  simp only [hdVals] at h
  have := hdVals_ge (cks := r) h; simp; omega
 | .ar t :: r, base, vs, i, v, h => by
  have : look (hdVals base r vs) i = some v := by cases vs <;> exact h
  have := hdVals_ge (cks := r) this; simp; omega
 | .arF t :: r, base, vs, i, v, h => by
  have : look (hdVals base r vs) i = some v := by cases vs <;> exact h
  have := hdVals_ge (cks := r) this; simp; omega
 | .rowC _ _ _ :: r, base, vs, i, v, h => by
  have : look (hdVals base r vs) i = some v := by cases vs <;> exact h
  have := hdVals_ge (cks := r) this; simp; omega
 | .mapC _ _ _ :: r, base, vs, i, v, h => by
  have : look (hdVals base r vs) i = some v := by cases vs <;> exact h
  have := hdVals_ge (cks := r) this; simp; omega
 | .own _ _ :: r, base, [], i, v, h => by simp [hdVals, look] at h
 | .map _ _ :: r, base, [], i, v, h => by simp [hdVals, look] at h
 | .ref _ _ :: r, base, [], i, v, h => by simp [hdVals, look] at h
 | .fn _ _ :: r, base, [], i, v, h => by simp [hdVals, look] at h
 | .rowR _ :: r, base, [], i, v, h => by simp [hdVals, look] at h
 | .mapR _ :: r, base, [], i, v, h => by simp [hdVals, look] at h
 | .own _ _ :: r, base, u :: q, i, v, h => by
  simp only [hdVals, look_cons] at h
  split at h
  ·simp; omega
  ·have := hdVals_ge h; simp; omega
 | .map _ _ :: r, base, u :: q, i, v, h => by
  simp only [hdVals, look_cons] at h
  split at h
  ·simp; omega
  ·have := hdVals_ge h; simp; omega
 | .ref _ _ :: r, base, u :: q, i, v, h => by have := hdVals_ge (cks := r) (vs := q) h; simp; omega
 | .fn _ _ :: r, base, u :: q, i, v, h => by have := hdVals_ge (cks := r) (vs := q) h; simp; omega
 | .rowR _ :: r, base, u :: q, i, v, h => by have := hdVals_ge (cks := r) (vs := q) h; simp; omega
 | .mapR _ :: r, base, u :: q, i, v, h => by have := hdVals_ge (cks := r) (vs := q) h; simp; omega
theorem newN_le : ∀ (cks : List CK), newN cks ≤ cks.length
 | [] => Nat.le_refl _
 | c :: r => by
  have := newN_le r
  cases c <;> simp only [newN, List.length_cons] <;> omega
theorem hdVals_new : ∀ {cks : List CK} {base : Nat} {vs : List Value} {i : Nat} {v : Value}, look (hdVals base cks vs) i = some v → i < base + newN cks
 | [], base, vs, i, v, h => by simp [hdVals, look] at h
 | .val t :: r, base, vs, i, v, h => by
  simp only [hdVals] at h
  have := hdVals_new (cks := r) h; simp only [newN]; omega
 | .ar t :: r, base, vs, i, v, h => by
  have : look (hdVals base r vs) i = some v := by cases vs <;> exact h
  have := hdVals_new (cks := r) this; simp only [newN]; omega
 | .arF t :: r, base, vs, i, v, h => by
  have : look (hdVals base r vs) i = some v := by cases vs <;> exact h
  have := hdVals_new (cks := r) this; simp only [newN]; omega
 | .rowC _ _ _ :: r, base, vs, i, v, h => by
  have : look (hdVals base r vs) i = some v := by cases vs <;> exact h
  have := hdVals_new (cks := r) this; simp only [newN]; omega
 | .mapC _ _ _ :: r, base, vs, i, v, h => by
  have : look (hdVals base r vs) i = some v := by cases vs <;> exact h
  have := hdVals_new (cks := r) this; simp only [newN]; omega
 | .own _ _ :: r, base, [], i, v, h => by simp [hdVals, look] at h
 | .map _ _ :: r, base, [], i, v, h => by simp [hdVals, look] at h
 | .ref _ _ :: r, base, [], i, v, h => by simp [hdVals, look] at h
 | .fn _ _ :: r, base, [], i, v, h => by simp [hdVals, look] at h
 | .rowR _ :: r, base, [], i, v, h => by simp [hdVals, look] at h
 | .mapR _ :: r, base, [], i, v, h => by simp [hdVals, look] at h
 | .own _ _ :: r, base, u :: q, i, v, h => by
  simp only [hdVals, look_cons] at h
  split at h
  ·simp only [newN]; omega
  ·have := hdVals_new h; simp only [newN]; omega
 | .map _ _ :: r, base, u :: q, i, v, h => by
  simp only [hdVals, look_cons] at h
  split at h
  ·simp only [newN]; omega
  ·have := hdVals_new h; simp only [newN]; omega
 | .ref _ _ :: r, base, u :: q, i, v, h => by have := hdVals_new (cks := r) (vs := q) h; simp only [newN]; omega
 | .fn _ _ :: r, base, u :: q, i, v, h => by have := hdVals_new (cks := r) (vs := q) h; simp only [newN]; omega
 | .rowR _ :: r, base, u :: q, i, v, h => by have := hdVals_new (cks := r) (vs := q) h; simp only [newN]; omega
 | .mapR _ :: r, base, u :: q, i, v, h => by have := hdVals_new (cks := r) (vs := q) h; simp only [newN]; omega

theorem packArF_ok {t : Ty} {l : List t.den} (h : packArF S t = some l) : look S.objs arId = some (.ar true t l) := by
 unfold packArF at h
 split at h
 ·rename_i ty l' hl
  unfold castL at h
  split at h
  ·rename_i e
   subst e
   cases h
   exact hl
  ·cases h
 ·cases h

theorem carryL_ok {ow : List (Ownr × Nat)} (hM : Mem C G ρ S w) (ρ' : Env) (hbx : ρ'.bx = ρ.bx)
  (hor : ∀ j n, lookO ow (.inr j) = some n → ∀ b, ρ.own b = some (.inr j) → ρ'.own b = some (.inr n))
  (hoo : ∀ j n, lookO ow (.ob j) = some n → (∀ b, ρ.own b = some (.ob j) → ρ'.own b = some (.ob n)) ∧ ρ'.st n = ρ.st j)
  {nn : Nat} (hfx : ∀ j, (j < rowBase ∨ rowBase + nn ≤ j) → ρ'.rw j = ρ.rw j ∧ ρ'.ob j = ρ.ob j) : ∀ {cks : List CK} {cvs : List CV} {x : ckDen cks} {vs : List Value} {base : Nat},
  cks.all (CK.fixOk nn) = true → carryL S cks cvs = some x → All2 (CVDen G ρ) cvs vs → (∀ i v, look (hdVals base cks vs) i = some v → ρ'.rw i = v ∧ ρ'.ob i = v) → (∀ p, p ∈ carried base cks cvs → lookO ow p.1 = some p.2) →
  All2 (CVDen G ρ') (headCV base cks x) vs ∧ (∀ j q, look (headRows base cks x) j = some q → RowOk G ρ' w j q) ∧ (∀ j q, look (headObjs base cks x) j = some q → ObjOk G ρ' w j q)
 | [], [], x, vs, base, _, h, hv, _, _ => ⟨hv, fun j q hj => by simp [headRows, look] at hj, fun j q hj => by simp [headObjs, look] at hj⟩
 | [], _ :: _, x, vs, base, _, h, hv, _, _ => by simp [carryL] at h
 | .own e t :: r, [], x, vs, base, _, h, hv, _, _ => by simp [carryL] at h
 | .map e t :: r, [], x, vs, base, _, h, hv, _, _ => by simp [carryL] at h
 | .ref _ _ :: r, [], x, vs, base, _, h, hv, _, _ => by simp [carryL] at h
 | .rowR _ :: r, [], x, vs, base, _, h, hv, _, _ => by simp [carryL] at h
 | .mapR _ :: r, [], x, vs, base, _, h, hv, _, _ => by simp [carryL] at h
 | .fn _ _ :: r, [], x, vs, base, _, h, hv, _, _ => by simp [carryL] at h
 | .val t :: r, cvs, x, vs, base, hfo, h, hv, hval, hcar => by
  have hfo' : r.all (CK.fixOk nn) = true := by simp only [List.all_cons, Bool.and_eq_true] at hfo; exact hfo.2
  simp only [carryL] at h
  split at h
  ·rename_i y q hy
   split at h
   ·rename_i z hz
    cases h
    obtain ⟨a, b, e, h1, h2⟩ := pack_ok hM.frozen t cvs y q vs hy hv
    have hr := packB_rest t hy
    have hlen := h1.len
    have hb : vs.drop t.size = b := by rw [e, ← hlen, List.drop_left]
    obtain ⟨g1, g2, g3⟩ := carryL_ok hM ρ' hbx hor hoo hfx (base := base) hfo' hz h2 (fun i v hi => hval i v (by simp only [hdVals, hb]; exact hi)) (fun p hp => hcar p (by simp only [carried, ← hr]; exact hp))
    refine ⟨?_, g2, g3⟩
    rw [e]
    exact (unpack_ok ρ' h1).append g1
   ·cases h
  ·cases h
 | .ref k off :: r, c :: q, x, vs, base, hfo, h, ⟨v, us, e, hc, hq⟩, hval, hcar => by
  have hfo' : r.all (CK.fixOk nn) = true := by simp only [List.all_cons, Bool.and_eq_true] at hfo; exact hfo.2
  subst e
  simp only [carryL] at h
  split at h
  ·rename_i k' off'
   replace h : (if (k.beq k' && off.beq off') = true then carryL S r q else none) = (some x : Option (ckDen r)) := h
   split at h
   ·rename_i hk
    simp only [Bool.and_eq_true] at hk
    have e1 := Nat.eq_of_beq_eq_true hk.1
    have e2 := Nat.eq_of_beq_eq_true hk.2
    subst e1; subst e2
    obtain ⟨g1, g2, g3⟩ := carryL_ok (cks := r) hM ρ' hbx hor hoo hfx (base := base) hfo' h hq hval hcar
    exact ⟨⟨v, us, rfl, by show v = _; rw [hbx]; exact hc, g1⟩, g2, g3⟩
   ·cases h
  ·cases h
 | .fn g ks :: r, c :: q, x, vs, base, hfo, h, ⟨v, us, e, hc, hq⟩, hval, hcar => by
  have hfo' : r.all (CK.fixOk nn) = true := by simp only [List.all_cons, Bool.and_eq_true] at hfo; exact hfo.2
  subst e
  simp only [carryL] at h
  split at h
  ·rename_i g' ks'
   replace h : (if (g.beq g' && ks == ks') = true then carryL S r q else none) = (some x : Option (ckDen r)) := h
   split at h
   ·rename_i hk
    simp only [Bool.and_eq_true] at hk
    have e1 := Nat.eq_of_beq_eq_true hk.1
    have e2 : ks = ks' := by simpa using hk.2
    subst e1; subst e2
    obtain ⟨g1, g2, g3⟩ := carryL_ok (cks := r) hM ρ' hbx hor hoo hfx (base := base) hfo' h hq hval hcar
    exact ⟨⟨v, us, rfl, by show v = _; rw [hbx]; exact hc, g1⟩, g2, g3⟩
   ·cases h
  ·cases h
 | .ar t :: r, q, x, vs, base, hfo, h, hv, hval, hcar => by
  have hfo' : r.all (CK.fixOk nn) = true := by simp only [List.all_cons, Bool.and_eq_true] at hfo; exact hfo.2
  simp only [carryL] at h
  split at h
  ·rename_i l y hl hy
   cases h
   obtain ⟨f, hlk, hf⟩ := packAr_ok hl
   have := hf rfl
   subst this
   have ec : carried base (.ar t :: r) q = (.ob arId, arId) :: carried base r q := by cases q <;> rfl
   have ev : hdVals base (.ar t :: r) vs = hdVals base r vs := by cases vs <;> rfl
   rw [ec] at hcar
   rw [ev] at hval
   obtain ⟨g1, g2, g3⟩ := carryL_ok (cks := r) hM ρ' hbx hor hoo hfx (base := base) hfo' hy hv hval (fun p hp => hcar p (by simp [hp]))
   refine ⟨g1, g2, fun j q' hj => ?_⟩
   simp only [headObjs, look_cons] at hj
   split at hj
   ·rename_i ej
    subst ej
    cases hj
    obtain ⟨_, h1, h2, h3⟩ := hM.objs arId _ hlk
    have hown := (hoo arId arId (hcar (.ob arId, arId) (by simp))).1
    refine ⟨rfl, h1, h2, fun i z hz => ?_⟩
    obtain ⟨b, ws, T, f1, f2, f3, f4, f5⟩ := h3 i z hz
    exact ⟨b, ws, T, f1, nofun, fun _ => hown b (f3 rfl), f4, f5⟩
   ·exact g3 j q' hj
  ·cases h
 | .arF t :: r, q, x, vs, base, hfo, h, hv, hval, hcar => by
  have hfo' : r.all (CK.fixOk nn) = true := by simp only [List.all_cons, Bool.and_eq_true] at hfo; exact hfo.2
  simp only [carryL] at h
  split at h
  ·rename_i l y hl hy
   cases h
   have hlk := packArF_ok hl
   have ec : carried base (.arF t :: r) q = carried base r q := by cases q <;> rfl
   have ev : hdVals base (.arF t :: r) vs = hdVals base r vs := by cases vs <;> rfl
   rw [ec] at hcar
   rw [ev] at hval
   obtain ⟨g1, g2, g3⟩ := carryL_ok (cks := r) hM ρ' hbx hor hoo hfx (base := base) hfo' hy hv hval hcar
   refine ⟨g1, g2, fun j q' hj => ?_⟩
   simp only [headObjs, look_cons] at hj
   split at hj
   ·rename_i ej
    subst ej
    cases hj
    obtain ⟨_, h1, h2, h3⟩ := hM.objs arId _ hlk
    refine ⟨rfl, h1, h2, fun i z hz => ?_⟩
    obtain ⟨b, ws, T, f1, f2, f3, f4, f5⟩ := h3 i z hz
    exact ⟨b, ws, T, f1, f2, nofun, f4, f5⟩
   ·exact g3 j q' hj
  ·cases h
 | .own e' t :: r, c :: q, x, vs, base, hfo, h, ⟨v, us, e, hc, hq⟩, hval, hcar => by
  have hfo' : r.all (CK.fixOk nn) = true := by simp only [List.all_cons, Bool.and_eq_true] at hfo; exact hfo.2
  subst e
  have hv : ρ'.rw base = v := (hval base v (by simp [hdVals, look_cons])).1
  have hval' : ∀ i u, look (hdVals (base + 1) r us) i = some u → ρ'.rw i = u ∧ ρ'.ob i = u := fun i u hi => hval i u (by
   simp only [hdVals, look_cons]
   rw [if_neg (by have := hdVals_ge hi; omega)]
   exact hi)
  simp only [carryL] at h
  split at h
  ·rename_i l y hl hy
   cases h
   obtain ⟨g1, g2, g3⟩ := carryL_ok hM ρ' hbx hor hoo hfx (base := base + 1) hfo' hy hq hval' (fun p hp => hcar p (by simp [carried, hp]))
   obtain ⟨h1, h2⟩ := packRowC_ok (ow := ow) (n := base) hM (Gh.le_refl G) hl hc (fun p hp => hcar p (by simp [carried, hp]))
   refine ⟨⟨v, us, rfl, ⟨hv.symm, ?_⟩, g1⟩, fun j q' hj => ?_, g3⟩
   ·obtain ⟨xs, ho, _⟩ := h1
    rcases ho.2 with ⟨e, _⟩ | ⟨g, cap, cur, e, _⟩
    ·exact ⟨_, _, _, e⟩
    ·exact ⟨_, _, _, e⟩
   ·simp only [headRows, look_cons] at hj
    split at hj
    ·rename_i ej
     subst ej
     cases hj
     unfold RowOk
     rw [if_neg (by simp), hv]
     obtain ⟨xs, ho, hr⟩ := h1
     refine ⟨xs, ho, hr, fun b hb => ?_⟩
     have hown := h2 b hb
     unfold owOf at hown
     cases h3 : ρ.own b with
     | none => rw [h3] at hown; cases hown
     | some o' =>
      rw [h3] at hown
      simp only [Option.bind_some] at hown
      -- whose it was
      have : ∃ j, o' = .inr j := by
       cases c <;> simp only [packRowC] at hl <;> try cases hl
       case row j0 =>
        split at hl
        ·rename_i q0 hq0
         split at hl
         ·cases hl
         ·rename_i hcnd
          simp only [Bool.or_eq_true, not_or, Bool.not_eq_true, Bool.not_eq_false'] at hcnd
          have hrow := hM.rows j0 q0 hq0
          unfold RowOk at hrow
          rw [if_neg (by simp [hcnd.1])] at hrow
          obtain ⟨_, _, _, hob⟩ := hrow
          have hc1 := hc.1
          rw [hc1] at hb
          have := hob b hb
          rw [h3] at this
          exact ⟨j0, by simpa using this⟩
        ·cases hl
       case nils =>
        have hvn : v = .slice none 0 0 := hc
        rw [hvn] at hb; cases hb
      obtain ⟨j0, rfl⟩ := this
      exact hor j0 base hown b h3
    ·exact g2 j q' hj
  ·cases h
 | .map kk vv :: r, c :: q, x, vs, base, hfo, h, ⟨v, us, e, hc, hq⟩, hval, hcar => by
  have hfo' : r.all (CK.fixOk nn) = true := by simp only [List.all_cons, Bool.and_eq_true] at hfo; exact hfo.2
  subst e
  have hv : ρ'.ob base = v := (hval base v (by simp [hdVals, look_cons])).2
  have hval' : ∀ i u, look (hdVals (base + 1) r us) i = some u → ρ'.rw i = u ∧ ρ'.ob i = u := fun i u hi => hval i u (by
   simp only [hdVals, look_cons]
   rw [if_neg (by have := hdVals_ge hi; omega)]
   exact hi)
  simp only [carryL] at h
  split at h
  ·rename_i l y hl hy
   cases h
   obtain ⟨g1, g2, g3⟩ := carryL_ok hM ρ' hbx hor hoo hfx (base := base + 1) hfo' hy hq hval' (fun p hp => hcar p (by simp [carried, hp]))
   cases c <;> simp only [packMapC] at hl <;> try cases hl
   case mp j0 =>
    split at hl
    ·rename_i k' v' l' hlk
     obtain ⟨e1, e2, e3⟩ := castM_some hl
     subst e1; subst e2; subst e3
     obtain ⟨b, es, clock, f1, f2, f3, f4, f5, f6⟩ := hM.objs j0 _ hlk
     have hlo := hcar (.ob j0, base) (by simp [carried, ownsC])
     obtain ⟨ho1, ho2⟩ := hoo j0 base hlo
     have hvb : v = .map (some b) := hc.1.trans f1
     refine ⟨⟨v, us, rfl, ⟨hv.symm, b, hvb⟩, g1⟩, g2, fun j q' hj => ?_⟩
     simp only [headObjs, look_cons] at hj
     split at hj
     ·rename_i ej
      subst ej
      cases hj
      exact ⟨b, es, clock, hv.trans hvb, ho1 b f2, f3, f4, by rw [ho2]; exact f5, f6⟩
     ·exact g3 j q' hj
    ·cases hl
  ·cases h
 | .rowR j :: r, c :: q, x, vs, base, hfo, h, ⟨v, us, e, hc, hq⟩, hval, hcar => by
  simp only [List.all_cons, Bool.and_eq_true] at hfo
  subst e
  simp only [carryL] at h
  split at h
  ·rename_i j'
   replace h : (if j.beq j' = true then carryL S r q else none) = (some x : Option (ckDen r)) := h
   split at h
   ·rename_i hk
    have e1 := Nat.eq_of_beq_eq_true hk
    subst e1
    obtain ⟨g1, g2, g3⟩ := carryL_ok (cks := r) hM ρ' hbx hor hoo hfx (base := base) hfo.2 h hq hval hcar
    have hj := (hfx j (by have := hfo.1; simp only [CK.fixOk, Bool.or_eq_true] at this; exact this.imp (fun h => by simpa using h) Nat.le_of_ble_eq_true)).1
    exact ⟨⟨v, us, rfl, ⟨by rw [hj]; exact hc.1, hc.2⟩, g1⟩, g2, g3⟩
   ·cases h
  ·cases h
 | .mapR j :: r, c :: q, x, vs, base, hfo, h, ⟨v, us, e, hc, hq⟩, hval, hcar => by
  simp only [List.all_cons, Bool.and_eq_true] at hfo
  subst e
  simp only [carryL] at h
  split at h
  ·rename_i j'
   replace h : (if j.beq j' = true then carryL S r q else none) = (some x : Option (ckDen r)) := h
   split at h
   ·rename_i hk
    have e1 := Nat.eq_of_beq_eq_true hk
    subst e1
    obtain ⟨g1, g2, g3⟩ := carryL_ok (cks := r) hM ρ' hbx hor hoo hfx (base := base) hfo.2 h hq hval hcar
    have hj := (hfx j (by have := hfo.1; simp only [CK.fixOk, Bool.or_eq_true] at this; exact this.imp (fun h => by simpa using h) Nat.le_of_ble_eq_true)).2
    exact ⟨⟨v, us, rfl, ⟨by rw [hj]; exact hc.1, hc.2⟩, g1⟩, g2, g3⟩
   ·cases h
  ·cases h
 | .rowC j e' t :: r, q, x, vs, base, hfo, h, hv, hval, hcar => by
  simp only [List.all_cons, Bool.and_eq_true] at hfo
  have hj := (hfx j (by have := hfo.1; simp only [CK.fixOk, Bool.or_eq_true] at this; exact this.imp (fun h => by simpa using h) Nat.le_of_ble_eq_true)).1
  simp only [carryL] at h
  split at h
  ·rename_i l y hl hy
   cases h
   have ec : carried base (.rowC j e' t :: r) q = (.inr j, j) :: carried base r q := by cases q <;> rfl
   have ev : hdVals base (.rowC j e' t :: r) vs = hdVals base r vs := by cases vs <;> rfl
   rw [ec] at hcar
   rw [ev] at hval
   obtain ⟨g1, g2, g3⟩ := carryL_ok (cks := r) hM ρ' hbx hor hoo hfx (base := base) hfo.2 hy hv hval (fun p hp => hcar p (by simp [hp]))
   refine ⟨g1, fun i q' hi => ?_, g3⟩
   simp only [headRows, look_cons] at hi
   split at hi
   ·rename_i ej
    subst ej
    cases hi
    have hlo := hcar (.inr j, j) (by simp)
    simp only [packRowC] at hl
    split at hl
    ·rename_i q0 hq0
     split at hl
     ·cases hl
     ·rename_i hc
      simp only [Bool.or_eq_true, not_or, Bool.not_eq_true, Bool.not_eq_false'] at hc
      obtain ⟨et, el⟩ := castL_some hl
      have hrow := hM.rows j q0 hq0
      obtain ⟨qf, qe, qt, ql⟩ := q0
      dsimp only at et el hc
      subst et; subst el
      have hee : qe = e' := Nat.eq_of_beq_eq_true hc.2
      subst hee
      unfold RowOk at hrow ⊢
      rw [if_neg (by simp [hc.1])] at hrow
      rw [if_neg (by simp), hj]
      obtain ⟨xs, h1, h2, h3⟩ := hrow
      exact ⟨xs, h1, h2, fun b hb => hor j j hlo b (h3 b hb)⟩
    ·cases hl
   ·exact g2 i q' hi
  ·cases h
 | .mapC j kk vv :: r, q, x, vs, base, hfo, h, hv, hval, hcar => by
  simp only [List.all_cons, Bool.and_eq_true] at hfo
  have hj := (hfx j (by have := hfo.1; simp only [CK.fixOk, Bool.or_eq_true] at this; exact this.imp (fun h => by simpa using h) Nat.le_of_ble_eq_true)).2
  simp only [carryL] at h
  split at h
  ·rename_i l y hl hy
   cases h
   have ec : carried base (.mapC j kk vv :: r) q = (.ob j, j) :: carried base r q := by cases q <;> rfl
   have ev : hdVals base (.mapC j kk vv :: r) vs = hdVals base r vs := by cases vs <;> rfl
   rw [ec] at hcar
   rw [ev] at hval
   obtain ⟨g1, g2, g3⟩ := carryL_ok (cks := r) hM ρ' hbx hor hoo hfx (base := base) hfo.2 hy hv hval (fun p hp => hcar p (by simp [hp]))
   refine ⟨g1, g2, fun i q' hi => ?_⟩
   simp only [headObjs, look_cons] at hi
   split at hi
   ·rename_i ej
    subst ej
    cases hi
    obtain ⟨ho1, ho2⟩ := hoo j j (hcar (.ob j, j) (by simp))
    simp only [packMapC] at hl
    split at hl
    ·rename_i k' v' l' hlk
     obtain ⟨e1, e2, e3⟩ := castM_some hl
     subst e1; subst e2; subst e3
     obtain ⟨b, es, clock, f1, f2, f3, f4, f5, f6⟩ := hM.objs j _ hlk
     exact ⟨b, es, clock, by rw [hj]; exact f1, ho1 b f2, f3, f4, by rw [ho2]; exact f5, f6⟩
    ·cases hl
   ·exact g3 i q' hi
  ·cases h

def tcells (a : Act) (p : Nat × CK) : List Value := match p.2.agg with
 | false => [a.tmps.getD p.1 undef]
 | true => match a.tmps.getD p.1 undef with
  | .agg vs => vs.toList
  | _ => []
def TcOk (a : Act) (l : List (Nat × CK)) : Prop := ∀ p, p ∈ l → (tcells a p).length = p.2.size ∧ (p.2.agg = true → a.tmps.getD p.1 undef = .agg (tcells a p).toArray)
theorem tmpCVs_ok {a : Act} (hT : TmpsOk G ρ S a) : ∀ {l : List (Nat × CK)} {cs : List CV}, tmpCVs S l = some cs → All2 (CVDen G ρ) cs (l.flatMap (tcells a)) ∧ TcOk a l
 | [], cs, h => by simp only [tmpCVs] at h; cases h; exact ⟨rfl, fun p hp => by cases hp⟩
 | p :: r, cs, h => by
  simp only [tmpCVs] at h
  split at h
  ·rename_i ag c hc
   split at h
   ·rename_i l hl
    split at h
    ·rename_i hsz
     cases h
     simp only [Bool.and_eq_true, beq_iff_eq, Bool.or_eq_true] at hsz
     obtain ⟨e1, e2, e3⟩ := hsz
     have hlen := Nat.eq_of_beq_eq_true e2
     have := hT.ev (.tmp p.1)
     simp only [St.ev] at this
     rw [hc] at this
     obtain ⟨h1, h2⟩ := tmpCVs_ok hT hl
     have key : All2 (CVDen G ρ) c (tcells a p) ∧ (p.2.agg = true → a.tmps.getD p.1 undef = .agg (tcells a p).toArray) := by
      unfold tcells
      rw [← e1]
      cases ag with
      | true =>
       obtain ⟨vs, ev, hv⟩ := this
       have ev' : a.tmps.getD p.1 undef = .agg vs.toArray := ev
       rw [ev']
       simpa using hv
      | false =>
       have e3' : c.length = 1 := by
        rcases e3 with e3 | e3
        ·cases e3
        ·rw [hlen]; exact Nat.eq_of_beq_eq_true e3
       match c, e3' with
       | [c], _ => exact ⟨⟨_, _, rfl, this, rfl⟩, nofun⟩
     refine ⟨by simpa using key.1.append h1, fun q hq => ?_⟩
     rcases List.mem_cons.1 hq with rfl | hq
     ·exact ⟨by rw [key.1.len]; exact hlen, key.2⟩
     ·exact h2 q hq
    ·cases h
   ·cases h
  ·cases h

theorem boxCVs_ok (hM : Mem C G ρ S w) : ∀ {l : List (Nat × List CK)} {cs : List CV}, boxCVs S l = some cs → ∃ vss : List (List Value), All2 (CVDen G ρ) cs vss.flatten ∧
  All2 (fun (p : Nat × List CK) vs => vs.length = ckSize p.2 ∧ ρ.own (ρ.bx p.1) = some (.inl p.1) ∧ ∃ T, w.heap[ρ.bx p.1]? = some (.cells (List.toArray vs) T (0, 0))) l vss
 | [], cs, h => by simp only [boxCVs] at h; cases h; exact ⟨[], rfl, rfl⟩
 | p :: r, cs, h => by
  simp only [boxCVs] at h
  split at h
  ·rename_i c hc
   split at h
   ·rename_i hlen
    split at h
    ·rename_i l hl
     cases h
     obtain ⟨vss, h1, h2⟩ := boxCVs_ok hM hl
     obtain ⟨ho, vs, T, hw, hv⟩ := hM.boxes p.1 c hc
     refine ⟨vs :: vss, by simpa using hv.append h1, vs, vss, rfl, ⟨?_, ho, T, hw⟩, h2⟩
     rw [hv.len]; exact Nat.eq_of_beq_eq_true hlen
    ·cases h
   ·cases h
  ·cases h

theorem putAll_ok {a : Act} : ∀ {l : List (Nat × CK)} {cs : List CV} {t : List SV}, TcOk a l → All2 (CVDen G ρ) cs (l.flatMap (tcells a)) → TmpsOk G ρ ⟨t, [], [], []⟩ a → TmpsOk G ρ ⟨putAll l cs t, [], [], []⟩ a
 | [], cs, t, _, h, ht => ht
 | p :: r, cs, t, hk, h, ht => by
  obtain ⟨h1, h2⟩ := hk p List.mem_cons_self
  simp only [List.flatMap_cons] at h
  have g1 := h.take p.2.size
  have g2 := h.drop p.2.size
  rw [← h1, List.take_left] at g1
  rw [← h1, List.drop_left] at g2
  rw [h1] at g1 g2
  simp only [putAll]
  refine putAll_ok (fun q hq => hk q (List.mem_cons_of_mem _ hq)) g2 ⟨by simpa using ht.1, fun i s hi => ?_⟩
  simp only [List.getElem?_set] at hi
  split at hi
  ·rename_i e
   split at hi
   ·cases hi; subst e
    show XVDen G ρ p.2.agg (cs.take p.2.size) (a.tmps.getD p.1 undef)
    cases hag : p.2.agg with
    | true => rw [h2 hag]; exact ⟨_, rfl, g1⟩
    | false =>
     have e : tcells a p = [a.tmps.getD p.1 undef] := by unfold tcells; rw [hag]
     rw [e] at g1
     obtain ⟨x, y, e2, g3, g4⟩ : ∃ x y, cs.take p.2.size = x :: y ∧ CVDen G ρ x (a.tmps.getD p.1 undef) ∧ y = [] := by
      cases hc : cs.take p.2.size with
      | nil => rw [hc] at g1; cases g1
      | cons x y =>
       rw [hc] at g1
       obtain ⟨v, s, e5, e6, e7⟩ := g1
       cases e5
       cases y with
       | nil => exact ⟨x, [], rfl, e6, rfl⟩
       | cons z y => obtain ⟨_, _, e8, _⟩ := e7; cases e8
     rw [e2, g4]; exact g3
   ·cases hi
  ·exact ht.2 i s hi

theorem boxAll_ok {R : CV → Value → Prop} {H : Nat → List Value → Prop} : ∀ {l : List (Nat × List CK)} {cs : List CV} {vss : List (List Value)}, All2 R cs vss.flatten → All2 (fun (p : Nat × List CK) vs => vs.length = ckSize p.2 ∧ H p.1 vs) l vss →
  ∀ k cells, look (boxAll l cs) k = some cells → ∃ vs, H k vs ∧ All2 R cells vs
 | [], cs, vss, _, _, k, cells, hk => by simp [boxAll, look] at hk
 | p :: r, cs, vss, h, ⟨vs, us, e, ⟨hl, hH⟩, hr⟩, k, cells, hk => by
  subst e
  simp only [boxAll, look_cons] at hk
  have h1 := h.take (ckSize p.2)
  have h2 := h.drop (ckSize p.2)
  simp only [List.flatten_cons] at h1 h2
  rw [← hl, List.take_left] at h1
  rw [← hl, List.drop_left] at h2
  split at hk
  ·rename_i ek
   cases hk
   subst ek
   exact ⟨vs, hH, by rw [← hl]; exact h1⟩
  ·exact boxAll_ok (by rw [← hl]; exact h2) hr k cells hk

theorem All2.of_split {α γ : Type} {R : α → γ → Prop} {l : List α} {a b : List γ} (h : All2 R l (a ++ b)) : All2 R (l.take a.length) a ∧ All2 R (l.drop a.length) b := by
 have h1 := h.take a.length
 have h2 := h.drop a.length
 rw [List.take_left] at h1
 rw [List.drop_left] at h2
 exact ⟨h1, h2⟩

theorem putAll_take : ∀ (l : List (Nat × CK)) (cs : List CV) (t : List SV), putAll l cs t = putAll l (cs.take (ckSize (l.map (·.2)))) t
 | [], cs, t => rfl
 | p :: r, cs, t => by
  simp only [putAll, List.map_cons, ckSize]
  rw [putAll_take r, putAll_take r ((cs.take _).drop _)]
  congr 1
  ·rw [List.drop_take, List.take_take]
   congr 1
   omega
  ·rw [List.take_take]
   congr 3
   omega
theorem TcOk.len {a : Act} : ∀ {l : List (Nat × CK)}, TcOk a l → (l.flatMap (tcells a)).length = ckSize (l.map (·.2))
 | [], _ => rfl
 | p :: r, h => by
  have ih := TcOk.len (l := r) fun q hq => h q (List.mem_cons_of_mem _ hq)
  simp only [List.flatMap_cons, List.length_append, List.map_cons, ckSize, ih, (h p List.mem_cons_self).1]

theorem headObjs_ar : ∀ {cks : List CK} {cvs : List CV} {x : ckDen cks} {base : Nat} {t : Ty} {l : List t.den}, carryL S cks cvs = some x → look (headObjs base cks x) arId = some (.ar false t l) → ∃ t l, look S.objs arId = some (.ar false t l)
 | [], cvs, x, base, t, l, h, hl => by simp [headObjs, look] at hl
 | .val _ :: r, cvs, x, base, t, l, h, hl => by
  simp only [carryL] at h
  split at h
  ·split at h
   ·rename_i z hz
    cases h
    exact headObjs_ar (cks := r) hz hl
   ·cases h
  ·cases h
 | .own _ _ :: r, [], x, base, t, l, h, hl => by simp [carryL] at h
 | .own _ _ :: r, c :: q, x, base, t, l, h, hl => by
  simp only [carryL] at h
  split at h
  ·rename_i y z hz
   cases h
   exact headObjs_ar (cks := r) hz hl
  ·cases h
 | .map _ _ :: r, [], x, base, t, l, h, hl => by simp [carryL] at h
 | .map _ _ :: r, c :: q, x, base, t, l, h, hl => by
  simp only [carryL] at h
  split at h
  ·rename_i y z hz
   cases h
   simp only [headObjs, look_cons] at hl
   split at hl
   ·cases hl
   ·exact headObjs_ar (cks := r) hz hl
  ·cases h
 | .ref k off :: r, [], x, base, t, l, h, hl => by simp [carryL] at h
 | .ref k off :: r, c :: q, x, base, t, l, h, hl => by
  simp only [carryL] at h
  split at h
  ·rename_i k' off'
   replace h : (if (k.beq k' && off.beq off') = true then carryL S r q else none) = (some x : Option (ckDen r)) := h
   split at h
   ·exact headObjs_ar (cks := r) h hl
   ·cases h
  ·cases h
 | .fn g ks :: r, [], x, base, t, l, h, hl => by simp [carryL] at h
 | .fn g ks :: r, c :: q, x, base, t, l, h, hl => by
  simp only [carryL] at h
  split at h
  ·rename_i g' ks'
   replace h : (if (g.beq g' && ks == ks') = true then carryL S r q else none) = (some x : Option (ckDen r)) := h
   split at h
   ·exact headObjs_ar (cks := r) h hl
   ·cases h
  ·cases h
 | .rowR j :: r, [], x, base, t, l, h, hl => by simp [carryL] at h
 | .rowR j :: r, c :: q, x, base, t, l, h, hl => by
  simp only [carryL] at h
  split at h
  ·rename_i j'
   replace h : (if j.beq j' = true then carryL S r q else none) = (some x : Option (ckDen r)) := h
   split at h
   ·exact headObjs_ar (cks := r) h hl
   ·cases h
  ·cases h
 | .mapR j :: r, [], x, base, t, l, h, hl => by simp [carryL] at h
 | .mapR j :: r, c :: q, x, base, t, l, h, hl => by
  simp only [carryL] at h
  split at h
  ·rename_i j'
   replace h : (if j.beq j' = true then carryL S r q else none) = (some x : Option (ckDen r)) := h
   split at h
   ·exact headObjs_ar (cks := r) h hl
   ·cases h
  ·cases h
 | .rowC j e t' :: r, q, x, base, t, l, h, hl => by
  simp only [carryL] at h
  split at h
  ·rename_i y z hz
   cases h
   exact headObjs_ar (cks := r) hz hl
  ·cases h
 | .mapC j k v :: r, q, x, base, t, l, h, hl => by
  simp only [carryL] at h
  split at h
  ·rename_i y z hz
   cases h
   simp only [headObjs, look_cons] at hl
   split at hl
   ·cases hl
   ·exact headObjs_ar (cks := r) hz hl
  ·cases h
 | .arF t' :: r, q, x, base, t, l, h, hl => by
  simp only [carryL] at h
  split at h
  ·rename_i y z hz
   cases h
   simp only [headObjs, look_cons] at hl
   split at hl
   ·cases hl
   ·exact headObjs_ar (cks := r) hz hl
  ·cases h
 | .ar t' :: r, q, x, base, t, l, h, hl => by
  simp only [carryL] at h
  split at h
  ·rename_i y z hy hz
   obtain ⟨f, hl, hf⟩ := packAr_ok hy
   have := hf rfl
   subst this
   exact ⟨_, _, hl⟩
  ·cases h

theorem head_ok0 {a : Act} {A : Ann} {x : ckDen A.cks} (hM : Mod C G ρ S w a) (h : carry0 A S = some x) : ∃ ρ', Mod C G ρ' (head A S.tmps.length x) w a := by
 unfold carry0 at h
 split at h
 ·rename_i cvs hpl
  split at h
  ·cases h
  ·rename_i hdup
   simp only [Bool.or_eq_true, not_or, Bool.not_eq_true, Bool.not_eq_false'] at hdup
   obtain ⟨⟨⟨hfix, hlen1⟩, hdup'⟩, hcod⟩ := hdup
   have hlen2 : A.cks.length < 1000 := by simpa using hlen1
   generalize hcar : carried rowBase A.cks cvs = ow at *
   unfold St.places at hpl
   split at hpl
   ·rename_i ct cb hct hcb
    cases hpl
    obtain ⟨hvT, hszT⟩ := tmpCVs_ok hM.tmps hct
    obtain ⟨vss, hvB, hbs⟩ := boxCVs_ok hM.toMem hcb
    have hvs := hvT.append hvB
    generalize hvals : hdVals rowBase A.cks (A.tmps.flatMap (tcells a) ++ vss.flatten) = hv
    let ρ' : Env := ⟨ρ.bx, fun i => (look hv i).getD (ρ.rw i),
     fun b => match ρ.own b with | some (.inl k) => some (.inl k) | some (.inr j) => (lookO ow (.inr j)).map .inr | some (.ob j) => (lookO ow (.ob j)).map .ob | none => none,
     fun i => (look hv i).getD (ρ.ob i),
     fun i => match findOwn ow i with | some (.ob j) => ρ.st j | _ => ρ.st i⟩
    have hfxv : ∀ j, (j < rowBase ∨ rowBase + newN A.cks ≤ j) → ρ'.rw j = ρ.rw j ∧ ρ'.ob j = ρ.ob j := fun j hj => by
     have : look hv j = none := by
      cases hl : look hv j with
      | none => rfl
      | some v =>
       rw [← hvals] at hl
       have := hdVals_ge hl
       have := hdVals_new hl
       omega
     exact ⟨by show (look hv j).getD _ = _; rw [this]; rfl, by show (look hv j).getD _ = _; rw [this]; rfl⟩
    obtain ⟨h1, h2, h2'⟩ := carryL_ok (ow := ow) hM.toMem ρ' rfl (fun j n hl b hb => by
      show ((match ρ.own b with | some (.inl k) => some (Ownr.inl k) | some (.inr j) => (lookO ow (.inr j)).map Ownr.inr | some (.ob j) => (lookO ow (.ob j)).map Ownr.ob | none => none) : Option Ownr) = _
      rw [hb]; simp [hl])
     (fun j n hl => ⟨fun b hb => by
      show ((match ρ.own b with | some (.inl k) => some (Ownr.inl k) | some (.inr j) => (lookO ow (.inr j)).map Ownr.inr | some (.ob j) => (lookO ow (.ob j)).map Ownr.ob | none => none) : Option Ownr) = _
      rw [hb]; simp [hl], by
      show (match findOwn ow n with | some (.ob j) => ρ.st j | _ => ρ.st n) = _
      rw [findOwn_of_mem hcod (lookO_mem hl)]⟩) hfxv (base := rowBase) hfix h hvs (fun i v hi => by
      rw [hvals] at hi
      exact ⟨by show (look hv i).getD _ = _; rw [hi]; rfl, by show (look hv i).getD _ = _; rw [hi]; rfl⟩) (fun p hp => by
      rw [hcar] at hp
      exact lookO_of_mem hdup' hp)
    obtain ⟨h3, h4⟩ := h1.of_split
    rw [TcOk.len hszT] at h3 h4
    refine ⟨ρ', { agr := hM.agr, le0 := hM.le0, old := hM.old, frame := hM.frame, size := hM.size, os := hM.os, output := hM.output, pin := hM.pin, pinR := fun k hk => ⟨(hfxv k (by have := newN_le A.cks; simp only [rowBase]; omega)).1.trans (hM.pinR k hk).1, (hfxv k (by have := newN_le A.cks; simp only [rowBase]; omega)).2.trans (hM.pinR k hk).2⟩, owned := ?_, boxes := ?_, rows := h2, objs := h2', hndI := fun hn => ⟨(hM.hndI hn).1, fun t l hl => by obtain ⟨t', l', h'⟩ := headObjs_ar h hl; exact (hM.hndI hn).2 t' l' h'⟩, tmps := ?_, defers := hM.defers }⟩
    ·intro b o ho
     have ho' : (match ρ.own b with | some (.inl k) => some (.inl k) | some (.inr j) => (lookO ow (.inr j)).map .inr | some (.ob j) => (lookO ow (.ob j)).map .ob | none => none) = some o := ho
     cases h5 : ρ.own b with
     | none => rw [h5] at ho'; cases ho'
     | some o' => exact hM.owned b o' h5
    ·intro k cs hk
     obtain ⟨vs, ⟨h5, T, h6⟩, h7⟩ := boxAll_ok (R := CVDen G ρ') (H := fun k vs => ρ.own (ρ.bx k) = some (.inl k) ∧ ∃ T, w.heap[ρ.bx k]? = some (.cells (List.toArray vs) T (0, 0))) h4 hbs k cs hk
     exact ⟨by simp only [ρ', h5], vs, T, h6, h7⟩
    ·have : TmpsOk G ρ' ⟨putAll A.tmps ((headCV rowBase A.cks x).take (ckSize (A.tmps.map (·.2)))) (List.replicate S.tmps.length (.v false [.any])), [], [], []⟩ a :=
      putAll_ok hszT h3 ⟨by simpa using hM.tmps.1, fun i s hi => by
       simp only [List.getElem?_replicate] at hi
       split at hi
       ·cases hi; exact trivial
       ·cases hi⟩
     rw [← putAll_take] at this
     exact this
   ·cases hpl
 ·cases h
theorem head_ok {a : Act} {A : Ann} {x : ckDen A.cks} (hM : Mod C G ρ S w a) (h : carry A S = some x) : ∃ G' ρ', Mod C G' ρ' (head A S.tmps.length x) w a := by
 unfold carry at h
 split at h
 ·rename_i cvs _
  obtain ⟨G1, ρ1, _, hM1⟩ := hM.freeze (frzC A.cks cvs)
  obtain ⟨ρ2, h2⟩ := head_ok0 hM1 h
  exact ⟨G1, ρ2, h2⟩
 ·cases h

end Go.Dn

namespace Go.Dn
variable {β : Type} {X : Cx} {C : Fr X.P} {G : Gh} {ρ : Env} {w : World}

def outSV : Option Del → SV
 | some x => x.sv
 | none => undSV
def outBox : Option Del → Option (List CV)
 | some x => x.box
 | none => none
def outRow' : Option Del → Option RowV
 | some x => x.row
 | none => none
def outObj : Option Del → Option ObjV
 | some x => x.obj
 | none => none
def St.out (S : St) (o : Oper) : Option Del → St
 | some x => S.app o.dst x
 | none => S.put o.dst undSV
def states : List Oper → St → List (Option Del) → St
 | o :: l, S, x :: xs => states l (S.out o x) xs
 | _, S, _ => S

theorem ev_put {S : St} {d : Nat} {b : Bool} (h : S.ev (.tmp d) = .v false [.bool b]) : S.put (some d) (.v false [.bool b]) = S := by
 simp only [St.ev] at h
 rw [List.getD_eq_getElem?_getD] at h
 cases hs : S.tmps[d]? with
 | none => rw [hs] at h; cases h
 | some s =>
  rw [hs] at h
  simp only [Option.getD_some] at h
  subst h
  obtain ⟨hlt, he⟩ := List.getElem?_eq_some_iff.1 hs
  simp only [St.put]
  have : S.tmps.set d (.v false [.bool b]) = S.tmps := by rw [← he]; exact List.set_getElem_self hlt
  rw [this]

theorem guard_ev {ops : List Oper} {o : Oper} {S : St} {d : Nat} {b want : Bool} (h : guardOf ops o S = some (some (d, b, want))) : S.ev (.tmp d) = .v false [.bool b] := by
 unfold guardOf at h
 split at h
 ·cases h
 ·split at h
  ·split at h
   ·split at h
    ·rename_i hb; cases h; exact hb
    ·cases h
   ·cases h
  ·cases h

structure LateOk (P : Program) (o : Oper) (S : St) (x : Del) : Prop where
 blind : blindOp o.op = true → LSound P o S nullSt x ∧ x.box = none ∧ x.row = none ∧ x.obj = none
 make : isMake o.op = true → LSound P o S nullSt x ∧ x.box = none ∧ x.obj = none
def HStep (X : Cx) (ops : List Oper) (M : St) (o : Oper) (S : St) : Option Del → Prop
 | some x => (LSound X.P o S M x ∧ LateOk X.P o S x) ∧ (guardOf ops o S = some none ∨ ∃ d b want, guardOf ops o S = some (some (d, b, want)) ∧ (b == want) = true)
 | none => (∃ d b want, guardOf ops o S = some (some (d, b, want)) ∧ (b == want) = false) ∨ skips ops o S = true

theorem LSound.of_null {P : Program} {o : Oper} {S M : St} {x : Del} (h : LSound P o S nullSt x) : LSound P o S M x :=
 fun C G ρ S1 w a Q hM hN h1 h2 h3 => h C G ρ S1 w a Q hM ⟨hN.ops, fun k cs hk => (by cases hk), fun k cs hk => (by cases hk), fun k cs hk => (by cases hk)⟩ h1 h2 h3

theorem lEval_blind (hX : SpecsOk X) {o : Oper} {S M : St} {k : Del → Option β} {r : β} (h : lEval X o S M k = some r) : ∃ x, k x = some r ∧ LSound X.P o S M x ∧ LateOk X.P o S x := by
 cases hb : blindOp o.op with
 | false =>
  cases hk : isMake o.op with
  | false =>
   obtain ⟨x, h1, h2, _⟩ := lEval_ok hX h
   exact ⟨x, h1, h2, ⟨fun h => (by rw [hb] at h; cases h), fun h => (by rw [hk] at h; cases h)⟩⟩
  | true =>
   have e : lEval X o S nullSt (fun x => bif x.box.isNone && x.obj.isNone then k x else none) = some r := by
    obtain ⟨dst, op, ty, pos, af, g⟩ := o
    cases op <;> first | exact absurd hk Bool.false_ne_true | exact h
   obtain ⟨x, h1, h2, _⟩ := lEval_ok hX e
   cases hc : x.box.isNone && x.obj.isNone with
   | false => rw [hc] at h1; cases h1
   | true =>
    rw [hc] at h1
    simp only [Bool.and_eq_true, Option.isNone_iff_eq_none] at hc
    exact ⟨x, h1, h2.of_null, ⟨fun h => (by rw [hb] at h; cases h), fun _ => ⟨h2, hc⟩⟩⟩
 | true =>
  have e : lEval X o S nullSt (fun x => bif x.box.isNone && (x.row.isNone && x.obj.isNone) then k x else none) = some r := by
   obtain ⟨dst, op, ty, pos, af, g⟩ := o
   cases op <;> first | exact absurd hb Bool.false_ne_true | exact h
  have hk : isMake o.op = false := by
   revert hb
   cases o.op <;> intro hb <;> first | rfl | exact absurd hb Bool.false_ne_true
  obtain ⟨x, h1, h2, _⟩ := lEval_ok hX e
  cases hc : x.box.isNone && (x.row.isNone && x.obj.isNone) with
  | false => rw [hc] at h1; cases h1
  | true =>
   rw [hc] at h1
   simp only [Bool.and_eq_true, Option.isNone_iff_eq_none] at hc
   exact ⟨x, h1, h2.of_null, ⟨fun _ => ⟨h2, hc⟩, fun h => (by rw [hk] at h; cases h)⟩⟩

theorem runHead_trace (hX : SpecsOk X) {ops : List Oper} {M : St} : ∀ {l : List Oper} {S : St} {k : St → Option β} {r : β}, runHead X ops M l S k = some r →
  ∃ outs : List (Option Del), outs.length = l.length ∧ k (states l S outs) = some r ∧ ∀ i o x, l[i]? = some o → outs[i]? = some x → HStep X ops M o (states (l.take i) S (outs.take i)) x
 | [], S, k, r, h => ⟨[], rfl, h, fun i o x hi => by simp at hi⟩
 | o :: l, S, k, r, h => by
  have cons : ∀ (x : Option Del), HStep X ops M o S x → runHead X ops M l (S.out o x) k = some r →
    ∃ outs : List (Option Del), outs.length = (o :: l).length ∧ k (states (o :: l) S outs) = some r ∧ ∀ i o' x, (o :: l)[i]? = some o' → outs[i]? = some x → HStep X ops M o' (states ((o :: l).take i) S (outs.take i)) x := by
   intro x hx hr
   obtain ⟨outs, h1, h2, h3⟩ := runHead_trace hX hr
   refine ⟨x :: outs, by simp [h1], h2, fun i o' y hi hy => ?_⟩
   cases i with
   | zero =>
    simp only [List.getElem?_cons_zero, Option.some.injEq] at hi hy
    subst hi; subst hy
    exact hx
   | succ i =>
    simp only [List.getElem?_cons_succ] at hi hy
    exact h3 i o' y hi hy
  simp only [runHead] at h
  split at h
  ·cases hs : skips ops o S with
   | false => rw [hs] at h; cases h
   | true => rw [hs] at h; exact cons none (.inr hs) h
  ·rename_i hg
   obtain ⟨x, h1, h2⟩ := lEval_blind hX h
   exact cons (some x) ⟨h2, .inl hg⟩ h1
  ·rename_i d b want hg
   rcases fork_ok (ev_put (guard_ev hg)) h with ⟨hb, h⟩ | ⟨hb, h⟩
   ·obtain ⟨x, h1, h2⟩ := lEval_blind hX h
    exact cons (some x) ⟨h2, .inr ⟨d, b, want, hg, hb⟩⟩ h1
   ·exact cons none (.inl ⟨d, b, want, hg, hb⟩) h

section
variable {S : St} {o : Oper} {x : Option Del} {d : Nat}
theorem out_tmps (hd : o.dst = some d) : (S.out o x).tmps = S.tmps.set d (outSV x) := by
 cases x <;> simp [St.out, St.app, St.put, hd, outSV]
theorem out_boxes (hd : o.dst = some d) (k : Nat) : look (S.out o x).boxes k = if k = d then (outBox x).or (look S.boxes k) else look S.boxes k := by
 cases x with
 | none => simp [St.out, St.put, hd, outBox]
 | some y =>
  simp only [St.out, St.app, hd, outBox]
  cases y.box with
  | none => simp
  | some c =>
   simp only [look_cons]
   by_cases e : k = d
   ·simp [e]
   ·have : ¬ d = k := fun h => e h.symm
    simp [e, this]
theorem out_rows (hd : o.dst = some d) (k : Nat) : look (S.out o x).rows k = if k = d then (outRow' x).or (look S.rows k) else look S.rows k := by
 cases x with
 | none => simp [St.out, St.put, hd, outRow']
 | some y =>
  simp only [St.out, St.app, hd, outRow']
  cases y.row with
  | none => simp
  | some c =>
   simp only [look_cons]
   by_cases e : k = d
   ·simp [e]
   ·have : ¬ d = k := fun h => e h.symm
    simp [e, this]
theorem out_objs (hd : o.dst = some d) (k : Nat) : look (S.out o x).objs k = if k = d then (outObj x).or (look S.objs k) else look S.objs k := by
 cases x with
 | none => simp [St.out, St.put, hd, outObj]
 | some y =>
  simp only [St.out, St.app, hd, outObj]
  cases y.obj with
  | none => simp
  | some c =>
   simp only [look_cons]
   by_cases e : k = d
   ·simp [e]
   ·have : ¬ d = k := fun h => e h.symm
    simp [e, this]
end

def dsts (l : List Oper) : List Nat := l.filterMap (·.dst)
theorem states_len : ∀ {l : List Oper} {S : St} {outs : List (Option Del)}, (states l S outs).tmps.length = S.tmps.length
 | [], S, outs => by cases outs <;> rfl
 | o :: l, S, [] => rfl
 | o :: l, S, x :: xs => by
  simp only [states]
  rw [states_len]
  cases x <;> cases hd : o.dst <;> simp [St.out, St.app, St.put, hd]

theorem states_other : ∀ {l : List Oper} {S : St} {outs : List (Option Del)} {t : Nat}, t ∉ dsts l → (states l S outs).tmps[t]? = S.tmps[t]? ∧ look (states l S outs).boxes t = look S.boxes t ∧ look (states l S outs).rows t = look S.rows t ∧ look (states l S outs).objs t = look S.objs t
 | [], S, outs, t, _ => by cases outs <;> exact ⟨rfl, rfl, rfl, rfl⟩
 | o :: l, S, [], t, _ => ⟨rfl, rfl, rfl, rfl⟩
 | o :: l, S, x :: xs, t, h => by
  simp only [states]
  cases hd : o.dst with
  | none =>
   have hl : t ∉ dsts l := by simpa [dsts, hd] using h
   obtain ⟨h1, h2, h3, h4⟩ := states_other (S := S.out o x) (outs := xs) hl
   rw [h1, h2, h3, h4]
   cases x <;> simp [St.out, St.app, St.put, hd]
  | some d =>
   have hl : t ≠ d ∧ t ∉ dsts l := by simpa [dsts, hd] using h
   obtain ⟨h1, h2, h3, h4⟩ := states_other (S := S.out o x) (outs := xs) hl.2
   rw [h1, h2, h3, h4, out_tmps hd, out_boxes hd, out_rows hd, out_objs hd]
   refine ⟨List.getElem?_set_ne (fun e => hl.1 e.symm), by simp [hl.1], by simp [hl.1], by simp [hl.1]⟩

theorem states_split : ∀ (l : List Oper) (S : St) (outs : List (Option Del)) (i : Nat), outs.length = l.length → states l S outs = states (l.drop i) (states (l.take i) S (outs.take i)) (outs.drop i)
 | l, S, outs, 0, _ => by simp only [List.drop_zero, List.take_zero, states]
 | [], S, outs, i + 1, h => by
  have : outs = [] := List.eq_nil_of_length_eq_zero (by simpa using h)
  subst this; rfl
 | o :: l, S, [], i + 1, h => by simp at h
 | o :: l, S, x :: xs, i + 1, h => by
  simp only [List.drop_succ_cons, List.take_succ_cons, states]
  exact states_split l _ xs i (by simpa using h)

theorem dup_filterMap_drop {l : List Oper} {i : Nat} {o : Oper} {d : Nat} (h : dup (dsts l) = false) (hi : l[i]? = some o) (hd : o.dst = some d) : d ∉ dsts (l.drop (i + 1)) ∧ d ∉ dsts (l.take i) := by
 induction l generalizing i with
 | nil => simp at hi
 | cons p l ih =>
  cases i with
  | zero =>
   simp only [List.getElem?_cons_zero, Option.some.injEq] at hi
   subst hi
   simp only [dsts, List.filterMap_cons, hd] at h
   refine ⟨?_, by simp [dsts]⟩
   simpa [dsts] using (dup_cons h).1
  | succ i =>
   simp only [List.getElem?_cons_succ] at hi
   have hm : d ∈ dsts l := by
    simp only [dsts, List.mem_filterMap]; exact ⟨o, List.mem_of_getElem? hi, hd⟩
   cases hp : p.dst with
   | none =>
    have h' : dup (dsts l) = false := by simpa [dsts, hp] using h
    obtain ⟨h1, h2⟩ := ih h' hi
    exact ⟨by simpa using h1, by simpa [dsts, hp] using h2⟩
   | some dp =>
    have h' : dup (dp :: dsts l) = false := by simpa [dsts, hp] using h
    obtain ⟨h3, h4⟩ := dup_cons h'
    obtain ⟨h1, h2⟩ := ih h4 hi
    refine ⟨by simpa using h1, ?_⟩
    have hne : d ≠ dp := fun e => h3 (e ▸ hm)
    simp only [List.take_succ_cons, dsts, List.filterMap_cons, hp, List.mem_cons, not_or]
    exact ⟨hne, h2⟩

theorem states_at {l : List Oper} {S : St} {outs : List (Option Del)} {i d : Nat} {o : Oper} {x : Option Del} (hl : outs.length = l.length) (hdup : dup (dsts l) = false) (hi : l[i]? = some o) (hx : outs[i]? = some x) (hd : o.dst = some d) :
  (d < S.tmps.length → (states l S outs).tmps[d]? = some (outSV x)) ∧ look (states l S outs).boxes d = (outBox x).or (look S.boxes d) ∧ look (states l S outs).rows d = (outRow' x).or (look S.rows d) ∧ look (states l S outs).objs d = (outObj x).or (look S.objs d) := by
 obtain ⟨h1, h2⟩ := dup_filterMap_drop hdup hi hd
 have e := states_split l S outs i hl
 have hlt := (List.getElem?_eq_some_iff.1 hi).1
 have hlt' := (List.getElem?_eq_some_iff.1 hx).1
 have e1 : l.drop i = o :: l.drop (i + 1) := by rw [List.drop_eq_getElem_cons hlt, (List.getElem?_eq_some_iff.1 hi).2]
 have e2 : outs.drop i = x :: outs.drop (i + 1) := by rw [List.drop_eq_getElem_cons hlt', (List.getElem?_eq_some_iff.1 hx).2]
 rw [e1, e2] at e
 simp only [states] at e
 rw [e]
 obtain ⟨g1, g2, g3, g4⟩ := states_other (S := (states (l.take i) S (outs.take i)).out o x) (outs := outs.drop (i + 1)) h1
 obtain ⟨f1, f2, f3, f4⟩ := states_other (S := S) (outs := outs.take i) h2
 rw [g1, g2, g3, g4, out_tmps hd, out_boxes hd, out_rows hd, out_objs hd, f2, f3, f4]
 refine ⟨fun hlen => ?_, by simp, by simp, by simp⟩
 rw [List.getElem?_set_self (by rw [states_len]; exact hlen)]

end Go.Dn

namespace Go.Dn
variable {β : Type} {X : Cx} {C : Fr X.P} {G : Gh} {ρ : Env} {w : World}

def restr (S Sn : St) (U : Nat → Bool) : St :=
 {tmps := (List.range S.tmps.length).map fun t => if U t then S.tmps.getD t (.v false [.any]) else Sn.tmps.getD t (.v false [.any]),
  boxes := Sn.boxes.filter fun p => !U p.1, rows := Sn.rows.filter fun p => !U p.1, objs := Sn.objs.filter fun p => !U p.1 }

theorem look_filterU {α : Type} (U : Nat → Bool) : ∀ (l : List (Nat × α)) (i : Nat), look (l.filter fun p => !U p.1) i = if U i = true then none else look l i
 | [], i => by simp [look]
 | (j, y) :: r, i => by
  have ih := look_filterU U r i
  cases hU : U j with
  | true =>
   have : (List.filter (fun p : Nat × α => !U p.1) ((j, y) :: r)) = r.filter fun p => !U p.1 := by simp [hU]
   rw [this, ih, look_cons]
   by_cases e : j = i
   ·subst e; simp [hU]
   ·simp [e]
  | false =>
   have : (List.filter (fun p : Nat × α => !U p.1) ((j, y) :: r)) = (j, y) :: r.filter fun p => !U p.1 := by simp [hU]
   rw [this, look_cons, look_cons, ih]
   by_cases e : j = i
   ·subst e; simp [hU]
   ·simp [e]

theorem restr_tmp {S Sn : St} {U : Nat → Bool} {t : Nat} : (restr S Sn U).tmps[t]? = if t < S.tmps.length then some (if U t then S.tmps.getD t (.v false [.any]) else Sn.tmps.getD t (.v false [.any])) else none := by
 simp only [restr, List.getElem?_map]
 by_cases h : t < S.tmps.length
 ·rw [List.getElem?_range h]; simp [h]
 ·rw [List.getElem?_eq_none (by simp; omega)]; simp [h]

theorem Mod.equiv {A B : St} {a : Act} (h : Mod C G ρ A w a) (ht : A.tmps = B.tmps) (hb : ∀ k cs, look B.boxes k = some cs → look A.boxes k = some cs) (hr : ∀ k q, look B.rows k = some q → look A.rows k = some q) (ho : ∀ k q, look B.objs k = some q → look A.objs k = some q) : Mod C G ρ B w a :=
 { h.toMem.sub hb hr ho with tmps := by have := h.tmps; unfold TmpsOk at this ⊢; rw [← ht]; exact this, defers := h.defers }

theorem inL_iff {l : List Nat} {j : Nat} : inL l j = true ↔ j ∈ l := by
 simp only [inL, List.any_eq_true]
 constructor
 ·rintro ⟨x, hx, h⟩; rw [Nat.eq_of_beq_eq_true h]; exact hx
 ·intro h; exact ⟨j, h, by simp⟩

theorem inM_testBit {s : Msk} {j : Nat} : inM s j = s.m.testBit j := by
 unfold inM Nat.testBit
 rw [show Nat.land (Nat.shiftRight s.m j) 1 = (1 &&& (s.m >>> j)) from Nat.and_comm _ _]
 have : (1 &&& (s.m >>> j)) = (s.m >>> j) % 2 := by rw [Nat.and_comm]; exact Nat.and_one_is_mod _
 rw [this]
 rcases Nat.mod_two_eq_zero_or_one (s.m >>> j) with h | h <;> rw [h] <;> rfl
theorem depsOf_mem {acc : List Msk} : ∀ {es : List Edge} {j : Nat}, j ∈ depsOf acc es → ∃ e, e ∈ es ∧ Region.binds .any e = true ∧ (j = e.on ∨ j ∈ acc.getD e.on m0)
 | [], j, h => by
  change inM m0 j = true at h
  rw [inM_testBit] at h
  simp [m0] at h
 | e :: r, j, h => by
  simp only [depsOf] at h
  cases hb : Region.binds .any e with
  | false =>
   rw [hb] at h
   obtain ⟨e', h1, h2⟩ := depsOf_mem h
   exact ⟨e', by simp [h1], h2⟩
  | true =>
   rw [hb] at h
   simp only [cond_true] at h
   change inM _ j = true at h
   rw [inM_testBit] at h
   change (((1 <<< e.on) ||| (acc.getD e.on m0).m) ||| (depsOf acc r).m).testBit j = true at h
   rw [Nat.testBit_or, Nat.testBit_or, Bool.or_eq_true, Bool.or_eq_true] at h
   rcases h with (h | h) | h
   ·refine ⟨e, by simp, hb, .inl ?_⟩
    rw [Nat.one_shiftLeft, Nat.testBit_two_pow] at h
    exact (of_decide_eq_true h).symm
   ·exact ⟨e, by simp, hb, .inr (by change inM _ j = true; rw [inM_testBit]; exact h)⟩
   ·have h' : j ∈ depsOf acc r := by change inM _ j = true; rw [inM_testBit]; exact h
    obtain ⟨e', h1, h2⟩ := depsOf_mem h'
    exact ⟨e', by simp [h1], h2⟩

theorem depsGo_get : ∀ (l : List Oper) (acc : List Msk), (depsGo l acc).take acc.length = acc ∧ (depsGo l acc).length = acc.length + l.length ∧
  ∀ i o, l[i]? = some o → (depsGo l acc).getD (acc.length + i) m0 = depsOf ((depsGo l acc).take (acc.length + i)) o.after.toList
 | [], acc => ⟨by simp [depsGo], by simp [depsGo], fun i o h => by simp at h⟩
 | p :: l, acc => by
  obtain ⟨h1, h2, h3⟩ := depsGo_get l (acc ++ [depsOf acc p.after.toList])
  simp only [List.length_append, List.length_cons, List.length_nil, Nat.zero_add] at h1 h2 h3
  simp only [depsGo]
  have hacc : (depsGo l (acc ++ [depsOf acc p.after.toList])).take acc.length = acc := by
   have := congrArg (List.take acc.length) h1
   rw [List.take_take, Nat.min_eq_left (by omega)] at this
   simpa using this
  refine ⟨hacc, by rw [h2]; simp; omega, fun i o hi => ?_⟩
  cases i with
  | zero =>
   simp only [List.getElem?_cons_zero, Option.some.injEq] at hi
   subst hi
   rw [Nat.add_zero, hacc]
   have : (depsGo l (acc ++ [depsOf acc p.after.toList]))[acc.length]? = some (depsOf acc p.after.toList) := by
    have h4 : ((depsGo l (acc ++ [depsOf acc p.after.toList])).take (acc.length + 1))[acc.length]? = some (depsOf acc p.after.toList) := by rw [h1]; simp
    rw [List.getElem?_take] at h4
    simpa using h4
   rw [List.getD_eq_getElem?_getD, this]; rfl
  | succ i =>
   simp only [List.getElem?_cons_succ] at hi
   have := h3 i o hi
   rw [show acc.length + (i + 1) = acc.length + 1 + i by omega]
   exact this

theorem deps_mem {ops : List Oper} {i : Nat} {o : Oper} (hi : ops[i]? = some o) {j : Nat} (h : j ∈ (deps ops).getD i m0) (hE : edgesOk ops = true) :
  ∃ e, e ∈ o.after.toList ∧ Region.binds .any e = true ∧ e.on < i ∧ (j = e.on ∨ j ∈ (deps ops).getD e.on m0) := by
 obtain ⟨_, _, h3⟩ := depsGo_get ops []
 have := h3 i o hi
 simp only [List.length_nil, Nat.zero_add] at this
 rw [deps, this] at h
 obtain ⟨e, h4, h5, h6⟩ := depsOf_mem h
 have hlt : e.on < i := by
  simp only [edgesOk, List.all_eq_true] at hE
  have h7 := hE i (by simp; exact (List.getElem?_eq_some_iff.1 hi).1)
  rw [hi] at h7
  simp only [List.all_eq_true] at h7
  have h8 := h7 e h4
  simp only [h5, Bool.not_true, Bool.false_or] at h8
  exact Nat.lt_of_lt_of_le (Nat.lt_succ_self _) (Nat.le_of_ble_eq_true h8)
 refine ⟨e, h4, h5, hlt, ?_⟩
 rcases h6 with h6 | h6
 ·exact .inl h6
 ·right
  rw [List.getD_eq_getElem?_getD, List.getElem?_take] at h6
  rw [if_pos hlt] at h6
  rw [deps, List.getD_eq_getElem?_getD]; exact h6

def Closed (ops : List Oper) (listed : Array Bool) : Prop := ∀ i o, ops[i]? = some o → listed.getD i true = true → ∀ e, e ∈ o.after.toList → Region.binds .any e = true → listed.getD e.on false = true

theorem deps_listed {ops : List Oper} {listed : Array Bool} (hE : edgesOk ops = true) (hc : Closed ops listed) : ∀ (i : Nat) (o : Oper), ops[i]? = some o → (∀ e, e ∈ o.after.toList → Region.binds .any e = true → listed.getD e.on false = true) →
  ∀ j, j ∈ (deps ops).getD i m0 → listed.getD j true = true := by
 intro i
 induction i using Nat.strongRecOn with
 | _ i ih =>
  intro o hi he j hj
  have hT : ∀ m, listed.getD m false = true → listed.getD m true = true := fun m hm => by
   rw [Array.getD_eq_getD_getElem?] at hm ⊢
   cases h : listed[m]? with
   | none => rfl
   | some b => rw [h] at hm; simpa using hm
  obtain ⟨e, h1, h2, h3, h4⟩ := deps_mem hi hj hE
  have h5 := he e h1 h2
  rcases h4 with rfl | h4
  ·exact hT _ h5
  ·have hlt : e.on < ops.length := Nat.lt_trans h3 (List.getElem?_eq_some_iff.1 hi).1
   have h6 : ops[e.on]? = some ops[e.on] := List.getElem?_eq_getElem hlt
   exact ih e.on h3 _ h6 (fun e' h7 h8 => hc e.on _ h6 (hT _ h5) e' h7 h8) j h4

theorem inM_iff {s : Msk} {j : Nat} : inM s j = true ↔ j ∈ s := Iff.rfl
theorem dstChk_get {t : Nat} {m : Msk} : ∀ {l : List (Option Nat)} {j k : Nat}, dstChk t m l j = true → l[k]? = some (some t) → j + k ∈ m
 | [], _, _, _, h => by simp at h
 | d :: r, j, k, h, hk => by
  simp only [dstChk, Bool.and_eq_true] at h
  cases k with
  | zero =>
   simp only [List.getElem?_cons_zero, Option.some.injEq] at hk
   subst hk
   have := h.1
   simp only [Nat.beq_refl, Bool.not_true, Bool.false_or] at this
   exact this
  | succ k =>
   have := dstChk_get h.2 (k := k) (by simpa using hk)
   rw [show j + (k + 1) = j + 1 + k by omega]; exact this
theorem idsCV_has {d : Nat} {c : CV} : c.hasAny d = inL (idsCV c) d := by
 have hc : ∀ k : Nat, Nat.beq k d = Nat.beq d k := fun k => by
  rw [Bool.eq_iff_iff]
  exact ⟨fun h => by rw [Nat.eq_of_beq_eq_true h]; simp, fun h => by rw [Nat.eq_of_beq_eq_true h]; simp⟩
 cases c <;> simp [CV.hasAny, CV.hasBox, CV.hasRow, CV.hasObj, CV.hasStp, idsCV, inL, hc]
theorem inL_append {a b : List Nat} {d : Nat} : inL (a ++ b) d = (inL a d || inL b d) := by simp [inL]
theorem inL_cons {a : Nat} {b : List Nat} {d : Nat} : inL (a :: b) d = (Nat.beq d a || inL b d) := by simp [inL]
theorem idsCVs_has {d : Nat} : ∀ {cs : List CV}, cs.any (CV.hasAny d) = inL (idsCVs cs) d
 | [] => rfl
 | c :: r => by rw [idsCVs, inL_append, ← idsCVs_has, ← idsCV_has]; rfl
theorem idsXs_has {d : Nat} : ∀ {l : List (Bool × List CV)}, (l.any fun p => p.2.any (CV.hasAny d)) = inL (idsXs l) d
 | [] => rfl
 | c :: r => by rw [idsXs, inL_append, ← idsXs_has, ← idsCVs_has]; rfl
theorem idsSV_has {d : Nat} : ∀ {s : SV}, s.hasAny d = inL (idsSV s) d
 | .v _ _ => idsCVs_has
 | .tup _ => idsXs_has
theorem idsSVs_has {d : Nat} : ∀ {l : List SV}, l.any (SV.hasAny d) = inL (idsSVs l) d
 | [] => rfl
 | c :: r => by rw [idsSVs, inL_append, ← idsSVs_has, ← idsSV_has]; rfl
theorem idsBs_has {d : Nat} : ∀ {l : List (Nat × List CV)}, inL (idsBs l) d = false → (l.any fun p => p.2.any (CV.hasAny d)) = false ∧ look l d = none
 | [], _ => ⟨rfl, rfl⟩
 | (k, cs) :: r, h => by
  rw [idsBs, inL_cons, inL_append, Bool.or_eq_false_iff, Bool.or_eq_false_iff] at h
  obtain ⟨h1, h2⟩ := idsBs_has h.2.2
  refine ⟨by rw [List.any_cons, h1, idsCVs_has, h.2.1]; rfl, ?_⟩
  have hk : Nat.beq k d = false := by
   cases hb : Nat.beq k d with
   | false => rfl
   | true => have := h.1; rw [Nat.eq_of_beq_eq_true hb] at this; simp at this
  rw [look, hk]; exact h2
theorem keysL_has {α : Type} {d : Nat} : ∀ {l : List (Nat × α)}, inL (keysL l) d = false → look l d = none
 | [], _ => rfl
 | (k, cs) :: r, h => by
  rw [keysL, inL_cons, Bool.or_eq_false_iff] at h
  have hk : Nat.beq k d = false := by
   cases hb : Nat.beq k d with
   | false => rfl
   | true => have := h.1; rw [Nat.eq_of_beq_eq_true hb] at this; simp at this
  rw [look, hk]; exact keysL_has h.2
theorem ids_has {S : St} {d : Nat} (h : inL S.ids d = false) : S.hasAny d = false ∧ look S.boxes d = none ∧ look S.rows d = none ∧ look S.objs d = none := by
 rw [St.ids, inL_append, inL_append, inL_append] at h
 simp only [Bool.or_eq_false_iff] at h
 obtain ⟨h1, h2, h3, h4⟩ := h
 obtain ⟨h5, h6⟩ := idsBs_has h2
 exact ⟨by rw [St.hasAny, idsSVs_has, h1, h5]; rfl, h6, keysL_has h3, keysL_has h4⟩
theorem says_ids {Sn : St} {d dj : Nat} : says Sn d dj = inL (idsAt Sn dj) d := by
 rw [says, idsAt, inL_append, ← idsSV_has]
 cases look Sn.boxes dj with
 | none => rfl
 | some cs => simp only; rw [idsCVs_has]

def undone (ops : List Oper) (n : Nat) (listed : Array Bool) (t : Nat) : Bool := (List.range n).any fun i => !listed.getD i true && (dstAt ops i == some t)

theorem undone_iff {ops : List Oper} {n t : Nat} {listed : Array Bool} : undone ops n listed t = true ↔ ∃ i, i < n ∧ listed.getD i true = false ∧ dstAt ops i = some t := by
 simp only [undone, List.any_eq_true, List.mem_range, Bool.and_eq_true, Bool.not_eq_true', beq_iff_eq]

section
variable {ops : List Oper} {n : Nat} {S Sn : St} {listed : Array Bool} {outs : List (Option Del)}

structure Known (X : Cx) (ops : List Oper) (n : Nat) (S : St) (outs : List (Option Del)) (Sn : St) : Prop where
 n_le : n ≤ ops.length
 dupl : dup (dsts (ops.take n)) = false
 head : ∀ i o, i < n → ops[i]? = some o → o.dst.isSome = true ∧ ∀ t, t ∈ o.looksAt ops.toArray → ∀ j, j < n → dstAt ops j = some t → j ∈ (deps ops).getD i m0
 edges : edgesOk ops = true
 len : outs.length = n
 sn : Sn = states (ops.take n) S outs
 step : ∀ i o x, i < n → ops[i]? = some o → outs[i]? = some x → HStep X ops S o (states ((ops.take n).take i) S (outs.take i)) x
 new : ∀ i d, i < n → dstAt ops i = some d → S.hasAny d = false ∧ look S.boxes d = none ∧ look S.rows d = none ∧ look S.objs d = none ∧
  ∀ j dj, j < n → dstAt ops j = some dj → i ≠ j → i ∉ (deps ops).getD j m0 → says Sn d dj = false

theorem take_get {l : List Oper} {n i : Nat} (h : i < n) : (l.take n)[i]? = l[i]? := List.getElem?_take_of_lt h

theorem dstAt_some {i d : Nat} (h : dstAt ops i = some d) : ∃ o, ops[i]? = some o ∧ o.dst = some d := by
 unfold dstAt at h
 cases ho : ops[i]? with
 | none => rw [ho] at h; cases h
 | some o => rw [ho] at h; exact ⟨o, rfl, h⟩

theorem deps_lt (hE : edgesOk ops = true) : ∀ (i : Nat) (o : Oper), ops[i]? = some o → ∀ j, j ∈ (deps ops).getD i m0 → j < i := by
 intro i
 induction i using Nat.strongRecOn with
 | _ i ih =>
  intro o hi j hj
  obtain ⟨e, h1, h2, h3, h4⟩ := deps_mem hi hj hE
  rcases h4 with rfl | h4
  ·exact h3
  ·have hlt : e.on < ops.length := Nat.lt_trans h3 (List.getElem?_eq_some_iff.1 hi).1
   exact Nat.lt_trans (ih e.on h3 _ (List.getElem?_eq_getElem hlt) j h4) h3

theorem mem_dsts_take {i j d : Nat} {o : Oper} (hj : ops[j]? = some o) (hd : o.dst = some d) (hji : j < i) : d ∈ dsts (ops.take i) := by
 simp only [dsts, List.mem_filterMap]
 exact ⟨o, List.mem_of_getElem? (by rw [take_get hji]; exact hj), hd⟩
theorem Known.uniq (K : Known X ops n S outs Sn) {i j d : Nat} (hi : i < n) (hj : j < n) (hdi : dstAt ops i = some d) (hdj : dstAt ops j = some d) : i = j := by
 obtain ⟨oi, h1, h2⟩ := dstAt_some hdi
 obtain ⟨oj, h3, h4⟩ := dstAt_some hdj
 rcases Nat.lt_trichotomy i j with h | h | h
 ·have := (dup_filterMap_drop K.dupl (i := j) (o := oj) (d := d) (by rw [take_get hj]; exact h3) h4).2
  exact absurd (mem_dsts_take (ops := ops.take n) (i := j) (j := i) (by rw [take_get hi]; exact h1) h2 h) this
 ·exact h
 ·have := (dup_filterMap_drop K.dupl (i := i) (o := oi) (d := d) (by rw [take_get hi]; exact h1) h2).2
  exact absurd (mem_dsts_take (ops := ops.take n) (i := i) (j := j) (by rw [take_get hj]; exact h3) h4 h) this

theorem Known.split (K : Known X ops n S outs Sn) (i : Nat) : Sn = states ((ops.take n).drop i) (states ((ops.take n).take i) S (outs.take i)) (outs.drop i) := by
 rw [K.sn]
 exact states_split _ _ _ i (by rw [K.len, List.length_take, Nat.min_eq_left K.n_le])

theorem Known.sn_len (K : Known X ops n S outs Sn) : Sn.tmps.length = S.tmps.length := by rw [K.sn, states_len]

theorem getD_of {l m : List SV} {t : Nat} (h : l[t]? = m[t]?) : l.getD t (.v false [.any]) = m.getD t (.v false [.any]) := by
 rw [List.getD_eq_getElem?_getD, List.getD_eq_getElem?_getD, h]

theorem Known.looks (K : Known X ops n S outs Sn) {i : Nat} {o : Oper} (hin : i < n) (hi : ops[i]? = some o)
  (hcl : ∀ j, j ∈ (deps ops).getD i m0 → listed.getD j true = true) : ∀ t, t ∈ o.looksAt ops.toArray →
  (restr S Sn (undone ops n listed)).tmps.getD t (.v false [.any]) = (states ((ops.take n).take i) S (outs.take i)).tmps.getD t (.v false [.any]) := by
 intro t ht
 have hund : undone ops n listed t = false := by
  cases hu : undone ops n listed t with
  | false => rfl
  | true =>
   obtain ⟨j, h1, h2, h3⟩ := undone_iff.1 hu
   have := hcl j ((K.head i o hin hi).2 t ht j h1 h3)
   rw [h2] at this; cases this
 have key : Sn.tmps[t]? = (states ((ops.take n).take i) S (outs.take i)).tmps[t]? := by
  by_cases hex : ∃ j, j < n ∧ dstAt ops j = some t
  ·obtain ⟨j, h1, h2⟩ := hex
   have hji := deps_lt K.edges i o hi j ((K.head i o hin hi).2 t ht j h1 h2)
   have hnd : t ∉ dsts ((ops.take n).drop i) := by
    intro hm
    simp only [dsts, List.mem_filterMap] at hm
    obtain ⟨p, hp, hpd⟩ := hm
    obtain ⟨m, hm⟩ := List.mem_iff_getElem?.1 hp
    rw [List.getElem?_drop] at hm
    have hmn : i + m < n := by
     have := (List.getElem?_eq_some_iff.1 hm).1
     simp at this; omega
    rw [take_get hmn] at hm
    have := K.uniq h1 hmn h2 (by unfold dstAt; rw [hm]; exact hpd)
    omega
   rw [K.split i]
   exact (states_other hnd).1
  ·have hnd : t ∉ dsts (ops.take n) := by
    intro hm
    simp only [dsts, List.mem_filterMap] at hm
    obtain ⟨p, hp, hpd⟩ := hm
    obtain ⟨m, hm⟩ := List.mem_iff_getElem?.1 hp
    have hmn : m < n := by
     have := (List.getElem?_eq_some_iff.1 hm).1
     simp at this; omega
    rw [take_get hmn] at hm
    exact hex ⟨m, hmn, by unfold dstAt; rw [hm]; exact hpd⟩
   have hnd' : t ∉ dsts ((ops.take n).take i) := fun hm => hnd (by
    simp only [dsts, List.mem_filterMap] at hm ⊢
    obtain ⟨p, hp, hpd⟩ := hm
    exact ⟨p, List.mem_of_mem_take hp, hpd⟩)
   rw [K.sn, (states_other hnd).1, (states_other hnd').1]
 rw [← getD_of key, List.getD_eq_getElem?_getD, restr_tmp]
 by_cases hlt : t < S.tmps.length
 ·simp [hlt, hund]
 ·rw [if_neg hlt]
  have : Sn.tmps[t]? = none := List.getElem?_eq_none (by rw [K.sn_len]; exact Nat.le_of_not_lt hlt)
  rw [List.getD_eq_getElem?_getD, this]

theorem Known.evs (K : Known X ops n S outs Sn) {i : Nat} {o : Oper} (hin : i < n) (hi : ops[i]? = some o)
  (hcl : ∀ j, j ∈ (deps ops).getD i m0 → listed.getD j true = true) : ∀ x, x ∈ o.op.operands → (restr S Sn (undone ops n listed)).ev x = (states ((ops.take n).take i) S (outs.take i)).ev x := by
 intro x hx
 cases x with
 | tmp t =>
  refine K.looks hin hi hcl t ?_
  simp only [Oper.looksAt, List.mem_append, List.mem_filterMap]
  exact .inl ⟨.tmp t, by simpa using hx, rfl⟩
 | const v => rfl
 | global g => rfl
 | func f => rfl

theorem Known.guards (K : Known X ops n S outs Sn) {i : Nat} {o : Oper} (hin : i < n) (hi : ops[i]? = some o)
  (hcl : ∀ j, j ∈ (deps ops).getD i m0 → listed.getD j true = true) : guardOf ops o (restr S Sn (undone ops n listed)) = guardOf ops o (states ((ops.take n).take i) S (outs.take i)) := by
 unfold guardOf
 cases hg : o.guard with
 | none => rfl
 | some p =>
  obtain ⟨j, want⟩ := p
  simp only
  cases ho' : ops[j]? with
  | none => rfl
  | some o' =>
   simp only
   cases hd : o'.dst with
   | none => rfl
   | some d =>
    simp only
    have : (restr S Sn (undone ops n listed)).ev (.tmp d) = (states ((ops.take n).take i) S (outs.take i)).ev (.tmp d) := by
     refine K.looks hin hi hcl d ?_
     simp only [Oper.looksAt, hg, List.mem_append]
     right
     simp [ho', hd]
    rw [this]

theorem Known.skip_eq (K : Known X ops n S outs Sn) {i : Nat} {o : Oper} (hin : i < n) (hi : ops[i]? = some o)
  (hcl : ∀ j, j ∈ (deps ops).getD i m0 → listed.getD j true = true) : skips ops o (restr S Sn (undone ops n listed)) = skips ops o (states ((ops.take n).take i) S (outs.take i)) := by
 unfold skips
 cases hg : o.guard with
 | none => rfl
 | some p =>
  obtain ⟨j, want⟩ := p
  simp only
  cases ho' : ops[j]? with
  | none => rfl
  | some o' =>
   simp only
   cases hd : o'.dst with
   | none => rfl
   | some d =>
    simp only
    have : (restr S Sn (undone ops n listed)).ev (.tmp d) = (states ((ops.take n).take i) S (outs.take i)).ev (.tmp d) := by
     refine K.looks hin hi hcl d ?_
     simp only [Oper.looksAt, hg, List.mem_append]
     right
     simp [ho', hd]
    rw [this]

end
end Go.Dn
