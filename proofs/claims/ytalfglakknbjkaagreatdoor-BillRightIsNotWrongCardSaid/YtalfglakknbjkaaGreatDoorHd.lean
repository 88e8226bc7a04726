/-
  The executor, its fifth part: whole functions are sound; a law whose plain model is always true holds. No condition.
-/
import Derived.Test.YtalfglakknbjkaaGreatDoorHe
import Derived.ReadAgain
import Derived.ChangeSame
import Derived.ChangeArms
import Derived.ChangeOld
import Derived.OpenShut
import Derived.ProofKit
import Derived.WalkKit
import Derived.Deep.DeepHandedRow
import Derived.Lib.LaidTab
import Derived.Shelf.Spec.SlicesInsertGrow
import Derived.Lib.SlicesCompact
import Derived.Sort.OwnSorted
import Derived.Shelf.Sort.Plain
import Derived.Shelf.Slices.In.SortNone
import Derived.Shelf.Slices.CompactS
set_option linter.all false
namespace Go.Dn
variable {X:Cx} {C:Fr}
def Ex.Gv:Ex→Exit
 | .normal=> .normal
 | .exit id=> .exit id
 | .ret=> .ret
theorem Of {β:Type} {A:Ann} {c:Code} {len:Nat} {anns:List (Nat×Ann)} {K:Ex→St→Option β} {r:β} {Q:Exit→Act→World→Prop}
 (ih:∀ {S:St} {K:Ex→St→Option β} {r:β},den X anns c β S K=some r→∀ {Q:Exit→Act→World→Prop},
   (∀ e S' G ρ w a,K e S'=some r→Mod C G ρ S' w a→Q e.Gv a w)→∀ {G ρ w a},Mod C G ρ S w a→c.wp X.P Q a w)
 (hQ:∀ e S' G ρ w a,K e S'=some r→Mod C G ρ S' w a→Q e.Gv a w):∀ (n:Nat) (x:dH A.cks) (G:Gh) (ρ:Env) (w:World) (a:Act),
 iter n x (fun x again=>den X anns c β (head A len x) fun e S'=>match e with
  | .normal=>match carry A S' with
   | some y=>bif Nat.beq S'.tmps.length len then again y else none
   | none=>none
  | .exit j=>K (.exit j) S'
  | .ret=>K .ret S')=some r→Mod C G ρ (head A len x) w a→Code.rounds X.P c Q n a w
 | 0,x,G,ρ,w,a,h,hM=>by simp [iter] at h
 | n+1,x,G,ρ,w,a,h,hM=>by
  simp only [iter] at h
  refine ih h (fun e S' G' ρ' w' a' hk hM'=> ?_) hM
  cases e with
  | normal=>
   simp only at hk
   split at hk
   ·rename_i y hy
    cases hb:Nat.beq S'.tmps.length len with
    | false=>rw [hb] at hk;cases hk
    | true=>
     rw [hb] at hk
     simp only [cond_true] at hk
     obtain ⟨G2,ρ2,h2⟩:=Nb hM' hy
     rw [XB hb] at h2
     exact Of ih hQ n y G2 ρ2 w' a' hk h2
   ·cases hk
  | exit id=>exact hQ (.exit id) S' G' ρ' w' a' hk hM'
  | ret=>exact hQ .ret S' G' ρ' w' a' hk hM'
theorem Ma {β γ:Type} {x:Option (β ⊕ γ)} {f:γ→Option β} {r:β} (h:aP x f=some r):∃ q,x=some q∧(q= .inl r∨∃ v,q= .inr v∧f v=some r):=by
 unfold aP at h
 split at h
 ·cases h
 ·cases h;exact ⟨_,rfl,.inl rfl⟩
 ·rename_i v;exact ⟨_,rfl,.inr ⟨v,rfl,h⟩⟩
theorem yz {β γ:Type} {x:Option β} {q:β ⊕ γ} (h:FB x=some q):∃ r,x=some r∧q= .inl r:=by
 unfold FB at h
 split at h
 ·cases h;exact ⟨_,rfl,rfl⟩
 ·cases h
theorem TC {β:Type} {A:Ann} {n:Nat} {S:St} {q:β ⊕ dH A.cks} (h:meet A n S=some q):∃ v,carry A S=some v∧S.tmps.length=n∧q= .inr v:=by
 unfold meet at h
 split at h
 ·rename_i v hv
  cases hb:Nat.beq S.tmps.length n with
  | false=>rw [hb] at h;cases h
  | true=>rw [hb] at h;simp only [cond_true,Option.some.injEq] at h;exact ⟨v,hv,XB hb,h.symm⟩
 ·cases h
theorem J9 {β:Type} {A:Ann} {n:Nat} {K:Ex→St→Option β} {r:β} {Q:Exit→Act→World→Prop} (hQ:∀ e S' G ρ w a,K e S'=some r→Mod C G ρ S' w a→Q e.Gv a w) {q:β ⊕ dH A.cks}
 (hq:q= .inl r∨∃ v,q= .inr v∧K .normal (head A n v)=some r) {S':St} {G:Gh} {ρ:Env} {w:World} {a:Act} (hM:Mod C G ρ S' w a) (h:meet A n S'=some q):Q .normal a w:=by
 obtain ⟨v,h1,h2,h3⟩:=TC h
 rcases hq with hq | ⟨v',hq,hk⟩
 ·rw [h3] at hq;cases hq
 ·rw [h3] at hq
  cases hq
  obtain ⟨G2,ρ2,hm⟩:=Nb hM h1
  rw [h2] at hm
  exact hQ .normal _ G2 ρ2 w a hk hm
theorem SX {β:Type} {a b:Option β} {r:β} (h:both a b=some r):a=some r∧b=some r:=by
 unfold both at h
 split at h
 ·rename_i e;exact ⟨h,e ▸ h⟩
 ·cases h
theorem S7 {β:Type} (a:Option β):both a a=a:=by unfold both;simp
theorem Vd (hX:gb X) (hmix:X.P.follows .mixedOrders=true) (anns:List (Nat×Ann)):∀ (c:Code) {β:Type} {S:St} {K:Ex→St→Option β} {r:β},den X anns c β S K=some r→∀ {Q:Exit→Act→World→Prop},
 (∀ e S' G ρ w a,K e S'=some r→Mod C G ρ S' w a→Q e.Gv a w)→∀ {G ρ w a},Mod C G ρ S w a→c.wp X.P Q a w:=by
 intro c
 induction c with
 | skip=>
  intro β S K r h Q hQ G ρ w a hM
  exact wp_skip (hQ .normal S G ρ w a h hM)
 | region id ops dr=>
  intro β S K r h Q hQ G ρ w a hM
  cases dr with
  | true=>
   simp only [den,cond_true] at h
   have:=Sr hX hmix h (Q:=Q) (fun S' G ρ w a hk hM=>hQ .normal S' G ρ w a hk hM) hM id
   simpa using this
  | false=>
   simp only [den,cond_false] at h
   refine wp_region_list ?_
   have:=vh hX ops.toList ops.toList h (Q:=Q) (fun S' G ρ w a hk hM=>hQ .normal S' G ρ w a hk hM) hM
   simpa using this
 | seq x y ihx ihy=>
  intro β S K r h Q hQ G ρ w a hM
  simp only [den] at h
  refine wp_seq (ihx h (fun e S' G' ρ' w' a' hk hM'=> ?_) hM)
  cases e with
  | normal=>exact ihy hk hQ hM'
  | exit id=>exact hQ (.exit id) S' G' ρ' w' a' hk hM'
  | ret=>exact hQ .ret S' G' ρ' w' a' hk hM'
 | cond b x y ihx ihy=>
  intro β S K r h Q hQ G ρ w a hM
  simp only [den] at h
  split at h
  ·rename_i t ht
   have hv:=hM.tmps.ev b
   rw [ht] at hv
   split at h
   ·rename_i A hA
    obtain ⟨q,h1,hq⟩:=Ma h
    refine wp_cond_split (t:=t) hv (fun e=> ?_) (fun e=> ?_)
    ·subst e
     simp only [cond_true] at h1
     refine ihx h1 (fun e S' G' ρ' w' a' hk hM'=> ?_) hM
     cases e with
     | normal=>exact J9 hQ hq hM' hk
     | exit j=>
      obtain ⟨r',hr,hr2⟩:=yz hk
      rcases hq with hq | ⟨v,hq,_⟩
      ·rw [hr2] at hq;cases hq;exact hQ (.exit j) S' G' ρ' w' a' hr hM'
      ·rw [hr2] at hq;cases hq
     | ret=>
      obtain ⟨r',hr,hr2⟩:=yz hk
      rcases hq with hq | ⟨v,hq,_⟩
      ·rw [hr2] at hq;cases hq;exact hQ .ret S' G' ρ' w' a' hr hM'
      ·rw [hr2] at hq;cases hq
    ·subst e
     simp only [cond_false] at h1
     refine ihy h1 (fun e S' G' ρ' w' a' hk hM'=> ?_) hM
     cases e with
     | normal=>exact J9 hQ hq hM' hk
     | exit j=>
      obtain ⟨r',hr,hr2⟩:=yz hk
      rcases hq with hq | ⟨v,hq,_⟩
      ·rw [hr2] at hq;cases hq;exact hQ (.exit j) S' G' ρ' w' a' hr hM'
      ·rw [hr2] at hq;cases hq
     | ret=>
      obtain ⟨r',hr,hr2⟩:=yz hk
      rcases hq with hq | ⟨v,hq,_⟩
      ·rw [hr2] at hq;cases hq;exact hQ .ret S' G' ρ' w' a' hr hM'
      ·rw [hr2] at hq;cases hq
   ·refine wp_cond_split (t:=t) hv (fun e=> ?_) (fun e=> ?_)
    ·subst e;exact ihx h hQ hM
    ·subst e;exact ihy h hQ hM
  ·rename_i t ht
   have hv:=hM.tmps.ev b
   rw [ht] at hv
   obtain ⟨c,hc,hf⟩:=(hv:bu G ρ (.nb t) _)
   cases t with
   | false=>
    have:=hf rfl
    subst this
    exact wp_cond_split (t:=false) hc (fun e=>by cases e) (fun _=>ihy h hQ hM)
   | true=>
    obtain ⟨h1,h2⟩:=SX h
    exact wp_cond_split (t:=c) hc (fun _=>ihx h1 hQ hM) (fun _=>ihy h2 hQ hM)
  ·cases h
 | block id x ih=>
  intro β S K r h Q hQ G ρ w a hM
  simp only [den] at h
  split at h
  ·rename_i A hA
   obtain ⟨q,h1,hq⟩:=Ma h
   refine wp_block (ih h1 (fun e S' G' ρ' w' a' hk hM'=> ?_) hM)
   cases e with
   | normal=>exact J9 hQ hq hM' hk
   | exit j=>
    simp only at hk
    simp only [Ex.Gv,Exit.inBlock]
    split at hk
    ·rename_i hb
     rw [if_pos (XB hb)]
     exact J9 hQ hq hM' hk
    ·rename_i hb
     rw [if_neg (fun e=>hb (by rw [e];simp))]
     obtain ⟨r',hr,hr2⟩:=yz hk
     rcases hq with hq | ⟨v,hq,_⟩
     ·rw [hr2] at hq;cases hq;exact hQ (.exit j) S' G' ρ' w' a' hr hM'
     ·rw [hr2] at hq;cases hq
   | ret=>
    obtain ⟨r',hr,hr2⟩:=yz hk
    rcases hq with hq | ⟨v,hq,_⟩
    ·rw [hr2] at hq;cases hq;exact hQ .ret S' G' ρ' w' a' hr hM'
    ·rw [hr2] at hq;cases hq
  ·refine wp_block (ih h (fun e S' G' ρ' w' a' hk hM'=> ?_) hM)
   cases e with
   | normal=>exact hQ .normal S' G' ρ' w' a' hk hM'
   | exit j=>
    simp only at hk
    simp only [Ex.Gv,Exit.inBlock]
    split at hk
    ·rename_i hb
     rw [if_pos (XB hb)]
     exact hQ .normal S' G' ρ' w' a' hk hM'
    ·rename_i hb
     rw [if_neg (fun e=>hb (by rw [e];simp))]
     exact hQ (.exit j) S' G' ρ' w' a' hk hM'
   | ret=>exact hQ .ret S' G' ρ' w' a' hk hM'
 | loop x ih=>
  intro β S K r h Q hQ G ρ w a hM
  simp only [den] at h
  split at h
  ·rename_i A hA
   split at h
   ·rename_i y hy
    obtain ⟨G2,ρ2,h2⟩:=Nb hM hy
    exact wp_loop_rounds (A.fuel y) (Of ih hQ (A.fuel y) y G2 ρ2 w a h h2)
   ·cases h
  ·cases h
 | exit id=>
  intro β S K r h Q hQ G ρ w a hM
  exact wp_exit (hQ (.exit id) S G ρ w a h hM)
 | ret=>
  intro β S K r h Q hQ G ρ w a hM
  exact wp_ret (hQ .ret S G ρ w a h hM)
 | _=>
  intro β S K r h
  simp [den] at h
end Go.Dn
namespace Go.Dn
variable {X:Cx} {C:Fr} {G:Gh} {ρ:Env} {w:World}
def iA (ρ:Env):Nat→List PM→List Value→Prop
 | _,[],_=>True
 | i,.mrow _ _::r,vs=>(vs.head? =some (ρ.rw (pid i 0))∧∃ a n c,ρ.rw (pid i 0)= .slice a n c)∧iA ρ (i+1) r vs.tail
 | i,.map _ _::r,vs=>(vs.head? =some (ρ.ob (pid i 0))∧∃ b,ρ.ob (pid i 0)= .map (some b))∧iA ρ (i+1) r vs.tail
 | i,.box _::r,vs=>vs.head? =some (.pointer (some ⟨ρ.bx (2000+i),0,none⟩))∧iA ρ (i+1) r vs.tail
 | i,.ar _::r,vs=>iA ρ (i+1) r vs
 | i,.arR _::r,vs=>iA ρ (i+1) r vs
 | i,.val _::r,vs=>iA ρ (i+1) r vs.tail
 | i,.row _ _::r,vs=>iA ρ (i+1) r vs.tail
theorem RF (i:Nat):10000000≤pid i 0:=by simp only [pid,pD,nid];omega
theorem iA.congr {ρ ρ':Env} (hb:∀ k,2000≤k→ρ'.bx k=ρ.bx k) (hr:∀ k,10000000≤k→ρ'.rw k=ρ.rw k∧ρ'.ob k=ρ.ob k):∀ {ps:List PM} {i:Nat} {vs:List Value},iA ρ i ps vs→iA ρ' i ps vs
 | [],_,_,_=>trivial
 | .mrow _ _::r,i,vs,h=>by
  simp only [iA] at h ⊢
  rw [(hr _ (RF i)).1];exact ⟨h.1,h.2.congr hb hr⟩
 | .map _ _::r,i,vs,h=>by
  simp only [iA] at h ⊢
  rw [(hr _ (RF i)).2];exact ⟨h.1,h.2.congr hb hr⟩
 | .box _::r,i,vs,h=>by
  simp only [iA] at h ⊢
  rw [hb _ (by omega)];exact ⟨h.1,h.2.congr hb hr⟩
 | .ar _::r,i,vs,h=>iA.congr (ps:=r) hb hr h
 | .arR _::r,i,vs,h=>iA.congr (ps:=r) hb hr h
 | .val _::r,i,vs,h=>iA.congr (ps:=r) hb hr h
 | .row _ _::r,i,vs,h=>iA.congr (ps:=r) hb hr h
theorem Trans.refl (G:Gh) (b:Bool):Trans G G b:=⟨fun _ _ h=>h,.inr (Gh.le_refl G)⟩
theorem qa {ow:Nat→Option Nat}:∀ {ps:List PM} {i:Nat} {x:gq ps} {vs:List Value},kM G w ow i ps x vs→
 ∃ vals:List (bB×Value),vals.map (·.1)=(ew i ps).map (·.1)∧(∀ k v,(.inl k,v)∈vals→∃ b,v= .pointer (some ⟨b,0,none⟩))∧
  ∀ ρ:Env,(∀ o v,(o,v)∈vals→Asg ρ w o v)→(∀ o n,(o,n)∈ew i ps→∀ b,ow b=some n→ρ.own b=some o)→
   aZ (bK G ρ) (mT i ps x) vs∧lT G ρ w (sF i ps x) (qR i ps x) (jA i ps x)∧iA ρ i ps vs
 | [],i,x,vs,h=>⟨[],rfl,fun k v h=>by simp at h,fun ρ _ _=>⟨h,lT.nil,trivial⟩⟩
 | .val t::r,i,x,vs,⟨v,us,h1,_,hv,hu⟩=>by
  obtain ⟨vals,e,hp,hr⟩:=qa hu
  refine ⟨vals,e,hp,fun ρ hA hO=> ?_⟩
  obtain ⟨g1,g2,g3⟩:=hr ρ hA hO
  rw [h1 rfl]
  exact ⟨⟨v,us,rfl,Ka ρ hv,g1⟩,g2,g3⟩
 | .row e' t::r,i,x,vs,⟨v,us,h1,_,⟨hv,hv2⟩,hu⟩=>by
  obtain ⟨vals,e,hp,hr⟩:=qa hu
  refine ⟨(.inr (pid i 0),v)::vals,by simp [ew,e],fun k v h=>hp k v (by simpa using h),fun ρ hA hO=> ?_⟩
  obtain ⟨g1,g2,g3⟩:=hr ρ (fun o v h=>hA o v (by simp [h])) (fun o n h=>hO o n (by simp [ew,h]))
  have hav:ρ.rw (pid i 0)=v:=hA (.inr (pid i 0)) v (by simp)
  rw [h1 rfl]
  refine ⟨⟨v,us,rfl,⟨hav.symm,hv.isSlice⟩,g1⟩,⟨g2.bx,fun j q hj=> ?_,g2.ob⟩,g3⟩
  simp only [qR,aE] at hj
  split at hj
  ·rename_i ej
   subst ej
   cases hj
   exact hv.ok (Trans.refl G _) hav (fun b hb=>hO _ _ (by simp [ew]) b (hv2 b hb))
  ·exact g2.rw j q hj
 | .mrow e' t::r,i,x,vs,⟨v,us,h1,_,⟨hv,hv2⟩,hu⟩=>by
  obtain ⟨vals,e,hp,hr⟩:=qa hu
  refine ⟨(.inr (pid i 0),v)::vals,by simp [ew,e],fun k v h=>hp k v (by simpa using h),fun ρ hA hO=> ?_⟩
  obtain ⟨g1,g2,g3⟩:=hr ρ (fun o v h=>hA o v (by simp [h])) (fun o n h=>hO o n (by simp [ew,h]))
  have hav:ρ.rw (pid i 0)=v:=hA (.inr (pid i 0)) v (by simp)
  rw [h1 rfl]
  refine ⟨⟨v,us,rfl,⟨hav.symm,hv.isSlice⟩,g1⟩,⟨g2.bx,fun j q hj=> ?_,g2.ob⟩,⟨by rw [hav];rfl,by rw [hav];exact hv.isSlice⟩,g3⟩
  simp only [qR,aE] at hj
  split at hj
  ·rename_i ej
   subst ej
   cases hj
   exact hv.ok (Trans.refl G _) hav (fun b hb=>hO _ _ (by simp [ew]) b (hv2 b hb))
  ·exact g2.rw j q hj
 | .map kk vv::r,i,x,vs,⟨v,us,h1,_,⟨b,hv,hv1,hv2⟩,hu⟩=>by
  obtain ⟨vals,e,hp,hr⟩:=qa hu
  refine ⟨(.ob (pid i 0),v)::vals,by simp [ew,e],fun k v h=>hp k v (by simpa using h),fun ρ hA hO=> ?_⟩
  obtain ⟨g1,g2,g3⟩:=hr ρ (fun o v h=>hA o v (by simp [h])) (fun o n h=>hO o n (by simp [ew,h]))
  rw [h1 rfl]
  subst hv
  have ho:ρ.own b=some (.ob (pid i 0)):=hO _ _ (by simp [ew]) b hv1
  obtain ⟨m1,m2⟩:=hv2.ok (Trans.refl G _) (hA (.ob (pid i 0)) (.map (some b)) (by simp)) ho
  refine ⟨⟨_,us,rfl,⟨m2.symm,b,rfl⟩,g1⟩,⟨g2.bx,g2.rw,fun j q hj=> ?_⟩,⟨by rw [m2];rfl,b,m2⟩,g3⟩
  simp only [jA,aE] at hj
  split at hj
  ·rename_i ej
   subst ej
   cases hj
   exact m1
  ·exact g2.ob j q hj
 | .box l::r,i,x,vs,⟨v,us,h1,_,hv,hu⟩=>by
  obtain ⟨vals,e,hp,hr⟩:=qa hu
  obtain ⟨vals2,hv2,hr2⟩:=Li (G3:=G) (d:=pD) (k:=2000+i) (Trans.refl G _) hv
  refine ⟨(.inl (2000+i),v)::(vals2++vals),by simp [ew,e,hv2],fun k v' h=> ?_,fun ρ hA hO=> ?_⟩
  ·rcases W9.1 h with h | h
   ·cases h
    obtain ⟨b,_,_,e1,_⟩:=hv
    exact ⟨b,e1⟩
   ·rcases W8.1 h with h | h
    ·have hm:(.inl k:bB)∈vals2.map (·.1):=Xf.2 ⟨_,h,rfl⟩
     rw [hv2] at hm
     obtain ⟨p,hp,e1⟩:=Xf.1 hm
     obtain ⟨p1,p2⟩:=p
     simp only at e1
     subst e1
     exact absurd hp ((yx (x:=x.1)).2.2 k p2)
    ·exact hp k v' h
  ·obtain ⟨g1,g2,g3⟩:=hr ρ (fun o v h=>hA o v (by simp [h])) (fun o n h=>hO o n (by simp [ew,h]))
   have hk:=hA (.inl (2000+i)) v (by simp)
   have g4:=hr2 ρ hk (fun o v h=>hA o v (by simp [h])) (fun o n h=>hO o n (by
    simp only [W9] at h
    simp only [ew,W9,W8]
    rcases h with h | h
    ·exact .inl h
    ·exact .inr (.inl h)))
   rw [h1 rfl]
   exact ⟨⟨v,us,rfl,hk,g1⟩,g4.app g2,by rw [show v=_ from hk];rfl,g3⟩
 | .ar t::r,i,x,vs,⟨v,us,_,h1,hv,hu⟩=>by
  obtain ⟨vals,e,hp,hr⟩:=qa hu
  refine ⟨(.ob bH,undef)::vals,by simp [ew,e],fun k v h=>hp k v (by simpa using h),fun ρ hA hO=> ?_⟩
  obtain ⟨g1,g2,g3⟩:=hr ρ (fun o v h=>hA o v (by simp [h])) (fun o n h=>hO o n (by simp [ew,h]))
  have e1:=h1 rfl
  subst e1
  refine ⟨g1,⟨g2.bx,g2.rw,fun j q hj=> ?_⟩,g3⟩
  simp only [jA,aE] at hj
  split at hj
  ·rename_i ej
   subst ej
   cases hj
   refine ⟨rfl,hv.1,hv.2.1,fun n z hz=> ?_⟩
   obtain ⟨b,ws,T,f1,f2,f3,f4,f5⟩:=hv.2.2 n z hz
   exact ⟨b,ws,T,f1,nofun,fun _=>hO _ _ (by simp [ew]) b (f3 rfl),f4,f5⟩
  ·exact g2.ob j q hj
 | .arR t::r,i,x,vs,⟨v,us,_,h1,hv,hu⟩=>by
  obtain ⟨vals,e,hp,hr⟩:=qa hu
  refine ⟨vals,e,hp,fun ρ hA hO=> ?_⟩
  obtain ⟨g1,g2,g3⟩:=hr ρ hA hO
  have e1:=h1 rfl
  subst e1
  refine ⟨g1,⟨g2.bx,g2.rw,fun j q hj=> ?_⟩,g3⟩
  simp only [jA,aE] at hj
  split at hj
  ·rename_i ej
   subst ej
   cases hj
   refine ⟨rfl,hv.1,hv.2.1,fun n z hz=> ?_⟩
   obtain ⟨b,ws,T,f1,f2,f3,f4,f5⟩:=hv.2.2 n z hz
   exact ⟨b,ws,T,f1,f2,nofun,f4,f5⟩
  ·exact g2.ob j q hj
theorem Aa:∀ {ps:List PM} {i:Nat} {o:bB} {n:Nat},(o,n)∈ew i ps→(∃ k,o= .inl k)∨o= .ob bH∨HJ pD o n
 | [],i,o,n,h=>by simp [ew] at h
 | .val _::r,i,o,n,h=>Aa (ps:=r) h
 | .arR _::r,i,o,n,h=>Aa (ps:=r) h
 | .row _ _::r,i,o,n,h=>by
  simp only [ew,W9,Prod.mk.injEq] at h
  rcases h with ⟨h,h'⟩ | h
  ·subst h;subst h';exact .inr (.inr (.inl (by rw [pid,DQ];rfl)))
  ·exact Aa (ps:=r) h
 | .mrow _ _::r,i,o,n,h=>by
  simp only [ew,W9,Prod.mk.injEq] at h
  rcases h with ⟨h,h'⟩ | h
  ·subst h;subst h';exact .inr (.inr (.inl (by rw [pid,DQ];rfl)))
  ·exact Aa (ps:=r) h
 | .map _ _::r,i,o,n,h=>by
  simp only [ew,W9,Prod.mk.injEq] at h
  rcases h with ⟨h,h'⟩ | h
  ·subst h;subst h';exact .inr (.inr (.inr (by rw [pid,DQ];rfl)))
  ·exact Aa (ps:=r) h
 | .box l::r,i,o,n,h=>by
  simp only [ew,W9,W8,Prod.mk.injEq] at h
  rcases h with ⟨h,h'⟩ | h | h
  ·exact .inl ⟨_,h⟩
  ·exact .inr (.inr (Df h))
  ·exact Aa (ps:=r) h
 | .ar _::r,i,o,n,h=>by
  simp only [ew,W9,Prod.mk.injEq] at h
  rcases h with ⟨h,h'⟩ | h
  ·exact .inr (.inl h)
  ·exact Aa (ps:=r) h
def PU (tmps:Array Value):ResultVar→Sem Value
 | .tmp t=>pure (tmps.getD t undef)
 | .cell a t=>do loadVar t (← asAddr (tmps.getD a undef))
theorem Tk {S:St} {a:Act} {s:SV} {v:ResultVar} (hM:Mod C G ρ S w a) (h:O3 X S v=some s):∃ u,(PU a.tmps v).run X.P w= .ok u w∧bK G ρ s u:=by
 cases v with
 | tmp t=>
  simp only [O3,Option.some.injEq] at h
  subst h
  exact ⟨_,rfl,hM.tmps.ev (.tmp t)⟩
 | cell t T=>
  simp only [O3] at h
  split at h
  ·rename_i b off hx
   split at h
   ·rename_i l hl
    obtain ⟨s',hs,hld⟩:=Cd h
    cases hs
    have h1:=hM.tmps.ev (.tmp t)
    simp only [St.ev] at h1
    rw [hx] at h1
    have h2:a.tmps.getD t undef= .pointer (some ⟨ρ.bx b,off,none⟩):=h1
    obtain ⟨_,vs,T',hw,hv⟩:=hM.boxes b l hl
    obtain ⟨u,hr,hsv⟩:=hld G ρ w (ρ.bx b) 0 vs hv (fun j v hj=>by
     have hadd:(⟨ρ.bx b,0,none⟩:Addr).add j=⟨ρ.bx b,j,none⟩:=by unfold Addr.add;split<;>simp_all
     rw [hadd,cell_of_row w _ j _ T' (0,0) hw];simpa using hj)
    refine ⟨u, ?_,hsv⟩
    simp only [XV] at hr
    simp only [PU,h2,asAddr,Sem.run_bind,Sem.run_pure,Result.andThen_ok,hr]
   ·cases h
  ·cases h
theorem Ms {S:St} {a:Act} (hM:Mod C G ρ S w a):∀ {rs:List ResultVar} {l:List SV},F6 X S rs=some l→∃ us,(rs.mapM (PU a.tmps)).run X.P w= .ok us w∧aZ (bK G ρ) l us
 | [],l,h=>by
  simp only [F6,Option.some.injEq] at h
  subst h
  exact ⟨[],rfl,rfl⟩
 | v::r,l,h=>by
  simp only [F6] at h
  split at h
  ·rename_i s hs
   split at h
   ·rename_i l' hl'
    cases h
    obtain ⟨u,h1,h2⟩:=Tk hM hs
    obtain ⟨us,h3,h4⟩:=Ms hM hl'
    refine ⟨u::us, ?_,u,us,rfl,h2,h4⟩
    simp only [List.mapM_cons,Sem.run_bind,h1,Result.andThen_ok,h3,Sem.run_pure]
   ·cases h
  ·cases h
theorem Rb {fn:Func} {tmps:Array Value} {P:Program} {us:List Value} (h:(fn.results.toList.mapM (PU tmps)).run P w= .ok us w):(results fn tmps).run P w= .ok (D7 us) w:=by
 have e:results fn tmps=(do
  let vs ← fn.results.mapM (PU tmps)
  pure (if h:vs.size=1 then vs[0] else .tuple vs)):=by
  unfold results
  congr 2
 rw [e,Array.mapM_eq_mapM_toList]
 simp only [Sem.run_bind,Sem.run_map,h,Result.andThen_ok,Sem.run_pure]
 match us with
 | []=>rfl
 | [v]=>rfl
 | v::u::r=>simp [D7]
theorem Pd (S:St) (ps:List PM) (bx:Option (gU ps)) (s:SV) (q:List SV):AF S ps bx [] (s::q)=none:=rfl
theorem Qh (S:St) (ps:List PM) (bx:Option (gU ps)) (p:RM) (r:List RM) (s:SV) (q:List SV):AF S ps bx (p::r) (s::q)=match Dd S p s with
 | some x=>match AF S ps bx r q with
  | some y=>some (x,y)
  | none=>none
 | none=>none:=rfl
theorem Q9 (S:St) (ps:List PM) (bx:Option (gU ps)) (p:RM) (r:List RM):AF S ps bx (p::r) []=none:=rfl
theorem RH {s:SV} {c:CV} {v:Value} (hc:ud s=some c) (hs:bK G ρ s v):bu G ρ c v:=by
 unfold ud at hc
 split at hc
 ·cases hc;exact hs
 ·cases hc
section
variable {V:St} {ow:List (bB×Nat)} (hM:Mem C G ρ V w)
include hM
theorem MI {l:List OT} {k n:Nat} {cs:List CV} {x:oY l} {v:Value} (hcs:look V.boxes k=some cs) (h:pO V l cs=some x) (hv:v= .pointer (some ⟨ρ.bx k,0,none⟩)) (ho:∀ q,q∈(.inl k,n)::qU (n+1) l cs→c7 ow q.1=some q.2):
 zT G w (gj ρ ow) n l x v:=by
 obtain ⟨h1,vs,T,h2,h3⟩:=hM.boxes k cs hcs
 refine ⟨ρ.bx k,vs,T,hv, ?_,h2,Bs hM (Gh.le_refl G) h h3 (fun q hq=>ho q (by simp [hq]))⟩
 simp only [gj,h1,Option.bind_some]
 exact ho (.inl k,n) (by simp)
theorem SG {p:RM} {s:SV} {x:p.den} {v:Value} {c:Nat} {r:List RM} {q:List SV} (h:Dd V p s=some x) (hv:bK G ρ s v) (ho:∀ z,z∈pG V c (p::r) (s::q)→c7 ow z.1=some z.2):Si G w (gj ρ ow) c p x v:=by
 cases p with
 | val t=>exact rV hM.frozen (qu.nil _ _ _) h hv
 | row e t=>
  simp only [Dd] at h
  split at h
  ·rename_i cv hc
   exact tC hM (Gh.le_refl G) h (RH hc hv) (fun z hz=>ho z (by simp only [pG,hc,W8];exact .inl hz))
  ·cases h
 | map k e=>
  simp only [Dd] at h
  split at h
  ·rename_i cv hc
   exact Bq hM (Gh.le_refl G) h (RH hc hv) (fun z hz=>ho z (by simp only [pG,hc,W8];exact .inl hz))
  ·cases h
 | box l=>
  simp only [Dd] at h
  split at h
  ·rename_i k hk
   split at h
   ·rename_i cs hcs
    exact MI hM hcs h (Od hk hv) (fun z hz=>ho z (by simp only [pG,hk,hcs,W8];exact .inl hz))
   ·cases h
  ·cases h
theorem Sp {ps:List PM} {bx:Option (gU ps)} {args:List Value} (hbx:∀ y,bx=some y→rz G w (gj ρ ow) 0 ps y args) (rs:List RM):
 ∀ {l:List SV} {y:dx ps rs} {us:List Value} (c:Nat),(∀ z,z∈pG V c rs l→c7 ow z.1=some z.2)→AF V ps bx rs l=some y→aZ (bK G ρ) l us→qI G w (gj ρ ow) ps args c rs y us:=by
 induction rs with
 | nil=>
  intro l y us c _ h hv
  cases l with
  | nil=>exact ⟨hv,hbx y h⟩
  | cons s q=>rw [Pd] at h;cases h
 | cons p r ih=>
  intro l y us c ho h hv
  cases l with
  | nil=>rw [Q9] at h;cases h
  | cons s q=>
   obtain ⟨v,us',e',hs,hq⟩:=hv
   subst e'
   rw [Qh] at h
   split at h
   ·rename_i x hx
    split at h
    ·rename_i z hz
     cases h
     refine ⟨v,us',rfl,SG hM hx hs ho,ih (c+1) (fun t ht=>ho t ?_) hz hq⟩
     cases p<;>simp only [pG,W8]<;>first | exact .inr ht | exact ht
    ·cases h
   ·cases h
theorem rY:∀ {ps:List PM} {i:Nat} {y:gU ps} {vs:List Value},rF V i ps=some y→(∀ z,z∈nO V i ps→c7 ow z.1=some z.2)→iA ρ i ps vs→rz G w (gj ρ ow) i ps y vs
 | [],i,y,vs,_,_,_=>trivial
 | .val _::r,i,y,vs,h,ho,hp=>rY (ps:=r) h ho hp
 | .row _ _::r,i,y,vs,h,ho,hp=>rY (ps:=r) h ho hp
 | .arR _::r,i,y,vs,h,ho,hp=>rY (ps:=r) h ho hp
 | .mrow e t::r,i,y,vs,h,ho,⟨⟨hp1,hp2⟩,hp⟩=>by
  simp only [rF] at h
  split at h
  ·rename_i x z hx hz
   cases h
   have:=tC (ow:=ow) (n:=64*i) hM (Gh.le_refl G) hx (v:=ρ.rw (pid i 0)) ⟨rfl,hp2⟩ (fun q hq=>ho q (by
    simp only [qM,Xj] at hq
    subst hq;simp [nO]))
   exact ⟨⟨_,hp1,this.1,this.2⟩,rY (ps:=r) hz (fun q hq=>ho q (by simp [nO,hq])) hp⟩
  ·cases h
 | .map kk vv::r,i,y,vs,h,ho,⟨⟨hp1,hp2⟩,hp⟩=>by
  simp only [rF] at h
  split at h
  ·rename_i x z hx hz
   cases h
   obtain ⟨b,h1,h2,h3⟩:=Bq (ow:=ow) (n:=64*i) hM (Gh.le_refl G) hx (v:=ρ.ob (pid i 0)) ⟨rfl,hp2⟩ (fun q hq=>ho q (by
    simp only [qM,Xj] at hq
    subst hq;simp [nO]))
   exact ⟨⟨b,by rw [hp1,h1],h2,h3⟩,rY (ps:=r) hz (fun q hq=>ho q (by simp [nO,hq])) hp⟩
  ·cases h
 | .box l::r,i,y,vs,h,ho,⟨hp1,hp⟩=>by
  simp only [rF] at h
  split at h
  ·rename_i cs hcs
   split at h
   ·rename_i x z hx hz
    cases h
    refine ⟨⟨_,hp1,MI hM hcs hx rfl (fun q hq=>ho q ?_)⟩,rY (ps:=r) hz (fun q hq=>ho q ?_) hp⟩
    ·simp only [nO,hcs,Wv,W9,W8]
     rcases W9.1 hq with hq | hq
     ·exact .inl hq
     ·exact .inr (.inl hq)
    ·simp only [nO,hcs,Wv,W9,W8]
     exact .inr (.inr hq)
   ·cases h
  ·cases h
 | .ar t::r,i,y,vs,h,ho,hp=>by
  simp only [rF] at h
  split at h
  ·rename_i x z hx hz
   cases h
   obtain ⟨f,hl,hf⟩:=vl hx
   have:=hf rfl
   subst this
   obtain ⟨_,h1,h2,h3⟩:=hM.objs bH _ hl
   refine ⟨⟨h1,h2,fun n z hz=> ?_⟩,rY (ps:=r) hz (fun q hq=>ho q (by simp [nO,hq])) hp⟩
   obtain ⟨b,vs,T,g1,g2,g3,g4,g5⟩:=h3 n z hz
   refine ⟨b,vs,T,g1,nofun,fun _=> ?_,g4,g5⟩
   have:=g3 rfl
   simp only [gj,this,Option.bind_some]
   exact ho (.ob bH,64*i) (by simp [nO])
  ·cases h
end
end Go.Dn
namespace Go.Dn
variable {X:Cx}
section
variable {G G':Gh} {w:World} {ow:Nat→Option Nat} (hG:∀ b o,G b=some o→G' b=some o)
include hG
theorem cR.bn {t:Ty} {x:t.den} {v:Value} (hn:t.bn=true) (h:cR G t x v):cR G' t x v:=by
 cases t with
 | st t=>obtain ⟨vs,e,hv⟩:=h;exact ⟨vs,e,aS.bn hG t x vs (by simpa [Ty.bn] using hn) hv⟩
 | _=>exact aS.bn hG _ x _ hn h
theorem ug.bn {e:TypeId} {t:Ty} {l:List t.den} {v:Value} (hn:t.bn=true) (h:ug G w e t l v):ug G' w e t l v:=by
 obtain ⟨xs,h1,h2⟩:=h
 exact ⟨xs,h1,h2.mono fun x cs=>aS.bn hG t x cs hn⟩
theorem Bc.bn {k v:Ty} {l:List (k.den×v.den)} {b:Nat} (hk:k.bn=true) (hv:v.bn=true) (h:Bc G w k v l b):Bc G' w k v l b:=by
 obtain ⟨es,clock,h1,h2,h3⟩:=h
 exact ⟨es,clock,h1,h2.mono fun x y hxy=>⟨hxy.1.bn hG hk,hxy.2.bn hG hv⟩,h3⟩
def Gg (l:List OT):Bool:=l.all fun | .val t=>t.bn | .row _ t=>t.bn | .map k v=>k.bn&&v.bn
theorem Bl.bn:∀ {l:List OT} {n:Nat} {x:oY l} {vs:List Value},Gg l=true→Bl G w ow n l x vs→Bl G' w ow n l x vs
 | [],_,_,_,_,h=>h
 | .val t::r,n,x,vs,hn,⟨a,b,e,h1,h2⟩=>by
  simp only [Gg,Wp,VZ] at hn
  exact ⟨a,b,e,aS.bn hG t x.1 a hn.1 h1,Bl.bn hn.2 h2⟩
 | .row _ t::r,n,x,vs,hn,⟨a,b,e,⟨v,e2,h1,h3⟩,h2⟩=>by
  simp only [Gg,Wp,VZ] at hn
  exact ⟨a,b,e,⟨v,e2,h1.bn hG hn.1,h3⟩,Bl.bn hn.2 h2⟩
 | .map k v::r,n,x,vs,hn,⟨a,b,e,⟨bb,e2,h1,h3⟩,h2⟩=>by
  simp only [Gg,Wp,VZ] at hn
  exact ⟨a,b,e,⟨bb,e2,h1,h3.bn hG hn.1.1 hn.1.2⟩,Bl.bn hn.2 h2⟩
theorem zT.bn {l:List OT} {n:Nat} {x:oY l} {v:Value} (hn:Gg l=true) (h:zT G w ow n l x v):zT G' w ow n l x v:=by
 obtain ⟨b,vs,T,h1,h2,h3,h4⟩:=h
 exact ⟨b,vs,T,h1,h2,h3,h4.bn hG hn⟩
theorem kM.bn:∀ {ps:List PM} {i:Nat} {x:gq ps} {vs:List Value},eD ps=true→kM G w ow i ps x vs→kM G' w ow i ps x vs
 | [],_,_,_,_,h=>h
 | .val t::r,i,x,vs,hn,⟨v,us,h1,h2,h3,h4⟩=>by
  simp only [eD,VZ] at hn
  exact ⟨v,us,h1,h2,cR.bn hG hn.1 h3,kM.bn hn.2 h4⟩
 | .row _ t::r,i,x,vs,hn,⟨v,us,h1,h2,⟨h3,h3'⟩,h4⟩=>by
  simp only [eD,VZ] at hn
  exact ⟨v,us,h1,h2,⟨h3.bn hG hn.1,h3'⟩,kM.bn hn.2 h4⟩
 | .mrow _ t::r,i,x,vs,hn,⟨v,us,h1,h2,⟨h3,h3'⟩,h4⟩=>by
  simp only [eD,VZ] at hn
  exact ⟨v,us,h1,h2,⟨h3.bn hG hn.1,h3'⟩,kM.bn hn.2 h4⟩
 | .map _ _::r,i,x,vs,hn,⟨v,us,h1,h2,⟨b,h3,h3',h5⟩,h4⟩=>by
  simp only [eD,VZ] at hn
  exact ⟨v,us,h1,h2,⟨b,h3,h3',h5.bn hG hn.1.1 hn.1.2⟩,kM.bn hn.2 h4⟩
 | .box l::r,i,x,vs,hn,⟨v,us,h1,h2,h3,h4⟩=>by
  simp only [eD,VZ] at hn
  exact ⟨v,us,h1,h2,zT.bn hG hn.1 h3,kM.bn hn.2 h4⟩
 | .ar _::r,i,x,vs,hn,_=>by simp [eD] at hn
 | .arR _::r,i,x,vs,hn,_=>by simp [eD] at hn
theorem rz.bn:∀ {ps:List PM} {i:Nat} {x:gU ps} {vs:List Value},eD ps=true→rz G w ow i ps x vs→rz G' w ow i ps x vs
 | [],_,_,_,_,h=>h
 | .val t::r,i,x,vs,hn,h=>by
  simp only [eD,VZ] at hn
  exact rz.bn (ps:=r) hn.2 h
 | .row _ t::r,i,x,vs,hn,h=>by
  simp only [eD,VZ] at hn
  exact rz.bn (ps:=r) hn.2 h
 | .mrow _ t::r,i,x,vs,hn,⟨⟨v,h1,h2,h3⟩,h4⟩=>by
  simp only [eD,VZ] at hn
  exact ⟨⟨v,h1,h2.bn hG hn.1,h3⟩,rz.bn hn.2 h4⟩
 | .map _ _::r,i,x,vs,hn,⟨⟨b,h1,h2,h3⟩,h4⟩=>by
  simp only [eD,VZ] at hn
  exact ⟨⟨b,h1,h2,h3.bn hG hn.1.1 hn.1.2⟩,rz.bn hn.2 h4⟩
 | .box l::r,i,x,vs,hn,⟨⟨v,h1,h2⟩,h4⟩=>by
  simp only [eD,VZ] at hn
  exact ⟨⟨v,h1,zT.bn hG hn.1 h2⟩,rz.bn hn.2 h4⟩
 | .ar _::r,i,x,vs,hn,_=>by simp [eD] at hn
 | .arR _::r,i,x,vs,hn,_=>by simp [eD] at hn
theorem qI.bn {ps:List PM} {args:List Value} (hp:eD ps=true):∀ {rs:List RM} {c:Nat} {y:dx ps rs} {vs:List Value},tG rs=true→qI G w ow ps args c rs y vs→qI G' w ow ps args c rs y vs
 | [],_,_,_,_,h=>⟨h.1,h.2.bn hG hp⟩
 | .val t::r,c,y,vs,hn,⟨v,us,h1,h2,h3⟩=>by
  simp only [tG,VZ] at hn
  exact ⟨v,us,h1,cR.bn hG hn.1 h2,qI.bn hp hn.2 h3⟩
 | .row _ t::r,c,y,vs,hn,⟨v,us,h1,⟨h2,h2'⟩,h3⟩=>by
  simp only [tG,VZ] at hn
  exact ⟨v,us,h1,⟨h2.bn hG hn.1,h2'⟩,qI.bn hp hn.2 h3⟩
 | .map _ _::r,c,y,vs,hn,⟨v,us,h1,⟨b,h2,h2',h4⟩,h3⟩=>by
  simp only [tG,VZ] at hn
  exact ⟨v,us,h1,⟨b,h2,h2',h4.bn hG hn.1.1 hn.1.2⟩,qI.bn hp hn.2 h3⟩
 | .box l::r,c,y,vs,hn,⟨v,us,h1,h2,h3⟩=>by
  simp only [tG,VZ] at hn
  exact ⟨v,us,h1,zT.bn hG hn.1 h2,qI.bn hp hn.2 h3⟩
end
theorem mA:∀ (ps:List PM) (i:Nat) (x:gq ps),(mT i ps x).length=zK ps
 | [],_,_=>rfl
 | .val _::r,i,x=>by simp [mT,zK,PM.arg,mA r];omega
 | .row _ _::r,i,x=>by simp [mT,zK,PM.arg,mA r];omega
 | .mrow _ _::r,i,x=>by simp [mT,zK,PM.arg,mA r];omega
 | .map _ _::r,i,x=>by simp [mT,zK,PM.arg,mA r];omega
 | .box _::r,i,x=>by simp [mT,zK,PM.arg,mA r];omega
 | .ar _::r,i,x=>by simp [mT,zK,PM.arg,mA r]
 | .arR _::r,i,x=>by simp [mT,zK,PM.arg,mA r]
theorem sD:∀ {ps:List PM} {i:Nat} {x:gq ps} {t:Ty} {l:List t.den},lB ps=false→look (jA i ps x) bH≠some (.ar false t l)
 | [],i,x,t,l,_=>by simp [jA,look]
 | .val _::r,i,x,t,l,h=>sD (ps:=r) h
 | .row _ _::r,i,x,t,l,h=>sD (ps:=r) h
 | .mrow _ _::r,i,x,t,l,h=>sD (ps:=r) h
 | .map _ _::r,i,x,t,l,h=>by
  simp only [jA,aE]
  split
  ·simp
  ·exact sD (ps:=r) h
 | .box _::r,i,x,t,l,h=>by
  simp only [jA,cO]
  intro e
  rcases or_some e with e | ⟨_,e⟩
  ·obtain ⟨_,_,_,e'⟩:=vQ e;cases e'
  ·exact sD (ps:=r) h e
 | .ar _::r,i,x,t,l,h=>by simp [lB] at h
 | .arR _::r,i,x,t,l,h=>by
  simp only [jA,aE]
  split
  ·intro e;cases e
  ·exact sD (ps:=r) h
theorem Sd {ps:List PM} (h:eD ps=true):lB ps=false:=by
 induction ps with
 | nil=>rfl
 | cons p r ih=>cases p<;>simp only [eD,VZ] at h<;>first | exact ih h.2 | cases h
theorem PK (hX:gb X) (hmix:X.P.follows .mixedOrders=true) {f:FuncId} {fn:Func} (sp:aI) (anns:List (Nat×Ann)) (ar:Option Ty) (hf:X.P.funcs[f]? =some fn) {G:Gh} {w:World} {ow:Nat→Option Nat} {args:List Value} {x:gq sp.ps} {y:dx sp.ps sp.rs}
 (hG:Agr G w) (how:∀ b i,ow b=some i→G b=none∧b<w.heap.size) (hargs:kM G w ow 0 sp.ps x args) (har:ar.isSome=true→G.hnd=(fun _=>none)∧lB sp.ps=false∧eD sp.ps=true) (hN:bf X anns ar fn sp x=some y):
 Calls X.P f args.toArray w fun e w'=>∃ G' ow' vs,e= .returned (D7 vs)∧G.le G'∧Agr G' w'∧w.heap.size≤w'.heap.size∧w'.os=w.os∧w'.output=w.output∧
  (∀ b,b<w.heap.size→ow b=none→w'.heap[b]? =w.heap[b]? ∧G' b=G b)∧(∀ b i,ow' b=some i→G' b=none∧b<w'.heap.size∧(w.heap.size≤b∨ow b≠none))∧qI G' w' ow' sp.ps args 0 sp.rs y vs∧(lB sp.ps=false→ar=none→G'.hnd=G.hnd):=by
 unfold bf at hN
 split at hN
 ·cases hN
 ·rename_i hcond
  simp only [Wc,Yh,V8] at hcond
  obtain ⟨⟨hdO,hdC⟩,hnoh⟩:=hcond
  split at hN
  ·rename_i c hc
   obtain ⟨vals,hvals,hpt,hst⟩:=qa hargs
   let pv:Nat→Value:=fun k=>match cP vals (.inr k) with | some v=>v | none=>(cP vals (.ob k)).getD undef
   let ρ:Env:=⟨fun k=>match cP vals (.inl k) with | some v=>Kk v | none=>0,pv,fun b=>(ow b).bind (pq (ew 0 sp.ps)),pv,fun k=>E5 w (pv k)⟩
   have hA:∀ o v,(o,v)∈vals→Asg ρ w o v:=fun o v hm=>by
    have hl:=Jm hvals hdO hm
    cases o with
    | inl k=>
     obtain ⟨b,hb⟩:=hpt k v hm
     show v= .pointer (some ⟨match cP vals (.inl k) with | some v=>Kk v | none=>0,0,none⟩)
     rw [hl,hb];rfl
    | inr j=>show (match cP vals (.inr j) with | some v=>v | none=>_)=v;rw [hl]
    | ob j=>
     intro b hb
     subst hb
     have hnr:cP vals (.inr j)=none:=by
      cases h1:cP vals (.inr j) with
      | none=>rfl
      | some v'=>
       obtain ⟨n1,m1⟩:=HG hvals (by rw [h1];simp)
       obtain ⟨n2,m2⟩:=HG hvals (o:= .ob j) (by rw [hl];simp)
       rcases Aa m1 with ⟨k,e⟩ | e | e
       ·cases e
       ·cases e
       ·rcases Aa m2 with ⟨k,e'⟩ | e' | e'
        ·cases e'
        ·cases e'
         rcases e with e | e
         ·have:bH=nid pD 0 0+n1:=by simpa using e
          simp only [bH,pD,nid] at this;omega
         ·cases e
        ·have h1:j=nid pD 0 0+n1:=by rcases e with e | e<;>cases e;rfl
         have h2:j=nid pD 0 0+n2:=by rcases e' with e' | e'<;>cases e';rfl
         have:n1=n2:=by omega
         subst this
         have:=Rl hdC m1 m2
         cases this
     have hpv:pv j= .map (some b):=by
      show (match cP vals (.inr j) with | some v=>v | none=>(cP vals (.ob j)).getD undef)=_
      rw [hnr,hl];rfl
     refine ⟨hpv,fun es clock hw i e' hi=> ?_⟩
     show (e'.born:Int)=E5 w (pv j) i
     rw [hpv]
     simp [E5,hw,hi]
   have hO:∀ o n,(o,n)∈ew 0 sp.ps→∀ b,ow b=some n→ρ.own b=some o:=fun o n hm b hb=>by
    show (ow b).bind (pq (ew 0 sp.ps))=_
    rw [hb];exact Ba hdC hm
   obtain ⟨hsv,hP,hpins⟩:=hst ρ hA hO
   let C:Fr:=⟨w.heap.size,ρ.bx,pv,fun b=>ow b≠none,w,G,lB sp.ps=false∧ar=none⟩
   have hlen:args.length=zK sp.ps:=by rw [hsv.len,mA]
   have hM:Mod C G ρ (JS fn.ntmps ar sp.ps x) w { tmps:=args.toArray++Array.replicate (fn.ntmps - args.toArray.size) undef,defers:=[] }:=by
    refine { agr:=hG,le0:=Gh.le_refl G,old:=fun _ _ _=>rfl,frame:=fun _ _ _=>rfl,size:=XE _,os:=rfl,output:=rfl,pin:=fun _ _=>rfl,pinR:=fun _ _=>⟨rfl,rfl⟩,owned:= ?_,boxes:=hP.bx,rows:=hP.rw,objs:= ?_,hndI:= ?_,tmps:=⟨?_, ?_⟩,defers:=rfl }
    ·intro b o ho
     cases hb:ow b with
     | none=>
      have ho':(ow b).bind (pq (ew 0 sp.ps))=some o:=ho
      rw [hb] at ho';cases ho'
     | some i=>exact ⟨(how b i hb).1,(how b i hb).2,.inr (by show ow b≠none;rw [hb];simp)⟩
    ·intro j q hj
     cases ar with
     | none=>exact hP.ob j q hj
     | some t=>
      simp only [JS,aE] at hj
      split at hj
      ·rename_i ej
       subst ej
       cases hj
       obtain ⟨h1,_⟩:=har rfl
       refine ⟨rfl,fun i b hb=>(by rw [h1] at hb;cases hb),fun i i' b hb=>(by rw [h1] at hb;cases hb),fun i z hz=>by simp at hz⟩
      ·exact hP.ob j q hj
    ·rintro ⟨h1,h2⟩
     refine ⟨rfl,fun t l=> ?_⟩
     subst h2
     exact sD h1
    ·simp [JS,mA,hlen]
    ·intro i s hi
     simp only [JS] at hi
     rw [List.getElem?_append] at hi
     rw [VP,Array.getElem?_append]
     split at hi
     ·rename_i hlt
      obtain ⟨v,hv,hsv'⟩:=hsv.get hi
      rw [mA] at hlt
      rw [if_pos (by simpa [hlen] using hlt)]
      simpa [hv] using hsv'
     ·rw [WN] at hi
      split at hi
      ·cases hi;exact trivial
      ·cases hi
   refine calls_of_wp hf hc (Vd (C:=C) hX hmix anns c hN (fun e S' G' ρ' w' a' hk hM'=> ?_) hM)
   have key:ends X fn sp S'=some y→a'.defers=[]∧∃ v,(results fn a'.tmps).run X.P w'= .ok v w'∧∃ G' ow' vs,Ending.returned v= .returned (D7 vs)∧G.le G'∧Agr G' w'∧w.heap.size≤w'.heap.size∧w'.os=w.os∧w'.output=w.output∧
    (∀ b,b<w.heap.size→ow b=none→w'.heap[b]? =w.heap[b]? ∧G' b=G b)∧(∀ b i,ow' b=some i→G' b=none∧b<w'.heap.size∧(w.heap.size≤b∨ow b≠none))∧qI G' w' ow' sp.ps args 0 sp.rs y vs∧(lB sp.ps=false→ar=none→G'.hnd=G.hnd):=by
    intro hk
    unfold ends at hk
    have hI:∃ G1 ρ1,Mod C G1 ρ1 (E7 X fn sp.rs S') w' a':=by
     unfold E7
     split
     ·exact Mod.kZ _ hM'
     ·exact ⟨_,_,hM'⟩
    generalize E7 X fn sp.rs S'=S' at hk hI
    obtain ⟨G',ρ',hM'⟩:=hI
    refine ⟨hM'.defers, ?_⟩
    unfold UC at hk
    split at hk
    ·rename_i l hl
     simp only at hk
     split at hk
     ·cases hk
     ·rename_i hd
      obtain ⟨us,hr,hus⟩:=Ms hM' hl
      generalize hjs:FA (Ko sp.rs l)++(O6 S' sp.rs l++O5 S' 0 sp.ps)=js at hk hd
      obtain ⟨G2,ρ2,hfz,hM2⟩:=hM'.freeze js
      generalize hV:bg S' js=V at hk hd hM2
      generalize how':pG V 0 sp.rs l++nO V 0 sp.ps=owl at hk hd
      have hd':Ei owl=false:=by simpa using hd
      have hus2:aZ (bK G2 ρ2) l us:=hus.mono fun s v hs=>bK.congr hfz.le (n7.same hfz.bx hfz.rw hfz.ob hfz.st) hs
      have hpins2:iA ρ2 0 sp.ps args:=hpins.congr (fun k hk=>hM2.pin k hk) (fun k hk=>hM2.pinR k hk)
      refine ⟨_,Rb hr,G2,gj ρ2 owl,us,rfl,hM2.le0,hM2.agr,hM2.size,hM2.os,hM2.output,fun b hb ho=>⟨hM2.frame b hb (by show ¬ ow b≠none;simp [ho]),hM2.old b hb (by show ¬ ow b≠none;simp [ho])⟩,fun b i hb=> ?_, ?_,fun h1 h2=>(hM2.hndI ⟨h1,h2⟩).1⟩
      ·unfold gj at hb
       cases ho:ρ2.own b with
       | none=>rw [ho] at hb;cases hb
       | some o=>exact hM2.owned b o ho
      ·refine Sp hM2.toMem (fun y' hy'=>rY hM2.toMem hy' (fun z hz=>zu hd' (by rw [← how'];simp [hz])) hpins2) sp.rs 0 (fun z hz=>zu hd' (by rw [← how'];simp [hz])) hk hus2
    ·cases hk
   cases e with
   | normal=>exact key hk
   | ret=>exact key hk
   | exit id=>cases hk
  ·cases hN
theorem aH (hX:gb X) (hmix:X.P.follows .mixedOrders=true) {f:FuncId} {fn:Func} (sp:aI) (anns:List (Nat×Ann)) (ar:Option Ty) (hf:X.P.funcs[f]? =some fn)
 (h:∀ x y,sp.m x=some y→bf X anns ar fn sp x=some y):aK X.P f sp:=by
 intro G w ow args x y hG how hargs hm
 have hN:=h x y hm
 cases ar with
 | none=>
  refine (PK hX hmix sp anns none hf hG how hargs (fun e=>by cases e) hN).mono ?_
  rintro e w' ⟨G',ow',vs,h1,h2,h3,h4,h5,h6,h7,h8,h9,h10⟩
  exact ⟨G',ow',vs,h1,h2,h3,h4,h5,h6,h7,h8,h9,fun h=>h10 h rfl⟩
 | some t=>
  have hN0:=hN
  unfold bf at hN0
  split at hN0
  ·cases hN0
  ·rename_i hcond
   simp only [Wc,Yh,V8,X1,Wd,V7,VZ] at hcond
   obtain ⟨_,hpn,hrn⟩:=hcond
   let G0:Gh:=⟨G.blk,fun _=>none⟩
   have hargs0:kM G0 w ow 0 sp.ps x args:=kM.bn (G:=G) (G':=G0) (fun _ _ h=>h) hpn hargs
   refine (PK hX hmix sp anns (some t) hf (G:=G0) hG how hargs0 (fun _=>⟨rfl,Sd hpn,hpn⟩) hN).mono ?_
   rintro e w' ⟨G',ow',vs,h1,h2,h3,h4,h5,h6,h7,h8,h9,h10⟩
   refine ⟨⟨G'.blk,G.hnd⟩,ow',vs,h1,⟨h2.blk,fun _ _ h=>h⟩,h3,h4,h5,h6,h7,h8,qI.bn (G:=G') (G':=⟨G'.blk,G.hnd⟩) (fun _ _ h=>h) hpn hrn h9,fun _=>rfl⟩
end Go.Dn
namespace Go.Dn
def w64 (n:Int):Int:=IntKind.wrap .i64 n
def tI:Ty:= .int .i64
def bP (n:Int):Int:=IntKind.wrap .u64 n
def mN (n:Int):Int:=IntKind.wrap .u32 n
def Ty.fu:(t:Ty)→t.den→Nat→Nat
 | .int _,n,a=>Int.natAbs n+a
 | .bool,_,a=>a
 | .str,s,a=>List.length s+a
 | .unit,_,a=>a
 | .pair s t,x,a=>s.fu x.1 (t.fu x.2 a)
 | .st t,x,a=>t.fu x a
 | .slice _,l,a=>List.length l+a
 | .ptr t,x,a=>t.fu x a
 | .clo _ _,_,a=>a
 | .hnd,_,a=>a
def aY:(cs:List CK)→dH cs→Nat
 | [],_=>2
 | .val t::r,x=>t.fu x.1 (aY r x.2)
 | .own _ _::r,x=>x.1.length+aY r x.2
 | .map _ _::r,x=>x.1.length+aY r x.2
 | .ref _ _::r,x=>aY r x
 | .fn _ _::r,x=>aY r x
 | .ar _::r,x=>x.1.length+aY r x.2
 | .arF _::r,x=>aY r x.2
 | .rowR _::r,x=>aY r x
 | .mapR _::r,x=>aY r x
 | .rowC _ _ _::r,x=>x.1.length+aY r x.2
 | .mapC _ _ _::r,x=>x.1.length+aY r x.2
theorem iK {X β:Type} (n:Nat) (x:X) (f:X→(X→Option β)→Option β):iter (n+1) x f=f x fun y=>iter n y f:=rfl
end Go.Dn
namespace Go.Dn
def AV {α β:Type} (F:(α→Option β)→α→Option β):Nat→α→Option β
 | 0,_=>none
 | n+1,x=>F (AV F n) x
theorem Hf {P:Program} {specs:List (Nat×aI)} (hX:gb ⟨P,specs⟩) (hmix:P.follows .mixedOrders=true) {f:FuncId} {fn:Func} {ps:List PM} {rs:List RM} (F:(gq ps→Option (dx ps rs))→gq ps→Option (dx ps rs))
 (anns:List (Nat×Ann)) (ar:Option Ty) (hf:P.funcs[f]? =some fn) (hb:az P f)
 (h:∀ self x,bf ⟨P,(f,⟨ps,rs,self⟩)::specs⟩ anns ar fn ⟨ps,rs,F self⟩ x=F self x):∀ n,aK P f ⟨ps,rs,AV F n⟩
 | 0=>fun _ _ _ _ _ _ _ _ _ hm=>by cases hm
 | n+1=>by
  have ih:=Hf hX hmix F anns ar hf hb h n
  have hX':gb ⟨P,(f,⟨ps,rs,AV F n⟩)::specs⟩:=by
   intro g sp hg
   rcases W9.1 hg with e | e
   ·cases e;exact ⟨ih,hb⟩
   ·exact hX g sp e
  exact aH (X:=⟨P,(f,⟨ps,rs,AV F n⟩)::specs⟩) hX' hmix ⟨ps,rs,AV F (n+1)⟩ anns ar hf (fun x y hm=>(h (AV F n) x).trans hm)
theorem La {P:Program} {f:FuncId} {ps:List PM} {rs:List RM} {m:Nat→gq ps→Option (dx ps rs)} (h:∀ n,aK P f ⟨ps,rs,m n⟩) (fuel:gq ps→Nat):aK P f ⟨ps,rs,fun x=>m (fuel x) x⟩:=
 fun G w ow args x y hG how ha hm=>(h (fuel x) G w ow args x y hG how ha hm).mono fun _ _ ⟨G',ow',vs,hg⟩=>⟨G',ow',vs,{ hg with }⟩
theorem Ri {P:Program} {f:FuncId} {m:gq [.val .str,.val .str]→Option (dx [.val .str,.val .str] [.val .str])}
 (h:∀ (s c r:List UInt8) (w:World),m (s,c,())=some (r,())→Calls P f #[.string (bs s),.string (bs c)] w fun e w'=>e= .returned (.string (bs r))∧RowKit.Below w.heap.size w w'):aK P f ⟨[.val .str,.val .str],[.val .str],m⟩:=by
 intro G w ow args x y hG how ha hm
 obtain ⟨s,c,u⟩:=x
 obtain ⟨r,u'⟩:=y
 obtain ⟨v,us,h1,_,hv,v',us',h2,_,hv',h3⟩:=ha
 have e1:=h1 rfl
 have e2:=h2 rfl
 have e3:us'=[]:=h3
 have e4:v= .string (bs s):=by simpa [Kg,cR,aS] using hv
 have e5:v'= .string (bs c):=by simpa [Kg,cR,aS] using hv'
 subst e1;subst e2;subst e3;subst e4;subst e5
 refine (h s c r w hm).mono ?_
 rintro e w' ⟨he,hb⟩
 refine ⟨G,fun _=>none,[.string (bs r)], ?_⟩
 exact {
  ret:=he
  le:=Gh.le_refl G
  agr:=fun b o hbo=>by
   have hw:=hG b o hbo
   have hlt:b<w.heap.size:=by
    rcases XI b w.heap.size with h | h
    ·exact h
    ·rw [Array.getElem?_eq_none h] at hw;cases hw
   rw [hb.block b hlt];exact hw
  size:=hb.size
  os:=hb.os
  output:=hb.output
  old:=fun b hlt _=>⟨hb.block b hlt,rfl⟩
  own:=fun b i hbi=>by cases hbi
  out:=⟨_,_,rfl,rfl,rfl,trivial⟩
  hnd:=fun _=>rfl }
end Go.Dn
namespace Go.Dn
theorem gb.nil (P:Program):gb ⟨P,[]⟩:=fun _ _ h=>by cases h
theorem gb.cons {P:Program} {f:FuncId} {sp:aI} {l:List (Nat×aI)} (h:aK P f sp) (hb:az P f) (r:gb ⟨P,l⟩):gb ⟨P,(f,sp)::l⟩:=by
 intro g sp' hg
 rcases W9.1 hg with e | e
 ·cases e;exact ⟨h,hb⟩
 ·exact r g sp' e
theorem ax {P:Program} {f:FuncId} {fn:Func} (h:P.funcs[f]? =some fn) (hb:fn.body.isSome=true) (hn:fn.name≠ "runtime.NumGoroutine"):az P f:=⟨fn,h,hb,hn⟩
end Go.Dn
namespace Go.Dn
open Go.ChangeShapes Go.WideShapes Go.ChangeAt Go.RowKit
def Wf:(t:Ty)→t.den→Prop
 | .int k,n=>k.min≤(show Int from n)∧(show Int from n)≤k.max
 | .bool,_=>True
 | .str,s=>List.length s≤maxLen
 | .unit,_=>True
 | .pair a b,x=>Wf a x.1∧Wf b x.2
 | .st t,x=>Wf t x
 | .slice t,l=>List.length l≤maxLen∧∀ x,x∈(show List t.den from l)→Wf t x
 | .ptr _,_=>True
 | .clo _ _,_=>True
 | .hnd,_=>True
def Fits (P:Program):Nat→TypeId→Ty→Bool
 | 0,_,_=>false
 | d+1,T,t=>match P.underlying T,t with
  | some (.int k),.int k'=>decide (k=k')
  | some .bool,.bool=>true
  | some .string,.str=>true
  | some (.slice e),.slice t=>Nat.ble 1 t.size&&(Nat.beq (P.cellsOf e) t.size&&Fits P d e t)
  | some (.struct fs),.st t=>Nat.beq (P.cellsOf T) t.size&&fitsF (Fits P d) P fs.toList 0 t
  | _,_=>false
where
 fitsF (g:TypeId→Ty→Bool) (P:Program):List Field→Nat→Ty→Bool
 | [],_,_=>false
 | [f],off,t=>Nat.beq f.offset off&&(Nat.beq (P.cellsOf f.type) t.size&&g f.type t)
 | f::r,off,.pair a b=>Nat.beq f.offset off&&(Nat.beq (P.cellsOf f.type) a.size&&(g f.type a&&fitsF g P r (off+a.size) b))
 | _,_,_=>false
def Gw (w:World):Gh:=⟨fun b=>w.heap[b]?,fun _=>none⟩
theorem Ve (w:World):Agr (Gw w) w:=fun _ _ h=>h
theorem Lb {w:World} {base:Nat} {a:Addr} {n:Nat} {cs:List Value} (hn:0<n) (h:w.cells? base a n=some cs):
 ∃ c T fz,a.spot=none∧w.heap[a.block]? =some (.cells c T fz)∧a.off+n≤c.size∧cs=(c.toList.drop a.off).take n:=by
 obtain ⟨_,hl,hc⟩:=World.cells?_some h
 have h0:=hc 0 hn
 have hlt:0<cs.length:=by omega
 rw [List.getElem?_eq_getElem hlt,show a.add 0=a from rfl] at h0
 unfold World.cell? at h0
 split at h0
 ·rename_i c T fz hb
  split at h0
  ·cases h0
  ·rename_i hs
   have hspot:a.spot=none:=by simpa using hs
   have hall:∀ i,i<n→c[a.off+i]? =cs[i]? :=by
    intro i hi
    have:=hc i hi
    rw [← this]
    unfold World.cell? Addr.add
    by_cases h:i=0
    ·subst h;simp [hb,hspot]
    ·simp [h,hb]
   refine ⟨c,T,fz,hspot,hb, ?_, ?_⟩
   ·have h1:=hall (n - 1) (by omega)
    rw [List.getElem?_eq_getElem (show n - 1<cs.length by omega)] at h1
    have:=(VR.1 h1).1
    omega
   ·apply WD
    intro i
    rw [WS,WK]
    by_cases hi:i<n
    ·rw [if_pos hi, ← hall i hi];simp
    ·rw [if_neg hi,WL (by omega)]
 ·cases h0
section
variable {H:Type} {enc:TypeId×Value→H} {P:Program} {w:World} {base:Nat} {spare:Nat→Bool} {held:Bool}
theorem RJ {α:Type} {R:α→List Value→Prop} {sz:Nat} {c:List Value} {y:Nat→α} (off:Nat):∀ n,off+n*sz≤c.length→(∀ i,i<n→R (y i) ((c.drop (off+i*sz)).take sz))→cF R ((List.range n).map y) ((c.drop off).take (n*sz))
 | 0,_,_=>by simp [cF]
 | n+1,hle,h=>by
  rw [List.range_succ,W4,List.map_singleton]
  have e:(c.drop off).take ((n+1)*sz)=(c.drop off).take (n*sz)++(c.drop (off+n*sz)).take sz:=by
   rw [Xy,XR,List.take_add,Wy]
  rw [e]
  refine cF.append (RJ off n (by rw [Xy] at hle;omega) fun i hi=>h i (by omega)) ?_
  exact ⟨_,[],by simp,h n (by omega),rfl⟩
theorem Rq:∀ (d:Nat) (T:TypeId) (t:Ty) (fuel:Nat) (cs:List Value) (x:DataW H×List MemPlace),Fits P d T t=true→DataW.trod enc P w base spare held fuel T cs=some x→
 ∃ y:t.den,aS (Gw w) t y cs∧Wf t y
 | 0,_,_,_,_,_,hf,_=>by cases hf
 | d+1,T,t,fuel,cs,x,hf,h=>by
  have ih:=fun T t fuel cs x=>Rq d T t fuel cs x
  unfold Fits at hf
  split at hf
  ·rename_i k k' hu
   obtain rfl:k=k':=Yi hf
   obtain ⟨n,rfl,_,hw⟩:=DataW.trod_int hu h
   refine ⟨n,rfl, ?_⟩
   simp only [Lit.wf,VZ,decide_eq_true_eq] at hw
   exact hw
  ·rename_i hu
   obtain ⟨b,rfl,_⟩:=DataW.trod_bool hu h
   exact ⟨b,rfl,trivial⟩
  ·rename_i hu
   obtain ⟨s,rfl,_,hw⟩:=DataW.trod_string hu h
   refine ⟨s.data.toList, ?_,hw⟩
   simp [aS,bs]
  ·rename_i e t hu
   simp only [VZ] at hf
   have hsz:0<t.size:=Nat.le_of_ble_eq_true hf.1
   have hce:P.cellsOf e=t.size:=XB hf.2.1
   rcases DataW.trod_slice hu h with ⟨rfl,_⟩ | ⟨a,len,cap,elems,rest,n,_,rfl,_,_,hl,hm,hlen,hel,_⟩
   ·exact ⟨[],⟨_,rfl,none,0,rfl,XE _,XW _,.inl rfl⟩,⟨XW _,fun x hx=>by cases hx⟩⟩
   ·have hone:∀ i,i<len→∃ y:t.den,(∃ cs',w.cells? base (a.add (i*t.size)) t.size=some cs'∧aS (Gw w) t y cs')∧Wf t y:=by
     intro i hi
     have h1:=hel i hi
     rw [List.getElem?_eq_getElem (by omega),hce] at h1
     obtain ⟨cs',h2,h3⟩:=Option.bind_eq_some_iff.1 h1
     obtain ⟨y,h4,h5⟩:=ih e t n cs' _ hf.2.2 h3
     exact ⟨y,⟨cs',h2,h4⟩,h5⟩
    by_cases h0:len=0
    ·subst h0
     exact ⟨[],⟨_,rfl,some a,cap,rfl,XW _,hm,.inl rfl⟩,⟨XW _,fun x hx=>by cases hx⟩⟩
    ·obtain ⟨y0,_,_⟩:=hone 0 (by omega)
     have:∃ y:Nat→t.den,∀ i,i<len→(∃ cs',w.cells? base (a.add (i*t.size)) t.size=some cs'∧aS (Gw w) t (y i) cs')∧Wf t (y i):=by
      classical
      refine ⟨fun i=>if hi:i<len then Classical.choose (hone i hi) else y0,fun i hi=> ?_⟩
      simp only [dif_pos hi]
      exact Classical.choose_spec (hone i hi)
     obtain ⟨y,hy⟩:=this
     obtain ⟨⟨cs0,hc0,_⟩,_⟩:=hy 0 (by omega)
     rw [XX,show a.add 0=a from rfl] at hc0
     obtain ⟨c,T',fz,hspot,hb,_,_⟩:=Lb hsz hc0
     have hat:∀ i,i<len→a.off+i*t.size+t.size≤c.size∧aS (Gw w) t (y i) ((c.toList.drop (a.off+i*t.size)).take t.size):=by
      intro i hi
      obtain ⟨⟨cs',h1,h2⟩,_⟩:=hy i hi
      obtain ⟨c',T2,fz2,h3,h4,h5,h6⟩:=Lb hsz h1
      have hblk:(a.add (i*t.size)).block=a.block:=by unfold Addr.add;split<;>rfl
      have hoff:(a.add (i*t.size)).off=a.off+i*t.size:=by
       unfold Addr.add;split
       ·rename_i hz;rw [hz];rfl
       ·rfl
      rw [hblk,hb] at h4
      cases h4
      rw [hoff] at h5 h6
      exact ⟨h5,h6 ▸ h2⟩
     have hend:a.off+len*t.size≤c.size:=by
      have:=(hat (len - 1) (by omega)).1
      have e:len*t.size=(len - 1)*t.size+t.size:=by
       conv=>lhs;rw [show len=len - 1+1 by omega]
       rw [Xy,XR]
      omega
     refine ⟨(List.range len).map y,⟨_,rfl,some a,cap,by simp,by simpa using hl,hm,.inr ⟨a.block,a.off,c,T',fz, ?_,hb,by simpa using hend, ?_⟩⟩,⟨by simp only [WY,W1];omega,fun x hx=> ?_⟩⟩
     ·congr 1;cases a;cases hspot;rfl
     ·have:=RJ (R:=aS (Gw w) t) (y:=y) (c:=c.toList) (sz:=t.size) a.off len (by simpa using hend) fun i hi=>(hat i hi).2
      simpa using this
     ·obtain ⟨i,hi,rfl⟩:=Xf.1 hx
      exact (hy i (by simpa using hi)).2
  ·rename_i fs t hu
   simp only [VZ] at hf
   obtain ⟨xs,n,_,_,hlen,hxl,hx⟩:=DataW.trod_struct hu h
   have hct:P.cellsOf T=t.size:=XB hf.1
   have key:∀ (l:List Field) (k off:Nat) (t:Ty),fs.toList.drop k=l→Fits.fitsF (Fits P d) P l off t=true→off+t.size≤cs.length→
    ∃ y:t.den,aS (Gw w) t y ((cs.drop off).take t.size)∧Wf t y:=by
    intro l
    induction l with
    | nil=>intro k off t _ h2;cases h2
    | cons f r ihl=>
     intro k off t hk h2 hle
     have hfk:fs[k]? =some f:=by
      have:=congrArg (·[0]?) hk
      simpa [WK] using this
     have hxk:=hx k f hfk
     have hkl:k<xs.length:=by rw [hxl];exact (VR.1 hfk).1
     rw [List.getElem?_eq_getElem hkl] at hxk
     have hdr:fs.toList.drop (k+1)=r:=by
      have:=congrArg List.tail hk
      simpa [List.tail_drop] using this
     cases r with
     | nil=>
      simp only [Fits.fitsF,VZ] at h2
      obtain ⟨h3,h4,h5⟩:=h2
      rw [XB h3,XB h4] at hxk
      exact ih f.type t n _ _ h5 hxk
     | cons f' r'=>
      obtain ⟨a,b,rfl⟩:∃ a b,t= .pair a b:=by
       cases t with
       | pair a b=>exact ⟨a,b,rfl⟩
       | _=>simp [Fits.fitsF] at h2
      simp only [Fits.fitsF,VZ] at h2
      obtain ⟨h3,h4,h5,h6⟩:=h2
      rw [XB h3,XB h4] at hxk
      obtain ⟨y1,g1,g2⟩:=ih f.type a n _ _ h5 hxk
      simp only [Ty.size] at hle
      obtain ⟨y2,g3,g4⟩:=ihl (k+1) (off+a.size) b hdr h6 (by omega)
      refine ⟨(y1,y2),⟨_,_, ?_,g1,g3⟩,⟨g2,g4⟩⟩
      simp only [Ty.size]
      rw [List.take_add,Wy]
   obtain ⟨y,h1,h2⟩:=key fs.toList 0 0 t rfl hf.2 (by omega)
   refine ⟨y, ?_,h2⟩
   rw [WB,Xv (by omega)] at h1
   exact h1
  ·cases hf
theorem Un {r:Reach} {b0:Nat} {d:Nat} {T:TypeId} {t:Ty} {v:Value} {dd:DataW H} {ps:List MemPlace} (hf:Fits P d T t=true) (hval:Value.okWide P w r b0 T v) (h:DataW.Trod enc P w base spare held T v dd ps):
 ∃ y:t.den,cR (Gw w) t y v∧Wf t y:=by
 obtain ⟨fuel,h⟩:=h
 obtain ⟨y,h1,h2⟩:=Rq d T t fuel _ _ hf h
 refine ⟨y, ?_,h2⟩
 cases d with
 | zero=>cases hf
 | succ d=>
  unfold Fits at hf
  split at hf
  ·rename_i hu;obtain ⟨n,rfl⟩:=okWide_int hu hval;exact h1
  ·rename_i hu;obtain ⟨n,rfl⟩:=okWide_bool hu hval;exact h1
  ·rename_i hu;obtain ⟨n,rfl⟩:=okWide_string hu hval;exact h1
  ·rename_i hu;obtain ⟨a,len,cap,rfl⟩:=okWide_slice hu hval;exact h1
  ·rename_i hu;obtain ⟨c,rfl,_⟩:=okWide_struct hu hval;exact ⟨c.toList,by simp,h1⟩
  ·cases hf
end
def pms:List Ty→List PM
 | []=>[]
 | t::r=> .val t::pms r
def Sv:(ts:List Ty)→gq (pms ts)→Prop
 | [],_=>True
 | t::r,x=>Wf t x.1∧Sv r x.2
def Kh (P:Program):List TypeId→List Ty→Bool
 | [],[]=>true
 | T::r,t::q=>Fits P 9 T t&&Kh P r q
 | _,_=>false
theorem N7 {H:Type} {enc:TypeId×Value→H} {P:Program} {w:World} {base:Nat} {spare:Nat→Bool} {held:Bool} {r:Reach} {b0:Nat}:∀ {Ts:List TypeId} {ts:List Ty} {vs:List Value} {ds:List (DataW H)} {ps:List MemPlace} {i:Nat},Kh P Ts ts=true→
 (∀ (j:Nat) t v,Ts[j]? =some t→vs[j]? =some v→Value.okWide P w r b0 t v)→DataW.TrodAll enc P w base spare held Ts vs ds ps→
 ∃ x,kM (Gw w) w (fun _=>none) i (pms ts) x vs∧Sv ts x
 | [],[],[],[],_,_,_,_,_=>⟨(),rfl,trivial⟩
 | T::Ts,t::ts,v::vs,d::ds,ps,i,hf,hv,⟨p,q,h1,h2,_⟩=>by
  simp only [Kh,VZ] at hf
  obtain ⟨y,h3,h4⟩:=Un hf.1 (hv 0 T v rfl rfl) h1
  obtain ⟨x,h5,h6⟩:=N7 (i:=i+1) hf.2 (fun j t v ht hv'=>hv (j+1) t v ht hv') h2
  exact ⟨(y,x),⟨v,vs,fun _=>rfl,fun h=>absurd h (by simp [PM.arg]),h3,h5⟩,⟨h4,h6⟩⟩
theorem law_calls {P:Program} {f:FuncId} {fn:Func} {ts:List Ty} {m:gq (pms ts)→Option (dx (pms ts) [.val .bool])} (ok:aK P f ⟨pms ts,[.val .bool],m⟩)
 (hm:∀ x,Sv ts x→∃ y,m x=some (true,y)) (hfit:Kh P fn.params.toList ts=true) {tb:TypeId} (hres:fn.resultTypes= #[tb]) (htb:P.underlying tb=some .bool)
 (kids:Kids P (· <P.types.size)) (full:∀ t e,t<P.types.size→P.underlying t=some (.slice e)→0<P.cellsOf e) (hlt:∀ t∈fn.params.toList,t<P.types.size)
 {H:Type} {enc:TypeId×Value→H} {s:ChangeSpec} (hvars:s.vars=[]) {W:World} {base:Nat} {args:Array Value} {ds gs:List (DataW H)} {before:List MemPlace}
 (hspec:s.fn H (ds++[])={ results:=[.lit (.bool true)],args:=ds })
 (hval:∀ (j:Nat) t v,fn.params[j]? =some t→args[j]? =some v→Value.okWide P W .any base t v)
 (hW:DataW.Whole enc P fn.params.toList s.vars false W args.toList ds gs before):
 Calls P f args W fun e W'=>∃ v,e= .returned v∧s.post enc P fn false true false false W args v W':=by
 have hW':=hW
 obtain ⟨p,q,hA,hV,hpq,hfz,hnd⟩:=hW
 rw [hvars] at hV
 have hg:gs=[]∧q=[]:=by
  cases gs with
  | nil=>exact ⟨rfl,hV⟩
  | cons g gs=>exact absurd hV (by simp [DataW.TrodVars])
 obtain ⟨rfl,rfl⟩:=hg
 rw [Wu] at hpq
 subst hpq
 obtain ⟨x,hx,hwf⟩:=N7 (i:=0) hfit (fun j t v ht hv=>hval j t v (by simpa using ht) (by simpa using hv)) hA
 obtain ⟨y,hy⟩:=hm x hwf
 refine (ok (Gw W) W (fun _=>none) args.toList x (true,y) (Ve W) (fun _ _ h=>by cases h) hx hy).mono ?_
 rintro e W' ⟨G',ow',vs,hgv⟩
 have hold:∀ b,b<W.heap.size→W'.heap[b]? =W.heap[b]? :=fun b hb=>(hgv.old b hb rfl).1
 have hplt:=hW'.lt
 obtain ⟨v,us,rfl,hv,hus,_⟩:=hgv.out
 subst hus
 have hv':v= .bool true:=by simpa [Si,cR,aS] using hv
 subst hv'
 refine ⟨.bool true,hgv.ret,ds,[],before,[],before,[],hW', ?_, ?_, ?_, ?_,fun h=>by cases h⟩
 ·rw [hspec,hres]
  exact trodAll_mk1 (shut_bool htb true)
 ·rw [hspec]
  have hsame:∀ z,z∈before→W.sameAt W' z:=by
   intro z hz
   have:=hplt z hz
   cases z with
   | cell b off=>simp only [World.sameAt,World.cell?];rw [hold b this]
   | map b=>exact hold b this
  have hre:=DataW.TrodAll.respare (spare':=fun b=>decide (b<W.heap.size)) kids full hlt hA (fun z hz=>by simpa using hplt z hz)
  have hcar:∀ {Ts:List TypeId} {vs:List Value} {ds:List (DataW H)} {ps:List MemPlace},DataW.TrodAll enc P W 0 (fun b=>decide (b<W.heap.size)) true Ts vs ds ps→(∀ z,z∈ps→W.sameAt W' z)→DataW.TrodAll enc P W' 0 (fun b=>decide (b<W.heap.size)) true Ts vs ds ps:=by
   intro Ts
   induction Ts with
   | nil=>
    intro vs ds ps h _
    cases vs<;>cases ds<;>first | exact h | exact absurd h (by simp [DataW.TrodAll])
   | cons T Ts ih=>
    intro vs ds ps h hs
    cases vs with
    | nil=>cases ds<;>exact absurd h (by simp [DataW.TrodAll])
    | cons v vs=>cases ds with
    | nil=>exact absurd h (by simp [DataW.TrodAll])
    | cons d ds=>
    obtain ⟨p,q,⟨n,h1⟩,h2,rfl⟩:=h
    exact ⟨p,q,⟨n,DataW.trod_carry n _ _ _ h1 fun z hz=>hs z (List.mem_append_left _ hz)⟩,ih h2 (fun z hz=>hs z (List.mem_append_right _ hz)),rfl⟩
  exact hcar hre hsame
 ·rw [hspec,hvars];rfl
 ·refine ⟨hgv.os,hgv.output,fun i hi=> ?_⟩
  rw [hold i hi]
  cases hh:W.heap[i]? with
  | none=>trivial
  | some o=>cases o<;>simp [World.keptBut]
end Go.Dn
namespace Go.Dn
theorem K3 {H:Type} {enc:TypeId×Value→H} {P:Program} {w:World} {base:Nat} {spare:Nat→Bool} {held:Bool}:∀ {Ts:List TypeId} {vs:List Value} {ds:List (DataW H)} {ps:List MemPlace},DataW.TrodAll enc P w base spare held Ts vs ds ps→ds.length=Ts.length
 | [],[],[],_,_=>rfl
 | _::_,_::_,_::_,_,⟨_,_,_,h,_⟩=>by rw [WW,WW,K3 h]
def UD:Nat→DataW Unit→List Value
 | d+1,.agg l=>l.flatMap (UD d)
 | _,.lit (.int k n)=>[.int k n]
 | _,.lit (.bool b)=>[.bool b]
 | _,_=>[]
def Vx (P:Program) (l:List (String×DataW Unit)) (w:World):World:=
 l.foldl (fun w p=>match P.globalNamed p.1 with
  | some g=>{ w with heap:=w.heap.modify g fun
   | .cells _ t fr=> .cells (UD 9 p.2).toArray t fr
   | o=>o }
  | none=>w) w
end Go.Dn
namespace Go.Dn
open Go.Proofs Go.Shelf
section
variable {P:Program} {G:Gh} {w w':World} {ow:Nat→Option Nat} {e:TypeId}
end
end Go.Dn
namespace Go.Dn
theorem SY {P:Program} {f:FuncId} {t:Ty} {m:gq [.val .str,.val .str]→Option (dx [.val .str,.val .str] [.val t])}
 (h:∀ (s c:List UInt8) (r:t.den) (w:World),m (s,c,())=some (r,())→∃ v,(∀ G:Gh,cR G t r v)∧Calls P f #[.string (bs s),.string (bs c)] w fun e w'=>e= .returned v∧RowKit.Below w.heap.size w w'):aK P f ⟨[.val .str,.val .str],[.val t],m⟩:=by
 intro G w ow args x y hG how ha hm
 obtain ⟨s,c,u⟩:=x
 obtain ⟨r,u'⟩:=y
 obtain ⟨v,us,h1,_,hv,v',us',h2,_,hv',h3⟩:=ha
 have e1:=h1 rfl
 have e2:=h2 rfl
 have e3:us'=[]:=h3
 have e4:v= .string (bs s):=by simpa [Kg,cR,aS] using hv
 have e5:v'= .string (bs c):=by simpa [Kg,cR,aS] using hv'
 subst e1;subst e2;subst e3;subst e4;subst e5
 obtain ⟨z,hz,hc⟩:=h s c r w hm
 refine hc.mono ?_
 rintro e w' ⟨he,hb⟩
 refine ⟨G,fun _=>none,[z], ?_⟩
 exact {
  ret:=he
  le:=Gh.le_refl G
  agr:=fun b o hbo=>by
   have hw:=hG b o hbo
   have hlt:b<w.heap.size:=by
    rcases XI b w.heap.size with h | h
    ·exact h
    ·rw [Array.getElem?_eq_none h] at hw;cases hw
   rw [hb.block b hlt];exact hw
  size:=hb.size
  os:=hb.os
  output:=hb.output
  old:=fun b hlt _=>⟨hb.block b hlt,rfl⟩
  own:=fun b i hbi=>by cases hbi
  out:=⟨_,_,rfl,hz G,rfl,trivial⟩
  hnd:=fun _=>rfl }
end Go.Dn
namespace Go.Dn
def G8 (l:List (List UInt8)):Option (List (List UInt8)×Unit):=bif decide (l.length<4294967296) then some (l.mergeSort fun x y=>decide (x≤y),()) else none
def HH (l:List (List UInt8)):Option (List (List UInt8)×Unit):=bif decide (l.length<4294967296) then some (Lib.compact l,()) else none
end Go.Dn
namespace Go.Dn
open Go.Proofs Go.Shelf Go.Sort
theorem A1 {G:Gh}:∀ {l:List (List UInt8)} {cs:List Value},cF (aS G .str) l cs↔cs=l.map encStr
 | [],cs=>by simp [cF]
 | x::l,cs=>by
  simp only [cF,W6]
  constructor
  ·rintro ⟨c,r,e,h1,h2⟩
   have h1':c=[.string (bs x)]:=h1
   rw [A1] at h2
   subst h1';subst h2;exact e
  ·rintro rfl
   exact ⟨[.string (bs x)],l.map encStr,rfl,rfl,A1.2 rfl⟩
theorem Q8 (l:List (List UInt8)):(Lib.compact l).length≤l.length:=by
 unfold Lib.compact Lib.compactUpTo
 rw [WY]
 have:=WX (Lib.keeps l.toArray) (List.range l.length)
 rwa [W1] at this
section
variable {P:Program}
theorem Tw {ρ:Ren} (L:Lays.n190 P ρ) {G:Gh} {w:World} {ow:Nat→Option Nat} {l r:List (List UInt8)} {s:Value} (hG:Agr G w) (how:∀ b i,ow b=some i→G b=none∧b<w.heap.size)
 (hown:w.ownsRow 0 (ρ.t 9) 1 s l.length (l.map encStr)) (hobl:∀ b,s.ownBlock=some b→ow b=some (64*0)) (hm:G8 l=some (r,())):
 Calls P (ρ.f 190) #[s] w fun e w'=>∃ G' ow' vs,RZ G w ow ⟨[.mrow (ρ.t 9) .str],[],fun x=>G8 x.1⟩ [s] (r,()) e w' G' ow' vs:=by
 unfold G8 at hm
 cases hb0:decide (l.length<4294967296) with
 | false=>rw [hb0] at hm;cases hm
 | true=>
  rw [hb0] at hm
  simp only [cond_true,Option.some.injEq,Prod.mk.injEq,and_true] at hm
  have hlt:l.length<4294967296:=Yi hb0
  rcases hown.2 with ⟨rfl,hl0⟩ | ⟨g,cap,cur,rfl,hbase,hb,h1,h2,h3,h4⟩
  ·have hl:l=[]:=WC hl0
   have hr:r=[]:=by rw [← hm,hl];simp
   refine (Any.slices_Sort_string_none L none 0 w).mono ?_
   rintro e w' ⟨he,rfl⟩
   refine ⟨G,fun _=>none,[], ?_⟩
   exact {
    ret:=he
    le:=Gh.le_refl G
    agr:=hG
    size:=XE _
    os:=rfl
    output:=rfl
    old:=fun b _ _=>⟨rfl,rfl⟩
    own:=fun b i hbi=>by cases hbi
    out:=⟨rfl,⟨_,rfl,⟨[],⟨by rw [hr];rfl,.inl ⟨rfl,by rw [hr];rfl⟩⟩,by rw [hr];rfl⟩,fun b hb=>by cases hb⟩,trivial⟩
    hnd:=fun _=>rfl }
  ·have h4':cur.toList.take l.length=List.map encStr l:=by simpa using h4
   have hgs:g<w.heap.size:=(VR.1 hb).1
   have hgOw:ow g=some (64*0):=hobl g rfl
   have hgG:=(how g _ hgOw).1
   refine (Any.slices_Sort_string L g 0 cap l w (holds_of_block hb h4') hgs (by omega)).mono ?_
   rintro e w' ⟨he,n,os,hw⟩
   rw [hm] at hw
   have hrl:r.length=l.length:=by rw [← hm,List.length_mergeSort]
   have hgr:=grownBy_sorted (w:=w) (g:=g) (n:=n) (os:=os) r.toArray
   rw [← hw] at hgr
   obtain ⟨q1,q2,q3,q4,q5⟩:=hgr
   have hrow:=ownsRow_sorted (base:=0) (n:=n) (os:=os) (ss:=l) (ts:=r) hrl (XW _) hb h1 h2 (by simpa using h3)
   rw [← hw] at hrow
   refine ⟨G,fun b=>if b=g then some (64*0) else none,[], ?_⟩
   exact {
    ret:=he
    le:=Gh.le_refl G
    agr:=fun b o hbo=>by
     have hwb:=hG b o hbo
     have hne:b≠g:=fun e=>by rw [e,hgG] at hbo;cases hbo
     rw [q5 b (iB hwb) (fun e=>hne (Option.some.inj e))];exact hwb
    size:=q4
    os:=by rw [hw];rfl
    output:=by rw [hw];rfl
    old:=fun b hbs hob=>by
     have hne:b≠g:=fun e=>by rw [e,hgOw] at hob;cases hob
     exact ⟨q5 b hbs (fun e=>hne (Option.some.inj e)),rfl⟩
    own:=fun b i hbi=>by
     by_cases e:b=g
     ·subst e;exact ⟨hgG,by omega,.inr (by rw [hgOw];simp)⟩
     ·simp only [e,Yd] at hbi;cases hbi
    out:=⟨rfl,⟨_,rfl,⟨List.map encStr r,by show w'.ownsRow 0 (ρ.t 9) 1 (.slice (some ⟨g,0,none⟩) l.length cap) r.length (List.map encStr r);rw [hrl];exact hrow,A1.2 rfl⟩,fun b hbv=>by
     have:some g=some b:=hbv
     cases this
     show (if g=g then some (64*0) else none)=_
     simp⟩,trivial⟩
    hnd:=fun _=>rfl }
theorem NB {ρ:Ren} (L:Lays.n190 P ρ):aK P (ρ.f 190) ⟨[.mrow (ρ.t 9) .str],[],fun x=>G8 x.1⟩:=by
 intro G w ow args x y hG how ha hm
 obtain ⟨l,u⟩:=x
 obtain ⟨r,u'⟩:=y
 obtain ⟨s,us,a1,_,⟨⟨xs,hown,hrep⟩,hobl⟩,a4⟩:=ha
 have e1:=a1 rfl
 have e4:us=[]:=a4
 subst e1;subst e4
 have e6:xs=List.map encStr (l:List (List UInt8)):=(A1 (G:=G)).1 hrep
 subst e6
 exact Tw (l:=l) (r:=r) L hG how hown hobl hm
theorem PF {ρ:Ren} (L:Lays.n194 P ρ) {G:Gh} {w:World} {ow:Nat→Option Nat} {l r:List (List UInt8)} {s:Value} (hG:Agr G w) (how:∀ b i,ow b=some i→G b=none∧b<w.heap.size)
 (hown:w.ownsRow 0 (ρ.t 9) 1 s l.length (l.map encStr)) (hobl:∀ b,s.ownBlock=some b→ow b=some (64*0)) (hm:HH l=some (r,())):
 Calls P (ρ.f 194) #[s] w fun e w'=>∃ G' ow' vs,RZ G w ow ⟨[.row (ρ.t 9) .str],[.row (ρ.t 9) .str],fun x=>HH x.1⟩ [s] (r,()) e w' G' ow' vs:=by
 unfold HH at hm
 cases hb0:decide (l.length<4294967296) with
 | false=>rw [hb0] at hm;cases hm
 | true=>
  rw [hb0] at hm
  simp only [cond_true,Option.some.injEq,Prod.mk.injEq,and_true] at hm
  have hlt:l.length<4294967296:=Yi hb0
  rcases hown.2 with ⟨rfl,hl0⟩ | ⟨g,cap,cur,rfl,hbase,hb,h1,h2,h3,h4⟩
  ·have hl:l=[]:=WC hl0
   have hr:r=[]:=by rw [← hm,hl];rfl
   refine (Any.slices_Compact_string_empty L none 0 w).mono ?_
   rintro e w' ⟨he,rfl⟩
   refine ⟨G,fun _=>none,[.slice none 0 0], ?_⟩
   exact {
    ret:=he
    le:=Gh.le_refl G
    agr:=hG
    size:=XE _
    os:=rfl
    output:=rfl
    old:=fun b _ _=>⟨rfl,rfl⟩
    own:=fun b i hbi=>by cases hbi
    out:=⟨_,[],rfl,⟨⟨[],⟨by rw [hr];rfl,.inl ⟨rfl,by rw [hr];rfl⟩⟩,by rw [hr];rfl⟩,fun b hb=>by cases hb⟩,rfl,trivial⟩
    hnd:=fun _=>rfl }
  ·have h4':cur.toList.take l.length=List.map encStr l:=by simpa using h4
   have hgs:g<w.heap.size:=(VR.1 hb).1
   have hgOw:ow g=some (64*0):=hobl g rfl
   have hgG:=(how g _ hgOw).1
   refine (Any.slices_Compact_string L g 0 cap l w (holds_of_block hb h4') (by omega) h1).mono ?_
   rintro e w' ⟨he,n,hw⟩
   have hcl:=Q8 l
   have hrr:r=Lib.compact l:=hm.symm
   rw [← hrr] at he hw hcl
   have hgr:=grownBy_sorted (w:=w) (g:=g) (n:=n) (os:= #[]) (r++List.replicate (l.length - r.length) []).toArray
   rw [grow_empty, ← hw] at hgr
   obtain ⟨q1,q2,q3,q4,q5⟩:=hgr
   have hrow:=ownsRow_sorted (base:=0) (n:=n) (os:= #[]) (ss:=l) (ts:=r++List.replicate (l.length - r.length) []) (by simp;omega) (XW _) hb h1 h2 (by simpa using h3)
   rw [grow_empty, ← hw] at hrow
   have hrow2:w'.ownsRow 0 (ρ.t 9) 1 (.slice (some ⟨g,0,none⟩) r.length cap) r.length (List.map encStr r):=by
    rcases hrow.2 with ⟨hx,_⟩ | ⟨g2,cap2,cur2,hv,_,hb2,_,_,k3,k4⟩
    ·cases hx
    ·cases hv
     refine ⟨by simp,.inr ⟨g,cap,cur2,rfl,XW _,hb2,by omega,h2,k3, ?_⟩⟩
     rw [Nat.mul_one] at k4 ⊢
     have:=congrArg (List.take r.length) k4
     rw [Xw,XL hcl,W4] at this
     rw [this]
     have e:r.length=(List.map encStr r).length:=by simp
     rw [e,Xu]
   refine ⟨G,fun b=>if b=g then some (64*24) else none,[.slice (some ⟨g,0,none⟩) r.length cap], ?_⟩
   exact {
    ret:=he
    le:=Gh.le_refl G
    agr:=fun b o hbo=>by
     have hwb:=hG b o hbo
     have hne:b≠g:=fun e=>by rw [e,hgG] at hbo;cases hbo
     rw [q5 b (iB hwb) (fun e=>hne (Option.some.inj e))];exact hwb
    size:=q4
    os:=by rw [hw];rfl
    output:=by rw [hw];rfl
    old:=fun b hbs hob=>by
     have hne:b≠g:=fun e=>by rw [e,hgOw] at hob;cases hob
     exact ⟨q5 b hbs (fun e=>hne (Option.some.inj e)),rfl⟩
    own:=fun b i hbi=>by
     by_cases e:b=g
     ·subst e;exact ⟨hgG,by omega,.inr (by rw [hgOw];simp)⟩
     ·simp only [e,Yd] at hbi;cases hbi
    out:=⟨_,[],rfl,⟨⟨List.map encStr r,hrow2,A1.2 rfl⟩,fun b hbv=>by
     have:some g=some b:=hbv
     cases this
     show (if g=g then some (64*24) else none)=_
     simp⟩,rfl,trivial⟩
    hnd:=fun _=>rfl }
theorem Kv {ρ:Ren} (L:Lays.n194 P ρ):aK P (ρ.f 194) ⟨[.row (ρ.t 9) .str],[.row (ρ.t 9) .str],fun x=>HH x.1⟩:=by
 intro G w ow args x y hG how ha hm
 obtain ⟨l,u⟩:=x
 obtain ⟨r,u'⟩:=y
 obtain ⟨s,us,a1,_,⟨⟨xs,hown,hrep⟩,hobl⟩,a4⟩:=ha
 have e1:=a1 rfl
 have e4:us=[]:=a4
 subst e1;subst e4
 have e6:xs=List.map encStr (l:List (List UInt8)):=(A1 (G:=G)).1 hrep
 subst e6
 exact PF (l:=l) (r:=r) L hG how hown hobl hm
end
end Go.Dn
