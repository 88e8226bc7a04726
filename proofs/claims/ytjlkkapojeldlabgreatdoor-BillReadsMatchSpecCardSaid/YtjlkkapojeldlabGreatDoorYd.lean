/-
  The executor, its fifth part: whole functions are sound; a law whose plain model is always true holds. No condition.
-/
import Derived.Test.YtjlkkapojeldlabGreatDoorYe
import Derived.Shelf.Spec.SlicesInsertGrow
import Derived.ReadAgain
import Derived.ChangeSame
import Derived.ChangeArms
import Derived.ChangeOld
import Derived.OpenShut
import Derived.ProofKit
import Derived.WalkKit
import Derived.Deep.DeepHandedRow
import Derived.Lib.LaidTab
import Derived.Shelf.Vars
import Derived.Stop.LaidErr
set_option linter.all false
namespace Go.Dn
variable {X:Cx} {C:Fr X.P}
def Ex.CY:Ex->Exit
 | .normal=> .normal
 | .exit id=> .exit id
 | .ret=> .ret
theorem NG {β:Type} {A:Ann} {c:Code} {len:Nat} {anns:List (Nat×Ann)} {K:Ex->St->Option β} {r:β} {Q:Exit->Act->World->Prop}
 (ih:∀ {S:St} {K:Ex->St->Option β} {r:β},den X anns c β S K=some r->∀ {Q:Exit->Act->World->Prop},
   (∀ e S' G ρ w a,K e S'=some r->Mod C G ρ S' w a->Q e.CY a w)->∀ {G ρ w a},Mod C G ρ S w a->c.wp X.P Q a w)
 (hQ:∀ e S' G ρ w a,K e S'=some r->Mod C G ρ S' w a->Q e.CY a w):∀ (n:Nat) (x:cY A.cks) (G:Gh) (ρ:Env) (w:World) (a:Act),
 iter n x (fun x again=>den X anns c β (head A len x) fun e S'=>match e with
  | .normal=>match carry A S' with
   | some y=>bif Nat.beq S'.tmps.length len then again y else none
   | none=>none
  | .exit j=>K (.exit j) S'
  | .ret=>K .ret S')=some r->Mod C G ρ (head A len x) w a->Code.rounds X.P c Q n a w
 | 0,x,G,ρ,w,a,h,hM=>by simp[iter] at h
 | n+1,x,G,ρ,w,a,h,hM=>by
  simp only[iter] at h
  refine ih h (fun e S' G' ρ' w' a' hk hM'=> ?_) hM
  cases e with
  | normal=>
   simp only at hk
   split at hk
   ·rename_i y hy
    cases hb:Nat.beq S'.tmps.length len with
    | false=>rw[hb] at hk;cases hk
    | true=>
     rw[hb] at hk
     simp only[abL] at hk
     obtain⟨G2,ρ2,h2⟩:=Ms hM' hy
     rw[aaZ hb] at h2
     exact NG ih hQ n y G2 ρ2 w' a' hk h2
   ·cases hk
  | exit id=>exact hQ (.exit id) S' G' ρ' w' a' hk hM'
  | ret=>exact hQ .ret S' G' ρ' w' a' hk hM'
theorem KS {β γ:Type} {x:Option (β ⊕ γ)} {f:γ->Option β} {r:β} (h:aR x f=some r):∃ q,x=some q/\(q= .inl r\/∃ v,q= .inr v/\f v=some r):=by
 unfold aR at h
 split at h
 ·cases h
 ·cases h;exact⟨_,rfl,.inl rfl⟩
 ·rename_i v;exact⟨_,rfl,.inr ⟨v,rfl,h⟩⟩
theorem uK {β γ:Type} {x:Option β} {q:β ⊕ γ} (h:BK x=some q):∃ r,x=some r/\q= .inl r:=by
 unfold BK at h
 split at h
 ·cases h;exact⟨_,rfl,rfl⟩
 ·cases h
theorem UZ {β:Type} {A:Ann} {n:Nat} {S:St} {q:β ⊕ cY A.cks} (h:meet A n S=some q):∃ v,carry A S=some v/\S.tmps.length=n/\q= .inr v:=by
 unfold meet at h
 split at h
 ·rename_i v hv
  cases hb:Nat.beq S.tmps.length n with
  | false=>rw[hb] at h;cases h
  | true=>rw[hb] at h;simp only[abL,Option.some.injEq] at h;exact⟨v,hv,aaZ hb,h.symm⟩
 ·cases h
theorem Hw {β:Type} {A:Ann} {n:Nat} {K:Ex->St->Option β} {r:β} {Q:Exit->Act->World->Prop} (hQ:∀ e S' G ρ w a,K e S'=some r->Mod C G ρ S' w a->Q e.CY a w) {q:β ⊕ cY A.cks} (hq:q= .inl r\/∃ v,q= .inr v/\K .normal (head A n v)=some r) {S':St} {G:Gh} {ρ:Env} {w:World} {a:Act} (hM:Mod C G ρ S' w a) (h:meet A n S'=some q):Q .normal a w:=by
 obtain⟨v,h1,h2,h3⟩:=UZ h
 rcases hq with hq | ⟨v',hq,hk⟩
 ·rw[h3] at hq;cases hq
 ·rw[h3] at hq
  cases hq
  obtain⟨G2,ρ2,hm⟩:=Ms hM h1
  rw[h2] at hm
  exact hQ .normal _ G2 ρ2 w a hk hm
theorem Um {β:Type} {a b:Option β} {r:β} (h:both a b=some r):a=some r/\b=some r:=by
 unfold both at h
 split at h
 ·rename_i e;exact⟨h,e ▸ h⟩
 ·cases h
theorem nD (hX:cA X) (hmix:X.P.follows .mixedOrders=true) (anns:List (Nat×Ann)):∀ (c:Code) {β:Type} {S:St} {K:Ex->St->Option β} {r:β},den X anns c β S K=some r->∀ {Q:Exit->Act->World->Prop}, (∀ e S' G ρ w a,K e S'=some r->Mod C G ρ S' w a->Q e.CY a w)->∀ {G ρ w a},Mod C G ρ S w a->c.wp X.P Q a w:=by
 intro c
 induction c with
 | skip=>
  intro β S K r h Q hQ G ρ w a hM
  exact wp_skip (hQ .normal S G ρ w a h hM)
 | region id ops dr=>
  intro β S K r h Q hQ G ρ w a hM
  simp only[den] at h
  split at h
  ·rename_i A hA
   obtain⟨v,hv,h⟩:=bind_some h
   have:=Xk hX hmix hv (Q:=Q) (fun S' G ρ w a hk hJ hM=>hQ .normal _ G ρ w a h (UL hJ hk hM)) hM id
   simpa using this
  ·cases dr with
   | true=>
    simp only[abL] at h
    have:=TW hX hmix h (Q:=Q) (fun S' G ρ w a hk hM=>hQ .normal S' G ρ w a hk hM) hM id
    simpa using this
   | false=>
    simp only[abK] at h
    refine wp_region_list ?_
    have:=qN hX ops.toList ops.toList h (Q:=Q) (fun S' G ρ w a hk hM=>hQ .normal S' G ρ w a hk hM) hM
    simpa using this
 | seq x y ihx ihy=>
  intro β S K r h Q hQ G ρ w a hM
  simp only[den] at h
  refine wp_seq (ihx h (fun e S' G' ρ' w' a' hk hM'=> ?_) hM)
  cases e with
  | normal=>exact ihy hk hQ hM'
  | exit id=>exact hQ (.exit id) S' G' ρ' w' a' hk hM'
  | ret=>exact hQ .ret S' G' ρ' w' a' hk hM'
 | cond b x y ihx ihy=>
  intro β S K r h Q hQ G ρ w a hM
  simp only[den] at h
  split at h
  ·rename_i t ht
   have hv:=hM.tmps.ev b
   rw[ht] at hv
   split at h
   ·rename_i A hA
    obtain⟨q,h1,hq⟩:=KS h
    refine wp_cond_split (t:=t) hv (fun e=> ?_) (fun e=> ?_)
    ·subst e
     simp only[abL] at h1
     refine ihx h1 (fun e S' G' ρ' w' a' hk hM'=> ?_) hM
     cases e with
     | normal=>exact Hw hQ hq hM' hk
     | exit j=>
      obtain⟨r',hr,hr2⟩:=uK hk
      rcases hq with hq | ⟨v,hq,_⟩
      ·rw[hr2] at hq;cases hq;exact hQ (.exit j) S' G' ρ' w' a' hr hM'
      ·rw[hr2] at hq;cases hq
     | ret=>
      obtain⟨r',hr,hr2⟩:=uK hk
      rcases hq with hq | ⟨v,hq,_⟩
      ·rw[hr2] at hq;cases hq;exact hQ .ret S' G' ρ' w' a' hr hM'
      ·rw[hr2] at hq;cases hq
    ·subst e
     simp only[abK] at h1
     refine ihy h1 (fun e S' G' ρ' w' a' hk hM'=> ?_) hM
     cases e with
     | normal=>exact Hw hQ hq hM' hk
     | exit j=>
      obtain⟨r',hr,hr2⟩:=uK hk
      rcases hq with hq | ⟨v,hq,_⟩
      ·rw[hr2] at hq;cases hq;exact hQ (.exit j) S' G' ρ' w' a' hr hM'
      ·rw[hr2] at hq;cases hq
     | ret=>
      obtain⟨r',hr,hr2⟩:=uK hk
      rcases hq with hq | ⟨v,hq,_⟩
      ·rw[hr2] at hq;cases hq;exact hQ .ret S' G' ρ' w' a' hr hM'
      ·rw[hr2] at hq;cases hq
   ·refine wp_cond_split (t:=t) hv (fun e=> ?_) (fun e=> ?_)
    ·subst e;exact ihx h hQ hM
    ·subst e;exact ihy h hQ hM
  ·rename_i t ht
   have hv:=hM.tmps.ev b
   rw[ht] at hv
   obtain⟨c,hc,hf⟩:=(hv:aV G ρ (.nb t) _)
   cases t with
   | false=>
    have:=hf rfl
    subst this
    exact wp_cond_split (t:=false) hc (fun e=>by cases e) (fun _=>ihy h hQ hM)
   | true=>
    obtain⟨h1,h2⟩:=Um h
    exact wp_cond_split (t:=c) hc (fun _=>ihx h1 hQ hM) (fun _=>ihy h2 hQ hM)
  ·cases h
 | block id x ih=>
  intro β S K r h Q hQ G ρ w a hM
  simp only[den] at h
  split at h
  ·rename_i A hA
   obtain⟨q,h1,hq⟩:=KS h
   refine wp_block (ih h1 (fun e S' G' ρ' w' a' hk hM'=> ?_) hM)
   cases e with
   | normal=>exact Hw hQ hq hM' hk
   | exit j=>
    simp only at hk
    simp only[Ex.CY,Exit.inBlock]
    split at hk
    ·rename_i hb
     rw[abY (aaZ hb)]
     exact Hw hQ hq hM' hk
    ·rename_i hb
     rw[abX (fun e=>hb (by rw[e];simp))]
     obtain⟨r',hr,hr2⟩:=uK hk
     rcases hq with hq | ⟨v,hq,_⟩
     ·rw[hr2] at hq;cases hq;exact hQ (.exit j) S' G' ρ' w' a' hr hM'
     ·rw[hr2] at hq;cases hq
   | ret=>
    obtain⟨r',hr,hr2⟩:=uK hk
    rcases hq with hq | ⟨v,hq,_⟩
    ·rw[hr2] at hq;cases hq;exact hQ .ret S' G' ρ' w' a' hr hM'
    ·rw[hr2] at hq;cases hq
  ·refine wp_block (ih h (fun e S' G' ρ' w' a' hk hM'=> ?_) hM)
   cases e with
   | normal=>exact hQ .normal S' G' ρ' w' a' hk hM'
   | exit j=>
    simp only at hk
    simp only[Ex.CY,Exit.inBlock]
    split at hk
    ·rename_i hb
     rw[abY (aaZ hb)]
     exact hQ .normal S' G' ρ' w' a' hk hM'
    ·rename_i hb
     rw[abX (fun e=>hb (by rw[e];simp))]
     exact hQ (.exit j) S' G' ρ' w' a' hk hM'
   | ret=>exact hQ .ret S' G' ρ' w' a' hk hM'
 | loop x ih=>
  intro β S K r h Q hQ G ρ w a hM
  simp only[den] at h
  split at h
  ·rename_i A hA
   split at h
   ·rename_i y hy
    obtain⟨G2,ρ2,h2⟩:=Ms hM hy
    exact wp_loop_rounds (A.fuel y) (NG ih hQ (A.fuel y) y G2 ρ2 w a h h2)
   ·cases h
  ·cases h
 | exit id=>
  intro β S K r h Q hQ G ρ w a hM
  exact wp_exit (hQ (.exit id) S G ρ w a h hM)
 | ret=>
  intro β S K r h Q hQ G ρ w a hM
  exact wp_ret (hQ .ret S G ρ w a h hM)
 | _=>
  intro β S K r h
  simp[den] at h
end Go.Dn
namespace Go.Dn
variable {X:Cx} {C:Fr X.P} {G:Gh} {ρ:Env} {w:World}
def fI (ρ:Env):Nat->List PM->List Value->Prop
 | _,[],_=>True
 | i,.mrow _ _::r,vs=>(vs.head? =some (ρ.rw (pid i 0))/\∃ a n c,ρ.rw (pid i 0)= .slice a n c)/\fI ρ (i+1) r vs.tail
 | i,.map _ _::r,vs=>(vs.head? =some (ρ.ob (pid i 0))/\∃ b,ρ.ob (pid i 0)= .map (some b))/\fI ρ (i+1) r vs.tail
 | i,.box _::r,vs=>vs.head? =some (.pointer (some ⟨ρ.bx (2000+i),0,none⟩))/\fI ρ (i+1) r vs.tail
 | i,.ar _::r,vs=>fI ρ (i+1) r vs
 | i,.arR _::r,vs=>fI ρ (i+1) r vs
 | i,.val _::r,vs=>fI ρ (i+1) r vs.tail
 | i,.row _ _::r,vs=>fI ρ (i+1) r vs.tail
theorem SF (i:Nat):10000000<=pid i 0:=by simp only[pid,pD,nid];omega
theorem fI.congr {ρ ρ':Env} (hb:∀ k,2000<=k->ρ'.bx k=ρ.bx k) (hr:∀ k,10000000<=k->ρ'.rw k=ρ.rw k/\ρ'.ob k=ρ.ob k):∀ {ps:List PM} {i:Nat} {vs:List Value},fI ρ i ps vs->fI ρ' i ps vs
 | [],_,_,_=>trivial
 | .mrow _ _::r,i,vs,h=>by
  simp only[fI] at h ⊢
  rw[(hr _ (SF i)).1];exact⟨h.1,h.2.congr hb hr⟩
 | .map _ _::r,i,vs,h=>by
  simp only[fI] at h ⊢
  rw[(hr _ (SF i)).2];exact⟨h.1,h.2.congr hb hr⟩
 | .box _::r,i,vs,h=>by
  simp only[fI] at h ⊢
  rw[hb _ (by omega)];exact⟨h.1,h.2.congr hb hr⟩
 | .ar _::r,i,vs,h=>fI.congr (ps:=r) hb hr h
 | .arR _::r,i,vs,h=>fI.congr (ps:=r) hb hr h
 | .val _::r,i,vs,h=>fI.congr (ps:=r) hb hr h
 | .row _ _::r,i,vs,h=>fI.congr (ps:=r) hb hr h
theorem Trans.refl (G:Gh) (b:Bool):Trans G G b:=⟨fun _ _ h=>h,.inr (Gh.le_refl G)⟩
theorem l8 {ow:Nat->Option Nat}:∀ {ps:List PM} {i:Nat} {x:dS ps} {vs:List Value},fV G w ow i ps x vs-> ∃ vals:List (aX×Value),vals.map (·.1)=(dJ i ps).map (·.1)/\(∀ k v,(.inl k,v)∈vals->∃ b,v= .pointer (some ⟨b,0,none⟩))/\ ∀ ρ:Env,(∀ o v,(o,v)∈vals->Asg ρ w o v)->(∀ o n,(o,n)∈dJ i ps->∀ b,ow b=some n->ρ.own b=some o)-> aG (bh G ρ) (jK i ps x) vs/\ja G ρ w (oE i ps x) (nK i ps x) (gA i ps x)/\fI ρ i ps vs
 | [],i,x,vs,h=>⟨[],rfl,fun k v h=>by simp at h,fun ρ _ _=>⟨h,ja.nil,trivial⟩⟩
 | .val t::r,i,x,vs,⟨v,us,h1,_,hv,hu⟩=>by
  obtain⟨vals,e,hp,hr⟩:=l8 hu
  refine⟨vals,e,hp,fun ρ hA hO=> ?_⟩
  obtain⟨g1,g2,g3⟩:=hr ρ hA hO
  rw[h1 rfl]
  exact⟨⟨v,us,rfl,CX ρ hv,g1⟩,g2,g3⟩
 | .row e' t::r,i,x,vs,⟨v,us,h1,_,⟨hv,hv2⟩,hu⟩=>by
  obtain⟨vals,e,hp,hr⟩:=l8 hu
  refine⟨(.inr (pid i 0),v)::vals,by simp[dJ,e],fun k v h=>hp k v (by simpa using h),fun ρ hA hO=> ?_⟩
  obtain⟨g1,g2,g3⟩:=hr ρ (fun o v h=>hA o v (by simp[h])) (fun o n h=>hO o n (by simp[dJ,h]))
  have hav:ρ.rw (pid i 0)=v:=hA (.inr (pid i 0)) v (by simp)
  rw[h1 rfl]
  refine⟨⟨v,us,rfl,⟨hav.symm,hv.isSlice⟩,g1⟩,⟨g2.bx,fun j q hj=> ?_,g2.ob⟩,g3⟩
  simp only[nK,an] at hj
  split at hj
  ·rename_i ej
   subst ej
   cases hj
   exact hv.ok (Trans.refl G _) hav (fun b hb=>hO _ _ (by simp[dJ]) b (hv2 b hb))
  ·exact g2.rw j q hj
 | .mrow e' t::r,i,x,vs,⟨v,us,h1,_,⟨hv,hv2⟩,hu⟩=>by
  obtain⟨vals,e,hp,hr⟩:=l8 hu
  refine⟨(.inr (pid i 0),v)::vals,by simp[dJ,e],fun k v h=>hp k v (by simpa using h),fun ρ hA hO=> ?_⟩
  obtain⟨g1,g2,g3⟩:=hr ρ (fun o v h=>hA o v (by simp[h])) (fun o n h=>hO o n (by simp[dJ,h]))
  have hav:ρ.rw (pid i 0)=v:=hA (.inr (pid i 0)) v (by simp)
  rw[h1 rfl]
  refine⟨⟨v,us,rfl,⟨hav.symm,hv.isSlice⟩,g1⟩,⟨g2.bx,fun j q hj=> ?_,g2.ob⟩,⟨by rw[hav];rfl,by rw[hav];exact hv.isSlice⟩,g3⟩
  simp only[nK,an] at hj
  split at hj
  ·rename_i ej
   subst ej
   cases hj
   exact hv.ok (Trans.refl G _) hav (fun b hb=>hO _ _ (by simp[dJ]) b (hv2 b hb))
  ·exact g2.rw j q hj
 | .map kk vv::r,i,x,vs,⟨v,us,h1,_,⟨b,hv,hv1,hv2⟩,hu⟩=>by
  obtain⟨vals,e,hp,hr⟩:=l8 hu
  refine⟨(.ob (pid i 0),v)::vals,by simp[dJ,e],fun k v h=>hp k v (by simpa using h),fun ρ hA hO=> ?_⟩
  obtain⟨g1,g2,g3⟩:=hr ρ (fun o v h=>hA o v (by simp[h])) (fun o n h=>hO o n (by simp[dJ,h]))
  rw[h1 rfl]
  subst hv
  have ho:ρ.own b=some (.ob (pid i 0)):=hO _ _ (by simp[dJ]) b hv1
  obtain⟨m1,m2⟩:=hv2.ok (Trans.refl G _) (hA (.ob (pid i 0)) (.map (some b)) (by simp)) ho
  refine⟨⟨_,us,rfl,⟨m2.symm,b,rfl⟩,g1⟩,⟨g2.bx,g2.rw,fun j q hj=> ?_⟩,⟨by rw[m2];rfl,b,m2⟩,g3⟩
  simp only[gA,an] at hj
  split at hj
  ·rename_i ej
   subst ej
   cases hj
   exact m1
  ·exact g2.ob j q hj
 | .box l::r,i,x,vs,⟨v,us,h1,_,hv,hu⟩=>by
  obtain⟨vals,e,hp,hr⟩:=l8 hu
  obtain⟨vals2,hv2,hr2⟩:=Jc (G3:=G) (d:=pD) (k:=2000+i) (Trans.refl G _) hv
  refine⟨(.inl (2000+i),v)::(vals2++vals),by simp[dJ,e,hv2],fun k v' h=> ?_,fun ρ hA hO=> ?_⟩
  ·rcases aaw.1 h with h | h
   ·cases h
    obtain⟨b,_,_,e1,_⟩:=hv
    exact⟨b,e1⟩
   ·rcases aav.1 h with h | h
    ·have hm:(.inl k:aX)∈vals2.map (·.1):=aaB.2 ⟨_,h,rfl⟩
     rw[hv2] at hm
     obtain⟨p,hp,e1⟩:=aaB.1 hm
     obtain⟨p1,p2⟩:=p
     simp only at e1
     subst e1
     exact absurd hp ((uq (x:=x.1)).2.2 k p2)
    ·exact hp k v' h
  ·obtain⟨g1,g2,g3⟩:=hr ρ (fun o v h=>hA o v (by simp[h])) (fun o n h=>hO o n (by simp[dJ,h]))
   have hk:=hA (.inl (2000+i)) v (by simp)
   have g4:=hr2 ρ hk (fun o v h=>hA o v (by simp[h])) (fun o n h=>hO o n (by
    simp only[aaw] at h
    simp only[dJ,aaw,aav]
    rcases h with h | h
    ·exact .inl h
    ·exact .inr (.inl h)))
   rw[h1 rfl]
   exact⟨⟨v,us,rfl,hk,g1⟩,g4.app g2,by rw[show v=_ from hk];rfl,g3⟩
 | .ar t::r,i,x,vs,⟨v,us,_,h1,hv,hu⟩=>by
  obtain⟨vals,e,hp,hr⟩:=l8 hu
  refine⟨(.ob bA,undef)::vals,by simp[dJ,e],fun k v h=>hp k v (by simpa using h),fun ρ hA hO=> ?_⟩
  obtain⟨g1,g2,g3⟩:=hr ρ (fun o v h=>hA o v (by simp[h])) (fun o n h=>hO o n (by simp[dJ,h]))
  have e1:=h1 rfl
  subst e1
  refine⟨g1,⟨g2.bx,g2.rw,fun j q hj=> ?_⟩,g3⟩
  simp only[gA,an] at hj
  split at hj
  ·rename_i ej
   subst ej
   cases hj
   refine⟨rfl,hv.1,hv.2.1,fun n z hz=> ?_⟩
   obtain⟨b,ws,T,f1,f2,f3,f4,f5⟩:=hv.2.2 n z hz
   exact⟨b,ws,T,f1,nofun,fun _=>hO _ _ (by simp[dJ]) b (f3 rfl),f4,f5⟩
  ·exact g2.ob j q hj
 | .arR t::r,i,x,vs,⟨v,us,_,h1,hv,hu⟩=>by
  obtain⟨vals,e,hp,hr⟩:=l8 hu
  refine⟨vals,e,hp,fun ρ hA hO=> ?_⟩
  obtain⟨g1,g2,g3⟩:=hr ρ hA hO
  have e1:=h1 rfl
  subst e1
  refine⟨g1,⟨g2.bx,g2.rw,fun j q hj=> ?_⟩,g3⟩
  simp only[gA,an] at hj
  split at hj
  ·rename_i ej
   subst ej
   cases hj
   refine⟨rfl,hv.1,hv.2.1,fun n z hz=> ?_⟩
   obtain⟨b,ws,T,f1,f2,f3,f4,f5⟩:=hv.2.2 n z hz
   exact⟨b,ws,T,f1,f2,nofun,f4,f5⟩
  ·exact g2.ob j q hj
theorem vU:∀ {ps:List PM} {i:Nat} {o:aX} {n:Nat},(o,n)∈dJ i ps->(∃ k,o= .inl k)\/o= .ob bA\/DC pD o n
 | [],i,o,n,h=>by simp[dJ] at h
 | .val _::r,i,o,n,h=>vU (ps:=r) h
 | .arR _::r,i,o,n,h=>vU (ps:=r) h
 | .row _ _::r,i,o,n,h=>by
  simp only[dJ,aaw,Prod.mk.injEq] at h
  rcases h with ⟨h,h'⟩ | h
  ·subst h;subst h';exact .inr (.inr (.inl (by rw[pid,Aq];rfl)))
  ·exact vU (ps:=r) h
 | .mrow _ _::r,i,o,n,h=>by
  simp only[dJ,aaw,Prod.mk.injEq] at h
  rcases h with ⟨h,h'⟩ | h
  ·subst h;subst h';exact .inr (.inr (.inl (by rw[pid,Aq];rfl)))
  ·exact vU (ps:=r) h
 | .map _ _::r,i,o,n,h=>by
  simp only[dJ,aaw,Prod.mk.injEq] at h
  rcases h with ⟨h,h'⟩ | h
  ·subst h;subst h';exact .inr (.inr (.inr (by rw[pid,Aq];rfl)))
  ·exact vU (ps:=r) h
 | .box l::r,i,o,n,h=>by
  simp only[dJ,aaw,aav,Prod.mk.injEq] at h
  rcases h with ⟨h,h'⟩ | h | h
  ·exact .inl ⟨_,h⟩
  ·exact .inr (.inr (zP h))
  ·exact vU (ps:=r) h
 | .ar _::r,i,o,n,h=>by
  simp only[dJ,aaw,Prod.mk.injEq] at h
  rcases h with ⟨h,h'⟩ | h
  ·exact .inr (.inl h)
  ·exact vU (ps:=r) h
def Qp (tmps:Array Value):ResultVar->Sem Value
 | .tmp t=>pure (tmps.getD t undef)
 | .cell a t=>do loadVar t (<- asAddr (tmps.getD a undef))
theorem Vt {S:St} {a:Act} {s:SV} {v:ResultVar} (hM:Mod C G ρ S w a) (h:OO X S v=some s):∃ u,(Qp a.tmps v).run X.P w= .ok u w/\bh G ρ s u:=by
 cases v with
 | tmp t=>
  simp only[OO,Option.some.injEq] at h
  subst h
  exact⟨_,rfl,hM.tmps.ev (.tmp t)⟩
 | cell t T=>
  simp only[OO] at h
  split at h
  ·rename_i b off hx
   split at h
   ·rename_i l hl
    obtain⟨s',hs,hld⟩:=yj h
    cases hs
    have h1:=hM.tmps.ev (.tmp t)
    simp only[St.ev] at h1
    rw[hx] at h1
    have h2:a.tmps.getD t undef= .pointer (some ⟨ρ.bx b,off,none⟩):=h1
    obtain⟨_,vs,T',hw,hv⟩:=hM.boxes b l hl
    obtain⟨u,hr,hsv⟩:=hld G ρ w (ρ.bx b) 0 vs hv (fun j v hj=>by
     have hadd:(⟨ρ.bx b,0,none⟩:Addr).add j=⟨ρ.bx b,j,none⟩:=by unfold Addr.add;split<;>simp_all
     rw[hadd,cell_of_row w _ j _ T' (0,0) hw];simpa using hj)
    refine⟨u, ?_,hsv⟩
    simp only[abv] at hr
    simp only[Qp,h2,asAddr,Sem.run_bind,Sem.run_pure,Result.andThen_ok,hr]
   ·cases h
  ·cases h
theorem Li {S:St} {a:Act} (hM:Mod C G ρ S w a):∀ {rs:List ResultVar} {l:List SV},CJ X S rs=some l->∃ us,(rs.mapM (Qp a.tmps)).run X.P w= .ok us w/\aG (bh G ρ) l us
 | [],l,h=>by
  simp only[CJ,Option.some.injEq] at h
  subst h
  exact⟨[],rfl,rfl⟩
 | v::r,l,h=>by
  simp only[CJ] at h
  split at h
  ·rename_i s hs
   split at h
   ·rename_i l' hl'
    cases h
    obtain⟨u,h1,h2⟩:=Vt hM hs
    obtain⟨us,h3,h4⟩:=Li hM hl'
    refine⟨u::us, ?_,u,us,rfl,h2,h4⟩
    simp only[List.mapM_cons,Sem.run_bind,h1,Result.andThen_ok,h3,Sem.run_pure]
   ·cases h
  ·cases h
theorem RP {fn:Func} {tmps:Array Value} {P:Program} {us:List Value} (h:(fn.results.toList.mapM (Qp tmps)).run P w= .ok us w):(results fn tmps).run P w= .ok (qL us) w:=by
 have e:results fn tmps=(do
  let vs <- fn.results.mapM (Qp tmps)
  pure (if h:vs.size=1 then vs[0] else .tuple vs)):=by
  unfold results
  congr 2
 rw[e,Array.mapM_eq_mapM_toList]
 simp only[Sem.run_bind,Sem.run_map,h,Result.andThen_ok,Sem.run_pure]
 match us with
 | []=>rfl
 | [v]=>rfl
 | v::u::r=>simp[qL]
theorem Qf (S:St) (ps:List PM) (bx:Option (dY ps)) (s:SV) (q:List SV):wT S ps bx [] (s::q)=none:=rfl
theorem Qe (S:St) (ps:List PM) (bx:Option (dY ps)) (p:RM) (r:List RM) (s:SV) (q:List SV):wT S ps bx (p::r) (s::q)=match zR S p s with
 | some x=>match wT S ps bx r q with
  | some y=>some (x,y)
  | none=>none
 | none=>none:=rfl
theorem Ru (S:St) (ps:List PM) (bx:Option (dY ps)) (p:RM) (r:List RM):wT S ps bx (p::r) []=none:=rfl
theorem R6 {s:SV} {c:CV} {v:Value} (hc:pV s=some c) (hs:bh G ρ s v):aV G ρ c v:=by
 unfold pV at hc
 split at hc
 ·cases hc;exact hs
 ·cases hc
section
variable {V:St} {ow:List (aX×Nat)} (hM:Mem C G ρ V w)
include hM
theorem KZ {l:List OT} {k n:Nat} {cs:List CV} {x:kD l} {v:Value} (hcs:look V.boxes k=some cs) (h:jJ V l cs=some x) (hv:v= .pointer (some ⟨ρ.bx k,0,none⟩)) (ho:∀ q,q∈(.inl k,n)::ke (n+1) l cs->bI ow q.1=some q.2): uX G w (dN ρ ow) n l x v:=by
 obtain⟨h1,vs,T,h2,h3⟩:=hM.boxes k cs hcs
 refine⟨ρ.bx k,vs,T,hv, ?_,h2,yp hM (Gh.le_refl G) h h3 (fun q hq=>ho q (by simp[hq]))⟩
 simp only[dN,h1,abx]
 exact ho (.inl k,n) (by simp)
theorem TI {p:RM} {s:SV} {x:p.den} {v:Value} {c:Nat} {r:List RM} {q:List SV} (h:zR V p s=some x) (hv:bh G ρ s v) (ho:∀ z,z∈lS V c (p::r) (s::q)->bI ow z.1=some z.2):SS G w (dN ρ ow) c p x v:=by
 cases p with
 | val t=>exact kM hM.frozen (kW.nil _ _ _) h hv
 | row e t=>
  simp only[zR] at h
  split at h
  ·rename_i cv hc
   exact pK hM (Gh.le_refl G) h (R6 hc hv) (fun z hz=>ho z (by simp only[lS,hc,aav];exact .inl hz))
  ·cases h
 | map k e=>
  simp only[zR] at h
  split at h
  ·rename_i cv hc
   exact xC hM (Gh.le_refl G) h (R6 hc hv) (fun z hz=>ho z (by simp only[lS,hc,aav];exact .inl hz))
  ·cases h
 | box l=>
  simp only[zR] at h
  split at h
  ·rename_i k hk
   split at h
   ·rename_i cs hcs
    exact KZ hM hcs h (Nv hk hv) (fun z hz=>ho z (by simp only[lS,hk,hcs,aav];exact .inl hz))
   ·cases h
  ·cases h
theorem TH {ps:List PM} {bx:Option (dY ps)} {args:List Value} (hbx:∀ y,bx=some y->nt G w (dN ρ ow) 0 ps y args) (rs:List RM): ∀ {l:List SV} {y:cF ps rs} {us:List Value} (c:Nat),(∀ z,z∈lS V c rs l->bI ow z.1=some z.2)->wT V ps bx rs l=some y->aG (bh G ρ) l us->kr G w (dN ρ ow) ps args c rs y us:=by
 induction rs with
 | nil=>
  intro l y us c _ h hv
  cases l with
  | nil=>exact⟨hv,hbx y h⟩
  | cons s q=>rw[Qf] at h;cases h
 | cons p r ih=>
  intro l y us c ho h hv
  cases l with
  | nil=>rw[Ru] at h;cases h
  | cons s q=>
   obtain⟨v,us',e',hs,hq⟩:=hv
   subst e'
   rw[Qe] at h
   split at h
   ·rename_i x hx
    split at h
    ·rename_i z hz
     cases h
     refine⟨v,us',rfl,TI hM hx hs ho,ih (c+1) (fun t ht=>ho t ?_) hz hq⟩
     cases p<;>simp only[lS,aav]<;>first | exact .inr ht | exact ht
    ·cases h
   ·cases h
theorem oa:∀ {ps:List PM} {i:Nat} {y:dY ps} {vs:List Value},nJ V i ps=some y->(∀ z,z∈jZ V i ps->bI ow z.1=some z.2)->fI ρ i ps vs->nt G w (dN ρ ow) i ps y vs
 | [],i,y,vs,_,_,_=>trivial
 | .val _::r,i,y,vs,h,ho,hp=>oa (ps:=r) h ho hp
 | .row _ _::r,i,y,vs,h,ho,hp=>oa (ps:=r) h ho hp
 | .arR _::r,i,y,vs,h,ho,hp=>oa (ps:=r) h ho hp
 | .mrow e t::r,i,y,vs,h,ho,⟨⟨hp1,hp2⟩,hp⟩=>by
  simp only[nJ] at h
  split at h
  ·rename_i x z hx hz
   cases h
   have:=pK (ow:=ow) (n:=64*i) hM (Gh.le_refl G) hx (v:=ρ.rw (pid i 0)) ⟨rfl,hp2⟩ (fun q hq=>ho q (by
    simp only[mE,aaF] at hq
    subst hq;simp[jZ]))
   exact⟨⟨_,hp1,this.1,this.2⟩,oa (ps:=r) hz (fun q hq=>ho q (by simp[jZ,hq])) hp⟩
  ·cases h
 | .map kk vv::r,i,y,vs,h,ho,⟨⟨hp1,hp2⟩,hp⟩=>by
  simp only[nJ] at h
  split at h
  ·rename_i x z hx hz
   cases h
   obtain⟨b,h1,h2,h3⟩:=xC (ow:=ow) (n:=64*i) hM (Gh.le_refl G) hx (v:=ρ.ob (pid i 0)) ⟨rfl,hp2⟩ (fun q hq=>ho q (by
    simp only[mE,aaF] at hq
    subst hq;simp[jZ]))
   exact⟨⟨b,by rw[hp1,h1],h2,h3⟩,oa (ps:=r) hz (fun q hq=>ho q (by simp[jZ,hq])) hp⟩
  ·cases h
 | .box l::r,i,y,vs,h,ho,⟨hp1,hp⟩=>by
  simp only[nJ] at h
  split at h
  ·rename_i cs hcs
   split at h
   ·rename_i x z hx hz
    cases h
    refine⟨⟨_,hp1,KZ hM hcs hx rfl (fun q hq=>ho q ?_)⟩,oa (ps:=r) hz (fun q hq=>ho q ?_) hp⟩
    ·simp only[jZ,hcs,ZE,aaw,aav]
     rcases aaw.1 hq with hq | hq
     ·exact .inl hq
     ·exact .inr (.inl hq)
    ·simp only[jZ,hcs,ZE,aaw,aav]
     exact .inr (.inr hq)
   ·cases h
  ·cases h
 | .ar t::r,i,y,vs,h,ho,hp=>by
  simp only[nJ] at h
  split at h
  ·rename_i x z hx hz
   cases h
   obtain⟨f,hl,hf⟩:=qF hx
   have:=hf rfl
   subst this
   obtain⟨_,h1,h2,h3⟩:=hM.objs bA _ hl
   refine⟨⟨h1,h2,fun n z hz=> ?_⟩,oa (ps:=r) hz (fun q hq=>ho q (by simp[jZ,hq])) hp⟩
   obtain⟨b,vs,T,g1,g2,g3,g4,g5⟩:=h3 n z hz
   refine⟨b,vs,T,g1,nofun,fun _=> ?_,g4,g5⟩
   have:=g3 rfl
   simp only[dN,this,abx]
   exact ho (.ob bA,64*i) (by simp[jZ])
  ·cases h
end
end Go.Dn
namespace Go.Dn
variable {X:Cx}
section
variable {G G':Gh} {w:World} {ow:Nat->Option Nat} (hG:∀ b o,G b=some o->G' b=some o)
include hG
theorem bS.aW {t:Ty} {x:t.den} {v:Value} (hn:t.aW=true) (h:bS G t x v):bS G' t x v:=by
 cases t with
 | st t=>obtain⟨vs,e,hv⟩:=h;exact⟨vs,e,az.aW hG t x vs (by simpa [Ty.aW] using hn) hv⟩
 | _=>exact az.aW hG _ x _ hn h
theorem ni.aW {e:TypeId} {t:Ty} {l:List t.den} {v:Value} (hn:t.aW=true) (h:ni G w e t l v):ni G' w e t l v:=by
 obtain⟨xs,h1,h2⟩:=h
 exact⟨xs,h1,h2.mono fun x cs=>az.aW hG t x cs hn⟩
theorem rA.aW {k v:Ty} {l:List (k.den×v.den)} {b:Nat} (hk:k.aW=true) (hv:v.aW=true) (h:rA G w k v l b):rA G' w k v l b:=by
 obtain⟨es,clock,h1,h2,h3⟩:=h
 exact⟨es,clock,h1,h2.mono fun x y hxy=>⟨hxy.1.aW hG hk,hxy.2.aW hG hv⟩,h3⟩
def CD (l:List OT):Bool:=l.all fun | .val t=>t.aW | .row _ t=>t.aW | .map k v=>k.aW&&v.aW
theorem xp.aW:∀ {l:List OT} {n:Nat} {x:kD l} {vs:List Value},CD l=true->xp G w ow n l x vs->xp G' w ow n l x vs
 | [],_,_,_,_,h=>h
 | .val t::r,n,x,vs,hn,⟨a,b,e,h1,h2⟩=>by
  simp only[CD,Zx,YX] at hn
  exact⟨a,b,e,az.aW hG t x.1 a hn.1 h1,xp.aW hn.2 h2⟩
 | .row _ t::r,n,x,vs,hn,⟨a,b,e,⟨v,e2,h1,h3⟩,h2⟩=>by
  simp only[CD,Zx,YX] at hn
  exact⟨a,b,e,⟨v,e2,h1.aW hG hn.1,h3⟩,xp.aW hn.2 h2⟩
 | .map k v::r,n,x,vs,hn,⟨a,b,e,⟨bb,e2,h1,h3⟩,h2⟩=>by
  simp only[CD,Zx,YX] at hn
  exact⟨a,b,e,⟨bb,e2,h1,h3.aW hG hn.1.1 hn.1.2⟩,xp.aW hn.2 h2⟩
theorem uX.aW {l:List OT} {n:Nat} {x:kD l} {v:Value} (hn:CD l=true) (h:uX G w ow n l x v):uX G' w ow n l x v:=by
 obtain⟨b,vs,T,h1,h2,h3,h4⟩:=h
 exact⟨b,vs,T,h1,h2,h3,h4.aW hG hn⟩
theorem fV.aW:∀ {ps:List PM} {i:Nat} {x:dS ps} {vs:List Value},dK ps=true->fV G w ow i ps x vs->fV G' w ow i ps x vs
 | [],_,_,_,_,h=>h
 | .val t::r,i,x,vs,hn,⟨v,us,h1,h2,h3,h4⟩=>by
  simp only[dK,YX] at hn
  exact⟨v,us,h1,h2,bS.aW hG hn.1 h3,fV.aW hn.2 h4⟩
 | .row _ t::r,i,x,vs,hn,⟨v,us,h1,h2,⟨h3,h3'⟩,h4⟩=>by
  simp only[dK,YX] at hn
  exact⟨v,us,h1,h2,⟨h3.aW hG hn.1,h3'⟩,fV.aW hn.2 h4⟩
 | .mrow _ t::r,i,x,vs,hn,⟨v,us,h1,h2,⟨h3,h3'⟩,h4⟩=>by
  simp only[dK,YX] at hn
  exact⟨v,us,h1,h2,⟨h3.aW hG hn.1,h3'⟩,fV.aW hn.2 h4⟩
 | .map _ _::r,i,x,vs,hn,⟨v,us,h1,h2,⟨b,h3,h3',h5⟩,h4⟩=>by
  simp only[dK,YX] at hn
  exact⟨v,us,h1,h2,⟨b,h3,h3',h5.aW hG hn.1.1 hn.1.2⟩,fV.aW hn.2 h4⟩
 | .box l::r,i,x,vs,hn,⟨v,us,h1,h2,h3,h4⟩=>by
  simp only[dK,YX] at hn
  exact⟨v,us,h1,h2,uX.aW hG hn.1 h3,fV.aW hn.2 h4⟩
 | .ar _::r,i,x,vs,hn,_=>by simp[dK] at hn
 | .arR _::r,i,x,vs,hn,_=>by simp[dK] at hn
theorem nt.aW:∀ {ps:List PM} {i:Nat} {x:dY ps} {vs:List Value},dK ps=true->nt G w ow i ps x vs->nt G' w ow i ps x vs
 | [],_,_,_,_,h=>h
 | .val t::r,i,x,vs,hn,h=>by
  simp only[dK,YX] at hn
  exact nt.aW (ps:=r) hn.2 h
 | .row _ t::r,i,x,vs,hn,h=>by
  simp only[dK,YX] at hn
  exact nt.aW (ps:=r) hn.2 h
 | .mrow _ t::r,i,x,vs,hn,⟨⟨v,h1,h2,h3⟩,h4⟩=>by
  simp only[dK,YX] at hn
  exact⟨⟨v,h1,h2.aW hG hn.1,h3⟩,nt.aW hn.2 h4⟩
 | .map _ _::r,i,x,vs,hn,⟨⟨b,h1,h2,h3⟩,h4⟩=>by
  simp only[dK,YX] at hn
  exact⟨⟨b,h1,h2,h3.aW hG hn.1.1 hn.1.2⟩,nt.aW hn.2 h4⟩
 | .box l::r,i,x,vs,hn,⟨⟨v,h1,h2⟩,h4⟩=>by
  simp only[dK,YX] at hn
  exact⟨⟨v,h1,uX.aW hG hn.1 h2⟩,nt.aW hn.2 h4⟩
 | .ar _::r,i,x,vs,hn,_=>by simp[dK] at hn
 | .arR _::r,i,x,vs,hn,_=>by simp[dK] at hn
theorem kr.aW {ps:List PM} {args:List Value} (hp:dK ps=true):∀ {rs:List RM} {c:Nat} {y:cF ps rs} {vs:List Value},pL rs=true->kr G w ow ps args c rs y vs->kr G' w ow ps args c rs y vs
 | [],_,_,_,_,h=>⟨h.1,h.2.aW hG hp⟩
 | .val t::r,c,y,vs,hn,⟨v,us,h1,h2,h3⟩=>by
  simp only[pL,YX] at hn
  exact⟨v,us,h1,bS.aW hG hn.1 h2,kr.aW hp hn.2 h3⟩
 | .row _ t::r,c,y,vs,hn,⟨v,us,h1,⟨h2,h2'⟩,h3⟩=>by
  simp only[pL,YX] at hn
  exact⟨v,us,h1,⟨h2.aW hG hn.1,h2'⟩,kr.aW hp hn.2 h3⟩
 | .map _ _::r,c,y,vs,hn,⟨v,us,h1,⟨b,h2,h2',h4⟩,h3⟩=>by
  simp only[pL,YX] at hn
  exact⟨v,us,h1,⟨b,h2,h2',h4.aW hG hn.1.1 hn.1.2⟩,kr.aW hp hn.2 h3⟩
 | .box l::r,c,y,vs,hn,⟨v,us,h1,h2,h3⟩=>by
  simp only[pL,YX] at hn
  exact⟨v,us,h1,uX.aW hG hn.1 h2,kr.aW hp hn.2 h3⟩
end
theorem jA:∀ (ps:List PM) (i:Nat) (x:dS ps),(jK i ps x).length=vC ps
 | [],_,_=>rfl
 | .val _::r,i,x=>by simp[jK,vC,PM.arg,jA r];omega
 | .row _ _::r,i,x=>by simp[jK,vC,PM.arg,jA r];omega
 | .mrow _ _::r,i,x=>by simp[jK,vC,PM.arg,jA r];omega
 | .map _ _::r,i,x=>by simp[jK,vC,PM.arg,jA r];omega
 | .box _::r,i,x=>by simp[jK,vC,PM.arg,jA r];omega
 | .ar _::r,i,x=>by simp[jK,vC,PM.arg,jA r]
 | .arR _::r,i,x=>by simp[jK,vC,PM.arg,jA r]
theorem oF:∀ {ps:List PM} {i:Nat} {x:dS ps} {t:Ty} {l:List t.den},iY ps=false->look (gA i ps x) bA≠some (.ar false t l)
 | [],i,x,t,l,_=>by simp[gA,look]
 | .val _::r,i,x,t,l,h=>oF (ps:=r) h
 | .row _ _::r,i,x,t,l,h=>oF (ps:=r) h
 | .mrow _ _::r,i,x,t,l,h=>oF (ps:=r) h
 | .map _ _::r,i,x,t,l,h=>by
  simp only[gA,an]
  split
  ·simp
  ·exact oF (ps:=r) h
 | .box _::r,i,x,t,l,h=>by
  simp only[gA,cS]
  intro e
  rcases or_some e with e | ⟨_,e⟩
  ·obtain⟨_,_,_,e'⟩:=rS e;cases e'
  ·exact oF (ps:=r) h e
 | .ar _::r,i,x,t,l,h=>by simp[iY] at h
 | .arR _::r,i,x,t,l,h=>by
  simp only[gA,an]
  split
  ·intro e;cases e
  ·exact oF (ps:=r) h
theorem TB {ps:List PM} (h:dK ps=true):iY ps=false:=by
 induction ps with
 | nil=>rfl
 | cons p r ih=>cases p<;>simp only[dK,YX] at h<;>first | exact ih h.2 | cases h
theorem PD (hX:cA X) (hmix:X.P.follows .mixedOrders=true) {f:FuncId} {fn:Func} (sp:ax) (anns:List (Nat×Ann)) (ar:Option Ty) (hf:X.P.funcs[f]? =some fn) {G:Gh} {w:World} {ow:Nat->Option Nat} {args:List Value} {x:dS sp.ps} {y:cF sp.ps sp.rs} (hT:bF X.P G) (hG:Agr G w) (how:∀ b i,ow b=some i->G b=none/\b<w.heap.size) (hargs:fV G w ow 0 sp.ps x args) (har:ar.isSome=true->G.hnd=(fun _=>none)/\iY sp.ps=false/\dK sp.ps=true) (hN:BE X anns ar fn sp x=some y): Calls X.P f args.toArray w fun e w'=>∃ G' ow' vs,e= .returned (qL vs)/\G.le G'/\Agr G' w'/\w.heap.size<=w'.heap.size/\w'.os=w.os/\w'.output=w.output/\ (∀ b,b<w.heap.size->ow b=none->w'.heap[b]? =w.heap[b]? /\G' b=G b)/\(∀ b i,ow' b=some i->G' b=none/\b<w'.heap.size/\(w.heap.size<=b\/ow b≠none))/\kr G' w' ow' sp.ps args 0 sp.rs y vs/\(iY sp.ps=false->ar=none->G'.hnd=G.hnd):=by
 unfold BE at hN
 split at hN
 ·cases hN
 ·rename_i hcond
  simp only[Zg,ab2,Zb] at hcond
  obtain⟨⟨hdO,hdC⟩,hnoh⟩:=hcond
  split at hN
  ·rename_i c hc
   obtain⟨vals,hvals,hpt,hst⟩:=l8 hargs
   let pv:Nat->Value:=fun k=>match cR vals (.inr k) with | some v=>v | none=>(cR vals (.ob k)).getD undef
   let ρ:Env:=⟨fun k=>match cR vals (.inl k) with | some v=>Hg v | none=>0,pv,fun b=>(ow b).bind (lR (dJ 0 sp.ps)),pv,fun k=>Bt w (pv k)⟩
   have hA:∀ o v,(o,v)∈vals->Asg ρ w o v:=fun o v hm=>by
    have hl:=Gi hvals hdO hm
    cases o with
    | inl k=>
     obtain⟨b,hb⟩:=hpt k v hm
     show v= .pointer (some ⟨match cR vals (.inl k) with | some v=>Hg v | none=>0,0,none⟩)
     rw[hl,hb];rfl
    | inr j=>show (match cR vals (.inr j) with | some v=>v | none=>_)=v;rw[hl]
    | ob j=>
     intro b hb
     subst hb
     have hnr:cR vals (.inr j)=none:=by
      cases h1:cR vals (.inr j) with
      | none=>rfl
      | some v'=>
       obtain⟨n1,m1⟩:=DM hvals (by rw[h1];simp)
       obtain⟨n2,m2⟩:=DM hvals (o:= .ob j) (by rw[hl];simp)
       rcases vU m1 with ⟨k,e⟩ | e | e
       ·cases e
       ·cases e
       ·rcases vU m2 with ⟨k,e'⟩ | e' | e'
        ·cases e'
        ·cases e'
         rcases e with e | e
         ·have:bA=nid pD 0 0+n1:=by simpa using e
          simp only[bA,pD,nid] at this;omega
         ·cases e
        ·have h1:j=nid pD 0 0+n1:=by rcases e with e | e<;>cases e;rfl
         have h2:j=nid pD 0 0+n2:=by rcases e' with e' | e'<;>cases e';rfl
         have:n1=n2:=by omega
         subst this
         have:=QJ hdC m1 m2
         cases this
     have hpv:pv j= .map (some b):=by
      show (match cR vals (.inr j) with | some v=>v | none=>(cR vals (.ob j)).getD undef)=_
      rw[hnr,hl];rfl
     refine⟨hpv,fun es clock hw i e' hi=> ?_⟩
     show (e'.born:Int)=Bt w (pv j) i
     rw[hpv]
     simp[Bt,hw,hi]
   have hO:∀ o n,(o,n)∈dJ 0 sp.ps->∀ b,ow b=some n->ρ.own b=some o:=fun o n hm b hb=>by
    show (ow b).bind (lR (dJ 0 sp.ps))=_
    rw[hb];exact wI hdC hm
   obtain⟨hsv,hP,hpins⟩:=hst ρ hA hO
   let C:Fr X.P:=⟨w.heap.size,ρ.bx,pv,fun b=>ow b≠none,w,G,iY sp.ps=false/\ar=none,hT⟩
   have hlen:args.length=vC sp.ps:=by rw[hsv.len,jA]
   have hM:Mod C G ρ (FY fn.ntmps ar sp.ps x) w { tmps:=args.toArray++Array.replicate (fn.ntmps - args.toArray.size) undef,defers:=[] }:=by
    refine { agr:=hG,le0:=Gh.le_refl G,old:=fun _ _ _=>rfl,frame:=fun _ _ _=>rfl,size:=abd _,os:=rfl,output:=rfl,pin:=fun _ _=>rfl,pinR:=fun _ _=>⟨rfl,rfl⟩,owned:= ?_,boxes:=hP.bx,rows:=hP.rw,objs:= ?_,hndI:= ?_,tmps:=⟨?_, ?_⟩,defers:=rfl }
    ·intro b o ho
     cases hb:ow b with
     | none=>
      have ho':(ow b).bind (lR (dJ 0 sp.ps))=some o:=ho
      rw[hb] at ho';cases ho'
     | some i=>exact⟨(how b i hb).1,(how b i hb).2,.inr (by show ow b≠none;rw[hb];simp)⟩
    ·intro j q hj
     cases ar with
     | none=>exact hP.ob j q hj
     | some t=>
      simp only[FY,an] at hj
      split at hj
      ·rename_i ej
       subst ej
       cases hj
       obtain⟨h1,_⟩:=har rfl
       refine⟨rfl,fun i b hb=>(by rw[h1] at hb;cases hb),fun i i' b hb=>(by rw[h1] at hb;cases hb),fun i z hz=>by simp at hz⟩
      ·exact hP.ob j q hj
    ·rintro⟨h1,h2⟩
     refine⟨rfl,fun t l=> ?_⟩
     subst h2
     exact oF h1
    ·simp[FY,jA,hlen]
    ·intro i s hi
     simp only[FY] at hi
     rw[ZW] at hi
     rw[YL,Array.getElem?_append]
     split at hi
     ·rename_i hlt
      obtain⟨v,hv,hsv'⟩:=hsv.get hi
      rw[jA] at hlt
      rw[abY (by simpa [hlen] using hlt)]
      simpa [hv] using hsv'
     ·rw[List.getElem?_replicate] at hi
      split at hi
      ·cases hi;exact trivial
      ·cases hi
   refine calls_of_wp hf hc (nD (C:=C) hX hmix anns c hN (fun e S' G' ρ' w' a' hk hM'=> ?_) hM)
   have key:ends X fn sp S'=some y->a'.defers=[]/\∃ v,(results fn a'.tmps).run X.P w'= .ok v w'/\∃ G' ow' vs,Ending.returned v= .returned (qL vs)/\G.le G'/\Agr G' w'/\w.heap.size<=w'.heap.size/\w'.os=w.os/\w'.output=w.output/\
    (∀ b,b<w.heap.size->ow b=none->w'.heap[b]? =w.heap[b]? /\G' b=G b)/\(∀ b i,ow' b=some i->G' b=none/\b<w'.heap.size/\(w.heap.size<=b\/ow b≠none))/\kr G' w' ow' sp.ps args 0 sp.rs y vs/\(iY sp.ps=false->ar=none->G'.hnd=G.hnd):=by
    intro hk
    unfold ends at hk
    have hI:∃ G1 ρ1,Mod C G1 ρ1 (Bf X fn sp.rs S') w' a':=by
     unfold Bf
     split
     ·exact Mod.iT _ hM'
     ·exact⟨_,_,hM'⟩
    generalize Bf X fn sp.rs S'=S' at hk hI
    obtain⟨G',ρ',hM'⟩:=hI
    refine⟨hM'.defers, ?_⟩
    unfold WC at hk
    split at hk
    ·rename_i l hl
     simp only at hk
     split at hk
     ·cases hk
     ·rename_i hd
      obtain⟨us,hr,hus⟩:=Li hM' hl
      generalize hjs:BM (HO sp.rs l)++(ON S' sp.rs l++OM S' 0 sp.ps)=js at hk hd
      obtain⟨G2,ρ2,hfz,hM2⟩:=hM'.freeze js
      generalize hV:aF S' js=V at hk hd hM2
      generalize how':lS V 0 sp.rs l++jZ V 0 sp.ps=owl at hk hd
      have hd':vk owl=false:=by simpa using hd
      have hus2:aG (bh G2 ρ2) l us:=hus.mono fun s v hs=>bh.congr hfz.le (ku.same hfz.bx hfz.rw hfz.ob hfz.st) hs
      have hpins2:fI ρ2 0 sp.ps args:=hpins.congr (fun k hk=>hM2.pin k hk) (fun k hk=>hM2.pinR k hk)
      refine⟨_,RP hr,G2,dN ρ2 owl,us,rfl,hM2.le0,hM2.agr,hM2.size,hM2.os,hM2.output,fun b hb ho=>⟨hM2.frame b hb (by show ¬ ow b≠none;simp[ho]),hM2.old b hb (by show ¬ ow b≠none;simp[ho])⟩,fun b i hb=> ?_, ?_,fun h1 h2=>(hM2.hndI ⟨h1,h2⟩).1⟩
      ·unfold dN at hb
       cases ho:ρ2.own b with
       | none=>rw[ho] at hb;cases hb
       | some o=>exact hM2.owned b o ho
      ·refine TH hM2.toMem (fun y' hy'=>oa hM2.toMem hy' (fun z hz=>vz hd' (by rw[<- how'];simp[hz])) hpins2) sp.rs 0 (fun z hz=>vz hd' (by rw[<- how'];simp[hz])) hk hus2
    ·cases hk
   cases e with
   | normal=>exact key hk
   | ret=>exact key hk
   | exit id=>cases hk
  ·cases hN
theorem FU (hX:cA X) (hmix:X.P.follows .mixedOrders=true) {f:FuncId} {fn:Func} (sp:ax) (anns:List (Nat×Ann)) (ar:Option Ty) (hf:X.P.funcs[f]? =some fn) (h:∀ x y,sp.m x=some y->BE X anns ar fn sp x=some y):cZ X.P f sp:=by
 intro G w ow args x y hG how hargs hm hT
 have hN:=h x y hm
 cases ar with
 | none=>
  refine (PD hX hmix sp anns none hf hT hG how hargs (fun e=>by cases e) hN).mono ?_
  rintro e w' ⟨G',ow',vs,h1,h2,h3,h4,h5,h6,h7,h8,h9,h10⟩
  exact⟨G',ow',vs,h1,h2,h3,h4,h5,h6,h7,h8,h9,fun h=>h10 h rfl⟩
 | some t=>
  have hN0:=hN
  unfold BE at hN0
  split at hN0
  ·cases hN0
  ·rename_i hcond
   simp only[Zg,ab2,Zb,Option.isSome_some,Zh,Za,YX] at hcond
   obtain⟨_,hpn,hrn⟩:=hcond
   let G0:Gh:=⟨G.blk,fun _=>none⟩
   have hargs0:fV G0 w ow 0 sp.ps x args:=fV.aW (G:=G) (G':=G0) (fun _ _ h=>h) hpn hargs
   refine (PD hX hmix sp anns (some t) hf (G:=G0) ⟨hT.pow,hT.maxLen⟩ hG how hargs0 (fun _=>⟨rfl,TB hpn,hpn⟩) hN).mono ?_
   rintro e w' ⟨G',ow',vs,h1,h2,h3,h4,h5,h6,h7,h8,h9,h10⟩
   refine⟨⟨G'.blk,G.hnd⟩,ow',vs,h1,⟨h2.blk,fun _ _ h=>h⟩,h3,h4,h5,h6,h7,h8,kr.aW (G:=G') (G':=⟨G'.blk,G.hnd⟩) (fun _ _ h=>h) hpn hrn h9,fun _=>rfl⟩
end Go.Dn
namespace Go.Dn
def w64 (n:Int):Int:=IntKind.wrap .i64 n
def tI:Ty:= .int .i64
def bU (n:Int):Int:=IntKind.wrap .u64 n
def mY (n:Int):Int:=IntKind.wrap .u32 n
def wu8 (n:Int):Int:=IntKind.wrap .u8 n
def Ty.fu:(t:Ty)->t.den->Nat->Nat
 | .int _,n,a=>Int.natAbs n+a
 | .bool,_,a=>a
 | .str,s,a=>List.length s+a
 | .unit,_,a=>a
 | .pair s t,x,a=>s.fu x.1 (t.fu x.2 a)
 | .st t,x,a=>t.fu x a
 | .slice _,l,a=>List.length l+a
 | .ptr t,x,a=>t.fu x a
 | .clo _ _,_,a=>a
 | .hnd,_,a=>a
def aY:(cs:List CK)->cY cs->Nat
 | [],_=>2
 | .val t::r,x=>t.fu x.1 (aY r x.2)
 | .own _ _::r,x=>x.1.length+aY r x.2
 | .map _ _::r,x=>x.1.length+aY r x.2
 | .ref _ _::r,x=>aY r x
 | .fn _ _::r,x=>aY r x
 | .ar _::r,x=>x.1.length+aY r x.2
 | .arF _::r,x=>aY r x.2
 | .rowR _::r,x=>aY r x
 | .rpR _ _::r,x=>aY r x.2
 | .mapR _::r,x=>aY r x
 | .rowC _ _ _::r,x=>x.1.length+aY r x.2
 | .mapC _ _ _::r,x=>x.1.length+aY r x.2
theorem n6 {X β:Type} (n:Nat) (x:X) (f:X->(X->Option β)->Option β):iter (n+1) x f=f x fun y=>iter n y f:=rfl
end Go.Dn
namespace Go.Dn
def GF {α β:Type} (F:(α->Option β)->α->Option β):Nat->α->Option β
 | 0,_=>none
 | n+1,x=>F (GF F n) x
theorem KL {P:Program} {specs:List (Nat×ax)} (hX:cA ⟨P,specs,[]⟩) (hmix:P.follows .mixedOrders=true) {f:FuncId} {fn:Func} {ps:List PM} {rs:List RM} (F:(dS ps->Option (cF ps rs))->dS ps->Option (cF ps rs)) (anns:List (Nat×Ann)) (ar:Option Ty) (hf:P.funcs[f]? =some fn) (hb:eY P f) (h:∀ self x,BE ⟨P,(f,⟨ps,rs,self⟩)::specs,[]⟩ anns ar fn ⟨ps,rs,F self⟩ x=F self x):∀ n,cZ P f ⟨ps,rs,GF F n⟩
 | 0=>fun _ _ _ _ _ _ _ _ _ hm _=>by cases hm
 | n+1=>by
  have ih:=KL hX hmix F anns ar hf hb h n
  have hX':cA ⟨P,(f,⟨ps,rs,GF F n⟩)::specs,[]⟩:=by
   refine⟨fun g sp hg=> ?_,nofun⟩
   rcases aaw.1 hg with e | e
   ·cases e;exact⟨ih,hb⟩
   ·exact hX.fn g sp e
  exact FU (X:=⟨P,(f,⟨ps,rs,GF F n⟩)::specs,[]⟩) hX' hmix ⟨ps,rs,GF F (n+1)⟩ anns ar hf (fun x y hm=>(h (GF F n) x).trans hm)
theorem Rh {P:Program} {f:FuncId} {ps:List PM} {rs:List RM} {m:Nat->dS ps->Option (cF ps rs)} (h:∀ n,cZ P f ⟨ps,rs,m n⟩) (fuel:dS ps->Nat):cZ P f ⟨ps,rs,fun x=>m (fuel x) x⟩:=
 fun G w ow args x y hG how ha hm hT=>(h (fuel x) G w ow args x y hG how ha hm hT).mono fun _ _ ⟨G',ow',vs,hg⟩=>⟨G',ow',vs,{ hg with }⟩
theorem Rj {P:Program} {f:FuncId} {m:dS [.val .str,.val .str]->Option (cF [.val .str,.val .str] [.val .str])} (h:∀ (s c r:List UInt8) (w:World),m (s,c,())=some (r,())->Calls P f #[.string (bs s),.string (bs c)] w fun e w'=>e= .returned (.string (bs r))/\RowKit.Below w.heap.size w w'):cZ P f ⟨[.val .str,.val .str],[.val .str],m⟩:=by
 intro G w ow args x y hG how ha hm _
 obtain⟨s,c,u⟩:=x
 obtain⟨r,u'⟩:=y
 obtain⟨v,us,h1,_,hv,v',us',h2,_,hv',h3⟩:=ha
 have e1:=h1 rfl
 have e2:=h2 rfl
 have e3:us'=[]:=h3
 have e4:v= .string (bs s):=by simpa [xo,bS,az] using hv
 have e5:v'= .string (bs c):=by simpa [xo,bS,az] using hv'
 subst e1;subst e2;subst e3;subst e4;subst e5
 refine (h s c r w hm).mono ?_
 rintro e w' ⟨he,hb⟩
 refine⟨G,fun _=>none,[.string (bs r)], ?_⟩
 exact {
  ret:=he
  le:=Gh.le_refl G
  agr:=fun b o hbo=>by
   have hw:=hG b o hbo
   have hlt:b<w.heap.size:=by
    rcases abi b w.heap.size with h | h
    ·exact h
    ·rw[YN h] at hw;cases hw
   rw[hb.block b hlt];exact hw
  size:=hb.size
  os:=hb.os
  output:=hb.output
  old:=fun b hlt _=>⟨hb.block b hlt,rfl⟩
  own:=fun b i hbi=>by cases hbi
  out:=⟨_,_,rfl,rfl,rfl,trivial⟩
  hnd:=fun _=>rfl }
end Go.Dn
namespace Go.Dn
theorem cA.nil (P:Program):cA ⟨P,[],[]⟩:=⟨nofun,nofun⟩
theorem cA.cons {P:Program} {f:FuncId} {sp:ax} {l:List (Nat×ax)} {ks:List (Nat×EU)} (h:cZ P f sp) (hb:eY P f) (r:cA ⟨P,l,ks⟩):cA ⟨P,(f,sp)::l,ks⟩:=by
 refine⟨fun g sp' hg=> ?_,r.key⟩
 rcases aaw.1 hg with e | e
 ·cases e;exact⟨h,hb⟩
 ·exact r.fn g sp' e
theorem kX {P:Program} {f:FuncId} {fn:Func} (h:P.funcs[f]? =some fn) (hb:fn.body.isSome=true) (hn:fn.name≠ "runtime.NumGoroutine"):eY P f:=⟨fn,h,hb,hn⟩
end Go.Dn
namespace Go.Dn
open Go.Proofs Go.Shelf
section
variable {P:Program} {G:Gh} {w w':World} {ow:Nat->Option Nat} {e:TypeId}
end
end Go.Dn
namespace Go.Dn
end Go.Dn
namespace Go.Dn
end Go.Dn
namespace Go.Dn
open Go.ChangeShapes Go.WideShapes Go.ChangeAt Go.RowKit
def Wf:(t:Ty)->t.den->Prop
 | .int k,n=>k.min<=(show Int from n)/\(show Int from n)<=k.max
 | .bool,_=>True
 | .str,s=>List.length s<=maxLen
 | .unit,_=>True
 | .pair a b,x=>Wf a x.1/\Wf b x.2
 | .st t,x=>Wf t x
 | .slice t,l=>List.length l<=maxLen/\∀ x,x∈(show List t.den from l)->Wf t x
 | .ptr _,_=>True
 | .clo _ _,_=>True
 | .hnd,_=>True
def Fits (P:Program):Nat->TypeId->Ty->Bool
 | 0,_,_=>false
 | d+1,T,t=>match P.underlying T,t with
  | some (.int k),.int k'=>decide (k=k')
  | some .bool,.bool=>true
  | some .string,.str=>true
  | some (.slice e),.slice t=>Nat.ble 1 t.size&&(Nat.beq (P.cellsOf e) t.size&&Fits P d e t)
  | some (.struct fs),.st t=>Nat.beq (P.cellsOf T) t.size&&fitsF (Fits P d) P fs.toList 0 t
  | _,_=>false
where
 fitsF (g:TypeId->Ty->Bool) (P:Program):List Field->Nat->Ty->Bool
 | [],_,_=>false
 | [f],off,t=>Nat.beq f.offset off&&(Nat.beq (P.cellsOf f.type) t.size&&g f.type t)
 | f::r,off,.pair a b=>Nat.beq f.offset off&&(Nat.beq (P.cellsOf f.type) a.size&&(g f.type a&&fitsF g P r (off+a.size) b))
 | _,_,_=>false
def Gw (w:World):Gh:=⟨fun b=>w.heap[b]?,fun _=>none⟩
theorem XD (w:World):Agr (Gw w) w:=fun _ _ h=>h
theorem Ir {w:World} {base:Nat} {a:Addr} {n:Nat} {cs:List Value} (hn:0<n) (h:w.cells? base a n=some cs): ∃ c T fz,a.spot=none/\w.heap[a.block]? =some (.cells c T fz)/\a.off+n<=c.size/\cs=(c.toList.drop a.off).take n:=by
 obtain⟨_,hl,hc⟩:=World.cells?_some h
 have h0:=hc 0 hn
 have hlt:0<cs.length:=by omega
 rw[Z7 hlt,show a.add 0=a from rfl] at h0
 unfold World.cell? at h0
 split at h0
 ·rename_i c T fz hb
  split at h0
  ·cases h0
  ·rename_i hs
   have hspot:a.spot=none:=by simpa using hs
   have hall:∀ i,i<n->c[a.off+i]? =cs[i]? :=by
    intro i hi
    have:=hc i hi
    rw[<- this]
    unfold World.cell? Addr.add
    by_cases h:i=0
    ·subst h;simp[hb,hspot]
    ·simp[h,hb]
   refine⟨c,T,fz,hspot,hb, ?_, ?_⟩
   ·have h1:=hall (n - 1) (by omega)
    rw[Z7 (show n - 1<cs.length by omega)] at h1
    have:=(YO.1 h1).1
    omega
   ·apply ZQ
    intro i
    rw[aaf,Z6]
    by_cases hi:i<n
    ·rw[abY hi, <- hall i hi];simp
    ·rw[abX hi,Z8 (by omega)]
 ·cases h0
section
variable {H:Type} {enc:TypeId×Value->H} {P:Program} {w:World} {base:Nat} {spare:Nat->Bool} {held:Bool}
theorem SI {α:Type} {R:α->List Value->Prop} {sz:Nat} {c:List Value} {y:Nat->α} (off:Nat):∀ n,off+n*sz<=c.length->(∀ i,i<n->R (y i) ((c.drop (off+i*sz)).take sz))->bX R ((List.range n).map y) ((c.drop off).take (n*sz))
 | 0,_,_=>by simp[bX]
 | n+1,hle,h=>by
  rw[List.range_succ,List.map_append,List.map_singleton]
  have e:(c.drop off).take ((n+1)*sz)=(c.drop off).take (n*sz)++(c.drop (off+n*sz)).take sz:=by
   rw[aaV,Nat.one_mul,List.take_add,ZI]
  rw[e]
  refine bX.append (SI off n (by rw[aaV] at hle;omega) fun i hi=>h i (by omega)) ?_
  exact⟨_,[],by simp,h n (by omega),rfl⟩
theorem Sv:∀ (d:Nat) (T:TypeId) (t:Ty) (fuel:Nat) (cs:List Value) (x:DataW H×List MemPlace),Fits P d T t=true->DataW.trod enc P w base spare held fuel T cs=some x-> ∃ y:t.den,az (Gw w) t y cs/\Wf t y
 | 0,_,_,_,_,_,hf,_=>by cases hf
 | d+1,T,t,fuel,cs,x,hf,h=>by
  have ih:=fun T t fuel cs x=>Sv d T t fuel cs x
  unfold Fits at hf
  split at hf
  ·rename_i k k' hu
   obtain rfl:k=k':=ab3 hf
   obtain⟨n,rfl,_,hw⟩:=DataW.trod_int hu h
   refine⟨n,rfl, ?_⟩
   simp only[Lit.wf,YX,abP] at hw
   exact hw
  ·rename_i hu
   obtain⟨b,rfl,_⟩:=DataW.trod_bool hu h
   exact⟨b,rfl,trivial⟩
  ·rename_i hu
   obtain⟨s,rfl,_,hw⟩:=DataW.trod_string hu h
   refine⟨s.data.toList, ?_,hw⟩
   simp[az,bs]
  ·rename_i e t hu
   simp only[YX] at hf
   have hsz:0<t.size:=aba hf.1
   have hce:P.cellsOf e=t.size:=aaZ hf.2.1
   rcases DataW.trod_slice hu h with ⟨rfl,_⟩ | ⟨a,len,cap,elems,rest,n,_,rfl,_,_,hl,hm,hlen,hel,_⟩
   ·exact⟨[],⟨_,rfl,none,0,rfl,abd _,abw _,.inl rfl⟩,⟨abw _,fun x hx=>by cases hx⟩⟩
   ·have hone:∀ i,i<len->∃ y:t.den,(∃ cs',w.cells? base (a.add (i*t.size)) t.size=some cs'/\az (Gw w) t y cs')/\Wf t y:=by
     intro i hi
     have h1:=hel i hi
     rw[Z7 (by omega),hce] at h1
     obtain⟨cs',h2,h3⟩:=Option.bind_eq_some_iff.1 h1
     obtain⟨y,h4,h5⟩:=ih e t n cs' _ hf.2.2 h3
     exact⟨y,⟨cs',h2,h4⟩,h5⟩
    by_cases h0:len=0
    ·subst h0
     exact⟨[],⟨_,rfl,some a,cap,rfl,abw _,hm,.inl rfl⟩,⟨abw _,fun x hx=>by cases hx⟩⟩
    ·obtain⟨y0,_,_⟩:=hone 0 (by omega)
     have:∃ y:Nat->t.den,∀ i,i<len->(∃ cs',w.cells? base (a.add (i*t.size)) t.size=some cs'/\az (Gw w) t (y i) cs')/\Wf t (y i):=by
      classical
      refine⟨fun i=>if hi:i<len then Classical.choose (hone i hi) else y0,fun i hi=> ?_⟩
      simp only[dif_pos hi]
      exact Classical.choose_spec (hone i hi)
     obtain⟨y,hy⟩:=this
     obtain⟨⟨cs0,hc0,_⟩,_⟩:=hy 0 (by omega)
     rw[Nat.zero_mul,show a.add 0=a from rfl] at hc0
     obtain⟨c,T',fz,hspot,hb,_,_⟩:=Ir hsz hc0
     have hat:∀ i,i<len->a.off+i*t.size+t.size<=c.size/\az (Gw w) t (y i) ((c.toList.drop (a.off+i*t.size)).take t.size):=by
      intro i hi
      obtain⟨⟨cs',h1,h2⟩,_⟩:=hy i hi
      obtain⟨c',T2,fz2,h3,h4,h5,h6⟩:=Ir hsz h1
      have hblk:(a.add (i*t.size)).block=a.block:=by unfold Addr.add;split<;>rfl
      have hoff:(a.add (i*t.size)).off=a.off+i*t.size:=by
       unfold Addr.add;split
       ·rename_i hz;rw[hz];rfl
       ·rfl
      rw[hblk,hb] at h4
      cases h4
      rw[hoff] at h5 h6
      exact⟨h5,h6 ▸ h2⟩
     have hend:a.off+len*t.size<=c.size:=by
      have:=(hat (len - 1) (by omega)).1
      have e:len*t.size=(len - 1)*t.size+t.size:=by
       conv=>lhs;rw[show len=len - 1+1 by omega]
       rw[aaV,Nat.one_mul]
      omega
     refine⟨(List.range len).map y,⟨_,rfl,some a,cap,by simp,by simpa using hl,hm,.inr ⟨a.block,a.off,c,T',fz, ?_,hb,by simpa using hend, ?_⟩⟩,⟨by simp only[aan,List.length_range];omega,fun x hx=> ?_⟩⟩
     ·congr 1;cases a;cases hspot;rfl
     ·have:=SI (R:=az (Gw w) t) (y:=y) (c:=c.toList) (sz:=t.size) a.off len (by simpa using hend) fun i hi=>(hat i hi).2
      simpa using this
     ·obtain⟨i,hi,rfl⟩:=aaB.1 hx
      exact (hy i (by simpa using hi)).2
  ·rename_i fs t hu
   simp only[YX] at hf
   obtain⟨xs,n,_,_,hlen,hxl,hx⟩:=DataW.trod_struct hu h
   have hct:P.cellsOf T=t.size:=aaZ hf.1
   have key:∀ (l:List Field) (k off:Nat) (t:Ty),fs.toList.drop k=l->Fits.fitsF (Fits P d) P l off t=true->off+t.size<=cs.length->
    ∃ y:t.den,az (Gw w) t y ((cs.drop off).take t.size)/\Wf t y:=by
    intro l
    induction l with
    | nil=>intro k off t _ h2;cases h2
    | cons f r ihl=>
     intro k off t hk h2 hle
     have hfk:fs[k]? =some f:=by
      have:=congrArg (·[0]?) hk
      simpa [Z6] using this
     have hxk:=hx k f hfk
     have hkl:k<xs.length:=by rw[hxl];exact (YO.1 hfk).1
     rw[Z7 hkl] at hxk
     have hdr:fs.toList.drop (k+1)=r:=by
      have:=congrArg List.tail hk
      simpa [List.tail_drop] using this
     cases r with
     | nil=>
      simp only[Fits.fitsF,YX] at h2
      obtain⟨h3,h4,h5⟩:=h2
      rw[aaZ h3,aaZ h4] at hxk
      exact ih f.type t n _ _ h5 hxk
     | cons f' r'=>
      obtain⟨a,b,rfl⟩:∃ a b,t= .pair a b:=by
       cases t with
       | pair a b=>exact⟨a,b,rfl⟩
       | _=>simp[Fits.fitsF] at h2
      simp only[Fits.fitsF,YX] at h2
      obtain⟨h3,h4,h5,h6⟩:=h2
      rw[aaZ h3,aaZ h4] at hxk
      obtain⟨y1,g1,g2⟩:=ih f.type a n _ _ h5 hxk
      simp only[Ty.size] at hle
      obtain⟨y2,g3,g4⟩:=ihl (k+1) (off+a.size) b hdr h6 (by omega)
      refine⟨(y1,y2),⟨_,_, ?_,g1,g3⟩,⟨g2,g4⟩⟩
      simp only[Ty.size]
      rw[List.take_add,ZI]
   obtain⟨y,h1,h2⟩:=key fs.toList 0 0 t rfl hf.2 (by omega)
   refine⟨y, ?_,h2⟩
   rw[ZN,aaQ (by omega)] at h1
   exact h1
  ·cases hf
theorem Wa {r:Reach} {b0:Nat} {d:Nat} {T:TypeId} {t:Ty} {v:Value} {dd:DataW H} {ps:List MemPlace} (hf:Fits P d T t=true) (hval:Value.okWide P w r b0 T v) (h:DataW.Trod enc P w base spare held T v dd ps): ∃ y:t.den,bS (Gw w) t y v/\Wf t y:=by
 obtain⟨fuel,h⟩:=h
 obtain⟨y,h1,h2⟩:=Sv d T t fuel _ _ hf h
 refine⟨y, ?_,h2⟩
 cases d with
 | zero=>cases hf
 | succ d=>
  unfold Fits at hf
  split at hf
  ·rename_i hu;obtain⟨n,rfl⟩:=okWide_int hu hval;exact h1
  ·rename_i hu;obtain⟨n,rfl⟩:=okWide_bool hu hval;exact h1
  ·rename_i hu;obtain⟨n,rfl⟩:=okWide_string hu hval;exact h1
  ·rename_i hu;obtain⟨a,len,cap,rfl⟩:=okWide_slice hu hval;exact h1
  ·rename_i hu;obtain⟨c,rfl,_⟩:=okWide_struct hu hval;exact⟨c.toList,by simp,h1⟩
  ·cases hf
end
def pms:List Ty->List PM
 | []=>[]
 | t::r=> .val t::pms r
def SU:(ts:List Ty)->dS (pms ts)->Prop
 | [],_=>True
 | t::r,x=>Wf t x.1/\SU r x.2
def Hr (P:Program):List TypeId->List Ty->Bool
 | [],[]=>true
 | T::r,t::q=>Fits P 9 T t&&Hr P r q
 | _,_=>false
theorem Nw {H:Type} {enc:TypeId×Value->H} {P:Program} {w:World} {base:Nat} {spare:Nat->Bool} {held:Bool} {r:Reach} {b0:Nat}:∀ {Ts:List TypeId} {ts:List Ty} {vs:List Value} {ds:List (DataW H)} {ps:List MemPlace} {i:Nat},Hr P Ts ts=true-> (∀ (j:Nat) t v,Ts[j]? =some t->vs[j]? =some v->Value.okWide P w r b0 t v)->DataW.TrodAll enc P w base spare held Ts vs ds ps-> ∃ x,fV (Gw w) w (fun _=>none) i (pms ts) x vs/\SU ts x
 | [],[],[],[],_,_,_,_,_=>⟨(),rfl,trivial⟩
 | T::Ts,t::ts,v::vs,d::ds,ps,i,hf,hv,⟨p,q,h1,h2,_⟩=>by
  simp only[Hr,YX] at hf
  obtain⟨y,h3,h4⟩:=Wa hf.1 (hv 0 T v rfl rfl) h1
  obtain⟨x,h5,h6⟩:=Nw (i:=i+1) hf.2 (fun j t v ht hv'=>hv (j+1) t v ht hv') h2
  exact⟨(y,x),⟨v,vs,fun _=>rfl,fun h=>absurd h (by simp[PM.arg]),h3,h5⟩,⟨h4,h6⟩⟩
theorem law_calls {P:Program} {f:FuncId} {fn:Func} {ts:List Ty} {m:dS (pms ts)->Option (cF (pms ts) [.val .bool])} (ok:cZ P f ⟨pms ts,[.val .bool],m⟩) (hm:∀ x,SU ts x->∃ y,m x=some (true,y)) (hfit:Hr P fn.params.toList ts=true) {tb:TypeId} (hres:fn.resultTypes= #[tb]) (htb:P.underlying tb=some .bool) (kids:Kids P (· <P.types.size)) (full:∀ t e,t<P.types.size->P.underlying t=some (.slice e)->0<P.cellsOf e) (hlt:∀ t∈fn.params.toList,t<P.types.size) {H:Type} {enc:TypeId×Value->H} {s:ChangeSpec} (hvars:s.vars=[]) {W:World} (hT:bF P (Gw W)) {base:Nat} {args:Array Value} {ds gs:List (DataW H)} {before:List MemPlace} (hspec:s.fn H (ds++[])={ results:=[.lit (.bool true)],args:=ds }) (hval:∀ (j:Nat) t v,fn.params[j]? =some t->args[j]? =some v->Value.okWide P W .any base t v) (hW:DataW.Whole enc P fn.params.toList s.vars false W args.toList ds gs before): Calls P f args W fun e W'=>∃ v,e= .returned v/\s.post enc P fn false true false false W args v W':=by
 have hW':=hW
 obtain⟨p,q,hA,hV,hpq,hfz,hnd⟩:=hW
 rw[hvars] at hV
 have hg:gs=[]/\q=[]:=by
  cases gs with
  | nil=>exact⟨rfl,hV⟩
  | cons g gs=>exact absurd hV (by simp[DataW.TrodVars])
 obtain⟨rfl,rfl⟩:=hg
 rw[ZD] at hpq
 subst hpq
 obtain⟨x,hx,hwf⟩:=Nw (i:=0) hfit (fun j t v ht hv=>hval j t v (by simpa using ht) (by simpa using hv)) hA
 obtain⟨y,hy⟩:=hm x hwf
 refine (ok (Gw W) W (fun _=>none) args.toList x (true,y) (XD W) (fun _ _ h=>by cases h) hx hy hT).mono ?_
 rintro e W' ⟨G',ow',vs,hgv⟩
 have hold:∀ b,b<W.heap.size->W'.heap[b]? =W.heap[b]? :=fun b hb=>(hgv.old b hb rfl).1
 have hplt:=hW'.lt
 obtain⟨v,us,rfl,hv,hus,_⟩:=hgv.out
 subst hus
 have hv':v= .bool true:=by simpa [SS,bS,az] using hv
 subst hv'
 refine⟨.bool true,hgv.ret,ds,[],before,[],before,[],hW', ?_, ?_, ?_, ?_,fun h=>by cases h⟩
 ·rw[hspec,hres]
  exact trodAll_mk1 (shut_bool htb true)
 ·rw[hspec]
  have hsame:∀ z,z∈before->W.sameAt W' z:=by
   intro z hz
   have:=hplt z hz
   cases z with
   | cell b off=>simp only[World.sameAt,World.cell?];rw[hold b this]
   | map b=>exact hold b this
  have hre:=DataW.TrodAll.respare (spare':=fun b=>decide (b<W.heap.size)) kids full hlt hA (fun z hz=>by simpa using hplt z hz)
  have hcar:∀ {Ts:List TypeId} {vs:List Value} {ds:List (DataW H)} {ps:List MemPlace},DataW.TrodAll enc P W 0 (fun b=>decide (b<W.heap.size)) true Ts vs ds ps->(∀ z,z∈ps->W.sameAt W' z)->DataW.TrodAll enc P W' 0 (fun b=>decide (b<W.heap.size)) true Ts vs ds ps:=by
   intro Ts
   induction Ts with
   | nil=>
    intro vs ds ps h _
    cases vs<;>cases ds<;>first | exact h | exact absurd h (by simp[DataW.TrodAll])
   | cons T Ts ih=>
    intro vs ds ps h hs
    cases vs with
    | nil=>cases ds<;>exact absurd h (by simp[DataW.TrodAll])
    | cons v vs=>cases ds with
    | nil=>exact absurd h (by simp[DataW.TrodAll])
    | cons d ds=>
    obtain⟨p,q,⟨n,h1⟩,h2,rfl⟩:=h
    exact⟨p,q,⟨n,DataW.trod_carry n _ _ _ h1 fun z hz=>hs z (List.mem_append_left _ hz)⟩,ih h2 (fun z hz=>hs z (List.mem_append_right _ hz)),rfl⟩
  exact hcar hre hsame
 ·rw[hspec,hvars];rfl
 ·refine⟨hgv.os,hgv.output,fun i hi=> ?_⟩
  rw[hold i hi]
  cases hh:W.heap[i]? with
  | none=>trivial
  | some o=>cases o<;>simp[World.keptBut]
end Go.Dn
namespace Go.Dn
theorem IV {H:Type} {enc:TypeId×Value->H} {P:Program} {w:World} {base:Nat} {spare:Nat->Bool} {held:Bool}:∀ {Ts:List TypeId} {vs:List Value} {ds:List (DataW H)} {ps:List MemPlace},DataW.TrodAll enc P w base spare held Ts vs ds ps->ds.length=Ts.length
 | [],[],[],_,_=>rfl
 | _::_,_::_,_::_,_,⟨_,_,_,h,_⟩=>by rw[aal,aal,IV h]
def WE:Nat->DataW Unit->List Value
 | d+1,.agg l=>l.flatMap (WE d)
 | _,.lit (.int k n)=>[.int k n]
 | _,.lit (.bool b)=>[.bool b]
 | _,_=>[]
def XK (P:Program) (l:List (String×DataW Unit)) (w:World):World:=
 l.foldl (fun w p=>match P.globalNamed p.1 with
  | some g=>{ w with heap:=w.heap.modify g fun
   | .cells _ t fr=> .cells (WE 9 p.2).toArray t fr
   | o=>o }
  | none=>w) w
end Go.Dn
namespace Go.Dn
theorem UD {P:Program} {f:FuncId} {t:Ty} {m:dS [.val .str,.val .str]->Option (cF [.val .str,.val .str] [.val t])} (h:∀ (s c:List UInt8) (r:t.den) (w:World),m (s,c,())=some (r,())->∃ v,(∀ G:Gh,bS G t r v)/\Calls P f #[.string (bs s),.string (bs c)] w fun e w'=>e= .returned v/\RowKit.Below w.heap.size w w'):cZ P f ⟨[.val .str,.val .str],[.val t],m⟩:=by
 intro G w ow args x y hG how ha hm _
 obtain⟨s,c,u⟩:=x
 obtain⟨r,u'⟩:=y
 obtain⟨v,us,h1,_,hv,v',us',h2,_,hv',h3⟩:=ha
 have e1:=h1 rfl
 have e2:=h2 rfl
 have e3:us'=[]:=h3
 have e4:v= .string (bs s):=by simpa [xo,bS,az] using hv
 have e5:v'= .string (bs c):=by simpa [xo,bS,az] using hv'
 subst e1;subst e2;subst e3;subst e4;subst e5
 obtain⟨z,hz,hc⟩:=h s c r w hm
 refine hc.mono ?_
 rintro e w' ⟨he,hb⟩
 refine⟨G,fun _=>none,[z], ?_⟩
 exact {
  ret:=he
  le:=Gh.le_refl G
  agr:=fun b o hbo=>by
   have hw:=hG b o hbo
   have hlt:b<w.heap.size:=by
    rcases abi b w.heap.size with h | h
    ·exact h
    ·rw[YN h] at hw;cases hw
   rw[hb.block b hlt];exact hw
  size:=hb.size
  os:=hb.os
  output:=hb.output
  old:=fun b hlt _=>⟨hb.block b hlt,rfl⟩
  own:=fun b i hbi=>by cases hbi
  out:=⟨_,_,rfl,hz G,rfl,trivial⟩
  hnd:=fun _=>rfl }
end Go.Dn
namespace Go.Dn
def Mx:(t:Ty)->t.den->Value
 | .int k,n=> .int k n
 | .bool,b=> .bool b
 | .str,s=> .string (bs s)
 | _,_=>undef
def isLit:Ty->Bool
 | .int _=>true
 | .bool=>true
 | .str=>true
 | _=>false
theorem Sp {G:Gh} {t:Ty} (ht:isLit t=true) {x:t.den} {v:Value} (h:bS G t x v):v=Mx t x:=by
 cases t<;>simp[isLit] at ht<;>simpa [bS,az,Mx] using h
theorem Ri {P:Program} {f:FuncId} {a a' t:Ty} {m:dS [.val a,.val a']->Option (cF [.val a,.val a'] [.val t])} (ha:isLit a=true) (ha':isLit a'=true) (h:∀ (s:a.den) (c:a'.den) (r:t.den) (w:World),m (s,c,())=some (r,())->∃ v,(∀ G:Gh,bS G t r v)/\Calls P f #[Mx a s,Mx a' c] w fun e w'=>e= .returned v/\RowKit.Below w.heap.size w w'):cZ P f ⟨[.val a,.val a'],[.val t],m⟩:=by
 intro G w ow args x y hG how hargs hm _
 obtain⟨s,c,u⟩:=x
 obtain⟨r,u'⟩:=y
 obtain⟨v,us,h1,_,hv,v',us',h2,_,hv',h3⟩:=hargs
 have e1:=h1 rfl
 have e2:=h2 rfl
 have e3:us'=[]:=h3
 have e4:v=Mx a s:=Sp ha hv
 have e5:v'=Mx a' c:=Sp ha' hv'
 subst e1;subst e2;subst e3;subst e4;subst e5
 obtain⟨z,hz,hc⟩:=h s c r w hm
 refine hc.mono ?_
 rintro e w' ⟨he,hb⟩
 refine⟨G,fun _=>none,[z], ?_⟩
 exact {
  ret:=he
  le:=Gh.le_refl G
  agr:=fun b o hbo=>by
   have hw:=hG b o hbo
   have hlt:b<w.heap.size:=by
    rcases abi b w.heap.size with h | h
    ·exact h
    ·rw[YN h] at hw;cases hw
   rw[hb.block b hlt];exact hw
  size:=hb.size
  os:=hb.os
  output:=hb.output
  old:=fun b hlt _=>⟨hb.block b hlt,rfl⟩
  own:=fun b i hbi=>by cases hbi
  out:=⟨_,_,rfl,hz G,rfl,trivial⟩
  hnd:=fun _=>rfl }
end Go.Dn
namespace Go.Dn
open Go.Lib Go.Proofs
theorem Xx {P:Program} {W:World} {rest:List (String×DataW Unit)} {g:Nat} {t e:TypeId} (hg:P.globalNamed "internal/strconv.uint64pow10" =some g) (hty:(P.globals[g]?).map (·.type)=some t) (ht:P.underlying t=some (.array 20 e)) (he:P.underlying e=some (.int .u64)) (hce:P.cellsOf e=1) (hct:P.cellsOf t=20) (h:laidMet P (("internal/strconv.uint64pow10",tabData .u64 GA)::rest) W): ∀ g,P.globalNamed "internal/strconv.uint64pow10" =some g->∃ T fz,Gw W g=some (.cells (GA.map fun z=>Value.int .u64 z).toArray T fz):=by
 intro g' hg'
 have:=tabIs_of_head hg hty ht he hce hct h
 unfold TabIs World.var? at this
 rw[hg',abx] at this
 show ∃ T fz,W.heap[g']? =_
 split at this
 ·rename_i cs T fz hh
  cases this
  exact⟨T,fz,hh⟩
 ·cases this
theorem Xw {P:Program} {W:World} {g:Nat} {t:TypeId} {zero:Array Value} (h:W.ShapedOpen P) (hg:P.globalNamed "internal/bytealg.MaxLen" =some g) (hlt:g<P.globals.size) (h0:((begin P (fun _ _=>0) default).world.heap[g]?).bind Obj.row? =some (zero,t)) (hz:zero.size=1) (hb:P.buildable t=true) (hc:P.cellTypes P.depth t=some [t]) (hu:P.underlying t=some (.int .i64)): ∀ g,P.globalNamed "internal/bytealg.MaxLen" =some g->∃ n T fz,Gw W g=some (.cells #[Value.int .i64 n] T fz):=by
 intro g' hg'
 obtain rfl:g=g':=Option.some.inj (hg.symm.trans hg')
 obtain⟨m,hm⟩:=cell_of_shapedOpen_int h hlt h0 hz hb hc hu
 obtain⟨cs,hh,hs,_⟩:=h.1 g zero t hlt h0
 have h1:cs.size=1:=by omega
 refine⟨m,t,(0,0), ?_⟩
 show W.heap[g]? =_
 rw[hh]
 have:cs= #[cs[0]]:=by
  apply Array.ext
  ·simpa using h1
  ·intro i h2 h3
   have:i=0:=by omega
   subst this
   rfl
 have hcell:W.cell? ⟨g,0,none⟩=some cs[0]:=by simp[World.cell?,hh,h1]
 rw[hm] at hcell
 rw[this, <- Option.some.inj hcell]
def Yo (P:Program) (u e:TypeId) (l:List (String×DataW Unit)) (w:World):World:=
 l.foldl (fun w p=>match P.globalNamed p.1,p.2 with
  | some g,.iface _ (.ptr (.agg [.lit (.string s)]))=>{ w with heap:=(w.heap.push (.cells #[.string ⟨s.toArray⟩] e (0,0))).modify g fun
   | .cells _ t fr=> .cells #[.iface u (.pointer (some ⟨w.heap.size,0,none⟩))] t fr
   | o=>o }
  | _,_=>w) w
def isIf:DataW Unit->Bool
 | .iface _ _=>true
 | _=>false
end Go.Dn
namespace Go.Dn
end Go.Dn
namespace Go.Dn
end Go.Dn
