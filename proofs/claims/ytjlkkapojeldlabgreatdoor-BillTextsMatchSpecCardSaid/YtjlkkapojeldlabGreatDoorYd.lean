/-
  The executor, its fifth part: whole functions are sound; a law whose plain model is always true holds. No condition.
-/
import Derived.Test.YtjlkkapojeldlabGreatDoorYe
import Derived.Shelf.Spec.SlicesInsertGrow
import Derived.ReadAgain
import Derived.ChangeSame
import Derived.ChangeArms
import Derived.ChangeOld
import Derived.OpenShut
import Derived.ProofKit
import Derived.WalkKit
import Derived.Deep.DeepHandedRow
import Derived.Lib.LaidTab
import Derived.Shelf.Vars
import Derived.Stop.LaidErr
set_option linter.all false
namespace Go.Dn
variable {X:Cx} {C:Fr X.P}
def Ex.EL:Ex->Exit
 | .normal=> .normal
 | .exit id=> .exit id
 | .ret=> .ret
theorem Qw {β:Type} {A:Ann} {c:Code} {len:Nat} {anns:List (Nat×Ann)} {K:Ex->St->Option β} {r:β} {Q:Exit->Act->World->Prop}
 (ih:∀ {S:St} {K:Ex->St->Option β} {r:β},den X anns c β S K=some r->∀ {Q:Exit->Act->World->Prop},
   (∀ e S' G ρ w a,K e S'=some r->Mod C G ρ S' w a->Q e.EL a w)->∀ {G ρ w a},Mod C G ρ S w a->c.wp X.P Q a w)
 (hQ:∀ e S' G ρ w a,K e S'=some r->Mod C G ρ S' w a->Q e.EL a w):∀ (n:Nat) (x:cW A.cks) (G:Gh) (ρ:Env) (w:World) (a:Act),
 iter n x (fun x again=>den X anns c β (head A len x) fun e S'=>match e with
  | .normal=>match carry A S' with
   | some y=>bif Nat.beq S'.tmps.length len then again y else none
   | none=>none
  | .exit j=>K (.exit j) S'
  | .ret=>K .ret S')=some r->Mod C G ρ (head A len x) w a->Code.rounds X.P c Q n a w
 | 0,x,G,ρ,w,a,h,hM=>by simp[iter] at h
 | n+1,x,G,ρ,w,a,h,hM=>by
  simp only[iter] at h
  refine ih h (fun e S' G' ρ' w' a' hk hM'=> ?_) hM
  cases e with
  | normal=>
   simp only at hk
   split at hk
   ·rename_i y hy
    cases hb:Nat.beq S'.tmps.length len with
    | false=>rw[hb] at hk;cases hk
    | true=>
     rw[hb] at hk
     simp only[afX] at hk
     obtain⟨G2,ρ2,h2⟩:=OW hM' hy
     rw[afm hb] at h2
     exact Qw ih hQ n y G2 ρ2 w' a' hk h2
   ·cases hk
  | exit id=>exact hQ (.exit id) S' G' ρ' w' a' hk hM'
  | ret=>exact hQ .ret S' G' ρ' w' a' hk hM'
theorem Nj {β γ:Type} {x:Option (β ⊕ γ)} {f:γ->Option β} {r:β} (h:aJ x f=some r):∃ q,x=some q/\(q= .inl r\/∃ v,q= .inr v/\f v=some r):=by
 unfold aJ at h
 split at h
 ·cases h
 ·cases h;exact⟨_,rfl,.inl rfl⟩
 ·rename_i v;exact⟨_,rfl,.inr ⟨v,rfl,h⟩⟩
theorem vF {β γ:Type} {x:Option β} {q:β ⊕ γ} (h:Dt x=some q):∃ r,x=some r/\q= .inl r:=by
 unfold Dt at h
 split at h
 ·cases h;exact⟨_,rfl,rfl⟩
 ·cases h
theorem YU {β:Type} {A:Ann} {n:Nat} {S:St} {q:β ⊕ cW A.cks} (h:meet A n S=some q):∃ v,carry A S=some v/\S.tmps.length=n/\q= .inr v:=by
 unfold meet at h
 split at h
 ·rename_i v hv
  cases hb:Nat.beq S.tmps.length n with
  | false=>rw[hb] at h;cases h
  | true=>rw[hb] at h;simp only[afX,Option.some.injEq] at h;exact⟨v,hv,afm hb,h.symm⟩
 ·cases h
theorem JM {β:Type} {A:Ann} {n:Nat} {K:Ex->St->Option β} {r:β} {Q:Exit->Act->World->Prop} (hQ:∀ e S' G ρ w a,K e S'=some r->Mod C G ρ S' w a->Q e.EL a w) {q:β ⊕ cW A.cks} (hq:q= .inl r\/∃ v,q= .inr v/\K .normal (head A n v)=some r) {S':St} {G:Gh} {ρ:Env} {w:World} {a:Act} (hM:Mod C G ρ S' w a) (h:meet A n S'=some q):Q .normal a w:=by
 obtain⟨v,h1,h2,h3⟩:=YU h
 rcases hq with hq | ⟨v',hq,hk⟩
 ·rw[h3] at hq;cases hq
 ·rw[h3] at hq
  cases hq
  obtain⟨G2,ρ2,hm⟩:=OW hM h1
  rw[h2] at hm
  exact hQ .normal _ G2 ρ2 w a hk hm
theorem Yb {β:Type} {a b:Option β} {r:β} (h:both a b=some r):a=some r/\b=some r:=by
 unfold both at h
 split at h
 ·rename_i e;exact⟨h,e ▸ h⟩
 ·cases h
theorem Ya {β:Type} (a:Option β):both a a=a:=by unfold both;simp
theorem mq (hX:cA X) (hmix:X.P.follows .mixedOrders=true) (anns:List (Nat×Ann)):∀ (c:Code) {β:Type} {S:St} {K:Ex->St->Option β} {r:β},den X anns c β S K=some r->∀ {Q:Exit->Act->World->Prop}, (∀ e S' G ρ w a,K e S'=some r->Mod C G ρ S' w a->Q e.EL a w)->∀ {G ρ w a},Mod C G ρ S w a->c.wp X.P Q a w:=by
 intro c
 induction c with
 | skip=>
  intro β S K r h Q hQ G ρ w a hM
  exact wp_skip (hQ .normal S G ρ w a h hM)
 | region id ops dr=>
  intro β S K r h Q hQ G ρ w a hM
  simp only[den] at h
  split at h
  ·rename_i A hA
   obtain⟨v,hv,h⟩:=bind_some h
   have:=abz hX hmix hv (Q:=Q) (fun S' G ρ w a hk hJ hM=>hQ .normal _ G ρ w a h (YC hJ hk hM)) hM id
   simpa using this
  ·cases dr with
   | true=>
    simp only[afX] at h
    have:=XD hX hmix h (Q:=Q) (fun S' G ρ w a hk hM=>hQ .normal S' G ρ w a hk hM) hM id
    simpa using this
   | false=>
    simp only[afW] at h
    refine wp_region_list ?_
    have:=rq hX ops.toList ops.toList h (Q:=Q) (fun S' G ρ w a hk hM=>hQ .normal S' G ρ w a hk hM) hM
    simpa using this
 | seq x y ihx ihy=>
  intro β S K r h Q hQ G ρ w a hM
  simp only[den] at h
  refine wp_seq (ihx h (fun e S' G' ρ' w' a' hk hM'=> ?_) hM)
  cases e with
  | normal=>exact ihy hk hQ hM'
  | exit id=>exact hQ (.exit id) S' G' ρ' w' a' hk hM'
  | ret=>exact hQ .ret S' G' ρ' w' a' hk hM'
 | cond b x y ihx ihy=>
  intro β S K r h Q hQ G ρ w a hM
  simp only[den] at h
  split at h
  ·rename_i t ht
   have hv:=hM.tmps.ev b
   rw[ht] at hv
   split at h
   ·rename_i A hA
    obtain⟨q,h1,hq⟩:=Nj h
    refine wp_cond_split (t:=t) hv (fun e=> ?_) (fun e=> ?_)
    ·subst e
     simp only[afX] at h1
     refine ihx h1 (fun e S' G' ρ' w' a' hk hM'=> ?_) hM
     cases e with
     | normal=>exact JM hQ hq hM' hk
     | exit j=>
      obtain⟨r',hr,hr2⟩:=vF hk
      rcases hq with hq | ⟨v,hq,_⟩
      ·rw[hr2] at hq;cases hq;exact hQ (.exit j) S' G' ρ' w' a' hr hM'
      ·rw[hr2] at hq;cases hq
     | ret=>
      obtain⟨r',hr,hr2⟩:=vF hk
      rcases hq with hq | ⟨v,hq,_⟩
      ·rw[hr2] at hq;cases hq;exact hQ .ret S' G' ρ' w' a' hr hM'
      ·rw[hr2] at hq;cases hq
    ·subst e
     simp only[afW] at h1
     refine ihy h1 (fun e S' G' ρ' w' a' hk hM'=> ?_) hM
     cases e with
     | normal=>exact JM hQ hq hM' hk
     | exit j=>
      obtain⟨r',hr,hr2⟩:=vF hk
      rcases hq with hq | ⟨v,hq,_⟩
      ·rw[hr2] at hq;cases hq;exact hQ (.exit j) S' G' ρ' w' a' hr hM'
      ·rw[hr2] at hq;cases hq
     | ret=>
      obtain⟨r',hr,hr2⟩:=vF hk
      rcases hq with hq | ⟨v,hq,_⟩
      ·rw[hr2] at hq;cases hq;exact hQ .ret S' G' ρ' w' a' hr hM'
      ·rw[hr2] at hq;cases hq
   ·refine wp_cond_split (t:=t) hv (fun e=> ?_) (fun e=> ?_)
    ·subst e;exact ihx h hQ hM
    ·subst e;exact ihy h hQ hM
  ·rename_i t ht
   have hv:=hM.tmps.ev b
   rw[ht] at hv
   obtain⟨c,hc,hf⟩:=(hv:aQ G ρ (.nb t) _)
   cases t with
   | false=>
    have:=hf rfl
    subst this
    exact wp_cond_split (t:=false) hc (fun e=>by cases e) (fun _=>ihy h hQ hM)
   | true=>
    obtain⟨h1,h2⟩:=Yb h
    exact wp_cond_split (t:=c) hc (fun _=>ihx h1 hQ hM) (fun _=>ihy h2 hQ hM)
  ·cases h
 | block id x ih=>
  intro β S K r h Q hQ G ρ w a hM
  simp only[den] at h
  split at h
  ·rename_i A hA
   obtain⟨q,h1,hq⟩:=Nj h
   refine wp_block (ih h1 (fun e S' G' ρ' w' a' hk hM'=> ?_) hM)
   cases e with
   | normal=>exact JM hQ hq hM' hk
   | exit j=>
    simp only at hk
    simp only[Ex.EL,Exit.inBlock]
    split at hk
    ·rename_i hb
     rw[af9 (afm hb)]
     exact JM hQ hq hM' hk
    ·rename_i hb
     rw[af8 (fun e=>hb (by rw[e];simp))]
     obtain⟨r',hr,hr2⟩:=vF hk
     rcases hq with hq | ⟨v,hq,_⟩
     ·rw[hr2] at hq;cases hq;exact hQ (.exit j) S' G' ρ' w' a' hr hM'
     ·rw[hr2] at hq;cases hq
   | ret=>
    obtain⟨r',hr,hr2⟩:=vF hk
    rcases hq with hq | ⟨v,hq,_⟩
    ·rw[hr2] at hq;cases hq;exact hQ .ret S' G' ρ' w' a' hr hM'
    ·rw[hr2] at hq;cases hq
  ·refine wp_block (ih h (fun e S' G' ρ' w' a' hk hM'=> ?_) hM)
   cases e with
   | normal=>exact hQ .normal S' G' ρ' w' a' hk hM'
   | exit j=>
    simp only at hk
    simp only[Ex.EL,Exit.inBlock]
    split at hk
    ·rename_i hb
     rw[af9 (afm hb)]
     exact hQ .normal S' G' ρ' w' a' hk hM'
    ·rename_i hb
     rw[af8 (fun e=>hb (by rw[e];simp))]
     exact hQ (.exit j) S' G' ρ' w' a' hk hM'
   | ret=>exact hQ .ret S' G' ρ' w' a' hk hM'
 | loop x ih=>
  intro β S K r h Q hQ G ρ w a hM
  simp only[den] at h
  split at h
  ·rename_i A hA
   split at h
   ·rename_i y hy
    obtain⟨G2,ρ2,h2⟩:=OW hM hy
    exact wp_loop_rounds (A.fuel y) (Qw ih hQ (A.fuel y) y G2 ρ2 w a h h2)
   ·cases h
  ·cases h
 | exit id=>
  intro β S K r h Q hQ G ρ w a hM
  exact wp_exit (hQ (.exit id) S G ρ w a h hM)
 | ret=>
  intro β S K r h Q hQ G ρ w a hM
  exact wp_ret (hQ .ret S G ρ w a h hM)
 | _=>
  intro β S K r h
  simp[den] at h
end Go.Dn
namespace Go.Dn
variable {X:Cx} {C:Fr X.P} {G:Gh} {ρ:Env} {w:World}
def fN (ρ:Env):Nat->List PM->List Value->Prop
 | _,[],_=>True
 | i,.mrow _ _::r,vs=>(vs.head? =some (ρ.rw (pid i 0))/\∃ a n c,ρ.rw (pid i 0)= .slice a n c)/\fN ρ (i+1) r vs.tail
 | i,.map _ _::r,vs=>(vs.head? =some (ρ.ob (pid i 0))/\∃ b,ρ.ob (pid i 0)= .map (some b))/\fN ρ (i+1) r vs.tail
 | i,.box _::r,vs=>vs.head? =some (.pointer (some ⟨ρ.bx (2000+i),0,none⟩))/\fN ρ (i+1) r vs.tail
 | i,.ar _::r,vs=>fN ρ (i+1) r vs
 | i,.arR _::r,vs=>fN ρ (i+1) r vs
 | i,.val _::r,vs=>fN ρ (i+1) r vs.tail
 | i,.row _ _::r,vs=>fN ρ (i+1) r vs.tail
theorem VU (i:Nat):10000000<=pid i 0:=by simp only[pid,pD,nid];omega
theorem fN.congr {ρ ρ':Env} (hb:∀ k,2000<=k->ρ'.bx k=ρ.bx k) (hr:∀ k,10000000<=k->ρ'.rw k=ρ.rw k/\ρ'.ob k=ρ.ob k):∀ {ps:List PM} {i:Nat} {vs:List Value},fN ρ i ps vs->fN ρ' i ps vs
 | [],_,_,_=>trivial
 | .mrow _ _::r,i,vs,h=>by
  simp only[fN] at h ⊢
  rw[(hr _ (VU i)).1];exact⟨h.1,h.2.congr hb hr⟩
 | .map _ _::r,i,vs,h=>by
  simp only[fN] at h ⊢
  rw[(hr _ (VU i)).2];exact⟨h.1,h.2.congr hb hr⟩
 | .box _::r,i,vs,h=>by
  simp only[fN] at h ⊢
  rw[hb _ (by omega)];exact⟨h.1,h.2.congr hb hr⟩
 | .ar _::r,i,vs,h=>fN.congr (ps:=r) hb hr h
 | .arR _::r,i,vs,h=>fN.congr (ps:=r) hb hr h
 | .val _::r,i,vs,h=>fN.congr (ps:=r) hb hr h
 | .row _ _::r,i,vs,h=>fN.congr (ps:=r) hb hr h
theorem Trans.refl (G:Gh) (b:Bool):Trans G G b:=⟨fun _ _ h=>h,.inr (Gh.le_refl G)⟩
theorem l8 {ow:Nat->Option Nat}:∀ {ps:List PM} {i:Nat} {x:dL ps} {vs:List Value},gf G w ow i ps x vs-> ∃ vals:List (aT×Value),vals.map (·.1)=(dF i ps).map (·.1)/\(∀ k v,(.inl k,v)∈vals->∃ b,v= .pointer (some ⟨b,0,none⟩))/\ ∀ ρ:Env,(∀ o v,(o,v)∈vals->Asg ρ w o v)->(∀ o n,(o,n)∈dF i ps->∀ b,ow b=some n->ρ.own b=some o)-> aG (aZ G ρ) (jD i ps x) vs/\iV G ρ w (oK i ps x) (nS i ps x) (gE i ps x)/\fN ρ i ps vs
 | [],i,x,vs,h=>⟨[],rfl,fun k v h=>by simp at h,fun ρ _ _=>⟨h,iV.nil,trivial⟩⟩
 | .val t::r,i,x,vs,⟨v,us,h1,_,hv,hu⟩=>by
  obtain⟨vals,e,hp,hr⟩:=l8 hu
  refine⟨vals,e,hp,fun ρ hA hO=> ?_⟩
  obtain⟨g1,g2,g3⟩:=hr ρ hA hO
  rw[h1 rfl]
  exact⟨⟨v,us,rfl,EK ρ hv,g1⟩,g2,g3⟩
 | .row e' t::r,i,x,vs,⟨v,us,h1,_,⟨hv,hv2⟩,hu⟩=>by
  obtain⟨vals,e,hp,hr⟩:=l8 hu
  refine⟨(.inr (pid i 0),v)::vals,by simp[dF,e],fun k v h=>hp k v (by simpa using h),fun ρ hA hO=> ?_⟩
  obtain⟨g1,g2,g3⟩:=hr ρ (fun o v h=>hA o v (by simp[h])) (fun o n h=>hO o n (by simp[dF,h]))
  have hav:ρ.rw (pid i 0)=v:=hA (.inr (pid i 0)) v (by simp)
  rw[h1 rfl]
  refine⟨⟨v,us,rfl,⟨hav.symm,hv.isSlice⟩,g1⟩,⟨g2.bx,fun j q hj=> ?_,g2.ob⟩,g3⟩
  simp only[nS,aq] at hj
  split at hj
  ·rename_i ej
   subst ej
   cases hj
   exact hv.ok (Trans.refl G _) hav (fun b hb=>hO _ _ (by simp[dF]) b (hv2 b hb))
  ·exact g2.rw j q hj
 | .mrow e' t::r,i,x,vs,⟨v,us,h1,_,⟨hv,hv2⟩,hu⟩=>by
  obtain⟨vals,e,hp,hr⟩:=l8 hu
  refine⟨(.inr (pid i 0),v)::vals,by simp[dF,e],fun k v h=>hp k v (by simpa using h),fun ρ hA hO=> ?_⟩
  obtain⟨g1,g2,g3⟩:=hr ρ (fun o v h=>hA o v (by simp[h])) (fun o n h=>hO o n (by simp[dF,h]))
  have hav:ρ.rw (pid i 0)=v:=hA (.inr (pid i 0)) v (by simp)
  rw[h1 rfl]
  refine⟨⟨v,us,rfl,⟨hav.symm,hv.isSlice⟩,g1⟩,⟨g2.bx,fun j q hj=> ?_,g2.ob⟩,⟨by rw[hav];rfl,by rw[hav];exact hv.isSlice⟩,g3⟩
  simp only[nS,aq] at hj
  split at hj
  ·rename_i ej
   subst ej
   cases hj
   exact hv.ok (Trans.refl G _) hav (fun b hb=>hO _ _ (by simp[dF]) b (hv2 b hb))
  ·exact g2.rw j q hj
 | .map kk vv::r,i,x,vs,⟨v,us,h1,_,⟨b,hv,hv1,hv2⟩,hu⟩=>by
  obtain⟨vals,e,hp,hr⟩:=l8 hu
  refine⟨(.ob (pid i 0),v)::vals,by simp[dF,e],fun k v h=>hp k v (by simpa using h),fun ρ hA hO=> ?_⟩
  obtain⟨g1,g2,g3⟩:=hr ρ (fun o v h=>hA o v (by simp[h])) (fun o n h=>hO o n (by simp[dF,h]))
  rw[h1 rfl]
  subst hv
  have ho:ρ.own b=some (.ob (pid i 0)):=hO _ _ (by simp[dF]) b hv1
  obtain⟨m1,m2⟩:=hv2.ok (Trans.refl G _) (hA (.ob (pid i 0)) (.map (some b)) (by simp)) ho
  refine⟨⟨_,us,rfl,⟨m2.symm,b,rfl⟩,g1⟩,⟨g2.bx,g2.rw,fun j q hj=> ?_⟩,⟨by rw[m2];rfl,b,m2⟩,g3⟩
  simp only[gE,aq] at hj
  split at hj
  ·rename_i ej
   subst ej
   cases hj
   exact m1
  ·exact g2.ob j q hj
 | .box l::r,i,x,vs,⟨v,us,h1,_,hv,hu⟩=>by
  obtain⟨vals,e,hp,hr⟩:=l8 hu
  obtain⟨vals2,hv2,hr2⟩:=Lm (G3:=G) (d:=pD) (k:=2000+i) (Trans.refl G _) hv
  refine⟨(.inl (2000+i),v)::(vals2++vals),by simp[dF,e,hv2],fun k v' h=> ?_,fun ρ hA hO=> ?_⟩
  ·rcases aeO.1 h with h | h
   ·cases h
    obtain⟨b,_,_,e1,_⟩:=hv
    exact⟨b,e1⟩
   ·rcases aeN.1 h with h | h
    ·have hm:(.inl k:aT)∈vals2.map (·.1):=aeT.2 ⟨_,h,rfl⟩
     rw[hv2] at hm
     obtain⟨p,hp,e1⟩:=aeT.1 hm
     obtain⟨p1,p2⟩:=p
     simp only at e1
     subst e1
     exact absurd hp ((uZ (x:=x.1)).2.2 k p2)
    ·exact hp k v' h
  ·obtain⟨g1,g2,g3⟩:=hr ρ (fun o v h=>hA o v (by simp[h])) (fun o n h=>hO o n (by simp[dF,h]))
   have hk:=hA (.inl (2000+i)) v (by simp)
   have g4:=hr2 ρ hk (fun o v h=>hA o v (by simp[h])) (fun o n h=>hO o n (by
    simp only[aeO] at h
    simp only[dF,aeO,aeN]
    rcases h with h | h
    ·exact .inl h
    ·exact .inr (.inl h)))
   rw[h1 rfl]
   exact⟨⟨v,us,rfl,hk,g1⟩,g4.app g2,by rw[show v=_ from hk];rfl,g3⟩
 | .ar t::r,i,x,vs,⟨v,us,_,h1,hv,hu⟩=>by
  obtain⟨vals,e,hp,hr⟩:=l8 hu
  refine⟨(.ob br,undef)::vals,by simp[dF,e],fun k v h=>hp k v (by simpa using h),fun ρ hA hO=> ?_⟩
  obtain⟨g1,g2,g3⟩:=hr ρ (fun o v h=>hA o v (by simp[h])) (fun o n h=>hO o n (by simp[dF,h]))
  have e1:=h1 rfl
  subst e1
  refine⟨g1,⟨g2.bx,g2.rw,fun j q hj=> ?_⟩,g3⟩
  simp only[gE,aq] at hj
  split at hj
  ·rename_i ej
   subst ej
   cases hj
   refine⟨rfl,hv.1,hv.2.1,fun n z hz=> ?_⟩
   obtain⟨b,ws,T,f1,f2,f3,f4,f5⟩:=hv.2.2 n z hz
   exact⟨b,ws,T,f1,nofun,fun _=>hO _ _ (by simp[dF]) b (f3 rfl),f4,f5⟩
  ·exact g2.ob j q hj
 | .arR t::r,i,x,vs,⟨v,us,_,h1,hv,hu⟩=>by
  obtain⟨vals,e,hp,hr⟩:=l8 hu
  refine⟨vals,e,hp,fun ρ hA hO=> ?_⟩
  obtain⟨g1,g2,g3⟩:=hr ρ hA hO
  have e1:=h1 rfl
  subst e1
  refine⟨g1,⟨g2.bx,g2.rw,fun j q hj=> ?_⟩,g3⟩
  simp only[gE,aq] at hj
  split at hj
  ·rename_i ej
   subst ej
   cases hj
   refine⟨rfl,hv.1,hv.2.1,fun n z hz=> ?_⟩
   obtain⟨b,ws,T,f1,f2,f3,f4,f5⟩:=hv.2.2 n z hz
   exact⟨b,ws,T,f1,f2,nofun,f4,f5⟩
  ·exact g2.ob j q hj
theorem w8:∀ {ps:List PM} {i:Nat} {o:aT} {n:Nat},(o,n)∈dF i ps->(∃ k,o= .inl k)\/o= .ob br\/Fs pD o n
 | [],i,o,n,h=>by simp[dF] at h
 | .val _::r,i,o,n,h=>w8 (ps:=r) h
 | .arR _::r,i,o,n,h=>w8 (ps:=r) h
 | .row _ _::r,i,o,n,h=>by
  simp only[dF,aeO,Prod.mk.injEq] at h
  rcases h with ⟨h,h'⟩ | h
  ·subst h;subst h';exact .inr (.inr (.inl (by rw[pid,BI];rfl)))
  ·exact w8 (ps:=r) h
 | .mrow _ _::r,i,o,n,h=>by
  simp only[dF,aeO,Prod.mk.injEq] at h
  rcases h with ⟨h,h'⟩ | h
  ·subst h;subst h';exact .inr (.inr (.inl (by rw[pid,BI];rfl)))
  ·exact w8 (ps:=r) h
 | .map _ _::r,i,o,n,h=>by
  simp only[dF,aeO,Prod.mk.injEq] at h
  rcases h with ⟨h,h'⟩ | h
  ·subst h;subst h';exact .inr (.inr (.inr (by rw[pid,BI];rfl)))
  ·exact w8 (ps:=r) h
 | .box l::r,i,o,n,h=>by
  simp only[dF,aeO,aeN,Prod.mk.injEq] at h
  rcases h with ⟨h,h'⟩ | h | h
  ·exact .inl ⟨_,h⟩
  ·exact .inr (.inr (Bc h))
  ·exact w8 (ps:=r) h
 | .ar _::r,i,o,n,h=>by
  simp only[dF,aeO,Prod.mk.injEq] at h
  rcases h with ⟨h,h'⟩ | h
  ·exact .inr (.inl h)
  ·exact w8 (ps:=r) h
def TD (tmps:Array Value):ResultVar->Sem Value
 | .tmp t=>pure (tmps.getD t undef)
 | .cell a t=>do loadVar t (<- asAddr (tmps.getD a undef))
theorem ZA {S:St} {a:Act} {s:SV} {v:ResultVar} (hM:Mod C G ρ S w a) (h:RE X S v=some s):∃ u,(TD a.tmps v).run X.P w= .ok u w/\aZ G ρ s u:=by
 cases v with
 | tmp t=>
  simp only[RE,Option.some.injEq] at h
  subst h
  exact⟨_,rfl,hM.tmps.ev (.tmp t)⟩
 | cell t T=>
  simp only[RE] at h
  split at h
  ·rename_i b off hx
   split at h
   ·rename_i l hl
    obtain⟨s',hs,hld⟩:=zB h
    cases hs
    have h1:=hM.tmps.ev (.tmp t)
    simp only[St.ev] at h1
    rw[hx] at h1
    have h2:a.tmps.getD t undef= .pointer (some ⟨ρ.bx b,off,none⟩):=h1
    obtain⟨_,vs,T',hw,hv⟩:=hM.boxes b l hl
    obtain⟨u,hr,hsv⟩:=hld G ρ w (ρ.bx b) 0 vs hv (fun j v hj=>by
     have hadd:(⟨ρ.bx b,0,none⟩:Addr).add j=⟨ρ.bx b,j,none⟩:=by unfold Addr.add;split<;>simp_all
     rw[hadd,cell_of_row w _ j _ T' (0,0) hw];simpa using hj)
    refine⟨u, ?_,hsv⟩
    simp only[afH] at hr
    simp only[TD,h2,asAddr,Sem.run_bind,Sem.run_pure,Result.andThen_ok,hr]
   ·cases h
  ·cases h
theorem NK {S:St} {a:Act} (hM:Mod C G ρ S w a):∀ {rs:List ResultVar} {l:List SV},Ew X S rs=some l->∃ us,(rs.mapM (TD a.tmps)).run X.P w= .ok us w/\aG (aZ G ρ) l us
 | [],l,h=>by
  simp only[Ew,Option.some.injEq] at h
  subst h
  exact⟨[],rfl,rfl⟩
 | v::r,l,h=>by
  simp only[Ew] at h
  split at h
  ·rename_i s hs
   split at h
   ·rename_i l' hl'
    cases h
    obtain⟨u,h1,h2⟩:=ZA hM hs
    obtain⟨us,h3,h4⟩:=NK hM hl'
    refine⟨u::us, ?_,u,us,rfl,h2,h4⟩
    simp only[List.mapM_cons,Sem.run_bind,h1,Result.andThen_ok,h3,Sem.run_pure]
   ·cases h
  ·cases h
theorem Vd {fn:Func} {tmps:Array Value} {P:Program} {us:List Value} (h:(fn.results.toList.mapM (TD tmps)).run P w= .ok us w):(results fn tmps).run P w= .ok (rj us) w:=by
 have e:results fn tmps=(do
  let vs <- fn.results.mapM (TD tmps)
  pure (if h:vs.size=1 then vs[0] else .tuple vs)):=by
  unfold results
  congr 2
 rw[e,Array.mapM_eq_mapM_toList]
 simp only[Sem.run_bind,Sem.run_map,h,Result.andThen_ok,Sem.run_pure]
 match us with
 | []=>rfl
 | [v]=>rfl
 | v::u::r=>simp[rj]
theorem Tt (S:St) (ps:List PM) (bx:Option (dK ps)) (s:SV) (q:List SV):ya S ps bx [] (s::q)=none:=rfl
theorem Tr (S:St) (ps:List PM) (bx:Option (dK ps)) (p:RM) (r:List RM) (s:SV) (q:List SV):ya S ps bx (p::r) (s::q)=match Bf S p s with
 | some x=>match ya S ps bx r q with
  | some y=>some (x,y)
  | none=>none
 | none=>none:=rfl
theorem UP (S:St) (ps:List PM) (bx:Option (dK ps)) (p:RM) (r:List RM):ya S ps bx (p::r) []=none:=rfl
theorem Vm {s:SV} {c:CV} {v:Value} (hc:qh s=some c) (hs:aZ G ρ s v):aQ G ρ c v:=by
 unfold qh at hc
 split at hc
 ·cases hc;exact hs
 ·cases hc
section
variable {V:St} {ow:List (aT×Nat)} (hM:Mem C G ρ V w)
include hM
theorem Nw {l:List OT} {k n:Nat} {cs:List CV} {x:kz l} {v:Value} (hcs:look V.boxes k=some cs) (h:jC V l cs=some x) (hv:v= .pointer (some ⟨ρ.bx k,0,none⟩)) (ho:∀ q,q∈(.inl k,n)::jZ (n+1) l cs->bG ow q.1=some q.2): vS G w (dO ρ ow) n l x v:=by
 obtain⟨h1,vs,T,h2,h3⟩:=hM.boxes k cs hcs
 refine⟨ρ.bx k,vs,T,hv, ?_,h2,zF hM (Gh.le_refl G) h h3 (fun q hq=>ho q (by simp[hq]))⟩
 simp only[dO,h1,afJ]
 exact ho (.inl k,n) (by simp)
theorem Xm {p:RM} {s:SV} {x:p.den} {v:Value} {c:Nat} {r:List RM} {q:List SV} (h:Bf V p s=some x) (hv:aZ G ρ s v) (ho:∀ z,z∈lT V c (p::r) (s::q)->bG ow z.1=some z.2):Wd G w (dO ρ ow) c p x v:=by
 cases p with
 | val t=>exact kI hM.frozen (kQ.nil _ _ _) h hv
 | row e t=>
  simp only[Bf] at h
  split at h
  ·rename_i cv hc
   exact pU hM (Gh.le_refl G) h (Vm hc hv) (fun z hz=>ho z (by simp only[lT,hc,aeN];exact .inl hz))
  ·cases h
 | map k e=>
  simp only[Bf] at h
  split at h
  ·rename_i cv hc
   exact yL hM (Gh.le_refl G) h (Vm hc hv) (fun z hz=>ho z (by simp only[lT,hc,aeN];exact .inl hz))
  ·cases h
 | box l=>
  simp only[Bf] at h
  split at h
  ·rename_i k hk
   split at h
   ·rename_i cs hcs
    exact Nw hM hcs h (Qk hk hv) (fun z hz=>ho z (by simp only[lT,hk,hcs,aeN];exact .inl hz))
   ·cases h
  ·cases h
theorem Xl {ps:List PM} {bx:Option (dK ps)} {args:List Value} (hbx:∀ y,bx=some y->nC G w (dO ρ ow) 0 ps y args) (rs:List RM): ∀ {l:List SV} {y:cD ps rs} {us:List Value} (c:Nat),(∀ z,z∈lT V c rs l->bG ow z.1=some z.2)->ya V ps bx rs l=some y->aG (aZ G ρ) l us->kr G w (dO ρ ow) ps args c rs y us:=by
 induction rs with
 | nil=>
  intro l y us c _ h hv
  cases l with
  | nil=>exact⟨hv,hbx y h⟩
  | cons s q=>rw[Tt] at h;cases h
 | cons p r ih=>
  intro l y us c ho h hv
  cases l with
  | nil=>rw[UP] at h;cases h
  | cons s q=>
   obtain⟨v,us',e',hs,hq⟩:=hv
   subst e'
   rw[Tr] at h
   split at h
   ·rename_i x hx
    split at h
    ·rename_i z hz
     cases h
     refine⟨v,us',rfl,Xm hM hx hs ho,ih (c+1) (fun t ht=>ho t ?_) hz hq⟩
     cases p<;>simp only[lT,aeN]<;>first | exact .inr ht | exact ht
    ·cases h
   ·cases h
theorem ot:∀ {ps:List PM} {i:Nat} {y:dK ps} {vs:List Value},nR V i ps=some y->(∀ z,z∈jY V i ps->bG ow z.1=some z.2)->fN ρ i ps vs->nC G w (dO ρ ow) i ps y vs
 | [],i,y,vs,_,_,_=>trivial
 | .val _::r,i,y,vs,h,ho,hp=>ot (ps:=r) h ho hp
 | .row _ _::r,i,y,vs,h,ho,hp=>ot (ps:=r) h ho hp
 | .arR _::r,i,y,vs,h,ho,hp=>ot (ps:=r) h ho hp
 | .mrow e t::r,i,y,vs,h,ho,⟨⟨hp1,hp2⟩,hp⟩=>by
  simp only[nR] at h
  split at h
  ·rename_i x z hx hz
   cases h
   have:=pU (ow:=ow) (n:=64*i) hM (Gh.le_refl G) hx (v:=ρ.rw (pid i 0)) ⟨rfl,hp2⟩ (fun q hq=>ho q (by
    simp only[mF,aeY] at hq
    subst hq;simp[jY]))
   exact⟨⟨_,hp1,this.1,this.2⟩,ot (ps:=r) hz (fun q hq=>ho q (by simp[jY,hq])) hp⟩
  ·cases h
 | .map kk vv::r,i,y,vs,h,ho,⟨⟨hp1,hp2⟩,hp⟩=>by
  simp only[nR] at h
  split at h
  ·rename_i x z hx hz
   cases h
   obtain⟨b,h1,h2,h3⟩:=yL (ow:=ow) (n:=64*i) hM (Gh.le_refl G) hx (v:=ρ.ob (pid i 0)) ⟨rfl,hp2⟩ (fun q hq=>ho q (by
    simp only[mF,aeY] at hq
    subst hq;simp[jY]))
   exact⟨⟨b,by rw[hp1,h1],h2,h3⟩,ot (ps:=r) hz (fun q hq=>ho q (by simp[jY,hq])) hp⟩
  ·cases h
 | .box l::r,i,y,vs,h,ho,⟨hp1,hp⟩=>by
  simp only[nR] at h
  split at h
  ·rename_i cs hcs
   split at h
   ·rename_i x z hx hz
    cases h
    refine⟨⟨_,hp1,Nw hM hcs hx rfl (fun q hq=>ho q ?_)⟩,ot (ps:=r) hz (fun q hq=>ho q ?_) hp⟩
    ·simp only[jY,hcs,adV,aeO,aeN]
     rcases aeO.1 hq with hq | hq
     ·exact .inl hq
     ·exact .inr (.inl hq)
    ·simp only[jY,hcs,adV,aeO,aeN]
     exact .inr (.inr hq)
   ·cases h
  ·cases h
 | .ar t::r,i,y,vs,h,ho,hp=>by
  simp only[nR] at h
  split at h
  ·rename_i x z hx hz
   cases h
   obtain⟨f,hl,hf⟩:=qP hx
   have:=hf rfl
   subst this
   obtain⟨_,h1,h2,h3⟩:=hM.objs br _ hl
   refine⟨⟨h1,h2,fun n z hz=> ?_⟩,ot (ps:=r) hz (fun q hq=>ho q (by simp[jY,hq])) hp⟩
   obtain⟨b,vs,T,g1,g2,g3,g4,g5⟩:=h3 n z hz
   refine⟨b,vs,T,g1,nofun,fun _=> ?_,g4,g5⟩
   have:=g3 rfl
   simp only[dO,this,afJ]
   exact ho (.ob br,64*i) (by simp[jY])
  ·cases h
end
end Go.Dn
namespace Go.Dn
variable {X:Cx}
section
variable {G G':Gh} {w:World} {ow:Nat->Option Nat} (hG:∀ b o,G b=some o->G' b=some o)
include hG
theorem bT.aR {t:Ty} {x:t.den} {v:Value} (hn:t.aR=true) (h:bT G t x v):bT G' t x v:=by
 cases t with
 | st t=>obtain⟨vs,e,hv⟩:=h;exact⟨vs,e,ax.aR hG t x vs (by simpa [Ty.aR] using hn) hv⟩
 | _=>exact ax.aR hG _ x _ hn h
theorem l6.aR {e:TypeId} {t:Ty} {l:List t.den} {v:Value} (hn:t.aR=true) (h:l6 G w e t l v):l6 G' w e t l v:=by
 obtain⟨xs,h1,h2⟩:=h
 exact⟨xs,h1,h2.mono fun x cs=>ax.aR hG t x cs hn⟩
theorem rS.aR {k v:Ty} {l:List (k.den×v.den)} {b:Nat} (hk:k.aR=true) (hv:v.aR=true) (h:rS G w k v l b):rS G' w k v l b:=by
 obtain⟨es,clock,h1,h2,h3⟩:=h
 exact⟨es,clock,h1,h2.mono fun x y hxy=>⟨hxy.1.aR hG hk,hxy.2.aR hG hv⟩,h3⟩
def Eu (l:List OT):Bool:=l.all fun | .val t=>t.aR | .row _ t=>t.aR | .map k v=>k.aR&&v.aR
theorem yA.aR:∀ {l:List OT} {n:Nat} {x:kz l} {vs:List Value},Eu l=true->yA G w ow n l x vs->yA G' w ow n l x vs
 | [],_,_,_,_,h=>h
 | .val t::r,n,x,vs,hn,⟨a,b,e,h1,h2⟩=>by
  simp only[Eu,adP,adj] at hn
  exact⟨a,b,e,ax.aR hG t x.1 a hn.1 h1,yA.aR hn.2 h2⟩
 | .row _ t::r,n,x,vs,hn,⟨a,b,e,⟨v,e2,h1,h3⟩,h2⟩=>by
  simp only[Eu,adP,adj] at hn
  exact⟨a,b,e,⟨v,e2,h1.aR hG hn.1,h3⟩,yA.aR hn.2 h2⟩
 | .map k v::r,n,x,vs,hn,⟨a,b,e,⟨bb,e2,h1,h3⟩,h2⟩=>by
  simp only[Eu,adP,adj] at hn
  exact⟨a,b,e,⟨bb,e2,h1,h3.aR hG hn.1.1 hn.1.2⟩,yA.aR hn.2 h2⟩
theorem vS.aR {l:List OT} {n:Nat} {x:kz l} {v:Value} (hn:Eu l=true) (h:vS G w ow n l x v):vS G' w ow n l x v:=by
 obtain⟨b,vs,T,h1,h2,h3,h4⟩:=h
 exact⟨b,vs,T,h1,h2,h3,h4.aR hG hn⟩
theorem gf.aR:∀ {ps:List PM} {i:Nat} {x:dL ps} {vs:List Value},dH ps=true->gf G w ow i ps x vs->gf G' w ow i ps x vs
 | [],_,_,_,_,h=>h
 | .val t::r,i,x,vs,hn,⟨v,us,h1,h2,h3,h4⟩=>by
  simp only[dH,adj] at hn
  exact⟨v,us,h1,h2,bT.aR hG hn.1 h3,gf.aR hn.2 h4⟩
 | .row _ t::r,i,x,vs,hn,⟨v,us,h1,h2,⟨h3,h3'⟩,h4⟩=>by
  simp only[dH,adj] at hn
  exact⟨v,us,h1,h2,⟨h3.aR hG hn.1,h3'⟩,gf.aR hn.2 h4⟩
 | .mrow _ t::r,i,x,vs,hn,⟨v,us,h1,h2,⟨h3,h3'⟩,h4⟩=>by
  simp only[dH,adj] at hn
  exact⟨v,us,h1,h2,⟨h3.aR hG hn.1,h3'⟩,gf.aR hn.2 h4⟩
 | .map _ _::r,i,x,vs,hn,⟨v,us,h1,h2,⟨b,h3,h3',h5⟩,h4⟩=>by
  simp only[dH,adj] at hn
  exact⟨v,us,h1,h2,⟨b,h3,h3',h5.aR hG hn.1.1 hn.1.2⟩,gf.aR hn.2 h4⟩
 | .box l::r,i,x,vs,hn,⟨v,us,h1,h2,h3,h4⟩=>by
  simp only[dH,adj] at hn
  exact⟨v,us,h1,h2,vS.aR hG hn.1 h3,gf.aR hn.2 h4⟩
 | .ar _::r,i,x,vs,hn,_=>by simp[dH] at hn
 | .arR _::r,i,x,vs,hn,_=>by simp[dH] at hn
theorem nC.aR:∀ {ps:List PM} {i:Nat} {x:dK ps} {vs:List Value},dH ps=true->nC G w ow i ps x vs->nC G' w ow i ps x vs
 | [],_,_,_,_,h=>h
 | .val t::r,i,x,vs,hn,h=>by
  simp only[dH,adj] at hn
  exact nC.aR (ps:=r) hn.2 h
 | .row _ t::r,i,x,vs,hn,h=>by
  simp only[dH,adj] at hn
  exact nC.aR (ps:=r) hn.2 h
 | .mrow _ t::r,i,x,vs,hn,⟨⟨v,h1,h2,h3⟩,h4⟩=>by
  simp only[dH,adj] at hn
  exact⟨⟨v,h1,h2.aR hG hn.1,h3⟩,nC.aR hn.2 h4⟩
 | .map _ _::r,i,x,vs,hn,⟨⟨b,h1,h2,h3⟩,h4⟩=>by
  simp only[dH,adj] at hn
  exact⟨⟨b,h1,h2,h3.aR hG hn.1.1 hn.1.2⟩,nC.aR hn.2 h4⟩
 | .box l::r,i,x,vs,hn,⟨⟨v,h1,h2⟩,h4⟩=>by
  simp only[dH,adj] at hn
  exact⟨⟨v,h1,vS.aR hG hn.1 h2⟩,nC.aR hn.2 h4⟩
 | .ar _::r,i,x,vs,hn,_=>by simp[dH] at hn
 | .arR _::r,i,x,vs,hn,_=>by simp[dH] at hn
theorem kr.aR {ps:List PM} {args:List Value} (hp:dH ps=true):∀ {rs:List RM} {c:Nat} {y:cD ps rs} {vs:List Value},pW rs=true->kr G w ow ps args c rs y vs->kr G' w ow ps args c rs y vs
 | [],_,_,_,_,h=>⟨h.1,h.2.aR hG hp⟩
 | .val t::r,c,y,vs,hn,⟨v,us,h1,h2,h3⟩=>by
  simp only[pW,adj] at hn
  exact⟨v,us,h1,bT.aR hG hn.1 h2,kr.aR hp hn.2 h3⟩
 | .row _ t::r,c,y,vs,hn,⟨v,us,h1,⟨h2,h2'⟩,h3⟩=>by
  simp only[pW,adj] at hn
  exact⟨v,us,h1,⟨h2.aR hG hn.1,h2'⟩,kr.aR hp hn.2 h3⟩
 | .map _ _::r,c,y,vs,hn,⟨v,us,h1,⟨b,h2,h2',h4⟩,h3⟩=>by
  simp only[pW,adj] at hn
  exact⟨v,us,h1,⟨b,h2,h2',h4.aR hG hn.1.1 hn.1.2⟩,kr.aR hp hn.2 h3⟩
 | .box l::r,c,y,vs,hn,⟨v,us,h1,h2,h3⟩=>by
  simp only[pW,adj] at hn
  exact⟨v,us,h1,vS.aR hG hn.1 h2,kr.aR hp hn.2 h3⟩
end
theorem jq:∀ (ps:List PM) (i:Nat) (x:dL ps),(jD i ps x).length=wG ps
 | [],_,_=>rfl
 | .val _::r,i,x=>by simp[jD,wG,PM.arg,jq r];omega
 | .row _ _::r,i,x=>by simp[jD,wG,PM.arg,jq r];omega
 | .mrow _ _::r,i,x=>by simp[jD,wG,PM.arg,jq r];omega
 | .map _ _::r,i,x=>by simp[jD,wG,PM.arg,jq r];omega
 | .box _::r,i,x=>by simp[jD,wG,PM.arg,jq r];omega
 | .ar _::r,i,x=>by simp[jD,wG,PM.arg,jq r]
 | .arR _::r,i,x=>by simp[jD,wG,PM.arg,jq r]
theorem oL:∀ {ps:List PM} {i:Nat} {x:dL ps} {t:Ty} {l:List t.den},iU ps=false->look (gE i ps x) br≠some (.ar false t l)
 | [],i,x,t,l,_=>by simp[gE,look]
 | .val _::r,i,x,t,l,h=>oL (ps:=r) h
 | .row _ _::r,i,x,t,l,h=>oL (ps:=r) h
 | .mrow _ _::r,i,x,t,l,h=>oL (ps:=r) h
 | .map _ _::r,i,x,t,l,h=>by
  simp only[gE,aq]
  split
  ·simp
  ·exact oL (ps:=r) h
 | .box _::r,i,x,t,l,h=>by
  simp only[gE,cT]
  intro e
  rcases or_some e with e | ⟨_,e⟩
  ·obtain⟨_,_,_,e'⟩:=sE e;cases e'
  ·exact oL (ps:=r) h e
 | .ar _::r,i,x,t,l,h=>by simp[iU] at h
 | .arR _::r,i,x,t,l,h=>by
  simp only[gE,aq]
  split
  ·intro e;cases e
  ·exact oL (ps:=r) h
theorem Xf {ps:List PM} (h:dH ps=true):iU ps=false:=by
 induction ps with
 | nil=>rfl
 | cons p r ih=>cases p<;>simp only[dH,adj] at h<;>first | exact ih h.2 | cases h
theorem SG (hX:cA X) (hmix:X.P.follows .mixedOrders=true) {f:FuncId} {fn:Func} (sp:an) (anns:List (Nat×Ann)) (ar:Option Ty) (hf:X.P.funcs[f]? =some fn) {G:Gh} {w:World} {ow:Nat->Option Nat} {args:List Value} {x:dL sp.ps} {y:cD sp.ps sp.rs} (hT:bZ X.P G) (hG:Agr G w) (how:∀ b i,ow b=some i->G b=none/\b<w.heap.size) (hargs:gf G w ow 0 sp.ps x args) (har:ar.isSome=true->G.hnd=(fun _=>none)/\iU sp.ps=false/\dH sp.ps=true) (hN:Dk X anns ar fn sp x=some y): Calls X.P f args.toArray w fun e w'=>∃ G' ow' vs,e= .returned (rj vs)/\G.le G'/\Agr G' w'/\w.heap.size<=w'.heap.size/\w'.os=w.os/\w'.output=w.output/\ (∀ b,b<w.heap.size->ow b=none->w'.heap[b]? =w.heap[b]? /\G' b=G b)/\(∀ b i,ow' b=some i->G' b=none/\b<w'.heap.size/\(w.heap.size<=b\/ow b≠none))/\kr G' w' ow' sp.ps args 0 sp.rs y vs/\(iU sp.ps=false->ar=none->G'.hnd=G.hnd):=by
 unfold Dk at hN
 split at hN
 ·cases hN
 ·rename_i hcond
  simp only[adx,agd,ads] at hcond
  obtain⟨⟨hdO,hdC⟩,hnoh⟩:=hcond
  split at hN
  ·rename_i c hc
   obtain⟨vals,hvals,hpt,hst⟩:=l8 hargs
   let pv:Nat->Value:=fun k=>match cS vals (.inr k) with | some v=>v | none=>(cS vals (.ob k)).getD undef
   let ρ:Env:=⟨fun k=>match cS vals (.inl k) with | some v=>Ju v | none=>0,pv,fun b=>(ow b).bind (lS (dF 0 sp.ps)),pv,fun k=>CZ w (pv k)⟩
   have hA:∀ o v,(o,v)∈vals->Asg ρ w o v:=fun o v hm=>by
    have hl:=IF hvals hdO hm
    cases o with
    | inl k=>
     obtain⟨b,hb⟩:=hpt k v hm
     show v= .pointer (some ⟨match cS vals (.inl k) with | some v=>Ju v | none=>0,0,none⟩)
     rw[hl,hb];rfl
    | inr j=>show (match cS vals (.inr j) with | some v=>v | none=>_)=v;rw[hl]
    | ob j=>
     intro b hb
     subst hb
     have hnr:cS vals (.inr j)=none:=by
      cases h1:cS vals (.inr j) with
      | none=>rfl
      | some v'=>
       obtain⟨n1,m1⟩:=FE hvals (by rw[h1];simp)
       obtain⟨n2,m2⟩:=FE hvals (o:= .ob j) (by rw[hl];simp)
       rcases w8 m1 with ⟨k,e⟩ | e | e
       ·cases e
       ·cases e
       ·rcases w8 m2 with ⟨k,e'⟩ | e' | e'
        ·cases e'
        ·cases e'
         rcases e with e | e
         ·have:br=nid pD 0 0+n1:=by simpa using e
          simp only[br,pD,nid] at this;omega
         ·cases e
        ·have h1:j=nid pD 0 0+n1:=by rcases e with e | e<;>cases e;rfl
         have h2:j=nid pD 0 0+n2:=by rcases e' with e' | e'<;>cases e';rfl
         have:n1=n2:=by omega
         subst this
         have:=T7 hdC m1 m2
         cases this
     have hpv:pv j= .map (some b):=by
      show (match cS vals (.inr j) with | some v=>v | none=>(cS vals (.ob j)).getD undef)=_
      rw[hnr,hl];rfl
     refine⟨hpv,fun es clock hw i e' hi=> ?_⟩
     show (e'.born:Int)=CZ w (pv j) i
     rw[hpv]
     simp[CZ,hw,hi]
   have hO:∀ o n,(o,n)∈dF 0 sp.ps->∀ b,ow b=some n->ρ.own b=some o:=fun o n hm b hb=>by
    show (ow b).bind (lS (dF 0 sp.ps))=_
    rw[hb];exact xR hdC hm
   obtain⟨hsv,hP,hpins⟩:=hst ρ hA hO
   let C:Fr X.P:=⟨w.heap.size,ρ.bx,pv,fun b=>ow b≠none,w,G,iU sp.ps=false/\ar=none,hT⟩
   have hlen:args.length=wG sp.ps:=by rw[hsv.len,jq]
   have hM:Mod C G ρ (Iv fn.ntmps ar sp.ps x) w { tmps:=args.toArray++Array.replicate (fn.ntmps - args.toArray.size) undef,defers:=[] }:=by
    refine { agr:=hG,le0:=Gh.le_refl G,old:=fun _ _ _=>rfl,frame:=fun _ _ _=>rfl,size:=afq _,os:=rfl,output:=rfl,pin:=fun _ _=>rfl,pinR:=fun _ _=>⟨rfl,rfl⟩,owned:= ?_,boxes:=hP.bx,rows:=hP.rw,objs:= ?_,hndI:= ?_,tmps:=⟨?_, ?_⟩,defers:=rfl }
    ·intro b o ho
     cases hb:ow b with
     | none=>
      have ho':(ow b).bind (lS (dF 0 sp.ps))=some o:=ho
      rw[hb] at ho';cases ho'
     | some i=>exact⟨(how b i hb).1,(how b i hb).2,.inr (by show ow b≠none;rw[hb];simp)⟩
    ·intro j q hj
     cases ar with
     | none=>exact hP.ob j q hj
     | some t=>
      simp only[Iv,aq] at hj
      split at hj
      ·rename_i ej
       subst ej
       cases hj
       obtain⟨h1,_⟩:=har rfl
       refine⟨rfl,fun i b hb=>(by rw[h1] at hb;cases hb),fun i i' b hb=>(by rw[h1] at hb;cases hb),fun i z hz=>by simp at hz⟩
      ·exact hP.ob j q hj
    ·rintro⟨h1,h2⟩
     refine⟨rfl,fun t l=> ?_⟩
     subst h2
     exact oL h1
    ·simp[Iv,jq,hlen]
    ·intro i s hi
     simp only[Iv] at hi
     rw[aef] at hi
     rw[ac5,Array.getElem?_append]
     split at hi
     ·rename_i hlt
      obtain⟨v,hv,hsv'⟩:=hsv.get hi
      rw[jq] at hlt
      rw[af9 (by simpa [hlen] using hlt)]
      simpa [hv] using hsv'
     ·rw[List.getElem?_replicate] at hi
      split at hi
      ·cases hi;exact trivial
      ·cases hi
   refine calls_of_wp hf hc (mq (C:=C) hX hmix anns c hN (fun e S' G' ρ' w' a' hk hM'=> ?_) hM)
   have key:ends X fn sp S'=some y->a'.defers=[]/\∃ v,(results fn a'.tmps).run X.P w'= .ok v w'/\∃ G' ow' vs,Ending.returned v= .returned (rj vs)/\G.le G'/\Agr G' w'/\w.heap.size<=w'.heap.size/\w'.os=w.os/\w'.output=w.output/\
    (∀ b,b<w.heap.size->ow b=none->w'.heap[b]? =w.heap[b]? /\G' b=G b)/\(∀ b i,ow' b=some i->G' b=none/\b<w'.heap.size/\(w.heap.size<=b\/ow b≠none))/\kr G' w' ow' sp.ps args 0 sp.rs y vs/\(iU sp.ps=false->ar=none->G'.hnd=G.hnd):=by
    intro hk
    unfold ends at hk
    have hI:∃ G1 ρ1,Mod C G1 ρ1 (CJ X fn sp.rs S') w' a':=by
     unfold CJ
     split
     ·exact Mod.iQ _ hM'
     ·exact⟨_,_,hM'⟩
    generalize CJ X fn sp.rs S'=S' at hk hI
    obtain⟨G',ρ',hM'⟩:=hI
    refine⟨hM'.defers, ?_⟩
    unfold aaR at hk
    split at hk
    ·rename_i l hl
     simp only at hk
     split at hk
     ·cases hk
     ·rename_i hd
      obtain⟨us,hr,hus⟩:=NK hM' hl
      generalize hjs:Dv (JY sp.rs l)++(RD S' sp.rs l++RC S' 0 sp.ps)=js at hk hd
      obtain⟨G2,ρ2,hfz,hM2⟩:=hM'.freeze js
      generalize hV:aF S' js=V at hk hd hM2
      generalize how':lT V 0 sp.rs l++jY V 0 sp.ps=owl at hk hd
      have hd':wm owl=false:=by simpa using hd
      have hus2:aG (aZ G2 ρ2) l us:=hus.mono fun s v hs=>aZ.congr hfz.le (ku.same hfz.bx hfz.rw hfz.ob hfz.st) hs
      have hpins2:fN ρ2 0 sp.ps args:=hpins.congr (fun k hk=>hM2.pin k hk) (fun k hk=>hM2.pinR k hk)
      refine⟨_,Vd hr,G2,dO ρ2 owl,us,rfl,hM2.le0,hM2.agr,hM2.size,hM2.os,hM2.output,fun b hb ho=>⟨hM2.frame b hb (by show ¬ ow b≠none;simp[ho]),hM2.old b hb (by show ¬ ow b≠none;simp[ho])⟩,fun b i hb=> ?_, ?_,fun h1 h2=>(hM2.hndI ⟨h1,h2⟩).1⟩
      ·unfold dO at hb
       cases ho:ρ2.own b with
       | none=>rw[ho] at hb;cases hb
       | some o=>exact hM2.owned b o ho
      ·refine Xl hM2.toMem (fun y' hy'=>ot hM2.toMem hy' (fun z hz=>wD hd' (by rw[<- how'];simp[hz])) hpins2) sp.rs 0 (fun z hz=>wD hd' (by rw[<- how'];simp[hz])) hk hus2
    ·cases hk
   cases e with
   | normal=>exact key hk
   | ret=>exact key hk
   | exit id=>cases hk
  ·cases hN
theorem Ir (hX:cA X) (hmix:X.P.follows .mixedOrders=true) {f:FuncId} {fn:Func} (sp:an) (anns:List (Nat×Ann)) (ar:Option Ty) (hf:X.P.funcs[f]? =some fn) (h:∀ x y,sp.m x=some y->Dk X anns ar fn sp x=some y):cM X.P f sp:=by
 intro G w ow args x y hG how hargs hm hT
 have hN:=h x y hm
 cases ar with
 | none=>
  refine (SG hX hmix sp anns none hf hT hG how hargs (fun e=>by cases e) hN).mono ?_
  rintro e w' ⟨G',ow',vs,h1,h2,h3,h4,h5,h6,h7,h8,h9,h10⟩
  exact⟨G',ow',vs,h1,h2,h3,h4,h5,h6,h7,h8,h9,fun h=>h10 h rfl⟩
 | some t=>
  have hN0:=hN
  unfold Dk at hN0
  split at hN0
  ·cases hN0
  ·rename_i hcond
   simp only[adx,agd,ads,Option.isSome_some,ady,adr,adj] at hcond
   obtain⟨_,hpn,hrn⟩:=hcond
   let G0:Gh:=⟨G.blk,fun _=>none⟩
   have hargs0:gf G0 w ow 0 sp.ps x args:=gf.aR (G:=G) (G':=G0) (fun _ _ h=>h) hpn hargs
   refine (SG hX hmix sp anns (some t) hf (G:=G0) ⟨hT.pow,hT.maxLen⟩ hG how hargs0 (fun _=>⟨rfl,Xf hpn,hpn⟩) hN).mono ?_
   rintro e w' ⟨G',ow',vs,h1,h2,h3,h4,h5,h6,h7,h8,h9,h10⟩
   refine⟨⟨G'.blk,G.hnd⟩,ow',vs,h1,⟨h2.blk,fun _ _ h=>h⟩,h3,h4,h5,h6,h7,h8,kr.aR (G:=G') (G':=⟨G'.blk,G.hnd⟩) (fun _ _ h=>h) hpn hrn h9,fun _=>rfl⟩
end Go.Dn
namespace Go.Dn
def w64 (n:Int):Int:=IntKind.wrap .i64 n
def tI:Ty:= .int .i64
def bB (n:Int):Int:=IntKind.wrap .u64 n
def lz (n:Int):Int:=IntKind.wrap .u32 n
def wu8 (n:Int):Int:=IntKind.wrap .u8 n
def Ty.fu:(t:Ty)->t.den->Nat->Nat
 | .int _,n,a=>Int.natAbs n+a
 | .bool,_,a=>a
 | .str,s,a=>List.length s+a
 | .unit,_,a=>a
 | .pair s t,x,a=>s.fu x.1 (t.fu x.2 a)
 | .st t,x,a=>t.fu x a
 | .slice _,l,a=>List.length l+a
 | .ptr t,x,a=>t.fu x a
 | .clo _ _,_,a=>a
 | .hnd,_,a=>a
def aO:(cs:List CK)->cW cs->Nat
 | [],_=>2
 | .val t::r,x=>t.fu x.1 (aO r x.2)
 | .own _ _::r,x=>x.1.length+aO r x.2
 | .map _ _::r,x=>x.1.length+aO r x.2
 | .ref _ _::r,x=>aO r x
 | .fn _ _::r,x=>aO r x
 | .ar _::r,x=>x.1.length+aO r x.2
 | .arF _::r,x=>aO r x.2
 | .rowR _::r,x=>aO r x
 | .rpR _ _::r,x=>aO r x.2
 | .mapR _::r,x=>aO r x
 | .rowC _ _ _::r,x=>x.1.length+aO r x.2
 | .mapC _ _ _::r,x=>x.1.length+aO r x.2
theorem og {X β:Type} (n:Nat) (x:X) (f:X->(X->Option β)->Option β):iter (n+1) x f=f x fun y=>iter n y f:=rfl
end Go.Dn
namespace Go.Dn
def IZ {α β:Type} (F:(α->Option β)->α->Option β):Nat->α->Option β
 | 0,_=>none
 | n+1,x=>F (IZ F n) x
theorem Na {P:Program} {specs:List (Nat×an)} (hX:cA ⟨P,specs,[]⟩) (hmix:P.follows .mixedOrders=true) {f:FuncId} {fn:Func} {ps:List PM} {rs:List RM} (F:(dL ps->Option (cD ps rs))->dL ps->Option (cD ps rs)) (anns:List (Nat×Ann)) (ar:Option Ty) (hf:P.funcs[f]? =some fn) (hb:dZ P f) (h:∀ self x,Dk ⟨P,(f,⟨ps,rs,self⟩)::specs,[]⟩ anns ar fn ⟨ps,rs,F self⟩ x=F self x):∀ n,cM P f ⟨ps,rs,IZ F n⟩
 | 0=>fun _ _ _ _ _ _ _ _ _ hm _=>by cases hm
 | n+1=>by
  have ih:=Na hX hmix F anns ar hf hb h n
  have hX':cA ⟨P,(f,⟨ps,rs,IZ F n⟩)::specs,[]⟩:=by
   refine⟨fun g sp hg=> ?_,nofun⟩
   rcases aeO.1 hg with e | e
   ·cases e;exact⟨ih,hb⟩
   ·exact hX.fn g sp e
  exact Ir (X:=⟨P,(f,⟨ps,rs,IZ F n⟩)::specs,[]⟩) hX' hmix ⟨ps,rs,IZ F (n+1)⟩ anns ar hf (fun x y hm=>(h (IZ F n) x).trans hm)
theorem UA {P:Program} {f:FuncId} {ps:List PM} {rs:List RM} {m:Nat->dL ps->Option (cD ps rs)} (h:∀ n,cM P f ⟨ps,rs,m n⟩) (fuel:dL ps->Nat):cM P f ⟨ps,rs,fun x=>m (fuel x) x⟩:=
 fun G w ow args x y hG how ha hm hT=>(h (fuel x) G w ow args x y hG how ha hm hT).mono fun _ _ ⟨G',ow',vs,hg⟩=>⟨G',ow',vs,{ hg with }⟩
theorem UC {P:Program} {f:FuncId} {m:dL [.val .str,.val .str]->Option (cD [.val .str,.val .str] [.val .str])} (h:∀ (s c r:List UInt8) (w:World),m (s,c,())=some (r,())->Calls P f #[.string (bs s),.string (bs c)] w fun e w'=>e= .returned (.string (bs r))/\RowKit.Below w.heap.size w w'):cM P f ⟨[.val .str,.val .str],[.val .str],m⟩:=by
 intro G w ow args x y hG how ha hm _
 obtain⟨s,c,u⟩:=x
 obtain⟨r,u'⟩:=y
 obtain⟨v,us,h1,_,hv,v',us',h2,_,hv',h3⟩:=ha
 have e1:=h1 rfl
 have e2:=h2 rfl
 have e3:us'=[]:=h3
 have e4:v= .string (bs s):=by simpa [AK,bT,ax] using hv
 have e5:v'= .string (bs c):=by simpa [AK,bT,ax] using hv'
 subst e1;subst e2;subst e3;subst e4;subst e5
 refine (h s c r w hm).mono ?_
 rintro e w' ⟨he,hb⟩
 refine⟨G,fun _=>none,[.string (bs r)], ?_⟩
 exact {
  ret:=he
  le:=Gh.le_refl G
  agr:=fun b o hbo=>by
   have hw:=hG b o hbo
   have hlt:b<w.heap.size:=by
    rcases afu b w.heap.size with h | h
    ·exact h
    ·rw[ac7 h] at hw;cases hw
   rw[hb.block b hlt];exact hw
  size:=hb.size
  os:=hb.os
  output:=hb.output
  old:=fun b hlt _=>⟨hb.block b hlt,rfl⟩
  own:=fun b i hbi=>by cases hbi
  out:=⟨_,_,rfl,rfl,rfl,trivial⟩
  hnd:=fun _=>rfl }
end Go.Dn
namespace Go.Dn
theorem cA.nil (P:Program):cA ⟨P,[],[]⟩:=⟨nofun,nofun⟩
theorem cA.cons {P:Program} {f:FuncId} {sp:an} {l:List (Nat×an)} {ks:List (Nat×Hf)} (h:cM P f sp) (hb:dZ P f) (r:cA ⟨P,l,ks⟩):cA ⟨P,(f,sp)::l,ks⟩:=by
 refine⟨fun g sp' hg=> ?_,r.key⟩
 rcases aeO.1 hg with e | e
 ·cases e;exact⟨h,hb⟩
 ·exact r.fn g sp' e
theorem iA {P:Program} {f:FuncId} {fn:Func} (h:P.funcs[f]? =some fn) (hb:fn.body.isSome=true) (hn:fn.name≠ "runtime.NumGoroutine"):dZ P f:=⟨fn,h,hb,hn⟩
end Go.Dn
namespace Go.Dn
open Go.Proofs Go.Shelf
section
variable {P:Program} {G:Gh} {w w':World} {ow:Nat->Option Nat} {e:TypeId}
end
end Go.Dn
namespace Go.Dn
end Go.Dn
namespace Go.Dn
end Go.Dn
namespace Go.Dn
open Go.ChangeShapes Go.WideShapes Go.ChangeAt Go.RowKit
def Wf:(t:Ty)->t.den->Prop
 | .int k,n=>k.min<=(show Int from n)/\(show Int from n)<=k.max
 | .bool,_=>True
 | .str,s=>List.length s<=maxLen
 | .unit,_=>True
 | .pair a b,x=>Wf a x.1/\Wf b x.2
 | .st t,x=>Wf t x
 | .slice t,l=>List.length l<=maxLen/\∀ x,x∈(show List t.den from l)->Wf t x
 | .ptr _,_=>True
 | .clo _ _,_=>True
 | .hnd,_=>True
def Fits (P:Program):Nat->TypeId->Ty->Bool
 | 0,_,_=>false
 | d+1,T,t=>match P.underlying T,t with
  | some (.int k),.int k'=>decide (k=k')
  | some .bool,.bool=>true
  | some .string,.str=>true
  | some (.slice e),.slice t=>Nat.ble 1 t.size&&(Nat.beq (P.cellsOf e) t.size&&Fits P d e t)
  | some (.struct fs),.st t=>Nat.beq (P.cellsOf T) t.size&&fitsF (Fits P d) P fs.toList 0 t
  | _,_=>false
where
 fitsF (g:TypeId->Ty->Bool) (P:Program):List Field->Nat->Ty->Bool
 | [],_,_=>false
 | [f],off,t=>Nat.beq f.offset off&&(Nat.beq (P.cellsOf f.type) t.size&&g f.type t)
 | f::r,off,.pair a b=>Nat.beq f.offset off&&(Nat.beq (P.cellsOf f.type) a.size&&(g f.type a&&fitsF g P r (off+a.size) b))
 | _,_,_=>false
def Gw (w:World):Gh:=⟨fun b=>w.heap[b]?,fun _=>none⟩
theorem abQ (w:World):Agr (Gw w) w:=fun _ _ h=>h
theorem Kz {w:World} {base:Nat} {a:Addr} {n:Nat} {cs:List Value} (hn:0<n) (h:w.cells? base a n=some cs): ∃ c T fz,a.spot=none/\w.heap[a.block]? =some (.cells c T fz)/\a.off+n<=c.size/\cs=(c.toList.drop a.off).take n:=by
 obtain⟨_,hl,hc⟩:=World.cells?_some h
 have h0:=hc 0 hn
 have hlt:0<cs.length:=by omega
 rw[ael hlt,show a.add 0=a from rfl] at h0
 unfold World.cell? at h0
 split at h0
 ·rename_i c T fz hb
  split at h0
  ·cases h0
  ·rename_i hs
   have hspot:a.spot=none:=by simpa using hs
   have hall:∀ i,i<n->c[a.off+i]? =cs[i]? :=by
    intro i hi
    have:=hc i hi
    rw[<- this]
    unfold World.cell? Addr.add
    by_cases h:i=0
    ·subst h;simp[hb,hspot]
    ·simp[h,hb]
   refine⟨c,T,fz,hspot,hb, ?_, ?_⟩
   ·have h1:=hall (n - 1) (by omega)
    rw[ael (show n - 1<cs.length by omega)] at h1
    have:=(ac8.1 h1).1
    omega
   ·apply ad9
    intro i
    rw[aet,aek]
    by_cases hi:i<n
    ·rw[af9 hi, <- hall i hi];simp
    ·rw[af8 hi,aem (by omega)]
 ·cases h0
section
variable {H:Type} {enc:TypeId×Value->H} {P:Program} {w:World} {base:Nat} {spare:Nat->Bool} {held:Bool}
theorem VX {α:Type} {R:α->List Value->Prop} {sz:Nat} {c:List Value} {y:Nat->α} (off:Nat):∀ n,off+n*sz<=c.length->(∀ i,i<n->R (y i) ((c.drop (off+i*sz)).take sz))->bQ R ((List.range n).map y) ((c.drop off).take (n*sz))
 | 0,_,_=>by simp[bQ]
 | n+1,hle,h=>by
  rw[List.range_succ,aeI,List.map_singleton]
  have e:(c.drop off).take ((n+1)*sz)=(c.drop off).take (n*sz)++(c.drop (off+n*sz)).take sz:=by
   rw[afi,Nat.one_mul,List.take_add,ad0]
  rw[e]
  refine bQ.append (VX off n (by rw[afi] at hle;omega) fun i hi=>h i (by omega)) ?_
  exact⟨_,[],by simp,h n (by omega),rfl⟩
theorem VK:∀ (d:Nat) (T:TypeId) (t:Ty) (fuel:Nat) (cs:List Value) (x:DataW H×List MemPlace),Fits P d T t=true->DataW.trod enc P w base spare held fuel T cs=some x-> ∃ y:t.den,ax (Gw w) t y cs/\Wf t y
 | 0,_,_,_,_,_,hf,_=>by cases hf
 | d+1,T,t,fuel,cs,x,hf,h=>by
  have ih:=fun T t fuel cs x=>VK d T t fuel cs x
  unfold Fits at hf
  split at hf
  ·rename_i k k' hu
   obtain rfl:k=k':=age hf
   obtain⟨n,rfl,_,hw⟩:=DataW.trod_int hu h
   refine⟨n,rfl, ?_⟩
   simp only[Lit.wf,adj,af1] at hw
   exact hw
  ·rename_i hu
   obtain⟨b,rfl,_⟩:=DataW.trod_bool hu h
   exact⟨b,rfl,trivial⟩
  ·rename_i hu
   obtain⟨s,rfl,_,hw⟩:=DataW.trod_string hu h
   refine⟨s.data.toList, ?_,hw⟩
   simp[ax,bs]
  ·rename_i e t hu
   simp only[adj] at hf
   have hsz:0<t.size:=afo hf.1
   have hce:P.cellsOf e=t.size:=afm hf.2.1
   rcases DataW.trod_slice hu h with ⟨rfl,_⟩ | ⟨a,len,cap,elems,rest,n,_,rfl,_,_,hl,hm,hlen,hel,_⟩
   ·exact⟨[],⟨_,rfl,none,0,rfl,afq _,afI _,.inl rfl⟩,⟨afI _,fun x hx=>by cases hx⟩⟩
   ·have hone:∀ i,i<len->∃ y:t.den,(∃ cs',w.cells? base (a.add (i*t.size)) t.size=some cs'/\ax (Gw w) t y cs')/\Wf t y:=by
     intro i hi
     have h1:=hel i hi
     rw[ael (by omega),hce] at h1
     obtain⟨cs',h2,h3⟩:=Option.bind_eq_some_iff.1 h1
     obtain⟨y,h4,h5⟩:=ih e t n cs' _ hf.2.2 h3
     exact⟨y,⟨cs',h2,h4⟩,h5⟩
    by_cases h0:len=0
    ·subst h0
     exact⟨[],⟨_,rfl,some a,cap,rfl,afI _,hm,.inl rfl⟩,⟨afI _,fun x hx=>by cases hx⟩⟩
    ·obtain⟨y0,_,_⟩:=hone 0 (by omega)
     have:∃ y:Nat->t.den,∀ i,i<len->(∃ cs',w.cells? base (a.add (i*t.size)) t.size=some cs'/\ax (Gw w) t (y i) cs')/\Wf t (y i):=by
      classical
      refine⟨fun i=>if hi:i<len then Classical.choose (hone i hi) else y0,fun i hi=> ?_⟩
      simp only[dif_pos hi]
      exact Classical.choose_spec (hone i hi)
     obtain⟨y,hy⟩:=this
     obtain⟨⟨cs0,hc0,_⟩,_⟩:=hy 0 (by omega)
     rw[Nat.zero_mul,show a.add 0=a from rfl] at hc0
     obtain⟨c,T',fz,hspot,hb,_,_⟩:=Kz hsz hc0
     have hat:∀ i,i<len->a.off+i*t.size+t.size<=c.size/\ax (Gw w) t (y i) ((c.toList.drop (a.off+i*t.size)).take t.size):=by
      intro i hi
      obtain⟨⟨cs',h1,h2⟩,_⟩:=hy i hi
      obtain⟨c',T2,fz2,h3,h4,h5,h6⟩:=Kz hsz h1
      have hblk:(a.add (i*t.size)).block=a.block:=by unfold Addr.add;split<;>rfl
      have hoff:(a.add (i*t.size)).off=a.off+i*t.size:=by
       unfold Addr.add;split
       ·rename_i hz;rw[hz];rfl
       ·rfl
      rw[hblk,hb] at h4
      cases h4
      rw[hoff] at h5 h6
      exact⟨h5,h6 ▸ h2⟩
     have hend:a.off+len*t.size<=c.size:=by
      have:=(hat (len - 1) (by omega)).1
      have e:len*t.size=(len - 1)*t.size+t.size:=by
       conv=>lhs;rw[show len=len - 1+1 by omega]
       rw[afi,Nat.one_mul]
      omega
     refine⟨(List.range len).map y,⟨_,rfl,some a,cap,by simp,by simpa using hl,hm,.inr ⟨a.block,a.off,c,T',fz, ?_,hb,by simpa using hend, ?_⟩⟩,⟨by simp only[aeB,List.length_range];omega,fun x hx=> ?_⟩⟩
     ·congr 1;cases a;cases hspot;rfl
     ·have:=VX (R:=ax (Gw w) t) (y:=y) (c:=c.toList) (sz:=t.size) a.off len (by simpa using hend) fun i hi=>(hat i hi).2
      simpa using this
     ·obtain⟨i,hi,rfl⟩:=aeT.1 hx
      exact (hy i (by simpa using hi)).2
  ·rename_i fs t hu
   simp only[adj] at hf
   obtain⟨xs,n,_,_,hlen,hxl,hx⟩:=DataW.trod_struct hu h
   have hct:P.cellsOf T=t.size:=afm hf.1
   have key:∀ (l:List Field) (k off:Nat) (t:Ty),fs.toList.drop k=l->Fits.fitsF (Fits P d) P l off t=true->off+t.size<=cs.length->
    ∃ y:t.den,ax (Gw w) t y ((cs.drop off).take t.size)/\Wf t y:=by
    intro l
    induction l with
    | nil=>intro k off t _ h2;cases h2
    | cons f r ihl=>
     intro k off t hk h2 hle
     have hfk:fs[k]? =some f:=by
      have:=congrArg (·[0]?) hk
      simpa [aek] using this
     have hxk:=hx k f hfk
     have hkl:k<xs.length:=by rw[hxl];exact (ac8.1 hfk).1
     rw[ael hkl] at hxk
     have hdr:fs.toList.drop (k+1)=r:=by
      have:=congrArg List.tail hk
      simpa [List.tail_drop] using this
     cases r with
     | nil=>
      simp only[Fits.fitsF,adj] at h2
      obtain⟨h3,h4,h5⟩:=h2
      rw[afm h3,afm h4] at hxk
      exact ih f.type t n _ _ h5 hxk
     | cons f' r'=>
      obtain⟨a,b,rfl⟩:∃ a b,t= .pair a b:=by
       cases t with
       | pair a b=>exact⟨a,b,rfl⟩
       | _=>simp[Fits.fitsF] at h2
      simp only[Fits.fitsF,adj] at h2
      obtain⟨h3,h4,h5,h6⟩:=h2
      rw[afm h3,afm h4] at hxk
      obtain⟨y1,g1,g2⟩:=ih f.type a n _ _ h5 hxk
      simp only[Ty.size] at hle
      obtain⟨y2,g3,g4⟩:=ihl (k+1) (off+a.size) b hdr h6 (by omega)
      refine⟨(y1,y2),⟨_,_, ?_,g1,g3⟩,⟨g2,g4⟩⟩
      simp only[Ty.size]
      rw[List.take_add,ad0]
   obtain⟨y,h1,h2⟩:=key fs.toList 0 0 t rfl hf.2 (by omega)
   refine⟨y, ?_,h2⟩
   rw[ad6,afd (by omega)] at h1
   exact h1
  ·cases hf
theorem aax {r:Reach} {b0:Nat} {d:Nat} {T:TypeId} {t:Ty} {v:Value} {dd:DataW H} {ps:List MemPlace} (hf:Fits P d T t=true) (hval:Value.okWide P w r b0 T v) (h:DataW.Trod enc P w base spare held T v dd ps): ∃ y:t.den,bT (Gw w) t y v/\Wf t y:=by
 obtain⟨fuel,h⟩:=h
 obtain⟨y,h1,h2⟩:=VK d T t fuel _ _ hf h
 refine⟨y, ?_,h2⟩
 cases d with
 | zero=>cases hf
 | succ d=>
  unfold Fits at hf
  split at hf
  ·rename_i hu;obtain⟨n,rfl⟩:=okWide_int hu hval;exact h1
  ·rename_i hu;obtain⟨n,rfl⟩:=okWide_bool hu hval;exact h1
  ·rename_i hu;obtain⟨n,rfl⟩:=okWide_string hu hval;exact h1
  ·rename_i hu;obtain⟨a,len,cap,rfl⟩:=okWide_slice hu hval;exact h1
  ·rename_i hu;obtain⟨c,rfl,_⟩:=okWide_struct hu hval;exact⟨c.toList,by simp,h1⟩
  ·cases hf
end
def pms:List Ty->List PM
 | []=>[]
 | t::r=> .val t::pms r
def We:(ts:List Ty)->dL (pms ts)->Prop
 | [],_=>True
 | t::r,x=>Wf t x.1/\We r x.2
def JD (P:Program):List TypeId->List Ty->Bool
 | [],[]=>true
 | T::r,t::q=>Fits P 9 T t&&JD P r q
 | _,_=>false
theorem Ql {H:Type} {enc:TypeId×Value->H} {P:Program} {w:World} {base:Nat} {spare:Nat->Bool} {held:Bool} {r:Reach} {b0:Nat}:∀ {Ts:List TypeId} {ts:List Ty} {vs:List Value} {ds:List (DataW H)} {ps:List MemPlace} {i:Nat},JD P Ts ts=true-> (∀ (j:Nat) t v,Ts[j]? =some t->vs[j]? =some v->Value.okWide P w r b0 t v)->DataW.TrodAll enc P w base spare held Ts vs ds ps-> ∃ x,gf (Gw w) w (fun _=>none) i (pms ts) x vs/\We ts x
 | [],[],[],[],_,_,_,_,_=>⟨(),rfl,trivial⟩
 | T::Ts,t::ts,v::vs,d::ds,ps,i,hf,hv,⟨p,q,h1,h2,_⟩=>by
  simp only[JD,adj] at hf
  obtain⟨y,h3,h4⟩:=aax hf.1 (hv 0 T v rfl rfl) h1
  obtain⟨x,h5,h6⟩:=Ql (i:=i+1) hf.2 (fun j t v ht hv'=>hv (j+1) t v ht hv') h2
  exact⟨(y,x),⟨v,vs,fun _=>rfl,fun h=>absurd h (by simp[PM.arg]),h3,h5⟩,⟨h4,h6⟩⟩
theorem law_calls {P:Program} {f:FuncId} {fn:Func} {ts:List Ty} {m:dL (pms ts)->Option (cD (pms ts) [.val .bool])} (ok:cM P f ⟨pms ts,[.val .bool],m⟩) (hm:∀ x,We ts x->∃ y,m x=some (true,y)) (hfit:JD P fn.params.toList ts=true) {tb:TypeId} (hres:fn.resultTypes= #[tb]) (htb:P.underlying tb=some .bool) (kids:Kids P (· <P.types.size)) (full:∀ t e,t<P.types.size->P.underlying t=some (.slice e)->0<P.cellsOf e) (hlt:∀ t∈fn.params.toList,t<P.types.size) {H:Type} {enc:TypeId×Value->H} {s:ChangeSpec} (hvars:s.vars=[]) {W:World} (hT:bZ P (Gw W)) {base:Nat} {args:Array Value} {ds gs:List (DataW H)} {before:List MemPlace} (hspec:s.fn H (ds++[])={ results:=[.lit (.bool true)],args:=ds }) (hval:∀ (j:Nat) t v,fn.params[j]? =some t->args[j]? =some v->Value.okWide P W .any base t v) (hW:DataW.Whole enc P fn.params.toList s.vars false W args.toList ds gs before): Calls P f args W fun e W'=>∃ v,e= .returned v/\s.post enc P fn false true false false W args v W':=by
 have hW':=hW
 obtain⟨p,q,hA,hV,hpq,hfz,hnd⟩:=hW
 rw[hvars] at hV
 have hg:gs=[]/\q=[]:=by
  cases gs with
  | nil=>exact⟨rfl,hV⟩
  | cons g gs=>exact absurd hV (by simp[DataW.TrodVars])
 obtain⟨rfl,rfl⟩:=hg
 rw[adU] at hpq
 subst hpq
 obtain⟨x,hx,hwf⟩:=Ql (i:=0) hfit (fun j t v ht hv=>hval j t v (by simpa using ht) (by simpa using hv)) hA
 obtain⟨y,hy⟩:=hm x hwf
 refine (ok (Gw W) W (fun _=>none) args.toList x (true,y) (abQ W) (fun _ _ h=>by cases h) hx hy hT).mono ?_
 rintro e W' ⟨G',ow',vs,hgv⟩
 have hold:∀ b,b<W.heap.size->W'.heap[b]? =W.heap[b]? :=fun b hb=>(hgv.old b hb rfl).1
 have hplt:=hW'.lt
 obtain⟨v,us,rfl,hv,hus,_⟩:=hgv.out
 subst hus
 have hv':v= .bool true:=by simpa [Wd,bT,ax] using hv
 subst hv'
 refine⟨.bool true,hgv.ret,ds,[],before,[],before,[],hW', ?_, ?_, ?_, ?_,fun h=>by cases h⟩
 ·rw[hspec,hres]
  exact trodAll_mk1 (shut_bool htb true)
 ·rw[hspec]
  have hsame:∀ z,z∈before->W.sameAt W' z:=by
   intro z hz
   have:=hplt z hz
   cases z with
   | cell b off=>simp only[World.sameAt,World.cell?];rw[hold b this]
   | map b=>exact hold b this
  have hre:=DataW.TrodAll.respare (spare':=fun b=>decide (b<W.heap.size)) kids full hlt hA (fun z hz=>by simpa using hplt z hz)
  have hcar:∀ {Ts:List TypeId} {vs:List Value} {ds:List (DataW H)} {ps:List MemPlace},DataW.TrodAll enc P W 0 (fun b=>decide (b<W.heap.size)) true Ts vs ds ps->(∀ z,z∈ps->W.sameAt W' z)->DataW.TrodAll enc P W' 0 (fun b=>decide (b<W.heap.size)) true Ts vs ds ps:=by
   intro Ts
   induction Ts with
   | nil=>
    intro vs ds ps h _
    cases vs<;>cases ds<;>first | exact h | exact absurd h (by simp[DataW.TrodAll])
   | cons T Ts ih=>
    intro vs ds ps h hs
    cases vs with
    | nil=>cases ds<;>exact absurd h (by simp[DataW.TrodAll])
    | cons v vs=>cases ds with
    | nil=>exact absurd h (by simp[DataW.TrodAll])
    | cons d ds=>
    obtain⟨p,q,⟨n,h1⟩,h2,rfl⟩:=h
    exact⟨p,q,⟨n,DataW.trod_carry n _ _ _ h1 fun z hz=>hs z (List.mem_append_left _ hz)⟩,ih h2 (fun z hz=>hs z (List.mem_append_right _ hz)),rfl⟩
  exact hcar hre hsame
 ·rw[hspec,hvars];rfl
 ·refine⟨hgv.os,hgv.output,fun i hi=> ?_⟩
  rw[hold i hi]
  cases hh:W.heap[i]? with
  | none=>trivial
  | some o=>cases o<;>simp[World.keptBut]
end Go.Dn
namespace Go.Dn
theorem Lc {H:Type} {enc:TypeId×Value->H} {P:Program} {w:World} {base:Nat} {spare:Nat->Bool} {held:Bool}:∀ {Ts:List TypeId} {vs:List Value} {ds:List (DataW H)} {ps:List MemPlace},DataW.TrodAll enc P w base spare held Ts vs ds ps->ds.length=Ts.length
 | [],[],[],_,_=>rfl
 | _::_,_::_,_::_,_,⟨_,_,_,h,_⟩=>by rw[aez,aez,Lc h]
def aaT:Nat->DataW Unit->List Value
 | d+1,.agg l=>l.flatMap (aaT d)
 | _,.lit (.int k n)=>[.int k n]
 | _,.lit (.bool b)=>[.bool b]
 | _,_=>[]
def ab0 (P:Program) (l:List (String×DataW Unit)) (w:World):World:=
 l.foldl (fun w p=>match P.globalNamed p.1 with
  | some g=>{ w with heap:=w.heap.modify g fun
   | .cells _ t fr=> .cells (aaT 9 p.2).toArray t fr
   | o=>o }
  | none=>w) w
end Go.Dn
namespace Go.Dn
theorem Yt {P:Program} {f:FuncId} {t:Ty} {m:dL [.val .str,.val .str]->Option (cD [.val .str,.val .str] [.val t])} (h:∀ (s c:List UInt8) (r:t.den) (w:World),m (s,c,())=some (r,())->∃ v,(∀ G:Gh,bT G t r v)/\Calls P f #[.string (bs s),.string (bs c)] w fun e w'=>e= .returned v/\RowKit.Below w.heap.size w w'):cM P f ⟨[.val .str,.val .str],[.val t],m⟩:=by
 intro G w ow args x y hG how ha hm _
 obtain⟨s,c,u⟩:=x
 obtain⟨r,u'⟩:=y
 obtain⟨v,us,h1,_,hv,v',us',h2,_,hv',h3⟩:=ha
 have e1:=h1 rfl
 have e2:=h2 rfl
 have e3:us'=[]:=h3
 have e4:v= .string (bs s):=by simpa [AK,bT,ax] using hv
 have e5:v'= .string (bs c):=by simpa [AK,bT,ax] using hv'
 subst e1;subst e2;subst e3;subst e4;subst e5
 obtain⟨z,hz,hc⟩:=h s c r w hm
 refine hc.mono ?_
 rintro e w' ⟨he,hb⟩
 refine⟨G,fun _=>none,[z], ?_⟩
 exact {
  ret:=he
  le:=Gh.le_refl G
  agr:=fun b o hbo=>by
   have hw:=hG b o hbo
   have hlt:b<w.heap.size:=by
    rcases afu b w.heap.size with h | h
    ·exact h
    ·rw[ac7 h] at hw;cases hw
   rw[hb.block b hlt];exact hw
  size:=hb.size
  os:=hb.os
  output:=hb.output
  old:=fun b hlt _=>⟨hb.block b hlt,rfl⟩
  own:=fun b i hbi=>by cases hbi
  out:=⟨_,_,rfl,hz G,rfl,trivial⟩
  hnd:=fun _=>rfl }
end Go.Dn
namespace Go.Dn
def Fy:(t:Ty)->t.den->Value
 | .int k,n=> .int k n
 | .bool,b=> .bool b
 | .str,s=> .string (bs s)
 | _,_=>undef
def isLit:Ty->Bool
 | .int _=>true
 | .bool=>true
 | .str=>true
 | _=>false
theorem Pb {G:Gh} {t:Ty} (ht:isLit t=true) {x:t.den} {v:Value} (h:bT G t x v):v=Fy t x:=by
 cases t<;>simp[isLit] at ht<;>simpa [bT,ax,Fy] using h
theorem KI {P:Program} {f:FuncId} {a a' t:Ty} {m:dL [.val a,.val a']->Option (cD [.val a,.val a'] [.val t])} (ha:isLit a=true) (ha':isLit a'=true) (h:∀ (s:a.den) (c:a'.den) (r:t.den) (w:World),m (s,c,())=some (r,())->∃ v,(∀ G:Gh,bT G t r v)/\Calls P f #[Fy a s,Fy a' c] w fun e w'=>e= .returned v/\RowKit.Below w.heap.size w w'):cM P f ⟨[.val a,.val a'],[.val t],m⟩:=by
 intro G w ow args x y hG how hargs hm _
 obtain⟨s,c,u⟩:=x
 obtain⟨r,u'⟩:=y
 obtain⟨v,us,h1,_,hv,v',us',h2,_,hv',h3⟩:=hargs
 have e1:=h1 rfl
 have e2:=h2 rfl
 have e3:us'=[]:=h3
 have e4:v=Fy a s:=Pb ha hv
 have e5:v'=Fy a' c:=Pb ha' hv'
 subst e1;subst e2;subst e3;subst e4;subst e5
 obtain⟨z,hz,hc⟩:=h s c r w hm
 refine hc.mono ?_
 rintro e w' ⟨he,hb⟩
 refine⟨G,fun _=>none,[z], ?_⟩
 exact {
  ret:=he
  le:=Gh.le_refl G
  agr:=fun b o hbo=>by
   have hw:=hG b o hbo
   have hlt:b<w.heap.size:=by
    rcases afu b w.heap.size with h | h
    ·exact h
    ·rw[ac7 h] at hw;cases hw
   rw[hb.block b hlt];exact hw
  size:=hb.size
  os:=hb.os
  output:=hb.output
  old:=fun b hlt _=>⟨hb.block b hlt,rfl⟩
  own:=fun b i hbi=>by cases hbi
  out:=⟨_,_,rfl,hz G,rfl,trivial⟩
  hnd:=fun _=>rfl }
end Go.Dn
namespace Go.Dn
open Go.Lib Go.Proofs
theorem abK {P:Program} {W:World} {rest:List (String×DataW Unit)} {g:Nat} {t e:TypeId} (hg:P.globalNamed "internal/strconv.uint64pow10" =some g) (hty:(P.globals[g]?).map (·.type)=some t) (ht:P.underlying t=some (.array 20 e)) (he:P.underlying e=some (.int .u64)) (hce:P.cellsOf e=1) (hct:P.cellsOf t=20) (h:laidMet P (("internal/strconv.uint64pow10",tabData .u64 BL)::rest) W): ∀ g,P.globalNamed "internal/strconv.uint64pow10" =some g->∃ T fz,Gw W g=some (.cells (BL.map fun z=>Value.int .u64 z).toArray T fz):=by
 intro g' hg'
 have:=tabIs_of_head hg hty ht he hce hct h
 unfold TabIs World.var? at this
 rw[hg',afJ] at this
 show ∃ T fz,W.heap[g']? =_
 split at this
 ·rename_i cs T fz hh
  cases this
  exact⟨T,fz,hh⟩
 ·cases this
theorem abJ {P:Program} {W:World} {g:Nat} {t:TypeId} {zero:Array Value} (h:W.ShapedOpen P) (hg:P.globalNamed "internal/bytealg.MaxLen" =some g) (hlt:g<P.globals.size) (h0:((begin P (fun _ _=>0) default).world.heap[g]?).bind Obj.row? =some (zero,t)) (hz:zero.size=1) (hb:P.buildable t=true) (hc:P.cellTypes P.depth t=some [t]) (hu:P.underlying t=some (.int .i64)): ∀ g,P.globalNamed "internal/bytealg.MaxLen" =some g->∃ n T fz,Gw W g=some (.cells #[Value.int .i64 n] T fz):=by
 intro g' hg'
 obtain rfl:g=g':=Option.some.inj (hg.symm.trans hg')
 obtain⟨m,hm⟩:=cell_of_shapedOpen_int h hlt h0 hz hb hc hu
 obtain⟨cs,hh,hs,_⟩:=h.1 g zero t hlt h0
 have h1:cs.size=1:=by omega
 refine⟨m,t,(0,0), ?_⟩
 show W.heap[g]? =_
 rw[hh]
 have:cs= #[cs[0]]:=by
  apply Array.ext
  ·simpa using h1
  ·intro i h2 h3
   have:i=0:=by omega
   subst this
   rfl
 have hcell:W.cell? ⟨g,0,none⟩=some cs[0]:=by simp[World.cell?,hh,h1]
 rw[hm] at hcell
 rw[this, <- Option.some.inj hcell]
def acL (P:Program) (u e:TypeId) (l:List (String×DataW Unit)) (w:World):World:=
 l.foldl (fun w p=>match P.globalNamed p.1,p.2 with
  | some g,.iface _ (.ptr (.agg [.lit (.string s)]))=>{ w with heap:=(w.heap.push (.cells #[.string ⟨s.toArray⟩] e (0,0))).modify g fun
   | .cells _ t fr=> .cells #[.iface u (.pointer (some ⟨w.heap.size,0,none⟩))] t fr
   | o=>o }
  | _,_=>w) w
def isIf:DataW Unit->Bool
 | .iface _ _=>true
 | _=>false
end Go.Dn
namespace Go.Dn
end Go.Dn
namespace Go.Dn
end Go.Dn
