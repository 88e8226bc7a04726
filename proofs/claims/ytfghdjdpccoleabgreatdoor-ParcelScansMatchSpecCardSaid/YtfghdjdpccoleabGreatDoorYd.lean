/-
  The executor, its fifth part: whole functions are sound; a law whose plain model is always true holds. No condition.
-/
import Derived.Test.YtfghdjdpccoleabGreatDoorYe
import Derived.ReadAgain
import Derived.ChangeSame
import Derived.ChangeArms
import Derived.ChangeOld
import Derived.OpenShut
import Derived.ProofKit
import Derived.WalkKit
import Derived.Deep.DeepHandedRow
import Derived.Lib.LaidTab
import Derived.Shelf.Spec.SlicesInsertGrow
import Derived.Shelf.Vars
import Derived.Sort.Grow
import Derived.Deep.Draws
import Derived.Shelf.SlSortCmp.NoneTotal
import Derived.Stop.LaidErr
import Derived.Shelf.Spec.SlicesGrow
import Derived.Shelf.SlGeneric
import Derived.Test.YtfghdjdpccoleabGreatDoorYb
import Derived.Maps.Own
import Derived.Maps.Range
import Derived.Sort.KeysCollected
import Derived.DeepKeys5
import Derived.Shelf.SlBodiesN
import Derived.Shelf.RegionOpenPlain
import Derived.Deep.LoopGhost
import Derived.Deep.RegionLaw
import Derived.Lib.Walk
import Derived.Sort.WalkB12
import Derived.Lib.SliceRun
set_option linter.all false
namespace Go.Dn
variable {X:Cx} {C:Fr X.P}
def Ex.JM:Ex->Exit
 | .normal=> .normal
 | .exit id=> .exit id
 | .ret=> .ret
theorem UU {β:Type} {A:Ann} {c:Code} {len:Nat} {anns:List (Nat×Ann)} {K:Ex->St->Option β} {r:β} {Q:Exit->Act->World->Prop}
 (ih:∀ {S:St} {K:Ex->St->Option β} {r:β},den X anns c β S K=some r->∀ {Q:Exit->Act->World->Prop},
   (∀ e S' G ρ w a,K e S'=some r->Mod C G ρ S' w a->Q e.JM a w)->∀ {G ρ w a},Mod C G ρ S w a->c.wp X.P Q a w)
 (hQ:∀ e S' G ρ w a,K e S'=some r->Mod C G ρ S' w a->Q e.JM a w):∀ (n:Nat) (x:cW A.cks) (G:Gh) (ρ:Env) (w:World) (a:Act),
 iter n x (fun x again=>den X anns c β (head A len x) fun e S'=>match e with
  | .normal=>match carry A S' with
   | some y=>bif Nat.beq S'.tmps.length len then again y else none
   | none=>none
  | .exit j=>K (.exit j) S'
  | .ret=>K .ret S')=some r->Mod C G ρ (head A len x) w a->Code.rounds X.P c Q n a w
 | 0,x,G,ρ,w,a,h,hM=>by simp[iter] at h
 | n+1,x,G,ρ,w,a,h,hM=>by
  simp only[iter] at h
  refine ih h (fun e S' G' ρ' w' a' hk hM'=> ?_) hM
  cases e with
  | normal=>
   simp only at hk
   split at hk
   ·rename_i y hy
    cases hb:Nat.beq S'.tmps.length len with
    | false=>rw[hb] at hk;cases hk
    | true=>
     rw[hb] at hk
     simp only[aio] at hk
     obtain⟨G2,ρ2,h2⟩:=TC hM' hy
     rw[ahF hb] at h2
     exact UU ih hQ n y G2 ρ2 w' a' hk h2
   ·cases hk
  | exit id=>exact hQ (.exit id) S' G' ρ' w' a' hk hM'
  | ret=>exact hQ .ret S' G' ρ' w' a' hk hM'
theorem RR {β γ:Type} {x:Option (β ⊕ γ)} {f:γ->Option β} {r:β} (h:aJ x f=some r):∃ q,x=some q/\(q= .inl r\/∃ v,q= .inr v/\f v=some r):=by
 unfold aJ at h
 split at h
 ·cases h
 ·cases h;exact⟨_,rfl,.inl rfl⟩
 ·rename_i v;exact⟨_,rfl,.inr ⟨v,rfl,h⟩⟩
theorem AP {β γ:Type} {x:Option β} {q:β ⊕ γ} (h:F9 x=some q):∃ r,x=some r/\q= .inl r:=by
 unfold F9 at h
 split at h
 ·cases h;exact⟨_,rfl,rfl⟩
 ·cases h
theorem abk {β:Type} {A:Ann} {n:Nat} {S:St} {q:β ⊕ cW A.cks} (h:meet A n S=some q):∃ v,carry A S=some v/\S.tmps.length=n/\q= .inr v:=by
 unfold meet at h
 split at h
 ·rename_i v hv
  cases hb:Nat.beq S.tmps.length n with
  | false=>rw[hb] at h;cases h
  | true=>rw[hb] at h;simp only[aio,Option.some.injEq] at h;exact⟨v,hv,ahF hb,h.symm⟩
 ·cases h
theorem Oc {β:Type} {A:Ann} {n:Nat} {K:Ex->St->Option β} {r:β} {Q:Exit->Act->World->Prop} (hQ:∀ e S' G ρ w a,K e S'=some r->Mod C G ρ S' w a->Q e.JM a w) {q:β ⊕ cW A.cks} (hq:q= .inl r\/∃ v,q= .inr v/\K .normal (head A n v)=some r) {S':St} {G:Gh} {ρ:Env} {w:World} {a:Act} (hM:Mod C G ρ S' w a) (h:meet A n S'=some q):Q .normal a w:=by
 obtain⟨v,h1,h2,h3⟩:=abk h
 rcases hq with hq | ⟨v',hq,hk⟩
 ·rw[h3] at hq;cases hq
 ·rw[h3] at hq
  cases hq
  obtain⟨G2,ρ2,hm⟩:=TC hM h1
  rw[h2] at hm
  exact hQ .normal _ G2 ρ2 w a hk hm
theorem aaG {β:Type} {a b:Option β} {r:β} (h:both a b=some r):a=some r/\b=some r:=by
 unfold both at h
 split at h
 ·rename_i e;exact⟨h,e ▸ h⟩
 ·cases h
theorem Ro (hX:b7 X) (hmix:X.P.follows .mixedOrders=true) (anns:List (Nat×Ann)):∀ (c:Code) {β:Type} {S:St} {K:Ex->St->Option β} {r:β},den X anns c β S K=some r->∀ {Q:Exit->Act->World->Prop}, (∀ e S' G ρ w a,K e S'=some r->Mod C G ρ S' w a->Q e.JM a w)->∀ {G ρ w a},Mod C G ρ S w a->c.wp X.P Q a w:=by
 intro c
 induction c with
 | skip=>
  intro β S K r h Q hQ G ρ w a hM
  exact wp_skip (hQ .normal S G ρ w a h hM)
 | region id ops dr=>
  intro β S K r h Q hQ G ρ w a hM
  simp only[den] at h
  split at h
  ·rename_i A hA
   obtain⟨v,hv,h⟩:=bind_some h
   have:=adM hX hmix hv (Q:=Q) (fun S' G ρ w a hk hJ hM=>hQ .normal _ G ρ w a h (aa8 hJ hk hM)) hM id
   simpa using this
  ·cases dr with
   | true=>
    simp only[aio] at h
    have:=aal hX hmix h (Q:=Q) (fun S' G ρ w a hk hM=>hQ .normal S' G ρ w a hk hM) hM id
    simpa using this
   | false=>
    simp only[ain] at h
    refine wp_region_list ?_
    have:=xk hX ops.toList ops.toList h (Q:=Q) (fun S' G ρ w a hk hM=>hQ .normal S' G ρ w a hk hM) hM
    simpa using this
 | seq x y ihx ihy=>
  intro β S K r h Q hQ G ρ w a hM
  simp only[den] at h
  refine wp_seq (ihx h (fun e S' G' ρ' w' a' hk hM'=> ?_) hM)
  cases e with
  | normal=>exact ihy hk hQ hM'
  | exit id=>exact hQ (.exit id) S' G' ρ' w' a' hk hM'
  | ret=>exact hQ .ret S' G' ρ' w' a' hk hM'
 | cond b x y ihx ihy=>
  intro β S K r h Q hQ G ρ w a hM
  simp only[den] at h
  split at h
  ·rename_i t ht
   have hv:=hM.tmps.ev b
   rw[ht] at hv
   split at h
   ·rename_i A hA
    obtain⟨q,h1,hq⟩:=RR h
    refine wp_cond_split (t:=t) hv (fun e=> ?_) (fun e=> ?_)
    ·subst e
     simp only[aio] at h1
     refine ihx h1 (fun e S' G' ρ' w' a' hk hM'=> ?_) hM
     cases e with
     | normal=>exact Oc hQ hq hM' hk
     | exit j=>
      obtain⟨r',hr,hr2⟩:=AP hk
      rcases hq with hq | ⟨v,hq,_⟩
      ·rw[hr2] at hq;cases hq;exact hQ (.exit j) S' G' ρ' w' a' hr hM'
      ·rw[hr2] at hq;cases hq
     | ret=>
      obtain⟨r',hr,hr2⟩:=AP hk
      rcases hq with hq | ⟨v,hq,_⟩
      ·rw[hr2] at hq;cases hq;exact hQ .ret S' G' ρ' w' a' hr hM'
      ·rw[hr2] at hq;cases hq
    ·subst e
     simp only[ain] at h1
     refine ihy h1 (fun e S' G' ρ' w' a' hk hM'=> ?_) hM
     cases e with
     | normal=>exact Oc hQ hq hM' hk
     | exit j=>
      obtain⟨r',hr,hr2⟩:=AP hk
      rcases hq with hq | ⟨v,hq,_⟩
      ·rw[hr2] at hq;cases hq;exact hQ (.exit j) S' G' ρ' w' a' hr hM'
      ·rw[hr2] at hq;cases hq
     | ret=>
      obtain⟨r',hr,hr2⟩:=AP hk
      rcases hq with hq | ⟨v,hq,_⟩
      ·rw[hr2] at hq;cases hq;exact hQ .ret S' G' ρ' w' a' hr hM'
      ·rw[hr2] at hq;cases hq
   ·refine wp_cond_split (t:=t) hv (fun e=> ?_) (fun e=> ?_)
    ·subst e;exact ihx h hQ hM
    ·subst e;exact ihy h hQ hM
  ·rename_i t ht
   have hv:=hM.tmps.ev b
   rw[ht] at hv
   obtain⟨c,hc,hf⟩:=(hv:aZ G ρ (.nb t) _)
   cases t with
   | false=>
    have:=hf rfl
    subst this
    exact wp_cond_split (t:=false) hc (fun e=>by cases e) (fun _=>ihy h hQ hM)
   | true=>
    obtain⟨h1,h2⟩:=aaG h
    exact wp_cond_split (t:=c) hc (fun _=>ihx h1 hQ hM) (fun _=>ihy h2 hQ hM)
  ·cases h
 | block id x ih=>
  intro β S K r h Q hQ G ρ w a hM
  simp only[den] at h
  split at h
  ·rename_i A hA
   obtain⟨q,h1,hq⟩:=RR h
   refine wp_block (ih h1 (fun e S' G' ρ' w' a' hk hM'=> ?_) hM)
   cases e with
   | normal=>exact Oc hQ hq hM' hk
   | exit j=>
    simp only at hk
    simp only[Ex.JM,Exit.inBlock]
    split at hk
    ·rename_i hb
     rw[aiB (ahF hb)]
     exact Oc hQ hq hM' hk
    ·rename_i hb
     rw[aiA (fun e=>hb (by rw[e];simp))]
     obtain⟨r',hr,hr2⟩:=AP hk
     rcases hq with hq | ⟨v,hq,_⟩
     ·rw[hr2] at hq;cases hq;exact hQ (.exit j) S' G' ρ' w' a' hr hM'
     ·rw[hr2] at hq;cases hq
   | ret=>
    obtain⟨r',hr,hr2⟩:=AP hk
    rcases hq with hq | ⟨v,hq,_⟩
    ·rw[hr2] at hq;cases hq;exact hQ .ret S' G' ρ' w' a' hr hM'
    ·rw[hr2] at hq;cases hq
  ·refine wp_block (ih h (fun e S' G' ρ' w' a' hk hM'=> ?_) hM)
   cases e with
   | normal=>exact hQ .normal S' G' ρ' w' a' hk hM'
   | exit j=>
    simp only at hk
    simp only[Ex.JM,Exit.inBlock]
    split at hk
    ·rename_i hb
     rw[aiB (ahF hb)]
     exact hQ .normal S' G' ρ' w' a' hk hM'
    ·rename_i hb
     rw[aiA (fun e=>hb (by rw[e];simp))]
     exact hQ (.exit j) S' G' ρ' w' a' hk hM'
   | ret=>exact hQ .ret S' G' ρ' w' a' hk hM'
 | loop x ih=>
  intro β S K r h Q hQ G ρ w a hM
  simp only[den] at h
  split at h
  ·rename_i A hA
   split at h
   ·rename_i y hy
    obtain⟨G2,ρ2,h2⟩:=TC hM hy
    exact wp_loop_rounds (A.fuel y) (UU ih hQ (A.fuel y) y G2 ρ2 w a h h2)
   ·cases h
  ·cases h
 | exit id=>
  intro β S K r h Q hQ G ρ w a hM
  exact wp_exit (hQ (.exit id) S G ρ w a h hM)
 | ret=>
  intro β S K r h Q hQ G ρ w a hM
  exact wp_ret (hQ .ret S G ρ w a h hM)
 | _=>
  intro β S K r h
  simp[den] at h
end Go.Dn
namespace Go.Dn
variable {X:Cx} {C:Fr X.P} {G:Gh} {ρ:Env} {w:World}
def gN (ρ:Env):Nat->List PM->List Value->Prop
 | _,[],_=>True
 | i,.mrow _ _::r,vs=>(vs.head? =some (ρ.rw (pid i 0))/\∃ a n c,ρ.rw (pid i 0)= .slice a n c)/\gN ρ (i+1) r vs.tail
 | i,.map _ _::r,vs=>(vs.head? =some (ρ.ob (pid i 0))/\∃ b,ρ.ob (pid i 0)= .map (some b))/\gN ρ (i+1) r vs.tail
 | i,.box _::r,vs=>vs.head? =some (.pointer (some ⟨ρ.bx (2000+i),0,none⟩))/\gN ρ (i+1) r vs.tail
 | i,.ar _::r,vs=>gN ρ (i+1) r vs
 | i,.arR _::r,vs=>gN ρ (i+1) r vs
 | i,.val _::r,vs=>gN ρ (i+1) r vs.tail
 | i,.row _ _::r,vs=>gN ρ (i+1) r vs.tail
theorem Zn (i:Nat):10000000<=pid i 0:=by simp only[pid,pD,nid];omega
theorem gN.congr {ρ ρ':Env} (hb:∀ k,2000<=k->ρ'.bx k=ρ.bx k) (hr:∀ k,10000000<=k->ρ'.rw k=ρ.rw k/\ρ'.ob k=ρ.ob k):∀ {ps:List PM} {i:Nat} {vs:List Value},gN ρ i ps vs->gN ρ' i ps vs
 | [],_,_,_=>trivial
 | .mrow _ _::r,i,vs,h=>by
  simp only[gN] at h ⊢
  rw[(hr _ (Zn i)).1];exact⟨h.1,h.2.congr hb hr⟩
 | .map _ _::r,i,vs,h=>by
  simp only[gN] at h ⊢
  rw[(hr _ (Zn i)).2];exact⟨h.1,h.2.congr hb hr⟩
 | .box _::r,i,vs,h=>by
  simp only[gN] at h ⊢
  rw[hb _ (by omega)];exact⟨h.1,h.2.congr hb hr⟩
 | .ar _::r,i,vs,h=>gN.congr (ps:=r) hb hr h
 | .arR _::r,i,vs,h=>gN.congr (ps:=r) hb hr h
 | .val _::r,i,vs,h=>gN.congr (ps:=r) hb hr h
 | .row _ _::r,i,vs,h=>gN.congr (ps:=r) hb hr h
theorem Trans.refl (G:Gh) (b:Bool):Trans G G b:=⟨fun _ _ h=>h,.inr (Gh.le_refl G)⟩
theorem pX {ow:Nat->Option Nat}:∀ {ps:List PM} {i:Nat} {x:dn ps} {vs:List Value},iY G w ow i ps x vs-> ∃ vals:List (bu×Value),vals.map (·.1)=(dZ i ps).map (·.1)/\(∀ k v,(.inl k,v)∈vals->∃ b,v= .pointer (some ⟨b,0,none⟩))/\ ∀ ρ:Env,(∀ o v,(o,v)∈vals->Asg ρ w o v)->(∀ o n,(o,n)∈dZ i ps->∀ b,ow b=some n->ρ.own b=some o)-> aS (bB G ρ) (mq i ps x) vs/\lg G ρ w (tN i ps x) (rW i ps x) (iW i ps x)/\gN ρ i ps vs
 | [],i,x,vs,h=>⟨[],rfl,fun k v h=>by simp at h,fun ρ _ _=>⟨h,lg.nil,trivial⟩⟩
 | .val t::r,i,x,vs,⟨v,us,h1,_,hv,hu⟩=>by
  obtain⟨vals,e,hp,hr⟩:=pX hu
  refine⟨vals,e,hp,fun ρ hA hO=> ?_⟩
  obtain⟨g1,g2,g3⟩:=hr ρ hA hO
  rw[h1 rfl]
  exact⟨⟨v,us,rfl,JK ρ hv,g1⟩,g2,g3⟩
 | .row e' t::r,i,x,vs,⟨v,us,h1,_,⟨hv,hv2⟩,hu⟩=>by
  obtain⟨vals,e,hp,hr⟩:=pX hu
  refine⟨(.inr (pid i 0),v)::vals,by simp[dZ,e],fun k v h=>hp k v (by simpa using h),fun ρ hA hO=> ?_⟩
  obtain⟨g1,g2,g3⟩:=hr ρ (fun o v h=>hA o v (by simp[h])) (fun o n h=>hO o n (by simp[dZ,h]))
  have hav:ρ.rw (pid i 0)=v:=hA (.inr (pid i 0)) v (by simp)
  rw[h1 rfl]
  refine⟨⟨v,us,rfl,⟨hav.symm,hv.isSlice⟩,g1⟩,⟨g2.bx,fun j q hj=> ?_,g2.ob⟩,g3⟩
  simp only[rW,aF] at hj
  split at hj
  ·rename_i ej
   subst ej
   cases hj
   exact hv.ok (Trans.refl G _) hav (fun b hb=>hO _ _ (by simp[dZ]) b (hv2 b hb))
  ·exact g2.rw j q hj
 | .mrow e' t::r,i,x,vs,⟨v,us,h1,_,⟨hv,hv2⟩,hu⟩=>by
  obtain⟨vals,e,hp,hr⟩:=pX hu
  refine⟨(.inr (pid i 0),v)::vals,by simp[dZ,e],fun k v h=>hp k v (by simpa using h),fun ρ hA hO=> ?_⟩
  obtain⟨g1,g2,g3⟩:=hr ρ (fun o v h=>hA o v (by simp[h])) (fun o n h=>hO o n (by simp[dZ,h]))
  have hav:ρ.rw (pid i 0)=v:=hA (.inr (pid i 0)) v (by simp)
  rw[h1 rfl]
  refine⟨⟨v,us,rfl,⟨hav.symm,hv.isSlice⟩,g1⟩,⟨g2.bx,fun j q hj=> ?_,g2.ob⟩,⟨by rw[hav];rfl,by rw[hav];exact hv.isSlice⟩,g3⟩
  simp only[rW,aF] at hj
  split at hj
  ·rename_i ej
   subst ej
   cases hj
   exact hv.ok (Trans.refl G _) hav (fun b hb=>hO _ _ (by simp[dZ]) b (hv2 b hb))
  ·exact g2.rw j q hj
 | .map kk vv::r,i,x,vs,⟨v,us,h1,_,⟨b,hv,hv1,hv2⟩,hu⟩=>by
  obtain⟨vals,e,hp,hr⟩:=pX hu
  refine⟨(.ob (pid i 0),v)::vals,by simp[dZ,e],fun k v h=>hp k v (by simpa using h),fun ρ hA hO=> ?_⟩
  obtain⟨g1,g2,g3⟩:=hr ρ (fun o v h=>hA o v (by simp[h])) (fun o n h=>hO o n (by simp[dZ,h]))
  rw[h1 rfl]
  subst hv
  have ho:ρ.own b=some (.ob (pid i 0)):=hO _ _ (by simp[dZ]) b hv1
  obtain⟨m1,m2⟩:=hv2.ok (Trans.refl G _) (hA (.ob (pid i 0)) (.map (some b)) (by simp)) ho
  refine⟨⟨_,us,rfl,⟨m2.symm,b,rfl⟩,g1⟩,⟨g2.bx,g2.rw,fun j q hj=> ?_⟩,⟨by rw[m2];rfl,b,m2⟩,g3⟩
  simp only[iW,aF] at hj
  split at hj
  ·rename_i ej
   subst ej
   cases hj
   exact m1
  ·exact g2.ob j q hj
 | .box l::r,i,x,vs,⟨v,us,h1,_,hv,hu⟩=>by
  obtain⟨vals,e,hp,hr⟩:=pX hu
  obtain⟨vals2,hv2,hr2⟩:=PR (G3:=G) (d:=pD) (k:=2000+i) (Trans.refl G _) hv
  refine⟨(.inl (2000+i),v)::(vals2++vals),by simp[dZ,e,hv2],fun k v' h=> ?_,fun ρ hA hO=> ?_⟩
  ·rcases ag3.1 h with h | h
   ·cases h
    obtain⟨b,_,_,e1,_⟩:=hv
    exact⟨b,e1⟩
   ·rcases ag0.1 h with h | h
    ·have hm:(.inl k:bu)∈vals2.map (·.1):=ag9.2 ⟨_,h,rfl⟩
     rw[hv2] at hm
     obtain⟨p,hp,e1⟩:=ag9.1 hm
     obtain⟨p1,p2⟩:=p
     simp only at e1
     subst e1
     exact absurd hp ((Ak (x:=x.1)).2.2 k p2)
    ·exact hp k v' h
  ·obtain⟨g1,g2,g3⟩:=hr ρ (fun o v h=>hA o v (by simp[h])) (fun o n h=>hO o n (by simp[dZ,h]))
   have hk:=hA (.inl (2000+i)) v (by simp)
   have g4:=hr2 ρ hk (fun o v h=>hA o v (by simp[h])) (fun o n h=>hO o n (by
    simp only[ag3] at h
    simp only[dZ,ag3,ag0]
    rcases h with h | h
    ·exact .inl h
    ·exact .inr (.inl h)))
   rw[h1 rfl]
   exact⟨⟨v,us,rfl,hk,g1⟩,g4.app g2,by rw[show v=_ from hk];rfl,g3⟩
 | .ar t::r,i,x,vs,⟨v,us,_,h1,hv,hu⟩=>by
  obtain⟨vals,e,hp,hr⟩:=pX hu
  refine⟨(.ob bJ,undef)::vals,by simp[dZ,e],fun k v h=>hp k v (by simpa using h),fun ρ hA hO=> ?_⟩
  obtain⟨g1,g2,g3⟩:=hr ρ (fun o v h=>hA o v (by simp[h])) (fun o n h=>hO o n (by simp[dZ,h]))
  have e1:=h1 rfl
  subst e1
  refine⟨g1,⟨g2.bx,g2.rw,fun j q hj=> ?_⟩,g3⟩
  simp only[iW,aF] at hj
  split at hj
  ·rename_i ej
   subst ej
   cases hj
   refine⟨rfl,hv.1,hv.2.1,fun n z hz=> ?_⟩
   obtain⟨b,ws,T,f1,f2,f3,f4,f5⟩:=hv.2.2 n z hz
   exact⟨b,ws,T,f1,nofun,fun _=>hO _ _ (by simp[dZ]) b (f3 rfl),f4,f5⟩
  ·exact g2.ob j q hj
 | .arR t::r,i,x,vs,⟨v,us,_,h1,hv,hu⟩=>by
  obtain⟨vals,e,hp,hr⟩:=pX hu
  refine⟨vals,e,hp,fun ρ hA hO=> ?_⟩
  obtain⟨g1,g2,g3⟩:=hr ρ hA hO
  have e1:=h1 rfl
  subst e1
  refine⟨g1,⟨g2.bx,g2.rw,fun j q hj=> ?_⟩,g3⟩
  simp only[iW,aF] at hj
  split at hj
  ·rename_i ej
   subst ej
   cases hj
   refine⟨rfl,hv.1,hv.2.1,fun n z hz=> ?_⟩
   obtain⟨b,ws,T,f1,f2,f3,f4,f5⟩:=hv.2.2 n z hz
   exact⟨b,ws,T,f1,f2,nofun,f4,f5⟩
  ·exact g2.ob j q hj
theorem B5:∀ {ps:List PM} {i:Nat} {o:bu} {n:Nat},(o,n)∈dZ i ps->(∃ k,o= .inl k)\/o= .ob bJ\/Kt pD o n
 | [],i,o,n,h=>by simp[dZ] at h
 | .val _::r,i,o,n,h=>B5 (ps:=r) h
 | .arR _::r,i,o,n,h=>B5 (ps:=r) h
 | .row _ _::r,i,o,n,h=>by
  simp only[dZ,ag3,Prod.mk.injEq] at h
  rcases h with ⟨h,h'⟩ | h
  ·subst h;subst h';exact .inr (.inr (.inl (by rw[pid,Gd];rfl)))
  ·exact B5 (ps:=r) h
 | .mrow _ _::r,i,o,n,h=>by
  simp only[dZ,ag3,Prod.mk.injEq] at h
  rcases h with ⟨h,h'⟩ | h
  ·subst h;subst h';exact .inr (.inr (.inl (by rw[pid,Gd];rfl)))
  ·exact B5 (ps:=r) h
 | .map _ _::r,i,o,n,h=>by
  simp only[dZ,ag3,Prod.mk.injEq] at h
  rcases h with ⟨h,h'⟩ | h
  ·subst h;subst h';exact .inr (.inr (.inr (by rw[pid,Gd];rfl)))
  ·exact B5 (ps:=r) h
 | .box l::r,i,o,n,h=>by
  simp only[dZ,ag3,ag0,Prod.mk.injEq] at h
  rcases h with ⟨h,h'⟩ | h | h
  ·exact .inl ⟨_,h⟩
  ·exact .inr (.inr (Fv h))
  ·exact B5 (ps:=r) h
 | .ar _::r,i,o,n,h=>by
  simp only[dZ,ag3,Prod.mk.injEq] at h
  rcases h with ⟨h,h'⟩ | h
  ·exact .inr (.inl h)
  ·exact B5 (ps:=r) h
def XK (tmps:Array Value):ResultVar->Sem Value
 | .tmp t=>pure (tmps.getD t undef)
 | .cell a t=>do loadVar t (<- asAddr (tmps.getD a undef))
theorem abO {S:St} {a:Act} {s:SV} {v:ResultVar} (hM:Mod C G ρ S w a) (h:VT X S v=some s):∃ u,(XK a.tmps v).run X.P w= .ok u w/\bB G ρ s u:=by
 cases v with
 | tmp t=>
  simp only[VT,Option.some.injEq] at h
  subst h
  exact⟨_,rfl,hM.tmps.ev (.tmp t)⟩
 | cell t T=>
  simp only[VT] at h
  split at h
  ·rename_i b off hx
   split at h
   ·rename_i l hl
    obtain⟨s',hs,hld⟩:=DS h
    cases hs
    have h1:=hM.tmps.ev (.tmp t)
    simp only[St.ev] at h1
    rw[hx] at h1
    have h2:a.tmps.getD t undef= .pointer (some ⟨ρ.bx b,off,none⟩):=h1
    obtain⟨_,vs,T',hw,hv⟩:=hM.boxes b l hl
    obtain⟨u,hr,hsv⟩:=hld G ρ w (ρ.bx b) 0 vs hv (fun j v hj=>by
     have hadd:(⟨ρ.bx b,0,none⟩:Addr).add j=⟨ρ.bx b,j,none⟩:=by unfold Addr.add;split<;>simp_all
     rw[hadd,cell_of_row w _ j _ T' (0,0) hw];simpa using hj)
    refine⟨u, ?_,hsv⟩
    simp only[ah7] at hr
    simp only[XK,h2,asAddr,Sem.run_bind,Sem.run_pure,Result.andThen_ok,hr]
   ·cases h
  ·cases h
theorem Sk {S:St} {a:Act} (hM:Mod C G ρ S w a):∀ {rs:List ResultVar} {l:List SV},Jn X S rs=some l->∃ us,(rs.mapM (XK a.tmps)).run X.P w= .ok us w/\aS (bB G ρ) l us
 | [],l,h=>by
  simp only[Jn,Option.some.injEq] at h
  subst h
  exact⟨[],rfl,rfl⟩
 | v::r,l,h=>by
  simp only[Jn] at h
  split at h
  ·rename_i s hs
   split at h
   ·rename_i l' hl'
    cases h
    obtain⟨u,h1,h2⟩:=abO hM hs
    obtain⟨us,h3,h4⟩:=Sk hM hl'
    refine⟨u::us, ?_,u,us,rfl,h2,h4⟩
    simp only[List.mapM_cons,Sem.run_bind,h1,Result.andThen_ok,h3,Sem.run_pure]
   ·cases h
  ·cases h
theorem YM {fn:Func} {tmps:Array Value} {P:Program} {us:List Value} (h:(fn.results.toList.mapM (XK tmps)).run P w= .ok us w):(results fn tmps).run P w= .ok (uY us) w:=by
 have e:results fn tmps=(do
  let vs <- fn.results.mapM (XK tmps)
  pure (if h:vs.size=1 then vs[0] else .tuple vs)):=by
  unfold results
  congr 2
 rw[e,Array.mapM_eq_mapM_toList]
 simp only[Sem.run_bind,Sem.run_map,h,Result.andThen_ok,Sem.run_pure]
 match us with
 | []=>rfl
 | [v]=>rfl
 | v::u::r=>simp[uY]
theorem Xx (S:St) (ps:List PM) (bx:Option (gh ps)) (s:SV) (q:List SV):CI S ps bx [] (s::q)=none:=rfl
theorem Xw (S:St) (ps:List PM) (bx:Option (gh ps)) (p:RM) (r:List RM) (s:SV) (q:List SV):CI S ps bx (p::r) (s::q)=match Fx S p s with
 | some x=>match CI S ps bx r q with
  | some y=>some (x,y)
  | none=>none
 | none=>none:=rfl
theorem YB (S:St) (ps:List PM) (bx:Option (gh ps)) (p:RM) (r:List RM):CI S ps bx (p::r) []=none:=rfl
theorem YY {s:SV} {c:CV} {v:Value} (hc:vW s=some c) (hs:bB G ρ s v):aZ G ρ c v:=by
 unfold vW at hc
 split at hc
 ·cases hc;exact hs
 ·cases hc
section
variable {V:St} {ow:List (bu×Nat)} (hM:Mem C G ρ V w)
include hM
theorem Sc {l:List OT} {k n:Nat} {cs:List CV} {x:oH l} {v:Value} (hcs:look V.boxes k=some cs) (h:qg V l cs=some x) (hv:v= .pointer (some ⟨ρ.bx k,0,none⟩)) (ho:∀ q,q∈(.inl k,n)::rU (n+1) l cs->bU ow q.1=some q.2): A3 G w (eE ρ ow) n l x v:=by
 obtain⟨h1,vs,T,h2,h3⟩:=hM.boxes k cs hcs
 refine⟨ρ.bx k,vs,T,hv, ?_,h2,DZ hM (Gh.le_refl G) h h3 (fun q hq=>ho q (by simp[hq]))⟩
 simp only[eE,h1,aib]
 exact ho (.inl k,n) (by simp)
theorem aac {p:RM} {s:SV} {x:p.den} {v:Value} {c:Nat} {r:List RM} {q:List SV} (h:Fx V p s=some x) (hv:bB G ρ s v) (ho:∀ z,z∈pQ V c (p::r) (s::q)->bU ow z.1=some z.2):ZA G w (eE ρ ow) c p x v:=by
 cases p with
 | val t=>exact nR hM.frozen (nW.nil _ _ _) h hv
 | row e t=>
  simp only[Fx] at h
  split at h
  ·rename_i cv hc
   exact vj hM (Gh.le_refl G) h (YY hc hv) (fun z hz=>ho z (by simp only[pQ,hc,ag0];exact .inl hz))
  ·cases h
 | map k e=>
  simp only[Fx] at h
  split at h
  ·rename_i cv hc
   exact Dj hM (Gh.le_refl G) h (YY hc hv) (fun z hz=>ho z (by simp only[pQ,hc,ag0];exact .inl hz))
  ·cases h
 | box l=>
  simp only[Fx] at h
  split at h
  ·rename_i k hk
   split at h
   ·rename_i cs hcs
    exact Sc hM hcs h (UL hk hv) (fun z hz=>ho z (by simp only[pQ,hk,hcs,ag0];exact .inl hz))
   ·cases h
  ·cases h
theorem aab {ps:List PM} {bx:Option (gh ps)} {args:List Value} (hbx:∀ y,bx=some y->rJ G w (eE ρ ow) 0 ps y args) (rs:List RM): ∀ {l:List SV} {y:cF ps rs} {us:List Value} (c:Nat),(∀ z,z∈pQ V c rs l->bU ow z.1=some z.2)->CI V ps bx rs l=some y->aS (bB G ρ) l us->nu G w (eE ρ ow) ps args c rs y us:=by
 induction rs with
 | nil=>
  intro l y us c _ h hv
  cases l with
  | nil=>exact⟨hv,hbx y h⟩
  | cons s q=>rw[Xx] at h;cases h
 | cons p r ih=>
  intro l y us c ho h hv
  cases l with
  | nil=>rw[YB] at h;cases h
  | cons s q=>
   obtain⟨v,us',e',hs,hq⟩:=hv
   subst e'
   rw[Xw] at h
   split at h
   ·rename_i x hx
    split at h
    ·rename_i z hz
     cases h
     refine⟨v,us',rfl,aac hM hx hs ho,ih (c+1) (fun t ht=>ho t ?_) hz hq⟩
     cases p<;>simp only[pQ,ag0]<;>first | exact .inr ht | exact ht
    ·cases h
   ·cases h
theorem sS:∀ {ps:List PM} {i:Nat} {y:gh ps} {vs:List Value},rV V i ps=some y->(∀ z,z∈ni V i ps->bU ow z.1=some z.2)->gN ρ i ps vs->rJ G w (eE ρ ow) i ps y vs
 | [],i,y,vs,_,_,_=>trivial
 | .val _::r,i,y,vs,h,ho,hp=>sS (ps:=r) h ho hp
 | .row _ _::r,i,y,vs,h,ho,hp=>sS (ps:=r) h ho hp
 | .arR _::r,i,y,vs,h,ho,hp=>sS (ps:=r) h ho hp
 | .mrow e t::r,i,y,vs,h,ho,⟨⟨hp1,hp2⟩,hp⟩=>by
  simp only[rV] at h
  split at h
  ·rename_i x z hx hz
   cases h
   have:=vj (ow:=ow) (n:=64*i) hM (Gh.le_refl G) hx (v:=ρ.rw (pid i 0)) ⟨rfl,hp2⟩ (fun q hq=>ho q (by
    simp only[qd,ahf] at hq
    subst hq;simp[ni]))
   exact⟨⟨_,hp1,this.1,this.2⟩,sS (ps:=r) hz (fun q hq=>ho q (by simp[ni,hq])) hp⟩
  ·cases h
 | .map kk vv::r,i,y,vs,h,ho,⟨⟨hp1,hp2⟩,hp⟩=>by
  simp only[rV] at h
  split at h
  ·rename_i x z hx hz
   cases h
   obtain⟨b,h1,h2,h3⟩:=Dj (ow:=ow) (n:=64*i) hM (Gh.le_refl G) hx (v:=ρ.ob (pid i 0)) ⟨rfl,hp2⟩ (fun q hq=>ho q (by
    simp only[qd,ahf] at hq
    subst hq;simp[ni]))
   exact⟨⟨b,by rw[hp1,h1],h2,h3⟩,sS (ps:=r) hz (fun q hq=>ho q (by simp[ni,hq])) hp⟩
  ·cases h
 | .box l::r,i,y,vs,h,ho,⟨hp1,hp⟩=>by
  simp only[rV] at h
  split at h
  ·rename_i cs hcs
   split at h
   ·rename_i x z hx hz
    cases h
    refine⟨⟨_,hp1,Sc hM hcs hx rfl (fun q hq=>ho q ?_)⟩,sS (ps:=r) hz (fun q hq=>ho q ?_) hp⟩
    ·simp only[ni,hcs,af5,ag3,ag0]
     rcases ag3.1 hq with hq | hq
     ·exact .inl hq
     ·exact .inr (.inl hq)
    ·simp only[ni,hcs,af5,ag3,ag0]
     exact .inr (.inr hq)
   ·cases h
  ·cases h
 | .ar t::r,i,y,vs,h,ho,hp=>by
  simp only[rV] at h
  split at h
  ·rename_i x z hx hz
   cases h
   obtain⟨f,hl,hf⟩:=wX hx
   have:=hf rfl
   subst this
   obtain⟨_,h1,h2,h3⟩:=hM.objs bJ _ hl
   refine⟨⟨h1,h2,fun n z hz=> ?_⟩,sS (ps:=r) hz (fun q hq=>ho q (by simp[ni,hq])) hp⟩
   obtain⟨b,vs,T,g1,g2,g3,g4,g5⟩:=h3 n z hz
   refine⟨b,vs,T,g1,nofun,fun _=> ?_,g4,g5⟩
   have:=g3 rfl
   simp only[eE,this,aib]
   exact ho (.ob bJ,64*i) (by simp[ni])
  ·cases h
end
end Go.Dn
namespace Go.Dn
variable {X:Cx}
section
variable {G G':Gh} {w:World} {ow:Nat->Option Nat} (hG:∀ b o,G b=some o->G' b=some o)
include hG
theorem bX.bf {t:Ty} {x:t.den} {v:Value} (hn:t.bf=true) (h:bX G t x v):bX G' t x v:=by
 cases t with
 | st t=>obtain⟨vs,e,hv⟩:=h;exact⟨vs,e,aK.bf hG t x vs (by simpa [Ty.bf] using hn) hv⟩
 | _=>exact aK.bf hG _ x _ hn h
theorem rB.bf {e:TypeId} {t:Ty} {l:List t.den} {v:Value} (hn:t.bf=true) (h:rB G w e t l v):rB G' w e t l v:=by
 obtain⟨xs,h1,h2⟩:=h
 exact⟨xs,h1,h2.mono fun x cs=>aK.bf hG t x cs hn⟩
theorem xQ.bf {k v:Ty} {l:List (k.den×v.den)} {b:Nat} (hk:k.bf=true) (hv:v.bf=true) (h:xQ G w k v l b):xQ G' w k v l b:=by
 obtain⟨es,clock,h1,h2,h3⟩:=h
 exact⟨es,clock,h1,h2.mono fun x y hxy=>⟨hxy.1.bf hG hk,hxy.2.bf hG hv⟩,h3⟩
def Jf (l:List OT):Bool:=l.all fun | .val t=>t.bf | .row _ t=>t.bf | .map k v=>k.bf&&v.bf
theorem Db.bf:∀ {l:List OT} {n:Nat} {x:oH l} {vs:List Value},Jf l=true->Db G w ow n l x vs->Db G' w ow n l x vs
 | [],_,_,_,_,h=>h
 | .val t::r,n,x,vs,hn,⟨a,b,e,h1,h2⟩=>by
  simp only[Jf,afZ,afv] at hn
  exact⟨a,b,e,aK.bf hG t x.1 a hn.1 h1,Db.bf hn.2 h2⟩
 | .row _ t::r,n,x,vs,hn,⟨a,b,e,⟨v,e2,h1,h3⟩,h2⟩=>by
  simp only[Jf,afZ,afv] at hn
  exact⟨a,b,e,⟨v,e2,h1.bf hG hn.1,h3⟩,Db.bf hn.2 h2⟩
 | .map k v::r,n,x,vs,hn,⟨a,b,e,⟨bb,e2,h1,h3⟩,h2⟩=>by
  simp only[Jf,afZ,afv] at hn
  exact⟨a,b,e,⟨bb,e2,h1,h3.bf hG hn.1.1 hn.1.2⟩,Db.bf hn.2 h2⟩
theorem A3.bf {l:List OT} {n:Nat} {x:oH l} {v:Value} (hn:Jf l=true) (h:A3 G w ow n l x v):A3 G' w ow n l x v:=by
 obtain⟨b,vs,T,h1,h2,h3,h4⟩:=h
 exact⟨b,vs,T,h1,h2,h3,h4.bf hG hn⟩
theorem iY.bf:∀ {ps:List PM} {i:Nat} {x:dn ps} {vs:List Value},eo ps=true->iY G w ow i ps x vs->iY G' w ow i ps x vs
 | [],_,_,_,_,h=>h
 | .val t::r,i,x,vs,hn,⟨v,us,h1,h2,h3,h4⟩=>by
  simp only[eo,afv] at hn
  exact⟨v,us,h1,h2,bX.bf hG hn.1 h3,iY.bf hn.2 h4⟩
 | .row _ t::r,i,x,vs,hn,⟨v,us,h1,h2,⟨h3,h3'⟩,h4⟩=>by
  simp only[eo,afv] at hn
  exact⟨v,us,h1,h2,⟨h3.bf hG hn.1,h3'⟩,iY.bf hn.2 h4⟩
 | .mrow _ t::r,i,x,vs,hn,⟨v,us,h1,h2,⟨h3,h3'⟩,h4⟩=>by
  simp only[eo,afv] at hn
  exact⟨v,us,h1,h2,⟨h3.bf hG hn.1,h3'⟩,iY.bf hn.2 h4⟩
 | .map _ _::r,i,x,vs,hn,⟨v,us,h1,h2,⟨b,h3,h3',h5⟩,h4⟩=>by
  simp only[eo,afv] at hn
  exact⟨v,us,h1,h2,⟨b,h3,h3',h5.bf hG hn.1.1 hn.1.2⟩,iY.bf hn.2 h4⟩
 | .box l::r,i,x,vs,hn,⟨v,us,h1,h2,h3,h4⟩=>by
  simp only[eo,afv] at hn
  exact⟨v,us,h1,h2,A3.bf hG hn.1 h3,iY.bf hn.2 h4⟩
 | .ar _::r,i,x,vs,hn,_=>by simp[eo] at hn
 | .arR _::r,i,x,vs,hn,_=>by simp[eo] at hn
theorem rJ.bf:∀ {ps:List PM} {i:Nat} {x:gh ps} {vs:List Value},eo ps=true->rJ G w ow i ps x vs->rJ G' w ow i ps x vs
 | [],_,_,_,_,h=>h
 | .val t::r,i,x,vs,hn,h=>by
  simp only[eo,afv] at hn
  exact rJ.bf (ps:=r) hn.2 h
 | .row _ t::r,i,x,vs,hn,h=>by
  simp only[eo,afv] at hn
  exact rJ.bf (ps:=r) hn.2 h
 | .mrow _ t::r,i,x,vs,hn,⟨⟨v,h1,h2,h3⟩,h4⟩=>by
  simp only[eo,afv] at hn
  exact⟨⟨v,h1,h2.bf hG hn.1,h3⟩,rJ.bf hn.2 h4⟩
 | .map _ _::r,i,x,vs,hn,⟨⟨b,h1,h2,h3⟩,h4⟩=>by
  simp only[eo,afv] at hn
  exact⟨⟨b,h1,h2,h3.bf hG hn.1.1 hn.1.2⟩,rJ.bf hn.2 h4⟩
 | .box l::r,i,x,vs,hn,⟨⟨v,h1,h2⟩,h4⟩=>by
  simp only[eo,afv] at hn
  exact⟨⟨v,h1,A3.bf hG hn.1 h2⟩,rJ.bf hn.2 h4⟩
 | .ar _::r,i,x,vs,hn,_=>by simp[eo] at hn
 | .arR _::r,i,x,vs,hn,_=>by simp[eo] at hn
theorem nu.bf {ps:List PM} {args:List Value} (hp:eo ps=true):∀ {rs:List RM} {c:Nat} {y:cF ps rs} {vs:List Value},vl rs=true->nu G w ow ps args c rs y vs->nu G' w ow ps args c rs y vs
 | [],_,_,_,_,h=>⟨h.1,h.2.bf hG hp⟩
 | .val t::r,c,y,vs,hn,⟨v,us,h1,h2,h3⟩=>by
  simp only[vl,afv] at hn
  exact⟨v,us,h1,bX.bf hG hn.1 h2,nu.bf hp hn.2 h3⟩
 | .row _ t::r,c,y,vs,hn,⟨v,us,h1,⟨h2,h2'⟩,h3⟩=>by
  simp only[vl,afv] at hn
  exact⟨v,us,h1,⟨h2.bf hG hn.1,h2'⟩,nu.bf hp hn.2 h3⟩
 | .map _ _::r,c,y,vs,hn,⟨v,us,h1,⟨b,h2,h2',h4⟩,h3⟩=>by
  simp only[vl,afv] at hn
  exact⟨v,us,h1,⟨b,h2,h2',h4.bf hG hn.1.1 hn.1.2⟩,nu.bf hp hn.2 h3⟩
 | .box l::r,c,y,vs,hn,⟨v,us,h1,h2,h3⟩=>by
  simp only[vl,afv] at hn
  exact⟨v,us,h1,A3.bf hG hn.1 h2,nu.bf hp hn.2 h3⟩
end
theorem l6:∀ (ps:List PM) (i:Nat) (x:dn ps),(mq i ps x).length=Bw ps
 | [],_,_=>rfl
 | .val _::r,i,x=>by simp[mq,Bw,PM.arg,l6 r];omega
 | .row _ _::r,i,x=>by simp[mq,Bw,PM.arg,l6 r];omega
 | .mrow _ _::r,i,x=>by simp[mq,Bw,PM.arg,l6 r];omega
 | .map _ _::r,i,x=>by simp[mq,Bw,PM.arg,l6 r];omega
 | .box _::r,i,x=>by simp[mq,Bw,PM.arg,l6 r];omega
 | .ar _::r,i,x=>by simp[mq,Bw,PM.arg,l6 r]
 | .arR _::r,i,x=>by simp[mq,Bw,PM.arg,l6 r]
theorem tO:∀ {ps:List PM} {i:Nat} {x:dn ps} {t:Ty} {l:List t.den},kX ps=false->look (iW i ps x) bJ≠some (.ar false t l)
 | [],i,x,t,l,_=>by simp[iW,look]
 | .val _::r,i,x,t,l,h=>tO (ps:=r) h
 | .row _ _::r,i,x,t,l,h=>tO (ps:=r) h
 | .mrow _ _::r,i,x,t,l,h=>tO (ps:=r) h
 | .map _ _::r,i,x,t,l,h=>by
  simp only[iW,aF]
  split
  ·simp
  ·exact tO (ps:=r) h
 | .box _::r,i,x,t,l,h=>by
  simp only[iW,cT]
  intro e
  rcases or_some e with e | ⟨_,e⟩
  ·obtain⟨_,_,_,e'⟩:=x8 e;cases e'
  ·exact tO (ps:=r) h e
 | .ar _::r,i,x,t,l,h=>by simp[kX] at h
 | .arR _::r,i,x,t,l,h=>by
  simp only[iW,aF]
  split
  ·intro e;cases e
  ·exact tO (ps:=r) h
theorem Z7 {ps:List PM} (h:eo ps=true):kX ps=false:=by
 induction ps with
 | nil=>rfl
 | cons p r ih=>cases p<;>simp only[eo,afv] at h<;>first | exact ih h.2 | cases h
theorem WX (hX:b7 X) (hmix:X.P.follows .mixedOrders=true) {f:FuncId} {fn:Func} (sp:aA) (anns:List (Nat×Ann)) (ar:Option Ty) (hf:X.P.funcs[f]? =some fn) {G:Gh} {w:World} {ow:Nat->Option Nat} {args:List Value} {x:dn sp.ps} {y:cF sp.ps sp.rs} (hT:td X.P G) (hG:Agr G w) (how:∀ b i,ow b=some i->G b=none/\b<w.heap.size) (hargs:iY G w ow 0 sp.ps x args) (har:ar.isSome=true->G.hnd=(fun _=>none)/\kX sp.ps=false/\eo sp.ps=true) (hN:Ih X anns ar fn sp x=some y): Calls X.P f args.toArray w fun e w'=>∃ G' ow' vs,e= .returned (uY vs)/\G.le G'/\Agr G' w'/\w.heap.size<=w'.heap.size/\w'.os=w.os/\w'.output=w.output/\ (∀ b,b<w.heap.size->ow b=none->w'.heap[b]? =w.heap[b]? /\G' b=G b)/\(∀ b i,ow' b=some i->G' b=none/\b<w'.heap.size/\(w.heap.size<=b\/ow b≠none))/\nu G' w' ow' sp.ps args 0 sp.rs y vs/\(kX sp.ps=false->ar=none->G'.hnd=G.hnd):=by
 unfold Ih at hN
 split at hN
 ·cases hN
 ·rename_i hcond
  simp only[afI,aiF,afD] at hcond
  obtain⟨⟨hdO,hdC⟩,hnoh⟩:=hcond
  split at hN
  ·rename_i c hc
   obtain⟨vals,hvals,hpt,hst⟩:=pX hargs
   let pv:Nat->Value:=fun k=>match cS vals (.inr k) with | some v=>v | none=>(cS vals (.ob k)).getD undef
   let ρ:Env:=⟨fun k=>match cS vals (.inl k) with | some v=>NU v | none=>0,pv,fun b=>(ow b).bind (pN (dZ 0 sp.ps)),pv,fun k=>HT w (pv k)⟩
   have hA:∀ o v,(o,v)∈vals->Asg ρ w o v:=fun o v hm=>by
    have hl:=M6 hvals hdO hm
    cases o with
    | inl k=>
     obtain⟨b,hb⟩:=hpt k v hm
     show v= .pointer (some ⟨match cS vals (.inl k) with | some v=>NU v | none=>0,0,none⟩)
     rw[hl,hb];rfl
    | inr j=>show (match cS vals (.inr j) with | some v=>v | none=>_)=v;rw[hl]
    | ob j=>
     intro b hb
     subst hb
     have hnr:cS vals (.inr j)=none:=by
      cases h1:cS vals (.inr j) with
      | none=>rfl
      | some v'=>
       obtain⟨n1,m1⟩:=KA hvals (by rw[h1];simp)
       obtain⟨n2,m2⟩:=KA hvals (o:= .ob j) (by rw[hl];simp)
       rcases B5 m1 with ⟨k,e⟩ | e | e
       ·cases e
       ·cases e
       ·rcases B5 m2 with ⟨k,e'⟩ | e' | e'
        ·cases e'
        ·cases e'
         rcases e with e | e
         ·have:bJ=nid pD 0 0+n1:=by simpa using e
          simp only[bJ,pD,nid] at this;omega
         ·cases e
        ·have h1:j=nid pD 0 0+n1:=by rcases e with e | e<;>cases e;rfl
         have h2:j=nid pD 0 0+n2:=by rcases e' with e' | e'<;>cases e';rfl
         have:n1=n2:=by omega
         subst this
         have:=X8 hdC m1 m2
         cases this
     have hpv:pv j= .map (some b):=by
      show (match cS vals (.inr j) with | some v=>v | none=>(cS vals (.ob j)).getD undef)=_
      rw[hnr,hl];rfl
     refine⟨hpv,fun es clock hw i e' hi=> ?_⟩
     show (e'.born:Int)=HT w (pv j) i
     rw[hpv]
     simp[HT,hw,hi]
   have hO:∀ o n,(o,n)∈dZ 0 sp.ps->∀ b,ow b=some n->ρ.own b=some o:=fun o n hm b hb=>by
    show (ow b).bind (pN (dZ 0 sp.ps))=_
    rw[hb];exact Cz hdC hm
   obtain⟨hsv,hP,hpins⟩:=hst ρ hA hO
   let C:Fr X.P:=⟨w.heap.size,ρ.bx,pv,fun b=>ow b≠none,w,G,kX sp.ps=false/\ar=none,hT⟩
   have hlen:args.length=Bw sp.ps:=by rw[hsv.len,l6]
   have hM:Mod C G ρ (MQ fn.ntmps ar sp.ps x) w { tmps:=args.toArray++Array.replicate (fn.ntmps - args.toArray.size) undef,defers:=[] }:=by
    refine { agr:=hG,le0:=Gh.le_refl G,old:=fun _ _ _=>rfl,frame:=fun _ _ _=>rfl,size:=ahJ _,os:=rfl,output:=rfl,pin:=fun _ _=>rfl,pinR:=fun _ _=>⟨rfl,rfl⟩,owned:= ?_,boxes:=hP.bx,rows:=hP.rw,objs:= ?_,hndI:= ?_,tmps:=⟨?_, ?_⟩,defers:=rfl }
    ·intro b o ho
     cases hb:ow b with
     | none=>
      have ho':(ow b).bind (pN (dZ 0 sp.ps))=some o:=ho
      rw[hb] at ho';cases ho'
     | some i=>exact⟨(how b i hb).1,(how b i hb).2,.inr (by show ow b≠none;rw[hb];simp)⟩
    ·intro j q hj
     cases ar with
     | none=>exact hP.ob j q hj
     | some t=>
      simp only[MQ,aF] at hj
      split at hj
      ·rename_i ej
       subst ej
       cases hj
       obtain⟨h1,_⟩:=har rfl
       refine⟨rfl,fun i b hb=>(by rw[h1] at hb;cases hb),fun i i' b hb=>(by rw[h1] at hb;cases hb),fun i z hz=>by simp at hz⟩
      ·exact hP.ob j q hj
    ·rintro⟨h1,h2⟩
     refine⟨rfl,fun t l=> ?_⟩
     subst h2
     exact tO h1
    ·simp[MQ,l6,hlen]
    ·intro i s hi
     simp only[MQ] at hi
     rw[List.getElem?_append] at hi
     rw[afg,Array.getElem?_append]
     split at hi
     ·rename_i hlt
      obtain⟨v,hv,hsv'⟩:=hsv.get hi
      rw[l6] at hlt
      rw[aiB (by simpa [hlen] using hlt)]
      simpa [hv] using hsv'
     ·rw[agE] at hi
      split at hi
      ·cases hi;exact trivial
      ·cases hi
   refine calls_of_wp hf hc (Ro (C:=C) hX hmix anns c hN (fun e S' G' ρ' w' a' hk hM'=> ?_) hM)
   have key:ends X fn sp S'=some y->a'.defers=[]/\∃ v,(results fn a'.tmps).run X.P w'= .ok v w'/\∃ G' ow' vs,Ending.returned v= .returned (uY vs)/\G.le G'/\Agr G' w'/\w.heap.size<=w'.heap.size/\w'.os=w.os/\w'.output=w.output/\
    (∀ b,b<w.heap.size->ow b=none->w'.heap[b]? =w.heap[b]? /\G' b=G b)/\(∀ b i,ow' b=some i->G' b=none/\b<w'.heap.size/\(w.heap.size<=b\/ow b≠none))/\nu G' w' ow' sp.ps args 0 sp.rs y vs/\(kX sp.ps=false->ar=none->G'.hnd=G.hnd):=by
    intro hk
    unfold ends at hk
    have hI:∃ G1 ρ1,Mod C G1 ρ1 (Hs X fn sp.rs S') w' a':=by
     unfold Hs
     split
     ·exact Mod.kS _ hM'
     ·exact⟨_,_,hM'⟩
    generalize Hs X fn sp.rs S'=S' at hk hI
    obtain⟨G',ρ',hM'⟩:=hI
    refine⟨hM'.defers, ?_⟩
    unfold ac0 at hk
    split at hk
    ·rename_i l hl
     simp only at hk
     split at hk
     ·cases hk
     ·rename_i hd
      obtain⟨us,hr,hus⟩:=Sk hM' hl
      generalize hjs:Ip (Ou sp.rs l)++(VS S' sp.rs l++VR S' 0 sp.ps)=js at hk hd
      obtain⟨G2,ρ2,hfz,hM2⟩:=hM'.freeze js
      generalize hV:aW S' js=V at hk hd hM2
      generalize how':pQ V 0 sp.rs l++ni V 0 sp.ps=owl at hk hd
      have hd':Cu owl=false:=by simpa using hd
      have hus2:aS (bB G2 ρ2) l us:=hus.mono fun s v hs=>bB.congr hfz.le (nv.same hfz.bx hfz.rw hfz.ob hfz.st) hs
      have hpins2:gN ρ2 0 sp.ps args:=hpins.congr (fun k hk=>hM2.pin k hk) (fun k hk=>hM2.pinR k hk)
      refine⟨_,YM hr,G2,eE ρ2 owl,us,rfl,hM2.le0,hM2.agr,hM2.size,hM2.os,hM2.output,fun b hb ho=>⟨hM2.frame b hb (by show ¬ ow b≠none;simp[ho]),hM2.old b hb (by show ¬ ow b≠none;simp[ho])⟩,fun b i hb=> ?_, ?_,fun h1 h2=>(hM2.hndI ⟨h1,h2⟩).1⟩
      ·unfold eE at hb
       cases ho:ρ2.own b with
       | none=>rw[ho] at hb;cases hb
       | some o=>exact hM2.owned b o ho
      ·refine aab hM2.toMem (fun y' hy'=>sS hM2.toMem hy' (fun z hz=>Bv hd' (by rw[<- how'];simp[hz])) hpins2) sp.rs 0 (fun z hz=>Bv hd' (by rw[<- how'];simp[hz])) hk hus2
    ·cases hk
   cases e with
   | normal=>exact key hk
   | ret=>exact key hk
   | exit id=>cases hk
  ·cases hN
theorem aaZ (hX:b7 X) (hmix:X.P.follows .mixedOrders=true) {f:FuncId} {fn:Func} (sp:aA) (anns:List (Nat×Ann)) (ar:Option Ty) (hf:X.P.funcs[f]? =some fn) (h:∀ x y,sp.m x=some y->Ih X anns ar fn sp x=some y):cQ X.P f sp:=by
 intro G w ow args x y hG how hargs hm hT
 have hN:=h x y hm
 cases ar with
 | none=>
  refine (WX hX hmix sp anns none hf hT hG how hargs (fun e=>by cases e) hN).mono ?_
  rintro e w' ⟨G',ow',vs,h1,h2,h3,h4,h5,h6,h7,h8,h9,h10⟩
  exact⟨G',ow',vs,h1,h2,h3,h4,h5,h6,h7,h8,h9,fun h=>h10 h rfl⟩
 | some t=>
  have hN0:=hN
  unfold Ih at hN0
  split at hN0
  ·cases hN0
  ·rename_i hcond
   simp only[afI,aiF,afD,Option.isSome_some,afJ,afC,afv] at hcond
   obtain⟨_,hpn,hrn⟩:=hcond
   let G0:Gh:=⟨G.blk,fun _=>none⟩
   have hargs0:iY G0 w ow 0 sp.ps x args:=iY.bf (G:=G) (G':=G0) (fun _ _ h=>h) hpn hargs
   refine (WX hX hmix sp anns (some t) hf (G:=G0) ⟨hT.pow,hT.maxLen⟩ hG how hargs0 (fun _=>⟨rfl,Z7 hpn,hpn⟩) hN).mono ?_
   rintro e w' ⟨G',ow',vs,h1,h2,h3,h4,h5,h6,h7,h8,h9,h10⟩
   refine⟨⟨G'.blk,G.hnd⟩,ow',vs,h1,⟨h2.blk,fun _ _ h=>h⟩,h3,h4,h5,h6,h7,h8,nu.bf (G:=G') (G':=⟨G'.blk,G.hnd⟩) (fun _ _ h=>h) hpn hrn h9,fun _=>rfl⟩
end Go.Dn
namespace Go.Dn
def w64 (n:Int):Int:=IntKind.wrap .i64 n
def tI:Ty:= .int .i64
def bS (n:Int):Int:=IntKind.wrap .u64 n
def nc (n:Int):Int:=IntKind.wrap .u32 n
def wu8 (n:Int):Int:=IntKind.wrap .u8 n
def Ty.fu:(t:Ty)->t.den->Nat->Nat
 | .int _,n,a=>Int.natAbs n+a
 | .bool,_,a=>a
 | .str,s,a=>List.length s+a
 | .unit,_,a=>a
 | .pair s t,x,a=>s.fu x.1 (t.fu x.2 a)
 | .st t,x,a=>t.fu x a
 | .slice _,l,a=>List.length l+a
 | .ptr t,x,a=>t.fu x a
 | .clo _ _,_,a=>a
 | .hnd,_,a=>a
def aI:(cs:List CK)->cW cs->Nat
 | [],_=>2
 | .val t::r,x=>t.fu x.1 (aI r x.2)
 | .own _ _::r,x=>x.1.length+aI r x.2
 | .map _ _::r,x=>x.1.length+aI r x.2
 | .ref _ _::r,x=>aI r x
 | .fn _ _::r,x=>aI r x
 | .ar _::r,x=>x.1.length+aI r x.2
 | .arF _::r,x=>aI r x.2
 | .rowR _::r,x=>aI r x
 | .rpR _ _::r,x=>aI r x.2
 | .mapR _::r,x=>aI r x
 | .rowC _ _ _::r,x=>x.1.length+aI r x.2
 | .mapC _ _ _::r,x=>x.1.length+aI r x.2
theorem aY {X β:Type} (n:Nat) (x:X) (f:X->(X->Option β)->Option β):iter (n+1) x f=f x fun y=>iter n y f:=rfl
end Go.Dn
namespace Go.Dn
def nL {α β:Type} (F:(α->Option β)->α->Option β):Nat->α->Option β
 | 0,_=>none
 | n+1,x=>F (nL F n) x
theorem Br {P:Program} {specs:List (Nat×aA)} (hX:b7 ⟨P,specs,[]⟩) (hmix:P.follows .mixedOrders=true) {f:FuncId} {fn:Func} {ps:List PM} {rs:List RM} (F:(dn ps->Option (cF ps rs))->dn ps->Option (cF ps rs)) (anns:List (Nat×Ann)) (ar:Option Ty) (hf:P.funcs[f]? =some fn) (hb:cH P f) (h:∀ self x,Ih ⟨P,(f,⟨ps,rs,self⟩)::specs,[]⟩ anns ar fn ⟨ps,rs,F self⟩ x=F self x):∀ n,cQ P f ⟨ps,rs,nL F n⟩
 | 0=>fun _ _ _ _ _ _ _ _ _ hm _=>by cases hm
 | n+1=>by
  have ih:=Br hX hmix F anns ar hf hb h n
  have hX':b7 ⟨P,(f,⟨ps,rs,nL F n⟩)::specs,[]⟩:=by
   refine⟨fun g sp hg=> ?_,nofun⟩
   rcases ag3.1 hg with e | e
   ·cases e;exact⟨ih,hb⟩
   ·exact hX.fn g sp e
  exact aaZ (X:=⟨P,(f,⟨ps,rs,nL F n⟩)::specs,[]⟩) hX' hmix ⟨ps,rs,nL F (n+1)⟩ anns ar hf (fun x y hm=>(h (nL F n) x).trans hm)
theorem De {P:Program} {f:FuncId} {ps:List PM} {rs:List RM} {m:Nat->dn ps->Option (cF ps rs)} (h:∀ n,cQ P f ⟨ps,rs,m n⟩) (fuel:dn ps->Nat):cQ P f ⟨ps,rs,fun x=>m (fuel x) x⟩:=
 fun G w ow args x y hG how ha hm hT=>(h (fuel x) G w ow args x y hG how ha hm hT).mono fun _ _ ⟨G',ow',vs,hg⟩=>⟨G',ow',vs,{ hg with }⟩
theorem Yu {P:Program} {f:FuncId} {m:dn [.val .str,.val .str]->Option (cF [.val .str,.val .str] [.val .str])} (h:∀ (s c r:List UInt8) (w:World),m (s,c,())=some (r,())->Calls P f #[.string (bs s),.string (bs c)] w fun e w'=>e= .returned (.string (bs r))/\RowKit.Below w.heap.size w w'):cQ P f ⟨[.val .str,.val .str],[.val .str],m⟩:=by
 intro G w ow args x y hG how ha hm _
 obtain⟨s,c,u⟩:=x
 obtain⟨r,u'⟩:=y
 obtain⟨v,us,h1,_,hv,v',us',h2,_,hv',h3⟩:=ha
 have e1:=h1 rfl
 have e2:=h2 rfl
 have e3:us'=[]:=h3
 have e4:v= .string (bs s):=by simpa [G7,bX,aK] using hv
 have e5:v'= .string (bs c):=by simpa [G7,bX,aK] using hv'
 subst e1;subst e2;subst e3;subst e4;subst e5
 refine (h s c r w hm).mono ?_
 rintro e w' ⟨he,hb⟩
 refine⟨G,fun _=>none,[.string (bs r)], ?_⟩
 exact {
  ret:=he
  le:=Gh.le_refl G
  agr:=fun b o hbo=>by
   have hw:=hG b o hbo
   have hlt:b<w.heap.size:=by
    rcases ahQ b w.heap.size with h | h
    ·exact h
    ·rw[afi h] at hw;cases hw
   rw[hb.block b hlt];exact hw
  size:=hb.size
  os:=hb.os
  output:=hb.output
  old:=fun b hlt _=>⟨hb.block b hlt,rfl⟩
  own:=fun b i hbi=>by cases hbi
  out:=⟨_,_,rfl,rfl,rfl,trivial⟩
  hnd:=fun _=>rfl }
end Go.Dn
namespace Go.Dn
theorem b7.nil (P:Program):b7 ⟨P,[],[]⟩:=⟨nofun,nofun⟩
theorem b7.cons {P:Program} {f:FuncId} {sp:aA} {l:List (Nat×aA)} {ks:List (Nat×Ei)} (h:cQ P f sp) (hb:cH P f) (r:b7 ⟨P,l,ks⟩):b7 ⟨P,(f,sp)::l,ks⟩:=by
 refine⟨fun g sp' hg=> ?_,r.key⟩
 rcases ag3.1 hg with e | e
 ·cases e;exact⟨h,hb⟩
 ·exact r.fn g sp' e
theorem b7.acZ {P:Program} {f:FuncId} {kf:Ei} {l:List (Nat×aA)} {ks:List (Nat×Ei)} (h:QN P f kf) (hb:cH P f) (r:b7 ⟨P,l,ks⟩):b7 ⟨P,l,(f,kf)::ks⟩:=by
 refine⟨r.fn,fun g k' hg=> ?_⟩
 rcases ag3.1 hg with e | e
 ·cases e;exact⟨h,fun _=>hb⟩
 ·exact r.key g k' e
theorem dh {P:Program} {f:FuncId} {fn:Func} (h:P.funcs[f]? =some fn) (hb:fn.body.isSome=true) (hn:fn.name≠ "runtime.NumGoroutine"):cH P f:=⟨fn,h,hb,hn⟩
end Go.Dn
namespace Go.Dn
open Go.ChangeShapes Go.WideShapes Go.ChangeAt Go.RowKit
def Fits (P:Program):Nat->TypeId->Ty->Bool
 | 0,_,_=>false
 | d+1,T,t=>match P.underlying T,t with
  | some (.int k),.int k'=>decide (k=k')
  | some .bool,.bool=>true
  | some .string,.str=>true
  | some (.slice e),.slice t=>Nat.ble 1 t.size&&(Nat.beq (P.cellsOf e) t.size&&Fits P d e t)
  | some (.struct fs),.st t=>Nat.beq (P.cellsOf T) t.size&&fitsF (Fits P d) P fs.toList 0 t
  | _,_=>false
where
 fitsF (g:TypeId->Ty->Bool) (P:Program):List Field->Nat->Ty->Bool
 | [],_,_=>false
 | [f],off,t=>Nat.beq f.offset off&&(Nat.beq (P.cellsOf f.type) t.size&&g f.type t)
 | f::r,off,.pair a b=>Nat.beq f.offset off&&(Nat.beq (P.cellsOf f.type) a.size&&(g f.type a&&fitsF g P r (off+a.size) b))
 | _,_,_=>false
def Gw (w:World):Gh:=⟨fun b=>w.heap[b]?,fun _=>none⟩
theorem adZ (w:World):Agr (Gw w) w:=fun _ _ h=>h
theorem O1 {w:World} {base:Nat} {a:Addr} {n:Nat} {cs:List Value} (hn:0<n) (h:w.cells? base a n=some cs): ∃ c T fz,a.spot=none/\w.heap[a.block]? =some (.cells c T fz)/\a.off+n<=c.size/\cs=(c.toList.drop a.off).take n:=by
 obtain⟨_,hl,hc⟩:=World.cells?_some h
 have h0:=hc 0 hn
 have hlt:0<cs.length:=by omega
 rw[agz hlt,show a.add 0=a from rfl] at h0
 unfold World.cell? at h0
 split at h0
 ·rename_i c T fz hb
  split at h0
  ·cases h0
  ·rename_i hs
   have hspot:a.spot=none:=by simpa using hs
   have hall:∀ i,i<n->c[a.off+i]? =cs[i]? :=by
    intro i hi
    have:=hc i hi
    rw[<- this]
    unfold World.cell? Addr.add
    by_cases h:i=0
    ·subst h;simp[hb,hspot]
    ·simp[h,hb]
   refine⟨c,T,fz,hspot,hb, ?_, ?_⟩
   ·have h1:=hall (n - 1) (by omega)
    rw[agz (show n - 1<cs.length by omega)] at h1
    have:=(afj.1 h1).1
    omega
   ·apply agj
    intro i
    rw[agI,agy]
    by_cases hi:i<n
    ·rw[aiB hi, <- hall i hi];simp
    ·rw[aiA hi,agA (by omega)]
 ·cases h0
section
variable {H:Type} {enc:TypeId×Value->H} {P:Program} {w:World} {base:Nat} {spare:Nat->Bool} {held:Bool}
theorem Zs {α:Type} {R:α->List Value->Prop} {sz:Nat} {c:List Value} {y:Nat->α} (off:Nat):∀ n,off+n*sz<=c.length->(∀ i,i<n->R (y i) ((c.drop (off+i*sz)).take sz))->bO R ((List.range n).map y) ((c.drop off).take (n*sz))
 | 0,_,_=>by simp[bO]
 | n+1,hle,h=>by
  rw[List.range_succ,agW,List.map_singleton]
  have e:(c.drop off).take ((n+1)*sz)=(c.drop off).take (n*sz)++(c.drop (off+n*sz)).take sz:=by
   rw[ahB,ah1,List.take_add,af9]
  rw[e]
  refine bO.append (Zs off n (by rw[ahB] at hle;omega) fun i hi=>h i (by omega)) ?_
  exact⟨_,[],by simp,h n (by omega),rfl⟩
end
def pms:List Ty->List PM
 | []=>[]
 | t::r=> .val t::pms r
def N2 (P:Program):List TypeId->List Ty->Bool
 | [],[]=>true
 | T::r,t::q=>Fits P 9 T t&&N2 P r q
 | _,_=>false
end Go.Dn
namespace Go.Dn
theorem Pz {H:Type} {enc:TypeId×Value->H} {P:Program} {w:World} {base:Nat} {spare:Nat->Bool} {held:Bool}:∀ {Ts:List TypeId} {vs:List Value} {ds:List (DataW H)} {ps:List MemPlace},DataW.TrodAll enc P w base spare held Ts vs ds ps->ds.length=Ts.length
 | [],[],[],_,_=>rfl
 | _::_,_::_,_::_,_,⟨_,_,_,h,_⟩=>by rw[agN,agN,Pz h]
def ac3:Nat->DataW Unit->List Value
 | d+1,.agg l=>l.flatMap (ac3 d)
 | _,.lit (.int k n)=>[.int k n]
 | _,.lit (.bool b)=>[.bool b]
 | _,_=>[]
def aee (P:Program) (l:List (String×DataW Unit)) (w:World):World:=
 l.foldl (fun w p=>match P.globalNamed p.1 with
  | some g=>{ w with heap:=w.heap.modify g fun
   | .cells _ t fr=> .cells (ac3 9 p.2).toArray t fr
   | o=>o }
  | none=>w) w
end Go.Dn
namespace Go.Dn
open Go.Proofs Go.Shelf
theorem mX (b:Nat) (e:TypeId):∀ (vs:List Value) (o:Nat) (w:World) (cur:Array Value),w.heap[b]? =some (.cells cur e (0,0))->o+vs.length<=cur.size-> ∃ cur':Array Value,(w.setCells b o vs).heap[b]? =some (.cells cur' e (0,0))/\cur'.toList=cur.toList.take o++(vs++cur.toList.drop (o+vs.length))
 | [],o,w,cur,h,_=>⟨cur,h,by simp⟩
 | v::r,o,w,cur,h,hl=>by
  have h1:(w.setCell ⟨b,o,none⟩ v).heap[b]? =some (.cells (cur.setIfInBounds o v) e (0,0)):=by
   simp only[World.setCell,afk,aiC,h,aih]
   rfl
  have hlen:o<cur.size:=by simp at hl;omega
  obtain⟨cur',h2,h3⟩:=mX b e r (o+1) _ _ h1 (by simp at hl ⊢;omega)
  refine⟨cur',h2, ?_⟩
  rw[h3]
  simp only[Array.toList_setIfInBounds]
  rw[List.take_set,List.drop_set_of_lt (by omega)]
  have hlt:o<cur.toList.length:=by simpa using hlen
  have e1:(cur.toList.take (o+1)).set o v=cur.toList.take o++[v]:=by
   rw[List.take_succ_eq_append_getElem hlt,List.set_append_right _ _ (by simp;omega)]
   congr 1
   rw[agV,ahW (by omega)];simp
  rw[e1]
  simp only[agN,af3,af5,ahh]
  rw[show o+1+r.length=o+(r.length+1) by omega]
theorem mY (b:Nat):∀ (vs:List Value) (o:Nat) (w:World),(w.setCells b o vs).os=w.os/\(w.setCells b o vs).output=w.output/\(w.setCells b o vs).heap.size=w.heap.size/\∀ k,k≠b->(w.setCells b o vs).heap[k]? =w.heap[k]?
 | [],o,w=>⟨rfl,rfl,rfl,fun _ _=>rfl⟩
 | v::r,o,w=>by
  obtain⟨h1,h2,h3,h4⟩:=mY b r (o+1) (w.setCell ⟨b,o,none⟩ v)
  refine⟨h1,h2,h3.trans (by simp),fun k hk=>(h4 k hk).trans ?_⟩
  simp only[World.setCell,afk]
  rw[aiA (fun e=>hk e.symm)]
section
variable {P:Program} {G:Gh} {w w':World} {ow:Nat->Option Nat} {e:TypeId}
end
end Go.Dn
namespace Go.Dn
theorem aa0 {P:Program} {f:FuncId} {t:Ty} {m:dn [.val .str,.val .str]->Option (cF [.val .str,.val .str] [.val t])} (h:∀ (s c:List UInt8) (r:t.den) (w:World),m (s,c,())=some (r,())->∃ v,(∀ G:Gh,bX G t r v)/\Calls P f #[.string (bs s),.string (bs c)] w fun e w'=>e= .returned v/\RowKit.Below w.heap.size w w'):cQ P f ⟨[.val .str,.val .str],[.val t],m⟩:=by
 intro G w ow args x y hG how ha hm _
 obtain⟨s,c,u⟩:=x
 obtain⟨r,u'⟩:=y
 obtain⟨v,us,h1,_,hv,v',us',h2,_,hv',h3⟩:=ha
 have e1:=h1 rfl
 have e2:=h2 rfl
 have e3:us'=[]:=h3
 have e4:v= .string (bs s):=by simpa [G7,bX,aK] using hv
 have e5:v'= .string (bs c):=by simpa [G7,bX,aK] using hv'
 subst e1;subst e2;subst e3;subst e4;subst e5
 obtain⟨z,hz,hc⟩:=h s c r w hm
 refine hc.mono ?_
 rintro e w' ⟨he,hb⟩
 refine⟨G,fun _=>none,[z], ?_⟩
 exact {
  ret:=he
  le:=Gh.le_refl G
  agr:=fun b o hbo=>by
   have hw:=hG b o hbo
   have hlt:b<w.heap.size:=by
    rcases ahQ b w.heap.size with h | h
    ·exact h
    ·rw[afi h] at hw;cases hw
   rw[hb.block b hlt];exact hw
  size:=hb.size
  os:=hb.os
  output:=hb.output
  old:=fun b hlt _=>⟨hb.block b hlt,rfl⟩
  own:=fun b i hbi=>by cases hbi
  out:=⟨_,_,rfl,hz G,rfl,trivial⟩
  hnd:=fun _=>rfl }
end Go.Dn
namespace Go.Dn
def Kw:(t:Ty)->t.den->Value
 | .int k,n=> .int k n
 | .bool,b=> .bool b
 | .str,s=> .string (bs s)
 | _,_=>undef
def isLit:Ty->Bool
 | .int _=>true
 | .bool=>true
 | .str=>true
 | _=>false
theorem TJ {G:Gh} {t:Ty} (ht:isLit t=true) {x:t.den} {v:Value} (h:bX G t x v):v=Kw t x:=by
 cases t<;>simp[isLit] at ht<;>simpa [bX,aK,Kw] using h
theorem Yt {P:Program} {f:FuncId} {a a' t:Ty} {m:dn [.val a,.val a']->Option (cF [.val a,.val a'] [.val t])} (ha:isLit a=true) (ha':isLit a'=true) (h:∀ (s:a.den) (c:a'.den) (r:t.den) (w:World),m (s,c,())=some (r,())->∃ v,(∀ G:Gh,bX G t r v)/\Calls P f #[Kw a s,Kw a' c] w fun e w'=>e= .returned v/\RowKit.Below w.heap.size w w'):cQ P f ⟨[.val a,.val a'],[.val t],m⟩:=by
 intro G w ow args x y hG how hargs hm _
 obtain⟨s,c,u⟩:=x
 obtain⟨r,u'⟩:=y
 obtain⟨v,us,h1,_,hv,v',us',h2,_,hv',h3⟩:=hargs
 have e1:=h1 rfl
 have e2:=h2 rfl
 have e3:us'=[]:=h3
 have e4:v=Kw a s:=TJ ha hv
 have e5:v'=Kw a' c:=TJ ha' hv'
 subst e1;subst e2;subst e3;subst e4;subst e5
 obtain⟨z,hz,hc⟩:=h s c r w hm
 refine hc.mono ?_
 rintro e w' ⟨he,hb⟩
 refine⟨G,fun _=>none,[z], ?_⟩
 exact {
  ret:=he
  le:=Gh.le_refl G
  agr:=fun b o hbo=>by
   have hw:=hG b o hbo
   have hlt:b<w.heap.size:=by
    rcases ahQ b w.heap.size with h | h
    ·exact h
    ·rw[afi h] at hw;cases hw
   rw[hb.block b hlt];exact hw
  size:=hb.size
  os:=hb.os
  output:=hb.output
  old:=fun b hlt _=>⟨hb.block b hlt,rfl⟩
  own:=fun b i hbi=>by cases hbi
  out:=⟨_,_,rfl,hz G,rfl,trivial⟩
  hnd:=fun _=>rfl }
theorem lX (P:Program) (f:FuncId) (ps:List PM) (rs:List RM):cQ P f ⟨ps,rs,fun _=>none⟩:=by
 intro G w ow args x y hG how hargs hm _
 cases hm
end Go.Dn
namespace Go.Dn
open Go.Lib
theorem X5 (w:World) (k:Nat) (os:Array Obj):RowKit.Below w.heap.size w (Sort.grow (w.drewN k) os):=
 ⟨rfl,rfl,rfl,by show w.heap.size<=(w.heap++os).size;rw[afr];omega,fun b hb=>by
   show (w.heap++os)[b]? =w.heap[b]?
   rw[Array.getElem?_append_left hb]⟩
theorem acU {P:Program} {G:Gh} {w:World} (hG:Agr G w) (hT:td P G) {g:Nat} (hg:P.globalNamed "internal/strconv.uint64pow10" =some g):TabIs P w "internal/strconv.uint64pow10" .u64 Gi:=by
 obtain⟨T,fz,e⟩:=hT.pow g hg
 have h:=hG _ _ e
 unfold TabIs World.var?
 rw[hg,aib,h]
theorem WY {P:Program} {f:FuncId} {a t:Ty} {m:dn [.val a]->Option (cF [.val a] [.val t])} {g:Nat} (hg:P.globalNamed "internal/strconv.uint64pow10" =some g) (ha:isLit a=true) (h:∀ (s:a.den) (r:t.den) (w:World),TabIs P w "internal/strconv.uint64pow10" .u64 Gi->m (s,())=some (r,())->∃ v,(∀ G:Gh,bX G t r v)/\Calls P f #[Kw a s] w fun e w'=>e= .returned v/\RowKit.Below w.heap.size w w'):cQ P f ⟨[.val a],[.val t],m⟩:=by
 intro G w ow args x y hG how hargs hm hT
 obtain⟨s,u⟩:=x
 obtain⟨r,u'⟩:=y
 obtain⟨v,us,h1,_,hv,h3⟩:=hargs
 have e1:=h1 rfl
 have e3:us=[]:=h3
 have e4:v=Kw a s:=TJ ha hv
 subst e1;subst e3;subst e4
 obtain⟨z,hz,hc⟩:=h s r w (acU hG hT hg) hm
 refine hc.mono ?_
 rintro e w' ⟨he,hb⟩
 refine⟨G,fun _=>none,[z], ?_⟩
 exact {
  ret:=he
  le:=Gh.le_refl G
  agr:=fun b o hbo=>by
   have hw:=hG b o hbo
   have hlt:b<w.heap.size:=by
    rcases ahQ b w.heap.size with h | h
    ·exact h
    ·rw[afi h] at hw;cases hw
   rw[hb.block b hlt];exact hw
  size:=hb.size
  os:=hb.os
  output:=hb.output
  old:=fun b hlt _=>⟨hb.block b hlt,rfl⟩
  own:=fun b i hbi=>by cases hbi
  out:=⟨_,_,rfl,hz G,rfl,trivial⟩
  hnd:=fun _=>rfl }
end Go.Dn
namespace Go.Dn
open Classical in
noncomputable def Nw {α:Type} (ok:α->Bool) (cf:α->α->Int) (l:List α):Option (List α×Unit):=
 if (∀ x,x∈l->ok x=true)/\(∀ x,x∈l->∀ y,y∈l->¬ cf x y<0->¬ cf y x<0->x=y)/\l.length<4294967296 then some (l.mergeSort fun x y=> !decide (cf y x<0),()) else none
end Go.Dn
namespace Go.Dn
open Go.Proofs Go.Shelf Go.Sort Go.RowKit Go.Lib
theorem flat_get {α:Type} [Inhabited α] {enc:α->List Value} {k:Nat} (hk:∀ x,(enc x).length=k):∀ (l:List α) (j:Nat),j<l.length*k->(l.flatMap enc)[j]? =some ((enc l[j / k]!)[j % k]!)
 | [],j,h=>by simp at h
 | x::l,j,h=>by
  have hk0:0<k:=by
   rcases ahG k with h0 | h0
   ·subst h0;simp at h
   ·exact h0
  rw[agq]
  by_cases hj:j<k
  ·rw[agu (by rw[hk];exact hj),ahD hj,ahX hj]
   have h1:j<(enc x).length:=by rw[hk];exact hj
   simp[h1]
  ·have h1:k<=j:=by omega
   rw[agv (by rw[hk];exact h1),hk]
   have h2:j - k<l.length*k:=by
    rw[agN,ahB,ah1] at h
    omega
   rw[flat_get hk l (j - k) h2]
   have e1:j / k=(j - k) / k+1:=by
    conv=>lhs;rw[show j=j - k+k from by omega]
    rw[Nat.add_div_right _ hk0]
   have e2:j % k=(j - k) % k:=by
    conv=>lhs;rw[show j=j - k+k from by omega]
    rw[Nat.add_mod_right]
   rw[e1,e2]
   simp
theorem FY {α:Type} {enc:α->List Value} {k:Nat} (hk:∀ x,(enc x).length=k):∀ (l:List α),(l.flatMap enc).length=l.length*k
 | []=>by simp
 | x::l=>by rw[agq,agM,hk,FY hk l,agN,ahB,ah1,Nat.add_comm]
theorem Ko {α:Type} [Inhabited α] {enc:α->List Value} {k:Nat} (hk:∀ x,(enc x).length=k) (d:Array α):(flatK enc k d).toList=d.toList.flatMap enc:=by
 apply agj
 intro j
 by_cases hj:j<d.size*k
 ·rw[flat_get hk d.toList j (by simpa using hj)]
  have h1:=get_flatK enc k d j hj
  have h2:j<(flatK enc k d).size:=by rw[size_flatK];exact hj
  rw[aiy (flatK enc k d) j h2] at h1
  rw[afo,afh h2,h1]
  have e:d[j / k]! =d.toList[j / k]! :=by rw[Array.getElem!_toList]
  rw[e]
 ·rw[agA (by rw[afp,size_flatK];omega),agA (by rw[FY hk];simpa using hj)]
theorem JL (cur F:Array Value) (h:F.size<=cur.size):(putCells id 0 F cur).toList.take F.size=F.toList:=by
 apply agj
 intro j
 by_cases hj:j<F.size
 ·rw[agJ hj,afo,afo]
  have h2:j<cur.size:=by omega
  simp[putCells,hj,h2]
 ·rw[List.getElem?_take_eq_none (by omega),agA (by simp;omega)]
theorem MP {w:World} {g n:Nat} {os:Array Obj} {cur:Array Value} {e:TypeId} {fr:Nat×Nat} (F:Array Value) (hb:w.heap[g]? =some (.cells cur e fr)): (grow (putRow id (Sort.ahead w n) g 0 F) os).heap[g]? =some (.cells (putCells id 0 F cur) e fr):=by
 have hg:g<w.heap.size:=(afj.1 hb).1
 rw[heap_grow_old _ _ (by simpa using hg)]
 simp[putRow,mapBlock,Sort.ahead,afk,hb,onCells]
theorem Pd {w:World} {g n:Nat} {os:Array Obj} (F:Array Value) {k:Nat} (hk:k<w.heap.size) (hne:k≠g):(grow (putRow id (Sort.ahead w n) g 0 F) os).heap[k]? =w.heap[k]? :=by
 rw[heap_grow_old _ _ (by simpa using hk)]
 have:g≠k:=fun e=>hne e.symm
 simp[putRow,mapBlock,Sort.ahead,afk,this]
theorem UA {α:Type} [Inhabited α] {enc:α->List Value} {k:Nat} (hk:∀ x,(enc x).length=k) {w:World} {g:Nat} {cur:Array Value} {e:TypeId} {d:Array α} (hb:w.heap[g]? =some (.cells cur e (0,0))) (ht:cur.toList.take (d.size*k)=d.toList.flatMap enc):HoldsK enc k w g 0 d:=by
 intro j hj
 rw[size_flatK] at hj
 refine⟨?_,by simp[World.frozen?,hb]⟩
 have h2:j<(flatK enc k d).size:=by rw[size_flatK];exact hj
 have h1:(cur.toList.take (d.size*k))[j]? =(flatK enc k d).toList[j]? :=by rw[ht,Ko hk]
 rw[agJ hj,afo,afo,afh h2] at h1
 simp only[World.cell?,hb,ah7]
 simp only[Option.isSome_none,afz,aiz]
 rw[h1,aiy (flatK enc k d) j h2]
 rfl
theorem YQ {α:Type} {cf:α->α->Int} (hO:SWO (ltOf cf)) {l r:List α} (hT:∀ x,x∈l->∀ y,y∈l->¬ cf x y<0->¬ cf y x<0->x=y) (hp:r.Perm l) (hs:r.Pairwise fun x y=>(!decide (cf y x<0))=true): r=l.mergeSort fun x y=> !decide (cf y x<0):=by
 refine List.Perm.eq_of_pairwise (le:=fun x y=>(!decide (cf y x<0))=true) (fun a b ha hb h1 h2=> ?_) hs ?_ (hp.trans (ahg _ _).symm)
 ·simp only[afE,air] at h1 h2
  exact hT a (hp.mem_iff.1 ha) b (by simpa using hb) h2 h1
 ·refine ahn (fun a b c h1 h2=> ?_) (fun a b=> ?_) l
  ·have h1':ltOf cf b a=false:=by simpa [ltOf] using h1
   have h2':ltOf cf c b=false:=by simpa [ltOf] using h2
   have:=hO.ntrans _ _ _ h2' h1'
   simpa [ltOf] using this
  ·cases h:decide (cf b a<0) with
   | false=>rfl
   | true=>
    have h1:ltOf cf b a=true:=h
    have h2:ltOf cf a b=false:=by
     cases h3:ltOf cf a b with
     | false=>rfl
     | true=>
      have:=hO.trans _ _ _ h1 h3
      rw[hO.irrefl] at this;cases this
    have h2':decide (cf a b<0)=false:=h2
    rw[h2'];rfl
section
variable {P:Program}
def SE (P:Program) (g:Nat) (t:Ty) (ok:t.den->Bool) (cf:t.den->t.den->Int):Prop:=
 ∀ (G:Gh) (x y:t.den) (a b:List Value),aK G t x a->aK G t y b->ok x=true->ok y=true->∀ w:World,
  Calls P g #[.agg a.toArray,.agg b.toArray] w fun e w'=>e= .returned (.int .i64 (cf x y))/\∃ q os,w'=grow (w.drewN q) os
abbrev Pr (G:Gh) (t:Ty) (ok:t.den->Bool):Type:={p:t.den×List Value // aK G t p.1 p.2/\ok p.1=true}
theorem Qy {G:Gh} {t:Ty} {ok:t.den->Bool}:∀ {l:List t.den} {cs:List Value},bO (aK G t) l cs->(∀ x,x∈l->ok x=true)->∃ d:List (Pr G t ok),d.map (fun p=>p.1.1)=l/\d.flatMap (fun p=>p.1.2)=cs
 | [],cs,h,_=>⟨[],rfl,by cases h;rfl⟩
 | x::l,cs,⟨c,r,e,h1,h2⟩,hok=>by
  obtain⟨d,e1,e2⟩:=Qy h2 (fun y hy=>hok y (by simp[hy]))
  exact⟨⟨(x,c),h1,hok x (by simp)⟩::d,by simp[e1],by rw[agq,e2,e]⟩
theorem Nq {G:Gh} {t:Ty} {ok:t.den->Bool}:∀ (d:List (Pr G t ok)),bO (aK G t) (d.map fun p=>p.1.1) (d.flatMap fun p=>p.1.2)
 | []=>rfl
 | p::d=>⟨p.1.2,d.flatMap fun p=>p.1.2,by rw[agq],p.2.1,Nq d⟩
noncomputable def Jt (e:TypeId) (t:Ty) (g:Nat) (ok:t.den->Bool) (cf:t.den->t.den->Int):aA:=⟨[.mrow e t,.val (.clo g .unit)],[],fun x=>Nw ok cf (show List t.den from x.1)⟩
theorem aar {ρ:Ren} (L:SlLaysF0.n6 P ρ) {t:Ty} (aE:∀ w,(isAgg (ρ.t 24)).run P w= .ok true w) (zE:∀ w,(Go.sizeOf (ρ.t 24)).run P w= .ok t.size w) {e1:TypeId} {g:Nat} {ok:t.den->Bool} {cf:t.den->t.den->Int} (hO:SWO (ltOf cf)) (hc:SE P g t ok cf) (eg:∀ args w,(callFunc g args).run P w= .ok (.enter g args) w) {G:Gh} {w:World} {ow:Nat->Option Nat} {l r:List t.den} {s:Value} {xs:List Value} (hG:Agr G w) (how:∀ b i,ow b=some i->G b=none/\b<w.heap.size) (hown:w.ownsRow 0 e1 t.size s l.length xs) (hrep:bO (aK G t) l xs) (hobl:∀ b,s.ownBlock=some b->ow b=some (64*0)) (hm:Nw ok cf l=some (r,())): Calls P (ρ.f 6) #[s,.func (.func g) #[] #[]] w fun e w'=>∃ G' ow' vs,vO G w ow (Jt e1 t g ok cf) [s,.func (.func g) #[] #[]] (r,()) e w' G' ow' vs:=by
 unfold Nw at hm
 split at hm
 ·rename_i hcnd
  obtain⟨hok,hT,hlt⟩:=hcnd
  simp only[Option.some.injEq,Prod.mk.injEq,aij] at hm
  rcases hown.2 with ⟨rfl,hl0⟩ | ⟨b0,cap,cur,rfl,hbase,hb,h1,h2,h3,h4⟩
  ·have hl:l=[]:=agi hl0
   have hr:r=[]:=by rw[<- hm,hl];simp
   refine (AnyF.slices_SortFunc_none L none 0 (.func (.func g) #[] #[]) w).mono ?_
   rintro e w' ⟨he,rfl⟩
   refine⟨G,fun _=>none,[], ?_⟩
   exact {
    ret:=he
    le:=Gh.le_refl G
    agr:=hG
    size:=ahJ _
    os:=rfl
    output:=rfl
    old:=fun b _ _=>⟨rfl,rfl⟩
    own:=fun b i hbi=>by cases hbi
    out:=⟨rfl,⟨_,rfl,⟨[],⟨by rw[hr];simp,.inl ⟨rfl,by rw[hr];rfl⟩⟩,by rw[hr];rfl⟩,fun b hb=>by cases hb⟩,trivial⟩
    hnd:=fun _=>rfl }
  ·have hgs:b0<w.heap.size:=(afj.1 hb).1
   have hgOw:ow b0=some (64*0):=hobl b0 rfl
   have hgG:=(how b0 _ hgOw).1
   obtain⟨d,hd1,hd2⟩:=Qy hrep hok
   have hdl:d.length=l.length:=by rw[<- hd1,agP]
   by_cases hl0:l=[]
   ·subst hl0
    have hr:r=[]:=by rw[<- hm];simp
    refine (AnyF.slices_SortFunc_none L (some ⟨b0,0,none⟩) cap (.func (.func g) #[] #[]) w).mono ?_
    rintro e w' ⟨he,rfl⟩
    refine⟨G,fun b=>if b=b0 then some (64*0) else none,[], ?_⟩
    exact {
     ret:=he
     le:=Gh.le_refl G
     agr:=hG
     size:=ahJ _
     os:=rfl
     output:=rfl
     old:=fun b _ _=>⟨rfl,rfl⟩
     own:=fun b i hbi=>by
      by_cases e:b=b0
      ·subst e;exact⟨hgG,hgs,.inr (by rw[hgOw];simp)⟩
      ·simp only[e,aiz] at hbi;cases hbi
     out:=by
      subst hr
      refine⟨rfl,⟨_,rfl,⟨xs,hown,hrep⟩,fun b hbv=> ?_⟩,trivial⟩
      have:some b0=some b:=hbv
      cases this
      show (if b0=b0 then some (64*0) else none)=_
      simp
     hnd:=fun _=>rfl }
   ·obtain⟨p0,hp0⟩:∃ p0,p0∈d:=by
     cases d with
     | nil=>exact absurd hd1.symm hl0
     | cons p d=>exact⟨p,by simp⟩
    haveI:Inhabited (Pr G t ok):=⟨p0⟩
    have hk:∀ p:Pr G t ok,(p.1.2).length=t.size:=fun p=>p.2.1.len
    have h1c:∀ p:Pr G t ok,∀ v,v∈p.1.2->v.oneCell'=true:=fun p=>p.2.1.one
    have hO':SWO (ltOf fun p q:Pr G t ok=>cf p.1.1 q.1.1):=⟨fun x=>hO.irrefl _,fun x y z=>hO.trans _ _ _,fun x y z=>hO.ntrans _ _ _⟩
    have hH:HoldsK (fun p:Pr G t ok=>p.1.2) t.size w b0 0 d.toArray:=UA hk hb (by
     rw[ahq,hdl];simpa [hd2] using h4)
    have hcmp:CmpLays P g #[] (fun p:Pr G t ok=>p.1.2) t.size (fun p q=>cf p.1.1 q.1.1) b0 0 d.toArray.size w:=fun m os dk _ x y=>hc G _ _ _ _ x.2.1 y.2.1 x.2.2 y.2.2 _
    have hS:=AnyQ.slices_SortFunc L t.size aE zE (fun p:Pr G t ok=>p.1.2) hk h1c (fun p q=>cf p.1.1 q.1.1) hO' g #[] b0 0 cap d.toArray w eg hcmp hH hgs (by rw[ahq,hdl];omega)
    rw[ahq,hdl] at hS
    refine hS.mono ?_
    rintro e w' ⟨he,d',n,os,hp,hs,hw⟩
    have hp3:d'.toList.Perm d:=by
     have h:=hp.2.2
     have e1:d'.size=l.length:=hp.1.trans (by rw[ahq,hdl])
     have e2:d'.extract 0 l.length=d':=by rw[<- e1];simp
     have e3:d.toArray.extract 0 l.length=d.toArray:=by
      have:l.length=d.toArray.size:=by rw[ahq,hdl]
      rw[this];simp
     rw[e2,e3] at h
     simpa using h
    have hd'l:d'.size=l.length:=by rw[<- hdl, <- afp];exact hp3.length_eq
    have hr:r=d'.toList.map fun p=>p.1.1:=by
     rw[<- hm]
     refine (YQ hO hT ?_ ?_).symm
     ·rw[<- hd1];exact hp3.map _
     ·rw[ahm,ahl]
      intro i j hi hj hij
      have h:=hs i j (ah8 _) hij (by rw[<- hd'l];simpa using hj)
      have hi':i<d'.size:=by simpa using hi
      have hj':j<d'.size:=by simpa using hj
      rw[aiy d' i hi',aiy d' j hj'] at h
      have h':decide (cf d'[j].1.1 d'[i].1.1<0)=false:=h
      rw[Array.getElem_toList,Array.getElem_toList,h']
      rfl
    have hrl:r.length=l.length:=by rw[hr,agP,afp,hd'l]
    have hF:(flatK (fun p:Pr G t ok=>p.1.2) t.size d').size=l.length*t.size:=by rw[size_flatK,hd'l]
    unfold sortWorldK putRowK at hw
    have hcz:l.length*t.size<=cur.size:=by rw[h3];exact ahZ _ h1
    have hb':=MP (n:=n) (os:=os) (flatK (fun p:Pr G t ok=>p.1.2) t.size d') hb
    have hold:=fun k hk hne=>Pd (n:=n) (os:=os) (w:=w) (g:=b0) (flatK (fun p:Pr G t ok=>p.1.2) t.size d') (k:=k) hk hne
    have hsz:w.heap.size<=(grow (putRow id (Sort.ahead w n) b0 0 (flatK (fun p:Pr G t ok=>p.1.2) t.size d')) os).heap.size:=by simp
    rw[<- hw] at hb' hold hsz
    refine⟨G,fun b=>if b=b0 then some (64*0) else none,[], ?_⟩
    exact {
     ret:=he
     le:=Gh.le_refl G
     agr:=fun b o hbo=>by
      have hwb:=hG b o hbo
      have hne:b≠b0:=fun e=>by rw[e,hgG] at hbo;cases hbo
      rw[hold b (cK hwb) hne];exact hwb
     size:=hsz
     os:=by rw[hw];rfl
     output:=by rw[hw];rfl
     old:=fun b hbs hob=>by
      have hne:b≠b0:=fun e=>by rw[e,hgOw] at hob;cases hob
      exact⟨hold b hbs hne,rfl⟩
     own:=fun b i hbi=>by
      by_cases e:b=b0
      ·subst e;exact⟨hgG,by omega,.inr (by rw[hgOw];simp)⟩
      ·simp only[e,aiz] at hbi;cases hbi
     out:=by
      refine⟨rfl,⟨_,rfl,⟨d'.toList.flatMap fun p=>p.1.2,⟨by rw[FY hk,afp,hd'l,hrl],.inr ⟨b0,cap,_,by rw[hrl],ah8 _,hb',by rw[hrl];exact h1,h2,by simp[putCells,h3], ?_⟩⟩,by rw[hr];exact Nq _⟩,fun b hbv=> ?_⟩,trivial⟩
      ·rw[hrl, <- hF,JL _ _ (by rw[hF];exact hcz),Ko hk]
      ·have:some b0=some b:=hbv
       cases this
       show (if b0=b0 then some (64*0) else none)=_
       simp
     hnd:=fun _=>rfl }
 ·cases hm
theorem acR {ρ:Ren} (L:SlLaysF0.n6 P ρ) {t:Ty} (aE:∀ w,(isAgg (ρ.t 24)).run P w= .ok true w) (zE:∀ w,(Go.sizeOf (ρ.t 24)).run P w= .ok t.size w) {e1:TypeId} {g:Nat} {ok:t.den->Bool} {cf:t.den->t.den->Int} (hO:SWO (ltOf cf)) (hc:SE P g t ok cf) (eg:∀ args w,(callFunc g args).run P w= .ok (.enter g args) w): cQ P (ρ.f 6) (Jt e1 t g ok cf):=by
 intro G w ow args x y hG how ha hm _
 obtain⟨l,c,u⟩:=x
 obtain⟨r,u'⟩:=y
 obtain⟨s,us,a1,_,⟨⟨xs,hown,hrep⟩,hobl⟩,iv,us2,a2,_,hiv,a4⟩:=ha
 have e1:=a1 rfl
 have e2:=a2 rfl
 have e4:us2=[]:=a4
 obtain⟨caps,e5',e6⟩:=(show aK G (.clo g .unit) c [iv] from hiv)
 have e5:iv= .func (.func g) #[] caps.toArray:=(List.cons.inj e5').1
 have e7:caps=[]:=e6
 subst e1;subst e2;subst e4;subst e7;subst e5
 exact aar (l:=l) (r:=r) L aE zE hO hc eg hG how hown hrep hobl hm
end
end Go.Dn
namespace Go.Dn
open Go.Lib Go.Proofs
theorem adS {P:Program} {W:World} {rest:List (String×DataW Unit)} {g:Nat} {t e:TypeId} (hg:P.globalNamed "internal/strconv.uint64pow10" =some g) (hty:(P.globals[g]?).map (·.type)=some t) (ht:P.underlying t=some (.array 20 e)) (he:P.underlying e=some (.int .u64)) (hce:P.cellsOf e=1) (hct:P.cellsOf t=20) (h:laidMet P (("internal/strconv.uint64pow10",tabData .u64 Gi)::rest) W): ∀ g,P.globalNamed "internal/strconv.uint64pow10" =some g->∃ T fz,Gw W g=some (.cells (Gi.map fun z=>Value.int .u64 z).toArray T fz):=by
 intro g' hg'
 have:=tabIs_of_head hg hty ht he hce hct h
 unfold TabIs World.var? at this
 rw[hg',aib] at this
 show ∃ T fz,W.heap[g']? =_
 split at this
 ·rename_i cs T fz hh
  cases this
  exact⟨T,fz,hh⟩
 ·cases this
theorem adR {P:Program} {W:World} {g:Nat} {t:TypeId} {zero:Array Value} (h:W.ShapedOpen P) (hg:P.globalNamed "internal/bytealg.MaxLen" =some g) (hlt:g<P.globals.size) (h0:((begin P (fun _ _=>0) default).world.heap[g]?).bind Obj.row? =some (zero,t)) (hz:zero.size=1) (hb:P.buildable t=true) (hc:P.cellTypes P.depth t=some [t]) (hu:P.underlying t=some (.int .i64)): ∀ g,P.globalNamed "internal/bytealg.MaxLen" =some g->∃ n T fz,Gw W g=some (.cells #[Value.int .i64 n] T fz):=by
 intro g' hg'
 obtain rfl:g=g':=Option.some.inj (hg.symm.trans hg')
 obtain⟨m,hm⟩:=cell_of_shapedOpen_int h hlt h0 hz hb hc hu
 obtain⟨cs,hh,hs,_⟩:=h.1 g zero t hlt h0
 have h1:cs.size=1:=by omega
 refine⟨m,t,(0,0), ?_⟩
 show W.heap[g]? =_
 rw[hh]
 have:cs= #[cs[0]]:=by
  apply Array.ext
  ·simpa using h1
  ·intro i h2 h3
   have:i=0:=by omega
   subst this
   rfl
 have hcell:W.cell? ⟨g,0,none⟩=some cs[0]:=by simp[World.cell?,hh,h1]
 rw[hm] at hcell
 rw[this, <- Option.some.inj hcell]
end Go.Dn
namespace Go.Dn
def N6 (b:Nat) {α:Type} (l:List α) (n:Int):Option (List α×Unit):=bif decide (0<=n)&&decide ((l.length+n.toNat)*b<=140737488355328)&&decide (l.length+n.toNat<=4611686018427387904) then some (l,()) else none
end Go.Dn
namespace Go.Dn
open Go.Proofs Go.Shelf
section
variable {P:Program} {G:Gh} {w w':World} {ow:Nat->Option Nat} {e:TypeId} {t:Ty}
def WZ (e:TypeId) (t:Ty) (b:Nat):aA:=⟨[.row e t,.val tI],[.row e t],fun x=>N6 b (show List t.den from x.1) x.2.1⟩
theorem Nr {b:Nat} {args:List Value} {L:List t.den} {g cap:Nat} {cur':Array Value} {xs:List Value} (hagr:Agr G w) (h1:w'.heap[g]? =some (.cells cur' e (0,0))) (h2:L.length<=cap) (h3:cap<=maxLen) (h4:cur'.size=cap*t.size) (h5:cur'.toList.take (L.length*t.size)=xs) (hx:xs.length=L.length*t.size) (hrep:bO (aK G t) L xs) (hos:w'.os=w.os) (hout:w'.output=w.output) (hsz:w.heap.size<=w'.heap.size) (hoth:∀ k,k<w.heap.size->k≠g->w'.heap[k]? =w.heap[k]?) (hG:G g=none) (hnew:w.heap.size<=g\/ow g≠none): ∃ G' ow' vs,vO G w ow (WZ e t b) args (L,()) (.returned (.slice (some ⟨g,0,none⟩) L.length cap)) w' G' ow' vs:=by
 refine⟨G,fun b=>if b=g then some (64*24) else none,[.slice (some ⟨g,0,none⟩) L.length cap], ?_⟩
 exact {
  ret:=rfl
  le:=Gh.le_refl G
  agr:=fun b o hb=>by
   have hw:=hagr b o hb
   have hne:b≠g:=fun e=>by rw[e,hG] at hb;cases hb
   rw[hoth b (cK hw) hne];exact hw
  size:=hsz
  os:=hos
  output:=hout
  old:=fun b hb hob=>by
   have hne:b≠g:=fun e=>by
    subst e
    rcases hnew with h | h
    ·omega
    ·exact h hob
   exact⟨hoth b hb hne,rfl⟩
  own:=fun b i hb=>by
   by_cases e:b=g
   ·subst e;exact⟨hG,cK h1,hnew⟩
   ·simp only[e,aiz] at hb;cases hb
  out:=by
   refine⟨_,[],rfl,⟨⟨xs,⟨hx,.inr ⟨g,cap,cur',rfl,ah8 _,h1,h2,h3,h4,h5⟩⟩,hrep⟩,fun b hb=> ?_⟩,rfl,trivial⟩
   have:some g=some b:=hb
   cases this
   show (if g=g then some (64*24) else none)=_
   simp
  hnd:=fun _=>rfl }
theorem aa1 {ρ:Ren} (L:Lays8.n4 P ρ) {i0:TypeInfo} {z:Value} (hi0:P.info? (ρ.t 25)=some i0) (hz0:i0.zero=some z) (hs0:0<i0.size) (hst:i0.size=t.size) (hzc:z.cells.size=i0.size) {l r:List t.den} {n:Int} {s:Value} {xs:List Value} (hG:Agr G w) (how:∀ b i,ow b=some i->G b=none/\b<w.heap.size) (hown:w.ownsRow 0 (ρ.t 25) t.size s l.length xs) (hrep:bO (aK G t) l xs) (hobl:∀ b,s.ownBlock=some b->ow b=some (64*0)) (hm:N6 i0.bytes l n=some (r,())): Calls P (ρ.f 4) #[s,.int .i64 n] w fun e w'=>∃ G' ow' vs,vO G w ow (WZ (ρ.t 25) t i0.bytes) [s,.int .i64 n] (r,()) e w' G' ow' vs:=by
 unfold N6 at hm
 cases hb:(decide (0<=n)&&decide ((l.length+n.toNat)*i0.bytes<=140737488355328)&&decide (l.length+n.toNat<=4611686018427387904)) with
 | false=>rw[hb] at hm;cases hm
 | true=>
  rw[hb] at hm
  simp only[aio,Option.some.injEq,Prod.mk.injEq,aij] at hm
  subst hm
  simp only[afv,ait] at hb
  obtain⟨⟨b1,b2⟩,b3⟩:=hb
  obtain⟨k,rfl⟩:∃ k:Nat,n=(k:Int):=⟨n.toNat,by omega⟩
  rw[afY] at b2 b3
  have hGnew:G w.heap.size=none:=by
   cases h:G w.heap.size with
   | none=>rfl
   | some o=>have:=cK (hG _ _ h);omega
  have wR:l.length+k<=maxLen:=by simp only[maxLen];omega
  rcases hown.2 with ⟨rfl,hl0⟩ | ⟨g,cap,cur,rfl,_,hgb,hln,hcm,hcs,hct⟩
  ·have hl:l=[]:=agi hl0
   subst hl
   have hxs:xs=[]:=agi (by rw[hown.1];simp)
   subst hxs
   by_cases hk:k=0
   ·subst hk
    refine (Any8.slices_Grow_room L none 0 0 0 w (ahJ _) (by omega) (by omega) (ahJ _)).mono ?_
    rintro e w' ⟨rfl,rfl⟩
    refine⟨G,fun _=>none,[.slice none 0 0], ?_⟩
    exact {
     ret:=rfl
     le:=Gh.le_refl G
     agr:=hG
     size:=ahJ _
     os:=rfl
     output:=rfl
     old:=fun b _ _=>⟨rfl,rfl⟩
     own:=fun b i hbi=>by cases hbi
     out:=⟨_,[],rfl,⟨⟨[],⟨by simp,.inl ⟨rfl,rfl⟩⟩,hrep⟩,fun b hb=>by cases hb⟩,rfl,trivial⟩
     hnd:=fun _=>rfl }
   ·refine (Any8.slices_Grow_grow L i0 z hi0 hz0 hs0 none 0 0 k [] w (ahJ _) (by omega) (by simpa using b2) (by simpa using b3) (by simp) (fun _=>rfl) (fun a h=>by cases h)).mono ?_
    rintro e w' ⟨rfl,rfl⟩
    have c1:=grownCap_ge w (0+k) 0 (ρ.t 25)
    have c2:=grownCap_le_maxLen w (0+k) 0 (ρ.t 25) (by simpa using wR)
    refine Nr (L:=([]:List t.den)) (xs:=[]) hG (heap_alloc_new w.drew _) (ah8 _) c2 ?_ (by simp) (by simp) hrep rfl rfl (by simp) (fun q hq hne=>heap_alloc_old w.drew _ hq) hGnew (.inl (ahJ _))
    simp only[afr,size_zeroCells,hzc,hst]
    simp only[ahq,agQ,ah7,Nat.sub_zero] at c1 ⊢
    rw[<- ahB];congr 1;omega
  ·have hgOw:ow g=some (64*0):=hobl g rfl
   have hGg:=(how g _ hgOw).1
   have hc63:cap<=9223372036854775807:=by simp only[maxLen] at hcm;omega
   by_cases hroom:l.length+k<=cap
   ·refine (Any8.slices_Grow_room L (some ⟨g,0,none⟩) l.length cap k w hln hc63 (by omega) hroom).mono ?_
    rintro e w' ⟨rfl,rfl⟩
    exact Nr hG hgb hln hcm hcs hct hown.1 hrep rfl rfl (ahJ _) (fun _ _ _=>rfl) hGg (.inr (by rw[hgOw];simp))
   ·refine (Any8.slices_Grow_grow L i0 z hi0 hz0 hs0 (some ⟨g,0,none⟩) l.length cap k cur.toList w hln (by omega) b2 b3 (by rw[hst];simpa using hcs) (fun h=>by cases h) (fun a h j v hj=>by
     cases h
     rw[Addr.add_lit]
     simp[World.cell?,hgb]
     simpa using hj)).mono ?_
    rintro e w' ⟨rfl,rfl⟩
    have c1:=grownCap_ge w (l.length+k) cap (ρ.t 25)
    have c2:=grownCap_le_maxLen w (l.length+k) cap (ρ.t 25) wR
    refine Nr (L:=l) (xs:=xs) hG (heap_alloc_new w.drew _) (by omega) c2 ?_ ?_ hown.1 hrep rfl rfl (by simp) (fun q hq hne=>heap_alloc_old w.drew _ hq) hGnew (.inl (ahJ _))
    ·simp only[afr,size_zeroCells,hzc,hst,ahq,afp,hcs]
     rw[<- ahB, <- ahB];congr 1;omega
    ·rw[<- hct]
     simp only[Array.toList_append,af3]
     rw[aht (by
      simp only[afp,hcs]
      exact ahZ _ hln)]
theorem ado {ρ:Ren} (L:Lays8.n4 P ρ) {i0:TypeInfo} {z:Value} (hi0:P.info? (ρ.t 25)=some i0) (hz0:i0.zero=some z) (hs0:0<i0.size) (hst:i0.size=t.size) (hzc:z.cells.size=i0.size):cQ P (ρ.f 4) (WZ (ρ.t 25) t i0.bytes):=by
 intro G w ow args x y hG how ha hm _
 obtain⟨l,i,u⟩:=x
 obtain⟨r,u'⟩:=y
 obtain⟨s,us,a1,_,⟨⟨xs,hown,hrep⟩,hobl⟩,iv,us2,a2,_,hiv,a4⟩:=ha
 have e1:=a1 rfl
 have e2:=a2 rfl
 have e4:us2=[]:=a4
 have e5:iv= .int .i64 i:=by simpa [G7,bX,aK,tI] using hiv
 subst e1;subst e2;subst e4;subst e5
 exact aa1 (l:=l) (r:=r) (n:=i) L hi0 hz0 hs0 hst hzc hG how hown hrep hobl hm
end
end Go.Dn
namespace Go.Dn
open Go.Proofs Go.Shelf Go.RowKit Go.Lib
theorem LM {P:Program} (w:World) (tS tR e:TypeId) (ht:P.underlying tS=some (.slice e)) (size:Nat) (hz:∀ w,(Go.sizeOf e).run P w= .ok size w) (a b:Addr) (la ca lb cb:Nat) (hne:a.block≠b.block) (tA tB:TypeId) (kA kB:Nat) (hsa:w.shape? a.block=some (tA,kA)) (hsb:w.shape? b.block=some (tB,kB)) (hkA:kA≠0) (hfb:w.frozen? b=false) (hfe:w.frozen? { block:=b.block,off:=kB }=false): (Extern.SlicesOverlaps.overlaps #[tS,tS] #[tR] #[.slice (some a) la ca,.slice (some b) lb cb]).run P w= .ok (.bool false) w:=by
 have hnb:(a.block != b.block)=true:=by simpa using hne
 have hnb':(a.block==b.block)=false:=by simpa using hne
 change Sem.run P (α:=Value) (do
  let some t:=(#[tS,tS]:Array TypeId)[0]? | stuck "slices.overlaps: no parameter types"
  let .slice elem <- underlying t | stuck "slices.overlaps: slice type expected"
  let size <- sizeOf elem
  match (some a:Option Addr),(some b:Option Addr) with
  | some a,some b=>
   if la=0\/lb=0\/size=0 then pure (Value.bool false)
   else if a.block != b.block&&(<- frozen a)&&(<- frozen b) then unsupported .addressObserved
   else do
    if a.block != b.block then do
     noView a;noView b
     if <- mayBeOne a b then return Value.bool ((<- choose (.extern "sameAddr.stringBytes" 2))==1)
    pure (Value.bool (a.block==b.block&&a.off<b.off+lb*size&&b.off<a.off+la*size))
  | _,_=>pure (Value.bool false)) w=_
 by_cases h0:la=0\/lb=0\/size=0
 ·simp[run_underlying ht,hz,h0]
 ·cases kA with
  | zero=>exact absurd rfl hkA
  | succ kA=>
   cases hfa:w.frozen? a with
   | true=>simp[run_underlying ht,hz,h0,hnb,hnb',frozen,noView,viewAt,mayBeOne,stringish,shape,Sem.run,hsa,hsb,hfa,hfb,hfe]
   | false=>
    cases hfc:w.frozen? { block:=a.block,off:=kA+1 } with
    | true=>simp[run_underlying ht,hz,h0,hnb,hnb',frozen,noView,viewAt,mayBeOne,stringish,shape,Sem.run,hsa,hsb,hfa,hfb,hfe,hfc]
    | false=>simp[run_underlying ht,hz,h0,hnb,hnb',frozen,noView,viewAt,mayBeOne,stringish,shape,Sem.run,hsa,hsb,hfa,hfb,hfe,hfc]
structure xP (P:Program) (ρ:Ren) (k bytes:Nat) (z:Value):Prop where
 mixed:P.follows .mixedOrders=true
 f22:Bears P (ρ.f 22) (Body2.n22 ρ)
 f29:∃ fn,P.funcs[ρ.f 29]? =some fn/\(fn.name== "runtime.NumGoroutine")=false/\fn.body.isNone=true/\Extern.findNext fn=none/\Extern.find fn=some (Extern.SlicesOverlaps.overlaps #[(ρ.t 24),(ρ.t 24)] #[(ρ.t 4)])
 t0:P.underlying (ρ.t 0)=some (TypeDesc.tuple #[])
 a0:∀ w,(isAgg (ρ.t 0)).run P w= .ok false w
 z0:∀ w,(Go.sizeOf (ρ.t 0)).run P w= .ok 1 w
 v0:∀ w,(zeroValue (ρ.t 0)).run P w= .ok (Value.tuple #[]) w
 t3:P.underlying (ρ.t 3)=some (TypeDesc.int IntKind.i64)
 a3:∀ w,(isAgg (ρ.t 3)).run P w= .ok false w
 z3:∀ w,(Go.sizeOf (ρ.t 3)).run P w= .ok 1 w
 v3:∀ w,(zeroValue (ρ.t 3)).run P w= .ok (Value.int IntKind.i64 0) w
 t4:P.underlying (ρ.t 4)=some (TypeDesc.bool)
 a4:∀ w,(isAgg (ρ.t 4)).run P w= .ok false w
 z4:∀ w,(Go.sizeOf (ρ.t 4)).run P w= .ok 1 w
 v4:∀ w,(zeroValue (ρ.t 4)).run P w= .ok (Value.bool false) w
 z9:∀ w,(Go.sizeOf (ρ.t 9)).run P w= .ok k w
 t24:P.underlying (ρ.t 24)=some (TypeDesc.slice (ρ.t 9))
 a24:∀ w,(isAgg (ρ.t 24)).run P w= .ok false w
 z24:∀ w,(Go.sizeOf (ρ.t 24)).run P w= .ok 1 w
 v24:∀ w,(zeroValue (ρ.t 24)).run P w= .ok (Value.slice none 0 0) w
 i9:(P.info? (ρ.t 9)).map (fun i=>(i.zero,i.size,i.bytes))=some (some z,k,bytes)
 k0:0<k
 zc:z.cells.size=k
theorem Dh {o:Option TypeInfo} {z:Value} {k b:Nat} (h:o.map (fun i=>(i.zero,i.size,i.bytes))=some (some z,k,b)):∃ i,o=some i/\i.zero=some z/\i.size=k/\i.bytes=b:=by
 cases o with
 | none=>cases h
 | some i=>
  simp only[aih,Option.some.injEq,Prod.mk.injEq] at h
  exact⟨i,rfl,h.1,h.2.1,h.2.2⟩
theorem wz {P:Program} (w:World) (dT sT ty elem:TypeId) (b o dLen dCap:Nat) (a:Addr) (sLen sCap k m:Nat) (cs:List Value) (hu:P.underlying dT=some (.slice elem)) (hs:(P.info? elem).map (·.size)=some k) (hm:m=Nat.min sLen dLen) (hn:cs.length=m*k) (hsrc:∀ j v,cs[j]? =some v->w.cell? (a.add j)=some v) (hc:∀ j,j<cs.length->(w.cell? ⟨b,o+j,none⟩).isSome=true) (hf:∀ j,j<cs.length->w.frozen? ⟨b,o+j,none⟩=false) (h1:∀ v∈cs,v.oneCell'=true): (Builtin.copy_ #[dT,sT] ty #[.slice (some ⟨b,o,none⟩) dLen dCap,.slice (some a) sLen sCap]).run P w= .ok (goInt m) (w.setCells b o cs):=by
 have hl:=run_loadCells_list (P:=P) w a cs hsrc
 have hst:=run_storeCells_cells (P:=P) b o cs 0 w (by simpa using hc) (by simpa using hf) h1
 cases hq:P.info? elem with
 | none=>simp[hq] at hs
 | some i=>
  have hi:i.size=k:=by simpa [hq] using hs
  simp[Builtin.copy_,run_underlying hu,Builtin.lenOf,Builtin.firstCells,sizeOf,typeInfo,hq,hi, <- hm, <- hn,hl,hst]
variable {P:Program} {ρ:Ren} {k bytes:Nat} {z:Value}
set_option maxHeartbeats 4000000 in
set_option maxRecDepth 100000 in
theorem Vt (L:xP P ρ k bytes z) (b off n c vb voff m vc:Nat) (vs:List Value) (w:World) (hm:0<m) (hroom:n+m<=c) (hc63:c<=9223372036854775807) (hvl:vs.length=m*k) (hsp:∀ j,j<m*k->(w.cell? ⟨b,off+n*k+j,none⟩).isSome=true) (hfz:∀ j,j<m*k->w.frozen? ⟨b,off+n*k+j,none⟩=false) (hvs:∀ j v,vs[j]? =some v->w.cell? ⟨vb,voff+j,none⟩=some v) (h1v:∀ v∈vs,v.oneCell'=true): Calls P (ρ.f 22) #[.slice (some ⟨b,off,none⟩) n c,.int .i64 n,.slice (some ⟨vb,voff,none⟩) m vc] w fun e w'=> e= .returned (.slice (some ⟨b,off,none⟩) (n+m) c)/\w'=w.setCells b (off+n*k) vs:=by
 have t0:=L.t0;have a0:=L.a0;have z0:=L.z0;have v0:=L.v0;have t3:=L.t3;have a3:=L.a3;have z3:=L.z3;have v3:=L.v3;have t4:=L.t4;have a4:=L.a4;have z4:=L.z4;have v4:=L.v4;have z9:=L.z9;have t24:=L.t24;have a24:=L.a24;have z24:=L.z24;have v24:=L.v24
 have u0:=run_underlying L.t0;have u3:=run_underlying L.t3;have u4:=run_underlying L.t4;have u24:=run_underlying L.t24
 have mixed:=L.mixed
 obtain⟨i0,hi0,hz0,hzs,hzb⟩:=Dh L.i9
 have hz1:¬ ((m:Int)=0):=by omega
 have hsrc:Src P i0.size (ρ.t 24) (.slice (some ⟨vb,voff,none⟩) m vc) m vs w:=by
  rw[hzs]
  exact Src.ofSlice w L.t24 ⟨vb,voff,none⟩ m vc vs hvl (fun j u hj=>by rw[Addr.add_lit];exact hvs j u hj) h1v
 rw[<- hzs] at hsp hfz ⊢
 rw[<- hzs] at hvl
 obtain⟨_,_,F22⟩:=L.f22
 go_enter F22,Body2.n22_ntmps ρ
 go_wp2_with (at_builtin;refine wpList_append_room_src _ rfl _ _ (ρ.t 24) (ρ.t 24) rfl (ρ.t 9) i0 L.t24 hi0 b off n c rfl _ rfl m vs hsrc hroom (by rw[hvl];exact hsp) (by rw[hvl];exact hfz) ?_)
 go_ret
 exact⟨rfl,by rw[hzs]⟩
set_option maxHeartbeats 4000000 in
set_option maxRecDepth 100000 in
theorem Vs (L:xP P ρ k bytes z) (base:Option Addr) (n c vb voff m vc:Nat) (cs vs:List Value) (w:World) (hm:0<m) (hnc:n<=c) (hroom:c<n+m) (hbig:(n+m)*bytes<=140737488355328) (h63:n+m<=4611686018427387904) (hcl:cs.length=n*k) (hvl:vs.length=m*k) (hnil:base=none->n=0) (hcs:∀ a,base=some a->∀ j v,cs[j]? =some v->w.cell? (a.add j)=some v) (hvs:∀ j v,vs[j]? =some v->w.cell? ⟨vb,voff+j,none⟩=some v) (h1v:∀ v∈vs,v.oneCell'=true): Calls P (ρ.f 22) #[.slice base n c,.int .i64 n,.slice (some ⟨vb,voff,none⟩) m vc] w fun e w'=> e= .returned (.slice (some ⟨w.heap.size,0,none⟩) (n+m) (grownCap w (n+m) c (ρ.t 9)))/\ w'=w.drew.alloc (.cells ((cs++vs).toArray++Builtin.zeroCells z.cells (grownCap w (n+m) c (ρ.t 9) - (n+m))) (ρ.t 9)):=by
 have t0:=L.t0;have a0:=L.a0;have z0:=L.z0;have v0:=L.v0;have t3:=L.t3;have a3:=L.a3;have z3:=L.z3;have v3:=L.v3;have t4:=L.t4;have a4:=L.a4;have z4:=L.z4;have v4:=L.v4;have z9:=L.z9;have t24:=L.t24;have a24:=L.a24;have z24:=L.z24;have v24:=L.v24
 have u0:=run_underlying L.t0;have u3:=run_underlying L.t3;have u4:=run_underlying L.t4;have u24:=run_underlying L.t24
 have mixed:=L.mixed
 obtain⟨i0,hi0,hz0,hzs,hzb⟩:=Dh L.i9
 have hz1:¬ ((m:Int)=0):=by omega
 have hsrc:Src P i0.size (ρ.t 24) (.slice (some ⟨vb,voff,none⟩) m vc) m vs w:=by
  rw[hzs]
  exact Src.ofSlice w L.t24 ⟨vb,voff,none⟩ m vc vs hvl (fun j u hj=>by rw[Addr.add_lit];exact hvs j u hj) h1v
 have hold:(Builtin.firstCells i0.size n (.slice base n c)).run P w.drew= .ok cs.toArray w.drew:=by
  rw[hzs]
  cases base with
  | none=>
   have h0:=hnil rfl
   subst h0
   rw[aia] at hcl
   rw[List.length_eq_zero_iff.1 hcl]
   exact run_firstCells_none w.drew k 0 0 c
  | some a=>exact run_firstCells_some w.drew k n a n c cs hcl (fun j v hj=>hcs a rfl j v hj)
 have hrun:∀ ty,(Builtin.append_ #[(ρ.t 24),(ρ.t 24)] ty #[.slice base n c,.slice (some ⟨vb,voff,none⟩) m vc]).run P w=_:=fun ty=>
  run_append_grow_src w (ρ.t 24) (ρ.t 24) ty (ρ.t 9) i0 _ L.t24 hi0 hz0 base n c cs hold _ m vs hsrc hroom (by omega) (by rw[hzb];exact growslice_fits hroom hbig)
 obtain⟨Z,hZ⟩:∃ Z,Z=z.cells:=⟨_,rfl⟩
 rw[<- hZ] at hrun ⊢
 clear hZ
 obtain⟨_,_,F22⟩:=L.f22
 go_enter F22,Body2.n22_ntmps ρ
 cases base with
 | none=>
  have h0:=hnil rfl
  subst h0
  go_wp2_with (at_builtin;refine Lib.wpList_append_run _ rfl _ _ _ _ rfl _ _ rfl rfl _ _ (hrun _) ?_)
  go_ret
  exact⟨rfl,rfl⟩
 | some a=>
  obtain⟨ab,ao,asp⟩:=a
  go_wp2_with (at_builtin;refine Lib.wpList_append_run _ rfl _ _ _ _ rfl _ _ rfl rfl _ _ (hrun _) ?_)
  all_goals (go_ret;exact⟨rfl,rfl⟩)
set_option maxHeartbeats 4000000 in
set_option maxRecDepth 100000 in
theorem ZX (L:xP P ρ k bytes z) (b off n c i vb voff m vc:Nat) (cs vs:List Value) (w:World) (hi:i<n) (hm:0<m) (hroom:n+m<=c) (hc63:c<=9223372036854775807) (hvb:vb≠b) (hcl:cs.length=n*k) (hvl:vs.length=m*k) (hcs:∀ j v,cs[j]? =some v->w.cell? ⟨b,off+j,none⟩=some v) (hsp:∀ j,j<(n+m)*k->(w.cell? ⟨b,off+j,none⟩).isSome=true) (hfz:∀ j,j<(n+m)*k->w.frozen? ⟨b,off+j,none⟩=false) (hvs:∀ j v,vs[j]? =some v->w.cell? ⟨vb,voff+j,none⟩=some v) (h1c:∀ v∈cs,v.oneCell'=true) (h1v:∀ v∈vs,v.oneCell'=true) (tA tB:TypeId) (kA kB:Nat) (hsa:w.shape? vb=some (tA,kA)) (hsb:w.shape? b=some (tB,kB)) (hkA:kA≠0) (hfb:w.frozen? ⟨b,off+(i+m)*k,none⟩=false) (hfe:w.frozen? ⟨b,kB,none⟩=false): Calls P (ρ.f 22) #[.slice (some ⟨b,off,none⟩) n c,.int .i64 i,.slice (some ⟨vb,voff,none⟩) m vc] w fun e w'=> e= .returned (.slice (some ⟨b,off,none⟩) (n+m) c)/\w'=(w.drew.setCells b (off+(i+m)*k) (cs.drop (i*k))).setCells b (off+i*k) vs:=by
 have t0:=L.t0;have a0:=L.a0;have z0:=L.z0;have v0:=L.v0;have t3:=L.t3;have a3:=L.a3;have z3:=L.z3;have v3:=L.v3;have t4:=L.t4;have a4:=L.a4;have z4:=L.z4;have v4:=L.v4;have z9:=L.z9;have t24:=L.t24;have a24:=L.a24;have z24:=L.z24;have v24:=L.v24
 have u0:=run_underlying L.t0;have u3:=run_underlying L.t3;have u4:=run_underlying L.t4;have u24:=run_underlying L.t24
 have hz1:¬ ((m:Int)=0):=by omega
 have hz2:¬ ((i:Int)=(n:Int)):=by omega
 have hsz:(P.info? (ρ.t 9)).map (·.size)=some k:=by
  obtain⟨i0,hi0,h0,h1,h2⟩:=Dh L.i9
  rw[hi0];simp[h1]
 have hov:∀ lb cb,(callFunc (ρ.f 29) #[.slice (some ⟨vb,voff,none⟩) m vc,.slice (some ⟨b,off+(i+m)*k,none⟩) lb cb]).run P w= .ok (.value (.bool false)) w:=fun lb cb=>by
  obtain⟨_,F29,F1,F2,F3,F4⟩:=L.f29
  rw[run_callFunc_extern F29 F1 F2 F3 F4,
   LM w (ρ.t 24) (ρ.t 4) (ρ.t 9) L.t24 k L.z9 ⟨vb,voff,none⟩ ⟨b,off+(i+m)*k,none⟩ m vc lb cb hvb tA tB kA kB hsa hsb hkA hfb hfe]
  rfl
 have hk1:(i+m)*k=i*k+m*k:=ahB i m k
 have hk2:(n+m)*k=n*k+m*k:=ahB n m k
 have hk3:i*k<=n*k:=ahZ k (by omega)
 have hk4:(n - i)*k=n*k - i*k:=Nat.sub_mul n i k
 have hdl:(cs.drop (i*k)).length=(n - i)*k:=by rw[agO,hcl,hk4]
 have mixed:=L.mixed
 have hw1:IntKind.i64.wrap ((i:Int)+(m:Int))=(i:Int)+(m:Int):=by rw[IntKind.wrap_i64];omega
 have hb1:(0:Int)<=(i:Int)+(m:Int):=by omega
 have hin:i<=n:=by omega
 have htn:((i:Int)+(m:Int)).toNat=i+m:=by omega
 have hb2:¬ (c=i+m):=by omega
 have hb3:(i:Int)<=(n:Int)+(m:Int):=by omega
 have hb4:¬ (c=i):=by omega
 have hcp1:∀ ty dc sc,(Builtin.copy_ #[(ρ.t 24),(ρ.t 24)] ty #[.slice (some ⟨b,off+(i+m)*k,none⟩) (n+m - (i+m)) dc,.slice (some ⟨b,off+i*k,none⟩) (n+m - i) sc]).run P w.drew= .ok (goInt (n - i:Nat)) (w.drew.setCells b (off+(i+m)*k) (cs.drop (i*k))):=fun ty dc sc=>
  wz w.drew _ _ ty (ρ.t 9) b (off+(i+m)*k) (n+m - (i+m)) dc ⟨b,off+i*k,none⟩ (n+m - i) sc k (n - i) (cs.drop (i*k)) L.t24 hsz (by simp only[Nat.min_def];split<;>omega) hdl
   (fun j v hj=>by rw[Addr.add_lit,ahA];exact hcs (i*k+j) v (by rwa [agy] at hj))
   (fun j hj=>by rw[ahA];exact hsp _ (by rw[hdl,hk4] at hj;omega)) (fun j hj=>by rw[ahA];exact hfz _ (by rw[hdl,hk4] at hj;omega)) (fun v hv=>h1c v (List.mem_of_mem_drop hv))
 obtain⟨W1,hW1⟩:∃ W1,W1=w.drew.setCells b (off+(i+m)*k) (cs.drop (i*k)):=⟨_,rfl⟩
 have hsp1:∀ q,q<(n+m)*k->(W1.cell? ⟨b,off+q,none⟩).isSome=true:=fun q hq=>by
  rw[hW1]
  exact isSome_setCells b _ _ _ (fun j hj=>by rw[ahA];exact hsp _ (by rw[hdl,hk4] at hj;omega)) _ (hsp q hq)
 have hcp2:∀ (W:World),(∀ x,W.cell? x=W1.cell? x)->(∀ x,W.frozen? x=W1.frozen? x)->∀ ty dc,(Builtin.copy_ #[(ρ.t 24),(ρ.t 24)] ty #[.slice (some ⟨b,off+i*k,none⟩) (n+m - i) dc,.slice (some ⟨vb,voff,none⟩) m vc]).run P W= .ok (goInt m) (W.setCells b (off+i*k) vs):=fun W hWc hWf ty dc=>
  wz W _ _ ty (ρ.t 9) b (off+i*k) (n+m - i) dc ⟨vb,voff,none⟩ m vc k m vs L.t24 hsz (by simp only[Nat.min_def];split<;>omega) hvl
   (fun j v hj=>by
     rw[Addr.add_lit,hWc,hW1,World.cell?_setCells_out b _ _ _ _ (fun h _=>absurd h hvb)]
     exact hvs j v hj)
   (fun j hj=>by rw[hWc,ahA];exact hsp1 _ (by omega)) (fun j hj=>by rw[hWf,hW1,World.frozen?_setCells,ahA];exact hfz _ (by omega)) h1v
 rw[<- hW1] at hcp1
 clear hk1 hk2 hk3 hk4 hdl hsp1
 obtain⟨_,_,F22⟩:=L.f22
 go_enter F22,Body2.n22_ntmps ρ
 go_wp2_with (simp only[hov])
 go_region_law_o (refine step_copy_runI rfl _ _ (ρ.t 24) (ρ.t 24) rfl _ _ (by simp[Act.eval,Act.put]) (by simp[Act.eval,Act.put]) (hcp1 _ _ _) ?_)
 go_wp2_with (at_builtin;refine wpList_copy_runI _ rfl _ _ (ρ.t 24) (ρ.t 24) rfl _ _ rfl rfl (hcp2 _ (fun _=>rfl) (fun _=>rfl) _ _) ?_)
 go_ret
 first | exact⟨rfl,rfl⟩ | exact⟨rfl,by rw[hW1]⟩
theorem qQ (z:Array Value) (n:Nat):(Builtin.zeroCells z n).size=n*z.size:=by
 simp[Builtin.zeroCells,ahY]
set_option maxHeartbeats 4000000 in
set_option maxRecDepth 100000 in
theorem aa5 (L:xP P ρ k bytes z) (b off n c i vb voff m vc:Nat) (cs vs:List Value) (w:World) (hi:i<n) (hm:0<m) (hnc:n<=c) (hroom:c<n+m) (hbig:(n+m)*bytes<=140737488355328) (h63:n+m<=4611686018427387904) (hcl:cs.length=n*k) (hvl:vs.length=m*k) (hcs:∀ j v,cs[j]? =some v->w.cell? ⟨b,off+j,none⟩=some v) (hvs:∀ j v,vs[j]? =some v->w.cell? ⟨vb,voff+j,none⟩=some v) (h1c:∀ v∈cs,v.oneCell'=true) (h1v:∀ v∈vs,v.oneCell'=true): Calls P (ρ.f 22) #[.slice (some ⟨b,off,none⟩) n c,.int .i64 i,.slice (some ⟨vb,voff,none⟩) m vc] w fun e w'=> e= .returned (.slice (some ⟨w.heap.size,0,none⟩) (n+m) (grownCap w (n+m) c (ρ.t 9)))/\ w'=(((w.alloc (.cells ((cs.take (i*k)).toArray++Builtin.zeroCells z.cells (n+m - i)++Builtin.zeroCells z.cells (grownCap w (n+m) c (ρ.t 9) - (n+m))) (ρ.t 9))).drew.setCells w.heap.size (i*k) vs).drew).setCells w.heap.size ((i+m)*k) (cs.drop (i*k)):=by
 have t0:=L.t0;have a0:=L.a0;have z0:=L.z0;have v0:=L.v0;have t3:=L.t3;have a3:=L.a3;have z3:=L.z3;have v3:=L.v3;have t4:=L.t4;have a4:=L.a4;have z4:=L.z4;have v4:=L.v4;have z9:=L.z9;have t24:=L.t24;have a24:=L.a24;have z24:=L.z24;have v24:=L.v24
 have u0:=run_underlying L.t0;have u3:=run_underlying L.t3;have u4:=run_underlying L.t4;have u24:=run_underlying L.t24
 have mixed:=L.mixed
 obtain⟨i0,hi0,hz0,hzs,hzb⟩:=Dh L.i9
 have hz1:¬ ((m:Int)=0):=by omega
 have hz2:¬ ((i:Int)=(n:Int)):=by omega
 have hz3:(c:Int)<(n:Int)+(m:Int):=by omega
 have hsz:(P.info? (ρ.t 9)).map (·.size)=some k:=by rw[hi0];simp[hzs]
 have hk0:=L.k0
 have hk1:(i+m)*k=i*k+m*k:=ahB i m k
 have hk2:(n+m)*k=n*k+m*k:=ahB n m k
 have hk3:i*k<=n*k:=ahZ k (by omega)
 have hk4:(n - i)*k=n*k - i*k:=Nat.sub_mul n i k
 have hk5:(n+m - i)*k=n*k+m*k - i*k:=by rw[Nat.sub_mul,hk2]
 have hk6:1<=m*k:=Nat.mul_pos hm hk0
 have hk7:1<=n*k:=Nat.mul_pos (by omega) hk0
 have hbw:b<w.heap.size:=block_lt_of_cell (hcs 0 _ (agz (by omega)))
 have hvw:vb<w.heap.size:=block_lt_of_cell (hvs 0 _ (agz (by omega)))
 have hkk:(n:Int)+(m:Int) - (i:Int)=((n+m - i:Nat):Int):=by omega
 have hik:i+(n+m - i)=n+m:=by omega
 have hold:(Builtin.firstCells i0.size i (.slice (some ⟨b,off,none⟩) i c)).run P w.drew= .ok (cs.take (i*k)).toArray w.drew:=by
  rw[hzs]
  exact run_firstCells_some w.drew k i ⟨b,off,none⟩ i c (cs.take (i*k)) (by rw[agV];omega) (fun j v hj=>by
   rw[Addr.add_lit]
   rw[agI] at hj
   split at hj
   ·exact hcs j v hj
   ·cases hj)
 have hb1':(n+m - i)*bytes<=(n+m)*bytes:=ahZ _ (by omega)
 have hrz:∀ ty,(Builtin.append_ #[(ρ.t 24),(ρ.t 3)] ty #[.slice (some ⟨b,off,none⟩) i c,.int .i64 ((n:Int)+(m:Int) - (i:Int))]).run P w=
  .ok (.slice (some ⟨w.heap.size,0,none⟩) (n+m) (grownCap w (n+m) c (ρ.t 9))) (w.drew.alloc (.cells ((cs.take (i*k)).toArray++Builtin.zeroCells z.cells (n+m - i)++Builtin.zeroCells z.cells (grownCap w (n+m) c (ρ.t 9) - (n+m))) (ρ.t 9))):=fun ty=>by
  have h:=Lib.run_append_grow_zeros w (ρ.t 24) (ρ.t 3) ty (ρ.t 9) i0 _ .i64 .i64 L.t24 L.t3 hi0 hz0 (some ⟨b,off,none⟩) i c (cs.take (i*k)) hold (n+m - i) (by omega) (by omega) (by omega) (by omega) (by rw[hzb];omega) (by rw[hzb,hik];exact growslice_fits hroom hbig)
  rw[hik] at h
  rw[hkk]
  exact h
 obtain⟨G,hG⟩:∃ G,G=grownCap w (n+m) c (ρ.t 9):=⟨_,rfl⟩
 obtain⟨ROW,hROW⟩:∃ ROW:Array Value,ROW=(cs.take (i*k)).toArray++Builtin.zeroCells z.cells (n+m - i)++Builtin.zeroCells z.cells (G - (n+m)):=⟨_,rfl⟩
 rw[<- hG] at hrz ⊢
 rw[<- hROW] at hrz ⊢
 have hRl:(n+m)*k<=ROW.size:=by
  rw[hROW]
  simp only[afr,ahq,agV,qQ,L.zc]
  rw[hcl,ahW hk3]
  omega
 obtain⟨W1,hW1⟩:∃ W1,W1=w.drew.alloc (.cells ROW (ρ.t 9)):=⟨_,rfl⟩
 rw[<- hW1] at hrz
 have hN:∀ j,j<(n+m)*k->(W1.cell? ⟨w.heap.size,j,none⟩).isSome=true:=fun j hj=>by
  rw[hW1,World.cell?_alloc_at (w:=w.drew) ROW _ w.heap.size j rfl,afh (by omega)];rfl
 have hNf:∀ j,W1.frozen? ⟨w.heap.size,j,none⟩=false:=fun j=>by rw[hW1];exact World.frozen?_alloc_at (w:=w.drew) ROW _ w.heap.size j rfl
 have hOb:∀ j v,w.cell? ⟨b,j,none⟩=some v->W1.cell? ⟨b,j,none⟩=some v:=fun j v h=>by rw[hW1,World.cell?_alloc_past (w:=w.drew) _ b j hbw];exact h
 have hOv:∀ j v,w.cell? ⟨vb,j,none⟩=some v->W1.cell? ⟨vb,j,none⟩=some v:=fun j v h=>by rw[hW1,World.cell?_alloc_past (w:=w.drew) _ vb j hvw];exact h
 have hcpA:∀ (W:World),(∀ x,W.cell? x=W1.cell? x)->(∀ x,W.frozen? x=W1.frozen? x)->∀ ty dc,(Builtin.copy_ #[(ρ.t 24),(ρ.t 24)] ty #[.slice (some ⟨w.heap.size,i*k,none⟩) (n+m - i) dc,.slice (some ⟨vb,voff,none⟩) m vc]).run P W= .ok (goInt m) (W.setCells w.heap.size (i*k) vs):=fun W hWc hWf ty dc=>
  wz W _ _ ty (ρ.t 9) w.heap.size (i*k) (n+m - i) dc ⟨vb,voff,none⟩ m vc k m vs L.t24 hsz (by simp only[Nat.min_def];split<;>omega) hvl
   (fun j v hj=>by rw[Addr.add_lit,hWc];exact hOv _ v (hvs j v hj))
   (fun j hj=>by rw[hWc];exact hN _ (by omega)) (fun j hj=>by rw[hWf];exact hNf _) h1v
 have hGn:n+m<=G:=by rw[hG];exact grownCap_ge w _ _ _
 have hG63:G<=9223372036854775807:=by
  have:=grownCap_le_maxLen w (n+m) c (ρ.t 9) (by unfold maxLen;omega)
  rw[<- hG] at this
  unfold maxLen at this
  omega
 have hGi:¬ (G=i):=by omega
 have hGim:¬ (G=i+m):=by omega
 have hci:¬ (c=i):=by omega
 have hbN:b≠w.heap.size:=by omega
 have hdl:(cs.drop (i*k)).length=(n - i)*k:=by rw[agO,hcl,hk4]
 have hcpB:∀ (W:World),(∀ x,W.cell? x=(W1.setCells w.heap.size (i*k) vs).cell? x)->(∀ x,W.frozen? x=(W1.setCells w.heap.size (i*k) vs).frozen? x)->∀ ty dc sc,(Builtin.copy_ #[(ρ.t 24),(ρ.t 24)] ty #[.slice (some ⟨w.heap.size,(i+m)*k,none⟩) (n+m - (i+m)) dc,.slice (some ⟨b,off+i*k,none⟩) (n - i) sc]).run P W= .ok (goInt (n - i:Nat)) (W.setCells w.heap.size ((i+m)*k) (cs.drop (i*k))):=fun W hWc hWf ty dc sc=>
  wz W _ _ ty (ρ.t 9) w.heap.size ((i+m)*k) (n+m - (i+m)) dc ⟨b,off+i*k,none⟩ (n - i) sc k (n - i) (cs.drop (i*k)) L.t24 hsz (by simp only[Nat.min_def];split<;>omega) hdl
   (fun j v hj=>by
     rw[Addr.add_lit,hWc,World.cell?_setCells_out _ _ _ _ _ (fun h _=>absurd h hbN),ahA]
     exact hOb _ v (hcs (i*k+j) v (by rwa [agy] at hj)))
   (fun j hj=>by rw[hWc];exact isSome_setCells _ _ _ _ (fun t ht=>hN _ (by omega)) _ (hN _ (by rw[hdl,hk4] at hj;omega)))
   (fun j hj=>by rw[hWf,World.frozen?_setCells];exact hNf _) (fun v hv=>h1c v (List.mem_of_mem_drop hv))
 subst hW1
 have hE1:∀ x,((w.alloc (.cells ROW (ρ.t 9))).drew).cell? x=(w.drew.alloc (.cells ROW (ρ.t 9))).cell? x:=fun x=>rfl
 have hE2:∀ x,((w.alloc (.cells ROW (ρ.t 9))).drew).frozen? x=(w.drew.alloc (.cells ROW (ρ.t 9))).frozen? x:=fun x=>rfl
 have hF1:∀ x,(((w.alloc (.cells ROW (ρ.t 9))).drew.setCells w.heap.size (i*k) vs).drew).cell? x=((w.drew.alloc (.cells ROW (ρ.t 9))).setCells w.heap.size (i*k) vs).cell? x:=fun x=>rfl
 have hF2:∀ x,(((w.alloc (.cells ROW (ρ.t 9))).drew.setCells w.heap.size (i*k) vs).drew).frozen? x=((w.drew.alloc (.cells ROW (ρ.t 9))).setCells w.heap.size (i*k) vs).frozen? x:=fun x=>rfl
 have hw1:IntKind.i64.wrap ((i:Int)+(m:Int))=(i:Int)+(m:Int):=by rw[IntKind.wrap_i64];omega
 have hb1:(0:Int)<=(i:Int)+(m:Int):=by omega
 have hin:i<=n:=by omega
 have htn:((i:Int)+(m:Int)).toNat=i+m:=by omega
 have hb3:(i:Int)<=(n:Int):=by omega
 clear hkk hik hold hROW hG hRl hk1 hk2 hk3 hk4 hk5 hk6 hk7 hdl hN hb1'
 obtain⟨_,_,F22⟩:=L.f22
 go_enter F22,Body2.n22_ntmps ρ
 go_wp2_with (first
  | (at_builtin;refine Lib.wpList_append_run _ rfl _ _ _ _ rfl _ _ rfl rfl _ _ (hrz _) ?_)
  | (at_builtin;refine wpList_copy_runI _ rfl _ _ (ρ.t 24) (ρ.t 24) rfl _ _ rfl rfl (hcpA _ hE1 hE2 _ _) ?_)
  | (at_builtin;refine wpList_copy_runI _ rfl _ _ (ρ.t 24) (ρ.t 24) rfl _ _ rfl rfl (hcpB _ (fun _=>rfl) (fun _=>rfl) _ _ _) ?_))
 go_region_law_o (refine step_copy_runI rfl _ _ (ρ.t 24) (ρ.t 24) rfl (.slice (some ⟨w.heap.size,(i+m)*k,none⟩) (n+m - (i+m)) (G - (i+m))) (.slice (some ⟨b,off+i*k,none⟩) (n - i) (c - i)) (by simp[Act.eval,Act.put]) (by simp[Act.eval,Act.put]) (hcpB _ hF1 hF2 (ρ.t 3) (G - (i+m)) (c - i)) ?_)
 go_wp2
 go_ret
 exact⟨rfl,rfl⟩
end Go.Dn
namespace Go.Dn
def ny (b:Nat) {α:Type} (l:List α) (i:Int) (v:List α):Option (List α×Unit):=
 bif decide (0<=i)&&(decide (i<=(l.length:Int))&&(decide (0<v.length)&&(decide ((l.length+v.length)*b<=140737488355328)&&decide (l.length+v.length<=4611686018427387904)))) then some (l.take i.toNat++(v++l.drop i.toNat),()) else none
end Go.Dn
namespace Go.Dn
open Go.Proofs Go.Shelf Go.RowKit Go.Lib
section
variable {P:Program} {G:Gh} {w w':World} {ow:Nat->Option Nat} {e:TypeId} {t:Ty}
def MR (e:TypeId) (t:Ty) (b:Nat):aA:=⟨[.row e t,.val tI,.row e t],[.row e t],fun x=>ny b (show List t.den from x.1) x.2.1 (show List t.den from x.2.2.1)⟩
theorem tH {b:Nat} {args:List Value} {L:List t.den} {g cap:Nat} {cur':Array Value} {xs:List Value} (hagr:Agr G w) (h1:w'.heap[g]? =some (.cells cur' e (0,0))) (h2:L.length<=cap) (h3:cap<=maxLen) (h4:cur'.size=cap*t.size) (h5:cur'.toList.take (L.length*t.size)=xs) (hx:xs.length=L.length*t.size) (hrep:bO (aK G t) L xs) (hos:w'.os=w.os) (hout:w'.output=w.output) (hsz:w.heap.size<=w'.heap.size) (hoth:∀ k,k<w.heap.size->k≠g->w'.heap[k]? =w.heap[k]?) (hG:G g=none) (hnew:w.heap.size<=g\/ow g≠none): ∃ G' ow' vs,vO G w ow (MR e t b) args (L,()) (.returned (.slice (some ⟨g,0,none⟩) L.length cap)) w' G' ow' vs:=by
 refine⟨G,fun b=>if b=g then some (64*24) else none,[.slice (some ⟨g,0,none⟩) L.length cap], ?_⟩
 exact {
  ret:=rfl
  le:=Gh.le_refl G
  agr:=fun b o hb=>by
   have hw:=hagr b o hb
   have hne:b≠g:=fun e=>by rw[e,hG] at hb;cases hb
   rw[hoth b (cK hw) hne];exact hw
  size:=hsz
  os:=hos
  output:=hout
  old:=fun b hb hob=>by
   have hne:b≠g:=fun e=>by
    subst e
    rcases hnew with h | h
    ·omega
    ·exact h hob
   exact⟨hoth b hb hne,rfl⟩
  own:=fun b i hb=>by
   by_cases e:b=g
   ·subst e;exact⟨hG,cK h1,hnew⟩
   ·simp only[e,aiz] at hb;cases hb
  out:=by
   refine⟨_,[],rfl,⟨⟨xs,⟨hx,.inr ⟨g,cap,cur',rfl,ah8 _,h1,h2,h3,h4,h5⟩⟩,hrep⟩,fun b hb=> ?_⟩,rfl,trivial⟩
   have:some g=some b:=hb
   cases this
   show (if g=g then some (64*24) else none)=_
   simp
  hnd:=fun _=>rfl }
theorem aa4 {ρ:Ren} {bytes:Nat} {z:Value} (L:xP P ρ t.size bytes z) {l v r:List t.den} {i:Int} {s u:Value} {xs ys:List Value} (hG:Agr G w) (how:∀ b i,ow b=some i->G b=none/\b<w.heap.size) (hown:w.ownsRow 0 (ρ.t 9) t.size s l.length xs) (hrep:bO (aK G t) l xs) (hobl:∀ b,s.ownBlock=some b->ow b=some 0) (hsrc:v≠[]->∃ vb voff vc vT cv,u= .slice (some ⟨vb,voff,none⟩) v.length vc/\w.shape? vb=some (vT,cv)/\cv≠0/\(∀ g,s.ownBlock=some g->vb≠g)/\ys.length=v.length*t.size/\∀ (j:Nat) (z:Value),ys[j]? =some z->w.cell? ⟨vb,voff+j,none⟩=some z) (hrep2:bO (aK G t) v ys) (hm:ny bytes l i v=some (r,())):Calls P (ρ.f 22) #[s,.int .i64 i,u] w fun e w'=>∃ G' ow' vs,vO G w ow (MR (ρ.t 9) t bytes) [s,.int .i64 i,u] (r,()) e w' G' ow' vs:=by
 unfold ny at hm
 cases hb:(decide (0<=i)&&(decide (i<=(l.length:Int))&&(decide (0<v.length)&&(decide ((l.length+v.length)*bytes<=140737488355328)&&decide (l.length+v.length<=4611686018427387904))))) with
 | false=>rw[hb] at hm;cases hm
 | true=>
  rw[hb] at hm
  simp only[aio,Option.some.injEq,Prod.mk.injEq,aij] at hm
  subst hm
  simp only[afv,ait] at hb
  obtain⟨b1,b2,b3,b4,b5⟩:=hb
  obtain⟨q,rfl⟩:∃ q:Nat,i=(q:Int):=⟨i.toNat,by omega⟩
  have hq:q<=l.length:=by omega
  simp only[afY]
  have hlen:∀ x cs,aK G t x cs->cs.length=t.size:=fun x cs h=>aK.len h
  have hxl:=hown.1
  obtain⟨vb,voff,vc,vT,cvn,rfl,hshape,hcv0,hvne,hyl,hvcell⟩:=hsrc (fun e=>by rw[e] at b3;simp at b3)
  have hRr:bO (aK G t) (l.take q++(v++l.drop q)) (xs.take (q*t.size)++(ys++xs.drop (q*t.size))):=
   bO.append (bO.take hlen hrep q) (bO.append hrep2 (bO.drop hlen hrep q))
  generalize hR:l.take q++(v++l.drop q)=R at hRr
  have hRl:R.length=l.length+v.length:=by rw[<- hR];simp;omega
  have hm1:(l.length+v.length)*t.size=l.length*t.size+v.length*t.size:=ahB _ _ _
  have hm2:q*t.size<=l.length*t.size:=ahZ _ hq
  have hm3:(q+v.length)*t.size=q*t.size+v.length*t.size:=ahB _ _ _
  have hRcl:(xs.take (q*t.size)++(ys++xs.drop (q*t.size))).length=R.length*t.size:=by
   rw[hRl,hm1];simp only[agM,agV,agO,hxl,hyl,ahW hm2];omega
  have onex:∀ z∈xs,z.oneCell'=true:=bO.one hrep
  have oney:∀ z∈ys,z.oneCell'=true:=bO.one hrep2
  have hk0:=L.k0
  have wR:l.length+v.length<=maxLen:=by simp only[maxLen];omega
  have hGnew:G w.heap.size=none:=by
   cases h:G w.heap.size with
   | none=>rfl
   | some o=>have:=cK (hG _ _ h);omega
  have hgr:∀ c,l.length+v.length<=grownCap w (l.length+v.length) c (ρ.t 9)/\grownCap w (l.length+v.length) c (ρ.t 9)<=maxLen:=fun c=>⟨grownCap_ge _ _ _ _,grownCap_le_maxLen _ _ _ _ wR⟩
  have endGrow:∀ (base:Option Addr) (c:Nat),l.length<=c->c<l.length+v.length->(base=none->l.length=0)->(∀ a,base=some a->∀ (j:Nat) (z:Value),xs[j]? =some z->w.cell? (a.add j)=some z)->q=l.length->
   Calls P (ρ.f 22) #[.slice base l.length c,.int .i64 (q:Int),.slice (some ⟨vb,voff,none⟩) v.length vc] w fun e w'=>∃ G' ow' vs,vO G w ow (MR (ρ.t 9) t bytes) [.slice base l.length c,.int .i64 (q:Int),.slice (some ⟨vb,voff,none⟩) v.length vc] (R,()) e w' G' ow' vs:=by
   intro base c hc hroom hnil hcs hkl
   subst hkl
   have:=Vs L base l.length c vb voff v.length vc xs ys w b3 hc hroom b4 b5 hxl hyl hnil hcs hvcell oney
   refine this.mono ?_
   rintro e w' ⟨rfl,rfl⟩
   have hg:=hgr c
   rw[<- hRl] at hg ⊢
   refine tH hG (heap_alloc_new w.drew _) hg.1 hg.2 ?_ ?_ hRcl hRr rfl rfl (by simp) (fun q hq hne=>heap_alloc_old w.drew _ hq) hGnew (.inl (ahJ _))
   ·simp only[afr,ahq,agM,qQ,L.zc]
    rw[hxl,hyl, <- ahB, <- hRl, <- ahB];congr 1;omega
   ·simp only[Array.toList_append]
    rw[aht (by simp[hxl,hyl];rw[hRl,hm1];omega),ahw (by simp[hxl,hyl];rw[hRl,hm1];omega)]
    rw[ahw (by omega),agd (by omega),af4]
  rcases hown.2 with ⟨rfl,hl0⟩ | ⟨g,cap,cur,rfl,_,hgb,hln,hcm,hcs,hct⟩
  ·have hk0:q=l.length:=by omega
   have:=endGrow none 0 (by omega) (by omega) (fun _=>hl0) (fun a h=>by cases h) hk0
   rw[hl0] at this
   exact this
  ·have hgOw:ow g=some 0:=hobl g rfl
   have hne:vb≠g:=hvne g rfl
   have hGg:=(how g _ hgOw).1
   have hcell:∀ (j:Nat) (z:Value),xs[j]? =some z->w.cell? ⟨g,0+j,none⟩=some z:=fun j z hj=>by
    rw[<- hct] at hj
    have hjl:j<l.length*t.size:=by
     have:=(agB.1 hj).1
     simp at this;omega
    rw[agJ hjl] at hj
    simp[World.cell?,hgb]
    simpa using hj
   have hsome:∀ j,j<cap*t.size->(w.cell? ⟨g,0+j,none⟩).isSome=true:=fun j hj=>by
    simp[World.cell?,hgb];omega
   have hfz:∀ b' c' e',w.heap[b']? =some (.cells c' e' (0,0))->∀ o',w.frozen? ⟨b',o',none⟩=false:=fun b' c' e' h o'=>by
    simp[World.frozen?,h]
   have hc63:cap<=9223372036854775807:=by simp only[maxLen] at hcm;omega
   by_cases hroom:l.length+v.length<=cap
   ·have hcapm:(l.length+v.length)*t.size<=cap*t.size:=ahZ _ hroom
    by_cases hkl:q=l.length
    ·subst hkl
     have:=Vt L g 0 l.length cap vb voff v.length vc ys w b3 hroom hc63 hyl (fun j hj=>by have:=hsome (l.length*t.size+j) (by omega);rw[show 0+l.length*t.size+j=0+(l.length*t.size+j) by omega];exact this) (fun j _=>hfz _ _ _ hgb _) hvcell oney
     refine this.mono ?_
     rintro e w' ⟨rfl,rfl⟩
     obtain⟨cur',h1,h2⟩:=mX g (ρ.t 9) ys (0+l.length*t.size) w cur hgb (by omega)
     obtain⟨r1,r2,r3,r4⟩:=mY g ys (0+l.length*t.size) w
     have hsz:cur'.size=cap*t.size:=by
      have:=congrArg List.length h2
      simp at this;omega
     rw[<- hRl]
     refine tH hG h1 (by omega) hcm hsz ?_ hRcl hRr r1 r2 (by rw[r3];exact ahJ _) (fun q _ hq=>r4 q hq) hGg (.inr (by rw[hgOw];simp))
     rw[h2,ah7,hct, <- af3,ahw (show xs.length<=l.length*t.size by omega),agd (show xs.length<=l.length*t.size by omega),af4]
     have:R.length*t.size=(xs++ys).length:=by simp[hRl,hxl,hyl,hm1]
     rw[this,ahu]
    ·have hkl':q<l.length:=by omega
     have:=ZX L g 0 l.length cap q vb voff v.length vc xs ys w hkl' b3 hroom hc63 hne hxl hyl hcell (fun j hj=>hsome j (by omega)) (fun j _=>hfz _ _ _ hgb _) hvcell onex oney
      vT (ρ.t 9) cvn cur.size hshape (by simp[World.shape?,hgb]) hcv0 (hfz _ _ _ hgb _) (hfz _ _ _ hgb _)
     refine this.mono ?_
     rintro e w' ⟨rfl,rfl⟩
     have hdl:(xs.drop (q*t.size)).length=l.length*t.size - q*t.size:=by rw[agO,hxl]
     obtain⟨cur1,h1,h2⟩:=mX g (ρ.t 9) (xs.drop (q*t.size)) (0+(q+v.length)*t.size) w.drew cur hgb (by omega)
     obtain⟨r1,r2,r3,r4⟩:=mY g (xs.drop (q*t.size)) (0+(q+v.length)*t.size) w.drew
     have hsz1:cur1.size=cap*t.size:=by
      have:=congrArg List.length h2
      simp at this;omega
     obtain⟨cur',h3,h4⟩:=mX g (ρ.t 9) ys (0+q*t.size) _ cur1 h1 (by omega)
     obtain⟨q1,q2,q3,q4⟩:=mY g ys (0+q*t.size) (w.drew.setCells g (0+(q+v.length)*t.size) (xs.drop (q*t.size)))
     have hsz:cur'.size=cap*t.size:=by
      have:=congrArg List.length h4
      simp at this;omega
     rw[<- hRl]
     refine tH hG h3 (by omega) hcm hsz ?_ hRcl hRr (q1.trans r1) (q2.trans r2) (by rw[q3,r3];exact ahJ _) (fun q _ hq=>(q4 q hq).trans (r4 q hq)) hGg (.inr (by rw[hgOw];simp))
     have t1:cur1.toList.take (q*t.size)=xs.take (q*t.size):=by
      rw[h2,aht (by simp;omega),ahz,ahW (by omega), <- hct,ahz,ahW (by omega)]
     have t2:cur1.toList.drop ((q+v.length)*t.size)=xs.drop (q*t.size)++cur.toList.drop (0+(q+v.length)*t.size+(xs.drop (q*t.size)).length):=by
      rw[h2,List.drop_append_of_le_length (by simp;omega),agd (by simp;omega)]
      rfl
     rw[h4,ah7,t1,show q*t.size+ys.length=(q+v.length)*t.size by omega,t2, <- af3, <- af3]
     have:R.length*t.size=(xs.take (q*t.size)++ys++xs.drop (q*t.size)).length:=by rw[hRl,hm1];simp only[agM,agV,agO,hxl,hyl,ahW hm2];omega
     rw[this,ahu,af3]
   ·by_cases hkl:q=l.length
    ·exact endGrow (some ⟨g,0,none⟩) cap hln (by omega) (fun h=>by cases h) (fun a h j z hj=>by cases h;rw[Addr.add_lit];exact hcell j z hj) hkl
    ·have hkl':q<l.length:=by omega
     have:=aa5 L g 0 l.length cap q vb voff v.length vc xs ys w hkl' b3 hln (by omega) b4 b5 hxl hyl hcell hvcell onex oney
     refine this.mono ?_
     rintro e w' ⟨rfl,rfl⟩
     have hg:=hgr cap
     have hgm:(l.length+v.length)*t.size<=grownCap w (l.length+v.length) cap (ρ.t 9)*t.size:=ahZ _ hg.1
     have hdl:(xs.drop (q*t.size)).length=l.length*t.size - q*t.size:=by rw[agO,hxl]
     generalize hA:(xs.take (q*t.size)).toArray++Builtin.zeroCells z.cells (l.length+v.length - q)++Builtin.zeroCells z.cells (grownCap w (l.length+v.length) cap (ρ.t 9) - (l.length+v.length))=A
     have hAs:A.size=grownCap w (l.length+v.length) cap (ρ.t 9)*t.size:=by
      rw[<- hA]
      simp only[afr,ahq,agV,qQ,L.zc]
      rw[hxl,ahW hm2, <- ahB, <- ahB];congr 1;omega
     have hAt:A.toList.take (q*t.size)=xs.take (q*t.size):=by
      rw[<- hA]
      simp only[Array.toList_append,af3]
      rw[aht (by simp;omega)]
      show List.take (q*t.size) (xs.take (q*t.size))=_
      rw[ahz,Nat.min_self]
     obtain⟨cur1,h1,h2⟩:=mX w.heap.size (ρ.t 9) ys (q*t.size) (w.alloc (.cells A (ρ.t 9))).drew A (heap_alloc_new w _) (by omega)
     obtain⟨r1,r2,r3,r4⟩:=mY w.heap.size ys (q*t.size) (w.alloc (.cells A (ρ.t 9))).drew
     have hsz1:cur1.size=A.size:=by
      have:=congrArg List.length h2
      simp at this;omega
     obtain⟨cur',h3,h4⟩:=mX w.heap.size (ρ.t 9) (xs.drop (q*t.size)) ((q+v.length)*t.size) ((w.alloc (.cells A (ρ.t 9))).drew.setCells w.heap.size (q*t.size) ys).drew cur1 h1 (by omega)
     obtain⟨q1,q2,q3,q4⟩:=mY w.heap.size (xs.drop (q*t.size)) ((q+v.length)*t.size) ((w.alloc (.cells A (ρ.t 9))).drew.setCells w.heap.size (q*t.size) ys).drew
     have hsz:cur'.size=A.size:=by
      have:=congrArg List.length h4
      simp at this;omega
     rw[<- hRl] at hg hAs ⊢
     refine tH hG h3 hg.1 hg.2 (hsz.trans hAs) ?_ hRcl hRr (q1.trans r1) (q2.trans r2) (by rw[q3];show w.heap.size<=(World.setCells _ _ _ _).heap.size;rw[r3];simp) (fun q hq hne=>by
      rw[q4 q hne]
      show (World.setCells _ _ _ _).heap[q]? =_
      rw[r4 q hne]
      exact heap_alloc_old w _ hq) hGnew (.inl (ahJ _))
     have t1:cur1.toList.take ((q+v.length)*t.size)=xs.take (q*t.size)++ys:=by
      rw[h2,hAt, <- af3]
      have:(q+v.length)*t.size=(xs.take (q*t.size)++ys).length:=by simp only[agM,agV,hxl,hyl,ahW hm2];omega
      rw[this,ahu]
     rw[h4,t1, <- af3]
     have:R.length*t.size=(xs.take (q*t.size)++ys++xs.drop (q*t.size)).length:=by rw[hRl,hm1];simp only[agM,agV,agO,hxl,hyl,ahW hm2];omega
     rw[this,ahu,af3]
def aa6 (e:TypeId) (t:Ty) (b:Nat):aA:=⟨[.row e t,.val tI,.val (.slice t)],[.row e t],fun x=>ny b (show List t.den from x.1) x.2.1 (show List t.den from x.2.2.1)⟩
theorem acp {e:TypeId} {t:Ty} {b:Nat} {args:List Value} {y:List t.den×Unit} {en:Ending} {G':Gh} {ow':Nat->Option Nat} {vs:List Value} (h:vO G w ow (MR e t b) args y en w' G' ow' vs):vO G w ow (aa6 e t b) args y en w' G' ow' vs:=
 ⟨h.ret,h.le,h.agr,h.size,h.os,h.output,h.old,h.own,h.out,h.hnd⟩
theorem Ks {ρ:Ren} {bytes:Nat} {z:Value} (L:xP P ρ t.size bytes z):cQ P (ρ.f 22) (aa6 (ρ.t 9) t bytes):=by
 intro G w ow args x y hG how ha hm _
 obtain⟨l,i,v,u⟩:=x
 obtain⟨r,u'⟩:=y
 obtain⟨s,us,a1,_,⟨⟨xs,hown,hrep⟩,hobl⟩,iv,us2,a2,_,hiv,t',us3,a3,_,hdat,a4⟩:=ha
 have e1:=a1 rfl
 have e2:=a2 rfl
 have e3:=a3 rfl
 have e4:us3=[]:=a4
 have e5:iv= .int .i64 i:=by simpa [G7,bX,aK,tI] using hiv
 subst e1;subst e2;subst e3;subst e4;subst e5
 have hdat':fP G t.size (aK G t) v t':=by
  obtain⟨v0,e0,h0⟩:∃ v0,[t']=[v0]/\fP G t.size (aK G t) v v0:=hdat
  cases e0;exact h0
 obtain⟨a,cap,e,_,_,hd⟩:=hdat'
 have hlenR:∀ x cs,aK G t x cs->cs.length=t.size:=fun x cs h=>aK.len h
 rcases hd with hd | ⟨vb,off,c,T,fz,ha,hvb,hsz,hrep2⟩
 ·exfalso
  replace hm:ny bytes (show List t.den from l) (show Int from i) (show List t.den from v)=some (r,()):=hm
  unfold ny at hm
  have hd2:(show List t.den from v)=[]:=hd
  rw[hd2] at hm
  simp at hm
 ·have hw:=hG _ _ hvb
  have h:=aa4 (l:=l) (v:=v) (r:=r) (i:=i) L hG how hown hrep hobl (u:=t') (ys:=(c.toList.drop off).take (v.length*t.size)) (fun hv=> ?_) hrep2 hm
  ·exact h.mono fun e w' ⟨G',ow',vs,hg⟩=>⟨G',ow',vs,acp hg⟩
  ·have hvpos:0<v.length:=List.length_pos_iff.2 hv
   have hyl:((c.toList.drop off).take (v.length*t.size)).length=v.length*t.size:=hrep2.len hlenR
   refine⟨vb,off,cap,T,c.size,by rw[e,ha],by simp[World.shape?,hw], ?_,fun g hg e2=> ?_,hyl,fun j z hj=> ?_⟩
   ·have:=Nat.mul_pos hvpos L.k0
    omega
   ·have h1:=(how g _ (hobl g hg)).1
    rw[<- e2,hvb] at h1;cases h1
   ·have hjl:j<v.length*t.size:=by
     have:=(agB.1 hj).1
     rw[hyl] at this;exact this
    rw[agJ hjl,agy] at hj
    simp[World.cell?,hw]
    simpa using hj
end
end Go.Dn
namespace Go.Dn
open Go.Maps Go.WideElems
abbrev Two:Type:=List UInt8×List UInt8
abbrev EI:Ty:= .st (.pair .str .str)
def jd (p:Two):Value:= .agg #[.string (bs p.1),.string (bs p.2)]
theorem aaI {a b:List UInt8} (h:bs a=bs b):a=b:=by
 have:=congrArg (fun x:ByteArray=>x.data.toList) h
 simpa [bs] using this
theorem Qb {p q:Two} (h:jd p=jd q):p=q:=by
 obtain⟨a,b⟩:=p
 obtain⟨c,d⟩:=q
 simp only[jd,Value.agg.injEq,Array.mk.injEq,List.cons.injEq,Value.string.injEq,aij] at h
 rw[aaI h.1,aaI h.2]
theorem acN {G:Gh} {p:Two} {v:Value}:bX G EI p v↔v=jd p:=by
 constructor
 ·rintro⟨vs,e,c,r,e1,h1,h2⟩
  have g1:c=[.string (bs p.1)]:=h1
  have g2:r=[.string (bs p.2)]:=h2
  subst g1;subst g2;subst e1
  exact e
 ·rintro rfl
  exact⟨[.string (bs p.1),.string (bs p.2)],rfl,[_],[_],rfl,rfl,rfl⟩
structure SF (P:Program) (kt:TypeId):Prop where
 law:WideMaps.KeyLaw P kt
 of:∀ p:Two,p.1.length<=9223372036854775807->p.2.length<=9223372036854775807->∃ s,keyOf P kt (jd p)=some (.string s)
theorem ads {P:Program} {kt:TypeId} {f0 f1:Field} (hl:laidOutB P=true) (hsmall:P.types.size+2<=10000) (hrow:kt<P.types.size) (hk:P.keyType kt=true) (hu:P.underlying kt=some (.struct #[f0,f1])) (h0:P.underlying f0.type=some .string) (h1:P.underlying f1.type=some .string) (c0:P.cellsOf f0.type=1) (c1:P.cellsOf f1.type=1) (ck:P.cellsOf kt=2) (o0:f0.offset=0) (o1:f1.offset=1) (n0:(f0.name != "_")=true) (n1:(f1.name != "_")=true):SF P kt:=by
 refine⟨deep_law_gate hl hsmall hrow hk (by rw[hu]),fun p hp1 hp2=> ?_⟩
 obtain⟨m,hm⟩:∃ m,P.types.size=m+1:=Nat.exists_eq_succ_of_ne_zero (Nat.ne_of_gt (ahN (ah8 kt) hrow))
 have key:∀ (t:TypeId) (s:List UInt8),P.underlying t=some .string->s.length<=9223372036854775807->P.keyLits (m+1) t [.string (bs s)]=some [.string s]:=by
  intro t s ht hs
  have hs':(bs s).size<=maxLen:=by
   show s.toArray.size<=maxLen
   rw[ahq];exact hs
  unfold Program.keyLits
  simp only[ht]
  show (if (bs s).size<=maxLen then some [Lit.string (bs s).data.toList] else none)=_
  rw[aiB hs']
  rfl
 have e0:=key f0.type p.1 h0 hp1
 have e1:=key f1.type p.2 h1 hp2
 have e2:P.keyLits (m+1+1) kt [.string (bs p.1),.string (bs p.2)]=some [.string p.1,.string p.2]:=by
  unfold Program.keyLits
  simp only[hu]
  show (if ([Value.string (bs p.1),.string (bs p.2)].length=P.cellsOf kt/\(#[f0,f1]:Array Field).all (fun f=>f.name != "_")=true) then (List.mapM (fun f:Field=>P.keyLits (m+1) f.type (([Value.string (bs p.1),.string (bs p.2)].drop f.offset).take (P.cellsOf f.type))) [f0,f1]).map List.flatten else none)=_
  rw[aiB ⟨by rw[ck];rfl,by simp only[List.all_toArray,afZ,List.all_nil,n0,n1];rfl⟩,List.mapM_cons,List.mapM_cons,List.mapM_nil,o0,o1,c0,c1]
  simp only[agf,ahy,List.take_zero,age]
  rw[e0,e1]
  rfl
 refine⟨keyBytes [.string p.1,.string p.2], ?_⟩
 unfold keyOf
 simp only[hu]
 rw[hk]
 have ef:(jd p).formed P kt=true:=by
  simp[jd,Value.formed,hu,ck]
 rw[ef,hm]
 simp only[Bool.and_self,aiC]
 show Option.map _ (P.keyLits (m+1+1) kt [.string (bs p.1),.string (bs p.2)])=_
 rw[e2]
 rfl
def EZ (P:Program) (kt:TypeId) (D0:DataW Unit) (left:Lit->Bool) (xs:List Two):Prop:=
 ∃ ks:List (List UInt8),Collected D0 left ks/\aS (fun x k=>keyOf P kt (jd x)=some (.string k)) xs ks
theorem aS.snoc {α β:Type} {R:α->β->Prop}:∀ {l:List α} {m:List β} {a:α} {b:β},aS R l m->R a b->aS R (l++[a]) (m++[b])
 | [],m,a,b,h,hr=>by
  have:m=[]:=h
  subst this
  exact⟨b,[],rfl,hr,rfl⟩
 | x::l,m,a,b,⟨y,r,e,h1,h2⟩,hr=>⟨y,r++[b],by rw[e];rfl,h1,aS.snoc h2 hr⟩
theorem EZ.start (P:Program) (kt:TypeId) (D0:DataW Unit):EZ P kt D0 (has D0) []:=⟨[],Collected.start D0,rfl⟩
theorem EZ.step {P:Program} {kt:TypeId} {D0:DataW Unit} {left:Lit->Bool} {xs:List Two} (h:EZ P kt D0 left xs) {x:Two} {k:List UInt8} {y:DataW Unit} (hk:keyOf P kt (jd x)=some (.string k)) (hlk:left (.string k)=true) (hat:∀ zd,D0.atKey (.string k) zd=y): EZ P kt D0 (fun z=>left z&& !z.sameKey (.string k)) (xs++[x]):=by
 obtain⟨ks,h1,h2⟩:=h
 exact⟨ks++[k],h1.step hlk hat,h2.snoc hk⟩
theorem Xu {P:Program} {kt:TypeId} {G:Gh} {w:World} {e:Ty} {l:List (Two×e.den)} {es:Array MapEntry} {clock b:Nat} (K:SF P kt) (hb:w.heap[b]? =some (.map es clock)) (h2:aS (yD G EI e) l es.toList) (hborn:∀ x,x∈es.toList->x.born<clock) (hpw:es.toList.Pairwise (fun a b=>a.born<b.born)) (hlen:l.length<=maxLen) (hr:∀ p,p∈l->p.1.1.length<=9223372036854775807/\p.1.2.length<=9223372036854775807) (hnd:(l.map (·.1)).Nodup): ∃ D0:DataW Unit,w.ownsMap P kt (fun _=>some (.nil,[])) b l.length D0/\Maps.size D0=l.length/\ (∀ k,has D0 (.string k)=true↔∃ p,p∈l/\keyOf P kt (jd p.1)=some (.string k)):=by
 have hkeys:∀ {l:List (Two×e.den)} {es:List MapEntry},aS (yD G EI e) l es->es.map (·.key)=l.map fun p=>jd p.1:=by
  intro l
  induction l with
  | nil=>intro es h;have:es=[]:=h;rw[this];rfl
  | cons p l ih=>
   rintro es ⟨x,s,e0,h,hr⟩
   subst e0
   rw[agY,agY,ih hr,acN.1 h.1]
 have hkeys:=hkeys h2
 have hel:es.toList.length=l.length:=by
  have:=congrArg List.length hkeys
  simpa using this
 have hrd:∀ x,x∈es.toList->∃ p,p∈l/\x.key=jd p.1:=by
  intro x hx
  have:x.key∈es.toList.map (·.key):=ag9.2 ⟨x,hx,rfl⟩
  rw[hkeys] at this
  obtain⟨p,hp,e⟩:=ag9.1 this
  exact⟨p,hp,e.symm⟩
 have hrg:∀ x,x∈es.toList->∃ k,keyOf P kt x.key=some (.string k)/\rd (H:=Unit) P kt (fun _=>some (.nil,[])) x=some (.string k,.nil):=by
  intro x hx
  obtain⟨p,hp,e⟩:=hrd x hx
  obtain⟨k,hk⟩:=K.of p.1 (hr p hp).1 (hr p hp).2
  rw[<- e] at hk
  exact⟨k,hk,by unfold rd;rw[hk];rfl⟩
 have hin:∀ p,p∈l->∃ x,x∈es.toList/\x.key=jd p.1:=by
  intro p hp
  have:jd p.1∈es.toList.map (·.key):=by rw[hkeys];exact ag9.2 ⟨p,hp,rfl⟩
  obtain⟨x,hx,e⟩:=ag9.1 this
  exact⟨x,hx,e⟩
 refine⟨.map ((es.toList.map (rg P kt fun _=>some (.nil,[]))).foldr DataW.insert []),⟨es,clock,hb,⟨by rw[<- afp,hel];exact hlen,⟨hborn, ?_, ?_⟩, ?_⟩,by rw[<- afp,hel];exact ahJ _,rfl⟩, ?_, ?_⟩
 ·refine List.Pairwise.map _ (fun a b h=> ?_) hpw
  exact Nat.ne_of_lt h
 ·rw[hkeys]
  have:(l.map fun p=>jd p.1)=(l.map (·.1)).map jd:=by rw[agZ];rfl
  rw[this]
  exact List.Pairwise.map _ (fun a b h e=>h (Qb e)) hnd
 ·intro x hx
  obtain⟨k,_,h⟩:=hrg x hx
  exact⟨_,h⟩
 ·show List.length _=_
  rw[length_sorted,agP,hel]
 ·intro k
  rw[has_eq,af2]
  constructor
  ·rintro⟨q,hq,hs⟩
   rw[mem_sorted] at hq
   obtain⟨x,hx,rfl⟩:=ag9.1 hq
   obtain⟨k',hk',h'⟩:=hrg x hx
   have:rg (H:=Unit) P kt (fun _=>some (.nil,[])) x=(.string k',.nil):=by unfold rg;rw[h'];rfl
   rw[this] at hs
   have ek:k'=k:=by simpa [Lit.sameKey] using hs
   subst ek
   obtain⟨p,hp,e⟩:=hrd x hx
   exact⟨p,hp,by rw[<- e];exact hk'⟩
  ·rintro⟨p,hp,hk⟩
   obtain⟨x,hx,e⟩:=hin p hp
   obtain⟨k',hk',h'⟩:=hrg x hx
   rw[e,hk] at hk'
   cases hk'
   have:rg (H:=Unit) P kt (fun _=>some (.nil,[])) x=(.string k,.nil):=by unfold rg;rw[h'];rfl
   exact⟨(.string k,.nil),mem_sorted.2 (ag9.2 ⟨x,hx,this⟩),by simp[Lit.sameKey]⟩
theorem aS.left {α β:Type} {R:α->β->Prop}:∀ {l:List α} {m:List β},aS R l m->∀ a,a∈l->∃ b,b∈m/\R a b
 | x::l,m,⟨y,r,e,h1,h2⟩,a,ha=>by
  subst e
  rcases ag3.1 ha with rfl | ha
  ·exact⟨y,ag5,h1⟩
  ·obtain⟨b,hb,hr⟩:=aS.left h2 a ha
   exact⟨b,ag4 _ hb,hr⟩
theorem aS.right {α β:Type} {R:α->β->Prop}:∀ {l:List α} {m:List β},aS R l m->∀ b,b∈m->∃ a,a∈l/\R a b
 | [],m,h,b,hb=>by
  have:m=[]:=h
  subst this;cases hb
 | x::l,m,⟨y,r,e,h1,h2⟩,b,hb=>by
  subst e
  rcases ag3.1 hb with rfl | hb
  ·exact⟨x,ag5,h1⟩
  ·obtain⟨a,ha,hr⟩:=aS.right h2 b hb
   exact⟨a,ag4 _ ha,hr⟩
theorem Ld {P:Program} {kt:TypeId}:∀ {xs:List Two} {ks:List (List UInt8)},aS (fun x k=>keyOf P kt (jd x)=some (.string k)) xs ks->ks.Nodup->xs.Nodup
 | [],_,_,_=>List.nodup_nil
 | x::xs,_,⟨k,r,e,h1,h2⟩,hn=>by
  subst e
  obtain⟨n1,n2⟩:=ahi.1 hn
  refine ahi.2 ⟨fun hx=>n1 ?_,Ld h2 n2⟩
  obtain⟨k',hk',h'⟩:=h2.left x hx
  have h1':keyOf P kt (jd x)=some (.string k):=h1
  have h'':keyOf P kt (jd x)=some (.string k'):=h'
  rw[h1'] at h''
  cases h''
  exact hk'
theorem EZ.perm {P:Program} {kt:TypeId} {D0:DataW Unit} {left:Lit->Bool} {xs keys:List Two} (h:EZ P kt D0 left xs) (K:SF P kt) (hl:∀ kl,left kl=false) (hnd:keys.Nodup) (hs:∀ p,p∈keys->p.1.length<=9223372036854775807/\p.2.length<=9223372036854775807) (hD:∀ k,has D0 (.string k)=true↔∃ p,p∈keys/\keyOf P kt (jd p)=some (.string k)):xs.Perm keys:=by
 obtain⟨ks,⟨h1,h2⟩,h3⟩:=h
 refine (List.perm_ext_iff_of_nodup (Ld h3 h1) hnd).2 fun x=>⟨fun hx=> ?_,fun hx=> ?_⟩
 ·obtain⟨k,hk,hr⟩:=h3.left x hx
  obtain⟨p,hp,hr'⟩:=(hD k).1 ((h2 k).1 hk).1
  rw[Qb (K.law.inj hr hr')];exact hp
 ·obtain⟨k,hk⟩:=K.of x (hs x hx).1 (hs x hx).2
  have:k∈ks:=(h2 k).2 ⟨(hD k).2 ⟨x,hx,hk⟩,hl _⟩
  obtain⟨y,hy,hr⟩:=h3.right k this
  rw[Qb (K.law.inj hk hr)];exact hy
end Go.Dn
namespace Go.Dn
open Go.Proofs Go.Shelf Go.Sort Go.RowKit Go.Lib
def yU (p:Two):List Value:=[.string (bs p.1),.string (bs p.2)]
theorem XJ {G:Gh}:∀ l:List Two,bO (aK G EI) l (l.flatMap yU)
 | []=>rfl
 | x::r=>⟨yU x,r.flatMap yU,by rw[agq],⟨[.string (bs x.1)],[.string (bs x.2)],rfl,rfl,rfl⟩,XJ r⟩
theorem abU {cf:Two->Two->Int} (hO:SWO (ltOf cf)) {a b:List Two} (h:a.Perm b) (hp:∀ x,x∈a->∀ y,y∈a->¬ cf x y<0->¬ cf y x<0->x=y): (a.mergeSort fun x y=> !decide (cf y x<0))=(b.mergeSort fun x y=> !decide (cf y x<0)):=by
 have tr:∀ x y z:Two,(!decide (cf y x<0))=true->(!decide (cf z y<0))=true->(!decide (cf z x<0))=true:=fun x y z h1 h2=>by
  rw[afE] at*
  exact hO.ntrans z y x h2 h1
 have to:∀ x y:Two,((!decide (cf y x<0))||(!decide (cf x y<0)))=true:=fun x y=>by
  cases h1:decide (cf y x<0) with
  | false=>rfl
  | true=>
   cases h2:decide (cf x y<0) with
   | false=>rfl
   | true=>
    have:=hO.trans x y x h2 h1
    rw[hO.irrefl] at this
    cases this
 refine List.Perm.eq_of_pairwise (le:=fun x y=>(!decide (cf y x<0))=true) (fun x y hx hy h1 h2=> ?_) (ahn tr to a) (ahn tr to b) (((ahg a _).trans h).trans (ahg b _).symm)
 have hx':=(ahg a _).mem_iff.1 hx
 have hy':=h.mem_iff.2 ((ahg b _).mem_iff.1 hy)
 rw[afE,air] at h1 h2
 exact hp x hx' y hy' h2 h1
theorem abT {P:Program} {f e cl:Nat} {cf:Two->Two->Int} (hsort:cQ P f (Jt e EI cl (fun _=>true) cf)) (hO:SWO (ltOf cf)) {G:Gh} {w w1:World} {v:Value} {vt:Ty} {l:List (Two×vt.den)} {ss:List Two} (hG:Agr G w) (hT:td P G)
 (hb1:Below w.heap.size w w1) (hrow:w1.ownsRow w.heap.size e 2 v ss.length (ss.flatMap yU)) (hS:ss.Perm (l.map (·.1))) (hlen:l.length<=1000000)
 (hpart:((l.map (·.1)).all fun x=>(l.map (·.1)).all fun y=>decide (cf x y<0)||(decide (cf y x<0)||decide (x=y)))=true):
 Calls P f #[v,.func (.func cl) #[] #[]] w1 fun e' w'=>e'= .returned (uY [])/\∃ xs:List Value,w'.ownsRow w.heap.size e 2 v l.length xs/\bO (aK G EI) (qc cf l) xs/\
  w.heap.size<=w'.heap.size/\w'.os=w.os/\w'.output=w.output/\∀ b,b<w.heap.size->w'.heap[b]? =w.heap[b]? :=by
 have hlt:∀ b o',G b=some o'->b<w.heap.size:=fun b o' hb=>cK (hG b o' hb)
 have hG1:Agr G w1:=fun b o hb=>by rw[hb1.block b (hlt b o hb)];exact hG b o hb
 have hown:∀ b,v.ownBlock=some b->w.heap.size<=b/\b<w1.heap.size:=(nQ hrow).2
 have hp:∀ x,x∈ss->∀ y,y∈ss->¬ cf x y<0->¬ cf y x<0->x=y:=fun x hx y hy h1 h2=>by
  have:=af0.1 (af0.1 hpart x (hS.mem_iff.1 hx)) y (hS.mem_iff.1 hy)
  simp only[afI,ait] at this
  rcases this with h | h | h
  ·exact absurd h h1
  ·exact absurd h h2
  ·exact h
 have hsl:ss.length=l.length:=by rw[hS.length_eq,agP]
 have hm:(Jt e EI cl (fun _=>true) cf).m (ss,(),())=some (qc cf l,()):=by
  show Nw _ cf ss=_
  unfold Nw
  rw[aiB ⟨fun _ _=>rfl,hp,by omega⟩,abU hO hS hp]
  rfl
 have hcall:=hsort G w1 (fun b=>if v.ownBlock=some b then some 0 else none) [v,.func (.func cl) #[] #[]] (ss,(),()) (qc cf l,()) hG1 (fun b i hb=>by
  split at hb
  ·rename_i hvb
   obtain⟨h1,h2⟩:=hown b hvb
   exact⟨by
    cases hq:G b with
    | none=>rfl
    | some o=>exact absurd (hlt b o hq) (Nat.not_lt.2 h1),h2⟩
  ·cases hb)
  ⟨v,[.func (.func cl) #[] #[]],fun _=>rfl,nofun,⟨⟨_,(nQ hrow).1,XJ ss⟩,fun b hb=>by dsimp only;rw[aiB hb]⟩,.func (.func cl) #[] #[],[],fun _=>rfl,nofun,⟨[],rfl,rfl⟩,rfl⟩ hm hT
 refine hcall.mono ?_
 rintro e' w2 ⟨G',ow',vs,hg⟩
 obtain⟨hvs,⟨v',hv',⟨xs,hx1,hx2⟩,hx3⟩,_⟩:=hg.out
 cases hv'
 subst hvs
 have hk2:=MW cf l
 refine⟨hg.ret,xs, ?_,hx2.mono (fun x cs hc=>aK.of_flat (fun i b hb=>by rw[hg.hnd rfl] at hb;exact hb) rfl hc),ahK hb1.size hg.size,hg.os.trans hb1.os,hg.output.trans hb1.output,fun b hb=> ?_⟩
 ·have hx1':w2.ownsRow 0 e 2 v (qc cf l).length xs:=hx1
  rw[hk2] at hx1'
  refine⟨hx1'.1, ?_⟩
  rcases hx1'.2 with hn | ⟨g,cap,cur,hv,_,rest⟩
  ·exact .inl hn
  ·exact .inr ⟨g,cap,cur,hv,(hown g (by rw[hv];rfl)).1,rest⟩
 ·have hne:(if v.ownBlock=some b then some 0 else none:Option Nat)=none:=by
   rw[aiA]
   intro hvb
   have:=(hown b hvb).1
   omega
  rw[(hg.old b (ahO hb hb1.size) hne).1]
  exact hb1.block b hb
end Go.Dn
namespace Go.Dn
open Go.ChangeShapes Go.WideShapes Go.ChangeAt Go.RowKit
theorem JQ {H:Type} {P:Program} {e:TypeId} {B:Nat} {d:DataW H}:∀ {l:List (DataW H)},d∈l->(∀ n,n∈DataW.weightsAll P e l->n<=B)->∀ n,n∈d.weights P e->n<=B
 | x::r,hd,h=>by
  rcases ag3.1 hd with rfl | hd
  ·exact fun n hn=>h n (ag1 _ hn)
  ·exact JQ hd fun n hn=>h n (ag2 _ hn)
theorem HY {H:Type} {P:Program} {B:Nat} {t:TypeId} {d:DataW H}:∀ {ts:List TypeId} {ds:List (DataW H)} {k:Nat},ts[k]? =some t->ds[k]? =some d->(∀ n,n∈DataW.weightsEach P ts ds->n<=B)->∀ n,n∈d.weights P t->n<=B
 | [],_,_,h,_,_=>by simp at h
 | _::_,[],_,_,h,_=>by simp at h
 | t'::ts,d'::ds,0,h1,h2,h=>by
  cases h1;cases h2
  exact fun n hn=>h n (ag1 _ hn)
 | t'::ts,d'::ds,k+1,h1,h2,h=>HY (k:=k) (by simpa using h1) (by simpa using h2) fun n hn=>h n (ag2 _ hn)
theorem HX {H:Type} {P:Program} {n:Nat}:∀ (ts us:List TypeId) (ds gs:List (DataW H)),n∈DataW.weightsEach P ts ds->n∈DataW.weightsEach P (ts++us) (ds++gs)
 | [],_,_,_,h=>by simp[DataW.weightsEach] at h
 | _::_,_,[],_,h=>by simp[DataW.weightsEach] at h
 | t::ts,us,d::ds,gs,h=>by
  simp only[DataW.weightsEach,af5,ag0] at h ⊢
  rcases h with h | h
  ·exact .inl h
  ·exact .inr (HX ts us ds gs h)
theorem aaw {H:Type} {P:Program} {ts us:List TypeId} {ds gs:List (DataW H)} (h:(DataW.weightsEach P (ts++us) (ds++gs)).all (· <=reachBytes)=true):∀ n,n∈DataW.weightsEach P ts ds->n<=reachBytes:=fun n hn=>aiG (af0.1 h n (HX ts us ds gs hn))
section
variable {H:Type} {enc:TypeId×Value->H} {P:Program} {w:World} {base:Nat} {spare:Nat->Bool} {held:Bool}
end
end Go.Dn
namespace Go.Dn
open Go.ChangeShapes Go.WideShapes Go.ChangeAt Go.RowKit
def Qr:Ty->Nat
 | .int .i64=>8
 | .int _=>1
 | .bool=>1
 | .str=>16
 | .unit=>0
 | .pair a b=>Qr a+Qr b
 | .st t=>Qr t
 | .slice _=>24
 | .ptr _=>8
 | .clo _ _=>8
 | .hnd=>8
def WfB:(t:Ty)->t.den->Prop
 | .int k,n=>k.min<=(show Int from n)/\(show Int from n)<=k.max
 | .bool,_=>True
 | .str,s=>List.length s<=reachBytes
 | .unit,_=>True
 | .pair a b,x=>WfB a x.1/\WfB b x.2
 | .st t,x=>WfB t x
 | .slice t,l=>(List.length l<=maxLen/\List.length l*Qr t<=reachBytes)/\∀ x,x∈(show List t.den from l)->WfB t x
 | .ptr _,_=>True
 | .clo _ _,_=>True
 | .hnd,_=>True
def MJ (g:TypeId->Ty->Bool):List Field->Ty->Bool
 | [],_=>false
 | [f],t=>g f.type t
 | f::r,.pair a b=>g f.type a&&MJ g r b
 | _,_=>false
def G8 (P:Program):Nat->TypeId->Ty->Bool
 | 0,_,_=>false
 | d+1,T,t=>match P.underlying T,t with
  | some (.slice e),.slice t=>Nat.ble (Qr t) (P.bytesOf e)&&G8 P d e t
  | some (.struct fs),.st t=>MJ (G8 P d) fs.toList t
  | _,_=>true
def Kn (P:Program):List TypeId->List Ty->Bool
 | [],[]=>true
 | T::Ts,t::ts=>G8 P 9 T t&&Kn P Ts ts
 | _,_=>false
section
variable {H:Type} {enc:TypeId×Value->H} {P:Program} {w:World} {base:Nat} {spare:Nat->Bool} {held:Bool}
theorem Xq:∀ (d:Nat) (T:TypeId) (t:Ty) (fuel:Nat) (cs:List Value) (x:DataW H×List MemPlace),Fits P d T t=true->G8 P d T t=true->(∀ n,n∈x.1.weights P T->n<=reachBytes)->DataW.trod enc P w base spare held fuel T cs=some x-> ∃ y:t.den,aK (Gw w) t y cs/\WfB t y
 | 0,_,_,_,_,_,hf,_,_,_=>by cases hf
 | d+1,T,t,fuel,cs,x,hf,hfb,hwt,h=>by
  have ih:=fun T t fuel cs x=>Xq d T t fuel cs x
  unfold Fits at hf
  split at hf
  ·rename_i k k' hu
   obtain rfl:k=k':=aiG hf
   obtain⟨n,rfl,_,hw⟩:=DataW.trod_int hu h
   refine⟨n,rfl, ?_⟩
   simp only[Lit.wf,afv,ait] at hw
   exact hw
  ·rename_i hu
   obtain⟨b,rfl,_⟩:=DataW.trod_bool hu h
   exact⟨b,rfl,trivial⟩
  ·rename_i hu
   obtain⟨s,rfl,hx,_⟩:=DataW.trod_string hu h
   refine⟨s.data.toList, ?_,hwt _ (by rw[hx];simp[DataW.weights])⟩
   simp[aK,bs]
  ·rename_i e t hu
   simp only[afv] at hf
   unfold G8 at hfb
   rw[hu] at hfb
   simp only[afv] at hfb
   have hmb:Qr t<=P.bytesOf e:=ahH hfb.1
   have hsz:0<t.size:=ahH hf.1
   have hce:P.cellsOf e=t.size:=ahF hf.2.1
   rcases DataW.trod_slice hu h with ⟨rfl,_⟩ | ⟨a,len,cap,elems,rest,n,_,rfl,hxx,_,hl,hm,hlen,hel,_⟩
   ·exact⟨[],⟨_,rfl,none,0,rfl,ahJ _,ah8 _,.inl rfl⟩,⟨⟨ah8 _,by rw[agQ,aia];exact ah8 _⟩,fun x hx=>by cases hx⟩⟩
   ·have hone:∀ i,i<len->∃ y:t.den,(∃ cs',w.cells? base (a.add (i*t.size)) t.size=some cs'/\aK (Gw w) t y cs')/\WfB t y:=by
     intro i hi
     have h1:=hel i hi
     rw[agz (by omega),hce] at h1
     obtain⟨cs',h2,h3⟩:=Option.bind_eq_some_iff.1 h1
     obtain⟨y,h4,h5⟩:=ih e t n cs' _ hf.2.2 hfb.2 (by
      rw[hxx] at hwt
      simp only[DataW.weights,hu] at hwt
      have hall:∀ n,n∈DataW.weightsAll P e (elems.map (·.1))->n<=reachBytes:=fun n hn=>hwt n (ag4 _ (ag1 _ hn))
      exact JQ (ag9.2 ⟨_,agL (show i<elems.length by omega),rfl⟩) hall) h3
     exact⟨y,⟨cs',h2,h4⟩,h5⟩
    by_cases h0:len=0
    ·subst h0
     exact⟨[],⟨_,rfl,some a,cap,rfl,ah8 _,hm,.inl rfl⟩,⟨⟨ah8 _,by rw[agQ,aia];exact ah8 _⟩,fun x hx=>by cases hx⟩⟩
    ·obtain⟨y0,_,_⟩:=hone 0 (by omega)
     have:∃ y:Nat->t.den,∀ i,i<len->(∃ cs',w.cells? base (a.add (i*t.size)) t.size=some cs'/\aK (Gw w) t (y i) cs')/\WfB t (y i):=by
      classical
      refine⟨fun i=>if hi:i<len then Classical.choose (hone i hi) else y0,fun i hi=> ?_⟩
      simp only[dif_pos hi]
      exact Classical.choose_spec (hone i hi)
     obtain⟨y,hy⟩:=this
     obtain⟨⟨cs0,hc0,_⟩,_⟩:=hy 0 (by omega)
     rw[aia,show a.add 0=a from rfl] at hc0
     obtain⟨c,T',fz,hspot,hb,_,_⟩:=O1 hsz hc0
     have hat:∀ i,i<len->a.off+i*t.size+t.size<=c.size/\aK (Gw w) t (y i) ((c.toList.drop (a.off+i*t.size)).take t.size):=by
      intro i hi
      obtain⟨⟨cs',h1,h2⟩,_⟩:=hy i hi
      obtain⟨c',T2,fz2,h3,h4,h5,h6⟩:=O1 hsz h1
      have hblk:(a.add (i*t.size)).block=a.block:=by unfold Addr.add;split<;>rfl
      have hoff:(a.add (i*t.size)).off=a.off+i*t.size:=by
       unfold Addr.add;split
       ·rename_i hz;rw[hz];rfl
       ·rfl
      rw[hblk,hb] at h4
      cases h4
      rw[hoff] at h5 h6
      exact⟨h5,h6 ▸ h2⟩
     have hend:a.off+len*t.size<=c.size:=by
      have:=(hat (len - 1) (by omega)).1
      have e:len*t.size=(len - 1)*t.size+t.size:=by
       conv=>lhs;rw[show len=len - 1+1 by omega]
       rw[ahB,ah1]
      omega
     refine⟨(List.range len).map y,⟨_,rfl,some a,cap,by simp,by simpa using hl,hm,.inr ⟨a.block,a.off,c,T',fz, ?_,hb,by simpa using hend, ?_⟩⟩,⟨⟨by simp only[agP,List.length_range];omega, ?_⟩,fun x hx=> ?_⟩⟩
     ·congr 1;cases a;cases hspot;rfl
     ·have:=Zs (R:=aK (Gw w) t) (y:=y) (c:=c.toList) (sz:=t.size) a.off len (by simpa using hend) fun i hi=>(hat i hi).2
      simpa using this
     ·have hw1:(elems.length+rest.length)*P.bytesOf e<=reachBytes:=by
       have:=hwt ((elems.length+rest.length)*P.bytesOf e) (by rw[hxx];simp[DataW.weights,hu])
       exact this
      rw[agP,List.length_range]
      exact ahK (Nat.mul_le_mul (show len<=elems.length+rest.length by omega) hmb) hw1
     ·obtain⟨i,hi,rfl⟩:=ag9.1 hx
      exact (hy i (by simpa using hi)).2
  ·rename_i fs t hu
   simp only[afv] at hf
   obtain⟨xs,n,_,hxx,hlen,hxl,hx⟩:=DataW.trod_struct hu h
   unfold G8 at hfb
   rw[hu] at hfb
   dsimp only at hfb
   have hwk:∀ (k:Nat) (f:Field) (z:DataW H×List MemPlace),fs[k]? =some f->xs[k]? =some z->∀ n,n∈z.1.weights P f.type->n<=reachBytes:=by
    intro k f z hf hz
    rw[hxx] at hwt
    simp only[DataW.weights,hu] at hwt
    exact HY (k:=k) (by simp[hf]) (by simp[hz]) hwt
   have hct:P.cellsOf T=t.size:=ahF hf.1
   have key:∀ (l:List Field) (k off:Nat) (t:Ty),fs.toList.drop k=l->Fits.fitsF (Fits P d) P l off t=true->MJ (G8 P d) l t=true->off+t.size<=cs.length->
    ∃ y:t.den,aK (Gw w) t y ((cs.drop off).take t.size)/\WfB t y:=by
    intro l
    induction l with
    | nil=>intro k off t _ h2 _;cases h2
    | cons f r ihl=>
     intro k off t hk h2 h2b hle
     have hfk:fs[k]? =some f:=by
      have:=congrArg (·[0]?) hk
      simpa [agy] using this
     have hxk:=hx k f hfk
     have hkl:k<xs.length:=by rw[hxl];exact (afj.1 hfk).1
     rw[agz hkl] at hxk
     have hdr:fs.toList.drop (k+1)=r:=by
      have:=congrArg List.tail hk
      simpa [ahr] using this
     cases r with
     | nil=>
      simp only[Fits.fitsF,afv] at h2
      simp only[MJ] at h2b
      obtain⟨h3,h4,h5⟩:=h2
      rw[ahF h3,ahF h4] at hxk
      exact ih f.type t n _ _ h5 h2b (hwk k f _ hfk (agz hkl)) hxk
     | cons f' r'=>
      obtain⟨a,b,rfl⟩:∃ a b,t= .pair a b:=by
       cases t with
       | pair a b=>exact⟨a,b,rfl⟩
       | _=>simp[Fits.fitsF] at h2
      simp only[Fits.fitsF,afv] at h2
      simp only[MJ,afv] at h2b
      obtain⟨h3,h4,h5,h6⟩:=h2
      rw[ahF h3,ahF h4] at hxk
      obtain⟨y1,g1,g2⟩:=ih f.type a n _ _ h5 h2b.1 (hwk k f _ hfk (agz hkl)) hxk
      simp only[Ty.size] at hle
      obtain⟨y2,g3,g4⟩:=ihl (k+1) (off+a.size) b hdr h6 h2b.2 (by omega)
      refine⟨(y1,y2),⟨_,_, ?_,g1,g3⟩,⟨g2,g4⟩⟩
      simp only[Ty.size]
      rw[List.take_add,af9]
   obtain⟨y,h1,h2⟩:=key fs.toList 0 0 t rfl hf.2 hfb (by omega)
   refine⟨y, ?_,h2⟩
   rw[agf,ahw (by omega)] at h1
   exact h1
  ·cases hf
theorem aby {r:Reach} {b0:Nat} {d:Nat} {T:TypeId} {t:Ty} {v:Value} {dd:DataW H} {ps:List MemPlace} (hf:Fits P d T t=true) (hfb:G8 P d T t=true) (hval:Value.okWide P w r b0 T v) (hwt:∀ n,n∈dd.weights P T->n<=reachBytes) (h:DataW.Trod enc P w base spare held T v dd ps): ∃ y:t.den,bX (Gw w) t y v/\WfB t y:=by
 obtain⟨fuel,h⟩:=h
 obtain⟨y,h1,h2⟩:=Xq d T t fuel _ _ hf hfb hwt h
 refine⟨y, ?_,h2⟩
 cases d with
 | zero=>cases hf
 | succ d=>
  unfold Fits at hf
  split at hf
  ·rename_i hu;obtain⟨n,rfl⟩:=okWide_int hu hval;exact h1
  ·rename_i hu;obtain⟨n,rfl⟩:=okWide_bool hu hval;exact h1
  ·rename_i hu;obtain⟨n,rfl⟩:=okWide_string hu hval;exact h1
  ·rename_i hu;obtain⟨a,len,cap,rfl⟩:=okWide_slice hu hval;exact h1
  ·rename_i hu;obtain⟨c,rfl,_⟩:=okWide_struct hu hval;exact⟨c.toList,by simp,h1⟩
  ·cases hf
end
def VH:(ts:List Ty)->dn (pms ts)->Prop
 | [],_=>True
 | t::r,x=>WfB t x.1/\VH r x.2
theorem R7 {H:Type} {enc:TypeId×Value->H} {P:Program} {w:World} {base:Nat} {spare:Nat->Bool} {held:Bool} {r:Reach} {b0:Nat}:∀ {Ts:List TypeId} {ts:List Ty} {vs:List Value} {ds:List (DataW H)} {ps:List MemPlace} {i:Nat},N2 P Ts ts=true->Kn P Ts ts=true-> (∀ (j:Nat) t v,Ts[j]? =some t->vs[j]? =some v->Value.okWide P w r b0 t v)->(∀ n,n∈DataW.weightsEach P Ts ds->n<=reachBytes)->DataW.TrodAll enc P w base spare held Ts vs ds ps-> ∃ x,iY (Gw w) w (fun _=>none) i (pms ts) x vs/\VH ts x
 | [],[],[],[],_,_,_,_,_,_,_=>⟨(),rfl,trivial⟩
 | T::Ts,t::ts,v::vs,d::ds,ps,i,hf,hfb,hv,hwt,⟨p,q,h1,h2,_⟩=>by
  simp only[N2,afv] at hf
  simp only[Kn,afv] at hfb
  obtain⟨y,h3,h4⟩:=aby hf.1 hfb.1 (hv 0 T v rfl rfl) (fun n hn=>hwt n (ag1 _ hn)) h1
  obtain⟨x,h5,h6⟩:=R7 (i:=i+1) hf.2 hfb.2 (fun j t v ht hv'=>hv (j+1) t v ht hv') (fun n hn=>hwt n (ag2 _ hn)) h2
  exact⟨(y,x),⟨v,vs,fun _=>rfl,fun h=>absurd h (by simp[PM.arg]),h3,h5⟩,⟨h4,h6⟩⟩
theorem law_callsB {P:Program} {f:FuncId} {fn:Func} {ts:List Ty} {m:dn (pms ts)->Option (cF (pms ts) [.val .bool])} (ok:cQ P f ⟨pms ts,[.val .bool],m⟩) (hm:∀ x,VH ts x->∃ y,m x=some (true,y)) (hfit:N2 P fn.params.toList ts=true) (hfitB:Kn P fn.params.toList ts=true) {tb:TypeId} (hres:fn.resultTypes= #[tb]) (htb:P.underlying tb=some .bool) (kids:Kids P (· <P.types.size)) (full:∀ t e,t<P.types.size->P.underlying t=some (.slice e)->0<P.cellsOf e) (hlt:∀ t∈fn.params.toList,t<P.types.size) {H:Type} {enc:TypeId×Value->H} {s:ChangeSpec} (hvars:s.vars=[]) {W:World} (hT:td P (Gw W)) {base:Nat} {args:Array Value} {ds gs:List (DataW H)} {before:List MemPlace} (hspec:s.fn H (ds++[])={ results:=[.lit (.bool true)],args:=ds }) (hval:∀ (j:Nat) t v,fn.params[j]? =some t->args[j]? =some v->Value.okWide P W .any base t v) (hW:DataW.Whole enc P fn.params.toList s.vars false W args.toList ds gs before) (hwt:∀ n,n∈DataW.weightsEach P fn.params.toList ds->n<=reachBytes): Calls P f args W fun e W'=>∃ v,e= .returned v/\s.post enc P fn false true false false W args v W':=by
 have hW':=hW
 obtain⟨p,q,hA,hV,hpq,hfz,hnd⟩:=hW
 rw[hvars] at hV
 have hg:gs=[]/\q=[]:=by
  cases gs with
  | nil=>exact⟨rfl,hV⟩
  | cons g gs=>exact absurd hV (by simp[DataW.TrodVars])
 obtain⟨rfl,rfl⟩:=hg
 rw[af4] at hpq
 subst hpq
 obtain⟨x,hx,hwf⟩:=R7 (i:=0) hfit hfitB (fun j t v ht hv=>hval j t v (by simpa using ht) (by simpa using hv)) hwt hA
 obtain⟨y,hy⟩:=hm x hwf
 refine (ok (Gw W) W (fun _=>none) args.toList x (true,y) (adZ W) (fun _ _ h=>by cases h) hx hy hT).mono ?_
 rintro e W' ⟨G',ow',vs,hgv⟩
 have hold:∀ b,b<W.heap.size->W'.heap[b]? =W.heap[b]? :=fun b hb=>(hgv.old b hb rfl).1
 have hplt:=hW'.lt
 obtain⟨v,us,rfl,hv,hus,_⟩:=hgv.out
 subst hus
 have hv':v= .bool true:=by simpa [ZA,bX,aK] using hv
 subst hv'
 refine⟨.bool true,hgv.ret,ds,[],before,[],before,[],hW', ?_, ?_, ?_, ?_,fun h=>by cases h⟩
 ·rw[hspec,hres]
  exact trodAll_mk1 (shut_bool htb true)
 ·rw[hspec]
  have hsame:∀ z,z∈before->W.sameAt W' z:=by
   intro z hz
   have:=hplt z hz
   cases z with
   | cell b off=>simp only[World.sameAt,World.cell?];rw[hold b this]
   | map b=>exact hold b this
  have hre:=DataW.TrodAll.respare (spare':=fun b=>decide (b<W.heap.size)) kids full hlt hA (fun z hz=>by simpa using hplt z hz)
  have hcar:∀ {Ts:List TypeId} {vs:List Value} {ds:List (DataW H)} {ps:List MemPlace},DataW.TrodAll enc P W 0 (fun b=>decide (b<W.heap.size)) true Ts vs ds ps->(∀ z,z∈ps->W.sameAt W' z)->DataW.TrodAll enc P W' 0 (fun b=>decide (b<W.heap.size)) true Ts vs ds ps:=by
   intro Ts
   induction Ts with
   | nil=>
    intro vs ds ps h _
    cases vs<;>cases ds<;>first | exact h | exact absurd h (by simp[DataW.TrodAll])
   | cons T Ts ih=>
    intro vs ds ps h hs
    cases vs with
    | nil=>cases ds<;>exact absurd h (by simp[DataW.TrodAll])
    | cons v vs=>cases ds with
    | nil=>exact absurd h (by simp[DataW.TrodAll])
    | cons d ds=>
    obtain⟨p,q,⟨n,h1⟩,h2,rfl⟩:=h
    exact⟨p,q,⟨n,DataW.trod_carry n _ _ _ h1 fun z hz=>hs z (ag1 _ hz)⟩,ih h2 (fun z hz=>hs z (ag2 _ hz)),rfl⟩
  exact hcar hre hsame
 ·rw[hspec,hvars];rfl
 ·refine⟨hgv.os,hgv.output,fun i hi=> ?_⟩
  rw[hold i hi]
  cases hh:W.heap[i]? with
  | none=>trivial
  | some o=>cases o<;>simp[World.keptBut]
end Go.Dn
namespace Go.Dn
end Go.Dn
namespace Go.Dn
open Go.Proofs Go.Shelf Go.RowKit Go.Lib Go.Sort
structure ae8 (P:Program) (ρ:Ren) (k bytes:Nat) (z:Value):Prop where
 mixed:P.follows .mixedOrders=true
 f45:Bears P (ρ.f 45) (SlBodyN.n45 ρ)
 t0:P.underlying (ρ.t 0)=some (TypeDesc.tuple #[])
 a0:∀ w,(isAgg (ρ.t 0)).run P w= .ok false w
 z0:∀ w,(Go.sizeOf (ρ.t 0)).run P w= .ok 1 w
 v0:∀ w,(zeroValue (ρ.t 0)).run P w= .ok (Value.tuple #[]) w
 t3:P.underlying (ρ.t 3)=some (TypeDesc.int IntKind.i64)
 a3:∀ w,(isAgg (ρ.t 3)).run P w= .ok false w
 z3:∀ w,(Go.sizeOf (ρ.t 3)).run P w= .ok 1 w
 v3:∀ w,(zeroValue (ρ.t 3)).run P w= .ok (Value.int IntKind.i64 0) w
 t4:P.underlying (ρ.t 4)=some (TypeDesc.bool)
 a4:∀ w,(isAgg (ρ.t 4)).run P w= .ok false w
 z4:∀ w,(Go.sizeOf (ρ.t 4)).run P w= .ok 1 w
 v4:∀ w,(zeroValue (ρ.t 4)).run P w= .ok (Value.bool false) w
 t22:P.underlying (ρ.t 22)=some (TypeDesc.slice (ρ.t 23))
 a22:∀ w,(isAgg (ρ.t 22)).run P w= .ok false w
 z22:∀ w,(Go.sizeOf (ρ.t 22)).run P w= .ok 1 w
 v22:∀ w,(zeroValue (ρ.t 22)).run P w= .ok (Value.slice none 0 0) w
 z23:∀ w,(Go.sizeOf (ρ.t 23)).run P w= .ok k w
 v23:∀ w,(zeroValue (ρ.t 23)).run P w= .ok z w
 i23:(P.info? (ρ.t 23)).map (fun i=>(i.zero,i.size,i.bytes))=some (some z,k,bytes)
 k0:0<k
 zc:z.cells.size=k
 z1:∀ v∈z.cells.toList,v.oneCell'=true
variable {P:Program} {ρ:Ren} {k bytes:Nat} {z:Value}
theorem VF {z:Value} (h:∀ v∈z.cells.toList,v.oneCell'=true) (n:Nat):∀ v∈(Builtin.zeroCells z.cells n).toList,v.oneCell'=true:=by
 intro v hv
 simp only[Builtin.zeroCells,Array.toList_map,Array.toList_range,ag9,ahd] at hv
 obtain⟨i,hi,rfl⟩:=hv
 have h0:0<z.cells.size:=by
  rcases ahG z.cells.size with h0 | h0
  ·rw[h0,Nat.mul_zero] at hi;omega
  ·exact h0
 have hlt:i % z.cells.size<z.cells.size:=Nat.mod_lt _ h0
 refine h _ ?_
 rw[aiy z.cells _ hlt]
 exact Array.getElem_mem_toList _
theorem QF (w:World) (t e ty:TypeId) (ht:P.underlying t=some (.slice e)) (hv:∀ w,(zeroValue e).run P w= .ok z w) (h1:∀ v∈z.cells.toList,v.oneCell'=true) (b o n c:Nat) (hn:0<n) (hc:∀ j,j<n*z.cells.size->(w.cell? ⟨b,o+j,none⟩).isSome=true) (hf:∀ j,j<n*z.cells.size->w.frozen? ⟨b,o+j,none⟩=false): (Builtin.clear_ #[t] ty #[.slice (some ⟨b,o,none⟩) n c]).run P w= .ok (.tuple #[]) (w.setCells b o (Builtin.zeroCells z.cells n).toList):=by
 have hsz:(Builtin.zeroCells z.cells n).toList.length=n*z.cells.size:=by
  rw[afp];exact qQ _ _
 have hst:=run_storeCells_cells (P:=P) b o (Builtin.zeroCells z.cells n).toList 0 w (by simpa [hsz] using hc) (by simpa [hsz] using hf) (VF h1 n)
 simp only[ahC] at hst
 obtain⟨m,rfl⟩:∃ m,n=m+1:=⟨n - 1,by omega⟩
 simp[Builtin.clear_,run_underlying ht,hv,hst]
section
variable {G:Gh} {w w':World} {ow:Nat->Option Nat} {t:Ty}
end
end Go.Dn
