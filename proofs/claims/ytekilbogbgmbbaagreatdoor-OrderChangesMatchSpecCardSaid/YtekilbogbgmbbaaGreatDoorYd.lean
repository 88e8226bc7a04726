/-
  The executor, its fifth part: whole functions are sound; a law whose plain model is always true holds. No condition.
-/
import Derived.Test.YtekilbogbgmbbaaGreatDoorYe
import Derived.Shelf.Spec.SlicesInsertGrow
import Derived.ReadAgain
import Derived.ChangeSame
import Derived.ChangeArms
import Derived.ChangeOld
import Derived.OpenShut
import Derived.ProofKit
import Derived.WalkKit
import Derived.Deep.DeepHandedRow
import Derived.Lib.LaidTab
import Derived.Shelf.Spec.SlicesGrow
import Derived.Shelf.Vars
import Derived.Stop.LaidErr
import Derived.Shelf.SortM.Plain
import Derived.Shelf.SortM.SortNone
import Derived.Shelf.SlGeneric
set_option linter.all false
namespace Go.Dn
variable {X:Cx} {C:Fr X.P}
def Ex.E6:Ex->Exit
 | .normal=> .normal
 | .exit id=> .exit id
 | .ret=> .ret
theorem QW {β:Type} {A:Ann} {c:Code} {len:Nat} {anns:List (Nat×Ann)} {K:Ex->St->Option β} {r:β} {Q:Exit->Act->World->Prop}
 (ih:∀ {S:St} {K:Ex->St->Option β} {r:β},den X anns c β S K=some r->∀ {Q:Exit->Act->World->Prop},
   (∀ e S' G ρ w a,K e S'=some r->Mod C G ρ S' w a->Q e.E6 a w)->∀ {G ρ w a},Mod C G ρ S w a->c.wp X.P Q a w)
 (hQ:∀ e S' G ρ w a,K e S'=some r->Mod C G ρ S' w a->Q e.E6 a w):∀ (n:Nat) (x:cZ A.cks) (G:Gh) (ρ:Env) (w:World) (a:Act),
 iter n x (fun x again=>den X anns c β (head A len x) fun e S'=>match e with
  | .normal=>match carry A S' with
   | some y=>bif Nat.beq S'.tmps.length len then again y else none
   | none=>none
  | .exit j=>K (.exit j) S'
  | .ret=>K .ret S')=some r->Mod C G ρ (head A len x) w a->Code.rounds X.P c Q n a w
 | 0,x,G,ρ,w,a,h,hM=>by simp[iter] at h
 | n+1,x,G,ρ,w,a,h,hM=>by
  simp only[iter] at h
  refine ih h (fun e S' G' ρ' w' a' hk hM'=> ?_) hM
  cases e with
  | normal=>
   simp only at hk
   split at hk
   ·rename_i y hy
    cases hb:Nat.beq S'.tmps.length len with
    | false=>rw[hb] at hk;cases hk
    | true=>
     rw[hb] at hk
     simp only[af2] at hk
     obtain⟨G2,ρ2,h2⟩:=Po hM' hy
     rw[afp hb] at h2
     exact QW ih hQ n y G2 ρ2 w' a' hk h2
   ·cases hk
  | exit id=>exact hQ (.exit id) S' G' ρ' w' a' hk hM'
  | ret=>exact hQ .ret S' G' ρ' w' a' hk hM'
theorem NO {β γ:Type} {x:Option (β ⊕ γ)} {f:γ->Option β} {r:β} (h:aC x f=some r):∃ q,x=some q/\(q= .inl r\/∃ v,q= .inr v/\f v=some r):=by
 unfold aC at h
 split at h
 ·cases h
 ·cases h;exact⟨_,rfl,.inl rfl⟩
 ·rename_i v;exact⟨_,rfl,.inr ⟨v,rfl,h⟩⟩
theorem vz {β γ:Type} {x:Option β} {q:β ⊕ γ} (h:FN x=some q):∃ r,x=some r/\q= .inl r:=by
 unfold FN at h
 split at h
 ·cases h;exact⟨_,rfl,rfl⟩
 ·cases h
theorem Y8 {β:Type} {A:Ann} {n:Nat} {S:St} {q:β ⊕ cZ A.cks} (h:meet A n S=some q):∃ v,carry A S=some v/\S.tmps.length=n/\q= .inr v:=by
 unfold meet at h
 split at h
 ·rename_i v hv
  cases hb:Nat.beq S.tmps.length n with
  | false=>rw[hb] at h;cases h
  | true=>rw[hb] at h;simp only[af2,Option.some.injEq] at h;exact⟨v,hv,afp hb,h.symm⟩
 ·cases h
theorem JQ {β:Type} {A:Ann} {n:Nat} {K:Ex->St->Option β} {r:β} {Q:Exit->Act->World->Prop} (hQ:∀ e S' G ρ w a,K e S'=some r->Mod C G ρ S' w a->Q e.E6 a w) {q:β ⊕ cZ A.cks} (hq:q= .inl r\/∃ v,q= .inr v/\K .normal (head A n v)=some r) {S':St} {G:Gh} {ρ:Env} {w:World} {a:Act} (hM:Mod C G ρ S' w a) (h:meet A n S'=some q):Q .normal a w:=by
 obtain⟨v,h1,h2,h3⟩:=Y8 h
 rcases hq with hq | ⟨v',hq,hk⟩
 ·rw[h3] at hq;cases hq
 ·rw[h3] at hq
  cases hq
  obtain⟨G2,ρ2,hm⟩:=Po hM h1
  rw[h2] at hm
  exact hQ .normal _ G2 ρ2 w a hk hm
theorem Yg {β:Type} {a b:Option β} {r:β} (h:both a b=some r):a=some r/\b=some r:=by
 unfold both at h
 split at h
 ·rename_i e;exact⟨h,e ▸ h⟩
 ·cases h
theorem Bn (hX:bY X) (hmix:X.P.follows .mixedOrders=true) (anns:List (Nat×Ann)):∀ (c:Code) {β:Type} {S:St} {K:Ex->St->Option β} {r:β},den X anns c β S K=some r->∀ {Q:Exit->Act->World->Prop}, (∀ e S' G ρ w a,K e S'=some r->Mod C G ρ S' w a->Q e.E6 a w)->∀ {G ρ w a},Mod C G ρ S w a->c.wp X.P Q a w:=by
 intro c
 induction c with
 | skip=>
  intro β S K r h Q hQ G ρ w a hM
  exact wp_skip (hQ .normal S G ρ w a h hM)
 | region id ops dr=>
  intro β S K r h Q hQ G ρ w a hM
  simp only[den] at h
  split at h
  ·rename_i A hA
   obtain⟨v,hv,h⟩:=bind_some h
   have:=abB hX hmix hv (Q:=Q) (fun S' G ρ w a hk hJ hM=>hQ .normal _ G ρ w a h (YI hJ hk hM)) hM id
   simpa using this
  ·cases dr with
   | true=>
    simp only[af2] at h
    have:=XM hX hmix h (Q:=Q) (fun S' G ρ w a hk hM=>hQ .normal S' G ρ w a hk hM) hM id
    simpa using this
   | false=>
    simp only[af1] at h
    refine wp_region_list ?_
    have:=rN hX ops.toList ops.toList h (Q:=Q) (fun S' G ρ w a hk hM=>hQ .normal S' G ρ w a hk hM) hM
    simpa using this
 | seq x y ihx ihy=>
  intro β S K r h Q hQ G ρ w a hM
  simp only[den] at h
  refine wp_seq (ihx h (fun e S' G' ρ' w' a' hk hM'=> ?_) hM)
  cases e with
  | normal=>exact ihy hk hQ hM'
  | exit id=>exact hQ (.exit id) S' G' ρ' w' a' hk hM'
  | ret=>exact hQ .ret S' G' ρ' w' a' hk hM'
 | cond b x y ihx ihy=>
  intro β S K r h Q hQ G ρ w a hM
  simp only[den] at h
  split at h
  ·rename_i t ht
   have hv:=hM.tmps.ev b
   rw[ht] at hv
   split at h
   ·rename_i A hA
    obtain⟨q,h1,hq⟩:=NO h
    refine wp_cond_split (t:=t) hv (fun e=> ?_) (fun e=> ?_)
    ·subst e
     simp only[af2] at h1
     refine ihx h1 (fun e S' G' ρ' w' a' hk hM'=> ?_) hM
     cases e with
     | normal=>exact JQ hQ hq hM' hk
     | exit j=>
      obtain⟨r',hr,hr2⟩:=vz hk
      rcases hq with hq | ⟨v,hq,_⟩
      ·rw[hr2] at hq;cases hq;exact hQ (.exit j) S' G' ρ' w' a' hr hM'
      ·rw[hr2] at hq;cases hq
     | ret=>
      obtain⟨r',hr,hr2⟩:=vz hk
      rcases hq with hq | ⟨v,hq,_⟩
      ·rw[hr2] at hq;cases hq;exact hQ .ret S' G' ρ' w' a' hr hM'
      ·rw[hr2] at hq;cases hq
    ·subst e
     simp only[af1] at h1
     refine ihy h1 (fun e S' G' ρ' w' a' hk hM'=> ?_) hM
     cases e with
     | normal=>exact JQ hQ hq hM' hk
     | exit j=>
      obtain⟨r',hr,hr2⟩:=vz hk
      rcases hq with hq | ⟨v,hq,_⟩
      ·rw[hr2] at hq;cases hq;exact hQ (.exit j) S' G' ρ' w' a' hr hM'
      ·rw[hr2] at hq;cases hq
     | ret=>
      obtain⟨r',hr,hr2⟩:=vz hk
      rcases hq with hq | ⟨v,hq,_⟩
      ·rw[hr2] at hq;cases hq;exact hQ .ret S' G' ρ' w' a' hr hM'
      ·rw[hr2] at hq;cases hq
   ·refine wp_cond_split (t:=t) hv (fun e=> ?_) (fun e=> ?_)
    ·subst e;exact ihx h hQ hM
    ·subst e;exact ihy h hQ hM
  ·rename_i t ht
   have hv:=hM.tmps.ev b
   rw[ht] at hv
   obtain⟨c,hc,hf⟩:=(hv:aU G ρ (.nb t) _)
   cases t with
   | false=>
    have:=hf rfl
    subst this
    exact wp_cond_split (t:=false) hc (fun e=>by cases e) (fun _=>ihy h hQ hM)
   | true=>
    obtain⟨h1,h2⟩:=Yg h
    exact wp_cond_split (t:=c) hc (fun _=>ihx h1 hQ hM) (fun _=>ihy h2 hQ hM)
  ·cases h
 | block id x ih=>
  intro β S K r h Q hQ G ρ w a hM
  simp only[den] at h
  split at h
  ·rename_i A hA
   obtain⟨q,h1,hq⟩:=NO h
   refine wp_block (ih h1 (fun e S' G' ρ' w' a' hk hM'=> ?_) hM)
   cases e with
   | normal=>exact JQ hQ hq hM' hk
   | exit j=>
    simp only at hk
    simp only[Ex.E6,Exit.inBlock]
    split at hk
    ·rename_i hb
     rw[age (afp hb)]
     exact JQ hQ hq hM' hk
    ·rename_i hb
     rw[agd (fun e=>hb (by rw[e];simp))]
     obtain⟨r',hr,hr2⟩:=vz hk
     rcases hq with hq | ⟨v,hq,_⟩
     ·rw[hr2] at hq;cases hq;exact hQ (.exit j) S' G' ρ' w' a' hr hM'
     ·rw[hr2] at hq;cases hq
   | ret=>
    obtain⟨r',hr,hr2⟩:=vz hk
    rcases hq with hq | ⟨v,hq,_⟩
    ·rw[hr2] at hq;cases hq;exact hQ .ret S' G' ρ' w' a' hr hM'
    ·rw[hr2] at hq;cases hq
  ·refine wp_block (ih h (fun e S' G' ρ' w' a' hk hM'=> ?_) hM)
   cases e with
   | normal=>exact hQ .normal S' G' ρ' w' a' hk hM'
   | exit j=>
    simp only at hk
    simp only[Ex.E6,Exit.inBlock]
    split at hk
    ·rename_i hb
     rw[age (afp hb)]
     exact hQ .normal S' G' ρ' w' a' hk hM'
    ·rename_i hb
     rw[agd (fun e=>hb (by rw[e];simp))]
     exact hQ (.exit j) S' G' ρ' w' a' hk hM'
   | ret=>exact hQ .ret S' G' ρ' w' a' hk hM'
 | loop x ih=>
  intro β S K r h Q hQ G ρ w a hM
  simp only[den] at h
  split at h
  ·rename_i A hA
   split at h
   ·rename_i y hy
    obtain⟨G2,ρ2,h2⟩:=Po hM hy
    exact wp_loop_rounds (A.fuel y) (QW ih hQ (A.fuel y) y G2 ρ2 w a h h2)
   ·cases h
  ·cases h
 | exit id=>
  intro β S K r h Q hQ G ρ w a hM
  exact wp_exit (hQ (.exit id) S G ρ w a h hM)
 | ret=>
  intro β S K r h Q hQ G ρ w a hM
  exact wp_ret (hQ .ret S G ρ w a h hM)
 | _=>
  intro β S K r h
  simp[den] at h
end Go.Dn
namespace Go.Dn
variable {X:Cx} {C:Fr X.P} {G:Gh} {ρ:Env} {w:World}
def fC (ρ:Env):Nat->List PM->List Value->Prop
 | _,[],_=>True
 | i,.mrow _ _::r,vs=>(vs.head? =some (ρ.rw (pid i 0))/\∃ a n c,ρ.rw (pid i 0)= .slice a n c)/\fC ρ (i+1) r vs.tail
 | i,.map _ _::r,vs=>(vs.head? =some (ρ.ob (pid i 0))/\∃ b,ρ.ob (pid i 0)= .map (some b))/\fC ρ (i+1) r vs.tail
 | i,.box _::r,vs=>vs.head? =some (.pointer (some ⟨ρ.bx (2000+i),0,none⟩))/\fC ρ (i+1) r vs.tail
 | i,.ar _::r,vs=>fC ρ (i+1) r vs
 | i,.arR _::r,vs=>fC ρ (i+1) r vs
 | i,.val _::r,vs=>fC ρ (i+1) r vs.tail
 | i,.row _ _::r,vs=>fC ρ (i+1) r vs.tail
theorem Wa (i:Nat):10000000<=pid i 0:=by simp only[pid,pD,nid];omega
theorem fC.congr {ρ ρ':Env} (hb:∀ k,2000<=k->ρ'.bx k=ρ.bx k) (hr:∀ k,10000000<=k->ρ'.rw k=ρ.rw k/\ρ'.ob k=ρ.ob k):∀ {ps:List PM} {i:Nat} {vs:List Value},fC ρ i ps vs->fC ρ' i ps vs
 | [],_,_,_=>trivial
 | .mrow _ _::r,i,vs,h=>by
  simp only[fC] at h ⊢
  rw[(hr _ (Wa i)).1];exact⟨h.1,h.2.congr hb hr⟩
 | .map _ _::r,i,vs,h=>by
  simp only[fC] at h ⊢
  rw[(hr _ (Wa i)).2];exact⟨h.1,h.2.congr hb hr⟩
 | .box _::r,i,vs,h=>by
  simp only[fC] at h ⊢
  rw[hb _ (by omega)];exact⟨h.1,h.2.congr hb hr⟩
 | .ar _::r,i,vs,h=>fC.congr (ps:=r) hb hr h
 | .arR _::r,i,vs,h=>fC.congr (ps:=r) hb hr h
 | .val _::r,i,vs,h=>fC.congr (ps:=r) hb hr h
 | .row _ _::r,i,vs,h=>fC.congr (ps:=r) hb hr h
theorem Trans.refl (G:Gh) (b:Bool):Trans G G b:=⟨fun _ _ h=>h,.inr (Gh.le_refl G)⟩
theorem mC {ow:Nat->Option Nat}:∀ {ps:List PM} {i:Nat} {x:gh ps} {vs:List Value},gu G w ow i ps x vs-> ∃ vals:List (aX×Value),vals.map (·.1)=(dN i ps).map (·.1)/\(∀ k v,(.inl k,v)∈vals->∃ b,v= .pointer (some ⟨b,0,none⟩))/\ ∀ ρ:Env,(∀ o v,(o,v)∈vals->Asg ρ w o v)->(∀ o n,(o,n)∈dN i ps->∀ b,ow b=some n->ρ.own b=some o)-> aF (bh G ρ) (jx i ps x) vs/\iQ G ρ w (pg i ps x) (ov i ps x) (gq i ps x)/\fC ρ i ps vs
 | [],i,x,vs,h=>⟨[],rfl,fun k v h=>by simp at h,fun ρ _ _=>⟨h,iQ.nil,trivial⟩⟩
 | .val t::r,i,x,vs,⟨v,us,h1,_,hv,hu⟩=>by
  obtain⟨vals,e,hp,hr⟩:=mC hu
  refine⟨vals,e,hp,fun ρ hA hO=> ?_⟩
  obtain⟨g1,g2,g3⟩:=hr ρ hA hO
  rw[h1 rfl]
  exact⟨⟨v,us,rfl,EZ ρ hv,g1⟩,g2,g3⟩
 | .row e' t::r,i,x,vs,⟨v,us,h1,_,⟨hv,hv2⟩,hu⟩=>by
  obtain⟨vals,e,hp,hr⟩:=mC hu
  refine⟨(.inr (pid i 0),v)::vals,by simp[dN,e],fun k v h=>hp k v (by simpa using h),fun ρ hA hO=> ?_⟩
  obtain⟨g1,g2,g3⟩:=hr ρ (fun o v h=>hA o v (by simp[h])) (fun o n h=>hO o n (by simp[dN,h]))
  have hav:ρ.rw (pid i 0)=v:=hA (.inr (pid i 0)) v (by simp)
  rw[h1 rfl]
  refine⟨⟨v,us,rfl,⟨hav.symm,hv.isSlice⟩,g1⟩,⟨g2.bx,fun j q hj=> ?_,g2.ob⟩,g3⟩
  simp only[ov,ax] at hj
  split at hj
  ·rename_i ej
   subst ej
   cases hj
   exact hv.ok (Trans.refl G _) hav (fun b hb=>hO _ _ (by simp[dN]) b (hv2 b hb))
  ·exact g2.rw j q hj
 | .mrow e' t::r,i,x,vs,⟨v,us,h1,_,⟨hv,hv2⟩,hu⟩=>by
  obtain⟨vals,e,hp,hr⟩:=mC hu
  refine⟨(.inr (pid i 0),v)::vals,by simp[dN,e],fun k v h=>hp k v (by simpa using h),fun ρ hA hO=> ?_⟩
  obtain⟨g1,g2,g3⟩:=hr ρ (fun o v h=>hA o v (by simp[h])) (fun o n h=>hO o n (by simp[dN,h]))
  have hav:ρ.rw (pid i 0)=v:=hA (.inr (pid i 0)) v (by simp)
  rw[h1 rfl]
  refine⟨⟨v,us,rfl,⟨hav.symm,hv.isSlice⟩,g1⟩,⟨g2.bx,fun j q hj=> ?_,g2.ob⟩,⟨by rw[hav];rfl,by rw[hav];exact hv.isSlice⟩,g3⟩
  simp only[ov,ax] at hj
  split at hj
  ·rename_i ej
   subst ej
   cases hj
   exact hv.ok (Trans.refl G _) hav (fun b hb=>hO _ _ (by simp[dN]) b (hv2 b hb))
  ·exact g2.rw j q hj
 | .map kk vv::r,i,x,vs,⟨v,us,h1,_,⟨b,hv,hv1,hv2⟩,hu⟩=>by
  obtain⟨vals,e,hp,hr⟩:=mC hu
  refine⟨(.ob (pid i 0),v)::vals,by simp[dN,e],fun k v h=>hp k v (by simpa using h),fun ρ hA hO=> ?_⟩
  obtain⟨g1,g2,g3⟩:=hr ρ (fun o v h=>hA o v (by simp[h])) (fun o n h=>hO o n (by simp[dN,h]))
  rw[h1 rfl]
  subst hv
  have ho:ρ.own b=some (.ob (pid i 0)):=hO _ _ (by simp[dN]) b hv1
  obtain⟨m1,m2⟩:=hv2.ok (Trans.refl G _) (hA (.ob (pid i 0)) (.map (some b)) (by simp)) ho
  refine⟨⟨_,us,rfl,⟨m2.symm,b,rfl⟩,g1⟩,⟨g2.bx,g2.rw,fun j q hj=> ?_⟩,⟨by rw[m2];rfl,b,m2⟩,g3⟩
  simp only[gq,ax] at hj
  split at hj
  ·rename_i ej
   subst ej
   cases hj
   exact m1
  ·exact g2.ob j q hj
 | .box l::r,i,x,vs,⟨v,us,h1,_,hv,hu⟩=>by
  obtain⟨vals,e,hp,hr⟩:=mC hu
  obtain⟨vals2,hv2,hr2⟩:=Lw (G3:=G) (d:=pD) (k:=2000+i) (Trans.refl G _) hv
  refine⟨(.inl (2000+i),v)::(vals2++vals),by simp[dN,e,hv2],fun k v' h=> ?_,fun ρ hA hO=> ?_⟩
  ·rcases aeP.1 h with h | h
   ·cases h
    obtain⟨b,_,_,e1,_⟩:=hv
    exact⟨b,e1⟩
   ·rcases aeM.1 h with h | h
    ·have hm:(.inl k:aX)∈vals2.map (·.1):=aeV.2 ⟨_,h,rfl⟩
     rw[hv2] at hm
     obtain⟨p,hp,e1⟩:=aeV.1 hm
     obtain⟨p1,p2⟩:=p
     simp only at e1
     subst e1
     exact absurd hp ((uW (x:=x.1)).2.2 k p2)
    ·exact hp k v' h
  ·obtain⟨g1,g2,g3⟩:=hr ρ (fun o v h=>hA o v (by simp[h])) (fun o n h=>hO o n (by simp[dN,h]))
   have hk:=hA (.inl (2000+i)) v (by simp)
   have g4:=hr2 ρ hk (fun o v h=>hA o v (by simp[h])) (fun o n h=>hO o n (by
    simp only[aeP] at h
    simp only[dN,aeP,aeM]
    rcases h with h | h
    ·exact .inl h
    ·exact .inr (.inl h)))
   rw[h1 rfl]
   exact⟨⟨v,us,rfl,hk,g1⟩,g4.app g2,by rw[show v=_ from hk];rfl,g3⟩
 | .ar t::r,i,x,vs,⟨v,us,_,h1,hv,hu⟩=>by
  obtain⟨vals,e,hp,hr⟩:=mC hu
  refine⟨(.ob bz,undef)::vals,by simp[dN,e],fun k v h=>hp k v (by simpa using h),fun ρ hA hO=> ?_⟩
  obtain⟨g1,g2,g3⟩:=hr ρ (fun o v h=>hA o v (by simp[h])) (fun o n h=>hO o n (by simp[dN,h]))
  have e1:=h1 rfl
  subst e1
  refine⟨g1,⟨g2.bx,g2.rw,fun j q hj=> ?_⟩,g3⟩
  simp only[gq,ax] at hj
  split at hj
  ·rename_i ej
   subst ej
   cases hj
   refine⟨rfl,hv.1,hv.2.1,fun n z hz=> ?_⟩
   obtain⟨b,ws,T,f1,f2,f3,f4,f5⟩:=hv.2.2 n z hz
   exact⟨b,ws,T,f1,nofun,fun _=>hO _ _ (by simp[dN]) b (f3 rfl),f4,f5⟩
  ·exact g2.ob j q hj
 | .arR t::r,i,x,vs,⟨v,us,_,h1,hv,hu⟩=>by
  obtain⟨vals,e,hp,hr⟩:=mC hu
  refine⟨vals,e,hp,fun ρ hA hO=> ?_⟩
  obtain⟨g1,g2,g3⟩:=hr ρ hA hO
  have e1:=h1 rfl
  subst e1
  refine⟨g1,⟨g2.bx,g2.rw,fun j q hj=> ?_⟩,g3⟩
  simp only[gq,ax] at hj
  split at hj
  ·rename_i ej
   subst ej
   cases hj
   refine⟨rfl,hv.1,hv.2.1,fun n z hz=> ?_⟩
   obtain⟨b,ws,T,f1,f2,f3,f4,f5⟩:=hv.2.2 n z hz
   exact⟨b,ws,T,f1,f2,nofun,f4,f5⟩
  ·exact g2.ob j q hj
theorem xm:∀ {ps:List PM} {i:Nat} {o:aX} {n:Nat},(o,n)∈dN i ps->(∃ k,o= .inl k)\/o= .ob bz\/FP pD o n
 | [],i,o,n,h=>by simp[dN] at h
 | .val _::r,i,o,n,h=>xm (ps:=r) h
 | .arR _::r,i,o,n,h=>xm (ps:=r) h
 | .row _ _::r,i,o,n,h=>by
  simp only[dN,aeP,Prod.mk.injEq] at h
  rcases h with ⟨h,h'⟩ | h
  ·subst h;subst h';exact .inr (.inr (.inl (by rw[pid,BK];rfl)))
  ·exact xm (ps:=r) h
 | .mrow _ _::r,i,o,n,h=>by
  simp only[dN,aeP,Prod.mk.injEq] at h
  rcases h with ⟨h,h'⟩ | h
  ·subst h;subst h';exact .inr (.inr (.inl (by rw[pid,BK];rfl)))
  ·exact xm (ps:=r) h
 | .map _ _::r,i,o,n,h=>by
  simp only[dN,aeP,Prod.mk.injEq] at h
  rcases h with ⟨h,h'⟩ | h
  ·subst h;subst h';exact .inr (.inr (.inr (by rw[pid,BK];rfl)))
  ·exact xm (ps:=r) h
 | .box l::r,i,o,n,h=>by
  simp only[dN,aeP,aeM,Prod.mk.injEq] at h
  rcases h with ⟨h,h'⟩ | h | h
  ·exact .inl ⟨_,h⟩
  ·exact .inr (.inr (AX h))
  ·exact xm (ps:=r) h
 | .ar _::r,i,o,n,h=>by
  simp only[dN,aeP,Prod.mk.injEq] at h
  rcases h with ⟨h,h'⟩ | h
  ·exact .inr (.inl h)
  ·exact xm (ps:=r) h
def Ud (tmps:Array Value):ResultVar->Sem Value
 | .tmp t=>pure (tmps.getD t undef)
 | .cell a t=>do loadVar t (<- asAddr (tmps.getD a undef))
theorem Zt {S:St} {a:Act} {s:SV} {v:ResultVar} (hM:Mod C G ρ S w a) (h:Sw X S v=some s):∃ u,(Ud a.tmps v).run X.P w= .ok u w/\bh G ρ s u:=by
 cases v with
 | tmp t=>
  simp only[Sw,Option.some.injEq] at h
  subst h
  exact⟨_,rfl,hM.tmps.ev (.tmp t)⟩
 | cell t T=>
  simp only[Sw] at h
  split at h
  ·rename_i b off hx
   split at h
   ·rename_i l hl
    obtain⟨s',hs,hld⟩:=zj h
    cases hs
    have h1:=hM.tmps.ev (.tmp t)
    simp only[St.ev] at h1
    rw[hx] at h1
    have h2:a.tmps.getD t undef= .pointer (some ⟨ρ.bx b,off,none⟩):=h1
    obtain⟨_,vs,T',hw,hv⟩:=hM.boxes b l hl
    obtain⟨u,hr,hsv⟩:=hld G ρ w (ρ.bx b) 0 vs hv (fun j v hj=>by
     have hadd:(⟨ρ.bx b,0,none⟩:Addr).add j=⟨ρ.bx b,j,none⟩:=by unfold Addr.add;split<;>simp_all
     rw[hadd,cell_of_row w _ j _ T' (0,0) hw];simpa using hj)
    refine⟨u, ?_,hsv⟩
    simp only[afM] at hr
    simp only[Ud,h2,asAddr,Sem.run_bind,Sem.run_pure,Result.andThen_ok,hr]
   ·cases h
  ·cases h
theorem Oo {S:St} {a:Act} (hM:Mod C G ρ S w a):∀ {rs:List ResultVar} {l:List SV},EP X S rs=some l->∃ us,(rs.mapM (Ud a.tmps)).run X.P w= .ok us w/\aF (bh G ρ) l us
 | [],l,h=>by
  simp only[EP,Option.some.injEq] at h
  subst h
  exact⟨[],rfl,rfl⟩
 | v::r,l,h=>by
  simp only[EP] at h
  split at h
  ·rename_i s hs
   split at h
   ·rename_i l' hl'
    cases h
    obtain⟨u,h1,h2⟩:=Zt hM hs
    obtain⟨us,h3,h4⟩:=Oo hM hl'
    refine⟨u::us, ?_,u,us,rfl,h2,h4⟩
    simp only[List.mapM_cons,Sem.run_bind,h1,Result.andThen_ok,h3,Sem.run_pure]
   ·cases h
  ·cases h
theorem KY {fn:Func} {tmps:Array Value} {P:Program} {us:List Value} (h:(fn.results.toList.mapM (Ud tmps)).run P w= .ok us w):(results fn tmps).run P w= .ok (pX us) w:=by
 have e:results fn tmps=(do
  let vs <- fn.results.mapM (Ud tmps)
  pure (if h:vs.size=1 then vs[0] else .tuple vs)):=by
  unfold results
  congr 2
 rw[e,Array.mapM_eq_mapM_toList]
 simp only[Sem.run_bind,Sem.run_map,h,Result.andThen_ok,Sem.run_pure]
 match us with
 | []=>rfl
 | [v]=>rfl
 | v::u::r=>simp[pX]
theorem TZ (S:St) (ps:List PM) (bx:Option (eG ps)) (s:SV) (q:List SV):xZ S ps bx [] (s::q)=none:=rfl
theorem TY (S:St) (ps:List PM) (bx:Option (eG ps)) (p:RM) (r:List RM) (s:SV) (q:List SV):xZ S ps bx (p::r) (s::q)=match AZ S p s with
 | some x=>match xZ S ps bx r q with
  | some y=>some (x,y)
  | none=>none
 | none=>none:=rfl
theorem Vk (S:St) (ps:List PM) (bx:Option (eG ps)) (p:RM) (r:List RM):xZ S ps bx (p::r) []=none:=rfl
theorem VA {s:SV} {c:CV} {v:Value} (hc:qF s=some c) (hs:bh G ρ s v):aU G ρ c v:=by
 unfold qF at hc
 split at hc
 ·cases hc;exact hs
 ·cases hc
section
variable {V:St} {ow:List (aX×Nat)} (hM:Mem C G ρ V w)
include hM
theorem Oc {l:List OT} {k n:Nat} {cs:List CV} {x:kP l} {v:Value} (hcs:look V.boxes k=some cs) (h:jw V l cs=some x) (hv:v= .pointer (some ⟨ρ.bx k,0,none⟩)) (ho:∀ q,q∈(.inl k,n)::kz (n+1) l cs->bI ow q.1=some q.2): vL G w (dW ρ ow) n l x v:=by
 obtain⟨h1,vs,T,h2,h3⟩:=hM.boxes k cs hcs
 refine⟨ρ.bx k,vs,T,hv, ?_,h2,zq hM (Gh.le_refl G) h h3 (fun q hq=>ho q (by simp[hq]))⟩
 simp only[dW,h1,afO]
 exact ho (.inl k,n) (by simp)
theorem XB {p:RM} {s:SV} {x:p.den} {v:Value} {c:Nat} {r:List RM} {q:List SV} (h:AZ V p s=some x) (hv:bh G ρ s v) (ho:∀ z,z∈mg V c (p::r) (s::q)->bI ow z.1=some z.2):Wp G w (dW ρ ow) c p x v:=by
 cases p with
 | val t=>exact kS hM.frozen (ld.nil _ _ _) h hv
 | row e t=>
  simp only[AZ] at h
  split at h
  ·rename_i cv hc
   exact qi hM (Gh.le_refl G) h (VA hc hv) (fun z hz=>ho z (by simp only[mg,hc,aeM];exact .inl hz))
  ·cases h
 | map k e=>
  simp only[AZ] at h
  split at h
  ·rename_i cv hc
   exact yB hM (Gh.le_refl G) h (VA hc hv) (fun z hz=>ho z (by simp only[mg,hc,aeM];exact .inl hz))
  ·cases h
 | box l=>
  simp only[AZ] at h
  split at h
  ·rename_i k hk
   split at h
   ·rename_i cs hcs
    exact Oc hM hcs h (QG hk hv) (fun z hz=>ho z (by simp only[mg,hk,hcs,aeM];exact .inl hz))
   ·cases h
  ·cases h
theorem XA {ps:List PM} {bx:Option (eG ps)} {args:List Value} (hbx:∀ y,bx=some y->nQ G w (dW ρ ow) 0 ps y args) (rs:List RM): ∀ {l:List SV} {y:dF ps rs} {us:List Value} (c:Nat),(∀ z,z∈mg V c rs l->bI ow z.1=some z.2)->xZ V ps bx rs l=some y->aF (bh G ρ) l us->kF G w (dW ρ ow) ps args c rs y us:=by
 induction rs with
 | nil=>
  intro l y us c _ h hv
  cases l with
  | nil=>exact⟨hv,hbx y h⟩
  | cons s q=>rw[TZ] at h;cases h
 | cons p r ih=>
  intro l y us c ho h hv
  cases l with
  | nil=>rw[Vk] at h;cases h
  | cons s q=>
   obtain⟨v,us',e',hs,hq⟩:=hv
   subst e'
   rw[TY] at h
   split at h
   ·rename_i x hx
    split at h
    ·rename_i z hz
     cases h
     refine⟨v,us',rfl,XB hM hx hs ho,ih (c+1) (fun t ht=>ho t ?_) hz hq⟩
     cases p<;>simp only[mg,aeM]<;>first | exact .inr ht | exact ht
    ·cases h
   ·cases h
theorem oK:∀ {ps:List PM} {i:Nat} {y:eG ps} {vs:List Value},ou V i ps=some y->(∀ z,z∈ku V i ps->bI ow z.1=some z.2)->fC ρ i ps vs->nQ G w (dW ρ ow) i ps y vs
 | [],i,y,vs,_,_,_=>trivial
 | .val _::r,i,y,vs,h,ho,hp=>oK (ps:=r) h ho hp
 | .row _ _::r,i,y,vs,h,ho,hp=>oK (ps:=r) h ho hp
 | .arR _::r,i,y,vs,h,ho,hp=>oK (ps:=r) h ho hp
 | .mrow e t::r,i,y,vs,h,ho,⟨⟨hp1,hp2⟩,hp⟩=>by
  simp only[ou] at h
  split at h
  ·rename_i x z hx hz
   cases h
   have:=qi (ow:=ow) (n:=64*i) hM (Gh.le_refl G) hx (v:=ρ.rw (pid i 0)) ⟨rfl,hp2⟩ (fun q hq=>ho q (by
    simp only[mT,ae0] at hq
    subst hq;simp[ku]))
   exact⟨⟨_,hp1,this.1,this.2⟩,oK (ps:=r) hz (fun q hq=>ho q (by simp[ku,hq])) hp⟩
  ·cases h
 | .map kk vv::r,i,y,vs,h,ho,⟨⟨hp1,hp2⟩,hp⟩=>by
  simp only[ou] at h
  split at h
  ·rename_i x z hx hz
   cases h
   obtain⟨b,h1,h2,h3⟩:=yB (ow:=ow) (n:=64*i) hM (Gh.le_refl G) hx (v:=ρ.ob (pid i 0)) ⟨rfl,hp2⟩ (fun q hq=>ho q (by
    simp only[mT,ae0] at hq
    subst hq;simp[ku]))
   exact⟨⟨b,by rw[hp1,h1],h2,h3⟩,oK (ps:=r) hz (fun q hq=>ho q (by simp[ku,hq])) hp⟩
  ·cases h
 | .box l::r,i,y,vs,h,ho,⟨hp1,hp⟩=>by
  simp only[ou] at h
  split at h
  ·rename_i cs hcs
   split at h
   ·rename_i x z hx hz
    cases h
    refine⟨⟨_,hp1,Oc hM hcs hx rfl (fun q hq=>ho q ?_)⟩,oK (ps:=r) hz (fun q hq=>ho q ?_) hp⟩
    ·simp only[ku,hcs,adV,aeP,aeM]
     rcases aeP.1 hq with hq | hq
     ·exact .inl hq
     ·exact .inr (.inl hq)
    ·simp only[ku,hcs,adV,aeP,aeM]
     exact .inr (.inr hq)
   ·cases h
  ·cases h
 | .ar t::r,i,y,vs,h,ho,hp=>by
  simp only[ou] at h
  split at h
  ·rename_i x z hx hz
   cases h
   obtain⟨f,hl,hf⟩:=rH hx
   have:=hf rfl
   subst this
   obtain⟨_,h1,h2,h3⟩:=hM.objs bz _ hl
   refine⟨⟨h1,h2,fun n z hz=> ?_⟩,oK (ps:=r) hz (fun q hq=>ho q (by simp[ku,hq])) hp⟩
   obtain⟨b,vs,T,g1,g2,g3,g4,g5⟩:=h3 n z hz
   refine⟨b,vs,T,g1,nofun,fun _=> ?_,g4,g5⟩
   have:=g3 rfl
   simp only[dW,this,afO]
   exact ho (.ob bz,64*i) (by simp[ku])
  ·cases h
end
end Go.Dn
namespace Go.Dn
variable {X:Cx}
section
variable {G G':Gh} {w:World} {ow:Nat->Option Nat} (hG:∀ b o,G b=some o->G' b=some o)
include hG
theorem bX.aW {t:Ty} {x:t.den} {v:Value} (hn:t.aW=true) (h:bX G t x v):bX G' t x v:=by
 cases t with
 | st t=>obtain⟨vs,e,hv⟩:=h;exact⟨vs,e,aB.aW hG t x vs (by simpa [Ty.aW] using hn) hv⟩
 | _=>exact aB.aW hG _ x _ hn h
theorem mB.aW {e:TypeId} {t:Ty} {l:List t.den} {v:Value} (hn:t.aW=true) (h:mB G w e t l v):mB G' w e t l v:=by
 obtain⟨xs,h1,h2⟩:=h
 exact⟨xs,h1,h2.mono fun x cs=>aB.aW hG t x cs hn⟩
theorem nE.aW {k v:Ty} {l:List (k.den×v.den)} {b:Nat} (hk:k.aW=true) (hv:v.aW=true) (h:nE G w k v l b):nE G' w k v l b:=by
 obtain⟨es,clock,h1,h2,h3⟩:=h
 exact⟨es,clock,h1,h2.mono fun x y hxy=>⟨hxy.1.aW hG hk,hxy.2.aW hG hv⟩,h3⟩
def EO (l:List OT):Bool:=l.all fun | .val t=>t.aW | .row _ t=>t.aW | .map k v=>k.aW&&v.aW
theorem yt.aW:∀ {l:List OT} {n:Nat} {x:kP l} {vs:List Value},EO l=true->yt G w ow n l x vs->yt G' w ow n l x vs
 | [],_,_,_,_,h=>h
 | .val t::r,n,x,vs,hn,⟨a,b,e,h1,h2⟩=>by
  simp only[EO,adP,adf] at hn
  exact⟨a,b,e,aB.aW hG t x.1 a hn.1 h1,yt.aW hn.2 h2⟩
 | .row _ t::r,n,x,vs,hn,⟨a,b,e,⟨v,e2,h1,h3⟩,h2⟩=>by
  simp only[EO,adP,adf] at hn
  exact⟨a,b,e,⟨v,e2,h1.aW hG hn.1,h3⟩,yt.aW hn.2 h2⟩
 | .map k v::r,n,x,vs,hn,⟨a,b,e,⟨bb,e2,h1,h3⟩,h2⟩=>by
  simp only[EO,adP,adf] at hn
  exact⟨a,b,e,⟨bb,e2,h1,h3.aW hG hn.1.1 hn.1.2⟩,yt.aW hn.2 h2⟩
theorem vL.aW {l:List OT} {n:Nat} {x:kP l} {v:Value} (hn:EO l=true) (h:vL G w ow n l x v):vL G' w ow n l x v:=by
 obtain⟨b,vs,T,h1,h2,h3,h4⟩:=h
 exact⟨b,vs,T,h1,h2,h3,h4.aW hG hn⟩
theorem gu.aW:∀ {ps:List PM} {i:Nat} {x:gh ps} {vs:List Value},dO ps=true->gu G w ow i ps x vs->gu G' w ow i ps x vs
 | [],_,_,_,_,h=>h
 | .val t::r,i,x,vs,hn,⟨v,us,h1,h2,h3,h4⟩=>by
  simp only[dO,adf] at hn
  exact⟨v,us,h1,h2,bX.aW hG hn.1 h3,gu.aW hn.2 h4⟩
 | .row _ t::r,i,x,vs,hn,⟨v,us,h1,h2,⟨h3,h3'⟩,h4⟩=>by
  simp only[dO,adf] at hn
  exact⟨v,us,h1,h2,⟨h3.aW hG hn.1,h3'⟩,gu.aW hn.2 h4⟩
 | .mrow _ t::r,i,x,vs,hn,⟨v,us,h1,h2,⟨h3,h3'⟩,h4⟩=>by
  simp only[dO,adf] at hn
  exact⟨v,us,h1,h2,⟨h3.aW hG hn.1,h3'⟩,gu.aW hn.2 h4⟩
 | .map _ _::r,i,x,vs,hn,⟨v,us,h1,h2,⟨b,h3,h3',h5⟩,h4⟩=>by
  simp only[dO,adf] at hn
  exact⟨v,us,h1,h2,⟨b,h3,h3',h5.aW hG hn.1.1 hn.1.2⟩,gu.aW hn.2 h4⟩
 | .box l::r,i,x,vs,hn,⟨v,us,h1,h2,h3,h4⟩=>by
  simp only[dO,adf] at hn
  exact⟨v,us,h1,h2,vL.aW hG hn.1 h3,gu.aW hn.2 h4⟩
 | .ar _::r,i,x,vs,hn,_=>by simp[dO] at hn
 | .arR _::r,i,x,vs,hn,_=>by simp[dO] at hn
theorem nQ.aW:∀ {ps:List PM} {i:Nat} {x:eG ps} {vs:List Value},dO ps=true->nQ G w ow i ps x vs->nQ G' w ow i ps x vs
 | [],_,_,_,_,h=>h
 | .val t::r,i,x,vs,hn,h=>by
  simp only[dO,adf] at hn
  exact nQ.aW (ps:=r) hn.2 h
 | .row _ t::r,i,x,vs,hn,h=>by
  simp only[dO,adf] at hn
  exact nQ.aW (ps:=r) hn.2 h
 | .mrow _ t::r,i,x,vs,hn,⟨⟨v,h1,h2,h3⟩,h4⟩=>by
  simp only[dO,adf] at hn
  exact⟨⟨v,h1,h2.aW hG hn.1,h3⟩,nQ.aW hn.2 h4⟩
 | .map _ _::r,i,x,vs,hn,⟨⟨b,h1,h2,h3⟩,h4⟩=>by
  simp only[dO,adf] at hn
  exact⟨⟨b,h1,h2,h3.aW hG hn.1.1 hn.1.2⟩,nQ.aW hn.2 h4⟩
 | .box l::r,i,x,vs,hn,⟨⟨v,h1,h2⟩,h4⟩=>by
  simp only[dO,adf] at hn
  exact⟨⟨v,h1,vL.aW hG hn.1 h2⟩,nQ.aW hn.2 h4⟩
 | .ar _::r,i,x,vs,hn,_=>by simp[dO] at hn
 | .arR _::r,i,x,vs,hn,_=>by simp[dO] at hn
theorem kF.aW {ps:List PM} {args:List Value} (hp:dO ps=true):∀ {rs:List RM} {c:Nat} {y:dF ps rs} {vs:List Value},qm rs=true->kF G w ow ps args c rs y vs->kF G' w ow ps args c rs y vs
 | [],_,_,_,_,h=>⟨h.1,h.2.aW hG hp⟩
 | .val t::r,c,y,vs,hn,⟨v,us,h1,h2,h3⟩=>by
  simp only[qm,adf] at hn
  exact⟨v,us,h1,bX.aW hG hn.1 h2,kF.aW hp hn.2 h3⟩
 | .row _ t::r,c,y,vs,hn,⟨v,us,h1,⟨h2,h2'⟩,h3⟩=>by
  simp only[qm,adf] at hn
  exact⟨v,us,h1,⟨h2.aW hG hn.1,h2'⟩,kF.aW hp hn.2 h3⟩
 | .map _ _::r,c,y,vs,hn,⟨v,us,h1,⟨b,h2,h2',h4⟩,h3⟩=>by
  simp only[qm,adf] at hn
  exact⟨v,us,h1,⟨b,h2,h2',h4.aW hG hn.1.1 hn.1.2⟩,kF.aW hp hn.2 h3⟩
 | .box l::r,c,y,vs,hn,⟨v,us,h1,h2,h3⟩=>by
  simp only[qm,adf] at hn
  exact⟨v,us,h1,vL.aW hG hn.1 h2,kF.aW hp hn.2 h3⟩
end
theorem jj:∀ (ps:List PM) (i:Nat) (x:gh ps),(jx i ps x).length=wu ps
 | [],_,_=>rfl
 | .val _::r,i,x=>by simp[jx,wu,PM.arg,jj r];omega
 | .row _ _::r,i,x=>by simp[jx,wu,PM.arg,jj r];omega
 | .mrow _ _::r,i,x=>by simp[jx,wu,PM.arg,jj r];omega
 | .map _ _::r,i,x=>by simp[jx,wu,PM.arg,jj r];omega
 | .box _::r,i,x=>by simp[jx,wu,PM.arg,jj r];omega
 | .ar _::r,i,x=>by simp[jx,wu,PM.arg,jj r]
 | .arR _::r,i,x=>by simp[jx,wu,PM.arg,jj r]
theorem pq:∀ {ps:List PM} {i:Nat} {x:gh ps} {t:Ty} {l:List t.den},iP ps=false->look (gq i ps x) bz≠some (.ar false t l)
 | [],i,x,t,l,_=>by simp[gq,look]
 | .val _::r,i,x,t,l,h=>pq (ps:=r) h
 | .row _ _::r,i,x,t,l,h=>pq (ps:=r) h
 | .mrow _ _::r,i,x,t,l,h=>pq (ps:=r) h
 | .map _ _::r,i,x,t,l,h=>by
  simp only[gq,ax]
  split
  ·simp
  ·exact pq (ps:=r) h
 | .box _::r,i,x,t,l,h=>by
  simp only[gq,cT]
  intro e
  rcases or_some e with e | ⟨_,e⟩
  ·obtain⟨_,_,_,e'⟩:=sO e;cases e'
  ·exact pq (ps:=r) h e
 | .ar _::r,i,x,t,l,h=>by simp[iP] at h
 | .arR _::r,i,x,t,l,h=>by
  simp only[gq,ax]
  split
  ·intro e;cases e
  ·exact pq (ps:=r) h
theorem Xr {ps:List PM} (h:dO ps=true):iP ps=false:=by
 induction ps with
 | nil=>rfl
 | cons p r ih=>cases p<;>simp only[dO,adf] at h<;>first | exact ih h.2 | cases h
theorem Tu (hX:bY X) (hmix:X.P.follows .mixedOrders=true) {f:FuncId} {fn:Func} (sp:av) (anns:List (Nat×Ann)) (ar:Option Ty) (hf:X.P.funcs[f]? =some fn) {G:Gh} {w:World} {ow:Nat->Option Nat} {args:List Value} {x:gh sp.ps} {y:dF sp.ps sp.rs} (hT:jf X.P G) (hG:Agr G w) (how:∀ b i,ow b=some i->G b=none/\b<w.heap.size) (hargs:gu G w ow 0 sp.ps x args) (har:ar.isSome=true->G.hnd=(fun _=>none)/\iP sp.ps=false/\dO sp.ps=true) (hN:LP X anns ar fn sp x=some y): Calls X.P f args.toArray w fun e w'=>∃ G' ow' vs,e= .returned (pX vs)/\G.le G'/\Agr G' w'/\w.heap.size<=w'.heap.size/\w'.os=w.os/\w'.output=w.output/\ (∀ b,b<w.heap.size->ow b=none->w'.heap[b]? =w.heap[b]? /\G' b=G b)/\(∀ b i,ow' b=some i->G' b=none/\b<w'.heap.size/\(w.heap.size<=b\/ow b≠none))/\kF G' w' ow' sp.ps args 0 sp.rs y vs/\(iP sp.ps=false->ar=none->G'.hnd=G.hnd):=by
 unfold LP at hN
 split at hN
 ·cases hN
 ·rename_i hcond
  simp only[adu,agk,adp] at hcond
  obtain⟨⟨hdO,hdC⟩,hnoh⟩:=hcond
  split at hN
  ·rename_i c hc
   obtain⟨vals,hvals,hpt,hst⟩:=mC hargs
   let pv:Nat->Value:=fun k=>match cR vals (.inr k) with | some v=>v | none=>(cR vals (.ob k)).getD undef
   let ρ:Env:=⟨fun k=>match cR vals (.inl k) with | some v=>JE v | none=>0,pv,fun b=>(ow b).bind (mc (dN 0 sp.ps)),pv,fun k=>Dc w (pv k)⟩
   have hA:∀ o v,(o,v)∈vals->Asg ρ w o v:=fun o v hm=>by
    have hl:=IL hvals hdO hm
    cases o with
    | inl k=>
     obtain⟨b,hb⟩:=hpt k v hm
     show v= .pointer (some ⟨match cR vals (.inl k) with | some v=>JE v | none=>0,0,none⟩)
     rw[hl,hb];rfl
    | inr j=>show (match cR vals (.inr j) with | some v=>v | none=>_)=v;rw[hl]
    | ob j=>
     intro b hb
     subst hb
     have hnr:cR vals (.inr j)=none:=by
      cases h1:cR vals (.inr j) with
      | none=>rfl
      | some v'=>
       obtain⟨n1,m1⟩:=F7 hvals (by rw[h1];simp)
       obtain⟨n2,m2⟩:=F7 hvals (o:= .ob j) (by rw[hl];simp)
       rcases xm m1 with ⟨k,e⟩ | e | e
       ·cases e
       ·cases e
       ·rcases xm m2 with ⟨k,e'⟩ | e' | e'
        ·cases e'
        ·cases e'
         rcases e with e | e
         ·have:bz=nid pD 0 0+n1:=by simpa using e
          simp only[bz,pD,nid] at this;omega
         ·cases e
        ·have h1:j=nid pD 0 0+n1:=by rcases e with e | e<;>cases e;rfl
         have h2:j=nid pD 0 0+n2:=by rcases e' with e' | e'<;>cases e';rfl
         have:n1=n2:=by omega
         subst this
         have:=UC hdC m1 m2
         cases this
     have hpv:pv j= .map (some b):=by
      show (match cR vals (.inr j) with | some v=>v | none=>(cR vals (.ob j)).getD undef)=_
      rw[hnr,hl];rfl
     refine⟨hpv,fun es clock hw i e' hi=> ?_⟩
     show (e'.born:Int)=Dc w (pv j) i
     rw[hpv]
     simp[Dc,hw,hi]
   have hO:∀ o n,(o,n)∈dN 0 sp.ps->∀ b,ow b=some n->ρ.own b=some o:=fun o n hm b hb=>by
    show (ow b).bind (mc (dN 0 sp.ps))=_
    rw[hb];exact xR hdC hm
   obtain⟨hsv,hP,hpins⟩:=hst ρ hA hO
   let C:Fr X.P:=⟨w.heap.size,ρ.bx,pv,fun b=>ow b≠none,w,G,iP sp.ps=false/\ar=none,hT⟩
   have hlen:args.length=wu sp.ps:=by rw[hsv.len,jj]
   have hM:Mod C G ρ (Iz fn.ntmps ar sp.ps x) w { tmps:=args.toArray++Array.replicate (fn.ntmps - args.toArray.size) undef,defers:=[] }:=by
    refine { agr:=hG,le0:=Gh.le_refl G,old:=fun _ _ _=>rfl,frame:=fun _ _ _=>rfl,size:=aft _,os:=rfl,output:=rfl,pin:=fun _ _=>rfl,pinR:=fun _ _=>⟨rfl,rfl⟩,owned:= ?_,boxes:=hP.bx,rows:=hP.rw,objs:= ?_,hndI:= ?_,tmps:=⟨?_, ?_⟩,defers:=rfl }
    ·intro b o ho
     cases hb:ow b with
     | none=>
      have ho':(ow b).bind (mc (dN 0 sp.ps))=some o:=ho
      rw[hb] at ho';cases ho'
     | some i=>exact⟨(how b i hb).1,(how b i hb).2,.inr (by show ow b≠none;rw[hb];simp)⟩
    ·intro j q hj
     cases ar with
     | none=>exact hP.ob j q hj
     | some t=>
      simp only[Iz,ax] at hj
      split at hj
      ·rename_i ej
       subst ej
       cases hj
       obtain⟨h1,_⟩:=har rfl
       refine⟨rfl,fun i b hb=>(by rw[h1] at hb;cases hb),fun i i' b hb=>(by rw[h1] at hb;cases hb),fun i z hz=>by simp at hz⟩
      ·exact hP.ob j q hj
    ·rintro⟨h1,h2⟩
     refine⟨rfl,fun t l=> ?_⟩
     subst h2
     exact pq h1
    ·simp[Iz,jj,hlen]
    ·intro i s hi
     simp only[Iz] at hi
     rw[aeb] at hi
     rw[acZ,Array.getElem?_append]
     split at hi
     ·rename_i hlt
      obtain⟨v,hv,hsv'⟩:=hsv.get hi
      rw[jj] at hlt
      rw[age (by simpa [hlen] using hlt)]
      simpa [hv] using hsv'
     ·rw[List.getElem?_replicate] at hi
      split at hi
      ·cases hi;exact trivial
      ·cases hi
   refine calls_of_wp hf hc (Bn (C:=C) hX hmix anns c hN (fun e S' G' ρ' w' a' hk hM'=> ?_) hM)
   have key:ends X fn sp S'=some y->a'.defers=[]/\∃ v,(results fn a'.tmps).run X.P w'= .ok v w'/\∃ G' ow' vs,Ending.returned v= .returned (pX vs)/\G.le G'/\Agr G' w'/\w.heap.size<=w'.heap.size/\w'.os=w.os/\w'.output=w.output/\
    (∀ b,b<w.heap.size->ow b=none->w'.heap[b]? =w.heap[b]? /\G' b=G b)/\(∀ b i,ow' b=some i->G' b=none/\b<w'.heap.size/\(w.heap.size<=b\/ow b≠none))/\kF G' w' ow' sp.ps args 0 sp.rs y vs/\(iP sp.ps=false->ar=none->G'.hnd=G.hnd):=by
    intro hk
    unfold ends at hk
    have hI:∃ G1 ρ1,Mod C G1 ρ1 (CG X fn sp.rs S') w' a':=by
     unfold CG
     split
     ·exact Mod.iL _ hM'
     ·exact⟨_,_,hM'⟩
    generalize CG X fn sp.rs S'=S' at hk hI
    obtain⟨G',ρ',hM'⟩:=hI
    refine⟨hM'.defers, ?_⟩
    unfold aaQ at hk
    split at hk
    ·rename_i l hl
     simp only at hk
     split at hk
     ·cases hk
     ·rename_i hd
      obtain⟨us,hr,hus⟩:=Oo hM' hl
      generalize hjs:DM (J7 sp.rs l)++(Sv S' sp.rs l++Su S' 0 sp.ps)=js at hk hd
      obtain⟨G2,ρ2,hfz,hM2⟩:=hM'.freeze js
      generalize hV:aG S' js=V at hk hd hM2
      generalize how':mg V 0 sp.rs l++ku V 0 sp.ps=owl at hk hd
      have hd':vS owl=false:=by simpa using hd
      have hus2:aF (bh G2 ρ2) l us:=hus.mono fun s v hs=>bh.congr hfz.le (kG.same hfz.bx hfz.rw hfz.ob hfz.st) hs
      have hpins2:fC ρ2 0 sp.ps args:=hpins.congr (fun k hk=>hM2.pin k hk) (fun k hk=>hM2.pinR k hk)
      refine⟨_,KY hr,G2,dW ρ2 owl,us,rfl,hM2.le0,hM2.agr,hM2.size,hM2.os,hM2.output,fun b hb ho=>⟨hM2.frame b hb (by show ¬ ow b≠none;simp[ho]),hM2.old b hb (by show ¬ ow b≠none;simp[ho])⟩,fun b i hb=> ?_, ?_,fun h1 h2=>(hM2.hndI ⟨h1,h2⟩).1⟩
      ·unfold dW at hb
       cases ho:ρ2.own b with
       | none=>rw[ho] at hb;cases hb
       | some o=>exact hM2.owned b o ho
      ·refine XA hM2.toMem (fun y' hy'=>oK hM2.toMem hy' (fun z hz=>wo hd' (by rw[<- how'];simp[hz])) hpins2) sp.rs 0 (fun z hz=>wo hd' (by rw[<- how'];simp[hz])) hk hus2
    ·cases hk
   cases e with
   | normal=>exact key hk
   | ret=>exact key hk
   | exit id=>cases hk
  ·cases hN
theorem Tv (hX:bY X) (hmix:X.P.follows .mixedOrders=true) {f:FuncId} {fn:Func} (sp:av) (anns:List (Nat×Ann)) (ar:Option Ty) (hf:X.P.funcs[f]? =some fn) (h:∀ x y,sp.m x=some y->LP X anns ar fn sp x=some y):ig X.P f sp:=by
 intro G w ow args x y hG how hargs hm hT
 have hN:=h x y hm
 cases ar with
 | none=>
  refine (Tu hX hmix sp anns none hf hT hG how hargs (fun e=>by cases e) hN).mono ?_
  rintro e w' ⟨G',ow',vs,h1,h2,h3,h4,h5,h6,h7,h8,h9,h10⟩
  exact⟨G',ow',vs,h1,h2,h3,h4,h5,h6,h7,h8,h9,fun h=>h10 h rfl⟩
 | some t=>
  have hN0:=hN
  unfold LP at hN0
  split at hN0
  ·cases hN0
  ·rename_i hcond
   simp only[adu,agk,adp,Option.isSome_some,adv,ado,adf] at hcond
   obtain⟨_,hpn,hrn⟩:=hcond
   let G0:Gh:=⟨G.blk,fun _=>none⟩
   have hargs0:gu G0 w ow 0 sp.ps x args:=gu.aW (G:=G) (G':=G0) (fun _ _ h=>h) hpn hargs
   refine (Tu hX hmix sp anns (some t) hf (G:=G0) ⟨hT.pow,hT.maxLen⟩ hG how hargs0 (fun _=>⟨rfl,Xr hpn,hpn⟩) hN).mono ?_
   rintro e w' ⟨G',ow',vs,h1,h2,h3,h4,h5,h6,h7,h8,h9,h10⟩
   refine⟨⟨G'.blk,G.hnd⟩,ow',vs,h1,⟨h2.blk,fun _ _ h=>h⟩,h3,h4,h5,h6,h7,h8,kF.aW (G:=G') (G':=⟨G'.blk,G.hnd⟩) (fun _ _ h=>h) hpn hrn h9,fun _=>rfl⟩
end Go.Dn
namespace Go.Dn
def w64 (n:Int):Int:=IntKind.wrap .i64 n
def tI:Ty:= .int .i64
def cy (n:Int):Int:=IntKind.wrap .u64 n
def kj (n:Int):Int:=IntKind.wrap .u32 n
def wu8 (n:Int):Int:=IntKind.wrap .u8 n
def Ty.fu:(t:Ty)->t.den->Nat->Nat
 | .int _,n,a=>Int.natAbs n+a
 | .bool,_,a=>a
 | .str,s,a=>List.length s+a
 | .unit,_,a=>a
 | .pair s t,x,a=>s.fu x.1 (t.fu x.2 a)
 | .st t,x,a=>t.fu x a
 | .slice _,l,a=>List.length l+a
 | .ptr t,x,a=>t.fu x a
 | .clo _ _,_,a=>a
 | .hnd,_,a=>a
def bg:(cs:List CK)->cZ cs->Nat
 | [],_=>2
 | .val t::r,x=>t.fu x.1 (bg r x.2)
 | .own _ _::r,x=>x.1.length+bg r x.2
 | .map _ _::r,x=>x.1.length+bg r x.2
 | .ref _ _::r,x=>bg r x
 | .fn _ _::r,x=>bg r x
 | .ar _::r,x=>x.1.length+bg r x.2
 | .arF _::r,x=>bg r x.2
 | .rowR _::r,x=>bg r x
 | .rpR _ _::r,x=>bg r x.2
 | .mapR _::r,x=>bg r x
 | .rowC _ _ _::r,x=>x.1.length+bg r x.2
 | .mapC _ _ _::r,x=>x.1.length+bg r x.2
theorem fk {X β:Type} (n:Nat) (x:X) (f:X->(X->Option β)->Option β):iter (n+1) x f=f x fun y=>iter n y f:=rfl
end Go.Dn
namespace Go.Dn
theorem Vb {P:Program} {f:FuncId} {m:gh [.val .str,.val .str]->Option (dF [.val .str,.val .str] [.val .str])} (h:∀ (s c r:List UInt8) (w:World),m (s,c,())=some (r,())->Calls P f #[.string (bs s),.string (bs c)] w fun e w'=>e= .returned (.string (bs r))/\RowKit.Below w.heap.size w w'):ig P f ⟨[.val .str,.val .str],[.val .str],m⟩:=by
 intro G w ow args x y hG how ha hm _
 obtain⟨s,c,u⟩:=x
 obtain⟨r,u'⟩:=y
 obtain⟨v,us,h1,_,hv,v',us',h2,_,hv',h3⟩:=ha
 have e1:=h1 rfl
 have e2:=h2 rfl
 have e3:us'=[]:=h3
 have e4:v= .string (bs s):=by simpa [Fb,bX,aB] using hv
 have e5:v'= .string (bs c):=by simpa [Fb,bX,aB] using hv'
 subst e1;subst e2;subst e3;subst e4;subst e5
 refine (h s c r w hm).mono ?_
 rintro e w' ⟨he,hb⟩
 refine⟨G,fun _=>none,[.string (bs r)], ?_⟩
 exact {
  ret:=he
  le:=Gh.le_refl G
  agr:=fun b o hbo=>by
   have hw:=hG b o hbo
   have hlt:b<w.heap.size:=by
    rcases afy b w.heap.size with h | h
    ·exact h
    ·rw[Array.getElem?_eq_none h] at hw;cases hw
   rw[hb.block b hlt];exact hw
  size:=hb.size
  os:=hb.os
  output:=hb.output
  old:=fun b hlt _=>⟨hb.block b hlt,rfl⟩
  own:=fun b i hbi=>by cases hbi
  out:=⟨_,_,rfl,rfl,rfl,trivial⟩
  hnd:=fun _=>rfl }
end Go.Dn
namespace Go.Dn
theorem bY.nil (P:Program):bY ⟨P,[],[]⟩:=⟨nofun,nofun⟩
theorem bY.cons {P:Program} {f:FuncId} {sp:av} {l:List (Nat×av)} {ks:List (Nat×tg)} (h:ig P f sp) (hb:fe P f) (r:bY ⟨P,l,ks⟩):bY ⟨P,(f,sp)::l,ks⟩:=by
 refine⟨fun g sp' hg=> ?_,r.key⟩
 rcases aeP.1 hg with e | e
 ·cases e;exact⟨h,hb⟩
 ·exact r.fn g sp' e
theorem bY.WJ {P:Program} {f:FuncId} {kf:tg} {l:List (Nat×av)} {ks:List (Nat×tg)} (h:Cs P f kf) (hb:fe P f) (r:bY ⟨P,l,ks⟩):bY ⟨P,l,(f,kf)::ks⟩:=by
 refine⟨r.fn,fun g k' hg=> ?_⟩
 rcases aeP.1 hg with e | e
 ·cases e;exact⟨h,fun _=>hb⟩
 ·exact r.key g k' e
theorem bY.acy {P:Program} {f:Nat} {l:List (Nat×av)} {ks:List (Nat×tg)} (r:bY ⟨P,l,ks⟩):bY ⟨P,l,(f,.own)::ks⟩:=by
 refine⟨r.fn,fun g k' hg=> ?_⟩
 rcases aeP.1 hg with e | e
 ·cases e;exact⟨trivial,fun h=>absurd rfl h⟩
 ·exact r.key g k' e
theorem jW {P:Program} {f:FuncId} {fn:Func} (h:P.funcs[f]? =some fn) (hb:fn.body.isSome=true) (hn:fn.name≠ "runtime.NumGoroutine"):fe P f:=⟨fn,h,hb,hn⟩
end Go.Dn
namespace Go.Dn
open Go.Proofs Go.Shelf
theorem ke (b:Nat) (e:TypeId):∀ (vs:List Value) (o:Nat) (w:World) (cur:Array Value),w.heap[b]? =some (.cells cur e (0,0))->o+vs.length<=cur.size-> ∃ cur':Array Value,(w.setCells b o vs).heap[b]? =some (.cells cur' e (0,0))/\cur'.toList=cur.toList.take o++(vs++cur.toList.drop (o+vs.length))
 | [],o,w,cur,h,_=>⟨cur,h,by simp⟩
 | v::r,o,w,cur,h,hl=>by
  have h1:(w.setCell ⟨b,o,none⟩ v).heap[b]? =some (.cells (cur.setIfInBounds o v) e (0,0)):=by
   simp only[World.setCell,ac2,agf,h,afU]
   rfl
  have hlen:o<cur.size:=by simp at hl;omega
  obtain⟨cur',h2,h3⟩:=ke b e r (o+1) _ _ h1 (by simp at hl ⊢;omega)
  refine⟨cur',h2, ?_⟩
  rw[h3]
  simp only[Array.toList_setIfInBounds]
  rw[List.take_set,List.drop_set_of_lt (by omega)]
  have hlt:o<cur.toList.length:=by simpa using hlen
  have e1:(cur.toList.take (o+1)).set o v=cur.toList.take o++[v]:=by
   rw[List.take_succ_eq_append_getElem hlt,List.set_append_right _ _ (by simp;omega)]
   congr 1
   rw[aeH,afC (by omega)];simp
  rw[e1]
  simp only[aew,adT,adV,ae2]
  rw[show o+1+r.length=o+(r.length+1) by omega]
theorem mm (b:Nat):∀ (vs:List Value) (o:Nat) (w:World),(w.setCells b o vs).os=w.os/\(w.setCells b o vs).output=w.output/\(w.setCells b o vs).heap.size=w.heap.size/\∀ k,k≠b->(w.setCells b o vs).heap[k]? =w.heap[k]?
 | [],o,w=>⟨rfl,rfl,rfl,fun _ _=>rfl⟩
 | v::r,o,w=>by
  obtain⟨h1,h2,h3,h4⟩:=mm b r (o+1) (w.setCell ⟨b,o,none⟩ v)
  refine⟨h1,h2,h3.trans (by simp),fun k hk=>(h4 k hk).trans ?_⟩
  simp only[World.setCell,ac2]
  rw[agd (fun e=>hk e.symm)]
section
variable {P:Program} {G:Gh} {w w':World} {ow:Nat->Option Nat} {e:TypeId}
end
end Go.Dn
namespace Go.Dn
end Go.Dn
namespace Go.Dn
end Go.Dn
namespace Go.Dn
open Go.ChangeShapes Go.WideShapes Go.ChangeAt Go.RowKit
def Fits (P:Program):Nat->TypeId->Ty->Bool
 | 0,_,_=>false
 | d+1,T,t=>match P.underlying T,t with
  | some (.int k),.int k'=>decide (k=k')
  | some .bool,.bool=>true
  | some .string,.str=>true
  | some (.slice e),.slice t=>Nat.ble 1 t.size&&(Nat.beq (P.cellsOf e) t.size&&Fits P d e t)
  | some (.struct fs),.st t=>Nat.beq (P.cellsOf T) t.size&&fitsF (Fits P d) P fs.toList 0 t
  | _,_=>false
where
 fitsF (g:TypeId->Ty->Bool) (P:Program):List Field->Nat->Ty->Bool
 | [],_,_=>false
 | [f],off,t=>Nat.beq f.offset off&&(Nat.beq (P.cellsOf f.type) t.size&&g f.type t)
 | f::r,off,.pair a b=>Nat.beq f.offset off&&(Nat.beq (P.cellsOf f.type) a.size&&(g f.type a&&fitsF g P r (off+a.size) b))
 | _,_,_=>false
def Gw (w:World):Gh:=⟨fun b=>w.heap[b]?,fun _=>none⟩
theorem abM (w:World):Agr (Gw w) w:=fun _ _ h=>h
theorem Ky {w:World} {base:Nat} {a:Addr} {n:Nat} {cs:List Value} (hn:0<n) (h:w.cells? base a n=some cs): ∃ c T fz,a.spot=none/\w.heap[a.block]? =some (.cells c T fz)/\a.off+n<=c.size/\cs=(c.toList.drop a.off).take n:=by
 obtain⟨_,hl,hc⟩:=World.cells?_some h
 have h0:=hc 0 hn
 have hlt:0<cs.length:=by omega
 rw[aeh hlt,show a.add 0=a from rfl] at h0
 unfold World.cell? at h0
 split at h0
 ·rename_i c T fz hb
  split at h0
  ·cases h0
  ·rename_i hs
   have hspot:a.spot=none:=by simpa using hs
   have hall:∀ i,i<n->c[a.off+i]? =cs[i]? :=by
    intro i hi
    have:=hc i hi
    rw[<- this]
    unfold World.cell? Addr.add
    by_cases h:i=0
    ·subst h;simp[hb,hspot]
    ·simp[h,hb]
   refine⟨c,T,fz,hspot,hb, ?_, ?_⟩
   ·have h1:=hall (n - 1) (by omega)
    rw[aeh (show n - 1<cs.length by omega)] at h1
    have:=(ac1.1 h1).1
    omega
   ·apply ad6
    intro i
    rw[aeq,aeg]
    by_cases hi:i<n
    ·rw[age hi, <- hall i hi];simp
    ·rw[agd hi,aei (by omega)]
 ·cases h0
section
variable {H:Type} {enc:TypeId×Value->H} {P:Program} {w:World} {base:Nat} {spare:Nat->Bool} {held:Bool}
theorem Wf {α:Type} {R:α->List Value->Prop} {sz:Nat} {c:List Value} {y:Nat->α} (off:Nat):∀ n,off+n*sz<=c.length->(∀ i,i<n->R (y i) ((c.drop (off+i*sz)).take sz))->bN R ((List.range n).map y) ((c.drop off).take (n*sz))
 | 0,_,_=>by simp[bN]
 | n+1,hle,h=>by
  rw[List.range_succ,aeI,List.map_singleton]
  have e:(c.drop off).take ((n+1)*sz)=(c.drop off).take (n*sz)++(c.drop (off+n*sz)).take sz:=by
   rw[afl,Nat.one_mul,List.take_add,adZ]
  rw[e]
  refine bN.append (Wf off n (by rw[afl] at hle;omega) fun i hi=>h i (by omega)) ?_
  exact⟨_,[],by simp,h n (by omega),rfl⟩
end
def pms:List Ty->List PM
 | []=>[]
 | t::r=> .val t::pms r
def JK (P:Program):List TypeId->List Ty->Bool
 | [],[]=>true
 | T::r,t::q=>Fits P 9 T t&&JK P r q
 | _,_=>false
end Go.Dn
namespace Go.Dn
theorem Lm {H:Type} {enc:TypeId×Value->H} {P:Program} {w:World} {base:Nat} {spare:Nat->Bool} {held:Bool}:∀ {Ts:List TypeId} {vs:List Value} {ds:List (DataW H)} {ps:List MemPlace},DataW.TrodAll enc P w base spare held Ts vs ds ps->ds.length=Ts.length
 | [],[],[],_,_=>rfl
 | _::_,_::_,_::_,_,⟨_,_,_,h,_⟩=>by rw[aew,aew,Lm h]
def aaS:Nat->DataW Unit->List Value
 | d+1,.agg l=>l.flatMap (aaS d)
 | _,.lit (.int k n)=>[.int k n]
 | _,.lit (.bool b)=>[.bool b]
 | _,_=>[]
def ab9 (P:Program) (l:List (String×DataW Unit)) (w:World):World:=
 l.foldl (fun w p=>match P.globalNamed p.1 with
  | some g=>{ w with heap:=w.heap.modify g fun
   | .cells _ t fr=> .cells (aaS 9 p.2).toArray t fr
   | o=>o }
  | none=>w) w
end Go.Dn
namespace Go.Dn
end Go.Dn
namespace Go.Dn
def Pu:(t:Ty)->t.den->Value
 | .int k,n=> .int k n
 | .bool,b=> .bool b
 | .str,s=> .string (bs s)
 | _,_=>undef
def isLit:Ty->Bool
 | .int _=>true
 | .bool=>true
 | .str=>true
 | _=>false
theorem VQ {G:Gh} {t:Ty} (ht:isLit t=true) {x:t.den} {v:Value} (h:bX G t x v):v=Pu t x:=by
 cases t<;>simp[isLit] at ht<;>simpa [bX,aB,Pu] using h
theorem Va {P:Program} {f:FuncId} {a a' t:Ty} {m:gh [.val a,.val a']->Option (dF [.val a,.val a'] [.val t])} (ha:isLit a=true) (ha':isLit a'=true) (h:∀ (s:a.den) (c:a'.den) (r:t.den) (w:World),m (s,c,())=some (r,())->∃ v,(∀ G:Gh,bX G t r v)/\Calls P f #[Pu a s,Pu a' c] w fun e w'=>e= .returned v/\RowKit.Below w.heap.size w w'):ig P f ⟨[.val a,.val a'],[.val t],m⟩:=by
 intro G w ow args x y hG how hargs hm _
 obtain⟨s,c,u⟩:=x
 obtain⟨r,u'⟩:=y
 obtain⟨v,us,h1,_,hv,v',us',h2,_,hv',h3⟩:=hargs
 have e1:=h1 rfl
 have e2:=h2 rfl
 have e3:us'=[]:=h3
 have e4:v=Pu a s:=VQ ha hv
 have e5:v'=Pu a' c:=VQ ha' hv'
 subst e1;subst e2;subst e3;subst e4;subst e5
 obtain⟨z,hz,hc⟩:=h s c r w hm
 refine hc.mono ?_
 rintro e w' ⟨he,hb⟩
 refine⟨G,fun _=>none,[z], ?_⟩
 exact {
  ret:=he
  le:=Gh.le_refl G
  agr:=fun b o hbo=>by
   have hw:=hG b o hbo
   have hlt:b<w.heap.size:=by
    rcases afy b w.heap.size with h | h
    ·exact h
    ·rw[Array.getElem?_eq_none h] at hw;cases hw
   rw[hb.block b hlt];exact hw
  size:=hb.size
  os:=hb.os
  output:=hb.output
  old:=fun b hlt _=>⟨hb.block b hlt,rfl⟩
  own:=fun b i hbi=>by cases hbi
  out:=⟨_,_,rfl,hz G,rfl,trivial⟩
  hnd:=fun _=>rfl }
end Go.Dn
namespace Go.Dn
open Go.Proofs Go.Shelf
section
variable {P:Program} {G:Gh} {w w':World} {ow:Nat->Option Nat} {e:TypeId} {t:Ty}
end
end Go.Dn
namespace Go.Dn
open Go.Lib Go.Proofs
theorem abJ {P:Program} {W:World} {rest:List (String×DataW Unit)} {g:Nat} {t e:TypeId} (hg:P.globalNamed "internal/strconv.uint64pow10" =some g) (hty:(P.globals[g]?).map (·.type)=some t) (ht:P.underlying t=some (.array 20 e)) (he:P.underlying e=some (.int .u64)) (hce:P.cellsOf e=1) (hct:P.cellsOf t=20) (h:laidMet P (("internal/strconv.uint64pow10",tabData .u64 I6)::rest) W): ∀ g,P.globalNamed "internal/strconv.uint64pow10" =some g->∃ T fz,Gw W g=some (.cells (I6.map fun z=>Value.int .u64 z).toArray T fz):=by
 intro g' hg'
 have:=tabIs_of_head hg hty ht he hce hct h
 unfold TabIs World.var? at this
 rw[hg',afO] at this
 show ∃ T fz,W.heap[g']? =_
 split at this
 ·rename_i cs T fz hh
  cases this
  exact⟨T,fz,hh⟩
 ·cases this
theorem abI {P:Program} {W:World} {g:Nat} {t:TypeId} {zero:Array Value} (h:W.ShapedOpen P) (hg:P.globalNamed "internal/bytealg.MaxLen" =some g) (hlt:g<P.globals.size) (h0:((begin P (fun _ _=>0) default).world.heap[g]?).bind Obj.row? =some (zero,t)) (hz:zero.size=1) (hb:P.buildable t=true) (hc:P.cellTypes P.depth t=some [t]) (hu:P.underlying t=some (.int .i64)): ∀ g,P.globalNamed "internal/bytealg.MaxLen" =some g->∃ n T fz,Gw W g=some (.cells #[Value.int .i64 n] T fz):=by
 intro g' hg'
 obtain rfl:g=g':=Option.some.inj (hg.symm.trans hg')
 obtain⟨m,hm⟩:=cell_of_shapedOpen_int h hlt h0 hz hb hc hu
 obtain⟨cs,hh,hs,_⟩:=h.1 g zero t hlt h0
 have h1:cs.size=1:=by omega
 refine⟨m,t,(0,0), ?_⟩
 show W.heap[g]? =_
 rw[hh]
 have:cs= #[cs[0]]:=by
  apply Array.ext
  ·simpa using h1
  ·intro i h2 h3
   have:i=0:=by omega
   subst this
   rfl
 have hcell:W.cell? ⟨g,0,none⟩=some cs[0]:=by simp[World.cell?,hh,h1]
 rw[hm] at hcell
 rw[this, <- Option.some.inj hcell]
def acD (P:Program) (u e:TypeId) (l:List (String×DataW Unit)) (w:World):World:=
 l.foldl (fun w p=>match P.globalNamed p.1,p.2 with
  | some g,.iface _ (.ptr (.agg [.lit (.string s)]))=>{ w with heap:=(w.heap.push (.cells #[.string ⟨s.toArray⟩] e (0,0))).modify g fun
   | .cells _ t fr=> .cells #[.iface u (.pointer (some ⟨w.heap.size,0,none⟩))] t fr
   | o=>o }
  | _,_=>w) w
def isIf:DataW Unit->Bool
 | .iface _ _=>true
 | _=>false
end Go.Dn
namespace Go.Dn
open Go.ChangeShapes Go.WideShapes Go.ChangeAt Go.RowKit
def WfS:(t:Ty)->t.den->Prop
 | .int k,n=>k.min<=(show Int from n)/\(show Int from n)<=k.max
 | .bool,_=>True
 | .str,s=>List.length s<=reachBytes
 | .unit,_=>True
 | .pair a b,x=>WfS a x.1/\WfS b x.2
 | .st t,x=>WfS t x
 | .slice t,l=>List.length l<=maxLen/\∀ x,x∈(show List t.den from l)->WfS t x
 | .ptr _,_=>True
 | .clo _ _,_=>True
 | .hnd,_=>True
theorem E9 {H:Type} {P:Program} {e:TypeId} {B:Nat} {d:DataW H}:∀ {l:List (DataW H)},d∈l->(∀ n,n∈DataW.weightsAll P e l->n<=B)->∀ n,n∈d.weights P e->n<=B
 | x::r,hd,h=>by
  rcases aeP.1 hd with rfl | hd
  ·exact fun n hn=>h n (aeN _ hn)
  ·exact E9 hd fun n hn=>h n (aeO _ hn)
theorem De {H:Type} {P:Program} {B:Nat} {t:TypeId} {d:DataW H}:∀ {ts:List TypeId} {ds:List (DataW H)} {k:Nat},ts[k]? =some t->ds[k]? =some d->(∀ n,n∈DataW.weightsEach P ts ds->n<=B)->∀ n,n∈d.weights P t->n<=B
 | [],_,_,h,_,_=>by simp at h
 | _::_,[],_,_,h,_=>by simp at h
 | t'::ts,d'::ds,0,h1,h2,h=>by
  cases h1;cases h2
  exact fun n hn=>h n (aeN _ hn)
 | t'::ts,d'::ds,k+1,h1,h2,h=>De (k:=k) (by simpa using h1) (by simpa using h2) fun n hn=>h n (aeO _ hn)
theorem Dd {H:Type} {P:Program} {n:Nat}:∀ (ts us:List TypeId) (ds gs:List (DataW H)),n∈DataW.weightsEach P ts ds->n∈DataW.weightsEach P (ts++us) (ds++gs)
 | [],_,_,_,h=>by simp[DataW.weightsEach] at h
 | _::_,_,[],_,h=>by simp[DataW.weightsEach] at h
 | t::ts,us,d::ds,gs,h=>by
  simp only[DataW.weightsEach,adV,aeM] at h ⊢
  rcases h with h | h
  ·exact .inl h
  ·exact .inr (Dd ts us ds gs h)
theorem XY {H:Type} {P:Program} {ts us:List TypeId} {ds gs:List (DataW H)} (h:(DataW.weightsEach P (ts++us) (ds++gs)).all (· <=reachBytes)=true):∀ n,n∈DataW.weightsEach P ts ds->n<=reachBytes:=fun n hn=>agl (adQ.1 h n (Dd ts us ds gs hn))
section
variable {H:Type} {enc:TypeId×Value->H} {P:Program} {w:World} {base:Nat} {spare:Nat->Bool} {held:Bool}
theorem TU:∀ (d:Nat) (T:TypeId) (t:Ty) (fuel:Nat) (cs:List Value) (x:DataW H×List MemPlace),Fits P d T t=true->(∀ n,n∈x.1.weights P T->n<=reachBytes)->DataW.trod enc P w base spare held fuel T cs=some x-> ∃ y:t.den,aB (Gw w) t y cs/\WfS t y
 | 0,_,_,_,_,_,hf,_,_=>by cases hf
 | d+1,T,t,fuel,cs,x,hf,hwt,h=>by
  have ih:=fun T t fuel cs x=>TU d T t fuel cs x
  unfold Fits at hf
  split at hf
  ·rename_i k k' hu
   obtain rfl:k=k':=agl hf
   obtain⟨n,rfl,_,hw⟩:=DataW.trod_int hu h
   refine⟨n,rfl, ?_⟩
   simp only[Lit.wf,adf,af7] at hw
   exact hw
  ·rename_i hu
   obtain⟨b,rfl,_⟩:=DataW.trod_bool hu h
   exact⟨b,rfl,trivial⟩
  ·rename_i hu
   obtain⟨s,rfl,hx,_⟩:=DataW.trod_string hu h
   refine⟨s.data.toList, ?_,hwt _ (by rw[hx];simp[DataW.weights])⟩
   simp[aB,bs]
  ·rename_i e t hu
   simp only[adf] at hf
   have hsz:0<t.size:=afr hf.1
   have hce:P.cellsOf e=t.size:=afp hf.2.1
   rcases DataW.trod_slice hu h with ⟨rfl,_⟩ | ⟨a,len,cap,elems,rest,n,_,rfl,hxx,_,hl,hm,hlen,hel,_⟩
   ·exact⟨[],⟨_,rfl,none,0,rfl,aft _,afN _,.inl rfl⟩,⟨afN _,fun x hx=>by cases hx⟩⟩
   ·have hone:∀ i,i<len->∃ y:t.den,(∃ cs',w.cells? base (a.add (i*t.size)) t.size=some cs'/\aB (Gw w) t y cs')/\WfS t y:=by
     intro i hi
     have h1:=hel i hi
     rw[aeh (by omega),hce] at h1
     obtain⟨cs',h2,h3⟩:=Option.bind_eq_some_iff.1 h1
     obtain⟨y,h4,h5⟩:=ih e t n cs' _ hf.2.2 (by
      rw[hxx] at hwt
      simp only[DataW.weights,hu] at hwt
      have hall:∀ n,n∈DataW.weightsAll P e (elems.map (·.1))->n<=reachBytes:=fun n hn=>hwt n (aeQ _ (aeN _ hn))
      exact E9 (aeV.2 ⟨_,aet (show i<elems.length by omega),rfl⟩) hall) h3
     exact⟨y,⟨cs',h2,h4⟩,h5⟩
    by_cases h0:len=0
    ·subst h0
     exact⟨[],⟨_,rfl,some a,cap,rfl,afN _,hm,.inl rfl⟩,⟨afN _,fun x hx=>by cases hx⟩⟩
    ·obtain⟨y0,_,_⟩:=hone 0 (by omega)
     have:∃ y:Nat->t.den,∀ i,i<len->(∃ cs',w.cells? base (a.add (i*t.size)) t.size=some cs'/\aB (Gw w) t (y i) cs')/\WfS t (y i):=by
      classical
      refine⟨fun i=>if hi:i<len then Classical.choose (hone i hi) else y0,fun i hi=> ?_⟩
      simp only[dif_pos hi]
      exact Classical.choose_spec (hone i hi)
     obtain⟨y,hy⟩:=this
     obtain⟨⟨cs0,hc0,_⟩,_⟩:=hy 0 (by omega)
     rw[Nat.zero_mul,show a.add 0=a from rfl] at hc0
     obtain⟨c,T',fz,hspot,hb,_,_⟩:=Ky hsz hc0
     have hat:∀ i,i<len->a.off+i*t.size+t.size<=c.size/\aB (Gw w) t (y i) ((c.toList.drop (a.off+i*t.size)).take t.size):=by
      intro i hi
      obtain⟨⟨cs',h1,h2⟩,_⟩:=hy i hi
      obtain⟨c',T2,fz2,h3,h4,h5,h6⟩:=Ky hsz h1
      have hblk:(a.add (i*t.size)).block=a.block:=by unfold Addr.add;split<;>rfl
      have hoff:(a.add (i*t.size)).off=a.off+i*t.size:=by
       unfold Addr.add;split
       ·rename_i hz;rw[hz];rfl
       ·rfl
      rw[hblk,hb] at h4
      cases h4
      rw[hoff] at h5 h6
      exact⟨h5,h6 ▸ h2⟩
     have hend:a.off+len*t.size<=c.size:=by
      have:=(hat (len - 1) (by omega)).1
      have e:len*t.size=(len - 1)*t.size+t.size:=by
       conv=>lhs;rw[show len=len - 1+1 by omega]
       rw[afl,Nat.one_mul]
      omega
     refine⟨(List.range len).map y,⟨_,rfl,some a,cap,by simp,by simpa using hl,hm,.inr ⟨a.block,a.off,c,T',fz, ?_,hb,by simpa using hend, ?_⟩⟩,⟨by simp only[aeA,List.length_range];omega,fun x hx=> ?_⟩⟩
     ·congr 1;cases a;cases hspot;rfl
     ·have:=Wf (R:=aB (Gw w) t) (y:=y) (c:=c.toList) (sz:=t.size) a.off len (by simpa using hend) fun i hi=>(hat i hi).2
      simpa using this
     ·obtain⟨i,hi,rfl⟩:=aeV.1 hx
      exact (hy i (by simpa using hi)).2
  ·rename_i fs t hu
   simp only[adf] at hf
   obtain⟨xs,n,_,hxx,hlen,hxl,hx⟩:=DataW.trod_struct hu h
   have hwk:∀ (k:Nat) (f:Field) (z:DataW H×List MemPlace),fs[k]? =some f->xs[k]? =some z->∀ n,n∈z.1.weights P f.type->n<=reachBytes:=by
    intro k f z hf hz
    rw[hxx] at hwt
    simp only[DataW.weights,hu] at hwt
    exact De (k:=k) (by simp[hf]) (by simp[hz]) hwt
   have hct:P.cellsOf T=t.size:=afp hf.1
   have key:∀ (l:List Field) (k off:Nat) (t:Ty),fs.toList.drop k=l->Fits.fitsF (Fits P d) P l off t=true->off+t.size<=cs.length->
    ∃ y:t.den,aB (Gw w) t y ((cs.drop off).take t.size)/\WfS t y:=by
    intro l
    induction l with
    | nil=>intro k off t _ h2;cases h2
    | cons f r ihl=>
     intro k off t hk h2 hle
     have hfk:fs[k]? =some f:=by
      have:=congrArg (·[0]?) hk
      simpa [aeg] using this
     have hxk:=hx k f hfk
     have hkl:k<xs.length:=by rw[hxl];exact (ac1.1 hfk).1
     rw[aeh hkl] at hxk
     have hdr:fs.toList.drop (k+1)=r:=by
      have:=congrArg List.tail hk
      simpa [afb] using this
     cases r with
     | nil=>
      simp only[Fits.fitsF,adf] at h2
      obtain⟨h3,h4,h5⟩:=h2
      rw[afp h3,afp h4] at hxk
      exact ih f.type t n _ _ h5 (hwk k f _ hfk (aeh hkl)) hxk
     | cons f' r'=>
      obtain⟨a,b,rfl⟩:∃ a b,t= .pair a b:=by
       cases t with
       | pair a b=>exact⟨a,b,rfl⟩
       | _=>simp[Fits.fitsF] at h2
      simp only[Fits.fitsF,adf] at h2
      obtain⟨h3,h4,h5,h6⟩:=h2
      rw[afp h3,afp h4] at hxk
      obtain⟨y1,g1,g2⟩:=ih f.type a n _ _ h5 (hwk k f _ hfk (aeh hkl)) hxk
      simp only[Ty.size] at hle
      obtain⟨y2,g3,g4⟩:=ihl (k+1) (off+a.size) b hdr h6 (by omega)
      refine⟨(y1,y2),⟨_,_, ?_,g1,g3⟩,⟨g2,g4⟩⟩
      simp only[Ty.size]
      rw[List.take_add,adZ]
   obtain⟨y,h1,h2⟩:=key fs.toList 0 0 t rfl hf.2 (by omega)
   refine⟨y, ?_,h2⟩
   rw[ad3,afh (by omega)] at h1
   exact h1
  ·cases hf
theorem Zg {r:Reach} {b0:Nat} {d:Nat} {T:TypeId} {t:Ty} {v:Value} {dd:DataW H} {ps:List MemPlace} (hf:Fits P d T t=true) (hval:Value.okWide P w r b0 T v) (hwt:∀ n,n∈dd.weights P T->n<=reachBytes) (h:DataW.Trod enc P w base spare held T v dd ps): ∃ y:t.den,bX (Gw w) t y v/\WfS t y:=by
 obtain⟨fuel,h⟩:=h
 obtain⟨y,h1,h2⟩:=TU d T t fuel _ _ hf hwt h
 refine⟨y, ?_,h2⟩
 cases d with
 | zero=>cases hf
 | succ d=>
  unfold Fits at hf
  split at hf
  ·rename_i hu;obtain⟨n,rfl⟩:=okWide_int hu hval;exact h1
  ·rename_i hu;obtain⟨n,rfl⟩:=okWide_bool hu hval;exact h1
  ·rename_i hu;obtain⟨n,rfl⟩:=okWide_string hu hval;exact h1
  ·rename_i hu;obtain⟨a,len,cap,rfl⟩:=okWide_slice hu hval;exact h1
  ·rename_i hu;obtain⟨c,rfl,_⟩:=okWide_struct hu hval;exact⟨c.toList,by simp,h1⟩
  ·cases hf
end
def Si:(ts:List Ty)->gh (pms ts)->Prop
 | [],_=>True
 | t::r,x=>WfS t x.1/\Si r x.2
theorem NZ {H:Type} {enc:TypeId×Value->H} {P:Program} {w:World} {base:Nat} {spare:Nat->Bool} {held:Bool} {r:Reach} {b0:Nat}:∀ {Ts:List TypeId} {ts:List Ty} {vs:List Value} {ds:List (DataW H)} {ps:List MemPlace} {i:Nat},JK P Ts ts=true-> (∀ (j:Nat) t v,Ts[j]? =some t->vs[j]? =some v->Value.okWide P w r b0 t v)->(∀ n,n∈DataW.weightsEach P Ts ds->n<=reachBytes)->DataW.TrodAll enc P w base spare held Ts vs ds ps-> ∃ x,gu (Gw w) w (fun _=>none) i (pms ts) x vs/\Si ts x
 | [],[],[],[],_,_,_,_,_,_=>⟨(),rfl,trivial⟩
 | T::Ts,t::ts,v::vs,d::ds,ps,i,hf,hv,hwt,⟨p,q,h1,h2,_⟩=>by
  simp only[JK,adf] at hf
  obtain⟨y,h3,h4⟩:=Zg hf.1 (hv 0 T v rfl rfl) (fun n hn=>hwt n (aeN _ hn)) h1
  obtain⟨x,h5,h6⟩:=NZ (i:=i+1) hf.2 (fun j t v ht hv'=>hv (j+1) t v ht hv') (fun n hn=>hwt n (aeO _ hn)) h2
  exact⟨(y,x),⟨v,vs,fun _=>rfl,fun h=>absurd h (by simp[PM.arg]),h3,h5⟩,⟨h4,h6⟩⟩
theorem law_callsS {P:Program} {f:FuncId} {fn:Func} {ts:List Ty} {m:gh (pms ts)->Option (dF (pms ts) [.val .bool])} (ok:ig P f ⟨pms ts,[.val .bool],m⟩) (hm:∀ x,Si ts x->∃ y,m x=some (true,y)) (hfit:JK P fn.params.toList ts=true) {tb:TypeId} (hres:fn.resultTypes= #[tb]) (htb:P.underlying tb=some .bool) (kids:Kids P (· <P.types.size)) (full:∀ t e,t<P.types.size->P.underlying t=some (.slice e)->0<P.cellsOf e) (hlt:∀ t∈fn.params.toList,t<P.types.size) {H:Type} {enc:TypeId×Value->H} {s:ChangeSpec} (hvars:s.vars=[]) {W:World} (hT:jf P (Gw W)) {base:Nat} {args:Array Value} {ds gs:List (DataW H)} {before:List MemPlace} (hspec:s.fn H (ds++[])={ results:=[.lit (.bool true)],args:=ds }) (hval:∀ (j:Nat) t v,fn.params[j]? =some t->args[j]? =some v->Value.okWide P W .any base t v) (hW:DataW.Whole enc P fn.params.toList s.vars false W args.toList ds gs before) (hwt:∀ n,n∈DataW.weightsEach P fn.params.toList ds->n<=reachBytes): Calls P f args W fun e W'=>∃ v,e= .returned v/\s.post enc P fn false true false false W args v W':=by
 have hW':=hW
 obtain⟨p,q,hA,hV,hpq,hfz,hnd⟩:=hW
 rw[hvars] at hV
 have hg:gs=[]/\q=[]:=by
  cases gs with
  | nil=>exact⟨rfl,hV⟩
  | cons g gs=>exact absurd hV (by simp[DataW.TrodVars])
 obtain⟨rfl,rfl⟩:=hg
 rw[adU] at hpq
 subst hpq
 obtain⟨x,hx,hwf⟩:=NZ (i:=0) hfit (fun j t v ht hv=>hval j t v (by simpa using ht) (by simpa using hv)) hwt hA
 obtain⟨y,hy⟩:=hm x hwf
 refine (ok (Gw W) W (fun _=>none) args.toList x (true,y) (abM W) (fun _ _ h=>by cases h) hx hy hT).mono ?_
 rintro e W' ⟨G',ow',vs,hgv⟩
 have hold:∀ b,b<W.heap.size->W'.heap[b]? =W.heap[b]? :=fun b hb=>(hgv.old b hb rfl).1
 have hplt:=hW'.lt
 obtain⟨v,us,rfl,hv,hus,_⟩:=hgv.out
 subst hus
 have hv':v= .bool true:=by simpa [Wp,bX,aB] using hv
 subst hv'
 refine⟨.bool true,hgv.ret,ds,[],before,[],before,[],hW', ?_, ?_, ?_, ?_,fun h=>by cases h⟩
 ·rw[hspec,hres]
  exact trodAll_mk1 (shut_bool htb true)
 ·rw[hspec]
  have hsame:∀ z,z∈before->W.sameAt W' z:=by
   intro z hz
   have:=hplt z hz
   cases z with
   | cell b off=>simp only[World.sameAt,World.cell?];rw[hold b this]
   | map b=>exact hold b this
  have hre:=DataW.TrodAll.respare (spare':=fun b=>decide (b<W.heap.size)) kids full hlt hA (fun z hz=>by simpa using hplt z hz)
  have hcar:∀ {Ts:List TypeId} {vs:List Value} {ds:List (DataW H)} {ps:List MemPlace},DataW.TrodAll enc P W 0 (fun b=>decide (b<W.heap.size)) true Ts vs ds ps->(∀ z,z∈ps->W.sameAt W' z)->DataW.TrodAll enc P W' 0 (fun b=>decide (b<W.heap.size)) true Ts vs ds ps:=by
   intro Ts
   induction Ts with
   | nil=>
    intro vs ds ps h _
    cases vs<;>cases ds<;>first | exact h | exact absurd h (by simp[DataW.TrodAll])
   | cons T Ts ih=>
    intro vs ds ps h hs
    cases vs with
    | nil=>cases ds<;>exact absurd h (by simp[DataW.TrodAll])
    | cons v vs=>cases ds with
    | nil=>exact absurd h (by simp[DataW.TrodAll])
    | cons d ds=>
    obtain⟨p,q,⟨n,h1⟩,h2,rfl⟩:=h
    exact⟨p,q,⟨n,DataW.trod_carry n _ _ _ h1 fun z hz=>hs z (aeN _ hz)⟩,ih h2 (fun z hz=>hs z (aeO _ hz)),rfl⟩
  exact hcar hre hsame
 ·rw[hspec,hvars];rfl
 ·refine⟨hgv.os,hgv.output,fun i hi=> ?_⟩
  rw[hold i hi]
  cases hh:W.heap[i]? with
  | none=>trivial
  | some o=>cases o<;>simp[World.keptBut]
end Go.Dn
namespace Go.Dn
def Sq (b:Nat) {α:Type} (l:List α) (i:Int) (v:List α):Option (List α×Unit):=
 bif decide (0<=i)&&(decide (i<=(l.length:Int))&&(decide (0<v.length)&&(decide ((l.length+v.length)*b<=140737488355328)&&decide (l.length+v.length<=4611686018427387904)))) then some (l.take i.toNat++(v++l.drop i.toNat),()) else none
end Go.Dn
namespace Go.Dn
def acI (l:List Int):Option (List Int×Unit):=bif decide (l.length<4294967296) then some (l.mergeSort fun x y=>decide (x<=y),()) else none
end Go.Dn
namespace Go.Dn
open Go.Proofs Go.Shelf Go.Sort
section
variable {P:Program}
end
end Go.Dn
namespace Go.Dn
def jV (lo nb:Nat) (tb:Ty) (l:List tb.den) (vs:List Value):List CV:=
 (List.range lo).map (fun k=> .opq (vs.getD k undef))++ .sl tb l::(List.range (nb - lo - 1)).map (fun k=> .opq (vs.getD (lo+1+k) undef))
def vV:Nat:=10250064
def FA (n lo nb:Nat) (e:TypeId) (tb te:Ty) (vs:List Value) (l:List tb.den) (ql:List te.den) (i:Nat):St:=
 { tmps:= .v false [.ref 2000 0]:: .v false [.rp vV te.size i 0]::List.replicate (n - 2) (.v false [.any]),boxes:=[(2000,jV lo nb tb l vs)],rows:=[(vV,⟨false,e,te,ql⟩)],objs:=[] }
def Yz (te:Ty) (x:Ex) (S:St):Option (List CV×TypeId×List te.den):=match x with
 | .exit _=>none
 | _=>match look S.boxes 2000,look S.rows vV with
  | some cs,some q=>if q.fz then none else (match lP (b:=te) q.l with
   | some l=>some (cs,q.e,l)
   | none=>none)
  | _,_=>none
theorem Bt (lo nb:Nat) (hlo:lo<nb) (tb:Ty) (l:List tb.den) (vs:List Value):(jV lo nb tb l vs).length=nb:=by
 unfold jV
 simp
 omega
theorem KF (lo nb:Nat) (tb:Ty) (l:List tb.den) (vs:List Value):(jV lo nb tb l vs)[lo]? =some (.sl tb l):=by
 unfold jV
 rw[aed (by simp)]
 simp
theorem KG (lo nb:Nat) (tb:Ty) (l:List tb.den) (vs:List Value) {k:Nat} {x:CV} (hk:k≠lo) (h:(jV lo nb tb l vs)[k]? =some x):x= .opq (vs.getD k undef):=by
 unfold jV at h
 by_cases c:k<lo
 ·rw[aec (by simpa using c),aek,aem c] at h
  cases h;rfl
 ·rw[aed (by simp;omega)] at h
  obtain⟨d,hd⟩:∃ d,k - lo=d+1:=⟨k - lo - 1,by omega⟩
  simp only[aeA,List.length_range] at h
  rw[hd,aee,aek] at h
  cases hr:(List.range (nb - lo - 1))[d]? with
  | none=>rw[hr] at h;cases h
  | some d'=>
   rw[hr] at h
   have hlt:=(aej.1 hr).1
   rw[aem (by simpa using hlt)] at hr
   cases hr
   cases h
   show CV.opq (vs.getD (lo+1+d) undef)=_
   rw[show lo+1+d=k by omega]
theorem abX {X:Cx} (hX:bY X) (hmix:X.P.follows .mixedOrders=true) {f:FuncId} {fn:Func} {c:Code} (lo nb:Nat) (tb te:Ty) (m:List tb.den->List te.den->Nat->Option (List te.den)) (anns:List (Nat×Ann)) (hf:X.P.funcs[f]? =some fn) (hc:fn.body=some c) (hres:fn.results.toList=[]) (hlo:lo<nb) (h:∀ e vs l ql i,den X anns c (List CV×TypeId×List te.den) (FA fn.ntmps lo nb e tb te vs l ql i) (Yz te)=(m l ql i).bind fun q=>some (jV lo nb tb l vs,e,q)):Cs X.P f (.elt lo nb tb te m):=by
 intro G w B R i cap e T vs l ql ql' xs hagr hT hBR hB hvl hu hR hrow hrep hGB hGR hm
 obtain⟨u,hu,hul⟩:=hu
 have hN:=h e vs l ql i
 rw[hm,afO] at hN
 let rv:Value:= .slice (some ⟨R,0,none⟩) ql.length cap
 let ρ:Env:=⟨fun _=>B,fun _=>rv,fun b=>if b=B then some (.inl 2000) else if b=R then some (.inr vV) else none,fun _=>rv,fun _ _=>0⟩
 let C:Fr X.P:=⟨w.heap.size,fun _=>B,fun _=>rv,fun b=>b=B\/b=R,w,G,True,hT⟩
 have hvd:aF (aU G ρ) (jV lo nb tb l vs) vs:=aF.TR (by rw[Bt lo nb hlo];omega) (fun k x y hx hy=>by
  by_cases c1:k=lo
  ·subst c1
   rw[KF] at hx;cases hx
   rw[hu] at hy;cases hy
   exact hul
  ·rw[KG lo nb tb l vs c1 hx]
   show y=vs.getD k undef
   rw[aea,hy];rfl)
 have g0:(#[Value.pointer (some ⟨B,0,none⟩),Value.pointer (some ⟨R,i*te.size,none⟩)]++Array.replicate (fn.ntmps - 2) undef).getD 0 undef= .pointer (some ⟨B,0,none⟩):=by simp[acZ,Array.getElem?_append]
 have g1:(#[Value.pointer (some ⟨B,0,none⟩),Value.pointer (some ⟨R,i*te.size,none⟩)]++Array.replicate (fn.ntmps - 2) undef).getD 1 undef= .pointer (some ⟨R,i*te.size,none⟩):=by simp[acZ,Array.getElem?_append]
 have hM:Mod C G ρ (FA fn.ntmps lo nb e tb te vs l ql i) w { tmps:= #[.pointer (some ⟨B,0,none⟩),.pointer (some ⟨R,i*te.size,none⟩)]++Array.replicate (fn.ntmps - 2) undef,defers:=[] }:=by
  refine { agr:=hagr,le0:=Gh.le_refl G,old:=fun _ _ _=>rfl,frame:=fun _ _ _=>rfl,size:=aft _,os:=rfl,output:=rfl,pin:=fun _ _=>rfl,pinR:=fun _ _=>⟨rfl,rfl⟩,owned:= ?_,boxes:= ?_,rows:= ?_,objs:= ?_,hndI:= ?_,tmps:=⟨?_, ?_⟩,defers:=rfl }
  ·intro b o ho
   by_cases c1:b=B
   ·subst c1;exact⟨hGB,bf hB,.inr (.inl rfl)⟩
   ·have ho':(if b=B then some (aX.inl 2000) else if b=R then some (.inr vV) else none)=some o:=ho
    rw[agd c1] at ho'
    by_cases c2:b=R
    ·subst c2;exact⟨hGR,hR,.inr (.inr rfl)⟩
    ·rw[agd c2] at ho';cases ho'
  ·intro k cs hk
   simp only[FA,ax] at hk
   split at hk
   ·rename_i ek
    subst ek
    cases hk
    exact⟨age rfl,vs,T,hB,hvd⟩
   ·cases hk
  ·intro j q hj
   simp only[FA,ax] at hj
   split at hj
   ·rename_i ej
    subst ej
    cases hj
    unfold cI
    rw[agd (by simp)]
    refine⟨xs,hrow,hrep,fun b hb=> ?_⟩
    cases hb
    show (if R=B then some (aX.inl 2000) else if R=R then some (.inr vV) else none)=_
    rw[agd (Ne.symm hBR),age rfl]
   ·cases hj
  ·intro j q hj;cases hj
  ·exact fun _=>⟨rfl,fun t l h=>by cases h⟩
  ·simp[FA];omega
  ·intro k s hk
   simp only[FA] at hk
   match k with
   | 0=>cases hk;exact g0
   | 1=>
    cases hk
    exact⟨R,ql.length,cap,rfl,g1⟩
   | k+2=>
    simp only[aee,List.getElem?_replicate] at hk
    split at hk
    ·cases hk;exact trivial
    ·cases hk
 refine calls_of_wp hf hc (Bn (C:=C) hX hmix anns c hN (fun x S' G' ρ' w' a' hk hM'=> ?_) hM)
 have key:(match look S'.boxes 2000,look S'.rows vV with
  | some cs,some q=>if q.fz then none else (match lP (b:=te) q.l with
   | some l=>some (cs,q.e,l)
   | none=>none)
  | _,_=>none)=some (jV lo nb tb l vs,e,ql')->a'.defers=[]/\∃ v,(results fn a'.tmps).run X.P w'= .ok v w'/\Ending.returned v= .returned (pX [])/\∃ (G':Gh) (vs' xs':List Value) (T':TypeId),G.le G'/\G'.hnd=G.hnd/\Agr G' w'/\(∀ b,b<w.heap.size->G' b=G b)/\
   w'.os=w.os/\w'.output=w.output/\w.heap.size<=w'.heap.size/\(∀ b,b<w.heap.size->b≠B->b≠R->w'.heap[b]? =w.heap[b]?)/\w'.heap[B]? =some (.cells vs'.toArray T' (0,0))/\vs'.length=nb/\(∀ k,k≠lo->vs'[k]? =vs[k]?)/\
   (∃ u,vs'[lo]? =some u/\de G' tb.size (aB G' tb) l u)/\w'.ownsRow 0 e te.size (.slice (some ⟨R,0,none⟩) ql.length cap) ql'.length xs'/\bN (aB G' te) ql' xs':=by
  intro hk
  split at hk
  ·rename_i cs q hcs hq
   split at hk
   ·cases hk
   rename_i hfz
   split at hk
   ·rename_i l2 hl2
    obtain⟨et,el⟩:=fR hl2
    obtain⟨qf,qe,qt,qll⟩:=q
    dsimp only at et el hfz hk
    have hqf:qf=false:=by simpa using hfz
    subst et
    simp only[Option.some.injEq,Prod.mk.injEq] at hk
    obtain⟨k1,k2,k3⟩:=hk
    subst k1;subst k2;subst k3;subst el;subst hqf
    obtain⟨hob,vs',T',hB',hvs'⟩:=hM'.boxes 2000 _ hcs
    rw[hM'.pin 2000 (aft _)] at hob hB'
    have hrow':=hM'.rows vV _ hq
    unfold cI at hrow'
    rw[agd (by simp),(hM'.pinR vV (by decide)).1] at hrow'
    obtain⟨xs',hor',hlr',hown'⟩:=hrow'
    have hgo:=hown' R rfl
    have hlv:=hvs'.len
    rw[Bt lo nb hlo] at hlv
    obtain⟨u',hu1,hu2⟩:=hvs'.get (KF lo nb tb l vs)
    refine⟨hM'.defers,_,KY (us:=[]) (by rw[hres];rfl),rfl,G',vs',xs',T',hM'.le0,(hM'.hndI trivial).1,hM'.agr,fun b hb=> ?_,hM'.os,hM'.output,hM'.size,fun b hb c1 c2=>hM'.frame b hb (fun hc=>hc.elim c1 c2),hB',hlv,fun k hk=> ?_,⟨u',hu1,hu2⟩,hor',hlr'⟩
    ·by_cases c1:b=B
     ·subst c1;rw[hGB];exact (hM'.owned _ _ hob).1
     ·by_cases c2:b=R
      ·subst c2;rw[hGR];exact (hM'.owned _ _ hgo).1
      ·exact hM'.old b hb (fun hc=>hc.elim c1 c2)
    ·by_cases c:k<nb
     ·obtain⟨x,hx⟩:∃ x,(jV lo nb tb l vs)[k]? =some x:=⟨_,aeh (by rw[Bt lo nb hlo];exact c)⟩
      obtain⟨y,hy,hyd⟩:=hvs'.get hx
      rw[KG lo nb tb l vs hk hx] at hyd
      have hyd':y=vs.getD k undef:=hyd
      rw[hy,hyd',aea,aeh (by omega)];rfl
     ·rw[aei (by omega),aei (by omega)]
   ·cases hk
  ·cases hk
 cases x with
 | normal=>exact key hk
 | ret=>exact key hk
 | exit id=>cases hk
end Go.Dn
namespace Go.Dn
open Go.Proofs Go.Shelf Go.RowKit Go.Lib
theorem Hq {P:Program} (w:World) (tS tR e:TypeId) (ht:P.underlying tS=some (.slice e)) (size:Nat) (hz:∀ w,(Go.sizeOf e).run P w= .ok size w) (a b:Addr) (la ca lb cb:Nat) (hne:a.block≠b.block) (tA tB:TypeId) (kA kB:Nat) (hsa:w.shape? a.block=some (tA,kA)) (hsb:w.shape? b.block=some (tB,kB)) (hkA:kA≠0) (hfb:w.frozen? b=false) (hfe:w.frozen? { block:=b.block,off:=kB }=false): (Extern.SlicesOverlaps.overlaps #[tS,tS] #[tR] #[.slice (some a) la ca,.slice (some b) lb cb]).run P w= .ok (.bool false) w:=by
 have hnb:(a.block != b.block)=true:=by simpa using hne
 have hnb':(a.block==b.block)=false:=by simpa using hne
 change Sem.run P (α:=Value) (do
  let some t:=(#[tS,tS]:Array TypeId)[0]? | stuck "slices.overlaps: no parameter types"
  let .slice elem <- underlying t | stuck "slices.overlaps: slice type expected"
  let size <- sizeOf elem
  match (some a:Option Addr),(some b:Option Addr) with
  | some a,some b=>
   if la=0\/lb=0\/size=0 then pure (Value.bool false)
   else if a.block != b.block&&(<- frozen a)&&(<- frozen b) then unsupported .addressObserved
   else do
    if a.block != b.block then do
     noView a;noView b
     if <- mayBeOne a b then return Value.bool ((<- choose (.extern "sameAddr.stringBytes" 2))==1)
    pure (Value.bool (a.block==b.block&&a.off<b.off+lb*size&&b.off<a.off+la*size))
  | _,_=>pure (Value.bool false)) w=_
 by_cases h0:la=0\/lb=0\/size=0
 ·simp[run_underlying ht,hz,h0]
 ·cases kA with
  | zero=>exact absurd rfl hkA
  | succ kA=>
   cases hfa:w.frozen? a with
   | true=>simp[run_underlying ht,hz,h0,hnb,hnb',frozen,noView,viewAt,mayBeOne,stringish,shape,Sem.run,hsa,hsb,hfa,hfb,hfe]
   | false=>
    cases hfc:w.frozen? { block:=a.block,off:=kA+1 } with
    | true=>simp[run_underlying ht,hz,h0,hnb,hnb',frozen,noView,viewAt,mayBeOne,stringish,shape,Sem.run,hsa,hsb,hfa,hfb,hfe,hfc]
    | false=>simp[run_underlying ht,hz,h0,hnb,hnb',frozen,noView,viewAt,mayBeOne,stringish,shape,Sem.run,hsa,hsb,hfa,hfb,hfe,hfc]
structure xJ (P:Program) (ρ:Ren) (k bytes:Nat) (z:Value):Prop where
 mixed:P.follows .mixedOrders=true
 f22:Bears P (ρ.f 22) (Body2.n22 ρ)
 f29:∃ fn,P.funcs[ρ.f 29]? =some fn/\(fn.name== "runtime.NumGoroutine")=false/\fn.body.isNone=true/\Extern.findNext fn=none/\Extern.find fn=some (Extern.SlicesOverlaps.overlaps #[(ρ.t 24),(ρ.t 24)] #[(ρ.t 4)])
 t0:P.underlying (ρ.t 0)=some (TypeDesc.tuple #[])
 a0:∀ w,(isAgg (ρ.t 0)).run P w= .ok false w
 z0:∀ w,(Go.sizeOf (ρ.t 0)).run P w= .ok 1 w
 v0:∀ w,(zeroValue (ρ.t 0)).run P w= .ok (Value.tuple #[]) w
 t3:P.underlying (ρ.t 3)=some (TypeDesc.int IntKind.i64)
 a3:∀ w,(isAgg (ρ.t 3)).run P w= .ok false w
 z3:∀ w,(Go.sizeOf (ρ.t 3)).run P w= .ok 1 w
 v3:∀ w,(zeroValue (ρ.t 3)).run P w= .ok (Value.int IntKind.i64 0) w
 t4:P.underlying (ρ.t 4)=some (TypeDesc.bool)
 a4:∀ w,(isAgg (ρ.t 4)).run P w= .ok false w
 z4:∀ w,(Go.sizeOf (ρ.t 4)).run P w= .ok 1 w
 v4:∀ w,(zeroValue (ρ.t 4)).run P w= .ok (Value.bool false) w
 z9:∀ w,(Go.sizeOf (ρ.t 9)).run P w= .ok k w
 t24:P.underlying (ρ.t 24)=some (TypeDesc.slice (ρ.t 9))
 a24:∀ w,(isAgg (ρ.t 24)).run P w= .ok false w
 z24:∀ w,(Go.sizeOf (ρ.t 24)).run P w= .ok 1 w
 v24:∀ w,(zeroValue (ρ.t 24)).run P w= .ok (Value.slice none 0 0) w
 i9:(P.info? (ρ.t 9)).map (fun i=>(i.zero,i.size,i.bytes))=some (some z,k,bytes)
 k0:0<k
 zc:z.cells.size=k
theorem yy {o:Option TypeInfo} {z:Value} {k b:Nat} (h:o.map (fun i=>(i.zero,i.size,i.bytes))=some (some z,k,b)):∃ i,o=some i/\i.zero=some z/\i.size=k/\i.bytes=b:=by
 cases o with
 | none=>cases h
 | some i=>
  simp only[afU,Option.some.injEq,Prod.mk.injEq] at h
  exact⟨i,rfl,h.1,h.2.1,h.2.2⟩
theorem qO {P:Program} (w:World) (dT sT ty elem:TypeId) (b o dLen dCap:Nat) (a:Addr) (sLen sCap k m:Nat) (cs:List Value) (hu:P.underlying dT=some (.slice elem)) (hs:(P.info? elem).map (·.size)=some k) (hm:m=Nat.min sLen dLen) (hn:cs.length=m*k) (hsrc:∀ j v,cs[j]? =some v->w.cell? (a.add j)=some v) (hc:∀ j,j<cs.length->(w.cell? ⟨b,o+j,none⟩).isSome=true) (hf:∀ j,j<cs.length->w.frozen? ⟨b,o+j,none⟩=false) (h1:∀ v∈cs,v.oneCell'=true): (Builtin.copy_ #[dT,sT] ty #[.slice (some ⟨b,o,none⟩) dLen dCap,.slice (some a) sLen sCap]).run P w= .ok (goInt m) (w.setCells b o cs):=by
 have hl:=run_loadCells_list (P:=P) w a cs hsrc
 have hst:=run_storeCells_cells (P:=P) b o cs 0 w (by simpa using hc) (by simpa using hf) h1
 cases hq:P.info? elem with
 | none=>simp[hq] at hs
 | some i=>
  have hi:i.size=k:=by simpa [hq] using hs
  simp[Builtin.copy_,run_underlying hu,Builtin.lenOf,Builtin.firstCells,sizeOf,typeInfo,hq,hi, <- hm, <- hn,hl,hst]
variable {P:Program} {ρ:Ren} {k bytes:Nat} {z:Value}
set_option maxHeartbeats 4000000 in
set_option maxRecDepth 100000 in
theorem RO (L:xJ P ρ k bytes z) (b off n c vb voff m vc:Nat) (vs:List Value) (w:World) (hm:0<m) (hroom:n+m<=c) (hc63:c<=9223372036854775807) (hvl:vs.length=m*k) (hsp:∀ j,j<m*k->(w.cell? ⟨b,off+n*k+j,none⟩).isSome=true) (hfz:∀ j,j<m*k->w.frozen? ⟨b,off+n*k+j,none⟩=false) (hvs:∀ j v,vs[j]? =some v->w.cell? ⟨vb,voff+j,none⟩=some v) (h1v:∀ v∈vs,v.oneCell'=true): Calls P (ρ.f 22) #[.slice (some ⟨b,off,none⟩) n c,.int .i64 n,.slice (some ⟨vb,voff,none⟩) m vc] w fun e w'=> e= .returned (.slice (some ⟨b,off,none⟩) (n+m) c)/\w'=w.setCells b (off+n*k) vs:=by
 have t0:=L.t0;have a0:=L.a0;have z0:=L.z0;have v0:=L.v0;have t3:=L.t3;have a3:=L.a3;have z3:=L.z3;have v3:=L.v3;have t4:=L.t4;have a4:=L.a4;have z4:=L.z4;have v4:=L.v4;have z9:=L.z9;have t24:=L.t24;have a24:=L.a24;have z24:=L.z24;have v24:=L.v24
 have u0:=run_underlying L.t0;have u3:=run_underlying L.t3;have u4:=run_underlying L.t4;have u24:=run_underlying L.t24
 have mixed:=L.mixed
 obtain⟨i0,hi0,hz0,hzs,hzb⟩:=yy L.i9
 have hz1:¬ ((m:Int)=0):=by omega
 have hsrc:Src P i0.size (ρ.t 24) (.slice (some ⟨vb,voff,none⟩) m vc) m vs w:=by
  rw[hzs]
  exact Src.ofSlice w L.t24 ⟨vb,voff,none⟩ m vc vs hvl (fun j u hj=>by rw[Addr.add_lit];exact hvs j u hj) h1v
 rw[<- hzs] at hsp hfz ⊢
 rw[<- hzs] at hvl
 obtain⟨_,_,F22⟩:=L.f22
 go_enter F22,Body2.n22_ntmps ρ
 go_wp2_with (at_builtin;refine wpList_append_room_src _ rfl _ _ (ρ.t 24) (ρ.t 24) rfl (ρ.t 9) i0 L.t24 hi0 b off n c rfl _ rfl m vs hsrc hroom (by rw[hvl];exact hsp) (by rw[hvl];exact hfz) ?_)
 go_ret
 exact⟨rfl,by rw[hzs]⟩
set_option maxHeartbeats 4000000 in
set_option maxRecDepth 100000 in
theorem RN (L:xJ P ρ k bytes z) (base:Option Addr) (n c vb voff m vc:Nat) (cs vs:List Value) (w:World) (hm:0<m) (hnc:n<=c) (hroom:c<n+m) (hbig:(n+m)*bytes<=140737488355328) (h63:n+m<=4611686018427387904) (hcl:cs.length=n*k) (hvl:vs.length=m*k) (hnil:base=none->n=0) (hcs:∀ a,base=some a->∀ j v,cs[j]? =some v->w.cell? (a.add j)=some v) (hvs:∀ j v,vs[j]? =some v->w.cell? ⟨vb,voff+j,none⟩=some v) (h1v:∀ v∈vs,v.oneCell'=true): Calls P (ρ.f 22) #[.slice base n c,.int .i64 n,.slice (some ⟨vb,voff,none⟩) m vc] w fun e w'=> e= .returned (.slice (some ⟨w.heap.size,0,none⟩) (n+m) (grownCap w (n+m) c (ρ.t 9)))/\ w'=w.drew.alloc (.cells ((cs++vs).toArray++Builtin.zeroCells z.cells (grownCap w (n+m) c (ρ.t 9) - (n+m))) (ρ.t 9)):=by
 have t0:=L.t0;have a0:=L.a0;have z0:=L.z0;have v0:=L.v0;have t3:=L.t3;have a3:=L.a3;have z3:=L.z3;have v3:=L.v3;have t4:=L.t4;have a4:=L.a4;have z4:=L.z4;have v4:=L.v4;have z9:=L.z9;have t24:=L.t24;have a24:=L.a24;have z24:=L.z24;have v24:=L.v24
 have u0:=run_underlying L.t0;have u3:=run_underlying L.t3;have u4:=run_underlying L.t4;have u24:=run_underlying L.t24
 have mixed:=L.mixed
 obtain⟨i0,hi0,hz0,hzs,hzb⟩:=yy L.i9
 have hz1:¬ ((m:Int)=0):=by omega
 have hsrc:Src P i0.size (ρ.t 24) (.slice (some ⟨vb,voff,none⟩) m vc) m vs w:=by
  rw[hzs]
  exact Src.ofSlice w L.t24 ⟨vb,voff,none⟩ m vc vs hvl (fun j u hj=>by rw[Addr.add_lit];exact hvs j u hj) h1v
 have hold:(Builtin.firstCells i0.size n (.slice base n c)).run P w.drew= .ok cs.toArray w.drew:=by
  rw[hzs]
  cases base with
  | none=>
   have h0:=hnil rfl
   subst h0
   rw[Nat.zero_mul] at hcl
   rw[aey.1 hcl]
   exact run_firstCells_none w.drew k 0 0 c
  | some a=>exact run_firstCells_some w.drew k n a n c cs hcl (fun j v hj=>hcs a rfl j v hj)
 have hrun:∀ ty,(Builtin.append_ #[(ρ.t 24),(ρ.t 24)] ty #[.slice base n c,.slice (some ⟨vb,voff,none⟩) m vc]).run P w=_:=fun ty=>
  run_append_grow_src w (ρ.t 24) (ρ.t 24) ty (ρ.t 9) i0 _ L.t24 hi0 hz0 base n c cs hold _ m vs hsrc hroom (by omega) (by rw[hzb];exact growslice_fits hroom hbig)
 obtain⟨Z,hZ⟩:∃ Z,Z=z.cells:=⟨_,rfl⟩
 rw[<- hZ] at hrun ⊢
 clear hZ
 obtain⟨_,_,F22⟩:=L.f22
 go_enter F22,Body2.n22_ntmps ρ
 cases base with
 | none=>
  have h0:=hnil rfl
  subst h0
  go_wp2_with (at_builtin;refine Lib.wpList_append_run _ rfl _ _ _ _ rfl _ _ rfl rfl _ _ (hrun _) ?_)
  go_ret
  exact⟨rfl,rfl⟩
 | some a=>
  obtain⟨ab,ao,asp⟩:=a
  go_wp2_with (at_builtin;refine Lib.wpList_append_run _ rfl _ _ _ _ rfl _ _ rfl rfl _ _ (hrun _) ?_)
  all_goals (go_ret;exact⟨rfl,rfl⟩)
set_option maxHeartbeats 4000000 in
set_option maxRecDepth 100000 in
theorem Xc (L:xJ P ρ k bytes z) (b off n c i vb voff m vc:Nat) (cs vs:List Value) (w:World) (hi:i<n) (hm:0<m) (hroom:n+m<=c) (hc63:c<=9223372036854775807) (hvb:vb≠b) (hcl:cs.length=n*k) (hvl:vs.length=m*k) (hcs:∀ j v,cs[j]? =some v->w.cell? ⟨b,off+j,none⟩=some v) (hsp:∀ j,j<(n+m)*k->(w.cell? ⟨b,off+j,none⟩).isSome=true) (hfz:∀ j,j<(n+m)*k->w.frozen? ⟨b,off+j,none⟩=false) (hvs:∀ j v,vs[j]? =some v->w.cell? ⟨vb,voff+j,none⟩=some v) (h1c:∀ v∈cs,v.oneCell'=true) (h1v:∀ v∈vs,v.oneCell'=true) (tA tB:TypeId) (kA kB:Nat) (hsa:w.shape? vb=some (tA,kA)) (hsb:w.shape? b=some (tB,kB)) (hkA:kA≠0) (hfb:w.frozen? ⟨b,off+(i+m)*k,none⟩=false) (hfe:w.frozen? ⟨b,kB,none⟩=false): Calls P (ρ.f 22) #[.slice (some ⟨b,off,none⟩) n c,.int .i64 i,.slice (some ⟨vb,voff,none⟩) m vc] w fun e w'=> e= .returned (.slice (some ⟨b,off,none⟩) (n+m) c)/\w'=(w.drew.setCells b (off+(i+m)*k) (cs.drop (i*k))).setCells b (off+i*k) vs:=by
 have t0:=L.t0;have a0:=L.a0;have z0:=L.z0;have v0:=L.v0;have t3:=L.t3;have a3:=L.a3;have z3:=L.z3;have v3:=L.v3;have t4:=L.t4;have a4:=L.a4;have z4:=L.z4;have v4:=L.v4;have z9:=L.z9;have t24:=L.t24;have a24:=L.a24;have z24:=L.z24;have v24:=L.v24
 have u0:=run_underlying L.t0;have u3:=run_underlying L.t3;have u4:=run_underlying L.t4;have u24:=run_underlying L.t24
 have hz1:¬ ((m:Int)=0):=by omega
 have hz2:¬ ((i:Int)=(n:Int)):=by omega
 have hsz:(P.info? (ρ.t 9)).map (·.size)=some k:=by
  obtain⟨i0,hi0,h0,h1,h2⟩:=yy L.i9
  rw[hi0];simp[h1]
 have hov:∀ lb cb,(callFunc (ρ.f 29) #[.slice (some ⟨vb,voff,none⟩) m vc,.slice (some ⟨b,off+(i+m)*k,none⟩) lb cb]).run P w= .ok (.value (.bool false)) w:=fun lb cb=>by
  obtain⟨_,F29,F1,F2,F3,F4⟩:=L.f29
  rw[run_callFunc_extern F29 F1 F2 F3 F4,
   Hq w (ρ.t 24) (ρ.t 4) (ρ.t 9) L.t24 k L.z9 ⟨vb,voff,none⟩ ⟨b,off+(i+m)*k,none⟩ m vc lb cb hvb tA tB kA kB hsa hsb hkA hfb hfe]
  rfl
 have hk1:(i+m)*k=i*k+m*k:=afl i m k
 have hk2:(n+m)*k=n*k+m*k:=afl n m k
 have hk3:i*k<=n*k:=afF k (by omega)
 have hk4:(n - i)*k=n*k - i*k:=Nat.sub_mul n i k
 have hdl:(cs.drop (i*k)).length=(n - i)*k:=by rw[aex,hcl,hk4]
 have mixed:=L.mixed
 have hw1:IntKind.i64.wrap ((i:Int)+(m:Int))=(i:Int)+(m:Int):=by rw[IntKind.wrap_i64];omega
 have hb1:(0:Int)<=(i:Int)+(m:Int):=by omega
 have hin:i<=n:=by omega
 have htn:((i:Int)+(m:Int)).toNat=i+m:=by omega
 have hb2:¬ (c=i+m):=by omega
 have hb3:(i:Int)<=(n:Int)+(m:Int):=by omega
 have hb4:¬ (c=i):=by omega
 have hcp1:∀ ty dc sc,(Builtin.copy_ #[(ρ.t 24),(ρ.t 24)] ty #[.slice (some ⟨b,off+(i+m)*k,none⟩) (n+m - (i+m)) dc,.slice (some ⟨b,off+i*k,none⟩) (n+m - i) sc]).run P w.drew= .ok (goInt (n - i:Nat)) (w.drew.setCells b (off+(i+m)*k) (cs.drop (i*k))):=fun ty dc sc=>
  qO w.drew _ _ ty (ρ.t 9) b (off+(i+m)*k) (n+m - (i+m)) dc ⟨b,off+i*k,none⟩ (n+m - i) sc k (n - i) (cs.drop (i*k)) L.t24 hsz (by simp only[Nat.min_def];split<;>omega) hdl
   (fun j v hj=>by rw[Addr.add_lit,afj];exact hcs (i*k+j) v (by rwa [aeg] at hj))
   (fun j hj=>by rw[afj];exact hsp _ (by rw[hdl,hk4] at hj;omega)) (fun j hj=>by rw[afj];exact hfz _ (by rw[hdl,hk4] at hj;omega)) (fun v hv=>h1c v (aeX hv))
 obtain⟨W1,hW1⟩:∃ W1,W1=w.drew.setCells b (off+(i+m)*k) (cs.drop (i*k)):=⟨_,rfl⟩
 have hsp1:∀ q,q<(n+m)*k->(W1.cell? ⟨b,off+q,none⟩).isSome=true:=fun q hq=>by
  rw[hW1]
  exact isSome_setCells b _ _ _ (fun j hj=>by rw[afj];exact hsp _ (by rw[hdl,hk4] at hj;omega)) _ (hsp q hq)
 have hcp2:∀ (W:World),(∀ x,W.cell? x=W1.cell? x)->(∀ x,W.frozen? x=W1.frozen? x)->∀ ty dc,(Builtin.copy_ #[(ρ.t 24),(ρ.t 24)] ty #[.slice (some ⟨b,off+i*k,none⟩) (n+m - i) dc,.slice (some ⟨vb,voff,none⟩) m vc]).run P W= .ok (goInt m) (W.setCells b (off+i*k) vs):=fun W hWc hWf ty dc=>
  qO W _ _ ty (ρ.t 9) b (off+i*k) (n+m - i) dc ⟨vb,voff,none⟩ m vc k m vs L.t24 hsz (by simp only[Nat.min_def];split<;>omega) hvl
   (fun j v hj=>by
     rw[Addr.add_lit,hWc,hW1,World.cell?_setCells_out b _ _ _ _ (fun h _=>absurd h hvb)]
     exact hvs j v hj)
   (fun j hj=>by rw[hWc,afj];exact hsp1 _ (by omega)) (fun j hj=>by rw[hWf,hW1,World.frozen?_setCells,afj];exact hfz _ (by omega)) h1v
 rw[<- hW1] at hcp1
 clear hk1 hk2 hk3 hk4 hdl hsp1
 obtain⟨_,_,F22⟩:=L.f22
 go_enter F22,Body2.n22_ntmps ρ
 go_wp2_with (simp only[hov])
 go_region_law_o (refine step_copy_runI rfl _ _ (ρ.t 24) (ρ.t 24) rfl _ _ (by simp[Act.eval,Act.put]) (by simp[Act.eval,Act.put]) (hcp1 _ _ _) ?_)
 go_wp2_with (at_builtin;refine wpList_copy_runI _ rfl _ _ (ρ.t 24) (ρ.t 24) rfl _ _ rfl rfl (hcp2 _ (fun _=>rfl) (fun _=>rfl) _ _) ?_)
 go_ret
 first | exact⟨rfl,rfl⟩ | exact⟨rfl,by rw[hW1]⟩
theorem w8 (z:Array Value) (n:Nat):(Builtin.zeroCells z n).size=n*z.size:=by
 simp[Builtin.zeroCells,afE]
set_option maxHeartbeats 4000000 in
set_option maxRecDepth 100000 in
theorem YH (L:xJ P ρ k bytes z) (b off n c i vb voff m vc:Nat) (cs vs:List Value) (w:World) (hi:i<n) (hm:0<m) (hnc:n<=c) (hroom:c<n+m) (hbig:(n+m)*bytes<=140737488355328) (h63:n+m<=4611686018427387904) (hcl:cs.length=n*k) (hvl:vs.length=m*k) (hcs:∀ j v,cs[j]? =some v->w.cell? ⟨b,off+j,none⟩=some v) (hvs:∀ j v,vs[j]? =some v->w.cell? ⟨vb,voff+j,none⟩=some v) (h1c:∀ v∈cs,v.oneCell'=true) (h1v:∀ v∈vs,v.oneCell'=true): Calls P (ρ.f 22) #[.slice (some ⟨b,off,none⟩) n c,.int .i64 i,.slice (some ⟨vb,voff,none⟩) m vc] w fun e w'=> e= .returned (.slice (some ⟨w.heap.size,0,none⟩) (n+m) (grownCap w (n+m) c (ρ.t 9)))/\ w'=(((w.alloc (.cells ((cs.take (i*k)).toArray++Builtin.zeroCells z.cells (n+m - i)++Builtin.zeroCells z.cells (grownCap w (n+m) c (ρ.t 9) - (n+m))) (ρ.t 9))).drew.setCells w.heap.size (i*k) vs).drew).setCells w.heap.size ((i+m)*k) (cs.drop (i*k)):=by
 have t0:=L.t0;have a0:=L.a0;have z0:=L.z0;have v0:=L.v0;have t3:=L.t3;have a3:=L.a3;have z3:=L.z3;have v3:=L.v3;have t4:=L.t4;have a4:=L.a4;have z4:=L.z4;have v4:=L.v4;have z9:=L.z9;have t24:=L.t24;have a24:=L.a24;have z24:=L.z24;have v24:=L.v24
 have u0:=run_underlying L.t0;have u3:=run_underlying L.t3;have u4:=run_underlying L.t4;have u24:=run_underlying L.t24
 have mixed:=L.mixed
 obtain⟨i0,hi0,hz0,hzs,hzb⟩:=yy L.i9
 have hz1:¬ ((m:Int)=0):=by omega
 have hz2:¬ ((i:Int)=(n:Int)):=by omega
 have hz3:(c:Int)<(n:Int)+(m:Int):=by omega
 have hsz:(P.info? (ρ.t 9)).map (·.size)=some k:=by rw[hi0];simp[hzs]
 have hk0:=L.k0
 have hk1:(i+m)*k=i*k+m*k:=afl i m k
 have hk2:(n+m)*k=n*k+m*k:=afl n m k
 have hk3:i*k<=n*k:=afF k (by omega)
 have hk4:(n - i)*k=n*k - i*k:=Nat.sub_mul n i k
 have hk5:(n+m - i)*k=n*k+m*k - i*k:=by rw[Nat.sub_mul,hk2]
 have hk6:1<=m*k:=Nat.mul_pos hm hk0
 have hk7:1<=n*k:=Nat.mul_pos (by omega) hk0
 have hbw:b<w.heap.size:=block_lt_of_cell (hcs 0 _ (aeh (by omega)))
 have hvw:vb<w.heap.size:=block_lt_of_cell (hvs 0 _ (aeh (by omega)))
 have hkk:(n:Int)+(m:Int) - (i:Int)=((n+m - i:Nat):Int):=by omega
 have hik:i+(n+m - i)=n+m:=by omega
 have hold:(Builtin.firstCells i0.size i (.slice (some ⟨b,off,none⟩) i c)).run P w.drew= .ok (cs.take (i*k)).toArray w.drew:=by
  rw[hzs]
  exact run_firstCells_some w.drew k i ⟨b,off,none⟩ i c (cs.take (i*k)) (by rw[aeH];omega) (fun j v hj=>by
   rw[Addr.add_lit]
   rw[aeq] at hj
   split at hj
   ·exact hcs j v hj
   ·cases hj)
 have hb1':(n+m - i)*bytes<=(n+m)*bytes:=afF _ (by omega)
 have hrz:∀ ty,(Builtin.append_ #[(ρ.t 24),(ρ.t 3)] ty #[.slice (some ⟨b,off,none⟩) i c,.int .i64 ((n:Int)+(m:Int) - (i:Int))]).run P w=
  .ok (.slice (some ⟨w.heap.size,0,none⟩) (n+m) (grownCap w (n+m) c (ρ.t 9))) (w.drew.alloc (.cells ((cs.take (i*k)).toArray++Builtin.zeroCells z.cells (n+m - i)++Builtin.zeroCells z.cells (grownCap w (n+m) c (ρ.t 9) - (n+m))) (ρ.t 9))):=fun ty=>by
  have h:=Lib.run_append_grow_zeros w (ρ.t 24) (ρ.t 3) ty (ρ.t 9) i0 _ .i64 .i64 L.t24 L.t3 hi0 hz0 (some ⟨b,off,none⟩) i c (cs.take (i*k)) hold (n+m - i) (by omega) (by omega) (by omega) (by omega) (by rw[hzb];omega) (by rw[hzb,hik];exact growslice_fits hroom hbig)
  rw[hik] at h
  rw[hkk]
  exact h
 obtain⟨G,hG⟩:∃ G,G=grownCap w (n+m) c (ρ.t 9):=⟨_,rfl⟩
 obtain⟨ROW,hROW⟩:∃ ROW:Array Value,ROW=(cs.take (i*k)).toArray++Builtin.zeroCells z.cells (n+m - i)++Builtin.zeroCells z.cells (G - (n+m)):=⟨_,rfl⟩
 rw[<- hG] at hrz ⊢
 rw[<- hROW] at hrz ⊢
 have hRl:(n+m)*k<=ROW.size:=by
  rw[hROW]
  simp only[Array.size_append,afa,aeH,w8,L.zc]
  rw[hcl,afC hk3]
  omega
 obtain⟨W1,hW1⟩:∃ W1,W1=w.drew.alloc (.cells ROW (ρ.t 9)):=⟨_,rfl⟩
 rw[<- hW1] at hrz
 have hN:∀ j,j<(n+m)*k->(W1.cell? ⟨w.heap.size,j,none⟩).isSome=true:=fun j hj=>by
  rw[hW1,World.cell?_alloc_at (w:=w.drew) ROW _ w.heap.size j rfl,ac0 (by omega)];rfl
 have hNf:∀ j,W1.frozen? ⟨w.heap.size,j,none⟩=false:=fun j=>by rw[hW1];exact World.frozen?_alloc_at (w:=w.drew) ROW _ w.heap.size j rfl
 have hOb:∀ j v,w.cell? ⟨b,j,none⟩=some v->W1.cell? ⟨b,j,none⟩=some v:=fun j v h=>by rw[hW1,World.cell?_alloc_past (w:=w.drew) _ b j hbw];exact h
 have hOv:∀ j v,w.cell? ⟨vb,j,none⟩=some v->W1.cell? ⟨vb,j,none⟩=some v:=fun j v h=>by rw[hW1,World.cell?_alloc_past (w:=w.drew) _ vb j hvw];exact h
 have hcpA:∀ (W:World),(∀ x,W.cell? x=W1.cell? x)->(∀ x,W.frozen? x=W1.frozen? x)->∀ ty dc,(Builtin.copy_ #[(ρ.t 24),(ρ.t 24)] ty #[.slice (some ⟨w.heap.size,i*k,none⟩) (n+m - i) dc,.slice (some ⟨vb,voff,none⟩) m vc]).run P W= .ok (goInt m) (W.setCells w.heap.size (i*k) vs):=fun W hWc hWf ty dc=>
  qO W _ _ ty (ρ.t 9) w.heap.size (i*k) (n+m - i) dc ⟨vb,voff,none⟩ m vc k m vs L.t24 hsz (by simp only[Nat.min_def];split<;>omega) hvl
   (fun j v hj=>by rw[Addr.add_lit,hWc];exact hOv _ v (hvs j v hj))
   (fun j hj=>by rw[hWc];exact hN _ (by omega)) (fun j hj=>by rw[hWf];exact hNf _) h1v
 have hGn:n+m<=G:=by rw[hG];exact grownCap_ge w _ _ _
 have hG63:G<=9223372036854775807:=by
  have:=grownCap_le_maxLen w (n+m) c (ρ.t 9) (by unfold maxLen;omega)
  rw[<- hG] at this
  unfold maxLen at this
  omega
 have hGi:¬ (G=i):=by omega
 have hGim:¬ (G=i+m):=by omega
 have hci:¬ (c=i):=by omega
 have hbN:b≠w.heap.size:=by omega
 have hdl:(cs.drop (i*k)).length=(n - i)*k:=by rw[aex,hcl,hk4]
 have hcpB:∀ (W:World),(∀ x,W.cell? x=(W1.setCells w.heap.size (i*k) vs).cell? x)->(∀ x,W.frozen? x=(W1.setCells w.heap.size (i*k) vs).frozen? x)->∀ ty dc sc,(Builtin.copy_ #[(ρ.t 24),(ρ.t 24)] ty #[.slice (some ⟨w.heap.size,(i+m)*k,none⟩) (n+m - (i+m)) dc,.slice (some ⟨b,off+i*k,none⟩) (n - i) sc]).run P W= .ok (goInt (n - i:Nat)) (W.setCells w.heap.size ((i+m)*k) (cs.drop (i*k))):=fun W hWc hWf ty dc sc=>
  qO W _ _ ty (ρ.t 9) w.heap.size ((i+m)*k) (n+m - (i+m)) dc ⟨b,off+i*k,none⟩ (n - i) sc k (n - i) (cs.drop (i*k)) L.t24 hsz (by simp only[Nat.min_def];split<;>omega) hdl
   (fun j v hj=>by
     rw[Addr.add_lit,hWc,World.cell?_setCells_out _ _ _ _ _ (fun h _=>absurd h hbN),afj]
     exact hOb _ v (hcs (i*k+j) v (by rwa [aeg] at hj)))
   (fun j hj=>by rw[hWc];exact isSome_setCells _ _ _ _ (fun t ht=>hN _ (by omega)) _ (hN _ (by rw[hdl,hk4] at hj;omega)))
   (fun j hj=>by rw[hWf,World.frozen?_setCells];exact hNf _) (fun v hv=>h1c v (aeX hv))
 subst hW1
 have hE1:∀ x,((w.alloc (.cells ROW (ρ.t 9))).drew).cell? x=(w.drew.alloc (.cells ROW (ρ.t 9))).cell? x:=fun x=>rfl
 have hE2:∀ x,((w.alloc (.cells ROW (ρ.t 9))).drew).frozen? x=(w.drew.alloc (.cells ROW (ρ.t 9))).frozen? x:=fun x=>rfl
 have hF1:∀ x,(((w.alloc (.cells ROW (ρ.t 9))).drew.setCells w.heap.size (i*k) vs).drew).cell? x=((w.drew.alloc (.cells ROW (ρ.t 9))).setCells w.heap.size (i*k) vs).cell? x:=fun x=>rfl
 have hF2:∀ x,(((w.alloc (.cells ROW (ρ.t 9))).drew.setCells w.heap.size (i*k) vs).drew).frozen? x=((w.drew.alloc (.cells ROW (ρ.t 9))).setCells w.heap.size (i*k) vs).frozen? x:=fun x=>rfl
 have hw1:IntKind.i64.wrap ((i:Int)+(m:Int))=(i:Int)+(m:Int):=by rw[IntKind.wrap_i64];omega
 have hb1:(0:Int)<=(i:Int)+(m:Int):=by omega
 have hin:i<=n:=by omega
 have htn:((i:Int)+(m:Int)).toNat=i+m:=by omega
 have hb3:(i:Int)<=(n:Int):=by omega
 clear hkk hik hold hROW hG hRl hk1 hk2 hk3 hk4 hk5 hk6 hk7 hdl hN hb1'
 obtain⟨_,_,F22⟩:=L.f22
 go_enter F22,Body2.n22_ntmps ρ
 go_wp2_with (first
  | (at_builtin;refine Lib.wpList_append_run _ rfl _ _ _ _ rfl _ _ rfl rfl _ _ (hrz _) ?_)
  | (at_builtin;refine wpList_copy_runI _ rfl _ _ (ρ.t 24) (ρ.t 24) rfl _ _ rfl rfl (hcpA _ hE1 hE2 _ _) ?_)
  | (at_builtin;refine wpList_copy_runI _ rfl _ _ (ρ.t 24) (ρ.t 24) rfl _ _ rfl rfl (hcpB _ (fun _=>rfl) (fun _=>rfl) _ _ _) ?_))
 go_region_law_o (refine step_copy_runI rfl _ _ (ρ.t 24) (ρ.t 24) rfl (.slice (some ⟨w.heap.size,(i+m)*k,none⟩) (n+m - (i+m)) (G - (i+m))) (.slice (some ⟨b,off+i*k,none⟩) (n - i) (c - i)) (by simp[Act.eval,Act.put]) (by simp[Act.eval,Act.put]) (hcpB _ hF1 hF2 (ρ.t 3) (G - (i+m)) (c - i)) ?_)
 go_wp2
 go_ret
 exact⟨rfl,rfl⟩
end Go.Dn
namespace Go.Dn
open Go.Proofs Go.Shelf Go.RowKit Go.Lib
section
variable {P:Program} {G:Gh} {w w':World} {ow:Nat->Option Nat} {e:TypeId} {t:Ty}
def NI (e:TypeId) (t:Ty) (b:Nat):av:=⟨[.row e t,.val tI,.row e t],[.row e t],fun x=>Sq b (show List t.den from x.1) x.2.1 (show List t.den from x.2.2.1)⟩
theorem AA {b:Nat} {args:List Value} {L:List t.den} {g cap:Nat} {cur':Array Value} {xs:List Value} (hagr:Agr G w) (h1:w'.heap[g]? =some (.cells cur' e (0,0))) (h2:L.length<=cap) (h3:cap<=maxLen) (h4:cur'.size=cap*t.size) (h5:cur'.toList.take (L.length*t.size)=xs) (hx:xs.length=L.length*t.size) (hrep:bN (aB G t) L xs) (hos:w'.os=w.os) (hout:w'.output=w.output) (hsz:w.heap.size<=w'.heap.size) (hoth:∀ k,k<w.heap.size->k≠g->w'.heap[k]? =w.heap[k]?) (hG:G g=none) (hnew:w.heap.size<=g\/ow g≠none): ∃ G' ow' vs,Fc G w ow (NI e t b) args (L,()) (.returned (.slice (some ⟨g,0,none⟩) L.length cap)) w' G' ow' vs:=by
 refine⟨G,fun b=>if b=g then some (64*24) else none,[.slice (some ⟨g,0,none⟩) L.length cap], ?_⟩
 exact {
  ret:=rfl
  le:=Gh.le_refl G
  agr:=fun b o hb=>by
   have hw:=hagr b o hb
   have hne:b≠g:=fun e=>by rw[e,hG] at hb;cases hb
   rw[hoth b (bf hw) hne];exact hw
  size:=hsz
  os:=hos
  output:=hout
  old:=fun b hb hob=>by
   have hne:b≠g:=fun e=>by
    subst e
    rcases hnew with h | h
    ·omega
    ·exact h hob
   exact⟨hoth b hb hne,rfl⟩
  own:=fun b i hb=>by
   by_cases e:b=g
   ·subst e;exact⟨hG,bf h1,hnew⟩
   ·simp only[e,agc] at hb;cases hb
  out:=by
   refine⟨_,[],rfl,⟨⟨xs,⟨hx,.inr ⟨g,cap,cur',rfl,afN _,h1,h2,h3,h4,h5⟩⟩,hrep⟩,fun b hb=> ?_⟩,rfl,trivial⟩
   have:some g=some b:=hb
   cases this
   show (if g=g then some (64*24) else none)=_
   simp
  hnd:=fun _=>rfl }
theorem YG {ρ:Ren} {bytes:Nat} {z:Value} (L:xJ P ρ t.size bytes z) {l v r:List t.den} {i:Int} {s u:Value} {xs ys:List Value} (hG:Agr G w) (how:∀ b i,ow b=some i->G b=none/\b<w.heap.size) (hown:w.ownsRow 0 (ρ.t 9) t.size s l.length xs) (hrep:bN (aB G t) l xs) (hobl:∀ b,s.ownBlock=some b->ow b=some 0) (hsrc:v≠[]->∃ vb voff vc vT cv,u= .slice (some ⟨vb,voff,none⟩) v.length vc/\w.shape? vb=some (vT,cv)/\cv≠0/\(∀ g,s.ownBlock=some g->vb≠g)/\ys.length=v.length*t.size/\∀ (j:Nat) (z:Value),ys[j]? =some z->w.cell? ⟨vb,voff+j,none⟩=some z) (hrep2:bN (aB G t) v ys) (hm:Sq bytes l i v=some (r,())):Calls P (ρ.f 22) #[s,.int .i64 i,u] w fun e w'=>∃ G' ow' vs,Fc G w ow (NI (ρ.t 9) t bytes) [s,.int .i64 i,u] (r,()) e w' G' ow' vs:=by
 unfold Sq at hm
 cases hb:(decide (0<=i)&&(decide (i<=(l.length:Int))&&(decide (0<v.length)&&(decide ((l.length+v.length)*bytes<=140737488355328)&&decide (l.length+v.length<=4611686018427387904))))) with
 | false=>rw[hb] at hm;cases hm
 | true=>
  rw[hb] at hm
  simp only[af2,Option.some.injEq,Prod.mk.injEq,afW] at hm
  subst hm
  simp only[adf,af7] at hb
  obtain⟨b1,b2,b3,b4,b5⟩:=hb
  obtain⟨q,rfl⟩:∃ q:Nat,i=(q:Int):=⟨i.toNat,by omega⟩
  have hq:q<=l.length:=by omega
  simp only[adN]
  have hlen:∀ x cs,aB G t x cs->cs.length=t.size:=fun x cs h=>aB.len h
  have hxl:=hown.1
  obtain⟨vb,voff,vc,vT,cvn,rfl,hshape,hcv0,hvne,hyl,hvcell⟩:=hsrc (fun e=>by rw[e] at b3;simp at b3)
  have hRr:bN (aB G t) (l.take q++(v++l.drop q)) (xs.take (q*t.size)++(ys++xs.drop (q*t.size))):=
   bN.append (bN.take hlen hrep q) (bN.append hrep2 (bN.drop hlen hrep q))
  generalize hR:l.take q++(v++l.drop q)=R at hRr
  have hRl:R.length=l.length+v.length:=by rw[<- hR];simp;omega
  have hm1:(l.length+v.length)*t.size=l.length*t.size+v.length*t.size:=afl _ _ _
  have hm2:q*t.size<=l.length*t.size:=afF _ hq
  have hm3:(q+v.length)*t.size=q*t.size+v.length*t.size:=afl _ _ _
  have hRcl:(xs.take (q*t.size)++(ys++xs.drop (q*t.size))).length=R.length*t.size:=by
   rw[hRl,hm1];simp only[aev,aeH,aex,hxl,hyl,afC hm2];omega
  have onex:∀ z∈xs,z.oneCell'=true:=bN.one hrep
  have oney:∀ z∈ys,z.oneCell'=true:=bN.one hrep2
  have hk0:=L.k0
  have lZ:l.length+v.length<=maxLen:=by simp only[maxLen];omega
  have hGnew:G w.heap.size=none:=by
   cases h:G w.heap.size with
   | none=>rfl
   | some o=>have:=bf (hG _ _ h);omega
  have hgr:∀ c,l.length+v.length<=grownCap w (l.length+v.length) c (ρ.t 9)/\grownCap w (l.length+v.length) c (ρ.t 9)<=maxLen:=fun c=>⟨grownCap_ge _ _ _ _,grownCap_le_maxLen _ _ _ _ lZ⟩
  have endGrow:∀ (base:Option Addr) (c:Nat),l.length<=c->c<l.length+v.length->(base=none->l.length=0)->(∀ a,base=some a->∀ (j:Nat) (z:Value),xs[j]? =some z->w.cell? (a.add j)=some z)->q=l.length->
   Calls P (ρ.f 22) #[.slice base l.length c,.int .i64 (q:Int),.slice (some ⟨vb,voff,none⟩) v.length vc] w fun e w'=>∃ G' ow' vs,Fc G w ow (NI (ρ.t 9) t bytes) [.slice base l.length c,.int .i64 (q:Int),.slice (some ⟨vb,voff,none⟩) v.length vc] (R,()) e w' G' ow' vs:=by
   intro base c hc hroom hnil hcs hkl
   subst hkl
   have:=RN L base l.length c vb voff v.length vc xs ys w b3 hc hroom b4 b5 hxl hyl hnil hcs hvcell oney
   refine this.mono ?_
   rintro e w' ⟨rfl,rfl⟩
   have hg:=hgr c
   rw[<- hRl] at hg ⊢
   refine AA hG (heap_alloc_new w.drew _) hg.1 hg.2 ?_ ?_ hRcl hRr rfl rfl (by simp) (fun q hq hne=>heap_alloc_old w.drew _ hq) hGnew (.inl (aft _))
   ·simp only[Array.size_append,afa,aev,w8,L.zc]
    rw[hxl,hyl, <- afl, <- hRl, <- afl];congr 1;omega
   ·simp only[Array.toList_append]
    rw[afe (by simp[hxl,hyl];rw[hRl,hm1];omega),afh (by simp[hxl,hyl];rw[hRl,hm1];omega)]
    rw[afh (by omega),ad2 (by omega),adU]
  rcases hown.2 with ⟨rfl,hl0⟩ | ⟨g,cap,cur,rfl,_,hgb,hln,hcm,hcs,hct⟩
  ·have hk0:q=l.length:=by omega
   have:=endGrow none 0 (by omega) (by omega) (fun _=>hl0) (fun a h=>by cases h) hk0
   rw[hl0] at this
   exact this
  ·have hgOw:ow g=some 0:=hobl g rfl
   have hne:vb≠g:=hvne g rfl
   have hGg:=(how g _ hgOw).1
   have hcell:∀ (j:Nat) (z:Value),xs[j]? =some z->w.cell? ⟨g,0+j,none⟩=some z:=fun j z hj=>by
    rw[<- hct] at hj
    have hjl:j<l.length*t.size:=by
     have:=(aej.1 hj).1
     simp at this;omega
    rw[aer hjl] at hj
    simp[World.cell?,hgb]
    simpa using hj
   have hsome:∀ j,j<cap*t.size->(w.cell? ⟨g,0+j,none⟩).isSome=true:=fun j hj=>by
    simp[World.cell?,hgb];omega
   have hfz:∀ b' c' e',w.heap[b']? =some (.cells c' e' (0,0))->∀ o',w.frozen? ⟨b',o',none⟩=false:=fun b' c' e' h o'=>by
    simp[World.frozen?,h]
   have hc63:cap<=9223372036854775807:=by simp only[maxLen] at hcm;omega
   by_cases hroom:l.length+v.length<=cap
   ·have hcapm:(l.length+v.length)*t.size<=cap*t.size:=afF _ hroom
    by_cases hkl:q=l.length
    ·subst hkl
     have:=RO L g 0 l.length cap vb voff v.length vc ys w b3 hroom hc63 hyl (fun j hj=>by have:=hsome (l.length*t.size+j) (by omega);rw[show 0+l.length*t.size+j=0+(l.length*t.size+j) by omega];exact this) (fun j _=>hfz _ _ _ hgb _) hvcell oney
     refine this.mono ?_
     rintro e w' ⟨rfl,rfl⟩
     obtain⟨cur',h1,h2⟩:=ke g (ρ.t 9) ys (0+l.length*t.size) w cur hgb (by omega)
     obtain⟨r1,r2,r3,r4⟩:=mm g ys (0+l.length*t.size) w
     have hsz:cur'.size=cap*t.size:=by
      have:=congrArg List.length h2
      simp at this;omega
     rw[<- hRl]
     refine AA hG h1 (by omega) hcm hsz ?_ hRcl hRr r1 r2 (by rw[r3];exact aft _) (fun q _ hq=>r4 q hq) hGg (.inr (by rw[hgOw];simp))
     rw[h2,afM,hct, <- adT,afh (show xs.length<=l.length*t.size by omega),ad2 (show xs.length<=l.length*t.size by omega),adU]
     have:R.length*t.size=(xs++ys).length:=by simp[hRl,hxl,hyl,hm1]
     rw[this,aff]
    ·have hkl':q<l.length:=by omega
     have:=Xc L g 0 l.length cap q vb voff v.length vc xs ys w hkl' b3 hroom hc63 hne hxl hyl hcell (fun j hj=>hsome j (by omega)) (fun j _=>hfz _ _ _ hgb _) hvcell onex oney
      vT (ρ.t 9) cvn cur.size hshape (by simp[World.shape?,hgb]) hcv0 (hfz _ _ _ hgb _) (hfz _ _ _ hgb _)
     refine this.mono ?_
     rintro e w' ⟨rfl,rfl⟩
     have hdl:(xs.drop (q*t.size)).length=l.length*t.size - q*t.size:=by rw[aex,hxl]
     obtain⟨cur1,h1,h2⟩:=ke g (ρ.t 9) (xs.drop (q*t.size)) (0+(q+v.length)*t.size) w.drew cur hgb (by omega)
     obtain⟨r1,r2,r3,r4⟩:=mm g (xs.drop (q*t.size)) (0+(q+v.length)*t.size) w.drew
     have hsz1:cur1.size=cap*t.size:=by
      have:=congrArg List.length h2
      simp at this;omega
     obtain⟨cur',h3,h4⟩:=ke g (ρ.t 9) ys (0+q*t.size) _ cur1 h1 (by omega)
     obtain⟨q1,q2,q3,q4⟩:=mm g ys (0+q*t.size) (w.drew.setCells g (0+(q+v.length)*t.size) (xs.drop (q*t.size)))
     have hsz:cur'.size=cap*t.size:=by
      have:=congrArg List.length h4
      simp at this;omega
     rw[<- hRl]
     refine AA hG h3 (by omega) hcm hsz ?_ hRcl hRr (q1.trans r1) (q2.trans r2) (by rw[q3,r3];exact aft _) (fun q _ hq=>(q4 q hq).trans (r4 q hq)) hGg (.inr (by rw[hgOw];simp))
     have t1:cur1.toList.take (q*t.size)=xs.take (q*t.size):=by
      rw[h2,afe (by simp;omega),afi,afC (by omega), <- hct,afi,afC (by omega)]
     have t2:cur1.toList.drop ((q+v.length)*t.size)=xs.drop (q*t.size)++cur.toList.drop (0+(q+v.length)*t.size+(xs.drop (q*t.size)).length):=by
      rw[h2,List.drop_append_of_le_length (by simp;omega),ad2 (by simp;omega)]
      rfl
     rw[h4,afM,t1,show q*t.size+ys.length=(q+v.length)*t.size by omega,t2, <- adT, <- adT]
     have:R.length*t.size=(xs.take (q*t.size)++ys++xs.drop (q*t.size)).length:=by rw[hRl,hm1];simp only[aev,aeH,aex,hxl,hyl,afC hm2];omega
     rw[this,aff,adT]
   ·by_cases hkl:q=l.length
    ·exact endGrow (some ⟨g,0,none⟩) cap hln (by omega) (fun h=>by cases h) (fun a h j z hj=>by cases h;rw[Addr.add_lit];exact hcell j z hj) hkl
    ·have hkl':q<l.length:=by omega
     have:=YH L g 0 l.length cap q vb voff v.length vc xs ys w hkl' b3 hln (by omega) b4 b5 hxl hyl hcell hvcell onex oney
     refine this.mono ?_
     rintro e w' ⟨rfl,rfl⟩
     have hg:=hgr cap
     have hgm:(l.length+v.length)*t.size<=grownCap w (l.length+v.length) cap (ρ.t 9)*t.size:=afF _ hg.1
     have hdl:(xs.drop (q*t.size)).length=l.length*t.size - q*t.size:=by rw[aex,hxl]
     generalize hA:(xs.take (q*t.size)).toArray++Builtin.zeroCells z.cells (l.length+v.length - q)++Builtin.zeroCells z.cells (grownCap w (l.length+v.length) cap (ρ.t 9) - (l.length+v.length))=A
     have hAs:A.size=grownCap w (l.length+v.length) cap (ρ.t 9)*t.size:=by
      rw[<- hA]
      simp only[Array.size_append,afa,aeH,w8,L.zc]
      rw[hxl,afC hm2, <- afl, <- afl];congr 1;omega
     have hAt:A.toList.take (q*t.size)=xs.take (q*t.size):=by
      rw[<- hA]
      simp only[Array.toList_append,adT]
      rw[afe (by simp;omega)]
      show List.take (q*t.size) (xs.take (q*t.size))=_
      rw[afi,Nat.min_self]
     obtain⟨cur1,h1,h2⟩:=ke w.heap.size (ρ.t 9) ys (q*t.size) (w.alloc (.cells A (ρ.t 9))).drew A (heap_alloc_new w _) (by omega)
     obtain⟨r1,r2,r3,r4⟩:=mm w.heap.size ys (q*t.size) (w.alloc (.cells A (ρ.t 9))).drew
     have hsz1:cur1.size=A.size:=by
      have:=congrArg List.length h2
      simp at this;omega
     obtain⟨cur',h3,h4⟩:=ke w.heap.size (ρ.t 9) (xs.drop (q*t.size)) ((q+v.length)*t.size) ((w.alloc (.cells A (ρ.t 9))).drew.setCells w.heap.size (q*t.size) ys).drew cur1 h1 (by omega)
     obtain⟨q1,q2,q3,q4⟩:=mm w.heap.size (xs.drop (q*t.size)) ((q+v.length)*t.size) ((w.alloc (.cells A (ρ.t 9))).drew.setCells w.heap.size (q*t.size) ys).drew
     have hsz:cur'.size=A.size:=by
      have:=congrArg List.length h4
      simp at this;omega
     rw[<- hRl] at hg hAs ⊢
     refine AA hG h3 hg.1 hg.2 (hsz.trans hAs) ?_ hRcl hRr (q1.trans r1) (q2.trans r2) (by rw[q3];show w.heap.size<=(World.setCells _ _ _ _).heap.size;rw[r3];simp) (fun q hq hne=>by
      rw[q4 q hne]
      show (World.setCells _ _ _ _).heap[q]? =_
      rw[r4 q hne]
      exact heap_alloc_old w _ hq) hGnew (.inl (aft _))
     have t1:cur1.toList.take ((q+v.length)*t.size)=xs.take (q*t.size)++ys:=by
      rw[h2,hAt, <- adT]
      have:(q+v.length)*t.size=(xs.take (q*t.size)++ys).length:=by simp only[aev,aeH,hxl,hyl,afC hm2];omega
      rw[this,aff]
     rw[h4,t1, <- adT]
     have:R.length*t.size=(xs.take (q*t.size)++ys++xs.drop (q*t.size)).length:=by rw[hRl,hm1];simp only[aev,aeH,aex,hxl,hyl,afC hm2];omega
     rw[this,aff,adT]
theorem Xd {ρ:Ren} {bytes:Nat} {z:Value} (L:xJ P ρ t.size bytes z):ig P (ρ.f 22) (NI (ρ.t 9) t bytes):=by
 intro G w ow args x y hG how ha hm _
 obtain⟨l,i,v,u⟩:=x
 obtain⟨r,u'⟩:=y
 obtain⟨s,us,a1,_,⟨⟨xs,hown,hrep⟩,hobl⟩,iv,us2,a2,_,hiv,t',us3,a3,_,⟨⟨ys,hown2,hrep2⟩,hobl2⟩,a4⟩:=ha
 have e1:=a1 rfl
 have e2:=a2 rfl
 have e3:=a3 rfl
 have e4:us3=[]:=a4
 have e5:iv= .int .i64 i:=by simpa [Fb,bX,aB,tI] using hiv
 subst e1;subst e2;subst e3;subst e4;subst e5
 refine YG (l:=l) (v:=v) (r:=r) (i:=i) L hG how hown hrep hobl (ys:=ys) (fun hv=> ?_) hrep2 hm
 rcases hown2.2 with ⟨_,hv0⟩ | ⟨vb,vc,cv,e,_,hvb,hvn,_,hvs,hvt⟩
 ·exact absurd (aey.1 hv0) hv
 have hvpos:0<v.length:=aeD.2 hv
 have hyl:=hown2.1
 refine⟨vb,0,vc,ρ.t 9,cv.size,e,by simp[World.shape?,hvb], ?_,fun g hg e2=> ?_,hyl,fun j z hj=> ?_⟩
 ·have:=Nat.mul_pos hvpos L.k0
  have h2:=congrArg List.length hvt
  simp[hyl] at h2
  omega
 ·have h1:=hobl g hg
  have h2:=hobl2 vb (by rw[e];rfl)
  rw[e2,h1] at h2;cases h2
 ·rw[<- hvt] at hj
  have hjl:j<v.length*t.size:=by
   have:=(aej.1 hj).1
   simp at this;omega
  rw[aer hjl] at hj
  simp[World.cell?,hvb]
  simpa using hj
end
end Go.Dn
