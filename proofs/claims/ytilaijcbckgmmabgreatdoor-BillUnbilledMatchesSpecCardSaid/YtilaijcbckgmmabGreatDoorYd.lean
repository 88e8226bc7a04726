/-
  The executor, its fifth part: whole functions are sound. No condition.
-/
import Derived.Test.YtilaijcbckgmmabGreatDoorYe
import Derived.ReadAgain
import Derived.ChangeSame
import Derived.ChangeArms
import Derived.ChangeOld
import Derived.OpenShut
import Derived.ProofKit
import Derived.WalkKit
import Derived.Deep.DeepHandedRow
import Derived.Lib.LaidTab
import Derived.Shelf.Spec.SlicesInsertGrow
import Derived.Shelf.Spec.SlicesGrow
import Derived.Shelf.Vars
import Derived.Stop.LaidErr
import Derived.Shelf.SlGeneric
import Derived.Shelf.SortM.Plain
import Derived.Shelf.SortM.SortNone
set_option linter.all false
namespace Go.Dn
variable {X:Cx} {C:Fr X.P}
def Ex.JZ:Ex->Exit
 | .normal=> .normal
 | .exit id=> .exit id
 | .ret=> .ret
theorem Vh {β:Type} {A:Ann} {c:Code} {len:Nat} {anns:List (Nat×Ann)} {K:Ex->St->Option β} {r:β} {Q:Exit->Act->World->Prop}
 (ih:∀ {S:St} {K:Ex->St->Option β} {r:β},den X anns c β S K=some r->∀ {Q:Exit->Act->World->Prop},
   (∀ e S' G ρ w a,K e S'=some r->Mod C G ρ S' w a->Q e.JZ a w)->∀ {G ρ w a},Mod C G ρ S w a->c.wp X.P Q a w)
 (hQ:∀ e S' G ρ w a,K e S'=some r->Mod C G ρ S' w a->Q e.JZ a w):∀ (n:Nat) (x:dn A.cks) (G:Gh) (ρ:Env) (w:World) (a:Act),
 iter n x (fun x again=>den X anns c β (head A len x) fun e S'=>match e with
  | .normal=>match carry A S' with
   | some y=>bif Nat.beq S'.tmps.length len then again y else none
   | none=>none
  | .exit j=>K (.exit j) S'
  | .ret=>K .ret S')=some r->Mod C G ρ (head A len x) w a->Code.rounds X.P c Q n a w
 | 0,x,G,ρ,w,a,h,hM=>by simp[iter] at h
 | n+1,x,G,ρ,w,a,h,hM=>by
  simp only[iter] at h
  refine ih h (fun e S' G' ρ' w' a' hk hM'=> ?_) hM
  cases e with
  | normal=>
   simp only at hk
   split at hk
   ·rename_i y hy
    cases hb:Nat.beq S'.tmps.length len with
    | false=>rw[hb] at hk;cases hk
    | true=>
     rw[hb] at hk
     simp only[aiz] at hk
     obtain⟨G2,ρ2,h2⟩:=TU hM' hy
     rw[ahU hb] at h2
     exact Vh ih hQ n y G2 ρ2 w' a' hk h2
   ·cases hk
  | exit id=>exact hQ (.exit id) S' G' ρ' w' a' hk hM'
  | ret=>exact hQ .ret S' G' ρ' w' a' hk hM'
theorem Si {β γ:Type} {x:Option (β ⊕ γ)} {f:γ->Option β} {r:β} (h:aB x f=some r):∃ q,x=some q/\(q= .inl r\/∃ v,q= .inr v/\f v=some r):=by
 unfold aB at h
 split at h
 ·cases h
 ·cases h;exact⟨_,rfl,.inl rfl⟩
 ·rename_i v;exact⟨_,rfl,.inr ⟨v,rfl,h⟩⟩
theorem Au {β γ:Type} {x:Option β} {q:β ⊕ γ} (h:IE x=some q):∃ r,x=some r/\q= .inl r:=by
 unfold IE at h
 split at h
 ·cases h;exact⟨_,rfl,rfl⟩
 ·cases h
theorem ab0 {β:Type} {A:Ann} {n:Nat} {S:St} {q:β ⊕ dn A.cks} (h:meet A n S=some q):∃ v,carry A S=some v/\S.tmps.length=n/\q= .inr v:=by
 unfold meet at h
 split at h
 ·rename_i v hv
  cases hb:Nat.beq S.tmps.length n with
  | false=>rw[hb] at h;cases h
  | true=>rw[hb] at h;simp only[aiz,Option.some.injEq] at h;exact⟨v,hv,ahU hb,h.symm⟩
 ·cases h
theorem Oq {β:Type} {A:Ann} {n:Nat} {K:Ex->St->Option β} {r:β} {Q:Exit->Act->World->Prop} (hQ:∀ e S' G ρ w a,K e S'=some r->Mod C G ρ S' w a->Q e.JZ a w) {q:β ⊕ dn A.cks} (hq:q= .inl r\/∃ v,q= .inr v/\K .normal (head A n v)=some r) {S':St} {G:Gh} {ρ:Env} {w:World} {a:Act} (hM:Mod C G ρ S' w a) (h:meet A n S'=some q):Q .normal a w:=by
 obtain⟨v,h1,h2,h3⟩:=ab0 h
 rcases hq with hq | ⟨v',hq,hk⟩
 ·rw[h3] at hq;cases hq
 ·rw[h3] at hq
  cases hq
  obtain⟨G2,ρ2,hm⟩:=TU hM h1
  rw[h2] at hm
  exact hQ .normal _ G2 ρ2 w a hk hm
theorem abb {β:Type} {a b:Option β} {r:β} (h:both a b=some r):a=some r/\b=some r:=by
 unfold both at h
 split at h
 ·rename_i e;exact⟨h,e ▸ h⟩
 ·cases h
theorem Jo (hX:bX X) (hmix:X.P.follows .mixedOrders=true) (anns:List (Nat×Ann)):∀ (c:Code) {β:Type} {S:St} {K:Ex->St->Option β} {r:β},den X anns c β S K=some r->∀ {Q:Exit->Act->World->Prop}, (∀ e S' G ρ w a,K e S'=some r->Mod C G ρ S' w a->Q e.JZ a w)->∀ {G ρ w a},Mod C G ρ S w a->c.wp X.P Q a w:=by
 intro c
 induction c with
 | skip=>
  intro β S K r h Q hQ G ρ w a hM
  exact wp_skip (hQ .normal S G ρ w a h hM)
 | region id ops dr=>
  intro β S K r h Q hQ G ρ w a hM
  simp only[den] at h
  split at h
  ·rename_i A hA
   obtain⟨v,hv,h⟩:=bind_some h
   have:=aeq hX hmix hv (Q:=Q) (fun S' G ρ w a hk hJ hM=>hQ .normal _ G ρ w a h (abO hJ hk hM)) hM id
   simpa using this
  ·cases dr with
   | true=>
    simp only[aiz] at h
    have:=aaR hX hmix h (Q:=Q) (fun S' G ρ w a hk hM=>hQ .normal S' G ρ w a hk hM) hM id
    simpa using this
   | false=>
    simp only[aiy] at h
    refine wp_region_list ?_
    have:=wJ hX ops.toList ops.toList h (Q:=Q) (fun S' G ρ w a hk hM=>hQ .normal S' G ρ w a hk hM) hM
    simpa using this
 | seq x y ihx ihy=>
  intro β S K r h Q hQ G ρ w a hM
  simp only[den] at h
  refine wp_seq (ihx h (fun e S' G' ρ' w' a' hk hM'=> ?_) hM)
  cases e with
  | normal=>exact ihy hk hQ hM'
  | exit id=>exact hQ (.exit id) S' G' ρ' w' a' hk hM'
  | ret=>exact hQ .ret S' G' ρ' w' a' hk hM'
 | cond b x y ihx ihy=>
  intro β S K r h Q hQ G ρ w a hM
  simp only[den] at h
  split at h
  ·rename_i t ht
   have hv:=hM.tmps.ev b
   rw[ht] at hv
   split at h
   ·rename_i A hA
    obtain⟨q,h1,hq⟩:=Si h
    refine wp_cond_split (t:=t) hv (fun e=> ?_) (fun e=> ?_)
    ·subst e
     simp only[aiz] at h1
     refine ihx h1 (fun e S' G' ρ' w' a' hk hM'=> ?_) hM
     cases e with
     | normal=>exact Oq hQ hq hM' hk
     | exit j=>
      obtain⟨r',hr,hr2⟩:=Au hk
      rcases hq with hq | ⟨v,hq,_⟩
      ·rw[hr2] at hq;cases hq;exact hQ (.exit j) S' G' ρ' w' a' hr hM'
      ·rw[hr2] at hq;cases hq
     | ret=>
      obtain⟨r',hr,hr2⟩:=Au hk
      rcases hq with hq | ⟨v,hq,_⟩
      ·rw[hr2] at hq;cases hq;exact hQ .ret S' G' ρ' w' a' hr hM'
      ·rw[hr2] at hq;cases hq
    ·subst e
     simp only[aiy] at h1
     refine ihy h1 (fun e S' G' ρ' w' a' hk hM'=> ?_) hM
     cases e with
     | normal=>exact Oq hQ hq hM' hk
     | exit j=>
      obtain⟨r',hr,hr2⟩:=Au hk
      rcases hq with hq | ⟨v,hq,_⟩
      ·rw[hr2] at hq;cases hq;exact hQ (.exit j) S' G' ρ' w' a' hr hM'
      ·rw[hr2] at hq;cases hq
     | ret=>
      obtain⟨r',hr,hr2⟩:=Au hk
      rcases hq with hq | ⟨v,hq,_⟩
      ·rw[hr2] at hq;cases hq;exact hQ .ret S' G' ρ' w' a' hr hM'
      ·rw[hr2] at hq;cases hq
   ·refine wp_cond_split (t:=t) hv (fun e=> ?_) (fun e=> ?_)
    ·subst e;exact ihx h hQ hM
    ·subst e;exact ihy h hQ hM
  ·rename_i t ht
   have hv:=hM.tmps.ev b
   rw[ht] at hv
   obtain⟨c,hc,hf⟩:=(hv:bz G ρ (.nb t) _)
   cases t with
   | false=>
    have:=hf rfl
    subst this
    exact wp_cond_split (t:=false) hc (fun e=>by cases e) (fun _=>ihy h hQ hM)
   | true=>
    obtain⟨h1,h2⟩:=abb h
    exact wp_cond_split (t:=c) hc (fun _=>ihx h1 hQ hM) (fun _=>ihy h2 hQ hM)
  ·cases h
 | block id x ih=>
  intro β S K r h Q hQ G ρ w a hM
  simp only[den] at h
  split at h
  ·rename_i A hA
   obtain⟨q,h1,hq⟩:=Si h
   refine wp_block (ih h1 (fun e S' G' ρ' w' a' hk hM'=> ?_) hM)
   cases e with
   | normal=>exact Oq hQ hq hM' hk
   | exit j=>
    simp only at hk
    simp only[Ex.JZ,Exit.inBlock]
    split at hk
    ·rename_i hb
     rw[aiM (ahU hb)]
     exact Oq hQ hq hM' hk
    ·rename_i hb
     rw[aiL (fun e=>hb (by rw[e];simp))]
     obtain⟨r',hr,hr2⟩:=Au hk
     rcases hq with hq | ⟨v,hq,_⟩
     ·rw[hr2] at hq;cases hq;exact hQ (.exit j) S' G' ρ' w' a' hr hM'
     ·rw[hr2] at hq;cases hq
   | ret=>
    obtain⟨r',hr,hr2⟩:=Au hk
    rcases hq with hq | ⟨v,hq,_⟩
    ·rw[hr2] at hq;cases hq;exact hQ .ret S' G' ρ' w' a' hr hM'
    ·rw[hr2] at hq;cases hq
  ·refine wp_block (ih h (fun e S' G' ρ' w' a' hk hM'=> ?_) hM)
   cases e with
   | normal=>exact hQ .normal S' G' ρ' w' a' hk hM'
   | exit j=>
    simp only at hk
    simp only[Ex.JZ,Exit.inBlock]
    split at hk
    ·rename_i hb
     rw[aiM (ahU hb)]
     exact hQ .normal S' G' ρ' w' a' hk hM'
    ·rename_i hb
     rw[aiL (fun e=>hb (by rw[e];simp))]
     exact hQ (.exit j) S' G' ρ' w' a' hk hM'
   | ret=>exact hQ .ret S' G' ρ' w' a' hk hM'
 | loop x ih=>
  intro β S K r h Q hQ G ρ w a hM
  simp only[den] at h
  split at h
  ·rename_i A hA
   split at h
   ·rename_i y hy
    obtain⟨G2,ρ2,h2⟩:=TU hM hy
    exact wp_loop_rounds (A.fuel y) (Vh ih hQ (A.fuel y) y G2 ρ2 w a h h2)
   ·cases h
  ·cases h
 | exit id=>
  intro β S K r h Q hQ G ρ w a hM
  exact wp_exit (hQ (.exit id) S G ρ w a h hM)
 | ret=>
  intro β S K r h Q hQ G ρ w a hM
  exact wp_ret (hQ .ret S G ρ w a h hM)
 | _=>
  intro β S K r h
  simp[den] at h
end Go.Dn
namespace Go.Dn
variable {X:Cx} {C:Fr X.P} {G:Gh} {ρ:Env} {w:World}
def fM (ρ:Env):Nat->List PM->List Value->Prop
 | _,[],_=>True
 | i,.mrow _ _::r,vs=>(vs.head? =some (ρ.rw (pid i 0))/\∃ a n c,ρ.rw (pid i 0)= .slice a n c)/\fM ρ (i+1) r vs.tail
 | i,.map _ _::r,vs=>(vs.head? =some (ρ.ob (pid i 0))/\∃ b,ρ.ob (pid i 0)= .map (some b))/\fM ρ (i+1) r vs.tail
 | i,.box _::r,vs=>vs.head? =some (.pointer (some ⟨ρ.bx (2000+i),0,none⟩))/\fM ρ (i+1) r vs.tail
 | i,.ar _::r,vs=>fM ρ (i+1) r vs
 | i,.arR _::r,vs=>fM ρ (i+1) r vs
 | i,.val _::r,vs=>fM ρ (i+1) r vs.tail
 | i,.row _ _::r,vs=>fM ρ (i+1) r vs.tail
theorem ZJ (i:Nat):10000000<=pid i 0:=by simp only[pid,pD,nid];omega
theorem fM.congr {ρ ρ':Env} (hb:∀ k,2000<=k->ρ'.bx k=ρ.bx k) (hr:∀ k,10000000<=k->ρ'.rw k=ρ.rw k/\ρ'.ob k=ρ.ob k):∀ {ps:List PM} {i:Nat} {vs:List Value},fM ρ i ps vs->fM ρ' i ps vs
 | [],_,_,_=>trivial
 | .mrow _ _::r,i,vs,h=>by
  simp only[fM] at h ⊢
  rw[(hr _ (ZJ i)).1];exact⟨h.1,h.2.congr hb hr⟩
 | .map _ _::r,i,vs,h=>by
  simp only[fM] at h ⊢
  rw[(hr _ (ZJ i)).2];exact⟨h.1,h.2.congr hb hr⟩
 | .box _::r,i,vs,h=>by
  simp only[fM] at h ⊢
  rw[hb _ (by omega)];exact⟨h.1,h.2.congr hb hr⟩
 | .ar _::r,i,vs,h=>fM.congr (ps:=r) hb hr h
 | .arR _::r,i,vs,h=>fM.congr (ps:=r) hb hr h
 | .val _::r,i,vs,h=>fM.congr (ps:=r) hb hr h
 | .row _ _::r,i,vs,h=>fM.congr (ps:=r) hb hr h
theorem Trans.refl (G:Gh) (b:Bool):Trans G G b:=⟨fun _ _ h=>h,.inr (Gh.le_refl G)⟩
theorem mZ {ow:Nat->Option Nat}:∀ {ps:List PM} {i:Nat} {x:eG ps} {vs:List Value},iE G w ow i ps x vs-> ∃ vals:List (bB×Value),vals.map (·.1)=(cW i ps).map (·.1)/\(∀ k v,(.inl k,v)∈vals->∃ b,v= .pointer (some ⟨b,0,none⟩))/\ ∀ ρ:Env,(∀ o v,(o,v)∈vals->Asg ρ w o v)->(∀ o n,(o,n)∈cW i ps->∀ b,ow b=some n->ρ.own b=some o)-> aU (bE G ρ) (fJ i ps x) vs/\kD G ρ w (qK i ps x) (pg i ps x) (gP i ps x)/\fM ρ i ps vs
 | [],i,x,vs,h=>⟨[],rfl,fun k v h=>by simp at h,fun ρ _ _=>⟨h,kD.nil,trivial⟩⟩
 | .val t::r,i,x,vs,⟨v,us,h1,_,hv,hu⟩=>by
  obtain⟨vals,e,hp,hr⟩:=mZ hu
  refine⟨vals,e,hp,fun ρ hA hO=> ?_⟩
  obtain⟨g1,g2,g3⟩:=hr ρ hA hO
  rw[h1 rfl]
  exact⟨⟨v,us,rfl,Cy ρ hv,g1⟩,g2,g3⟩
 | .row e' t::r,i,x,vs,⟨v,us,h1,_,⟨hv,hv2⟩,hu⟩=>by
  obtain⟨vals,e,hp,hr⟩:=mZ hu
  refine⟨(.inr (pid i 0),v)::vals,by simp[cW,e],fun k v h=>hp k v (by simpa using h),fun ρ hA hO=> ?_⟩
  obtain⟨g1,g2,g3⟩:=hr ρ (fun o v h=>hA o v (by simp[h])) (fun o n h=>hO o n (by simp[cW,h]))
  have hav:ρ.rw (pid i 0)=v:=hA (.inr (pid i 0)) v (by simp)
  rw[h1 rfl]
  refine⟨⟨v,us,rfl,⟨hav.symm,hv.isSlice⟩,g1⟩,⟨g2.bx,fun j q hj=> ?_,g2.ob⟩,g3⟩
  simp only[pg,aC] at hj
  split at hj
  ·rename_i ej
   subst ej
   cases hj
   exact hv.ok (Trans.refl G _) hav (fun b hb=>hO _ _ (by simp[cW]) b (hv2 b hb))
  ·exact g2.rw j q hj
 | .mrow e' t::r,i,x,vs,⟨v,us,h1,_,⟨hv,hv2⟩,hu⟩=>by
  obtain⟨vals,e,hp,hr⟩:=mZ hu
  refine⟨(.inr (pid i 0),v)::vals,by simp[cW,e],fun k v h=>hp k v (by simpa using h),fun ρ hA hO=> ?_⟩
  obtain⟨g1,g2,g3⟩:=hr ρ (fun o v h=>hA o v (by simp[h])) (fun o n h=>hO o n (by simp[cW,h]))
  have hav:ρ.rw (pid i 0)=v:=hA (.inr (pid i 0)) v (by simp)
  rw[h1 rfl]
  refine⟨⟨v,us,rfl,⟨hav.symm,hv.isSlice⟩,g1⟩,⟨g2.bx,fun j q hj=> ?_,g2.ob⟩,⟨by rw[hav];rfl,by rw[hav];exact hv.isSlice⟩,g3⟩
  simp only[pg,aC] at hj
  split at hj
  ·rename_i ej
   subst ej
   cases hj
   exact hv.ok (Trans.refl G _) hav (fun b hb=>hO _ _ (by simp[cW]) b (hv2 b hb))
  ·exact g2.rw j q hj
 | .map kk vv::r,i,x,vs,⟨v,us,h1,_,⟨b,hv,hv1,hv2⟩,hu⟩=>by
  obtain⟨vals,e,hp,hr⟩:=mZ hu
  refine⟨(.ob (pid i 0),v)::vals,by simp[cW,e],fun k v h=>hp k v (by simpa using h),fun ρ hA hO=> ?_⟩
  obtain⟨g1,g2,g3⟩:=hr ρ (fun o v h=>hA o v (by simp[h])) (fun o n h=>hO o n (by simp[cW,h]))
  rw[h1 rfl]
  subst hv
  have ho:ρ.own b=some (.ob (pid i 0)):=hO _ _ (by simp[cW]) b hv1
  obtain⟨m1,m2⟩:=hv2.ok (Trans.refl G _) (hA (.ob (pid i 0)) (.map (some b)) (by simp)) ho
  refine⟨⟨_,us,rfl,⟨m2.symm,b,rfl⟩,g1⟩,⟨g2.bx,g2.rw,fun j q hj=> ?_⟩,⟨by rw[m2];rfl,b,m2⟩,g3⟩
  simp only[gP,aC] at hj
  split at hj
  ·rename_i ej
   subst ej
   cases hj
   exact m1
  ·exact g2.ob j q hj
 | .box l::r,i,x,vs,⟨v,us,h1,_,hv,hu⟩=>by
  obtain⟨vals,e,hp,hr⟩:=mZ hu
  obtain⟨vals2,hv2,hr2⟩:=Qb (G3:=G) (d:=pD) (k:=2000+i) (Trans.refl G _) hv
  refine⟨(.inl (2000+i),v)::(vals2++vals),by simp[cW,e,hv2],fun k v' h=> ?_,fun ρ hA hO=> ?_⟩
  ·rcases ahn.1 h with h | h
   ·cases h
    obtain⟨b,_,_,e1,_⟩:=hv
    exact⟨b,e1⟩
   ·rcases ahk.1 h with h | h
    ·have hm:(.inl k:bB)∈vals2.map (·.1):=ahs.2 ⟨_,h,rfl⟩
     rw[hv2] at hm
     obtain⟨p,hp,e1⟩:=ahs.1 hm
     obtain⟨p1,p2⟩:=p
     simp only at e1
     subst e1
     exact absurd hp ((z6 (x:=x.1)).2.2 k p2)
    ·exact hp k v' h
  ·obtain⟨g1,g2,g3⟩:=hr ρ (fun o v h=>hA o v (by simp[h])) (fun o n h=>hO o n (by simp[cW,h]))
   have hk:=hA (.inl (2000+i)) v (by simp)
   have g4:=hr2 ρ hk (fun o v h=>hA o v (by simp[h])) (fun o n h=>hO o n (by
    simp only[ahn] at h
    simp only[cW,ahn,ahk]
    rcases h with h | h
    ·exact .inl h
    ·exact .inr (.inl h)))
   rw[h1 rfl]
   exact⟨⟨v,us,rfl,hk,g1⟩,g4.app g2,by rw[show v=_ from hk];rfl,g3⟩
 | .ar t::r,i,x,vs,⟨v,us,_,h1,hv,hu⟩=>by
  obtain⟨vals,e,hp,hr⟩:=mZ hu
  refine⟨(.ob bJ,undef)::vals,by simp[cW,e],fun k v h=>hp k v (by simpa using h),fun ρ hA hO=> ?_⟩
  obtain⟨g1,g2,g3⟩:=hr ρ (fun o v h=>hA o v (by simp[h])) (fun o n h=>hO o n (by simp[cW,h]))
  have e1:=h1 rfl
  subst e1
  refine⟨g1,⟨g2.bx,g2.rw,fun j q hj=> ?_⟩,g3⟩
  simp only[gP,aC] at hj
  split at hj
  ·rename_i ej
   subst ej
   cases hj
   refine⟨rfl,hv.1,hv.2.1,fun n z hz=> ?_⟩
   obtain⟨b,ws,T,f1,f2,f3,f4,f5⟩:=hv.2.2 n z hz
   exact⟨b,ws,T,f1,nofun,fun _=>hO _ _ (by simp[cW]) b (f3 rfl),f4,f5⟩
  ·exact g2.ob j q hj
 | .arR t::r,i,x,vs,⟨v,us,_,h1,hv,hu⟩=>by
  obtain⟨vals,e,hp,hr⟩:=mZ hu
  refine⟨vals,e,hp,fun ρ hA hO=> ?_⟩
  obtain⟨g1,g2,g3⟩:=hr ρ hA hO
  have e1:=h1 rfl
  subst e1
  refine⟨g1,⟨g2.bx,g2.rw,fun j q hj=> ?_⟩,g3⟩
  simp only[gP,aC] at hj
  split at hj
  ·rename_i ej
   subst ej
   cases hj
   refine⟨rfl,hv.1,hv.2.1,fun n z hz=> ?_⟩
   obtain⟨b,ws,T,f1,f2,f3,f4,f5⟩:=hv.2.2 n z hz
   exact⟨b,ws,T,f1,f2,nofun,f4,f5⟩
  ·exact g2.ob j q hj
theorem wX:∀ {ps:List PM} {i:Nat} {o:bB} {n:Nat},(o,n)∈cW i ps->(∃ k,o= .inl k)\/o= .ob bJ\/KK pD o n
 | [],i,o,n,h=>by simp[cW] at h
 | .val _::r,i,o,n,h=>wX (ps:=r) h
 | .arR _::r,i,o,n,h=>wX (ps:=r) h
 | .row _ _::r,i,o,n,h=>by
  simp only[cW,ahn,Prod.mk.injEq] at h
  rcases h with ⟨h,h'⟩ | h
  ·subst h;subst h';exact .inr (.inr (.inl (by rw[pid,Gm];rfl)))
  ·exact wX (ps:=r) h
 | .mrow _ _::r,i,o,n,h=>by
  simp only[cW,ahn,Prod.mk.injEq] at h
  rcases h with ⟨h,h'⟩ | h
  ·subst h;subst h';exact .inr (.inr (.inl (by rw[pid,Gm];rfl)))
  ·exact wX (ps:=r) h
 | .map _ _::r,i,o,n,h=>by
  simp only[cW,ahn,Prod.mk.injEq] at h
  rcases h with ⟨h,h'⟩ | h
  ·subst h;subst h';exact .inr (.inr (.inr (by rw[pid,Gm];rfl)))
  ·exact wX (ps:=r) h
 | .box l::r,i,o,n,h=>by
  simp only[cW,ahn,ahk,Prod.mk.injEq] at h
  rcases h with ⟨h,h'⟩ | h | h
  ·exact .inl ⟨_,h⟩
  ·exact .inr (.inr (Fm h))
  ·exact wX (ps:=r) h
 | .ar _::r,i,o,n,h=>by
  simp only[cW,ahn,Prod.mk.injEq] at h
  rcases h with ⟨h,h'⟩ | h
  ·exact .inr (.inl h)
  ·exact wX (ps:=r) h
def XI (tmps:Array Value):ResultVar->Sem Value
 | .tmp t=>pure (tmps.getD t undef)
 | .cell a t=>do loadVar t (<- asAddr (tmps.getD a undef))
theorem acs {S:St} {a:Act} {s:SV} {v:ResultVar} (hM:Mod C G ρ S w a) (h:Wm X S v=some s):∃ u,(XI a.tmps v).run X.P w= .ok u w/\bE G ρ s u:=by
 cases v with
 | tmp t=>
  simp only[Wm,Option.some.injEq] at h
  subst h
  exact⟨_,rfl,hM.tmps.ev (.tmp t)⟩
 | cell t T=>
  simp only[Wm] at h
  split at h
  ·rename_i b off hx
   split at h
   ·rename_i l hl
    obtain⟨s',hs,hld⟩:=Dw h
    cases hs
    have h1:=hM.tmps.ev (.tmp t)
    simp only[St.ev] at h1
    rw[hx] at h1
    have h2:a.tmps.getD t undef= .pointer (some ⟨ρ.bx b,off,none⟩):=h1
    obtain⟨_,vs,T',hw,hv⟩:=hM.boxes b l hl
    obtain⟨u,hr,hsv⟩:=hld G ρ w (ρ.bx b) 0 vs hv (fun j v hj=>by
     have hadd:(⟨ρ.bx b,0,none⟩:Addr).add j=⟨ρ.bx b,j,none⟩:=by unfold Addr.add;split<;>simp_all
     rw[hadd,cell_of_row w _ j _ T' (0,0) hw];simpa using hj)
    refine⟨u, ?_,hsv⟩
    simp only[aij] at hr
    simp only[XI,h2,asAddr,Sem.run_bind,Sem.run_pure,Result.andThen_ok,hr]
   ·cases h
  ·cases h
theorem Lg {S:St} {a:Act} (hM:Mod C G ρ S w a):∀ {rs:List ResultVar} {l:List SV},GG X S rs=some l->∃ us,(rs.mapM (XI a.tmps)).run X.P w= .ok us w/\aU (bE G ρ) l us
 | [],l,h=>by
  simp only[GG,Option.some.injEq] at h
  subst h
  exact⟨[],rfl,rfl⟩
 | v::r,l,h=>by
  simp only[GG] at h
  split at h
  ·rename_i s hs
   split at h
   ·rename_i l' hl'
    cases h
    obtain⟨u,h1,h2⟩:=acs hM hs
    obtain⟨us,h3,h4⟩:=Lg hM hl'
    refine⟨u::us, ?_,u,us,rfl,h2,h4⟩
    simp only[List.mapM_cons,Sem.run_bind,h1,Result.andThen_ok,h3,Sem.run_pure]
   ·cases h
  ·cases h
theorem IQ {fn:Func} {tmps:Array Value} {P:Program} {us:List Value} (h:(fn.results.toList.mapM (XI tmps)).run P w= .ok us w):(results fn tmps).run P w= .ok (wH us) w:=by
 have e:results fn tmps=(do
  let vs <- fn.results.mapM (XI tmps)
  pure (if h:vs.size=1 then vs[0] else .tuple vs)):=by
  unfold results
  congr 2
 rw[e,Array.mapM_eq_mapM_toList]
 simp only[Sem.run_bind,Sem.run_map,h,Result.andThen_ok,Sem.run_pure]
 match us with
 | []=>rfl
 | [v]=>rfl
 | v::u::r=>simp[wH]
theorem XB (S:St) (ps:List PM) (bx:Option (fW ps)) (s:SV) (q:List SV):Ay S ps bx [] (s::q)=none:=rfl
theorem XA (S:St) (ps:List PM) (bx:Option (fW ps)) (p:RM) (r:List RM) (s:SV) (q:List SV):Ay S ps bx (p::r) (s::q)=match Fq S p s with
 | some x=>match Ay S ps bx r q with
  | some y=>some (x,y)
  | none=>none
 | none=>none:=rfl
theorem YQ (S:St) (ps:List PM) (bx:Option (fW ps)) (p:RM) (r:List RM):Ay S ps bx (p::r) []=none:=rfl
theorem Za {s:SV} {c:CV} {v:Value} (hc:vg s=some c) (hs:bE G ρ s v):bz G ρ c v:=by
 unfold vg at hc
 split at hc
 ·cases hc;exact hs
 ·cases hc
section
variable {V:St} {ow:List (bB×Nat)} (hM:Mem C G ρ V w)
include hM
theorem Sw {l:List OT} {k n:Nat} {cs:List CV} {x:oN l} {v:Value} (hcs:look V.boxes k=some cs) (h:qg V l cs=some x) (hv:v= .pointer (some ⟨ρ.bx k,0,none⟩)) (ho:∀ q,q∈(.inl k,n)::rS (n+1) l cs->cD ow q.1=some q.2): AS G w (dR ρ ow) n l x v:=by
 obtain⟨h1,vs,T,h2,h3⟩:=hM.boxes k cs hcs
 refine⟨ρ.bx k,vs,T,hv, ?_,h2,DD hM (Gh.le_refl G) h h3 (fun q hq=>ho q (by simp[hq]))⟩
 simp only[dR,h1,aim]
 exact ho (.inl k,n) (by simp)
theorem aaE {p:RM} {s:SV} {x:p.den} {v:Value} {c:Nat} {r:List RM} {q:List SV} (h:Fq V p s=some x) (hv:bE G ρ s v) (ho:∀ z,z∈mu V c (p::r) (s::q)->cD ow z.1=some z.2):ZU G w (dR ρ ow) c p x v:=by
 cases p with
 | val t=>exact lN hM.frozen (mY.nil _ _ _) h hv
 | row e t=>
  simp only[Fq] at h
  split at h
  ·rename_i cv hc
   exact uC hM (Gh.le_refl G) h (Za hc hv) (fun z hz=>ho z (by simp only[mu,hc,ahk];exact .inl hz))
  ·cases h
 | map k e=>
  simp only[Fq] at h
  split at h
  ·rename_i cv hc
   exact CR hM (Gh.le_refl G) h (Za hc hv) (fun z hz=>ho z (by simp only[mu,hc,ahk];exact .inl hz))
  ·cases h
 | box l=>
  simp only[Fq] at h
  split at h
  ·rename_i k hk
   split at h
   ·rename_i cs hcs
    exact Sw hM hcs h (Va hk hv) (fun z hz=>ho z (by simp only[mu,hk,hcs,ahk];exact .inl hz))
   ·cases h
  ·cases h
theorem Sx {ps:List PM} {bx:Option (fW ps)} {args:List Value} (hbx:∀ y,bx=some y->ry G w (dR ρ ow) 0 ps y args) (rs:List RM): ∀ {l:List SV} {y:cX ps rs} {us:List Value} (c:Nat),(∀ z,z∈mu V c rs l->cD ow z.1=some z.2)->Ay V ps bx rs l=some y->aU (bE G ρ) l us->oE G w (dR ρ ow) ps args c rs y us:=by
 induction rs with
 | nil=>
  intro l y us c _ h hv
  cases l with
  | nil=>exact⟨hv,hbx y h⟩
  | cons s q=>rw[XB] at h;cases h
 | cons p r ih=>
  intro l y us c ho h hv
  cases l with
  | nil=>rw[YQ] at h;cases h
  | cons s q=>
   obtain⟨v,us',e',hs,hq⟩:=hv
   subst e'
   rw[XA] at h
   split at h
   ·rename_i x hx
    split at h
    ·rename_i z hz
     cases h
     refine⟨v,us',rfl,aaE hM hx hs ho,ih (c+1) (fun t ht=>ho t ?_) hz hq⟩
     cases p<;>simp only[mu,ahk]<;>first | exact .inr ht | exact ht
    ·cases h
   ·cases h
theorem qc:∀ {ps:List PM} {i:Nat} {y:fW ps} {vs:List Value},qb V i ps=some y->(∀ z,z∈kK V i ps->cD ow z.1=some z.2)->fM ρ i ps vs->ry G w (dR ρ ow) i ps y vs
 | [],i,y,vs,_,_,_=>trivial
 | .val _::r,i,y,vs,h,ho,hp=>qc (ps:=r) h ho hp
 | .row _ _::r,i,y,vs,h,ho,hp=>qc (ps:=r) h ho hp
 | .arR _::r,i,y,vs,h,ho,hp=>qc (ps:=r) h ho hp
 | .mrow e t::r,i,y,vs,h,ho,⟨⟨hp1,hp2⟩,hp⟩=>by
  simp only[qb] at h
  split at h
  ·rename_i x z hx hz
   cases h
   have:=uC (ow:=ow) (n:=64*i) hM (Gh.le_refl G) hx (v:=ρ.rw (pid i 0)) ⟨rfl,hp2⟩ (fun q hq=>ho q (by
    simp only[qX,ahx] at hq
    subst hq;simp[kK]))
   exact⟨⟨_,hp1,this.1,this.2⟩,qc (ps:=r) hz (fun q hq=>ho q (by simp[kK,hq])) hp⟩
  ·cases h
 | .map kk vv::r,i,y,vs,h,ho,⟨⟨hp1,hp2⟩,hp⟩=>by
  simp only[qb] at h
  split at h
  ·rename_i x z hx hz
   cases h
   obtain⟨b,h1,h2,h3⟩:=CR (ow:=ow) (n:=64*i) hM (Gh.le_refl G) hx (v:=ρ.ob (pid i 0)) ⟨rfl,hp2⟩ (fun q hq=>ho q (by
    simp only[qX,ahx] at hq
    subst hq;simp[kK]))
   exact⟨⟨b,by rw[hp1,h1],h2,h3⟩,qc (ps:=r) hz (fun q hq=>ho q (by simp[kK,hq])) hp⟩
  ·cases h
 | .box l::r,i,y,vs,h,ho,⟨hp1,hp⟩=>by
  simp only[qb] at h
  split at h
  ·rename_i cs hcs
   split at h
   ·rename_i x z hx hz
    cases h
    refine⟨⟨_,hp1,Sw hM hcs hx rfl (fun q hq=>ho q ?_)⟩,qc (ps:=r) hz (fun q hq=>ho q ?_) hp⟩
    ·simp only[kK,hcs,agA,ahn,ahk]
     rcases ahn.1 hq with hq | hq
     ·exact .inl hq
     ·exact .inr (.inl hq)
    ·simp only[kK,hcs,agA,ahn,ahk]
     exact .inr (.inr hq)
   ·cases h
  ·cases h
 | .ar t::r,i,y,vs,h,ho,hp=>by
  simp only[qb] at h
  split at h
  ·rename_i x z hx hz
   cases h
   obtain⟨f,hl,hf⟩:=wk hx
   have:=hf rfl
   subst this
   obtain⟨_,h1,h2,h3⟩:=hM.objs bJ _ hl
   refine⟨⟨h1,h2,fun n z hz=> ?_⟩,qc (ps:=r) hz (fun q hq=>ho q (by simp[kK,hq])) hp⟩
   obtain⟨b,vs,T,g1,g2,g3,g4,g5⟩:=h3 n z hz
   refine⟨b,vs,T,g1,nofun,fun _=> ?_,g4,g5⟩
   have:=g3 rfl
   simp only[dR,this,aim]
   exact ho (.ob bJ,64*i) (by simp[kK])
  ·cases h
end
end Go.Dn
namespace Go.Dn
variable {X:Cx}
section
variable {G G':Gh} {w:World} {ow:Nat->Option Nat} (hG:∀ b o,G b=some o->G' b=some o)
include hG
theorem cC.br {t:Ty} {x:t.den} {v:Value} (hn:t.br=true) (h:cC G t x v):cC G' t x v:=by
 cases t with
 | st t=>obtain⟨vs,e,hv⟩:=h;exact⟨vs,e,aP.br hG t x vs (by simpa [Ty.br] using hn) hv⟩
 | _=>exact aP.br hG _ x _ hn h
theorem sF.br {e:TypeId} {t:Ty} {l:List t.den} {v:Value} (hn:t.br=true) (h:sF G w e t l v):sF G' w e t l v:=by
 obtain⟨xs,h1,h2⟩:=h
 exact⟨xs,h1,h2.mono fun x cs=>aP.br hG t x cs hn⟩
theorem xh.br {k v:Ty} {l:List (k.den×v.den)} {b:Nat} (hk:k.br=true) (hv:v.br=true) (h:xh G w k v l b):xh G' w k v l b:=by
 obtain⟨es,clock,h1,h2,h3⟩:=h
 exact⟨es,clock,h1,h2.mono fun x y hxy=>⟨hxy.1.br hG hk,hxy.2.br hG hv⟩,h3⟩
def JH (l:List OT):Bool:=l.all fun | .val t=>t.br | .row _ t=>t.br | .map k v=>k.br&&v.br
theorem CI.br:∀ {l:List OT} {n:Nat} {x:oN l} {vs:List Value},JH l=true->CI G w ow n l x vs->CI G' w ow n l x vs
 | [],_,_,_,_,h=>h
 | .val t::r,n,x,vs,hn,⟨a,b,e,h1,h2⟩=>by
  simp only[JH,agt,afP] at hn
  exact⟨a,b,e,aP.br hG t x.1 a hn.1 h1,CI.br hn.2 h2⟩
 | .row _ t::r,n,x,vs,hn,⟨a,b,e,⟨v,e2,h1,h3⟩,h2⟩=>by
  simp only[JH,agt,afP] at hn
  exact⟨a,b,e,⟨v,e2,h1.br hG hn.1,h3⟩,CI.br hn.2 h2⟩
 | .map k v::r,n,x,vs,hn,⟨a,b,e,⟨bb,e2,h1,h3⟩,h2⟩=>by
  simp only[JH,agt,afP] at hn
  exact⟨a,b,e,⟨bb,e2,h1,h3.br hG hn.1.1 hn.1.2⟩,CI.br hn.2 h2⟩
theorem AS.br {l:List OT} {n:Nat} {x:oN l} {v:Value} (hn:JH l=true) (h:AS G w ow n l x v):AS G' w ow n l x v:=by
 obtain⟨b,vs,T,h1,h2,h3,h4⟩:=h
 exact⟨b,vs,T,h1,h2,h3,h4.br hG hn⟩
theorem iE.br:∀ {ps:List PM} {i:Nat} {x:eG ps} {vs:List Value},dS ps=true->iE G w ow i ps x vs->iE G' w ow i ps x vs
 | [],_,_,_,_,h=>h
 | .val t::r,i,x,vs,hn,⟨v,us,h1,h2,h3,h4⟩=>by
  simp only[dS,afP] at hn
  exact⟨v,us,h1,h2,cC.br hG hn.1 h3,iE.br hn.2 h4⟩
 | .row _ t::r,i,x,vs,hn,⟨v,us,h1,h2,⟨h3,h3'⟩,h4⟩=>by
  simp only[dS,afP] at hn
  exact⟨v,us,h1,h2,⟨h3.br hG hn.1,h3'⟩,iE.br hn.2 h4⟩
 | .mrow _ t::r,i,x,vs,hn,⟨v,us,h1,h2,⟨h3,h3'⟩,h4⟩=>by
  simp only[dS,afP] at hn
  exact⟨v,us,h1,h2,⟨h3.br hG hn.1,h3'⟩,iE.br hn.2 h4⟩
 | .map _ _::r,i,x,vs,hn,⟨v,us,h1,h2,⟨b,h3,h3',h5⟩,h4⟩=>by
  simp only[dS,afP] at hn
  exact⟨v,us,h1,h2,⟨b,h3,h3',h5.br hG hn.1.1 hn.1.2⟩,iE.br hn.2 h4⟩
 | .box l::r,i,x,vs,hn,⟨v,us,h1,h2,h3,h4⟩=>by
  simp only[dS,afP] at hn
  exact⟨v,us,h1,h2,AS.br hG hn.1 h3,iE.br hn.2 h4⟩
 | .ar _::r,i,x,vs,hn,_=>by simp[dS] at hn
 | .arR _::r,i,x,vs,hn,_=>by simp[dS] at hn
theorem ry.br:∀ {ps:List PM} {i:Nat} {x:fW ps} {vs:List Value},dS ps=true->ry G w ow i ps x vs->ry G' w ow i ps x vs
 | [],_,_,_,_,h=>h
 | .val t::r,i,x,vs,hn,h=>by
  simp only[dS,afP] at hn
  exact ry.br (ps:=r) hn.2 h
 | .row _ t::r,i,x,vs,hn,h=>by
  simp only[dS,afP] at hn
  exact ry.br (ps:=r) hn.2 h
 | .mrow _ t::r,i,x,vs,hn,⟨⟨v,h1,h2,h3⟩,h4⟩=>by
  simp only[dS,afP] at hn
  exact⟨⟨v,h1,h2.br hG hn.1,h3⟩,ry.br hn.2 h4⟩
 | .map _ _::r,i,x,vs,hn,⟨⟨b,h1,h2,h3⟩,h4⟩=>by
  simp only[dS,afP] at hn
  exact⟨⟨b,h1,h2,h3.br hG hn.1.1 hn.1.2⟩,ry.br hn.2 h4⟩
 | .box l::r,i,x,vs,hn,⟨⟨v,h1,h2⟩,h4⟩=>by
  simp only[dS,afP] at hn
  exact⟨⟨v,h1,AS.br hG hn.1 h2⟩,ry.br hn.2 h4⟩
 | .ar _::r,i,x,vs,hn,_=>by simp[dS] at hn
 | .arR _::r,i,x,vs,hn,_=>by simp[dS] at hn
theorem oE.br {ps:List PM} {args:List Value} (hp:dS ps=true):∀ {rs:List RM} {c:Nat} {y:cX ps rs} {vs:List Value},uF rs=true->oE G w ow ps args c rs y vs->oE G' w ow ps args c rs y vs
 | [],_,_,_,_,h=>⟨h.1,h.2.br hG hp⟩
 | .val t::r,c,y,vs,hn,⟨v,us,h1,h2,h3⟩=>by
  simp only[uF,afP] at hn
  exact⟨v,us,h1,cC.br hG hn.1 h2,oE.br hp hn.2 h3⟩
 | .row _ t::r,c,y,vs,hn,⟨v,us,h1,⟨h2,h2'⟩,h3⟩=>by
  simp only[uF,afP] at hn
  exact⟨v,us,h1,⟨h2.br hG hn.1,h2'⟩,oE.br hp hn.2 h3⟩
 | .map _ _::r,c,y,vs,hn,⟨v,us,h1,⟨b,h2,h2',h4⟩,h3⟩=>by
  simp only[uF,afP] at hn
  exact⟨v,us,h1,⟨b,h2,h2',h4.br hG hn.1.1 hn.1.2⟩,oE.br hp hn.2 h3⟩
 | .box l::r,c,y,vs,hn,⟨v,us,h1,h2,h3⟩=>by
  simp only[uF,afP] at hn
  exact⟨v,us,h1,AS.br hG hn.1 h2,oE.br hp hn.2 h3⟩
end
theorem gQ:∀ (ps:List PM) (i:Nat) (x:eG ps),(fJ i ps x).length=xF ps
 | [],_,_=>rfl
 | .val _::r,i,x=>by simp[fJ,xF,PM.arg,gQ r];omega
 | .row _ _::r,i,x=>by simp[fJ,xF,PM.arg,gQ r];omega
 | .mrow _ _::r,i,x=>by simp[fJ,xF,PM.arg,gQ r];omega
 | .map _ _::r,i,x=>by simp[fJ,xF,PM.arg,gQ r];omega
 | .box _::r,i,x=>by simp[fJ,xF,PM.arg,gQ r];omega
 | .ar _::r,i,x=>by simp[fJ,xF,PM.arg,gQ r]
 | .arR _::r,i,x=>by simp[fJ,xF,PM.arg,gQ r]
theorem qh:∀ {ps:List PM} {i:Nat} {x:eG ps} {t:Ty} {l:List t.den},jE ps=false->look (gP i ps x) bJ≠some (.ar false t l)
 | [],i,x,t,l,_=>by simp[gP,look]
 | .val _::r,i,x,t,l,h=>qh (ps:=r) h
 | .row _ _::r,i,x,t,l,h=>qh (ps:=r) h
 | .mrow _ _::r,i,x,t,l,h=>qh (ps:=r) h
 | .map _ _::r,i,x,t,l,h=>by
  simp only[gP,aC]
  split
  ·simp
  ·exact qh (ps:=r) h
 | .box _::r,i,x,t,l,h=>by
  simp only[gP,di]
  intro e
  rcases or_some e with e | ⟨_,e⟩
  ·obtain⟨_,_,_,e'⟩:=xG e;cases e'
  ·exact qh (ps:=r) h e
 | .ar _::r,i,x,t,l,h=>by simp[jE] at h
 | .arR _::r,i,x,t,l,h=>by
  simp only[gP,aC]
  split
  ·intro e;cases e
  ·exact qh (ps:=r) h
theorem aaC {ps:List PM} (h:dS ps=true):jE ps=false:=by
 induction ps with
 | nil=>rfl
 | cons p r ih=>cases p<;>simp only[dS,afP] at h<;>first | exact ih h.2 | cases h
theorem Xc (hX:bX X) (hmix:X.P.follows .mixedOrders=true) {f:FuncId} {fn:Func} (sp:av) (anns:List (Nat×Ann)) (ar:Option Ty) (hf:X.P.funcs[f]? =some fn) {G:Gh} {w:World} {ow:Nat->Option Nat} {args:List Value} {x:eG sp.ps} {y:cX sp.ps sp.rs} (hT:AU X.P G) (hG:Agr G w) (how:∀ b i,ow b=some i->G b=none/\b<w.heap.size) (hargs:iE G w ow 0 sp.ps x args) (har:ar.isSome=true->G.hnd=(fun _=>none)/\jE sp.ps=false/\dS sp.ps=true) (hN:Qs X anns ar fn sp x=some y): Calls X.P f args.toArray w fun e w'=>∃ G' ow' vs,e= .returned (wH vs)/\G.le G'/\Agr G' w'/\w.heap.size<=w'.heap.size/\w'.os=w.os/\w'.output=w.output/\ (∀ b,b<w.heap.size->ow b=none->w'.heap[b]? =w.heap[b]? /\G' b=G b)/\(∀ b i,ow' b=some i->G' b=none/\b<w'.heap.size/\(w.heap.size<=b\/ow b≠none))/\oE G' w' ow' sp.ps args 0 sp.rs y vs/\(jE sp.ps=false->ar=none->G'.hnd=G.hnd):=by
 unfold Qs at hN
 split at hN
 ·cases hN
 ·rename_i hcond
  simp only[af4,aiR,afZ] at hcond
  obtain⟨⟨hdO,hdC⟩,hnoh⟩:=hcond
  split at hN
  ·rename_i c hc
   obtain⟨vals,hvals,hpt,hst⟩:=mZ hargs
   let pv:Nat->Value:=fun k=>match cy vals (.inr k) with | some v=>v | none=>(cy vals (.ob k)).getD undef
   let ρ:Env:=⟨fun k=>match cy vals (.inl k) with | some v=>EH v | none=>0,pv,fun b=>(ow b).bind (jV (cW 0 sp.ps)),pv,fun k=>BQ w (pv k)⟩
   have hA:∀ o v,(o,v)∈vals->Asg ρ w o v:=fun o v hm=>by
    have hl:=Gk hvals hdO hm
    cases o with
    | inl k=>
     obtain⟨b,hb⟩:=hpt k v hm
     show v= .pointer (some ⟨match cy vals (.inl k) with | some v=>EH v | none=>0,0,none⟩)
     rw[hl,hb];rfl
    | inr j=>show (match cy vals (.inr j) with | some v=>v | none=>_)=v;rw[hl]
    | ob j=>
     intro b hb
     subst hb
     have hnr:cy vals (.inr j)=none:=by
      cases h1:cy vals (.inr j) with
      | none=>rfl
      | some v'=>
       obtain⟨n1,m1⟩:=xE hvals (by rw[h1];simp)
       obtain⟨n2,m2⟩:=xE hvals (o:= .ob j) (by rw[hl];simp)
       rcases wX m1 with ⟨k,e⟩ | e | e
       ·cases e
       ·cases e
       ·rcases wX m2 with ⟨k,e'⟩ | e' | e'
        ·cases e'
        ·cases e'
         rcases e with e | e
         ·have:bJ=nid pD 0 0+n1:=by simpa using e
          simp only[bJ,pD,nid] at this;omega
         ·cases e
        ·have h1:j=nid pD 0 0+n1:=by rcases e with e | e<;>cases e;rfl
         have h2:j=nid pD 0 0+n2:=by rcases e' with e' | e'<;>cases e';rfl
         have:n1=n2:=by omega
         subst this
         have:=Pj hdC m1 m2
         cases this
     have hpv:pv j= .map (some b):=by
      show (match cy vals (.inr j) with | some v=>v | none=>(cy vals (.ob j)).getD undef)=_
      rw[hnr,hl];rfl
     refine⟨hpv,fun es clock hw i e' hi=> ?_⟩
     show (e'.born:Int)=BQ w (pv j) i
     rw[hpv]
     simp[BQ,hw,hi]
   have hO:∀ o n,(o,n)∈cW 0 sp.ps->∀ b,ow b=some n->ρ.own b=some o:=fun o n hm b hb=>by
    show (ow b).bind (jV (cW 0 sp.ps))=_
    rw[hb];exact xz hdC hm
   obtain⟨hsv,hP,hpins⟩:=hst ρ hA hO
   let C:Fr X.P:=⟨w.heap.size,ρ.bx,pv,fun b=>ow b≠none,w,G,jE sp.ps=false/\ar=none,hT⟩
   have hlen:args.length=xF sp.ps:=by rw[hsv.len,gQ]
   have hM:Mod C G ρ (No fn.ntmps ar sp.ps x) w { tmps:=args.toArray++Array.replicate (fn.ntmps - args.toArray.size) undef,defers:=[] }:=by
    refine { agr:=hG,le0:=Gh.le_refl G,old:=fun _ _ _=>rfl,frame:=fun _ _ _=>rfl,size:=ahY _,os:=rfl,output:=rfl,pin:=fun _ _=>rfl,pinR:=fun _ _=>⟨rfl,rfl⟩,owned:= ?_,boxes:=hP.bx,rows:=hP.rw,objs:= ?_,hndI:= ?_,tmps:=⟨?_, ?_⟩,defers:=rfl }
    ·intro b o ho
     cases hb:ow b with
     | none=>
      have ho':(ow b).bind (jV (cW 0 sp.ps))=some o:=ho
      rw[hb] at ho';cases ho'
     | some i=>exact⟨(how b i hb).1,(how b i hb).2,.inr (by show ow b≠none;rw[hb];simp)⟩
    ·intro j q hj
     cases ar with
     | none=>exact hP.ob j q hj
     | some t=>
      simp only[No,aC] at hj
      split at hj
      ·rename_i ej
       subst ej
       cases hj
       obtain⟨h1,_⟩:=har rfl
       refine⟨rfl,fun i b hb=>(by rw[h1] at hb;cases hb),fun i i' b hb=>(by rw[h1] at hb;cases hb),fun i z hz=>by simp at hz⟩
      ·exact hP.ob j q hj
    ·rintro⟨h1,h2⟩
     refine⟨rfl,fun t l=> ?_⟩
     subst h2
     exact qh h1
    ·simp[No,gQ,hlen]
    ·intro i s hi
     simp only[No] at hi
     rw[agO] at hi
     rw[afC,afD]
     split at hi
     ·rename_i hlt
      obtain⟨v,hv,hsv'⟩:=hsv.get hi
      rw[gQ] at hlt
      rw[aiM (by simpa [hlen] using hlt)]
      simpa [hv] using hsv'
     ·rw[agZ] at hi
      split at hi
      ·cases hi;exact trivial
      ·cases hi
   refine calls_of_wp hf hc (Jo (C:=C) hX hmix anns c hN (fun e S' G' ρ' w' a' hk hM'=> ?_) hM)
   have key:ends X fn sp S'=some y->a'.defers=[]/\∃ v,(results fn a'.tmps).run X.P w'= .ok v w'/\∃ G' ow' vs,Ending.returned v= .returned (wH vs)/\G.le G'/\Agr G' w'/\w.heap.size<=w'.heap.size/\w'.os=w.os/\w'.output=w.output/\
    (∀ b,b<w.heap.size->ow b=none->w'.heap[b]? =w.heap[b]? /\G' b=G b)/\(∀ b i,ow' b=some i->G' b=none/\b<w'.heap.size/\(w.heap.size<=b\/ow b≠none))/\oE G' w' ow' sp.ps args 0 sp.rs y vs/\(jE sp.ps=false->ar=none->G'.hnd=G.hnd):=by
    intro hk
    unfold ends at hk
    have hI:∃ G1 ρ1,Mod C G1 ρ1 (HC X fn sp.rs S') w' a':=by
     unfold HC
     split
     ·exact Mod.kg _ hM'
     ·exact⟨_,_,hM'⟩
    generalize HC X fn sp.rs S'=S' at hk hI
    obtain⟨G',ρ',hM'⟩:=hI
    refine⟨hM'.defers, ?_⟩
    unfold adz at hk
    split at hk
    ·rename_i l hl
     simp only at hk
     split at hk
     ·cases hk
     ·rename_i hd
      obtain⟨us,hr,hus⟩:=Lg hM' hl
      generalize hjs:Eg (Fv sp.rs l)++(OB S' sp.rs l++Ow S' 0 sp.ps)=js at hk hd
      obtain⟨G2,ρ2,hfz,hM2⟩:=hM'.freeze js
      generalize hV:aV S' js=V at hk hd hM2
      generalize how':mu V 0 sp.rs l++kK V 0 sp.ps=owl at hk hd
      have hd':zW owl=false:=by simpa using hd
      have hus2:aU (bE G2 ρ2) l us:=hus.mono fun s v hs=>bE.congr hfz.le (l6.same hfz.bx hfz.rw hfz.ob hfz.st) hs
      have hpins2:fM ρ2 0 sp.ps args:=hpins.congr (fun k hk=>hM2.pin k hk) (fun k hk=>hM2.pinR k hk)
      refine⟨_,IQ hr,G2,dR ρ2 owl,us,rfl,hM2.le0,hM2.agr,hM2.size,hM2.os,hM2.output,fun b hb ho=>⟨hM2.frame b hb (by show ¬ ow b≠none;simp[ho]),hM2.old b hb (by show ¬ ow b≠none;simp[ho])⟩,fun b i hb=> ?_, ?_,fun h1 h2=>(hM2.hndI ⟨h1,h2⟩).1⟩
      ·unfold dR at hb
       cases ho:ρ2.own b with
       | none=>rw[ho] at hb;cases hb
       | some o=>exact hM2.owned b o ho
      ·refine Sx hM2.toMem (fun y' hy'=>qc hM2.toMem hy' (fun z hz=>nO hd' (by rw[<- how'];simp[hz])) hpins2) sp.rs 0 (fun z hz=>nO hd' (by rw[<- how'];simp[hz])) hk hus2
    ·cases hk
   cases e with
   | normal=>exact key hk
   | ret=>exact key hk
   | exit id=>cases hk
  ·cases hN
theorem abF (hX:bX X) (hmix:X.P.follows .mixedOrders=true) {f:FuncId} {fn:Func} (sp:av) (anns:List (Nat×Ann)) (ar:Option Ty) (hf:X.P.funcs[f]? =some fn) (h:∀ x y,sp.m x=some y->Qs X anns ar fn sp x=some y):pJ X.P f sp:=by
 intro G w ow args x y hG how hargs hm hT
 have hN:=h x y hm
 cases ar with
 | none=>
  refine (Xc hX hmix sp anns none hf hT hG how hargs (fun e=>by cases e) hN).mono ?_
  rintro e w' ⟨G',ow',vs,h1,h2,h3,h4,h5,h6,h7,h8,h9,h10⟩
  exact⟨G',ow',vs,h1,h2,h3,h4,h5,h6,h7,h8,h9,fun h=>h10 h rfl⟩
 | some t=>
  have hN0:=hN
  unfold Qs at hN0
  split at hN0
  ·cases hN0
  ·rename_i hcond
   simp only[af4,aiR,afZ,Option.isSome_some,af5,afY,afP] at hcond
   obtain⟨_,hpn,hrn⟩:=hcond
   let G0:Gh:=⟨G.blk,fun _=>none⟩
   have hargs0:iE G0 w ow 0 sp.ps x args:=iE.br (G:=G) (G':=G0) (fun _ _ h=>h) hpn hargs
   refine (Xc hX hmix sp anns (some t) hf (G:=G0) ⟨hT.pow,hT.maxLen⟩ hG how hargs0 (fun _=>⟨rfl,aaC hpn,hpn⟩) hN).mono ?_
   rintro e w' ⟨G',ow',vs,h1,h2,h3,h4,h5,h6,h7,h8,h9,h10⟩
   refine⟨⟨G'.blk,G.hnd⟩,ow',vs,h1,⟨h2.blk,fun _ _ h=>h⟩,h3,h4,h5,h6,h7,h8,oE.br (G:=G') (G':=⟨G'.blk,G.hnd⟩) (fun _ _ h=>h) hpn hrn h9,fun _=>rfl⟩
end Go.Dn
namespace Go.Dn
def w64 (n:Int):Int:=IntKind.wrap .i64 n
def tI:Ty:= .int .i64
def cn (n:Int):Int:=IntKind.wrap .u64 n
def mJ (n:Int):Int:=IntKind.wrap .u32 n
def Ty.fu:(t:Ty)->t.den->Nat->Nat
 | .int _,n,a=>Int.natAbs n+a
 | .bool,_,a=>a
 | .str,s,a=>List.length s+a
 | .unit,_,a=>a
 | .pair s t,x,a=>s.fu x.1 (t.fu x.2 a)
 | .st t,x,a=>t.fu x a
 | .slice _,l,a=>List.length l+a
 | .ptr t,x,a=>t.fu x a
 | .clo _ _,_,a=>a
 | .hnd,_,a=>a
def aN:(cs:List CK)->dn cs->Nat
 | [],_=>2
 | .val t::r,x=>t.fu x.1 (aN r x.2)
 | .own _ _::r,x=>x.1.length+aN r x.2
 | .map _ _::r,x=>x.1.length+aN r x.2
 | .ref _ _::r,x=>aN r x
 | .fn _ _::r,x=>aN r x
 | .ar _::r,x=>x.1.length+aN r x.2
 | .arF _::r,x=>aN r x.2
 | .rowR _::r,x=>aN r x
 | .rpR _ _::r,x=>aN r x.2
 | .mapR _::r,x=>aN r x
 | .rowC _ _ _::r,x=>x.1.length+aN r x.2
 | .mapC _ _ _::r,x=>x.1.length+aN r x.2
theorem aX {X β:Type} (n:Nat) (x:X) (f:X->(X->Option β)->Option β):iter (n+1) x f=f x fun y=>iter n y f:=rfl
end Go.Dn
namespace Go.Dn
def NV {α β:Type} (F:(α->Option β)->α->Option β):Nat->α->Option β
 | 0,_=>none
 | n+1,x=>F (NV F n) x
theorem R8 {P:Program} {specs:List (Nat×av)} (hX:bX ⟨P,specs,[]⟩) (hmix:P.follows .mixedOrders=true) {f:FuncId} {fn:Func} {ps:List PM} {rs:List RM} (F:(eG ps->Option (cX ps rs))->eG ps->Option (cX ps rs)) (anns:List (Nat×Ann)) (ar:Option Ty) (hf:P.funcs[f]? =some fn) (hb:jb P f) (h:∀ self x,Qs ⟨P,(f,⟨ps,rs,self⟩)::specs,[]⟩ anns ar fn ⟨ps,rs,F self⟩ x=F self x):∀ n,pJ P f ⟨ps,rs,NV F n⟩
 | 0=>fun _ _ _ _ _ _ _ _ _ hm _=>by cases hm
 | n+1=>by
  have ih:=R8 hX hmix F anns ar hf hb h n
  have hX':bX ⟨P,(f,⟨ps,rs,NV F n⟩)::specs,[]⟩:=by
   refine⟨fun g sp hg=> ?_,nofun⟩
   rcases ahn.1 hg with e | e
   ·cases e;exact⟨ih,hb⟩
   ·exact hX.fn g sp e
  exact abF (X:=⟨P,(f,⟨ps,rs,NV F n⟩)::specs,[]⟩) hX' hmix ⟨ps,rs,NV F (n+1)⟩ anns ar hf (fun x y hm=>(h (NV F n) x).trans hm)
theorem YF {P:Program} {f:FuncId} {ps:List PM} {rs:List RM} {m:Nat->eG ps->Option (cX ps rs)} (h:∀ n,pJ P f ⟨ps,rs,m n⟩) (fuel:eG ps->Nat):pJ P f ⟨ps,rs,fun x=>m (fuel x) x⟩:=
 fun G w ow args x y hG how ha hm hT=>(h (fuel x) G w ow args x y hG how ha hm hT).mono fun _ _ ⟨G',ow',vs,hg⟩=>⟨G',ow',vs,{ hg with }⟩
theorem YG {P:Program} {f:FuncId} {m:eG [.val .str,.val .str]->Option (cX [.val .str,.val .str] [.val .str])} (h:∀ (s c r:List UInt8) (w:World),m (s,c,())=some (r,())->Calls P f #[.string (bs s),.string (bs c)] w fun e w'=>e= .returned (.string (bs r))/\RowKit.Below w.heap.size w w'):pJ P f ⟨[.val .str,.val .str],[.val .str],m⟩:=by
 intro G w ow args x y hG how ha hm _
 obtain⟨s,c,u⟩:=x
 obtain⟨r,u'⟩:=y
 obtain⟨v,us,h1,_,hv,v',us',h2,_,hv',h3⟩:=ha
 have e1:=h1 rfl
 have e2:=h2 rfl
 have e3:us'=[]:=h3
 have e4:v= .string (bs s):=by simpa [J5,cC,aP] using hv
 have e5:v'= .string (bs c):=by simpa [J5,cC,aP] using hv'
 subst e1;subst e2;subst e3;subst e4;subst e5
 refine (h s c r w hm).mono ?_
 rintro e w' ⟨he,hb⟩
 refine⟨G,fun _=>none,[.string (bs r)], ?_⟩
 exact {
  ret:=he
  le:=Gh.le_refl G
  agr:=fun b o hbo=>by
   have hw:=hG b o hbo
   have hlt:b<w.heap.size:=by
    rcases ah4 b w.heap.size with h | h
    ·exact h
    ·rw[Array.getElem?_eq_none h] at hw;cases hw
   rw[hb.block b hlt];exact hw
  size:=hb.size
  os:=hb.os
  output:=hb.output
  old:=fun b hlt _=>⟨hb.block b hlt,rfl⟩
  own:=fun b i hbi=>by cases hbi
  out:=⟨_,_,rfl,rfl,rfl,trivial⟩
  hnd:=fun _=>rfl }
end Go.Dn
namespace Go.Dn
theorem bX.nil (P:Program):bX ⟨P,[],[]⟩:=⟨nofun,nofun⟩
theorem bX.cons {P:Program} {f:FuncId} {sp:av} {l:List (Nat×av)} {ks:List (Nat×zS)} (h:pJ P f sp) (hb:jb P f) (r:bX ⟨P,l,ks⟩):bX ⟨P,(f,sp)::l,ks⟩:=by
 refine⟨fun g sp' hg=> ?_,r.key⟩
 rcases ahn.1 hg with e | e
 ·cases e;exact⟨h,hb⟩
 ·exact r.fn g sp' e
theorem bX.Wf {P:Program} {f:FuncId} {kf:zS} {l:List (Nat×av)} {ks:List (Nat×zS)} (h:Hp P f kf) (hb:jb P f) (r:bX ⟨P,l,ks⟩):bX ⟨P,l,(f,kf)::ks⟩:=by
 refine⟨r.fn,fun g k' hg=> ?_⟩
 rcases ahn.1 hg with e | e
 ·cases e;exact⟨h,fun _=>hb⟩
 ·exact r.key g k' e
theorem bX.afd {P:Program} {f:Nat} {l:List (Nat×av)} {ks:List (Nat×zS)} (r:bX ⟨P,l,ks⟩):bX ⟨P,l,(f,.own)::ks⟩:=by
 refine⟨r.fn,fun g k' hg=> ?_⟩
 rcases ahn.1 hg with e | e
 ·cases e;exact⟨trivial,fun h=>absurd rfl h⟩
 ·exact r.key g k' e
theorem sR {P:Program} {f:FuncId} {fn:Func} (h:P.funcs[f]? =some fn) (hb:fn.body.isSome=true) (hn:fn.name≠ "runtime.NumGoroutine"):jb P f:=⟨fn,h,hb,hn⟩
end Go.Dn
namespace Go.Dn
end Go.Dn
namespace Go.Dn
open Go.ChangeShapes Go.WideShapes Go.ChangeAt Go.RowKit
def Fits (P:Program):Nat->TypeId->Ty->Bool
 | 0,_,_=>false
 | d+1,T,t=>match P.underlying T,t with
  | some (.int k),.int k'=>decide (k=k')
  | some .bool,.bool=>true
  | some .string,.str=>true
  | some (.slice e),.slice t=>Nat.ble 1 t.size&&(Nat.beq (P.cellsOf e) t.size&&Fits P d e t)
  | some (.struct fs),.st t=>Nat.beq (P.cellsOf T) t.size&&fitsF (Fits P d) P fs.toList 0 t
  | _,_=>false
where
 fitsF (g:TypeId->Ty->Bool) (P:Program):List Field->Nat->Ty->Bool
 | [],_,_=>false
 | [f],off,t=>Nat.beq f.offset off&&(Nat.beq (P.cellsOf f.type) t.size&&g f.type t)
 | f::r,off,.pair a b=>Nat.beq f.offset off&&(Nat.beq (P.cellsOf f.type) a.size&&(g f.type a&&fitsF g P r (off+a.size) b))
 | _,_,_=>false
def Gw (w:World):Gh:=⟨fun b=>w.heap[b]?,fun _=>none⟩
theorem aeA (w:World):Agr (Gw w) w:=fun _ _ h=>h
theorem Ph {w:World} {base:Nat} {a:Addr} {n:Nat} {cs:List Value} (hn:0<n) (h:w.cells? base a n=some cs): ∃ c T fz,a.spot=none/\w.heap[a.block]? =some (.cells c T fz)/\a.off+n<=c.size/\cs=(c.toList.drop a.off).take n:=by
 obtain⟨_,hl,hc⟩:=World.cells?_some h
 have h0:=hc 0 hn
 have hlt:0<cs.length:=by omega
 rw[agU hlt,show a.add 0=a from rfl] at h0
 unfold World.cell? at h0
 split at h0
 ·rename_i c T fz hb
  split at h0
  ·cases h0
  ·rename_i hs
   have hspot:a.spot=none:=by simpa using hs
   have hall:∀ i,i<n->c[a.off+i]? =cs[i]? :=by
    intro i hi
    have:=hc i hi
    rw[<- this]
    unfold World.cell? Addr.add
    by_cases h:i=0
    ·subst h;simp[hb,hspot]
    ·simp[h,hb]
   refine⟨c,T,fz,hspot,hb, ?_, ?_⟩
   ·have h1:=hall (n - 1) (by omega)
    rw[agU (show n - 1<cs.length by omega)] at h1
    have:=(afF.1 h1).1
    omega
   ·apply agJ
    intro i
    rw[ag3,agT]
    by_cases hi:i<n
    ·rw[aiM hi, <- hall i hi];simp
    ·rw[aiL hi,agV (by omega)]
 ·cases h0
section
variable {H:Type} {enc:TypeId×Value->H} {P:Program} {w:World} {base:Nat} {spare:Nat->Bool} {held:Bool}
theorem ZM {α:Type} {R:α->List Value->Prop} {sz:Nat} {c:List Value} {y:Nat->α} (off:Nat):∀ n,off+n*sz<=c.length->(∀ i,i<n->R (y i) ((c.drop (off+i*sz)).take sz))->cq R ((List.range n).map y) ((c.drop off).take (n*sz))
 | 0,_,_=>by simp[cq]
 | n+1,hle,h=>by
  rw[List.range_succ,ahf,List.map_singleton]
  have e:(c.drop off).take ((n+1)*sz)=(c.drop off).take (n*sz)++(c.drop (off+n*sz)).take sz:=by
   rw[ahR,Nat.one_mul,List.take_add,agD]
  rw[e]
  refine cq.append (ZM off n (by rw[ahR] at hle;omega) fun i hi=>h i (by omega)) ?_
  exact⟨_,[],by simp,h n (by omega),rfl⟩
end
def pms:List Ty->List PM
 | []=>[]
 | t::r=> .val t::pms r
def Oj (P:Program):List TypeId->List Ty->Bool
 | [],[]=>true
 | T::r,t::q=>Fits P 9 T t&&Oj P r q
 | _,_=>false
end Go.Dn
namespace Go.Dn
theorem PX {H:Type} {enc:TypeId×Value->H} {P:Program} {w:World} {base:Nat} {spare:Nat->Bool} {held:Bool}:∀ {Ts:List TypeId} {vs:List Value} {ds:List (DataW H)} {ps:List MemPlace},DataW.TrodAll enc P w base spare held Ts vs ds ps->ds.length=Ts.length
 | [],[],[],_,_=>rfl
 | _::_,_::_,_::_,_,⟨_,_,_,h,_⟩=>by rw[ag8,ag8,PX h]
def adB:Nat->DataW Unit->List Value
 | d+1,.agg l=>l.flatMap (adB d)
 | _,.lit (.int k n)=>[.int k n]
 | _,.lit (.bool b)=>[.bool b]
 | _,_=>[]
def aeM (P:Program) (l:List (String×DataW Unit)) (w:World):World:=
 l.foldl (fun w p=>match P.globalNamed p.1 with
  | some g=>{ w with heap:=w.heap.modify g fun
   | .cells _ t fr=> .cells (adB 9 p.2).toArray t fr
   | o=>o }
  | none=>w) w
end Go.Dn
namespace Go.Dn
open Go.Proofs Go.Shelf
theorem pz (b:Nat) (e:TypeId):∀ (vs:List Value) (o:Nat) (w:World) (cur:Array Value),w.heap[b]? =some (.cells cur e (0,0))->o+vs.length<=cur.size-> ∃ cur':Array Value,(w.setCells b o vs).heap[b]? =some (.cells cur' e (0,0))/\cur'.toList=cur.toList.take o++(vs++cur.toList.drop (o+vs.length))
 | [],o,w,cur,h,_=>⟨cur,h,by simp⟩
 | v::r,o,w,cur,h,hl=>by
  have h1:(w.setCell ⟨b,o,none⟩ v).heap[b]? =some (.cells (cur.setIfInBounds o v) e (0,0)):=by
   simp only[World.setCell,Array.getElem?_modify,aiN,h,ais]
   rfl
  have hlen:o<cur.size:=by simp at hl;omega
  obtain⟨cur',h2,h3⟩:=pz b e r (o+1) _ _ h1 (by simp at hl ⊢;omega)
  refine⟨cur',h2, ?_⟩
  rw[h3]
  simp only[Array.toList_setIfInBounds]
  rw[List.take_set,List.drop_set_of_lt (by omega)]
  have hlt:o<cur.toList.length:=by simpa using hlen
  have e1:(cur.toList.take (o+1)).set o v=cur.toList.take o++[v]:=by
   rw[List.take_succ_eq_append_getElem hlt,List.set_append_right _ _ (by simp;omega)]
   congr 1
   rw[ahe,ah9 (by omega)];simp
  rw[e1]
  simp only[ag8,agy,agA,ahy]
  rw[show o+1+r.length=o+(r.length+1) by omega]
theorem pE (b:Nat):∀ (vs:List Value) (o:Nat) (w:World),(w.setCells b o vs).os=w.os/\(w.setCells b o vs).output=w.output/\(w.setCells b o vs).heap.size=w.heap.size/\∀ k,k≠b->(w.setCells b o vs).heap[k]? =w.heap[k]?
 | [],o,w=>⟨rfl,rfl,rfl,fun _ _=>rfl⟩
 | v::r,o,w=>by
  obtain⟨h1,h2,h3,h4⟩:=pE b r (o+1) (w.setCell ⟨b,o,none⟩ v)
  refine⟨h1,h2,h3.trans (by simp),fun k hk=>(h4 k hk).trans ?_⟩
  simp only[World.setCell,Array.getElem?_modify]
  rw[aiL (fun e=>hk e.symm)]
section
variable {P:Program} {G:Gh} {w w':World} {ow:Nat->Option Nat} {e:TypeId}
end
end Go.Dn
namespace Go.Dn
theorem abG {P:Program} {f:FuncId} {t:Ty} {m:eG [.val .str,.val .str]->Option (cX [.val .str,.val .str] [.val t])} (h:∀ (s c:List UInt8) (r:t.den) (w:World),m (s,c,())=some (r,())->∃ v,(∀ G:Gh,cC G t r v)/\Calls P f #[.string (bs s),.string (bs c)] w fun e w'=>e= .returned v/\RowKit.Below w.heap.size w w'):pJ P f ⟨[.val .str,.val .str],[.val t],m⟩:=by
 intro G w ow args x y hG how ha hm _
 obtain⟨s,c,u⟩:=x
 obtain⟨r,u'⟩:=y
 obtain⟨v,us,h1,_,hv,v',us',h2,_,hv',h3⟩:=ha
 have e1:=h1 rfl
 have e2:=h2 rfl
 have e3:us'=[]:=h3
 have e4:v= .string (bs s):=by simpa [J5,cC,aP] using hv
 have e5:v'= .string (bs c):=by simpa [J5,cC,aP] using hv'
 subst e1;subst e2;subst e3;subst e4;subst e5
 obtain⟨z,hz,hc⟩:=h s c r w hm
 refine hc.mono ?_
 rintro e w' ⟨he,hb⟩
 refine⟨G,fun _=>none,[z], ?_⟩
 exact {
  ret:=he
  le:=Gh.le_refl G
  agr:=fun b o hbo=>by
   have hw:=hG b o hbo
   have hlt:b<w.heap.size:=by
    rcases ah4 b w.heap.size with h | h
    ·exact h
    ·rw[Array.getElem?_eq_none h] at hw;cases hw
   rw[hb.block b hlt];exact hw
  size:=hb.size
  os:=hb.os
  output:=hb.output
  old:=fun b hlt _=>⟨hb.block b hlt,rfl⟩
  own:=fun b i hbi=>by cases hbi
  out:=⟨_,_,rfl,hz G,rfl,trivial⟩
  hnd:=fun _=>rfl }
end Go.Dn
namespace Go.Dn
end Go.Dn
namespace Go.Dn
open Go.Proofs Go.Shelf
section
variable {P:Program} {G:Gh} {w w':World} {ow:Nat->Option Nat} {e:TypeId} {t:Ty}
end
end Go.Dn
namespace Go.Dn
end Go.Dn
namespace Go.Dn
open Go.Lib Go.Proofs
theorem aex {P:Program} {W:World} {g:Nat} {t:TypeId} {zero:Array Value} (h:W.ShapedOpen P) (hg:P.globalNamed "internal/bytealg.MaxLen" =some g) (hlt:g<P.globals.size) (h0:((begin P (fun _ _=>0) default).world.heap[g]?).bind Obj.row? =some (zero,t)) (hz:zero.size=1) (hb:P.buildable t=true) (hc:P.cellTypes P.depth t=some [t]) (hu:P.underlying t=some (.int .i64)): ∀ g,P.globalNamed "internal/bytealg.MaxLen" =some g->∃ n T fz,Gw W g=some (.cells #[Value.int .i64 n] T fz):=by
 intro g' hg'
 obtain rfl:g=g':=Option.some.inj (hg.symm.trans hg')
 obtain⟨m,hm⟩:=cell_of_shapedOpen_int h hlt h0 hz hb hc hu
 obtain⟨cs,hh,hs,_⟩:=h.1 g zero t hlt h0
 have h1:cs.size=1:=by omega
 refine⟨m,t,(0,0), ?_⟩
 show W.heap[g]? =_
 rw[hh]
 have:cs= #[cs[0]]:=by
  apply Array.ext
  ·simpa using h1
  ·intro i h2 h3
   have:i=0:=by omega
   subst this
   rfl
 have hcell:W.cell? ⟨g,0,none⟩=some cs[0]:=by simp[World.cell?,hh,h1]
 rw[hm] at hcell
 rw[this, <- Option.some.inj hcell]
end Go.Dn
namespace Go.Dn
open Go.ChangeShapes Go.WideShapes Go.ChangeAt Go.RowKit
def WfS:(t:Ty)->t.den->Prop
 | .int k,n=>k.min<=(show Int from n)/\(show Int from n)<=k.max
 | .bool,_=>True
 | .str,s=>List.length s<=reachBytes
 | .unit,_=>True
 | .pair a b,x=>WfS a x.1/\WfS b x.2
 | .st t,x=>WfS t x
 | .slice t,l=>List.length l<=maxLen/\∀ x,x∈(show List t.den from l)->WfS t x
 | .ptr _,_=>True
 | .clo _ _,_=>True
 | .hnd,_=>True
theorem J4 {H:Type} {P:Program} {e:TypeId} {B:Nat} {d:DataW H}:∀ {l:List (DataW H)},d∈l->(∀ n,n∈DataW.weightsAll P e l->n<=B)->∀ n,n∈d.weights P e->n<=B
 | x::r,hd,h=>by
  rcases ahn.1 hd with rfl | hd
  ·exact fun n hn=>h n (ahl _ hn)
  ·exact J4 hd fun n hn=>h n (ahm _ hn)
theorem H9 {H:Type} {P:Program} {B:Nat} {t:TypeId} {d:DataW H}:∀ {ts:List TypeId} {ds:List (DataW H)} {k:Nat},ts[k]? =some t->ds[k]? =some d->(∀ n,n∈DataW.weightsEach P ts ds->n<=B)->∀ n,n∈d.weights P t->n<=B
 | [],_,_,h,_,_=>by simp at h
 | _::_,[],_,_,h,_=>by simp at h
 | t'::ts,d'::ds,0,h1,h2,h=>by
  cases h1;cases h2
  exact fun n hn=>h n (ahl _ hn)
 | t'::ts,d'::ds,k+1,h1,h2,h=>H9 (k:=k) (by simpa using h1) (by simpa using h2) fun n hn=>h n (ahm _ hn)
theorem H8 {H:Type} {P:Program} {n:Nat}:∀ (ts us:List TypeId) (ds gs:List (DataW H)),n∈DataW.weightsEach P ts ds->n∈DataW.weightsEach P (ts++us) (ds++gs)
 | [],_,_,_,h=>by simp[DataW.weightsEach] at h
 | _::_,_,[],_,h=>by simp[DataW.weightsEach] at h
 | t::ts,us,d::ds,gs,h=>by
  simp only[DataW.weightsEach,agA,ahk] at h ⊢
  rcases h with h | h
  ·exact .inl h
  ·exact .inr (H8 ts us ds gs h)
theorem aa1 {H:Type} {P:Program} {ts us:List TypeId} {ds gs:List (DataW H)} (h:(DataW.weightsEach P (ts++us) (ds++gs)).all (· <=reachBytes)=true):∀ n,n∈DataW.weightsEach P ts ds->n<=reachBytes:=fun n hn=>aiS (agu.1 h n (H8 ts us ds gs hn))
section
variable {H:Type} {enc:TypeId×Value->H} {P:Program} {w:World} {base:Nat} {spare:Nat->Bool} {held:Bool}
theorem Xw:∀ (d:Nat) (T:TypeId) (t:Ty) (fuel:Nat) (cs:List Value) (x:DataW H×List MemPlace),Fits P d T t=true->(∀ n,n∈x.1.weights P T->n<=reachBytes)->DataW.trod enc P w base spare held fuel T cs=some x-> ∃ y:t.den,aP (Gw w) t y cs/\WfS t y
 | 0,_,_,_,_,_,hf,_,_=>by cases hf
 | d+1,T,t,fuel,cs,x,hf,hwt,h=>by
  have ih:=fun T t fuel cs x=>Xw d T t fuel cs x
  unfold Fits at hf
  split at hf
  ·rename_i k k' hu
   obtain rfl:k=k':=aiS hf
   obtain⟨n,rfl,_,hw⟩:=DataW.trod_int hu h
   refine⟨n,rfl, ?_⟩
   simp only[Lit.wf,afP,aiE] at hw
   exact hw
  ·rename_i hu
   obtain⟨b,rfl,_⟩:=DataW.trod_bool hu h
   exact⟨b,rfl,trivial⟩
  ·rename_i hu
   obtain⟨s,rfl,hx,_⟩:=DataW.trod_string hu h
   refine⟨s.data.toList, ?_,hwt _ (by rw[hx];simp[DataW.weights])⟩
   simp[aP,bs]
  ·rename_i e t hu
   simp only[afP] at hf
   have hsz:0<t.size:=ahW hf.1
   have hce:P.cellsOf e=t.size:=ahU hf.2.1
   rcases DataW.trod_slice hu h with ⟨rfl,_⟩ | ⟨a,len,cap,elems,rest,n,_,rfl,hxx,_,hl,hm,hlen,hel,_⟩
   ·exact⟨[],⟨_,rfl,none,0,rfl,ahY _,aik _,.inl rfl⟩,⟨aik _,fun x hx=>by cases hx⟩⟩
   ·have hone:∀ i,i<len->∃ y:t.den,(∃ cs',w.cells? base (a.add (i*t.size)) t.size=some cs'/\aP (Gw w) t y cs')/\WfS t y:=by
     intro i hi
     have h1:=hel i hi
     rw[agU (by omega),hce] at h1
     obtain⟨cs',h2,h3⟩:=Option.bind_eq_some_iff.1 h1
     obtain⟨y,h4,h5⟩:=ih e t n cs' _ hf.2.2 (by
      rw[hxx] at hwt
      simp only[DataW.weights,hu] at hwt
      have hall:∀ n,n∈DataW.weightsAll P e (elems.map (·.1))->n<=reachBytes:=fun n hn=>hwt n (aho _ (ahl _ hn))
      exact J4 (ahs.2 ⟨_,ag6 (show i<elems.length by omega),rfl⟩) hall) h3
     exact⟨y,⟨cs',h2,h4⟩,h5⟩
    by_cases h0:len=0
    ·subst h0
     exact⟨[],⟨_,rfl,some a,cap,rfl,aik _,hm,.inl rfl⟩,⟨aik _,fun x hx=>by cases hx⟩⟩
    ·obtain⟨y0,_,_⟩:=hone 0 (by omega)
     have:∃ y:Nat->t.den,∀ i,i<len->(∃ cs',w.cells? base (a.add (i*t.size)) t.size=some cs'/\aP (Gw w) t (y i) cs')/\WfS t (y i):=by
      classical
      refine⟨fun i=>if hi:i<len then Classical.choose (hone i hi) else y0,fun i hi=> ?_⟩
      simp only[dif_pos hi]
      exact Classical.choose_spec (hone i hi)
     obtain⟨y,hy⟩:=this
     obtain⟨⟨cs0,hc0,_⟩,_⟩:=hy 0 (by omega)
     rw[Nat.zero_mul,show a.add 0=a from rfl] at hc0
     obtain⟨c,T',fz,hspot,hb,_,_⟩:=Ph hsz hc0
     have hat:∀ i,i<len->a.off+i*t.size+t.size<=c.size/\aP (Gw w) t (y i) ((c.toList.drop (a.off+i*t.size)).take t.size):=by
      intro i hi
      obtain⟨⟨cs',h1,h2⟩,_⟩:=hy i hi
      obtain⟨c',T2,fz2,h3,h4,h5,h6⟩:=Ph hsz h1
      have hblk:(a.add (i*t.size)).block=a.block:=by unfold Addr.add;split<;>rfl
      have hoff:(a.add (i*t.size)).off=a.off+i*t.size:=by
       unfold Addr.add;split
       ·rename_i hz;rw[hz];rfl
       ·rfl
      rw[hblk,hb] at h4
      cases h4
      rw[hoff] at h5 h6
      exact⟨h5,h6 ▸ h2⟩
     have hend:a.off+len*t.size<=c.size:=by
      have:=(hat (len - 1) (by omega)).1
      have e:len*t.size=(len - 1)*t.size+t.size:=by
       conv=>lhs;rw[show len=len - 1+1 by omega]
       rw[ahR,Nat.one_mul]
      omega
     refine⟨(List.range len).map y,⟨_,rfl,some a,cap,by simp,by simpa using hl,hm,.inr ⟨a.block,a.off,c,T',fz, ?_,hb,by simpa using hend, ?_⟩⟩,⟨by simp only[aha,List.length_range];omega,fun x hx=> ?_⟩⟩
     ·congr 1;cases a;cases hspot;rfl
     ·have:=ZM (R:=aP (Gw w) t) (y:=y) (c:=c.toList) (sz:=t.size) a.off len (by simpa using hend) fun i hi=>(hat i hi).2
      simpa using this
     ·obtain⟨i,hi,rfl⟩:=ahs.1 hx
      exact (hy i (by simpa using hi)).2
  ·rename_i fs t hu
   simp only[afP] at hf
   obtain⟨xs,n,_,hxx,hlen,hxl,hx⟩:=DataW.trod_struct hu h
   have hwk:∀ (k:Nat) (f:Field) (z:DataW H×List MemPlace),fs[k]? =some f->xs[k]? =some z->∀ n,n∈z.1.weights P f.type->n<=reachBytes:=by
    intro k f z hf hz
    rw[hxx] at hwt
    simp only[DataW.weights,hu] at hwt
    exact H9 (k:=k) (by simp[hf]) (by simp[hz]) hwt
   have hct:P.cellsOf T=t.size:=ahU hf.1
   have key:∀ (l:List Field) (k off:Nat) (t:Ty),fs.toList.drop k=l->Fits.fitsF (Fits P d) P l off t=true->off+t.size<=cs.length->
    ∃ y:t.den,aP (Gw w) t y ((cs.drop off).take t.size)/\WfS t y:=by
    intro l
    induction l with
    | nil=>intro k off t _ h2;cases h2
    | cons f r ihl=>
     intro k off t hk h2 hle
     have hfk:fs[k]? =some f:=by
      have:=congrArg (·[0]?) hk
      simpa [agT] using this
     have hxk:=hx k f hfk
     have hkl:k<xs.length:=by rw[hxl];exact (afF.1 hfk).1
     rw[agU hkl] at hxk
     have hdr:fs.toList.drop (k+1)=r:=by
      have:=congrArg List.tail hk
      simpa [ahG] using this
     cases r with
     | nil=>
      simp only[Fits.fitsF,afP] at h2
      obtain⟨h3,h4,h5⟩:=h2
      rw[ahU h3,ahU h4] at hxk
      exact ih f.type t n _ _ h5 (hwk k f _ hfk (agU hkl)) hxk
     | cons f' r'=>
      obtain⟨a,b,rfl⟩:∃ a b,t= .pair a b:=by
       cases t with
       | pair a b=>exact⟨a,b,rfl⟩
       | _=>simp[Fits.fitsF] at h2
      simp only[Fits.fitsF,afP] at h2
      obtain⟨h3,h4,h5,h6⟩:=h2
      rw[ahU h3,ahU h4] at hxk
      obtain⟨y1,g1,g2⟩:=ih f.type a n _ _ h5 (hwk k f _ hfk (agU hkl)) hxk
      simp only[Ty.size] at hle
      obtain⟨y2,g3,g4⟩:=ihl (k+1) (off+a.size) b hdr h6 (by omega)
      refine⟨(y1,y2),⟨_,_, ?_,g1,g3⟩,⟨g2,g4⟩⟩
      simp only[Ty.size]
      rw[List.take_add,agD]
   obtain⟨y,h1,h2⟩:=key fs.toList 0 0 t rfl hf.2 (by omega)
   refine⟨y, ?_,h2⟩
   rw[agG,ahN (by omega)] at h1
   exact h1
  ·cases hf
theorem acd {r:Reach} {b0:Nat} {d:Nat} {T:TypeId} {t:Ty} {v:Value} {dd:DataW H} {ps:List MemPlace} (hf:Fits P d T t=true) (hval:Value.okWide P w r b0 T v) (hwt:∀ n,n∈dd.weights P T->n<=reachBytes) (h:DataW.Trod enc P w base spare held T v dd ps): ∃ y:t.den,cC (Gw w) t y v/\WfS t y:=by
 obtain⟨fuel,h⟩:=h
 obtain⟨y,h1,h2⟩:=Xw d T t fuel _ _ hf hwt h
 refine⟨y, ?_,h2⟩
 cases d with
 | zero=>cases hf
 | succ d=>
  unfold Fits at hf
  split at hf
  ·rename_i hu;obtain⟨n,rfl⟩:=okWide_int hu hval;exact h1
  ·rename_i hu;obtain⟨n,rfl⟩:=okWide_bool hu hval;exact h1
  ·rename_i hu;obtain⟨n,rfl⟩:=okWide_string hu hval;exact h1
  ·rename_i hu;obtain⟨a,len,cap,rfl⟩:=okWide_slice hu hval;exact h1
  ·rename_i hu;obtain⟨c,rfl,_⟩:=okWide_struct hu hval;exact⟨c.toList,by simp,h1⟩
  ·cases hf
end
def Wc:(ts:List Ty)->eG (pms ts)->Prop
 | [],_=>True
 | t::r,x=>WfS t x.1/\Wc r x.2
theorem Sp {H:Type} {enc:TypeId×Value->H} {P:Program} {w:World} {base:Nat} {spare:Nat->Bool} {held:Bool} {r:Reach} {b0:Nat}:∀ {Ts:List TypeId} {ts:List Ty} {vs:List Value} {ds:List (DataW H)} {ps:List MemPlace} {i:Nat},Oj P Ts ts=true-> (∀ (j:Nat) t v,Ts[j]? =some t->vs[j]? =some v->Value.okWide P w r b0 t v)->(∀ n,n∈DataW.weightsEach P Ts ds->n<=reachBytes)->DataW.TrodAll enc P w base spare held Ts vs ds ps-> ∃ x,iE (Gw w) w (fun _=>none) i (pms ts) x vs/\Wc ts x
 | [],[],[],[],_,_,_,_,_,_=>⟨(),rfl,trivial⟩
 | T::Ts,t::ts,v::vs,d::ds,ps,i,hf,hv,hwt,⟨p,q,h1,h2,_⟩=>by
  simp only[Oj,afP] at hf
  obtain⟨y,h3,h4⟩:=acd hf.1 (hv 0 T v rfl rfl) (fun n hn=>hwt n (ahl _ hn)) h1
  obtain⟨x,h5,h6⟩:=Sp (i:=i+1) hf.2 (fun j t v ht hv'=>hv (j+1) t v ht hv') (fun n hn=>hwt n (ahm _ hn)) h2
  exact⟨(y,x),⟨v,vs,fun _=>rfl,fun h=>absurd h (by simp[PM.arg]),h3,h5⟩,⟨h4,h6⟩⟩
theorem law_callsS {P:Program} {f:FuncId} {fn:Func} {ts:List Ty} {m:eG (pms ts)->Option (cX (pms ts) [.val .bool])} (ok:pJ P f ⟨pms ts,[.val .bool],m⟩) (hm:∀ x,Wc ts x->∃ y,m x=some (true,y)) (hfit:Oj P fn.params.toList ts=true) {tb:TypeId} (hres:fn.resultTypes= #[tb]) (htb:P.underlying tb=some .bool) (kids:Kids P (· <P.types.size)) (full:∀ t e,t<P.types.size->P.underlying t=some (.slice e)->0<P.cellsOf e) (hlt:∀ t∈fn.params.toList,t<P.types.size) {H:Type} {enc:TypeId×Value->H} {s:ChangeSpec} (hvars:s.vars=[]) {W:World} (hT:AU P (Gw W)) {base:Nat} {args:Array Value} {ds gs:List (DataW H)} {before:List MemPlace} (hspec:s.fn H (ds++[])={ results:=[.lit (.bool true)],args:=ds }) (hval:∀ (j:Nat) t v,fn.params[j]? =some t->args[j]? =some v->Value.okWide P W .any base t v) (hW:DataW.Whole enc P fn.params.toList s.vars false W args.toList ds gs before) (hwt:∀ n,n∈DataW.weightsEach P fn.params.toList ds->n<=reachBytes): Calls P f args W fun e W'=>∃ v,e= .returned v/\s.post enc P fn false true false false W args v W':=by
 have hW':=hW
 obtain⟨p,q,hA,hV,hpq,hfz,hnd⟩:=hW
 rw[hvars] at hV
 have hg:gs=[]/\q=[]:=by
  cases gs with
  | nil=>exact⟨rfl,hV⟩
  | cons g gs=>exact absurd hV (by simp[DataW.TrodVars])
 obtain⟨rfl,rfl⟩:=hg
 rw[agz] at hpq
 subst hpq
 obtain⟨x,hx,hwf⟩:=Sp (i:=0) hfit (fun j t v ht hv=>hval j t v (by simpa using ht) (by simpa using hv)) hwt hA
 obtain⟨y,hy⟩:=hm x hwf
 refine (ok (Gw W) W (fun _=>none) args.toList x (true,y) (aeA W) (fun _ _ h=>by cases h) hx hy hT).mono ?_
 rintro e W' ⟨G',ow',vs,hgv⟩
 have hold:∀ b,b<W.heap.size->W'.heap[b]? =W.heap[b]? :=fun b hb=>(hgv.old b hb rfl).1
 have hplt:=hW'.lt
 obtain⟨v,us,rfl,hv,hus,_⟩:=hgv.out
 subst hus
 have hv':v= .bool true:=by simpa [ZU,cC,aP] using hv
 subst hv'
 refine⟨.bool true,hgv.ret,ds,[],before,[],before,[],hW', ?_, ?_, ?_, ?_,fun h=>by cases h⟩
 ·rw[hspec,hres]
  exact trodAll_mk1 (shut_bool htb true)
 ·rw[hspec]
  have hsame:∀ z,z∈before->W.sameAt W' z:=by
   intro z hz
   have:=hplt z hz
   cases z with
   | cell b off=>simp only[World.sameAt,World.cell?];rw[hold b this]
   | map b=>exact hold b this
  have hre:=DataW.TrodAll.respare (spare':=fun b=>decide (b<W.heap.size)) kids full hlt hA (fun z hz=>by simpa using hplt z hz)
  have hcar:∀ {Ts:List TypeId} {vs:List Value} {ds:List (DataW H)} {ps:List MemPlace},DataW.TrodAll enc P W 0 (fun b=>decide (b<W.heap.size)) true Ts vs ds ps->(∀ z,z∈ps->W.sameAt W' z)->DataW.TrodAll enc P W' 0 (fun b=>decide (b<W.heap.size)) true Ts vs ds ps:=by
   intro Ts
   induction Ts with
   | nil=>
    intro vs ds ps h _
    cases vs<;>cases ds<;>first | exact h | exact absurd h (by simp[DataW.TrodAll])
   | cons T Ts ih=>
    intro vs ds ps h hs
    cases vs with
    | nil=>cases ds<;>exact absurd h (by simp[DataW.TrodAll])
    | cons v vs=>cases ds with
    | nil=>exact absurd h (by simp[DataW.TrodAll])
    | cons d ds=>
    obtain⟨p,q,⟨n,h1⟩,h2,rfl⟩:=h
    exact⟨p,q,⟨n,DataW.trod_carry n _ _ _ h1 fun z hz=>hs z (ahl _ hz)⟩,ih h2 (fun z hz=>hs z (ahm _ hz)),rfl⟩
  exact hcar hre hsame
 ·rw[hspec,hvars];rfl
 ·refine⟨hgv.os,hgv.output,fun i hi=> ?_⟩
  rw[hold i hi]
  cases hh:W.heap[i]? with
  | none=>trivial
  | some o=>cases o<;>simp[World.keptBut]
end Go.Dn
namespace Go.Dn
open Go.Proofs Go.Shelf Go.RowKit Go.Lib
structure B9 (P:Program) (ρ:Ren) (k bytes:Nat) (z:Value):Prop where
 mixed:P.follows .mixedOrders=true
 f22:Bears P (ρ.f 22) (Body2.n22 ρ)
 f29:∃ fn,P.funcs[ρ.f 29]? =some fn/\(fn.name== "runtime.NumGoroutine")=false/\fn.body.isNone=true/\Extern.findNext fn=none/\Extern.find fn=some (Extern.SlicesOverlaps.overlaps #[(ρ.t 24),(ρ.t 24)] #[(ρ.t 4)])
 t0:P.underlying (ρ.t 0)=some (TypeDesc.tuple #[])
 a0:∀ w,(isAgg (ρ.t 0)).run P w= .ok false w
 z0:∀ w,(Go.sizeOf (ρ.t 0)).run P w= .ok 1 w
 v0:∀ w,(zeroValue (ρ.t 0)).run P w= .ok (Value.tuple #[]) w
 t3:P.underlying (ρ.t 3)=some (TypeDesc.int IntKind.i64)
 a3:∀ w,(isAgg (ρ.t 3)).run P w= .ok false w
 z3:∀ w,(Go.sizeOf (ρ.t 3)).run P w= .ok 1 w
 v3:∀ w,(zeroValue (ρ.t 3)).run P w= .ok (Value.int IntKind.i64 0) w
 t4:P.underlying (ρ.t 4)=some (TypeDesc.bool)
 a4:∀ w,(isAgg (ρ.t 4)).run P w= .ok false w
 z4:∀ w,(Go.sizeOf (ρ.t 4)).run P w= .ok 1 w
 v4:∀ w,(zeroValue (ρ.t 4)).run P w= .ok (Value.bool false) w
 z9:∀ w,(Go.sizeOf (ρ.t 9)).run P w= .ok k w
 t24:P.underlying (ρ.t 24)=some (TypeDesc.slice (ρ.t 9))
 a24:∀ w,(isAgg (ρ.t 24)).run P w= .ok false w
 z24:∀ w,(Go.sizeOf (ρ.t 24)).run P w= .ok 1 w
 v24:∀ w,(zeroValue (ρ.t 24)).run P w= .ok (Value.slice none 0 0) w
 i9:(P.info? (ρ.t 9)).map (fun i=>(i.zero,i.size,i.bytes))=some (some z,k,bytes)
 k0:0<k
 zc:z.cells.size=k
theorem CP {o:Option TypeInfo} {z:Value} {k b:Nat} (h:o.map (fun i=>(i.zero,i.size,i.bytes))=some (some z,k,b)):∃ i,o=some i/\i.zero=some z/\i.size=k/\i.bytes=b:=by
 cases o with
 | none=>cases h
 | some i=>
  simp only[ais,Option.some.injEq,Prod.mk.injEq] at h
  exact⟨i,rfl,h.1,h.2.1,h.2.2⟩
theorem vn {P:Program} (w:World) (dT sT ty elem:TypeId) (b o dLen dCap:Nat) (a:Addr) (sLen sCap k m:Nat) (cs:List Value) (hu:P.underlying dT=some (.slice elem)) (hs:(P.info? elem).map (·.size)=some k) (hm:m=Nat.min sLen dLen) (hn:cs.length=m*k) (hsrc:∀ j v,cs[j]? =some v->w.cell? (a.add j)=some v) (hc:∀ j,j<cs.length->(w.cell? ⟨b,o+j,none⟩).isSome=true) (hf:∀ j,j<cs.length->w.frozen? ⟨b,o+j,none⟩=false) (h1:∀ v∈cs,v.oneCell'=true): (Builtin.copy_ #[dT,sT] ty #[.slice (some ⟨b,o,none⟩) dLen dCap,.slice (some a) sLen sCap]).run P w= .ok (goInt m) (w.setCells b o cs):=by
 have hl:=run_loadCells_list (P:=P) w a cs hsrc
 have hst:=run_storeCells_cells (P:=P) b o cs 0 w (by simpa using hc) (by simpa using hf) h1
 cases hq:P.info? elem with
 | none=>simp[hq] at hs
 | some i=>
  have hi:i.size=k:=by simpa [hq] using hs
  simp[Builtin.copy_,run_underlying hu,Builtin.lenOf,Builtin.firstCells,sizeOf,typeInfo,hq,hi, <- hm, <- hn,hl,hst]
variable {P:Program} {ρ:Ren} {k bytes:Nat} {z:Value}
set_option maxHeartbeats 4000000 in
set_option maxRecDepth 100000 in
theorem VT (L:B9 P ρ k bytes z) (b off n c vb voff m vc:Nat) (vs:List Value) (w:World) (hm:0<m) (hroom:n+m<=c) (hc63:c<=9223372036854775807) (hvl:vs.length=m*k) (hsp:∀ j,j<m*k->(w.cell? ⟨b,off+n*k+j,none⟩).isSome=true) (hfz:∀ j,j<m*k->w.frozen? ⟨b,off+n*k+j,none⟩=false) (hvs:∀ j v,vs[j]? =some v->w.cell? ⟨vb,voff+j,none⟩=some v) (h1v:∀ v∈vs,v.oneCell'=true): Calls P (ρ.f 22) #[.slice (some ⟨b,off,none⟩) n c,.int .i64 n,.slice (some ⟨vb,voff,none⟩) m vc] w fun e w'=> e= .returned (.slice (some ⟨b,off,none⟩) (n+m) c)/\w'=w.setCells b (off+n*k) vs:=by
 have t0:=L.t0;have a0:=L.a0;have z0:=L.z0;have v0:=L.v0;have t3:=L.t3;have a3:=L.a3;have z3:=L.z3;have v3:=L.v3;have t4:=L.t4;have a4:=L.a4;have z4:=L.z4;have v4:=L.v4;have z9:=L.z9;have t24:=L.t24;have a24:=L.a24;have z24:=L.z24;have v24:=L.v24
 have u0:=run_underlying L.t0;have u3:=run_underlying L.t3;have u4:=run_underlying L.t4;have u24:=run_underlying L.t24
 have mixed:=L.mixed
 obtain⟨i0,hi0,hz0,hzs,hzb⟩:=CP L.i9
 have hz1:¬ ((m:Int)=0):=by omega
 have hsrc:Src P i0.size (ρ.t 24) (.slice (some ⟨vb,voff,none⟩) m vc) m vs w:=by
  rw[hzs]
  exact Src.ofSlice w L.t24 ⟨vb,voff,none⟩ m vc vs hvl (fun j u hj=>by rw[Addr.add_lit];exact hvs j u hj) h1v
 rw[<- hzs] at hsp hfz ⊢
 rw[<- hzs] at hvl
 obtain⟨_,_,F22⟩:=L.f22
 go_enter F22,Body2.n22_ntmps ρ
 go_wp2_with (at_builtin;refine wpList_append_room_src _ rfl _ _ (ρ.t 24) (ρ.t 24) rfl (ρ.t 9) i0 L.t24 hi0 b off n c rfl _ rfl m vs hsrc hroom (by rw[hvl];exact hsp) (by rw[hvl];exact hfz) ?_)
 go_ret
 exact⟨rfl,by rw[hzs]⟩
set_option maxHeartbeats 4000000 in
set_option maxRecDepth 100000 in
theorem VS (L:B9 P ρ k bytes z) (base:Option Addr) (n c vb voff m vc:Nat) (cs vs:List Value) (w:World) (hm:0<m) (hnc:n<=c) (hroom:c<n+m) (hbig:(n+m)*bytes<=140737488355328) (h63:n+m<=4611686018427387904) (hcl:cs.length=n*k) (hvl:vs.length=m*k) (hnil:base=none->n=0) (hcs:∀ a,base=some a->∀ j v,cs[j]? =some v->w.cell? (a.add j)=some v) (hvs:∀ j v,vs[j]? =some v->w.cell? ⟨vb,voff+j,none⟩=some v) (h1v:∀ v∈vs,v.oneCell'=true): Calls P (ρ.f 22) #[.slice base n c,.int .i64 n,.slice (some ⟨vb,voff,none⟩) m vc] w fun e w'=> e= .returned (.slice (some ⟨w.heap.size,0,none⟩) (n+m) (grownCap w (n+m) c (ρ.t 9)))/\ w'=w.drew.alloc (.cells ((cs++vs).toArray++Builtin.zeroCells z.cells (grownCap w (n+m) c (ρ.t 9) - (n+m))) (ρ.t 9)):=by
 have t0:=L.t0;have a0:=L.a0;have z0:=L.z0;have v0:=L.v0;have t3:=L.t3;have a3:=L.a3;have z3:=L.z3;have v3:=L.v3;have t4:=L.t4;have a4:=L.a4;have z4:=L.z4;have v4:=L.v4;have z9:=L.z9;have t24:=L.t24;have a24:=L.a24;have z24:=L.z24;have v24:=L.v24
 have u0:=run_underlying L.t0;have u3:=run_underlying L.t3;have u4:=run_underlying L.t4;have u24:=run_underlying L.t24
 have mixed:=L.mixed
 obtain⟨i0,hi0,hz0,hzs,hzb⟩:=CP L.i9
 have hz1:¬ ((m:Int)=0):=by omega
 have hsrc:Src P i0.size (ρ.t 24) (.slice (some ⟨vb,voff,none⟩) m vc) m vs w:=by
  rw[hzs]
  exact Src.ofSlice w L.t24 ⟨vb,voff,none⟩ m vc vs hvl (fun j u hj=>by rw[Addr.add_lit];exact hvs j u hj) h1v
 have hold:(Builtin.firstCells i0.size n (.slice base n c)).run P w.drew= .ok cs.toArray w.drew:=by
  rw[hzs]
  cases base with
  | none=>
   have h0:=hnil rfl
   subst h0
   rw[Nat.zero_mul] at hcl
   rw[List.length_eq_zero_iff.1 hcl]
   exact run_firstCells_none w.drew k 0 0 c
  | some a=>exact run_firstCells_some w.drew k n a n c cs hcl (fun j v hj=>hcs a rfl j v hj)
 have hrun:∀ ty,(Builtin.append_ #[(ρ.t 24),(ρ.t 24)] ty #[.slice base n c,.slice (some ⟨vb,voff,none⟩) m vc]).run P w=_:=fun ty=>
  run_append_grow_src w (ρ.t 24) (ρ.t 24) ty (ρ.t 9) i0 _ L.t24 hi0 hz0 base n c cs hold _ m vs hsrc hroom (by omega) (by rw[hzb];exact growslice_fits hroom hbig)
 obtain⟨Z,hZ⟩:∃ Z,Z=z.cells:=⟨_,rfl⟩
 rw[<- hZ] at hrun ⊢
 clear hZ
 obtain⟨_,_,F22⟩:=L.f22
 go_enter F22,Body2.n22_ntmps ρ
 cases base with
 | none=>
  have h0:=hnil rfl
  subst h0
  go_wp2_with (at_builtin;refine Lib.wpList_append_run _ rfl _ _ _ _ rfl _ _ rfl rfl _ _ (hrun _) ?_)
  go_ret
  exact⟨rfl,rfl⟩
 | some a=>
  obtain⟨ab,ao,asp⟩:=a
  go_wp2_with (at_builtin;refine Lib.wpList_append_run _ rfl _ _ _ _ rfl _ _ rfl rfl _ _ (hrun _) ?_)
  all_goals (go_ret;exact⟨rfl,rfl⟩)
set_option maxHeartbeats 4000000 in
set_option maxRecDepth 100000 in
theorem aaq (L:B9 P ρ k bytes z) (b off n c i vb voff m vc:Nat) (cs vs:List Value) (w:World) (hi:i<n) (hm:0<m) (hroom:n+m<=c) (hc63:c<=9223372036854775807) (hvb:vb≠b) (hcl:cs.length=n*k) (hvl:vs.length=m*k) (hcs:∀ j v,cs[j]? =some v->w.cell? ⟨b,off+j,none⟩=some v) (hsp:∀ j,j<(n+m)*k->(w.cell? ⟨b,off+j,none⟩).isSome=true) (hfz:∀ j,j<(n+m)*k->w.frozen? ⟨b,off+j,none⟩=false) (hvs:∀ j v,vs[j]? =some v->w.cell? ⟨vb,voff+j,none⟩=some v) (h1c:∀ v∈cs,v.oneCell'=true) (h1v:∀ v∈vs,v.oneCell'=true) (tA tB:TypeId) (kA kB:Nat) (hsa:w.shape? vb=some (tA,kA)) (hsb:w.shape? b=some (tB,kB)) (hkB:kB≠0) (hfa:w.frozen? ⟨vb,voff,none⟩=false) (hfe:w.frozen? ⟨vb,kA,none⟩=false): Calls P (ρ.f 22) #[.slice (some ⟨b,off,none⟩) n c,.int .i64 i,.slice (some ⟨vb,voff,none⟩) m vc] w fun e w'=> e= .returned (.slice (some ⟨b,off,none⟩) (n+m) c)/\w'=(w.drew.setCells b (off+(i+m)*k) (cs.drop (i*k))).setCells b (off+i*k) vs:=by
 have t0:=L.t0;have a0:=L.a0;have z0:=L.z0;have v0:=L.v0;have t3:=L.t3;have a3:=L.a3;have z3:=L.z3;have v3:=L.v3;have t4:=L.t4;have a4:=L.a4;have z4:=L.z4;have v4:=L.v4;have z9:=L.z9;have t24:=L.t24;have a24:=L.a24;have z24:=L.z24;have v24:=L.v24
 have u0:=run_underlying L.t0;have u3:=run_underlying L.t3;have u4:=run_underlying L.t4;have u24:=run_underlying L.t24
 have hz1:¬ ((m:Int)=0):=by omega
 have hz2:¬ ((i:Int)=(n:Int)):=by omega
 have hsz:(P.info? (ρ.t 9)).map (·.size)=some k:=by
  obtain⟨i0,hi0,h0,h1,h2⟩:=CP L.i9
  rw[hi0];simp[h1]
 have hov:∀ lb cb,(callFunc (ρ.f 29) #[.slice (some ⟨vb,voff,none⟩) m vc,.slice (some ⟨b,off+(i+m)*k,none⟩) lb cb]).run P w= .ok (.value (.bool false)) w:=fun lb cb=>by
  obtain⟨_,F29,F1,F2,F3,F4⟩:=L.f29
  rw[run_callFunc_extern F29 F1 F2 F3 F4,
   Lib.run_overlaps_apart w (ρ.t 24) (ρ.t 4) (ρ.t 9) L.t24 k L.z9 ⟨vb,voff,none⟩ ⟨b,off+(i+m)*k,none⟩ m vc lb cb hvb tA tB kA kB hsa hsb hkB hfa hfe]
  rfl
 have hk1:(i+m)*k=i*k+m*k:=ahR i m k
 have hk2:(n+m)*k=n*k+m*k:=ahR n m k
 have hk3:i*k<=n*k:=aid k (by omega)
 have hk4:(n - i)*k=n*k - i*k:=Nat.sub_mul n i k
 have hdl:(cs.drop (i*k)).length=(n - i)*k:=by rw[ag9,hcl,hk4]
 have mixed:=L.mixed
 have hw1:IntKind.i64.wrap ((i:Int)+(m:Int))=(i:Int)+(m:Int):=by rw[IntKind.wrap_i64];omega
 have hb1:(0:Int)<=(i:Int)+(m:Int):=by omega
 have hin:i<=n:=by omega
 have htn:((i:Int)+(m:Int)).toNat=i+m:=by omega
 have hb2:¬ (c=i+m):=by omega
 have hb3:(i:Int)<=(n:Int)+(m:Int):=by omega
 have hb4:¬ (c=i):=by omega
 have hcp1:∀ ty dc sc,(Builtin.copy_ #[(ρ.t 24),(ρ.t 24)] ty #[.slice (some ⟨b,off+(i+m)*k,none⟩) (n+m - (i+m)) dc,.slice (some ⟨b,off+i*k,none⟩) (n+m - i) sc]).run P w.drew= .ok (goInt (n - i:Nat)) (w.drew.setCells b (off+(i+m)*k) (cs.drop (i*k))):=fun ty dc sc=>
  vn w.drew _ _ ty (ρ.t 9) b (off+(i+m)*k) (n+m - (i+m)) dc ⟨b,off+i*k,none⟩ (n+m - i) sc k (n - i) (cs.drop (i*k)) L.t24 hsz (by simp only[Nat.min_def];split<;>omega) hdl
   (fun j v hj=>by rw[Addr.add_lit,ahQ];exact hcs (i*k+j) v (by rwa [agT] at hj))
   (fun j hj=>by rw[ahQ];exact hsp _ (by rw[hdl,hk4] at hj;omega)) (fun j hj=>by rw[ahQ];exact hfz _ (by rw[hdl,hk4] at hj;omega)) (fun v hv=>h1c v (List.mem_of_mem_drop hv))
 obtain⟨W1,hW1⟩:∃ W1,W1=w.drew.setCells b (off+(i+m)*k) (cs.drop (i*k)):=⟨_,rfl⟩
 have hsp1:∀ q,q<(n+m)*k->(W1.cell? ⟨b,off+q,none⟩).isSome=true:=fun q hq=>by
  rw[hW1]
  exact isSome_setCells b _ _ _ (fun j hj=>by rw[ahQ];exact hsp _ (by rw[hdl,hk4] at hj;omega)) _ (hsp q hq)
 have hcp2:∀ (W:World),(∀ x,W.cell? x=W1.cell? x)->(∀ x,W.frozen? x=W1.frozen? x)->∀ ty dc,(Builtin.copy_ #[(ρ.t 24),(ρ.t 24)] ty #[.slice (some ⟨b,off+i*k,none⟩) (n+m - i) dc,.slice (some ⟨vb,voff,none⟩) m vc]).run P W= .ok (goInt m) (W.setCells b (off+i*k) vs):=fun W hWc hWf ty dc=>
  vn W _ _ ty (ρ.t 9) b (off+i*k) (n+m - i) dc ⟨vb,voff,none⟩ m vc k m vs L.t24 hsz (by simp only[Nat.min_def];split<;>omega) hvl
   (fun j v hj=>by
     rw[Addr.add_lit,hWc,hW1,World.cell?_setCells_out b _ _ _ _ (fun h _=>absurd h hvb)]
     exact hvs j v hj)
   (fun j hj=>by rw[hWc,ahQ];exact hsp1 _ (by omega)) (fun j hj=>by rw[hWf,hW1,World.frozen?_setCells,ahQ];exact hfz _ (by omega)) h1v
 rw[<- hW1] at hcp1
 clear hk1 hk2 hk3 hk4 hdl hsp1
 obtain⟨_,_,F22⟩:=L.f22
 go_enter F22,Body2.n22_ntmps ρ
 go_wp2_with (simp only[hov])
 go_region_law_o (refine step_copy_runI rfl _ _ (ρ.t 24) (ρ.t 24) rfl _ _ (by simp[Act.eval,Act.put]) (by simp[Act.eval,Act.put]) (hcp1 _ _ _) ?_)
 go_wp2_with (at_builtin;refine wpList_copy_runI _ rfl _ _ (ρ.t 24) (ρ.t 24) rfl _ _ rfl rfl (hcp2 _ (fun _=>rfl) (fun _=>rfl) _ _) ?_)
 go_ret
 first | exact⟨rfl,rfl⟩ | exact⟨rfl,by rw[hW1]⟩
theorem BI (z:Array Value) (n:Nat):(Builtin.zeroCells z n).size=n*z.size:=by
 simp[Builtin.zeroCells,aib]
set_option maxHeartbeats 4000000 in
set_option maxRecDepth 100000 in
theorem abM (L:B9 P ρ k bytes z) (b off n c i vb voff m vc:Nat) (cs vs:List Value) (w:World) (hi:i<n) (hm:0<m) (hnc:n<=c) (hroom:c<n+m) (hbig:(n+m)*bytes<=140737488355328) (h63:n+m<=4611686018427387904) (hcl:cs.length=n*k) (hvl:vs.length=m*k) (hcs:∀ j v,cs[j]? =some v->w.cell? ⟨b,off+j,none⟩=some v) (hvs:∀ j v,vs[j]? =some v->w.cell? ⟨vb,voff+j,none⟩=some v) (h1c:∀ v∈cs,v.oneCell'=true) (h1v:∀ v∈vs,v.oneCell'=true): Calls P (ρ.f 22) #[.slice (some ⟨b,off,none⟩) n c,.int .i64 i,.slice (some ⟨vb,voff,none⟩) m vc] w fun e w'=> e= .returned (.slice (some ⟨w.heap.size,0,none⟩) (n+m) (grownCap w (n+m) c (ρ.t 9)))/\ w'=(((w.alloc (.cells ((cs.take (i*k)).toArray++Builtin.zeroCells z.cells (n+m - i)++Builtin.zeroCells z.cells (grownCap w (n+m) c (ρ.t 9) - (n+m))) (ρ.t 9))).drew.setCells w.heap.size (i*k) vs).drew).setCells w.heap.size ((i+m)*k) (cs.drop (i*k)):=by
 have t0:=L.t0;have a0:=L.a0;have z0:=L.z0;have v0:=L.v0;have t3:=L.t3;have a3:=L.a3;have z3:=L.z3;have v3:=L.v3;have t4:=L.t4;have a4:=L.a4;have z4:=L.z4;have v4:=L.v4;have z9:=L.z9;have t24:=L.t24;have a24:=L.a24;have z24:=L.z24;have v24:=L.v24
 have u0:=run_underlying L.t0;have u3:=run_underlying L.t3;have u4:=run_underlying L.t4;have u24:=run_underlying L.t24
 have mixed:=L.mixed
 obtain⟨i0,hi0,hz0,hzs,hzb⟩:=CP L.i9
 have hz1:¬ ((m:Int)=0):=by omega
 have hz2:¬ ((i:Int)=(n:Int)):=by omega
 have hz3:(c:Int)<(n:Int)+(m:Int):=by omega
 have hsz:(P.info? (ρ.t 9)).map (·.size)=some k:=by rw[hi0];simp[hzs]
 have hk0:=L.k0
 have hk1:(i+m)*k=i*k+m*k:=ahR i m k
 have hk2:(n+m)*k=n*k+m*k:=ahR n m k
 have hk3:i*k<=n*k:=aid k (by omega)
 have hk4:(n - i)*k=n*k - i*k:=Nat.sub_mul n i k
 have hk5:(n+m - i)*k=n*k+m*k - i*k:=by rw[Nat.sub_mul,hk2]
 have hk6:1<=m*k:=Nat.mul_pos hm hk0
 have hk7:1<=n*k:=Nat.mul_pos (by omega) hk0
 have hbw:b<w.heap.size:=block_lt_of_cell (hcs 0 _ (agU (by omega)))
 have hvw:vb<w.heap.size:=block_lt_of_cell (hvs 0 _ (agU (by omega)))
 have hkk:(n:Int)+(m:Int) - (i:Int)=((n+m - i:Nat):Int):=by omega
 have hik:i+(n+m - i)=n+m:=by omega
 have hold:(Builtin.firstCells i0.size i (.slice (some ⟨b,off,none⟩) i c)).run P w.drew= .ok (cs.take (i*k)).toArray w.drew:=by
  rw[hzs]
  exact run_firstCells_some w.drew k i ⟨b,off,none⟩ i c (cs.take (i*k)) (by rw[ahe];omega) (fun j v hj=>by
   rw[Addr.add_lit]
   rw[ag3] at hj
   split at hj
   ·exact hcs j v hj
   ·cases hj)
 have hb1':(n+m - i)*bytes<=(n+m)*bytes:=aid _ (by omega)
 have hrz:∀ ty,(Builtin.append_ #[(ρ.t 24),(ρ.t 3)] ty #[.slice (some ⟨b,off,none⟩) i c,.int .i64 ((n:Int)+(m:Int) - (i:Int))]).run P w=
  .ok (.slice (some ⟨w.heap.size,0,none⟩) (n+m) (grownCap w (n+m) c (ρ.t 9))) (w.drew.alloc (.cells ((cs.take (i*k)).toArray++Builtin.zeroCells z.cells (n+m - i)++Builtin.zeroCells z.cells (grownCap w (n+m) c (ρ.t 9) - (n+m))) (ρ.t 9))):=fun ty=>by
  have h:=Lib.run_append_grow_zeros w (ρ.t 24) (ρ.t 3) ty (ρ.t 9) i0 _ .i64 .i64 L.t24 L.t3 hi0 hz0 (some ⟨b,off,none⟩) i c (cs.take (i*k)) hold (n+m - i) (by omega) (by omega) (by omega) (by omega) (by rw[hzb];omega) (by rw[hzb,hik];exact growslice_fits hroom hbig)
  rw[hik] at h
  rw[hkk]
  exact h
 obtain⟨G,hG⟩:∃ G,G=grownCap w (n+m) c (ρ.t 9):=⟨_,rfl⟩
 obtain⟨ROW,hROW⟩:∃ ROW:Array Value,ROW=(cs.take (i*k)).toArray++Builtin.zeroCells z.cells (n+m - i)++Builtin.zeroCells z.cells (G - (n+m)):=⟨_,rfl⟩
 rw[<- hG] at hrz ⊢
 rw[<- hROW] at hrz ⊢
 have hRl:(n+m)*k<=ROW.size:=by
  rw[hROW]
  simp only[Array.size_append,ahF,ahe,BI,L.zc]
  rw[hcl,ah9 hk3]
  omega
 obtain⟨W1,hW1⟩:∃ W1,W1=w.drew.alloc (.cells ROW (ρ.t 9)):=⟨_,rfl⟩
 rw[<- hW1] at hrz
 have hN:∀ j,j<(n+m)*k->(W1.cell? ⟨w.heap.size,j,none⟩).isSome=true:=fun j hj=>by
  rw[hW1,World.cell?_alloc_at (w:=w.drew) ROW _ w.heap.size j rfl,afE (by omega)];rfl
 have hNf:∀ j,W1.frozen? ⟨w.heap.size,j,none⟩=false:=fun j=>by rw[hW1];exact World.frozen?_alloc_at (w:=w.drew) ROW _ w.heap.size j rfl
 have hOb:∀ j v,w.cell? ⟨b,j,none⟩=some v->W1.cell? ⟨b,j,none⟩=some v:=fun j v h=>by rw[hW1,World.cell?_alloc_past (w:=w.drew) _ b j hbw];exact h
 have hOv:∀ j v,w.cell? ⟨vb,j,none⟩=some v->W1.cell? ⟨vb,j,none⟩=some v:=fun j v h=>by rw[hW1,World.cell?_alloc_past (w:=w.drew) _ vb j hvw];exact h
 have hcpA:∀ (W:World),(∀ x,W.cell? x=W1.cell? x)->(∀ x,W.frozen? x=W1.frozen? x)->∀ ty dc,(Builtin.copy_ #[(ρ.t 24),(ρ.t 24)] ty #[.slice (some ⟨w.heap.size,i*k,none⟩) (n+m - i) dc,.slice (some ⟨vb,voff,none⟩) m vc]).run P W= .ok (goInt m) (W.setCells w.heap.size (i*k) vs):=fun W hWc hWf ty dc=>
  vn W _ _ ty (ρ.t 9) w.heap.size (i*k) (n+m - i) dc ⟨vb,voff,none⟩ m vc k m vs L.t24 hsz (by simp only[Nat.min_def];split<;>omega) hvl
   (fun j v hj=>by rw[Addr.add_lit,hWc];exact hOv _ v (hvs j v hj))
   (fun j hj=>by rw[hWc];exact hN _ (by omega)) (fun j hj=>by rw[hWf];exact hNf _) h1v
 have hGn:n+m<=G:=by rw[hG];exact grownCap_ge w _ _ _
 have hG63:G<=9223372036854775807:=by
  have:=grownCap_le_maxLen w (n+m) c (ρ.t 9) (by unfold maxLen;omega)
  rw[<- hG] at this
  unfold maxLen at this
  omega
 have hGi:¬ (G=i):=by omega
 have hGim:¬ (G=i+m):=by omega
 have hci:¬ (c=i):=by omega
 have hbN:b≠w.heap.size:=by omega
 have hdl:(cs.drop (i*k)).length=(n - i)*k:=by rw[ag9,hcl,hk4]
 have hcpB:∀ (W:World),(∀ x,W.cell? x=(W1.setCells w.heap.size (i*k) vs).cell? x)->(∀ x,W.frozen? x=(W1.setCells w.heap.size (i*k) vs).frozen? x)->∀ ty dc sc,(Builtin.copy_ #[(ρ.t 24),(ρ.t 24)] ty #[.slice (some ⟨w.heap.size,(i+m)*k,none⟩) (n+m - (i+m)) dc,.slice (some ⟨b,off+i*k,none⟩) (n - i) sc]).run P W= .ok (goInt (n - i:Nat)) (W.setCells w.heap.size ((i+m)*k) (cs.drop (i*k))):=fun W hWc hWf ty dc sc=>
  vn W _ _ ty (ρ.t 9) w.heap.size ((i+m)*k) (n+m - (i+m)) dc ⟨b,off+i*k,none⟩ (n - i) sc k (n - i) (cs.drop (i*k)) L.t24 hsz (by simp only[Nat.min_def];split<;>omega) hdl
   (fun j v hj=>by
     rw[Addr.add_lit,hWc,World.cell?_setCells_out _ _ _ _ _ (fun h _=>absurd h hbN),ahQ]
     exact hOb _ v (hcs (i*k+j) v (by rwa [agT] at hj)))
   (fun j hj=>by rw[hWc];exact isSome_setCells _ _ _ _ (fun t ht=>hN _ (by omega)) _ (hN _ (by rw[hdl,hk4] at hj;omega)))
   (fun j hj=>by rw[hWf,World.frozen?_setCells];exact hNf _) (fun v hv=>h1c v (List.mem_of_mem_drop hv))
 subst hW1
 have hE1:∀ x,((w.alloc (.cells ROW (ρ.t 9))).drew).cell? x=(w.drew.alloc (.cells ROW (ρ.t 9))).cell? x:=fun x=>rfl
 have hE2:∀ x,((w.alloc (.cells ROW (ρ.t 9))).drew).frozen? x=(w.drew.alloc (.cells ROW (ρ.t 9))).frozen? x:=fun x=>rfl
 have hF1:∀ x,(((w.alloc (.cells ROW (ρ.t 9))).drew.setCells w.heap.size (i*k) vs).drew).cell? x=((w.drew.alloc (.cells ROW (ρ.t 9))).setCells w.heap.size (i*k) vs).cell? x:=fun x=>rfl
 have hF2:∀ x,(((w.alloc (.cells ROW (ρ.t 9))).drew.setCells w.heap.size (i*k) vs).drew).frozen? x=((w.drew.alloc (.cells ROW (ρ.t 9))).setCells w.heap.size (i*k) vs).frozen? x:=fun x=>rfl
 have hw1:IntKind.i64.wrap ((i:Int)+(m:Int))=(i:Int)+(m:Int):=by rw[IntKind.wrap_i64];omega
 have hb1:(0:Int)<=(i:Int)+(m:Int):=by omega
 have hin:i<=n:=by omega
 have htn:((i:Int)+(m:Int)).toNat=i+m:=by omega
 have hb3:(i:Int)<=(n:Int):=by omega
 clear hkk hik hold hROW hG hRl hk1 hk2 hk3 hk4 hk5 hk6 hk7 hdl hN hb1'
 obtain⟨_,_,F22⟩:=L.f22
 go_enter F22,Body2.n22_ntmps ρ
 go_wp2_with (first
  | (at_builtin;refine Lib.wpList_append_run _ rfl _ _ _ _ rfl _ _ rfl rfl _ _ (hrz _) ?_)
  | (at_builtin;refine wpList_copy_runI _ rfl _ _ (ρ.t 24) (ρ.t 24) rfl _ _ rfl rfl (hcpA _ hE1 hE2 _ _) ?_)
  | (at_builtin;refine wpList_copy_runI _ rfl _ _ (ρ.t 24) (ρ.t 24) rfl _ _ rfl rfl (hcpB _ (fun _=>rfl) (fun _=>rfl) _ _ _) ?_))
 go_region_law_o (refine step_copy_runI rfl _ _ (ρ.t 24) (ρ.t 24) rfl (.slice (some ⟨w.heap.size,(i+m)*k,none⟩) (n+m - (i+m)) (G - (i+m))) (.slice (some ⟨b,off+i*k,none⟩) (n - i) (c - i)) (by simp[Act.eval,Act.put]) (by simp[Act.eval,Act.put]) (hcpB _ hF1 hF2 (ρ.t 3) (G - (i+m)) (c - i)) ?_)
 go_wp2
 go_ret
 exact⟨rfl,rfl⟩
end Go.Dn
namespace Go.Dn
def Wj (b:Nat) {α:Type} (l:List α) (i:Int) (v:List α):Option (List α×Unit):=
 bif decide (0<=i)&&(decide (i<=(l.length:Int))&&(decide (0<v.length)&&(decide ((l.length+v.length)*b<=140737488355328)&&decide (l.length+v.length<=4611686018427387904)))) then some (l.take i.toNat++(v++l.drop i.toNat),()) else none
end Go.Dn
namespace Go.Dn
open Go.Proofs Go.Shelf Go.RowKit Go.Lib
section
variable {P:Program} {G:Gh} {w w':World} {ow:Nat->Option Nat} {e:TypeId} {t:Ty}
def Sd (e:TypeId) (t:Ty) (b:Nat):av:=⟨[.row e t,.val tI,.row e t],[.row e t],fun x=>Wj b (show List t.den from x.1) x.2.1 (show List t.den from x.2.2.1)⟩
theorem EW {b:Nat} {args:List Value} {L:List t.den} {g cap:Nat} {cur':Array Value} {xs:List Value} (hagr:Agr G w) (h1:w'.heap[g]? =some (.cells cur' e (0,0))) (h2:L.length<=cap) (h3:cap<=maxLen) (h4:cur'.size=cap*t.size) (h5:cur'.toList.take (L.length*t.size)=xs) (hx:xs.length=L.length*t.size) (hrep:cq (aP G t) L xs) (hos:w'.os=w.os) (hout:w'.output=w.output) (hsz:w.heap.size<=w'.heap.size) (hoth:∀ k,k<w.heap.size->k≠g->w'.heap[k]? =w.heap[k]?) (hG:G g=none) (hnew:w.heap.size<=g\/ow g≠none): ∃ G' ow' vs,J6 G w ow (Sd e t b) args (L,()) (.returned (.slice (some ⟨g,0,none⟩) L.length cap)) w' G' ow' vs:=by
 refine⟨G,fun b=>if b=g then some (64*24) else none,[.slice (some ⟨g,0,none⟩) L.length cap], ?_⟩
 exact {
  ret:=rfl
  le:=Gh.le_refl G
  agr:=fun b o hb=>by
   have hw:=hagr b o hb
   have hne:b≠g:=fun e=>by rw[e,hG] at hb;cases hb
   rw[hoth b (cZ hw) hne];exact hw
  size:=hsz
  os:=hos
  output:=hout
  old:=fun b hb hob=>by
   have hne:b≠g:=fun e=>by
    subst e
    rcases hnew with h | h
    ·omega
    ·exact h hob
   exact⟨hoth b hb hne,rfl⟩
  own:=fun b i hb=>by
   by_cases e:b=g
   ·subst e;exact⟨hG,cZ h1,hnew⟩
   ·simp only[e,aiK] at hb;cases hb
  out:=by
   refine⟨_,[],rfl,⟨⟨xs,⟨hx,.inr ⟨g,cap,cur',rfl,aik _,h1,h2,h3,h4,h5⟩⟩,hrep⟩,fun b hb=> ?_⟩,rfl,trivial⟩
   have:some g=some b:=hb
   cases this
   show (if g=g then some (64*24) else none)=_
   simp
  hnd:=fun _=>rfl }
theorem abL {ρ:Ren} {bytes:Nat} {z:Value} (L:B9 P ρ t.size bytes z) {l v r:List t.den} {i:Int} {s u:Value} {xs ys:List Value} (hG:Agr G w) (how:∀ b i,ow b=some i->G b=none/\b<w.heap.size) (hown:w.ownsRow 0 (ρ.t 9) t.size s l.length xs) (hrep:cq (aP G t) l xs) (hobl:∀ b,s.ownBlock=some b->ow b=some 0) (hown2:w.ownsRow 0 (ρ.t 9) t.size u v.length ys) (hrep2:cq (aP G t) v ys) (hobl2:∀ b,u.ownBlock=some b->ow b=some 128) (hm:Wj bytes l i v=some (r,())):Calls P (ρ.f 22) #[s,.int .i64 i,u] w fun e w'=>∃ G' ow' vs,J6 G w ow (Sd (ρ.t 9) t bytes) [s,.int .i64 i,u] (r,()) e w' G' ow' vs:=by
 unfold Wj at hm
 cases hb:(decide (0<=i)&&(decide (i<=(l.length:Int))&&(decide (0<v.length)&&(decide ((l.length+v.length)*bytes<=140737488355328)&&decide (l.length+v.length<=4611686018427387904))))) with
 | false=>rw[hb] at hm;cases hm
 | true=>
  rw[hb] at hm
  simp only[aiz,Option.some.injEq,Prod.mk.injEq,and_true] at hm
  subst hm
  simp only[afP,aiE] at hb
  obtain⟨b1,b2,b3,b4,b5⟩:=hb
  obtain⟨q,rfl⟩:∃ q:Nat,i=(q:Int):=⟨i.toNat,by omega⟩
  have hq:q<=l.length:=by omega
  simp only[agq]
  have hlen:∀ x cs,aP G t x cs->cs.length=t.size:=fun x cs h=>aP.len h
  have hxl:=hown.1
  have hyl:=hown2.1
  have hRr:cq (aP G t) (l.take q++(v++l.drop q)) (xs.take (q*t.size)++(ys++xs.drop (q*t.size))):=
   cq.append (cq.take hlen hrep q) (cq.append hrep2 (cq.drop hlen hrep q))
  generalize hR:l.take q++(v++l.drop q)=R at hRr
  have hRl:R.length=l.length+v.length:=by rw[<- hR];simp;omega
  have hm1:(l.length+v.length)*t.size=l.length*t.size+v.length*t.size:=ahR _ _ _
  have hm2:q*t.size<=l.length*t.size:=aid _ hq
  have hm3:(q+v.length)*t.size=q*t.size+v.length*t.size:=ahR _ _ _
  have hRcl:(xs.take (q*t.size)++(ys++xs.drop (q*t.size))).length=R.length*t.size:=by
   rw[hRl,hm1];simp only[ag7,ahe,ag9,hxl,hyl,ah9 hm2];omega
  have onex:∀ z∈xs,z.oneCell'=true:=cq.one hrep
  have oney:∀ z∈ys,z.oneCell'=true:=cq.one hrep2
  have hk0:=L.k0
  rcases hown2.2 with ⟨_,hv0⟩ | ⟨vb,vc,cv,rfl,_,hvb,hvn,_,hvs,hvt⟩
  ·omega
  have hvcell:∀ (j:Nat) (z:Value),ys[j]? =some z->w.cell? ⟨vb,0+j,none⟩=some z:=fun j z hj=>by
   rw[<- hvt] at hj
   have hjl:j<v.length*t.size:=by
    have:=(agW.1 hj).1
    simp at this;omega
   rw[ag4 hjl] at hj
   simp[World.cell?,hvb]
   simpa using hj
  have oY:l.length+v.length<=maxLen:=by simp only[maxLen];omega
  have hGnew:G w.heap.size=none:=by
   cases h:G w.heap.size with
   | none=>rfl
   | some o=>have:=cZ (hG _ _ h);omega
  have hvbOw:ow vb=some 128:=hobl2 vb rfl
  have hgr:∀ c,l.length+v.length<=grownCap w (l.length+v.length) c (ρ.t 9)/\grownCap w (l.length+v.length) c (ρ.t 9)<=maxLen:=fun c=>⟨grownCap_ge _ _ _ _,grownCap_le_maxLen _ _ _ _ oY⟩
  have endGrow:∀ (base:Option Addr) (c:Nat),l.length<=c->c<l.length+v.length->(base=none->l.length=0)->(∀ a,base=some a->∀ (j:Nat) (z:Value),xs[j]? =some z->w.cell? (a.add j)=some z)->q=l.length->
   Calls P (ρ.f 22) #[.slice base l.length c,.int .i64 (q:Int),.slice (some ⟨vb,0,none⟩) v.length vc] w fun e w'=>∃ G' ow' vs,J6 G w ow (Sd (ρ.t 9) t bytes) [.slice base l.length c,.int .i64 (q:Int),.slice (some ⟨vb,0,none⟩) v.length vc] (R,()) e w' G' ow' vs:=by
   intro base c hc hroom hnil hcs hkl
   subst hkl
   have:=VS L base l.length c vb 0 v.length vc xs ys w b3 hc hroom b4 b5 hxl hyl hnil hcs hvcell oney
   refine this.mono ?_
   rintro e w' ⟨rfl,rfl⟩
   have hg:=hgr c
   rw[<- hRl] at hg ⊢
   refine EW hG (heap_alloc_new w.drew _) hg.1 hg.2 ?_ ?_ hRcl hRr rfl rfl (by simp) (fun q hq hne=>heap_alloc_old w.drew _ hq) hGnew (.inl (ahY _))
   ·simp only[Array.size_append,ahF,ag7,BI,L.zc]
    rw[hxl,hyl, <- ahR, <- hRl, <- ahR];congr 1;omega
   ·simp only[Array.toList_append]
    rw[ahK (by simp[hxl,hyl];rw[hRl,hm1];omega),ahN (by simp[hxl,hyl];rw[hRl,hm1];omega)]
    rw[ahN (by omega),agF (by omega),agz]
  rcases hown.2 with ⟨rfl,hl0⟩ | ⟨g,cap,cur,rfl,_,hgb,hln,hcm,hcs,hct⟩
  ·have hk0:q=l.length:=by omega
   have:=endGrow none 0 (by omega) (by omega) (fun _=>hl0) (fun a h=>by cases h) hk0
   rw[hl0] at this
   exact this
  ·have hgOw:ow g=some 0:=hobl g rfl
   have hne:vb≠g:=fun e=>by rw[e,hgOw] at hvbOw;cases hvbOw
   have hGg:=(how g _ hgOw).1
   have hcell:∀ (j:Nat) (z:Value),xs[j]? =some z->w.cell? ⟨g,0+j,none⟩=some z:=fun j z hj=>by
    rw[<- hct] at hj
    have hjl:j<l.length*t.size:=by
     have:=(agW.1 hj).1
     simp at this;omega
    rw[ag4 hjl] at hj
    simp[World.cell?,hgb]
    simpa using hj
   have hsome:∀ j,j<cap*t.size->(w.cell? ⟨g,0+j,none⟩).isSome=true:=fun j hj=>by
    simp[World.cell?,hgb];omega
   have hfz:∀ b' c' e',w.heap[b']? =some (.cells c' e' (0,0))->∀ o',w.frozen? ⟨b',o',none⟩=false:=fun b' c' e' h o'=>by
    simp[World.frozen?,h]
   have hc63:cap<=9223372036854775807:=by simp only[maxLen] at hcm;omega
   by_cases hroom:l.length+v.length<=cap
   ·have hcapm:(l.length+v.length)*t.size<=cap*t.size:=aid _ hroom
    by_cases hkl:q=l.length
    ·subst hkl
     have:=VT L g 0 l.length cap vb 0 v.length vc ys w b3 hroom hc63 hyl (fun j hj=>by have:=hsome (l.length*t.size+j) (by omega);rw[show 0+l.length*t.size+j=0+(l.length*t.size+j) by omega];exact this) (fun j _=>hfz _ _ _ hgb _) hvcell oney
     refine this.mono ?_
     rintro e w' ⟨rfl,rfl⟩
     obtain⟨cur',h1,h2⟩:=pz g (ρ.t 9) ys (0+l.length*t.size) w cur hgb (by omega)
     obtain⟨r1,r2,r3,r4⟩:=pE g ys (0+l.length*t.size) w
     have hsz:cur'.size=cap*t.size:=by
      have:=congrArg List.length h2
      simp at this;omega
     rw[<- hRl]
     refine EW hG h1 (by omega) hcm hsz ?_ hRcl hRr r1 r2 (by rw[r3];exact ahY _) (fun q _ hq=>r4 q hq) hGg (.inr (by rw[hgOw];simp))
     rw[h2,aij,hct, <- agy,ahN (show xs.length<=l.length*t.size by omega),agF (show xs.length<=l.length*t.size by omega),agz]
     have:R.length*t.size=(xs++ys).length:=by simp[hRl,hxl,hyl,hm1]
     rw[this,ahL]
    ·have hkl':q<l.length:=by omega
     have:=aaq L g 0 l.length cap q vb 0 v.length vc xs ys w hkl' b3 hroom hc63 hne hxl hyl hcell (fun j hj=>hsome j (by omega)) (fun j _=>hfz _ _ _ hgb _) hvcell onex oney
      (ρ.t 9) (ρ.t 9) cv.size cur.size (by simp[World.shape?,hvb]) (by simp[World.shape?,hgb]) (by have:=Nat.mul_pos (show 0<v.length from b3) hk0;omega) (hfz _ _ _ hvb _) (hfz _ _ _ hvb _)
     refine this.mono ?_
     rintro e w' ⟨rfl,rfl⟩
     have hdl:(xs.drop (q*t.size)).length=l.length*t.size - q*t.size:=by rw[ag9,hxl]
     obtain⟨cur1,h1,h2⟩:=pz g (ρ.t 9) (xs.drop (q*t.size)) (0+(q+v.length)*t.size) w.drew cur hgb (by omega)
     obtain⟨r1,r2,r3,r4⟩:=pE g (xs.drop (q*t.size)) (0+(q+v.length)*t.size) w.drew
     have hsz1:cur1.size=cap*t.size:=by
      have:=congrArg List.length h2
      simp at this;omega
     obtain⟨cur',h3,h4⟩:=pz g (ρ.t 9) ys (0+q*t.size) _ cur1 h1 (by omega)
     obtain⟨q1,q2,q3,q4⟩:=pE g ys (0+q*t.size) (w.drew.setCells g (0+(q+v.length)*t.size) (xs.drop (q*t.size)))
     have hsz:cur'.size=cap*t.size:=by
      have:=congrArg List.length h4
      simp at this;omega
     rw[<- hRl]
     refine EW hG h3 (by omega) hcm hsz ?_ hRcl hRr (q1.trans r1) (q2.trans r2) (by rw[q3,r3];exact ahY _) (fun q _ hq=>(q4 q hq).trans (r4 q hq)) hGg (.inr (by rw[hgOw];simp))
     have t1:cur1.toList.take (q*t.size)=xs.take (q*t.size):=by
      rw[h2,ahK (by simp;omega),ahP,ah9 (by omega), <- hct,ahP,ah9 (by omega)]
     have t2:cur1.toList.drop ((q+v.length)*t.size)=xs.drop (q*t.size)++cur.toList.drop (0+(q+v.length)*t.size+(xs.drop (q*t.size)).length):=by
      rw[h2,List.drop_append_of_le_length (by simp;omega),agF (by simp;omega)]
      rfl
     rw[h4,aij,t1,show q*t.size+ys.length=(q+v.length)*t.size by omega,t2, <- agy, <- agy]
     have:R.length*t.size=(xs.take (q*t.size)++ys++xs.drop (q*t.size)).length:=by rw[hRl,hm1];simp only[ag7,ahe,ag9,hxl,hyl,ah9 hm2];omega
     rw[this,ahL,agy]
   ·by_cases hkl:q=l.length
    ·exact endGrow (some ⟨g,0,none⟩) cap hln (by omega) (fun h=>by cases h) (fun a h j z hj=>by cases h;rw[Addr.add_lit];exact hcell j z hj) hkl
    ·have hkl':q<l.length:=by omega
     have:=abM L g 0 l.length cap q vb 0 v.length vc xs ys w hkl' b3 hln (by omega) b4 b5 hxl hyl hcell hvcell onex oney
     refine this.mono ?_
     rintro e w' ⟨rfl,rfl⟩
     have hg:=hgr cap
     have hgm:(l.length+v.length)*t.size<=grownCap w (l.length+v.length) cap (ρ.t 9)*t.size:=aid _ hg.1
     have hdl:(xs.drop (q*t.size)).length=l.length*t.size - q*t.size:=by rw[ag9,hxl]
     generalize hA:(xs.take (q*t.size)).toArray++Builtin.zeroCells z.cells (l.length+v.length - q)++Builtin.zeroCells z.cells (grownCap w (l.length+v.length) cap (ρ.t 9) - (l.length+v.length))=A
     have hAs:A.size=grownCap w (l.length+v.length) cap (ρ.t 9)*t.size:=by
      rw[<- hA]
      simp only[Array.size_append,ahF,ahe,BI,L.zc]
      rw[hxl,ah9 hm2, <- ahR, <- ahR];congr 1;omega
     have hAt:A.toList.take (q*t.size)=xs.take (q*t.size):=by
      rw[<- hA]
      simp only[Array.toList_append,agy]
      rw[ahK (by simp;omega)]
      show List.take (q*t.size) (xs.take (q*t.size))=_
      rw[ahP,Nat.min_self]
     obtain⟨cur1,h1,h2⟩:=pz w.heap.size (ρ.t 9) ys (q*t.size) (w.alloc (.cells A (ρ.t 9))).drew A (heap_alloc_new w _) (by omega)
     obtain⟨r1,r2,r3,r4⟩:=pE w.heap.size ys (q*t.size) (w.alloc (.cells A (ρ.t 9))).drew
     have hsz1:cur1.size=A.size:=by
      have:=congrArg List.length h2
      simp at this;omega
     obtain⟨cur',h3,h4⟩:=pz w.heap.size (ρ.t 9) (xs.drop (q*t.size)) ((q+v.length)*t.size) ((w.alloc (.cells A (ρ.t 9))).drew.setCells w.heap.size (q*t.size) ys).drew cur1 h1 (by omega)
     obtain⟨q1,q2,q3,q4⟩:=pE w.heap.size (xs.drop (q*t.size)) ((q+v.length)*t.size) ((w.alloc (.cells A (ρ.t 9))).drew.setCells w.heap.size (q*t.size) ys).drew
     have hsz:cur'.size=A.size:=by
      have:=congrArg List.length h4
      simp at this;omega
     rw[<- hRl] at hg hAs ⊢
     refine EW hG h3 hg.1 hg.2 (hsz.trans hAs) ?_ hRcl hRr (q1.trans r1) (q2.trans r2) (by rw[q3];show w.heap.size<=(World.setCells _ _ _ _).heap.size;rw[r3];simp) (fun q hq hne=>by
      rw[q4 q hne]
      show (World.setCells _ _ _ _).heap[q]? =_
      rw[r4 q hne]
      exact heap_alloc_old w _ hq) hGnew (.inl (ahY _))
     have t1:cur1.toList.take ((q+v.length)*t.size)=xs.take (q*t.size)++ys:=by
      rw[h2,hAt, <- agy]
      have:(q+v.length)*t.size=(xs.take (q*t.size)++ys).length:=by simp only[ag7,ahe,hxl,hyl,ah9 hm2];omega
      rw[this,ahL]
     rw[h4,t1, <- agy]
     have:R.length*t.size=(xs.take (q*t.size)++ys++xs.drop (q*t.size)).length:=by rw[hRl,hm1];simp only[ag7,ahe,ag9,hxl,hyl,ah9 hm2];omega
     rw[this,ahL,agy]
theorem aar {ρ:Ren} {bytes:Nat} {z:Value} (L:B9 P ρ t.size bytes z):pJ P (ρ.f 22) (Sd (ρ.t 9) t bytes):=by
 intro G w ow args x y hG how ha hm _
 obtain⟨l,i,v,u⟩:=x
 obtain⟨r,u'⟩:=y
 obtain⟨s,us,a1,_,⟨⟨xs,hown,hrep⟩,hobl⟩,iv,us2,a2,_,hiv,t',us3,a3,_,⟨⟨ys,hown2,hrep2⟩,hobl2⟩,a4⟩:=ha
 have e1:=a1 rfl
 have e2:=a2 rfl
 have e3:=a3 rfl
 have e4:us3=[]:=a4
 have e5:iv= .int .i64 i:=by simpa [J5,cC,aP,tI] using hiv
 subst e1;subst e2;subst e3;subst e4;subst e5
 exact abL (l:=l) (v:=v) (r:=r) (i:=i) L hG how hown hrep hobl hown2 hrep2 hobl2 hm
end
end Go.Dn
namespace Go.Dn
def afn (l:List Int):Option (List Int×Unit):=bif decide (l.length<4294967296) then some (l.mergeSort fun x y=>decide (x<=y),()) else none
end Go.Dn
namespace Go.Dn
open Go.Proofs Go.Shelf Go.Sort
section
variable {P:Program}
end
end Go.Dn
namespace Go.Dn
def mG (lo nb:Nat) (tb:Ty) (l:List tb.den) (vs:List Value):List CV:=
 (List.range lo).map (fun k=> .opq (vs.getD k undef))++ .sl tb l::(List.range (nb - lo - 1)).map (fun k=> .opq (vs.getD (lo+1+k) undef))
def A6:Nat:=10250064
def Kv (n lo nb:Nat) (e:TypeId) (tb te:Ty) (vs:List Value) (l:List tb.den) (ql:List te.den) (i:Nat):St:=
 { tmps:= .v false [.ref 2000 0]:: .v false [.rp A6 te.size i 0]::List.replicate (n - 2) (.v false [.any]),boxes:=[(2000,mG lo nb tb l vs)],rows:=[(A6,⟨false,e,te,ql⟩)],objs:=[] }
def abx (te:Ty) (x:Ex) (S:St):Option (List CV×TypeId×List te.den):=match x with
 | .exit _=>none
 | _=>match look S.boxes 2000,look S.rows A6 with
  | some cs,some q=>if q.fz then none else (match sM (b:=te) q.l with
   | some l=>some (cs,q.e,l)
   | none=>none)
  | _,_=>none
theorem FU (lo nb:Nat) (hlo:lo<nb) (tb:Ty) (l:List tb.den) (vs:List Value):(mG lo nb tb l vs).length=nb:=by
 unfold mG
 simp
 omega
theorem Pq (lo nb:Nat) (tb:Ty) (l:List tb.den) (vs:List Value):(mG lo nb tb l vs)[lo]? =some (.sl tb l):=by
 unfold mG
 rw[agQ (by simp)]
 simp
theorem Pr (lo nb:Nat) (tb:Ty) (l:List tb.den) (vs:List Value) {k:Nat} {x:CV} (hk:k≠lo) (h:(mG lo nb tb l vs)[k]? =some x):x= .opq (vs.getD k undef):=by
 unfold mG at h
 by_cases c:k<lo
 ·rw[agP (by simpa using c),agX,agY c] at h
  cases h;rfl
 ·rw[agQ (by simp;omega)] at h
  obtain⟨d,hd⟩:∃ d,k - lo=d+1:=⟨k - lo - 1,by omega⟩
  simp only[aha,List.length_range] at h
  rw[hd,agR,agX] at h
  cases hr:(List.range (nb - lo - 1))[d]? with
  | none=>rw[hr] at h;cases h
  | some d'=>
   rw[hr] at h
   have hlt:=(agW.1 hr).1
   rw[agY (by simpa using hlt)] at hr
   cases hr
   cases h
   show CV.opq (vs.getD (lo+1+d) undef)=_
   rw[show lo+1+d=k by omega]
theorem aeG {X:Cx} (hX:bX X) (hmix:X.P.follows .mixedOrders=true) {f:FuncId} {fn:Func} {c:Code} (lo nb:Nat) (tb te:Ty) (m:List tb.den->List te.den->Nat->Option (List te.den)) (anns:List (Nat×Ann)) (hf:X.P.funcs[f]? =some fn) (hc:fn.body=some c) (hres:fn.results.toList=[]) (hlo:lo<nb) (h:∀ e vs l ql i,den X anns c (List CV×TypeId×List te.den) (Kv fn.ntmps lo nb e tb te vs l ql i) (abx te)=(m l ql i).bind fun q=>some (mG lo nb tb l vs,e,q)):Hp X.P f (.elt lo nb tb te m):=by
 intro G w B R i cap e T vs l ql ql' xs hagr hT hBR hB hvl hu hR hrow hrep hGB hGR hm
 obtain⟨u,hu,hul⟩:=hu
 have hN:=h e vs l ql i
 rw[hm,aim] at hN
 let rv:Value:= .slice (some ⟨R,0,none⟩) ql.length cap
 let ρ:Env:=⟨fun _=>B,fun _=>rv,fun b=>if b=B then some (.inl 2000) else if b=R then some (.inr A6) else none,fun _=>rv,fun _ _=>0⟩
 let C:Fr X.P:=⟨w.heap.size,fun _=>B,fun _=>rv,fun b=>b=B\/b=R,w,G,True,hT⟩
 have hvd:aU (bz G ρ) (mG lo nb tb l vs) vs:=aU.Xt (by rw[FU lo nb hlo];omega) (fun k x y hx hy=>by
  by_cases c1:k=lo
  ·subst c1
   rw[Pq] at hx;cases hx
   rw[hu] at hy;cases hy
   exact hul
  ·rw[Pr lo nb tb l vs c1 hx]
   show y=vs.getD k undef
   rw[agN,hy];rfl)
 have g0:(#[Value.pointer (some ⟨B,0,none⟩),Value.pointer (some ⟨R,i*te.size,none⟩)]++Array.replicate (fn.ntmps - 2) undef).getD 0 undef= .pointer (some ⟨B,0,none⟩):=by simp[afC,afD]
 have g1:(#[Value.pointer (some ⟨B,0,none⟩),Value.pointer (some ⟨R,i*te.size,none⟩)]++Array.replicate (fn.ntmps - 2) undef).getD 1 undef= .pointer (some ⟨R,i*te.size,none⟩):=by simp[afC,afD]
 have hM:Mod C G ρ (Kv fn.ntmps lo nb e tb te vs l ql i) w { tmps:= #[.pointer (some ⟨B,0,none⟩),.pointer (some ⟨R,i*te.size,none⟩)]++Array.replicate (fn.ntmps - 2) undef,defers:=[] }:=by
  refine { agr:=hagr,le0:=Gh.le_refl G,old:=fun _ _ _=>rfl,frame:=fun _ _ _=>rfl,size:=ahY _,os:=rfl,output:=rfl,pin:=fun _ _=>rfl,pinR:=fun _ _=>⟨rfl,rfl⟩,owned:= ?_,boxes:= ?_,rows:= ?_,objs:= ?_,hndI:= ?_,tmps:=⟨?_, ?_⟩,defers:=rfl }
  ·intro b o ho
   by_cases c1:b=B
   ·subst c1;exact⟨hGB,cZ hB,.inr (.inl rfl)⟩
   ·have ho':(if b=B then some (bB.inl 2000) else if b=R then some (.inr A6) else none)=some o:=ho
    rw[aiL c1] at ho'
    by_cases c2:b=R
    ·subst c2;exact⟨hGR,hR,.inr (.inr rfl)⟩
    ·rw[aiL c2] at ho';cases ho'
  ·intro k cs hk
   simp only[Kv,aC] at hk
   split at hk
   ·rename_i ek
    subst ek
    cases hk
    exact⟨aiM rfl,vs,T,hB,hvd⟩
   ·cases hk
  ·intro j q hj
   simp only[Kv,aC] at hj
   split at hj
   ·rename_i ej
    subst ej
    cases hj
    unfold cT
    rw[aiL (by simp)]
    refine⟨xs,hrow,hrep,fun b hb=> ?_⟩
    cases hb
    show (if R=B then some (bB.inl 2000) else if R=R then some (.inr A6) else none)=_
    rw[aiL (Ne.symm hBR),aiM rfl]
   ·cases hj
  ·intro j q hj;cases hj
  ·exact fun _=>⟨rfl,fun t l h=>by cases h⟩
  ·simp[Kv];omega
  ·intro k s hk
   simp only[Kv] at hk
   match k with
   | 0=>cases hk;exact g0
   | 1=>
    cases hk
    exact⟨R,ql.length,cap,rfl,g1⟩
   | k+2=>
    simp only[agR,agZ] at hk
    split at hk
    ·cases hk;exact trivial
    ·cases hk
 refine calls_of_wp hf hc (Jo (C:=C) hX hmix anns c hN (fun x S' G' ρ' w' a' hk hM'=> ?_) hM)
 have key:(match look S'.boxes 2000,look S'.rows A6 with
  | some cs,some q=>if q.fz then none else (match sM (b:=te) q.l with
   | some l=>some (cs,q.e,l)
   | none=>none)
  | _,_=>none)=some (mG lo nb tb l vs,e,ql')->a'.defers=[]/\∃ v,(results fn a'.tmps).run X.P w'= .ok v w'/\Ending.returned v= .returned (wH [])/\∃ (G':Gh) (vs' xs':List Value) (T':TypeId),G.le G'/\G'.hnd=G.hnd/\Agr G' w'/\(∀ b,b<w.heap.size->G' b=G b)/\
   w'.os=w.os/\w'.output=w.output/\w.heap.size<=w'.heap.size/\(∀ b,b<w.heap.size->b≠B->b≠R->w'.heap[b]? =w.heap[b]?)/\w'.heap[B]? =some (.cells vs'.toArray T' (0,0))/\vs'.length=nb/\(∀ k,k≠lo->vs'[k]? =vs[k]?)/\
   (∃ u,vs'[lo]? =some u/\gy G' tb.size (aP G' tb) l u)/\w'.ownsRow 0 e te.size (.slice (some ⟨R,0,none⟩) ql.length cap) ql'.length xs'/\cq (aP G' te) ql' xs':=by
  intro hk
  split at hk
  ·rename_i cs q hcs hq
   split at hk
   ·cases hk
   rename_i hfz
   split at hk
   ·rename_i l2 hl2
    obtain⟨et,el⟩:=jA hl2
    obtain⟨qf,qe,qt,qll⟩:=q
    dsimp only at et el hfz hk
    have hqf:qf=false:=by simpa using hfz
    subst et
    simp only[Option.some.injEq,Prod.mk.injEq] at hk
    obtain⟨k1,k2,k3⟩:=hk
    subst k1;subst k2;subst k3;subst el;subst hqf
    obtain⟨hob,vs',T',hB',hvs'⟩:=hM'.boxes 2000 _ hcs
    rw[hM'.pin 2000 (ahY _)] at hob hB'
    have hrow':=hM'.rows A6 _ hq
    unfold cT at hrow'
    rw[aiL (by simp),(hM'.pinR A6 (by decide)).1] at hrow'
    obtain⟨xs',hor',hlr',hown'⟩:=hrow'
    have hgo:=hown' R rfl
    have hlv:=hvs'.len
    rw[FU lo nb hlo] at hlv
    obtain⟨u',hu1,hu2⟩:=hvs'.get (Pq lo nb tb l vs)
    refine⟨hM'.defers,_,IQ (us:=[]) (by rw[hres];rfl),rfl,G',vs',xs',T',hM'.le0,(hM'.hndI trivial).1,hM'.agr,fun b hb=> ?_,hM'.os,hM'.output,hM'.size,fun b hb c1 c2=>hM'.frame b hb (fun hc=>hc.elim c1 c2),hB',hlv,fun k hk=> ?_,⟨u',hu1,hu2⟩,hor',hlr'⟩
    ·by_cases c1:b=B
     ·subst c1;rw[hGB];exact (hM'.owned _ _ hob).1
     ·by_cases c2:b=R
      ·subst c2;rw[hGR];exact (hM'.owned _ _ hgo).1
      ·exact hM'.old b hb (fun hc=>hc.elim c1 c2)
    ·by_cases c:k<nb
     ·obtain⟨x,hx⟩:∃ x,(mG lo nb tb l vs)[k]? =some x:=⟨_,agU (by rw[FU lo nb hlo];exact c)⟩
      obtain⟨y,hy,hyd⟩:=hvs'.get hx
      rw[Pr lo nb tb l vs hk hx] at hyd
      have hyd':y=vs.getD k undef:=hyd
      rw[hy,hyd',agN,agU (by omega)];rfl
     ·rw[agV (by omega),agV (by omega)]
   ·cases hk
  ·cases hk
 cases x with
 | normal=>exact key hk
 | ret=>exact key hk
 | exit id=>cases hk
end Go.Dn
namespace Go.Dn
variable {X:Cx}
theorem zZ:∀ {ps:List PM} {p i:Nat} {x:eG ps},kC ps p=true->(fJ i ps x)[p]? =some (.v false [.ref (2000+(i+p)) 0])
 | [],_,_,_,h=>by simp[kC] at h
 | .box _::_,0,i,x,_=>by simp[fJ]
 | .val _::r,n+1,i,x,h=>by
  have h':kC r n=true:=by simpa [kC,PM.arg] using h
  have:=zZ (ps:=r) (p:=n) (i:=i+1) (x:=x.2) h'
  simp only[fJ,agR];rw[this];congr 4;omega
 | .row _ _::r,n+1,i,x,h=>by
  have h':kC r n=true:=by simpa [kC,PM.arg] using h
  have:=zZ (ps:=r) (p:=n) (i:=i+1) (x:=x.2) h'
  simp only[fJ,agR];rw[this];congr 4;omega
 | .mrow _ _::r,n+1,i,x,h=>by
  have h':kC r n=true:=by simpa [kC,PM.arg] using h
  have:=zZ (ps:=r) (p:=n) (i:=i+1) (x:=x.2) h'
  simp only[fJ,agR];rw[this];congr 4;omega
 | .map _ _::r,n+1,i,x,h=>by
  have h':kC r n=true:=by simpa [kC,PM.arg] using h
  have:=zZ (ps:=r) (p:=n) (i:=i+1) (x:=x.2) h'
  simp only[fJ,agR];rw[this];congr 4;omega
 | .box _::r,n+1,i,x,h=>by
  have h':kC r n=true:=by simpa [kC,PM.arg] using h
  have:=zZ (ps:=r) (p:=n) (i:=i+1) (x:=x.2) h'
  simp only[fJ,agR];rw[this];congr 4;omega
 | .ar _::r,n+1,i,x,h=>by simp[kC,PM.arg] at h
 | .arR _::r,n+1,i,x,h=>by simp[kC,PM.arg] at h
 | .val _::_,0,_,_,h=>by simp[kC] at h
 | .row _ _::_,0,_,_,h=>by simp[kC] at h
 | .mrow _ _::_,0,_,_,h=>by simp[kC] at h
 | .map _ _::_,0,_,_,h=>by simp[kC] at h
 | .ar _::_,0,_,_,h=>by simp[kC] at h
 | .arR _::_,0,_,_,h=>by simp[kC] at h
theorem aej (hX:bX X) (hmix:X.P.follows .mixedOrders=true) {f:FuncId} {fn:Func} (sp:av) (p:Nat) (anns:List (Nat×Ann)) (hf:X.P.funcs[f]? =some fn) (h:∀ x y,sp.m x=some y->acV X anns fn sp p x=some y):Hp X.P f (.nest p sp):=by
 intro G w ow args x y bm v T hG how hargs hm hT hpv hbo hGb hbh
 have hN:=h x y hm
 unfold acV at hN
 split at hN
 ·cases hN
 ·rename_i hcond
  simp only[af4,aiR,afZ,afY,Option.isSome_eq_false_iff,aio] at hcond
  obtain⟨⟨⟨hdO,hdC⟩,hnp⟩,hni⟩:=hcond
  split at hN
  ·rename_i c hc
   obtain⟨vals,hvals,hpt,hst⟩:=mZ hargs
   let pv:Nat->Value:=fun k=>match cy vals (.inr k) with | some v=>v | none=>(cy vals (.ob k)).getD undef
   let ρ:Env:=⟨fun k=>if k=fY then bm else match cy vals (.inl k) with | some v=>EH v | none=>0,pv,fun b=>if b=bm then some (.inl fY) else (ow b).bind (jV (cW 0 sp.ps)),pv,fun k=>BQ w (pv k)⟩
   have hA:∀ o v,(o,v)∈vals->Asg ρ w o v:=fun o v hm=>by
    have hl:=Gk hvals hdO hm
    cases o with
    | inl k=>
     obtain⟨b,hb⟩:=hpt k v hm
     have hne:k≠fY:=fun e=>by
      obtain⟨n,hn⟩:=xE hvals (o:= .inl k) (by rw[hl];simp)
      rw[e] at hn
      have:=nO hdO hn
      rw[hni] at this;cases this
     show v= .pointer (some ⟨if k=fY then bm else match cy vals (.inl k) with | some v=>EH v | none=>0,0,none⟩)
     rw[aiL hne,hl,hb];rfl
    | inr j=>show (match cy vals (.inr j) with | some v=>v | none=>_)=v;rw[hl]
    | ob j=>
     intro b hb
     subst hb
     have hnr:cy vals (.inr j)=none:=by
      cases h1:cy vals (.inr j) with
      | none=>rfl
      | some v'=>
       obtain⟨n1,m1⟩:=xE hvals (by rw[h1];simp)
       obtain⟨n2,m2⟩:=xE hvals (o:= .ob j) (by rw[hl];simp)
       rcases wX m1 with ⟨k,e⟩ | e | e
       ·cases e
       ·cases e
       ·rcases wX m2 with ⟨k,e'⟩ | e' | e'
        ·cases e'
        ·cases e'
         rcases e with e | e
         ·have:bJ=nid pD 0 0+n1:=by simpa using e
          simp only[bJ,pD,nid] at this;omega
         ·cases e
        ·have h1:j=nid pD 0 0+n1:=by rcases e with e | e<;>cases e;rfl
         have h2:j=nid pD 0 0+n2:=by rcases e' with e' | e'<;>cases e';rfl
         have:n1=n2:=by omega
         subst this
         have:=Pj hdC m1 m2
         cases this
     have hpv:pv j= .map (some b):=by
      show (match cy vals (.inr j) with | some v=>v | none=>(cy vals (.ob j)).getD undef)=_
      rw[hnr,hl];rfl
     refine⟨hpv,fun es clock hw i e' hi=> ?_⟩
     show (e'.born:Int)=BQ w (pv j) i
     rw[hpv]
     simp[BQ,hw,hi]
   have hO:∀ o n,(o,n)∈cW 0 sp.ps->∀ b,ow b=some n->ρ.own b=some o:=fun o n hm b hb=>by
    show (if b=bm then some (.inl fY) else (ow b).bind (jV (cW 0 sp.ps)))=_
    rw[aiL (fun e=>by rw[e,hbo] at hb;cases hb),hb];exact xz hdC hm
   obtain⟨hsv,hP,hpins⟩:=hst ρ hA hO
   let C:Fr X.P:=⟨w.heap.size,ρ.bx,pv,fun b=>ow b≠none\/b=bm,w,G,jE sp.ps=false,hT⟩
   have hlen:args.length=xF sp.ps:=by rw[hsv.len,gQ]
   have ebx:ρ.bx fY=bm:=by
    show (if fY=fY then bm else match cy vals (.inl fY) with | some v=>EH v | none=>0)=bm
    rw[aiM rfl]
   have eow:ρ.own bm=some (.inl fY):=by
    show (if bm=bm then some (bB.inl fY) else (ow bm).bind (jV (cW 0 sp.ps)))=_
    rw[aiM rfl]
   have hbl:=cZ hbh
   have hpl:p<args.length:=(agW.1 hpv).1
   have hM:Mod C G ρ (ND fn.ntmps p sp.ps x) w { tmps:=(args.set p (.pointer (some ⟨bm,0,none⟩))).toArray++Array.replicate (fn.ntmps - (args.set p (.pointer (some ⟨bm,0,none⟩))).toArray.size) undef,defers:=[] }:=by
    refine { agr:=hG,le0:=Gh.le_refl G,old:=fun _ _ _=>rfl,frame:=fun _ _ _=>rfl,size:=ahY _,os:=rfl,output:=rfl,pin:=fun _ _=>rfl,pinR:=fun _ _=>⟨rfl,rfl⟩,owned:= ?_,boxes:= ?_,rows:=hP.rw,objs:=hP.ob,hndI:= ?_,tmps:=⟨?_, ?_⟩,defers:=rfl }
    ·intro b o ho
     by_cases e:b=bm
     ·subst e;exact⟨hGb,hbl,.inr (.inr rfl)⟩
     cases hb:ow b with
     | none=>
      have ho':(if b=bm then some (.inl fY) else (ow b).bind (jV (cW 0 sp.ps)))=some o:=ho
      rw[aiL e,hb] at ho';cases ho'
     | some i=>exact⟨(how b i hb).1,(how b i hb).2,.inr (.inl (by rw[hb];simp))⟩
    ·intro k cs hk
     simp only[ND,aC] at hk
     split at hk
     ·rename_i ek
      subst ek
      cases hk
      refine⟨?_,[v],T, ?_,⟨v,[],rfl, ?_,rfl⟩⟩
      ·rw[ebx];exact eow
      ·rw[ebx];exact hbh
      ·obtain⟨u,hu,hud⟩:=hsv.get (zZ (i:=0) (x:=x) hnp)
       rw[hpv] at hu
       cases hu
       have:v= .pointer (some ⟨ρ.bx (2000+(0+p)),0,none⟩):=hud
       show v= .pointer (some ⟨ρ.bx (2000+p),0,none⟩)
       rw[this,aij]
     ·exact hP.bx k cs hk
    ·intro h1
     exact⟨rfl,fun t l=>qh h1⟩
    ·simp[ND,gQ,hlen]
    ·intro i s hi
     simp only[ND] at hi
     rw[ag0] at hi
     rw[afC,afD]
     split at hi
     ·rename_i e
      subst e
      split at hi
      ·cases hi
       rw[aiM (by simpa using hpl)]
       show bE G ρ (.v false [.ref fY 0]) _
       show _=Value.pointer (some ⟨ρ.bx fY,0,none⟩)
       rw[ebx]
       simp[hpl]
      ·cases hi
     ·rename_i hne
      rw[agO] at hi
      split at hi
      ·rename_i hlt
       obtain⟨u,hu,hsv'⟩:=hsv.get hi
       rw[gQ] at hlt
       rw[aiM (by simpa [hlen] using hlt)]
       simpa [hu,ag0,hne] using hsv'
      ·rw[agZ] at hi
       split at hi
       ·cases hi;exact trivial
       ·cases hi
   refine calls_of_wp hf hc (Jo (C:=C) hX hmix anns c hN (fun e S' G' ρ' w' a' hk hM'=> ?_) hM)
   have key:QK X fn sp p S'=some y->a'.defers=[]/\∃ v',(results fn a'.tmps).run X.P w'= .ok v' w'/\∃ w1 G' ow' vs T',w1.os=w'.os/\w1.output=w'.output/\w1.heap.size=w'.heap.size/\(∀ b,b≠bm->w1.heap[b]? =w'.heap[b]?)/\w'.heap[bm]? =some (.cells #[v] T' (0,0))/\J6 G w ow sp args y (.returned v') w1 G' ow' vs:=by
    intro hk
    refine⟨hM'.defers, ?_⟩
    unfold QK at hk
    split at hk
    ·rename_i l hl
     simp only at hk
     split at hk
     ·cases hk
     ·rename_i hd
      simp only[af4,aiR,afZ,afY,Option.isSome_eq_false_iff,aio] at hd
      obtain⟨us,hr,hus⟩:=Lg hM' hl
      generalize hjs:Eg (Fv sp.rs l)++(OB S' sp.rs l++Ow S' 0 sp.ps)=js at hk hd
      obtain⟨G2,ρ2,hfz,hM2⟩:=hM'.freeze js
      generalize hV:aV S' js=V at hk hd hM2
      generalize how':mu V 0 sp.rs l++kK V 0 sp.ps=owl at hk hd
      obtain⟨⟨hd',hnl⟩,hnb⟩:=hd
      have hus2:aU (bE G2 ρ2) l us:=hus.mono fun s v hs=>bE.congr hfz.le (l6.same hfz.bx hfz.rw hfz.ob hfz.st) hs
      have hpins2:fM ρ2 0 sp.ps args:=hpins.congr (fun k hk=>hM2.pin k hk) (fun k hk=>hM2.pinR k hk)
      have hbx:look V.boxes fY=some [.ref (2000+p) 0]:=by
       unfold ab4 at hnb
       split at hnb
       ·rename_i k o hb
        simp only[afP] at hnb
        rw[hb,ahU hnb.1,ahU hnb.2]
       ·cases hnb
      have ebm:ρ2.bx fY=bm:=(hM2.pin fY (by decide)).trans ebx
      obtain⟨hob,bvs,T',hbh',hbv⟩:=hM2.boxes fY _ hbx
      obtain⟨v2,e2,hv2⟩:=hbv.single
      subst e2
      rw[ebm] at hob hbh'
      have ev2:v2=v:=by
       have h1:v2= .pointer (some ⟨ρ2.bx (2000+p),0,none⟩):=hv2
       obtain⟨u,hu,hud⟩:=hsv.get (zZ (i:=0) (x:=x) hnp)
       rw[hpv] at hu
       cases hu
       have h2:v= .pointer (some ⟨ρ.bx (2000+(0+p)),0,none⟩):=hud
       rw[h1,h2,aij,hM2.pin (2000+p) (by omega)]
      subst ev2
      let w1:World:={ w' with heap:=w'.heap.setIfInBounds bm (.cells #[v2] T (0,0)) }
      have hbl':=cZ hbh'
      have h1o:∀ b,b≠bm->w1.heap[b]? =w'.heap[b]? :=fun b hb=>by
       show (w'.heap.setIfInBounds bm _)[b]? =_
       rw[afH (Ne.symm hb)]
      have h1b:w1.heap[bm]? =some (.cells #[v2] T (0,0)):=by
       show (w'.heap.setIfInBounds bm _)[bm]? =_
       rw[afI hbl']
      have hM3:=(hM2.SR (w':=w1) (k:=fY) (cs:=[.ref (2000+p) 0]) (vs:=[v2]) (T:=T) ⟨_,hbx⟩ ⟨rfl,rfl,by simp[w1],fun b _ hne=>h1o b (fun e=>hne (by rw[e,ebm]))⟩ (by rw[ebm];exact h1b) ⟨v2,[],rfl,hv2,rfl⟩).Zd hbx
      have hGbm:G2 bm=none:=(hM2.owned _ _ hob).1
      refine⟨_,IQ hr,w1,G2,dR ρ2 owl,us,T',rfl,rfl,by simp[w1],h1o,hbh',rfl,hM3.le0,hM3.agr,hM3.size,hM3.os,hM3.output,fun b hb ho=> ?_,fun b i hb=> ?_, ?_,fun h1=>(hM3.hndI h1).1⟩
      ·by_cases e:b=bm
       ·subst e;exact⟨h1b.trans hbh.symm,hGbm.trans hGb.symm⟩
       ·exact⟨hM3.frame b hb (fun h=>h.elim (fun h=>h ho) e),hM3.old b hb (fun h=>h.elim (fun h=>h ho) e)⟩
      ·unfold dR at hb
       cases ho:ρ2.own b with
       | none=>rw[ho] at hb;cases hb
       | some o=>
        obtain⟨q1,q2,q3⟩:=hM3.owned b o ho
        refine⟨q1,q2,q3.imp id fun q=> ?_⟩
        rcases q with q | q
        ·exact q
        ·subst q
         rw[hob] at ho
         cases ho
         rw[hob] at hb
         simp only[aim] at hb
         rw[hnl] at hb;cases hb
      ·refine Sx hM3.toMem (fun y' hy'=>qc hM3.toMem hy' (fun z hz=>nO hd' (by rw[<- how'];simp[hz])) hpins2) sp.rs 0 (fun z hz=>nO hd' (by rw[<- how'];simp[hz])) hk hus2
    ·cases hk
   cases e with
   | normal=>exact key hk
   | ret=>exact key hk
   | exit id=>cases hk
  ·cases hN
end Go.Dn
