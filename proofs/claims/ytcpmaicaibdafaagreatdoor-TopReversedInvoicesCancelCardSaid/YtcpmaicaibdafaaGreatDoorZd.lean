/-
  The executor, its fifth part: whole functions are sound; a law whose plain model is always true holds. No condition.
-/
import Derived.Test.YtcpmaicaibdafaaGreatDoorZe
import Derived.ReadAgain
import Derived.ChangeSame
import Derived.ChangeArms
import Derived.ChangeOld
import Derived.OpenShut
import Derived.ProofKit
import Derived.WalkKit
import Derived.Deep.DeepHandedRow
import Derived.Lib.LaidTab
import Derived.Shelf.Spec.SlicesInsertGrow
import Derived.Shelf.Spec.SlicesGrow
import Derived.Shelf.SlSortCmp.NoneTotal
import Derived.Sort.Grow
import Derived.Shelf.Vars
import Derived.Stop.LaidErr
import Derived.Shelf.SlGeneric
import Derived.Shelf.SortM.Plain
import Derived.Shelf.SortM.SortNone
set_option linter.all false
namespace Go.Dn
variable {X:Cx} {C:Fr X.P}
def Ex.KC:Ex→Exit
 | .normal=> .normal
 | .exit id=> .exit id
 | .ret=> .ret
theorem VJ {β:Type} {A:Ann} {c:Code} {len:Nat} {anns:List (Nat×Ann)} {K:Ex→St→Option β} {r:β} {Q:Exit→Act→World→Prop}
 (ih:∀ {S:St} {K:Ex→St→Option β} {r:β},den X anns c β S K=some r→∀ {Q:Exit→Act→World→Prop},
   (∀ e S' G ρ w a,K e S'=some r→Mod C G ρ S' w a→Q e.KC a w)→∀ {G ρ w a},Mod C G ρ S w a→c.wp X.P Q a w)
 (hQ:∀ e S' G ρ w a,K e S'=some r→Mod C G ρ S' w a→Q e.KC a w):∀ (n:Nat) (x:dZ A.cks) (G:Gh) (ρ:Env) (w:World) (a:Act),
 iter n x (fun x again=>den X anns c β (head A len x) fun e S'=>match e with
  | .normal=>match carry A S' with
   | some y=>bif Nat.beq S'.tmps.length len then again y else none
   | none=>none
  | .exit j=>K (.exit j) S'
  | .ret=>K .ret S')=some r→Mod C G ρ (head A len x) w a→Code.rounds X.P c Q n a w
 | 0,x,G,ρ,w,a,h,hM=>by simp[iter] at h
 | n+1,x,G,ρ,w,a,h,hM=>by
  simp only[iter] at h
  refine ih h (fun e S' G' ρ' w' a' hk hM'=> ?_) hM
  cases e with
  | normal=>
   simp only at hk
   split at hk
   ·rename_i y hy
    cases hb:Nat.beq S'.tmps.length len with
    | false=>rw[hb] at hk;cases hk
    | true=>
     rw[hb] at hk
     simp only[ajo] at hk
     obtain⟨G2,ρ2,h2⟩:=Uq hM' hy
     rw[aiJ hb] at h2
     exact VJ ih hQ n y G2 ρ2 w' a' hk h2
   ·cases hk
  | exit id=>exact hQ (.exit id) S' G' ρ' w' a' hk hM'
  | ret=>exact hQ .ret S' G' ρ' w' a' hk hM'
theorem SY {β γ:Type} {x:Option (β ⊕ γ)} {f:γ→Option β} {r:β} (h:aT x f=some r):∃ q,x=some q∧(q= .inl r∨∃ v,q= .inr v∧f v=some r):=by
 unfold aT at h
 split at h
 ·cases h
 ·cases h;exact⟨_,rfl,.inl rfl⟩
 ·rename_i v;exact⟨_,rfl,.inr ⟨v,rfl,h⟩⟩
theorem Cb {β γ:Type} {x:Option β} {q:β ⊕ γ} (h:NZ x=some q):∃ r,x=some r∧q= .inl r:=by
 unfold NZ at h
 split at h
 ·cases h;exact⟨_,rfl,rfl⟩
 ·cases h
theorem acE {β:Type} {A:Ann} {n:Nat} {S:St} {q:β ⊕ dZ A.cks} (h:meet A n S=some q):∃ v,carry A S=some v∧S.tmps.length=n∧q= .inr v:=by
 unfold meet at h
 split at h
 ·rename_i v hv
  cases hb:Nat.beq S.tmps.length n with
  | false=>rw[hb] at h;cases h
  | true=>rw[hb] at h;simp only[ajo,Option.some.injEq] at h;exact⟨v,hv,aiJ hb,h.symm⟩
 ·cases h
theorem O5 {β:Type} {A:Ann} {n:Nat} {K:Ex→St→Option β} {r:β} {Q:Exit→Act→World→Prop} (hQ:∀ e S' G ρ w a,K e S'=some r→Mod C G ρ S' w a→Q e.KC a w) {q:β ⊕ dZ A.cks}
 (hq:q= .inl r∨∃ v,q= .inr v∧K .normal (head A n v)=some r) {S':St} {G:Gh} {ρ:Env} {w:World} {a:Act} (hM:Mod C G ρ S' w a) (h:meet A n S'=some q):Q .normal a w:=by
 obtain⟨v,h1,h2,h3⟩:=acE h
 rcases hq with hq | ⟨v',hq,hk⟩
 ·rw[h3] at hq;cases hq
 ·rw[h3] at hq
  cases hq
  obtain⟨G2,ρ2,hm⟩:=Uq hM h1
  rw[h2] at hm
  exact hQ .normal _ G2 ρ2 w a hk hm
theorem abE {β:Type} {a b:Option β} {r:β} (h:both a b=some r):a=some r∧b=some r:=by
 unfold both at h
 split at h
 ·rename_i e;exact⟨h,e ▸ h⟩
 ·cases h
theorem Ik {β:Type} (a:Option β):both a a=a:=by unfold both;simp
theorem aL (hX:cT X) (hmix:X.P.follows .mixedOrders=true) (anns:List (Nat×Ann)):∀ (c:Code) {β:Type} {S:St} {K:Ex→St→Option β} {r:β},den X anns c β S K=some r→∀ {Q:Exit→Act→World→Prop},
 (∀ e S' G ρ w a,K e S'=some r→Mod C G ρ S' w a→Q e.KC a w)→∀ {G ρ w a},Mod C G ρ S w a→c.wp X.P Q a w:=by
 intro c
 induction c with
 | skip=>
  intro β S K r h Q hQ G ρ w a hM
  exact wp_skip (hQ .normal S G ρ w a h hM)
 | region id ops dr=>
  intro β S K r h Q hQ G ρ w a hM
  simp only[den] at h
  split at h
  ·rename_i A hA
   obtain⟨v,hv,h⟩:=bind_some h
   have:=afb hX hmix hv (Q:=Q) (fun S' G ρ w a hk hJ hM=>hQ .normal _ G ρ w a h (acq hJ hk hM)) hM id
   simpa using this
  ·cases dr with
   | true=>
    simp only[ajo] at h
    have:=abm hX hmix h (Q:=Q) (fun S' G ρ w a hk hM=>hQ .normal S' G ρ w a hk hM) hM id
    simpa using this
   | false=>
    simp only[ajn] at h
    refine wp_region_list ?_
    have:=yQ hX ops.toList ops.toList h (Q:=Q) (fun S' G ρ w a hk hM=>hQ .normal S' G ρ w a hk hM) hM
    simpa using this
 | seq x y ihx ihy=>
  intro β S K r h Q hQ G ρ w a hM
  simp only[den] at h
  refine wp_seq (ihx h (fun e S' G' ρ' w' a' hk hM'=> ?_) hM)
  cases e with
  | normal=>exact ihy hk hQ hM'
  | exit id=>exact hQ (.exit id) S' G' ρ' w' a' hk hM'
  | ret=>exact hQ .ret S' G' ρ' w' a' hk hM'
 | cond b x y ihx ihy=>
  intro β S K r h Q hQ G ρ w a hM
  simp only[den] at h
  split at h
  ·rename_i t ht
   have hv:=hM.tmps.ev b
   rw[ht] at hv
   split at h
   ·rename_i A hA
    obtain⟨q,h1,hq⟩:=SY h
    refine wp_cond_split (t:=t) hv (fun e=> ?_) (fun e=> ?_)
    ·subst e
     simp only[ajo] at h1
     refine ihx h1 (fun e S' G' ρ' w' a' hk hM'=> ?_) hM
     cases e with
     | normal=>exact O5 hQ hq hM' hk
     | exit j=>
      obtain⟨r',hr,hr2⟩:=Cb hk
      rcases hq with hq | ⟨v,hq,_⟩
      ·rw[hr2] at hq;cases hq;exact hQ (.exit j) S' G' ρ' w' a' hr hM'
      ·rw[hr2] at hq;cases hq
     | ret=>
      obtain⟨r',hr,hr2⟩:=Cb hk
      rcases hq with hq | ⟨v,hq,_⟩
      ·rw[hr2] at hq;cases hq;exact hQ .ret S' G' ρ' w' a' hr hM'
      ·rw[hr2] at hq;cases hq
    ·subst e
     simp only[ajn] at h1
     refine ihy h1 (fun e S' G' ρ' w' a' hk hM'=> ?_) hM
     cases e with
     | normal=>exact O5 hQ hq hM' hk
     | exit j=>
      obtain⟨r',hr,hr2⟩:=Cb hk
      rcases hq with hq | ⟨v,hq,_⟩
      ·rw[hr2] at hq;cases hq;exact hQ (.exit j) S' G' ρ' w' a' hr hM'
      ·rw[hr2] at hq;cases hq
     | ret=>
      obtain⟨r',hr,hr2⟩:=Cb hk
      rcases hq with hq | ⟨v,hq,_⟩
      ·rw[hr2] at hq;cases hq;exact hQ .ret S' G' ρ' w' a' hr hM'
      ·rw[hr2] at hq;cases hq
   ·refine wp_cond_split (t:=t) hv (fun e=> ?_) (fun e=> ?_)
    ·subst e;exact ihx h hQ hM
    ·subst e;exact ihy h hQ hM
  ·rename_i t ht
   have hv:=hM.tmps.ev b
   rw[ht] at hv
   obtain⟨c,hc,hf⟩:=(hv:bG G ρ (.nb t) _)
   cases t with
   | false=>
    have:=hf rfl
    subst this
    exact wp_cond_split (t:=false) hc (fun e=>by cases e) (fun _=>ihy h hQ hM)
   | true=>
    obtain⟨h1,h2⟩:=abE h
    exact wp_cond_split (t:=c) hc (fun _=>ihx h1 hQ hM) (fun _=>ihy h2 hQ hM)
  ·cases h
 | block id x ih=>
  intro β S K r h Q hQ G ρ w a hM
  simp only[den] at h
  split at h
  ·rename_i A hA
   obtain⟨q,h1,hq⟩:=SY h
   refine wp_block (ih h1 (fun e S' G' ρ' w' a' hk hM'=> ?_) hM)
   cases e with
   | normal=>exact O5 hQ hq hM' hk
   | exit j=>
    simp only at hk
    simp only[Ex.KC,Exit.inBlock]
    split at hk
    ·rename_i hb
     rw[ajz (aiJ hb)]
     exact O5 hQ hq hM' hk
    ·rename_i hb
     rw[ajy (fun e=>hb (by rw[e];simp))]
     obtain⟨r',hr,hr2⟩:=Cb hk
     rcases hq with hq | ⟨v,hq,_⟩
     ·rw[hr2] at hq;cases hq;exact hQ (.exit j) S' G' ρ' w' a' hr hM'
     ·rw[hr2] at hq;cases hq
   | ret=>
    obtain⟨r',hr,hr2⟩:=Cb hk
    rcases hq with hq | ⟨v,hq,_⟩
    ·rw[hr2] at hq;cases hq;exact hQ .ret S' G' ρ' w' a' hr hM'
    ·rw[hr2] at hq;cases hq
  ·refine wp_block (ih h (fun e S' G' ρ' w' a' hk hM'=> ?_) hM)
   cases e with
   | normal=>exact hQ .normal S' G' ρ' w' a' hk hM'
   | exit j=>
    simp only at hk
    simp only[Ex.KC,Exit.inBlock]
    split at hk
    ·rename_i hb
     rw[ajz (aiJ hb)]
     exact hQ .normal S' G' ρ' w' a' hk hM'
    ·rename_i hb
     rw[ajy (fun e=>hb (by rw[e];simp))]
     exact hQ (.exit j) S' G' ρ' w' a' hk hM'
   | ret=>exact hQ .ret S' G' ρ' w' a' hk hM'
 | loop x ih=>
  intro β S K r h Q hQ G ρ w a hM
  simp only[den] at h
  split at h
  ·rename_i A hA
   split at h
   ·rename_i y hy
    obtain⟨G2,ρ2,h2⟩:=Uq hM hy
    exact wp_loop_rounds (A.fuel y) (VJ ih hQ (A.fuel y) y G2 ρ2 w a h h2)
   ·cases h
  ·cases h
 | exit id=>
  intro β S K r h Q hQ G ρ w a hM
  exact wp_exit (hQ (.exit id) S G ρ w a h hM)
 | ret=>
  intro β S K r h Q hQ G ρ w a hM
  exact wp_ret (hQ .ret S G ρ w a h hM)
 | _=>
  intro β S K r h
  simp[den] at h
end Go.Dn
namespace Go.Dn
variable {X:Cx} {C:Fr X.P} {G:Gh} {ρ:Env} {w:World}
def iZ (ρ:Env):Nat→List PM→List Value→Prop
 | _,[],_=>True
 | i,.mrow _ _::r,vs=>(vs.head? =some (ρ.rw (pid i 0))∧∃ a n c,ρ.rw (pid i 0)= .slice a n c)∧iZ ρ (i+1) r vs.tail
 | i,.map _ _::r,vs=>(vs.head? =some (ρ.ob (pid i 0))∧∃ b,ρ.ob (pid i 0)= .map (some b))∧iZ ρ (i+1) r vs.tail
 | i,.box _::r,vs=>vs.head? =some (.pointer (some ⟨ρ.bx (2000+i),0,none⟩))∧iZ ρ (i+1) r vs.tail
 | i,.ar _::r,vs=>iZ ρ (i+1) r vs
 | i,.arR _::r,vs=>iZ ρ (i+1) r vs
 | i,.val _::r,vs=>iZ ρ (i+1) r vs.tail
 | i,.row _ _::r,vs=>iZ ρ (i+1) r vs.tail
theorem aae (i:Nat):10000000≤pid i 0:=by simp only[pid,pD,nid];omega
theorem iZ.congr {ρ ρ':Env} (hb:∀ k,2000≤k→ρ'.bx k=ρ.bx k) (hr:∀ k,10000000≤k→ρ'.rw k=ρ.rw k∧ρ'.ob k=ρ.ob k):∀ {ps:List PM} {i:Nat} {vs:List Value},iZ ρ i ps vs→iZ ρ' i ps vs
 | [],_,_,_=>trivial
 | .mrow _ _::r,i,vs,h=>by
  simp only[iZ] at h ⊢
  rw[(hr _ (aae i)).1];exact⟨h.1,h.2.congr hb hr⟩
 | .map _ _::r,i,vs,h=>by
  simp only[iZ] at h ⊢
  rw[(hr _ (aae i)).2];exact⟨h.1,h.2.congr hb hr⟩
 | .box _::r,i,vs,h=>by
  simp only[iZ] at h ⊢
  rw[hb _ (by omega)];exact⟨h.1,h.2.congr hb hr⟩
 | .ar _::r,i,vs,h=>iZ.congr (ps:=r) hb hr h
 | .arR _::r,i,vs,h=>iZ.congr (ps:=r) hb hr h
 | .val _::r,i,vs,h=>iZ.congr (ps:=r) hb hr h
 | .row _ _::r,i,vs,h=>iZ.congr (ps:=r) hb hr h
theorem Trans.refl (G:Gh) (b:Bool):Trans G G b:=⟨fun _ _ h=>h,.inr (Gh.le_refl G)⟩
theorem pY {ow:Nat→Option Nat}:∀ {ps:List PM} {i:Nat} {x:gY ps} {vs:List Value},kN G w ow i ps x vs→
 ∃ vals:List (bK×Value),vals.map (·.1)=(dJ i ps).map (·.1)∧(∀ k v,(.inl k,v)∈vals→∃ b,v= .pointer (some ⟨b,0,none⟩))∧
  ∀ ρ:Env,(∀ o v,(o,v)∈vals→Asg ρ w o v)→(∀ o n,(o,n)∈dJ i ps→∀ b,ow b=some n→ρ.own b=some o)→
   bn (bM G ρ) (iT i ps x) vs∧nv G ρ w (tM i ps x) (se i ps x) (jX i ps x)∧iZ ρ i ps vs
 | [],i,x,vs,h=>⟨[],rfl,fun k v h=>by simp at h,fun ρ _ _=>⟨h,nv.nil,trivial⟩⟩
 | .val t::r,i,x,vs,⟨v,us,h1,_,hv,hu⟩=>by
  obtain⟨vals,e,hp,hr⟩:=pY hu
  refine⟨vals,e,hp,fun ρ hA hO=> ?_⟩
  obtain⟨g1,g2,g3⟩:=hr ρ hA hO
  rw[h1 rfl]
  exact⟨⟨v,us,rfl,D5 ρ hv,g1⟩,g2,g3⟩
 | .row e' t::r,i,x,vs,⟨v,us,h1,_,⟨hv,hv2⟩,hu⟩=>by
  obtain⟨vals,e,hp,hr⟩:=pY hu
  refine⟨(.inr (pid i 0),v)::vals,by simp[dJ,e],fun k v h=>hp k v (by simpa using h),fun ρ hA hO=> ?_⟩
  obtain⟨g1,g2,g3⟩:=hr ρ (fun o v h=>hA o v (by simp[h])) (fun o n h=>hO o n (by simp[dJ,h]))
  have hav:ρ.rw (pid i 0)=v:=hA (.inr (pid i 0)) v (by simp)
  rw[h1 rfl]
  refine⟨⟨v,us,rfl,⟨hav.symm,hv.isSlice⟩,g1⟩,⟨g2.bx,fun j q hj=> ?_,g2.ob⟩,g3⟩
  simp only[se,aM] at hj
  split at hj
  ·rename_i ej
   subst ej
   cases hj
   exact hv.ok (Trans.refl G _) hav (fun b hb=>hO _ _ (by simp[dJ]) b (hv2 b hb))
  ·exact g2.rw j q hj
 | .mrow e' t::r,i,x,vs,⟨v,us,h1,_,⟨hv,hv2⟩,hu⟩=>by
  obtain⟨vals,e,hp,hr⟩:=pY hu
  refine⟨(.inr (pid i 0),v)::vals,by simp[dJ,e],fun k v h=>hp k v (by simpa using h),fun ρ hA hO=> ?_⟩
  obtain⟨g1,g2,g3⟩:=hr ρ (fun o v h=>hA o v (by simp[h])) (fun o n h=>hO o n (by simp[dJ,h]))
  have hav:ρ.rw (pid i 0)=v:=hA (.inr (pid i 0)) v (by simp)
  rw[h1 rfl]
  refine⟨⟨v,us,rfl,⟨hav.symm,hv.isSlice⟩,g1⟩,⟨g2.bx,fun j q hj=> ?_,g2.ob⟩,⟨by rw[hav];rfl,by rw[hav];exact hv.isSlice⟩,g3⟩
  simp only[se,aM] at hj
  split at hj
  ·rename_i ej
   subst ej
   cases hj
   exact hv.ok (Trans.refl G _) hav (fun b hb=>hO _ _ (by simp[dJ]) b (hv2 b hb))
  ·exact g2.rw j q hj
 | .map kk vv::r,i,x,vs,⟨v,us,h1,_,⟨b,hv,hv1,hv2⟩,hu⟩=>by
  obtain⟨vals,e,hp,hr⟩:=pY hu
  refine⟨(.ob (pid i 0),v)::vals,by simp[dJ,e],fun k v h=>hp k v (by simpa using h),fun ρ hA hO=> ?_⟩
  obtain⟨g1,g2,g3⟩:=hr ρ (fun o v h=>hA o v (by simp[h])) (fun o n h=>hO o n (by simp[dJ,h]))
  rw[h1 rfl]
  subst hv
  have ho:ρ.own b=some (.ob (pid i 0)):=hO _ _ (by simp[dJ]) b hv1
  obtain⟨m1,m2⟩:=hv2.ok (Trans.refl G _) (hA (.ob (pid i 0)) (.map (some b)) (by simp)) ho
  refine⟨⟨_,us,rfl,⟨m2.symm,b,rfl⟩,g1⟩,⟨g2.bx,g2.rw,fun j q hj=> ?_⟩,⟨by rw[m2];rfl,b,m2⟩,g3⟩
  simp only[jX,aM] at hj
  split at hj
  ·rename_i ej
   subst ej
   cases hj
   exact m1
  ·exact g2.ob j q hj
 | .box l::r,i,x,vs,⟨v,us,h1,_,hv,hu⟩=>by
  obtain⟨vals,e,hp,hr⟩:=pY hu
  obtain⟨vals2,hv2,hr2⟩:=QA (G3:=G) (d:=pD) (k:=2000+i) (Trans.refl G _) hv
  refine⟨(.inl (2000+i),v)::(vals2++vals),by simp[dJ,e,hv2],fun k v' h=> ?_,fun ρ hA hO=> ?_⟩
  ·rcases ah7.1 h with h | h
   ·cases h
    obtain⟨b,_,_,e1,_⟩:=hv
    exact⟨b,e1⟩
   ·rcases ah6.1 h with h | h
    ·have hm:(.inl k:bK)∈vals2.map (·.1):=aid.2 ⟨_,h,rfl⟩
     rw[hv2] at hm
     obtain⟨p,hp,e1⟩:=aid.1 hm
     obtain⟨p1,p2⟩:=p
     simp only at e1
     subst e1
     exact absurd hp ((BM (x:=x.1)).2.2 k p2)
    ·exact hp k v' h
  ·obtain⟨g1,g2,g3⟩:=hr ρ (fun o v h=>hA o v (by simp[h])) (fun o n h=>hO o n (by simp[dJ,h]))
   have hk:=hA (.inl (2000+i)) v (by simp)
   have g4:=hr2 ρ hk (fun o v h=>hA o v (by simp[h])) (fun o n h=>hO o n (by
    simp only[ah7] at h
    simp only[dJ,ah7,ah6]
    rcases h with h | h
    ·exact .inl h
    ·exact .inr (.inl h)))
   rw[h1 rfl]
   exact⟨⟨v,us,rfl,hk,g1⟩,g4.app g2,by rw[show v=_ from hk];rfl,g3⟩
 | .ar t::r,i,x,vs,⟨v,us,_,h1,hv,hu⟩=>by
  obtain⟨vals,e,hp,hr⟩:=pY hu
  refine⟨(.ob bR,undef)::vals,by simp[dJ,e],fun k v h=>hp k v (by simpa using h),fun ρ hA hO=> ?_⟩
  obtain⟨g1,g2,g3⟩:=hr ρ (fun o v h=>hA o v (by simp[h])) (fun o n h=>hO o n (by simp[dJ,h]))
  have e1:=h1 rfl
  subst e1
  refine⟨g1,⟨g2.bx,g2.rw,fun j q hj=> ?_⟩,g3⟩
  simp only[jX,aM] at hj
  split at hj
  ·rename_i ej
   subst ej
   cases hj
   refine⟨rfl,hv.1,hv.2.1,fun n z hz=> ?_⟩
   obtain⟨b,ws,T,f1,f2,f3,f4,f5⟩:=hv.2.2 n z hz
   exact⟨b,ws,T,f1,nofun,fun _=>hO _ _ (by simp[dJ]) b (f3 rfl),f4,f5⟩
  ·exact g2.ob j q hj
 | .arR t::r,i,x,vs,⟨v,us,_,h1,hv,hu⟩=>by
  obtain⟨vals,e,hp,hr⟩:=pY hu
  refine⟨vals,e,hp,fun ρ hA hO=> ?_⟩
  obtain⟨g1,g2,g3⟩:=hr ρ hA hO
  have e1:=h1 rfl
  subst e1
  refine⟨g1,⟨g2.bx,g2.rw,fun j q hj=> ?_⟩,g3⟩
  simp only[jX,aM] at hj
  split at hj
  ·rename_i ej
   subst ej
   cases hj
   refine⟨rfl,hv.1,hv.2.1,fun n z hz=> ?_⟩
   obtain⟨b,ws,T,f1,f2,f3,f4,f5⟩:=hv.2.2 n z hz
   exact⟨b,ws,T,f1,f2,nofun,f4,f5⟩
  ·exact g2.ob j q hj
theorem yZ:∀ {ps:List PM} {i:Nat} {o:bK} {n:Nat},(o,n)∈dJ i ps→(∃ k,o= .inl k)∨o= .ob bR∨Ll pD o n
 | [],i,o,n,h=>by simp[dJ] at h
 | .val _::r,i,o,n,h=>yZ (ps:=r) h
 | .arR _::r,i,o,n,h=>yZ (ps:=r) h
 | .row _ _::r,i,o,n,h=>by
  simp only[dJ,ah7,Prod.mk.injEq] at h
  rcases h with ⟨h,h'⟩ | h
  ·subst h;subst h';exact .inr (.inr (.inl (by rw[pid,G9];rfl)))
  ·exact yZ (ps:=r) h
 | .mrow _ _::r,i,o,n,h=>by
  simp only[dJ,ah7,Prod.mk.injEq] at h
  rcases h with ⟨h,h'⟩ | h
  ·subst h;subst h';exact .inr (.inr (.inl (by rw[pid,G9];rfl)))
  ·exact yZ (ps:=r) h
 | .map _ _::r,i,o,n,h=>by
  simp only[dJ,ah7,Prod.mk.injEq] at h
  rcases h with ⟨h,h'⟩ | h
  ·subst h;subst h';exact .inr (.inr (.inr (by rw[pid,G9];rfl)))
  ·exact yZ (ps:=r) h
 | .box l::r,i,o,n,h=>by
  simp only[dJ,ah7,ah6,Prod.mk.injEq] at h
  rcases h with ⟨h,h'⟩ | h | h
  ·exact .inl ⟨_,h⟩
  ·exact .inr (.inr (Gi h))
  ·exact yZ (ps:=r) h
 | .ar _::r,i,o,n,h=>by
  simp only[dJ,ah7,Prod.mk.injEq] at h
  rcases h with ⟨h,h'⟩ | h
  ·exact .inr (.inl h)
  ·exact yZ (ps:=r) h
def Yh (tmps:Array Value):ResultVar→Sem Value
 | .tmp t=>pure (tmps.getD t undef)
 | .cell a t=>do loadVar t (← asAddr (tmps.getD a undef))
theorem ac2 {S:St} {a:Act} {s:SV} {v:ResultVar} (hM:Mod C G ρ S w a) (h:WT X S v=some s):∃ u,(Yh a.tmps v).run X.P w= .ok u w∧bM G ρ s u:=by
 cases v with
 | tmp t=>
  simp only[WT,Option.some.injEq] at h
  subst h
  exact⟨_,rfl,hM.tmps.ev (.tmp t)⟩
 | cell t T=>
  simp only[WT] at h
  split at h
  ·rename_i b off hx
   split at h
   ·rename_i l hl
    obtain⟨s',hs,hld⟩:=EK h
    cases hs
    have h1:=hM.tmps.ev (.tmp t)
    simp only[St.ev] at h1
    rw[hx] at h1
    have h2:a.tmps.getD t undef= .pointer (some ⟨ρ.bx b,off,none⟩):=h1
    obtain⟨_,vs,T',hw,hv⟩:=hM.boxes b l hl
    obtain⟨u,hr,hsv⟩:=hld G ρ w (ρ.bx b) 0 vs hv (fun j v hj=>by
     have hadd:(⟨ρ.bx b,0,none⟩:Addr).add j=⟨ρ.bx b,j,none⟩:=by unfold Addr.add;split<;>simp_all
     rw[hadd,cell_of_row w _ j _ T' (0,0) hw];simpa using hj)
    refine⟨u, ?_,hsv⟩
    simp only[ai7] at hr
    simp only[Yh,h2,asAddr,Sem.run_bind,Sem.run_pure,Result.andThen_ok,hr]
   ·cases h
  ·cases h
theorem LM {S:St} {a:Act} (hM:Mod C G ρ S w a):∀ {rs:List ResultVar} {l:List SV},Hs X S rs=some l→∃ us,(rs.mapM (Yh a.tmps)).run X.P w= .ok us w∧bn (bM G ρ) l us
 | [],l,h=>by
  simp only[Hs,Option.some.injEq] at h
  subst h
  exact⟨[],rfl,rfl⟩
 | v::r,l,h=>by
  simp only[Hs] at h
  split at h
  ·rename_i s hs
   split at h
   ·rename_i l' hl'
    cases h
    obtain⟨u,h1,h2⟩:=ac2 hM hs
    obtain⟨us,h3,h4⟩:=LM hM hl'
    refine⟨u::us, ?_,u,us,rfl,h2,h4⟩
    simp only[List.mapM_cons,Sem.run_bind,h1,Result.andThen_ok,h3,Sem.run_pure]
   ·cases h
  ·cases h
theorem Qm {fn:Func} {tmps:Array Value} {P:Program} {us:List Value} (h:(fn.results.toList.mapM (Yh tmps)).run P w= .ok us w):(results fn tmps).run P w= .ok (EY us) w:=by
 have e:results fn tmps=(do
  let vs ← fn.results.mapM (Yh tmps)
  pure (if h:vs.size=1 then vs[0] else .tuple vs)):=by
  unfold results
  congr 2
 rw[e,Array.mapM_eq_mapM_toList]
 simp only[Sem.run_bind,Sem.run_map,h,Result.andThen_ok,Sem.run_pure]
 match us with
 | []=>rfl
 | [v]=>rfl
 | v::u::r=>simp[EY]
theorem X8 (S:St) (ps:List PM) (bx:Option (jh ps)) (s:SV) (q:List SV):Cf S ps bx [] (s::q)=none:=rfl
theorem X7 (S:St) (ps:List PM) (bx:Option (jh ps)) (p:RM) (r:List RM) (s:SV) (q:List SV):Cf S ps bx (p::r) (s::q)=match Gl S p s with
 | some x=>match Cf S ps bx r q with
  | some y=>some (x,y)
  | none=>none
 | none=>none:=rfl
theorem Zr (S:St) (ps:List PM) (bx:Option (jh ps)) (p:RM) (r:List RM):Cf S ps bx (p::r) []=none:=rfl
theorem ZK {s:SV} {c:CV} {v:Value} (hc:xU s=some c) (hs:bM G ρ s v):bG G ρ c v:=by
 unfold xU at hc
 split at hc
 ·cases hc;exact hs
 ·cases hc
section
variable {V:St} {ow:List (bK×Nat)} (hM:Mem C G ρ V w)
include hM
theorem Tl {l:List OT} {k n:Nat} {cs:List CV} {x:rL l} {v:Value} (hcs:look V.boxes k=some cs) (h:sW V l cs=some x) (hv:v= .pointer (some ⟨ρ.bx k,0,none⟩)) (ho:∀ q,q∈(.inl k,n)::uV (n+1) l cs→cH ow q.1=some q.2):
 CA G w (fJ ρ ow) n l x v:=by
 obtain⟨h1,vs,T,h2,h3⟩:=hM.boxes k cs hcs
 refine⟨ρ.bx k,vs,T,hv, ?_,h2,EV hM (Gh.le_refl G) h h3 (fun q hq=>ho q (by simp[hq]))⟩
 simp only[fJ,h1,ajb]
 exact ho (.inl k,n) (by simp)
theorem abd {p:RM} {s:SV} {x:p.den} {v:Value} {c:Nat} {r:List RM} {q:List SV} (h:Gl V p s=some x) (hv:bM G ρ s v) (ho:∀ z,z∈pg V c (p::r) (s::q)→cH ow z.1=some z.2):aau G w (fJ ρ ow) c p x v:=by
 cases p with
 | val t=>exact oG hM.frozen (pW.nil _ _ _) h hv
 | row e t=>
  simp only[Gl] at h
  split at h
  ·rename_i cv hc
   exact w8 hM (Gh.le_refl G) h (ZK hc hv) (fun z hz=>ho z (by simp only[pg,hc,ah6];exact .inl hz))
  ·cases h
 | map k e=>
  simp only[Gl] at h
  split at h
  ·rename_i cv hc
   exact Es hM (Gh.le_refl G) h (ZK hc hv) (fun z hz=>ho z (by simp only[pg,hc,ah6];exact .inl hz))
  ·cases h
 | box l=>
  simp only[Gl] at h
  split at h
  ·rename_i k hk
   split at h
   ·rename_i cs hcs
    exact Tl hM hcs h (VA hk hv) (fun z hz=>ho z (by simp only[pg,hk,hcs,ah6];exact .inl hz))
   ·cases h
  ·cases h
theorem Tm {ps:List PM} {bx:Option (jh ps)} {args:List Value} (hbx:∀ y,bx=some y→uA G w (fJ ρ ow) 0 ps y args) (rs:List RM):
 ∀ {l:List SV} {y:dO ps rs} {us:List Value} (c:Nat),(∀ z,z∈pg V c rs l→cH ow z.1=some z.2)→Cf V ps bx rs l=some y→bn (bM G ρ) l us→uh G w (fJ ρ ow) ps args c rs y us:=by
 induction rs with
 | nil=>
  intro l y us c _ h hv
  cases l with
  | nil=>exact⟨hv,hbx y h⟩
  | cons s q=>rw[X8] at h;cases h
 | cons p r ih=>
  intro l y us c ho h hv
  cases l with
  | nil=>rw[Zr] at h;cases h
  | cons s q=>
   obtain⟨v,us',e',hs,hq⟩:=hv
   subst e'
   rw[X7] at h
   split at h
   ·rename_i x hx
    split at h
    ·rename_i z hz
     cases h
     refine⟨v,us',rfl,abd hM hx hs ho,ih (c+1) (fun t ht=>ho t ?_) hz hq⟩
     cases p<;>simp only[pg,ah6]<;>first | exact .inr ht | exact ht
    ·cases h
   ·cases h
theorem sV:∀ {ps:List PM} {i:Nat} {y:jh ps} {vs:List Value},sU V i ps=some y→(∀ z,z∈nE V i ps→cH ow z.1=some z.2)→iZ ρ i ps vs→uA G w (fJ ρ ow) i ps y vs
 | [],i,y,vs,_,_,_=>trivial
 | .val _::r,i,y,vs,h,ho,hp=>sV (ps:=r) h ho hp
 | .row _ _::r,i,y,vs,h,ho,hp=>sV (ps:=r) h ho hp
 | .arR _::r,i,y,vs,h,ho,hp=>sV (ps:=r) h ho hp
 | .mrow e t::r,i,y,vs,h,ho,⟨⟨hp1,hp2⟩,hp⟩=>by
  simp only[sU] at h
  split at h
  ·rename_i x z hx hz
   cases h
   have:=w8 (ow:=ow) (n:=64*i) hM (Gh.le_refl G) hx (v:=ρ.rw (pid i 0)) ⟨rfl,hp2⟩ (fun q hq=>ho q (by
    simp only[uy,aij] at hq
    subst hq;simp[nE]))
   exact⟨⟨_,hp1,this.1,this.2⟩,sV (ps:=r) hz (fun q hq=>ho q (by simp[nE,hq])) hp⟩
  ·cases h
 | .map kk vv::r,i,y,vs,h,ho,⟨⟨hp1,hp2⟩,hp⟩=>by
  simp only[sU] at h
  split at h
  ·rename_i x z hx hz
   cases h
   obtain⟨b,h1,h2,h3⟩:=Es (ow:=ow) (n:=64*i) hM (Gh.le_refl G) hx (v:=ρ.ob (pid i 0)) ⟨rfl,hp2⟩ (fun q hq=>ho q (by
    simp only[uy,aij] at hq
    subst hq;simp[nE]))
   exact⟨⟨b,by rw[hp1,h1],h2,h3⟩,sV (ps:=r) hz (fun q hq=>ho q (by simp[nE,hq])) hp⟩
  ·cases h
 | .box l::r,i,y,vs,h,ho,⟨hp1,hp⟩=>by
  simp only[sU] at h
  split at h
  ·rename_i cs hcs
   split at h
   ·rename_i x z hx hz
    cases h
    refine⟨⟨_,hp1,Tl hM hcs hx rfl (fun q hq=>ho q ?_)⟩,sV (ps:=r) hz (fun q hq=>ho q ?_) hp⟩
    ·simp only[nE,hcs,ahk,ah7,ah6]
     rcases ah7.1 hq with hq | hq
     ·exact .inl hq
     ·exact .inr (.inl hq)
    ·simp only[nE,hcs,ahk,ah7,ah6]
     exact .inr (.inr hq)
   ·cases h
  ·cases h
 | .ar t::r,i,y,vs,h,ho,hp=>by
  simp only[sU] at h
  split at h
  ·rename_i x z hx hz
   cases h
   obtain⟨f,hl,hf⟩:=yI hx
   have:=hf rfl
   subst this
   obtain⟨_,h1,h2,h3⟩:=hM.objs bR _ hl
   refine⟨⟨h1,h2,fun n z hz=> ?_⟩,sV (ps:=r) hz (fun q hq=>ho q (by simp[nE,hq])) hp⟩
   obtain⟨b,vs,T,g1,g2,g3,g4,g5⟩:=h3 n z hz
   refine⟨b,vs,T,g1,nofun,fun _=> ?_,g4,g5⟩
   have:=g3 rfl
   simp only[fJ,this,ajb]
   exact ho (.ob bR,64*i) (by simp[nE])
  ·cases h
end
end Go.Dn
namespace Go.Dn
variable {X:Cx}
section
variable {G G':Gh} {w:World} {ow:Nat→Option Nat} (hG:∀ b o,G b=some o→G' b=some o)
include hG
theorem c9.bD {t:Ty} {x:t.den} {v:Value} (hn:t.bD=true) (h:c9 G t x v):c9 G' t x v:=by
 cases t with
 | st t=>obtain⟨vs,e,hv⟩:=h;exact⟨vs,e,aY.bD hG t x vs (by simpa [Ty.bD] using hn) hv⟩
 | _=>exact aY.bD hG _ x _ hn h
theorem xL.bD {e:TypeId} {t:Ty} {l:List t.den} {v:Value} (hn:t.bD=true) (h:xL G w e t l v):xL G' w e t l v:=by
 obtain⟨xs,h1,h2⟩:=h
 exact⟨xs,h1,h2.mono fun x cs=>aY.bD hG t x cs hn⟩
theorem Ee.bD {k v:Ty} {l:List (k.den×v.den)} {b:Nat} (hk:k.bD=true) (hv:v.bD=true) (h:Ee G w k v l b):Ee G' w k v l b:=by
 obtain⟨es,clock,h1,h2,h3⟩:=h
 exact⟨es,clock,h1,h2.mono fun x y hxy=>⟨hxy.1.bD hG hk,hxy.2.bD hG hv⟩,h3⟩
def Kt (l:List OT):Bool:=l.all fun | .val t=>t.bD | .row _ t=>t.bD | .map k v=>k.bD&&v.bD
theorem Ef.bD:∀ {l:List OT} {n:Nat} {x:rL l} {vs:List Value},Kt l=true→Ef G w ow n l x vs→Ef G' w ow n l x vs
 | [],_,_,_,_,h=>h
 | .val t::r,n,x,vs,hn,⟨a,b,e,h1,h2⟩=>by
  simp only[Kt,ahd,agC] at hn
  exact⟨a,b,e,aY.bD hG t x.1 a hn.1 h1,Ef.bD hn.2 h2⟩
 | .row _ t::r,n,x,vs,hn,⟨a,b,e,⟨v,e2,h1,h3⟩,h2⟩=>by
  simp only[Kt,ahd,agC] at hn
  exact⟨a,b,e,⟨v,e2,h1.bD hG hn.1,h3⟩,Ef.bD hn.2 h2⟩
 | .map k v::r,n,x,vs,hn,⟨a,b,e,⟨bb,e2,h1,h3⟩,h2⟩=>by
  simp only[Kt,ahd,agC] at hn
  exact⟨a,b,e,⟨bb,e2,h1,h3.bD hG hn.1.1 hn.1.2⟩,Ef.bD hn.2 h2⟩
theorem CA.bD {l:List OT} {n:Nat} {x:rL l} {v:Value} (hn:Kt l=true) (h:CA G w ow n l x v):CA G' w ow n l x v:=by
 obtain⟨b,vs,T,h1,h2,h3,h4⟩:=h
 exact⟨b,vs,T,h1,h2,h3,h4.bD hG hn⟩
theorem kN.bD:∀ {ps:List PM} {i:Nat} {x:gY ps} {vs:List Value},fQ ps=true→kN G w ow i ps x vs→kN G' w ow i ps x vs
 | [],_,_,_,_,h=>h
 | .val t::r,i,x,vs,hn,⟨v,us,h1,h2,h3,h4⟩=>by
  simp only[fQ,agC] at hn
  exact⟨v,us,h1,h2,c9.bD hG hn.1 h3,kN.bD hn.2 h4⟩
 | .row _ t::r,i,x,vs,hn,⟨v,us,h1,h2,⟨h3,h3'⟩,h4⟩=>by
  simp only[fQ,agC] at hn
  exact⟨v,us,h1,h2,⟨h3.bD hG hn.1,h3'⟩,kN.bD hn.2 h4⟩
 | .mrow _ t::r,i,x,vs,hn,⟨v,us,h1,h2,⟨h3,h3'⟩,h4⟩=>by
  simp only[fQ,agC] at hn
  exact⟨v,us,h1,h2,⟨h3.bD hG hn.1,h3'⟩,kN.bD hn.2 h4⟩
 | .map _ _::r,i,x,vs,hn,⟨v,us,h1,h2,⟨b,h3,h3',h5⟩,h4⟩=>by
  simp only[fQ,agC] at hn
  exact⟨v,us,h1,h2,⟨b,h3,h3',h5.bD hG hn.1.1 hn.1.2⟩,kN.bD hn.2 h4⟩
 | .box l::r,i,x,vs,hn,⟨v,us,h1,h2,h3,h4⟩=>by
  simp only[fQ,agC] at hn
  exact⟨v,us,h1,h2,CA.bD hG hn.1 h3,kN.bD hn.2 h4⟩
 | .ar _::r,i,x,vs,hn,_=>by simp[fQ] at hn
 | .arR _::r,i,x,vs,hn,_=>by simp[fQ] at hn
theorem uA.bD:∀ {ps:List PM} {i:Nat} {x:jh ps} {vs:List Value},fQ ps=true→uA G w ow i ps x vs→uA G' w ow i ps x vs
 | [],_,_,_,_,h=>h
 | .val t::r,i,x,vs,hn,h=>by
  simp only[fQ,agC] at hn
  exact uA.bD (ps:=r) hn.2 h
 | .row _ t::r,i,x,vs,hn,h=>by
  simp only[fQ,agC] at hn
  exact uA.bD (ps:=r) hn.2 h
 | .mrow _ t::r,i,x,vs,hn,⟨⟨v,h1,h2,h3⟩,h4⟩=>by
  simp only[fQ,agC] at hn
  exact⟨⟨v,h1,h2.bD hG hn.1,h3⟩,uA.bD hn.2 h4⟩
 | .map _ _::r,i,x,vs,hn,⟨⟨b,h1,h2,h3⟩,h4⟩=>by
  simp only[fQ,agC] at hn
  exact⟨⟨b,h1,h2,h3.bD hG hn.1.1 hn.1.2⟩,uA.bD hn.2 h4⟩
 | .box l::r,i,x,vs,hn,⟨⟨v,h1,h2⟩,h4⟩=>by
  simp only[fQ,agC] at hn
  exact⟨⟨v,h1,CA.bD hG hn.1 h2⟩,uA.bD hn.2 h4⟩
 | .ar _::r,i,x,vs,hn,_=>by simp[fQ] at hn
 | .arR _::r,i,x,vs,hn,_=>by simp[fQ] at hn
theorem uh.bD {ps:List PM} {args:List Value} (hp:fQ ps=true):∀ {rs:List RM} {c:Nat} {y:dO ps rs} {vs:List Value},w9 rs=true→uh G w ow ps args c rs y vs→uh G' w ow ps args c rs y vs
 | [],_,_,_,_,h=>⟨h.1,h.2.bD hG hp⟩
 | .val t::r,c,y,vs,hn,⟨v,us,h1,h2,h3⟩=>by
  simp only[w9,agC] at hn
  exact⟨v,us,h1,c9.bD hG hn.1 h2,uh.bD hp hn.2 h3⟩
 | .row _ t::r,c,y,vs,hn,⟨v,us,h1,⟨h2,h2'⟩,h3⟩=>by
  simp only[w9,agC] at hn
  exact⟨v,us,h1,⟨h2.bD hG hn.1,h2'⟩,uh.bD hp hn.2 h3⟩
 | .map _ _::r,c,y,vs,hn,⟨v,us,h1,⟨b,h2,h2',h4⟩,h3⟩=>by
  simp only[w9,agC] at hn
  exact⟨v,us,h1,⟨b,h2,h2',h4.bD hG hn.1.1 hn.1.2⟩,uh.bD hp hn.2 h3⟩
 | .box l::r,c,y,vs,hn,⟨v,us,h1,h2,h3⟩=>by
  simp only[w9,agC] at hn
  exact⟨v,us,h1,CA.bD hG hn.1 h2,uh.bD hp hn.2 h3⟩
end
theorem jY:∀ (ps:List PM) (i:Nat) (x:gY ps),(iT i ps x).length=zN ps
 | [],_,_=>rfl
 | .val _::r,i,x=>by simp[iT,zN,PM.arg,jY r];omega
 | .row _ _::r,i,x=>by simp[iT,zN,PM.arg,jY r];omega
 | .mrow _ _::r,i,x=>by simp[iT,zN,PM.arg,jY r];omega
 | .map _ _::r,i,x=>by simp[iT,zN,PM.arg,jY r];omega
 | .box _::r,i,x=>by simp[iT,zN,PM.arg,jY r];omega
 | .ar _::r,i,x=>by simp[iT,zN,PM.arg,jY r]
 | .arR _::r,i,x=>by simp[iT,zN,PM.arg,jY r]
theorem sX:∀ {ps:List PM} {i:Nat} {x:gY ps} {t:Ty} {l:List t.den},mm ps=false→look (jX i ps x) bR≠some (.ar false t l)
 | [],i,x,t,l,_=>by simp[jX,look]
 | .val _::r,i,x,t,l,h=>sX (ps:=r) h
 | .row _ _::r,i,x,t,l,h=>sX (ps:=r) h
 | .mrow _ _::r,i,x,t,l,h=>sX (ps:=r) h
 | .map _ _::r,i,x,t,l,h=>by
  simp only[jX,aM]
  split
  ·simp
  ·exact sX (ps:=r) h
 | .box _::r,i,x,t,l,h=>by
  simp only[jX,dV]
  intro e
  rcases or_some e with e | ⟨_,e⟩
  ·obtain⟨_,_,_,e'⟩:=zP e;cases e'
  ·exact sX (ps:=r) h e
 | .ar _::r,i,x,t,l,h=>by simp[mm] at h
 | .arR _::r,i,x,t,l,h=>by
  simp only[jX,aM]
  split
  ·intro e;cases e
  ·exact sX (ps:=r) h
theorem aba {ps:List PM} (h:fQ ps=true):mm ps=false:=by
 induction ps with
 | nil=>rfl
 | cons p r ih=>cases p<;>simp only[fQ,agC] at h<;>first | exact ih h.2 | cases h
theorem Xz (hX:cT X) (hmix:X.P.follows .mixedOrders=true) {f:FuncId} {fn:Func} (sp:aK) (anns:List (Nat×Ann)) (ar:Option Ty) (hf:X.P.funcs[f]? =some fn) {G:Gh} {w:World} {ow:Nat→Option Nat} {args:List Value} {x:gY sp.ps} {y:dO sp.ps sp.rs}
 (hT:CE X.P G) (hG:Agr G w) (how:∀ b i,ow b=some i→G b=none∧b<w.heap.size) (hargs:kN G w ow 0 sp.ps x args) (har:ar.isSome=true→G.hnd=(fun _=>none)∧mm sp.ps=false∧fQ sp.ps=true) (hN:QU X anns ar fn sp x=some y):
 Calls X.P f args.toArray w fun e w'=>∃ G' ow' vs,e= .returned (EY vs)∧G.le G'∧Agr G' w'∧w.heap.size≤w'.heap.size∧w'.os=w.os∧w'.output=w.output∧
  (∀ b,b<w.heap.size→ow b=none→w'.heap[b]? =w.heap[b]? ∧G' b=G b)∧(∀ b i,ow' b=some i→G' b=none∧b<w'.heap.size∧(w.heap.size≤b∨ow b≠none))∧uh G' w' ow' sp.ps args 0 sp.rs y vs∧(mm sp.ps=false→ar=none→G'.hnd=G.hnd):=by
 unfold QU at hN
 split at hN
 ·cases hN
 ·rename_i hcond
  simp only[agP,ajE,agK] at hcond
  obtain⟨⟨hdO,hdC⟩,hnoh⟩:=hcond
  split at hN
  ·rename_i c hc
   obtain⟨vals,hvals,hpt,hst⟩:=pY hargs
   let pv:Nat→Value:=fun k=>match cD vals (.inr k) with | some v=>v | none=>(cD vals (.ob k)).getD undef
   let ρ:Env:=⟨fun k=>match cD vals (.inl k) with | some v=>FE v | none=>0,pv,fun b=>(ow b).bind (mO (dJ 0 sp.ps)),pv,fun k=>Dd w (pv k)⟩
   have hA:∀ o v,(o,v)∈vals→Asg ρ w o v:=fun o v hm=>by
    have hl:=G7 hvals hdO hm
    cases o with
    | inl k=>
     obtain⟨b,hb⟩:=hpt k v hm
     show v= .pointer (some ⟨match cD vals (.inl k) with | some v=>FE v | none=>0,0,none⟩)
     rw[hl,hb];rfl
    | inr j=>show (match cD vals (.inr j) with | some v=>v | none=>_)=v;rw[hl]
    | ob j=>
     intro b hb
     subst hb
     have hnr:cD vals (.inr j)=none:=by
      cases h1:cD vals (.inr j) with
      | none=>rfl
      | some v'=>
       obtain⟨n1,m1⟩:=zM hvals (by rw[h1];simp)
       obtain⟨n2,m2⟩:=zM hvals (o:= .ob j) (by rw[hl];simp)
       rcases yZ m1 with ⟨k,e⟩ | e | e
       ·cases e
       ·cases e
       ·rcases yZ m2 with ⟨k,e'⟩ | e' | e'
        ·cases e'
        ·cases e'
         rcases e with e | e
         ·have:bR=nid pD 0 0+n1:=by simpa using e
          simp only[bR,pD,nid] at this;omega
         ·cases e
        ·have h1:j=nid pD 0 0+n1:=by rcases e with e | e<;>cases e;rfl
         have h2:j=nid pD 0 0+n2:=by rcases e' with e' | e'<;>cases e';rfl
         have:n1=n2:=by omega
         subst this
         have:=P7 hdC m1 m2
         cases this
     have hpv:pv j= .map (some b):=by
      show (match cD vals (.inr j) with | some v=>v | none=>(cD vals (.ob j)).getD undef)=_
      rw[hnr,hl];rfl
     refine⟨hpv,fun es clock hw i e' hi=> ?_⟩
     show (e'.born:Int)=Dd w (pv j) i
     rw[hpv]
     simp[Dd,hw,hi]
   have hO:∀ o n,(o,n)∈dJ 0 sp.ps→∀ b,ow b=some n→ρ.own b=some o:=fun o n hm b hb=>by
    show (ow b).bind (mO (dJ 0 sp.ps))=_
    rw[hb];exact zG hdC hm
   obtain⟨hsv,hP,hpins⟩:=hst ρ hA hO
   let C:Fr X.P:=⟨w.heap.size,ρ.bx,pv,fun b=>ow b≠none,w,G,mm sp.ps=false∧ar=none,hT⟩
   have hlen:args.length=zN sp.ps:=by rw[hsv.len,jY]
   have hM:Mod C G ρ (NY fn.ntmps ar sp.ps x) w { tmps:=args.toArray++Array.replicate (fn.ntmps - args.toArray.size) undef,defers:=[] }:=by
    refine { agr:=hG,le0:=Gh.le_refl G,old:=fun _ _ _=>rfl,frame:=fun _ _ _=>rfl,size:=aiN _,os:=rfl,output:=rfl,pin:=fun _ _=>rfl,pinR:=fun _ _=>⟨rfl,rfl⟩,owned:= ?_,boxes:=hP.bx,rows:=hP.rw,objs:= ?_,hndI:= ?_,tmps:=⟨?_, ?_⟩,defers:=rfl }
    ·intro b o ho
     cases hb:ow b with
     | none=>
      have ho':(ow b).bind (mO (dJ 0 sp.ps))=some o:=ho
      rw[hb] at ho';cases ho'
     | some i=>exact⟨(how b i hb).1,(how b i hb).2,.inr (by show ow b≠none;rw[hb];simp)⟩
    ·intro j q hj
     cases ar with
     | none=>exact hP.ob j q hj
     | some t=>
      simp only[NY,aM] at hj
      split at hj
      ·rename_i ej
       subst ej
       cases hj
       obtain⟨h1,_⟩:=har rfl
       refine⟨rfl,fun i b hb=>(by rw[h1] at hb;cases hb),fun i i' b hb=>(by rw[h1] at hb;cases hb),fun i z hz=>by simp at hz⟩
      ·exact hP.ob j q hj
    ·rintro⟨h1,h2⟩
     refine⟨rfl,fun t l=> ?_⟩
     subst h2
     exact sX h1
    ·simp[NY,jY,hlen]
    ·intro i s hi
     simp only[NY] at hi
     rw[ahz] at hi
     rw[agp,Array.getElem?_append]
     split at hi
     ·rename_i hlt
      obtain⟨v,hv,hsv'⟩:=hsv.get hi
      rw[jY] at hlt
      rw[ajz (by simpa [hlen] using hlt)]
      simpa [hv] using hsv'
     ·rw[ahK] at hi
      split at hi
      ·cases hi;exact trivial
      ·cases hi
   refine calls_of_wp hf hc (aL (C:=C) hX hmix anns c hN (fun e S' G' ρ' w' a' hk hM'=> ?_) hM)
   have key:ends X fn sp S'=some y→a'.defers=[]∧∃ v,(results fn a'.tmps).run X.P w'= .ok v w'∧∃ G' ow' vs,Ending.returned v= .returned (EY vs)∧G.le G'∧Agr G' w'∧w.heap.size≤w'.heap.size∧w'.os=w.os∧w'.output=w.output∧
    (∀ b,b<w.heap.size→ow b=none→w'.heap[b]? =w.heap[b]? ∧G' b=G b)∧(∀ b i,ow' b=some i→G' b=none∧b<w'.heap.size∧(w.heap.size≤b∨ow b≠none))∧uh G' w' ow' sp.ps args 0 sp.rs y vs∧(mm sp.ps=false→ar=none→G'.hnd=G.hnd):=by
    intro hk
    unfold ends at hk
    have hI:∃ G1 ρ1,Mod C G1 ρ1 (Iq X fn sp.rs S') w' a':=by
     unfold Iq
     split
     ·exact Mod.mT _ hM'
     ·exact⟨_,_,hM'⟩
    generalize Iq X fn sp.rs S'=S' at hk hI
    obtain⟨G',ρ',hM'⟩:=hI
    refine⟨hM'.defers, ?_⟩
    unfold aeg at hk
    split at hk
    ·rename_i l hl
     simp only at hk
     split at hk
     ·cases hk
     ·rename_i hd
      obtain⟨us,hr,hus⟩:=LM hM' hl
      generalize hjs:Fh (Gn sp.rs l)++(Pc S' sp.rs l++O9 S' 0 sp.ps)=js at hk hd
      obtain⟨G2,ρ2,hfz,hM2⟩:=hM'.freeze js
      generalize hV:bq S' js=V at hk hd hM2
      generalize how':pg V 0 sp.rs l++nE V 0 sp.ps=owl at hk hd
      have hd':Bw owl=false:=by simpa using hd
      have hus2:bn (bM G2 ρ2) l us:=hus.mono fun s v hs=>bM.congr hfz.le (oN.same hfz.bx hfz.rw hfz.ob hfz.st) hs
      have hpins2:iZ ρ2 0 sp.ps args:=hpins.congr (fun k hk=>hM2.pin k hk) (fun k hk=>hM2.pinR k hk)
      refine⟨_,Qm hr,G2,fJ ρ2 owl,us,rfl,hM2.le0,hM2.agr,hM2.size,hM2.os,hM2.output,fun b hb ho=>⟨hM2.frame b hb (by show ¬ ow b≠none;simp[ho]),hM2.old b hb (by show ¬ ow b≠none;simp[ho])⟩,fun b i hb=> ?_, ?_,fun h1 h2=>(hM2.hndI ⟨h1,h2⟩).1⟩
      ·unfold fJ at hb
       cases ho:ρ2.own b with
       | none=>rw[ho] at hb;cases hb
       | some o=>exact hM2.owned b o ho
      ·refine Tm hM2.toMem (fun y' hy'=>sV hM2.toMem hy' (fun z hz=>qJ hd' (by rw[← how'];simp[hz])) hpins2) sp.rs 0 (fun z hz=>qJ hd' (by rw[← how'];simp[hz])) hk hus2
    ·cases hk
   cases e with
   | normal=>exact key hk
   | ret=>exact key hk
   | exit id=>cases hk
  ·cases hN
theorem acf (hX:cT X) (hmix:X.P.follows .mixedOrders=true) {f:FuncId} {fn:Func} (sp:aK) (anns:List (Nat×Ann)) (ar:Option Ty) (hf:X.P.funcs[f]? =some fn)
 (h:∀ x y,sp.m x=some y→QU X anns ar fn sp x=some y):aR X.P f sp:=by
 intro G w ow args x y hG how hargs hm hT
 have hN:=h x y hm
 cases ar with
 | none=>
  refine (Xz hX hmix sp anns none hf hT hG how hargs (fun e=>by cases e) hN).mono ?_
  rintro e w' ⟨G',ow',vs,h1,h2,h3,h4,h5,h6,h7,h8,h9,h10⟩
  exact⟨G',ow',vs,h1,h2,h3,h4,h5,h6,h7,h8,h9,fun h=>h10 h rfl⟩
 | some t=>
  have hN0:=hN
  unfold QU at hN0
  split at hN0
  ·cases hN0
  ·rename_i hcond
   simp only[agP,ajE,agK,ajg,agQ,agJ,agC] at hcond
   obtain⟨_,hpn,hrn⟩:=hcond
   let G0:Gh:=⟨G.blk,fun _=>none⟩
   have hargs0:kN G0 w ow 0 sp.ps x args:=kN.bD (G:=G) (G':=G0) (fun _ _ h=>h) hpn hargs
   refine (Xz hX hmix sp anns (some t) hf (G:=G0) ⟨hT.pow,hT.maxLen⟩ hG how hargs0 (fun _=>⟨rfl,aba hpn,hpn⟩) hN).mono ?_
   rintro e w' ⟨G',ow',vs,h1,h2,h3,h4,h5,h6,h7,h8,h9,h10⟩
   refine⟨⟨G'.blk,G.hnd⟩,ow',vs,h1,⟨h2.blk,fun _ _ h=>h⟩,h3,h4,h5,h6,h7,h8,uh.bD (G:=G') (G':=⟨G'.blk,G.hnd⟩) (fun _ _ h=>h) hpn hrn h9,fun _=>rfl⟩
end Go.Dn
namespace Go.Dn
def w64 (n:Int):Int:=IntKind.wrap .i64 n
def tI:Ty:= .int .i64
def cw (n:Int):Int:=IntKind.wrap .u64 n
def oL (n:Int):Int:=IntKind.wrap .u32 n
def Ty.fu:(t:Ty)→t.den→Nat→Nat
 | .int _,n,a=>Int.natAbs n+a
 | .bool,_,a=>a
 | .str,s,a=>List.length s+a
 | .unit,_,a=>a
 | .pair s t,x,a=>s.fu x.1 (t.fu x.2 a)
 | .st t,x,a=>t.fu x a
 | .slice _,l,a=>List.length l+a
 | .ptr t,x,a=>t.fu x a
 | .clo _ _,_,a=>a
 | .hnd,_,a=>a
def bB:(cs:List CK)→dZ cs→Nat
 | [],_=>2
 | .val t::r,x=>t.fu x.1 (bB r x.2)
 | .own _ _::r,x=>x.1.length+bB r x.2
 | .map _ _::r,x=>x.1.length+bB r x.2
 | .ref _ _::r,x=>bB r x
 | .fn _ _::r,x=>bB r x
 | .ar _::r,x=>x.1.length+bB r x.2
 | .arF _::r,x=>bB r x.2
 | .rowR _::r,x=>bB r x
 | .rpR _ _::r,x=>bB r x.2
 | .mapR _::r,x=>bB r x
 | .rowC _ _ _::r,x=>x.1.length+bB r x.2
 | .mapC _ _ _::r,x=>x.1.length+bB r x.2
theorem bY {X β:Type} (n:Nat) (x:X) (f:X→(X→Option β)→Option β):iter (n+1) x f=f x fun y=>iter n y f:=rfl
end Go.Dn
namespace Go.Dn
def Hr {α β:Type} (F:(α→Option β)→α→Option β):Nat→α→Option β
 | 0,_=>none
 | n+1,x=>F (Hr F n) x
theorem SK {P:Program} {specs:List (Nat×aK)} (hX:cT ⟨P,specs,[]⟩) (hmix:P.follows .mixedOrders=true) {f:FuncId} {fn:Func} {ps:List PM} {rs:List RM} (F:(gY ps→Option (dO ps rs))→gY ps→Option (dO ps rs))
 (anns:List (Nat×Ann)) (ar:Option Ty) (hf:P.funcs[f]? =some fn) (hb:aB P f)
 (h:∀ self x,QU ⟨P,(f,⟨ps,rs,self⟩)::specs,[]⟩ anns ar fn ⟨ps,rs,F self⟩ x=F self x):∀ n,aR P f ⟨ps,rs,Hr F n⟩
 | 0=>fun _ _ _ _ _ _ _ _ _ hm _=>by cases hm
 | n+1=>by
  have ih:=SK hX hmix F anns ar hf hb h n
  have hX':cT ⟨P,(f,⟨ps,rs,Hr F n⟩)::specs,[]⟩:=by
   refine⟨fun g sp hg=> ?_,nofun⟩
   rcases ah7.1 hg with e | e
   ·cases e;exact⟨ih,hb⟩
   ·exact hX.fn g sp e
  exact acf (X:=⟨P,(f,⟨ps,rs,Hr F n⟩)::specs,[]⟩) hX' hmix ⟨ps,rs,Hr F (n+1)⟩ anns ar hf (fun x y hm=>(h (Hr F n) x).trans hm)
theorem Y6 {P:Program} {f:FuncId} {ps:List PM} {rs:List RM} {m:Nat→gY ps→Option (dO ps rs)} (h:∀ n,aR P f ⟨ps,rs,m n⟩) (fuel:gY ps→Nat):aR P f ⟨ps,rs,fun x=>m (fuel x) x⟩:=
 fun G w ow args x y hG how ha hm hT=>(h (fuel x) G w ow args x y hG how ha hm hT).mono fun _ _ ⟨G',ow',vs,hg⟩=>⟨G',ow',vs,{ hg with }⟩
theorem Y7 {P:Program} {f:FuncId} {m:gY [.val .str,.val .str]→Option (dO [.val .str,.val .str] [.val .str])}
 (h:∀ (s c r:List UInt8) (w:World),m (s,c,())=some (r,())→Calls P f #[.string (bs s),.string (bs c)] w fun e w'=>e= .returned (.string (bs r))∧RowKit.Below w.heap.size w w'):aR P f ⟨[.val .str,.val .str],[.val .str],m⟩:=by
 intro G w ow args x y hG how ha hm _
 obtain⟨s,c,u⟩:=x
 obtain⟨r,u'⟩:=y
 obtain⟨v,us,h1,_,hv,v',us',h2,_,hv',h3⟩:=ha
 have e1:=h1 rfl
 have e2:=h2 rfl
 have e3:us'=[]:=h3
 have e4:v= .string (bs s):=by simpa [OL,c9,aY] using hv
 have e5:v'= .string (bs c):=by simpa [OL,c9,aY] using hv'
 subst e1;subst e2;subst e3;subst e4;subst e5
 refine (h s c r w hm).mono ?_
 rintro e w' ⟨he,hb⟩
 refine⟨G,fun _=>none,[.string (bs r)], ?_⟩
 exact {
  ret:=he
  le:=Gh.le_refl G
  agr:=fun b o hbo=>by
   have hw:=hG b o hbo
   have hlt:b<w.heap.size:=by
    rcases aiT b w.heap.size with h | h
    ·exact h
    ·rw[Array.getElem?_eq_none h] at hw;cases hw
   rw[hb.block b hlt];exact hw
  size:=hb.size
  os:=hb.os
  output:=hb.output
  old:=fun b hlt _=>⟨hb.block b hlt,rfl⟩
  own:=fun b i hbi=>by cases hbi
  out:=⟨_,_,rfl,rfl,rfl,trivial⟩
  hnd:=fun _=>rfl }
end Go.Dn
namespace Go.Dn
theorem cT.nil (P:Program):cT ⟨P,[],[]⟩:=⟨nofun,nofun⟩
theorem cT.cons {P:Program} {f:FuncId} {sp:aK} {l:List (Nat×aK)} {ks:List (Nat×E5)} (h:aR P f sp) (hb:aB P f) (r:cT ⟨P,l,ks⟩):cT ⟨P,(f,sp)::l,ks⟩:=by
 refine⟨fun g sp' hg=> ?_,r.key⟩
 rcases ah7.1 hg with e | e
 ·cases e;exact⟨h,hb⟩
 ·exact r.fn g sp' e
theorem cT.aaH {P:Program} {f:FuncId} {kf:E5} {l:List (Nat×aK)} {ks:List (Nat×E5)} (h:OM P f kf) (hb:aB P f) (r:cT ⟨P,l,ks⟩):cT ⟨P,l,(f,kf)::ks⟩:=by
 refine⟨r.fn,fun g k' hg=> ?_⟩
 rcases ah7.1 hg with e | e
 ·cases e;exact⟨h,fun _=>hb⟩
 ·exact r.key g k' e
theorem ay {P:Program} {f:FuncId} {fn:Func} (h:P.funcs[f]? =some fn) (hb:fn.body.isSome=true) (hn:fn.name≠ "runtime.NumGoroutine"):aB P f:=⟨fn,h,hb,hn⟩
end Go.Dn
namespace Go.Dn
end Go.Dn
namespace Go.Dn
open Go.ChangeShapes Go.WideShapes Go.ChangeAt Go.RowKit
def Wf:(t:Ty)→t.den→Prop
 | .int k,n=>k.min≤(show Int from n)∧(show Int from n)≤k.max
 | .bool,_=>True
 | .str,s=>List.length s≤maxLen
 | .unit,_=>True
 | .pair a b,x=>Wf a x.1∧Wf b x.2
 | .st t,x=>Wf t x
 | .slice t,l=>List.length l≤maxLen∧∀ x,x∈(show List t.den from l)→Wf t x
 | .ptr _,_=>True
 | .clo _ _,_=>True
 | .hnd,_=>True
def Fits (P:Program):Nat→TypeId→Ty→Bool
 | 0,_,_=>false
 | d+1,T,t=>match P.underlying T,t with
  | some (.int k),.int k'=>decide (k=k')
  | some .bool,.bool=>true
  | some .string,.str=>true
  | some (.slice e),.slice t=>Nat.ble 1 t.size&&(Nat.beq (P.cellsOf e) t.size&&Fits P d e t)
  | some (.struct fs),.st t=>Nat.beq (P.cellsOf T) t.size&&fitsF (Fits P d) P fs.toList 0 t
  | _,_=>false
where
 fitsF (g:TypeId→Ty→Bool) (P:Program):List Field→Nat→Ty→Bool
 | [],_,_=>false
 | [f],off,t=>Nat.beq f.offset off&&(Nat.beq (P.cellsOf f.type) t.size&&g f.type t)
 | f::r,off,.pair a b=>Nat.beq f.offset off&&(Nat.beq (P.cellsOf f.type) a.size&&(g f.type a&&fitsF g P r (off+a.size) b))
 | _,_,_=>false
def Gw (w:World):Gh:=⟨fun b=>w.heap[b]?,fun _=>none⟩
theorem afp (w:World):Agr (Gw w) w:=fun _ _ h=>h
theorem P6 {w:World} {base:Nat} {a:Addr} {n:Nat} {cs:List Value} (hn:0<n) (h:w.cells? base a n=some cs):
 ∃ c T fz,a.spot=none∧w.heap[a.block]? =some (.cells c T fz)∧a.off+n≤c.size∧cs=(c.toList.drop a.off).take n:=by
 obtain⟨_,hl,hc⟩:=World.cells?_some h
 have h0:=hc 0 hn
 have hlt:0<cs.length:=by omega
 rw[ahF hlt,show a.add 0=a from rfl] at h0
 unfold World.cell? at h0
 split at h0
 ·rename_i c T fz hb
  split at h0
  ·cases h0
  ·rename_i hs
   have hspot:a.spot=none:=by simpa using hs
   have hall:∀ i,i<n→c[a.off+i]? =cs[i]? :=by
    intro i hi
    have:=hc i hi
    rw[← this]
    unfold World.cell? Addr.add
    by_cases h:i=0
    ·subst h;simp[hb,hspot]
    ·simp[h,hb]
   refine⟨c,T,fz,hspot,hb, ?_, ?_⟩
   ·have h1:=hall (n - 1) (by omega)
    rw[ahF (show n - 1<cs.length by omega)] at h1
    have:=(ags.1 h1).1
    omega
   ·apply aht
    intro i
    rw[ahO,ahE]
    by_cases hi:i<n
    ·rw[ajz hi, ← hall i hi];simp
    ·rw[ajy hi,ahG (by omega)]
 ·cases h0
section
variable {H:Type} {enc:TypeId×Value→H} {P:Program} {w:World} {base:Nat} {spare:Nat→Bool} {held:Bool}
theorem aag {α:Type} {R:α→List Value→Prop} {sz:Nat} {c:List Value} {y:Nat→α} (off:Nat):∀ n,off+n*sz≤c.length→(∀ i,i<n→R (y i) ((c.drop (off+i*sz)).take sz))→dD R ((List.range n).map y) ((c.drop off).take (n*sz))
 | 0,_,_=>by simp[dD]
 | n+1,hle,h=>by
  rw[List.range_succ,ah0,List.map_singleton]
  have e:(c.drop off).take ((n+1)*sz)=(c.drop off).take (n*sz)++(c.drop (off+n*sz)).take sz:=by
   rw[aiF,ai3,List.take_add,ahn]
  rw[e]
  refine dD.append (aag off n (by rw[aiF] at hle;omega) fun i hi=>h i (by omega)) ?_
  exact⟨_,[],by simp,h n (by omega),rfl⟩
theorem Z5:∀ (d:Nat) (T:TypeId) (t:Ty) (fuel:Nat) (cs:List Value) (x:DataW H×List MemPlace),Fits P d T t=true→DataW.trod enc P w base spare held fuel T cs=some x→
 ∃ y:t.den,aY (Gw w) t y cs∧Wf t y
 | 0,_,_,_,_,_,hf,_=>by cases hf
 | d+1,T,t,fuel,cs,x,hf,h=>by
  have ih:=fun T t fuel cs x=>Z5 d T t fuel cs x
  unfold Fits at hf
  split at hf
  ·rename_i k k' hu
   obtain rfl:k=k':=ajF hf
   obtain⟨n,rfl,_,hw⟩:=DataW.trod_int hu h
   refine⟨n,rfl, ?_⟩
   simp only[Lit.wf,agC,ajs] at hw
   exact hw
  ·rename_i hu
   obtain⟨b,rfl,_⟩:=DataW.trod_bool hu h
   exact⟨b,rfl,trivial⟩
  ·rename_i hu
   obtain⟨s,rfl,_,hw⟩:=DataW.trod_string hu h
   refine⟨s.data.toList, ?_,hw⟩
   simp[aY,bs]
  ·rename_i e t hu
   simp only[agC] at hf
   have hsz:0<t.size:=aiL hf.1
   have hce:P.cellsOf e=t.size:=aiJ hf.2.1
   rcases DataW.trod_slice hu h with ⟨rfl,_⟩ | ⟨a,len,cap,elems,rest,n,_,rfl,_,_,hl,hm,hlen,hel,_⟩
   ·exact⟨[],⟨_,rfl,none,0,rfl,aiN _,ai8 _,.inl rfl⟩,⟨ai8 _,fun x hx=>by cases hx⟩⟩
   ·have hone:∀ i,i<len→∃ y:t.den,(∃ cs',w.cells? base (a.add (i*t.size)) t.size=some cs'∧aY (Gw w) t y cs')∧Wf t y:=by
     intro i hi
     have h1:=hel i hi
     rw[ahF (by omega),hce] at h1
     obtain⟨cs',h2,h3⟩:=Option.bind_eq_some_iff.1 h1
     obtain⟨y,h4,h5⟩:=ih e t n cs' _ hf.2.2 h3
     exact⟨y,⟨cs',h2,h4⟩,h5⟩
    by_cases h0:len=0
    ·subst h0
     exact⟨[],⟨_,rfl,some a,cap,rfl,ai8 _,hm,.inl rfl⟩,⟨ai8 _,fun x hx=>by cases hx⟩⟩
    ·obtain⟨y0,_,_⟩:=hone 0 (by omega)
     have:∃ y:Nat→t.den,∀ i,i<len→(∃ cs',w.cells? base (a.add (i*t.size)) t.size=some cs'∧aY (Gw w) t (y i) cs')∧Wf t (y i):=by
      classical
      refine⟨fun i=>if hi:i<len then Classical.choose (hone i hi) else y0,fun i hi=> ?_⟩
      simp only[dif_pos hi]
      exact Classical.choose_spec (hone i hi)
     obtain⟨y,hy⟩:=this
     obtain⟨⟨cs0,hc0,_⟩,_⟩:=hy 0 (by omega)
     rw[aja,show a.add 0=a from rfl] at hc0
     obtain⟨c,T',fz,hspot,hb,_,_⟩:=P6 hsz hc0
     have hat:∀ i,i<len→a.off+i*t.size+t.size≤c.size∧aY (Gw w) t (y i) ((c.toList.drop (a.off+i*t.size)).take t.size):=by
      intro i hi
      obtain⟨⟨cs',h1,h2⟩,_⟩:=hy i hi
      obtain⟨c',T2,fz2,h3,h4,h5,h6⟩:=P6 hsz h1
      have hblk:(a.add (i*t.size)).block=a.block:=by unfold Addr.add;split<;>rfl
      have hoff:(a.add (i*t.size)).off=a.off+i*t.size:=by
       unfold Addr.add;split
       ·rename_i hz;rw[hz];rfl
       ·rfl
      rw[hblk,hb] at h4
      cases h4
      rw[hoff] at h5 h6
      exact⟨h5,h6 ▸ h2⟩
     have hend:a.off+len*t.size≤c.size:=by
      have:=(hat (len - 1) (by omega)).1
      have e:len*t.size=(len - 1)*t.size+t.size:=by
       conv=>lhs;rw[show len=len - 1+1 by omega]
       rw[aiF,ai3]
      omega
     refine⟨(List.range len).map y,⟨_,rfl,some a,cap,by simp,by simpa using hl,hm,.inr ⟨a.block,a.off,c,T',fz, ?_,hb,by simpa using hend, ?_⟩⟩,⟨by simp only[ahU,ahX];omega,fun x hx=> ?_⟩⟩
     ·congr 1;cases a;cases hspot;rfl
     ·have:=aag (R:=aY (Gw w) t) (y:=y) (c:=c.toList) (sz:=t.size) a.off len (by simpa using hend) fun i hi=>(hat i hi).2
      simpa using this
     ·obtain⟨i,hi,rfl⟩:=aid.1 hx
      exact (hy i (by simpa using hi)).2
  ·rename_i fs t hu
   simp only[agC] at hf
   obtain⟨xs,n,_,_,hlen,hxl,hx⟩:=DataW.trod_struct hu h
   have hct:P.cellsOf T=t.size:=aiJ hf.1
   have key:∀ (l:List Field) (k off:Nat) (t:Ty),fs.toList.drop k=l→Fits.fitsF (Fits P d) P l off t=true→off+t.size≤cs.length→
    ∃ y:t.den,aY (Gw w) t y ((cs.drop off).take t.size)∧Wf t y:=by
    intro l
    induction l with
    | nil=>intro k off t _ h2;cases h2
    | cons f r ihl=>
     intro k off t hk h2 hle
     have hfk:fs[k]? =some f:=by
      have:=congrArg (·[0]?) hk
      simpa [ahE] using this
     have hxk:=hx k f hfk
     have hkl:k<xs.length:=by rw[hxl];exact (ags.1 hfk).1
     rw[ahF hkl] at hxk
     have hdr:fs.toList.drop (k+1)=r:=by
      have:=congrArg List.tail hk
      simpa [aix] using this
     cases r with
     | nil=>
      simp only[Fits.fitsF,agC] at h2
      obtain⟨h3,h4,h5⟩:=h2
      rw[aiJ h3,aiJ h4] at hxk
      exact ih f.type t n _ _ h5 hxk
     | cons f' r'=>
      obtain⟨a,b,rfl⟩:∃ a b,t= .pair a b:=by
       cases t with
       | pair a b=>exact⟨a,b,rfl⟩
       | _=>simp[Fits.fitsF] at h2
      simp only[Fits.fitsF,agC] at h2
      obtain⟨h3,h4,h5,h6⟩:=h2
      rw[aiJ h3,aiJ h4] at hxk
      obtain⟨y1,g1,g2⟩:=ih f.type a n _ _ h5 hxk
      simp only[Ty.size] at hle
      obtain⟨y2,g3,g4⟩:=ihl (k+1) (off+a.size) b hdr h6 (by omega)
      refine⟨(y1,y2),⟨_,_, ?_,g1,g3⟩,⟨g2,g4⟩⟩
      simp only[Ty.size]
      rw[List.take_add,ahn]
   obtain⟨y,h1,h2⟩:=key fs.toList 0 0 t rfl hf.2 (by omega)
   refine⟨y, ?_,h2⟩
   rw[ahq,aiC (by omega)] at h1
   exact h1
  ·cases hf
theorem adV {r:Reach} {b0:Nat} {d:Nat} {T:TypeId} {t:Ty} {v:Value} {dd:DataW H} {ps:List MemPlace} (hf:Fits P d T t=true) (hval:Value.okWide P w r b0 T v) (h:DataW.Trod enc P w base spare held T v dd ps):
 ∃ y:t.den,c9 (Gw w) t y v∧Wf t y:=by
 obtain⟨fuel,h⟩:=h
 obtain⟨y,h1,h2⟩:=Z5 d T t fuel _ _ hf h
 refine⟨y, ?_,h2⟩
 cases d with
 | zero=>cases hf
 | succ d=>
  unfold Fits at hf
  split at hf
  ·rename_i hu;obtain⟨n,rfl⟩:=okWide_int hu hval;exact h1
  ·rename_i hu;obtain⟨n,rfl⟩:=okWide_bool hu hval;exact h1
  ·rename_i hu;obtain⟨n,rfl⟩:=okWide_string hu hval;exact h1
  ·rename_i hu;obtain⟨a,len,cap,rfl⟩:=okWide_slice hu hval;exact h1
  ·rename_i hu;obtain⟨c,rfl,_⟩:=okWide_struct hu hval;exact⟨c.toList,by simp,h1⟩
  ·cases hf
end
def pms:List Ty→List PM
 | []=>[]
 | t::r=> .val t::pms r
def aav:(ts:List Ty)→gY (pms ts)→Prop
 | [],_=>True
 | t::r,x=>Wf t x.1∧aav r x.2
def OV (P:Program):List TypeId→List Ty→Bool
 | [],[]=>true
 | T::r,t::q=>Fits P 9 T t&&OV P r q
 | _,_=>false
theorem VB {H:Type} {enc:TypeId×Value→H} {P:Program} {w:World} {base:Nat} {spare:Nat→Bool} {held:Bool} {r:Reach} {b0:Nat}:∀ {Ts:List TypeId} {ts:List Ty} {vs:List Value} {ds:List (DataW H)} {ps:List MemPlace} {i:Nat},OV P Ts ts=true→
 (∀ (j:Nat) t v,Ts[j]? =some t→vs[j]? =some v→Value.okWide P w r b0 t v)→DataW.TrodAll enc P w base spare held Ts vs ds ps→
 ∃ x,kN (Gw w) w (fun _=>none) i (pms ts) x vs∧aav ts x
 | [],[],[],[],_,_,_,_,_=>⟨(),rfl,trivial⟩
 | T::Ts,t::ts,v::vs,d::ds,ps,i,hf,hv,⟨p,q,h1,h2,_⟩=>by
  simp only[OV,agC] at hf
  obtain⟨y,h3,h4⟩:=adV hf.1 (hv 0 T v rfl rfl) h1
  obtain⟨x,h5,h6⟩:=VB (i:=i+1) hf.2 (fun j t v ht hv'=>hv (j+1) t v ht hv') h2
  exact⟨(y,x),⟨v,vs,fun _=>rfl,fun h=>absurd h (by simp[PM.arg]),h3,h5⟩,⟨h4,h6⟩⟩
theorem law_calls {P:Program} {f:FuncId} {fn:Func} {ts:List Ty} {m:gY (pms ts)→Option (dO (pms ts) [.val .bool])} (ok:aR P f ⟨pms ts,[.val .bool],m⟩)
 (hm:∀ x,aav ts x→∃ y,m x=some (true,y)) (hfit:OV P fn.params.toList ts=true) {tb:TypeId} (hres:fn.resultTypes= #[tb]) (htb:P.underlying tb=some .bool)
 (kids:Kids P (· <P.types.size)) (full:∀ t e,t<P.types.size→P.underlying t=some (.slice e)→0<P.cellsOf e) (hlt:∀ t∈fn.params.toList,t<P.types.size)
 {H:Type} {enc:TypeId×Value→H} {s:ChangeSpec} (hvars:s.vars=[]) {W:World} (hT:CE P (Gw W)) {base:Nat} {args:Array Value} {ds gs:List (DataW H)} {before:List MemPlace}
 (hspec:s.fn H (ds++[])={ results:=[.lit (.bool true)],args:=ds })
 (hval:∀ (j:Nat) t v,fn.params[j]? =some t→args[j]? =some v→Value.okWide P W .any base t v)
 (hW:DataW.Whole enc P fn.params.toList s.vars false W args.toList ds gs before):
 Calls P f args W fun e W'=>∃ v,e= .returned v∧s.post enc P fn false true false false W args v W':=by
 have hW':=hW
 obtain⟨p,q,hA,hV,hpq,hfz,hnd⟩:=hW
 rw[hvars] at hV
 have hg:gs=[]∧q=[]:=by
  cases gs with
  | nil=>exact⟨rfl,hV⟩
  | cons g gs=>exact absurd hV (by simp[DataW.TrodVars])
 obtain⟨rfl,rfl⟩:=hg
 rw[ahj] at hpq
 subst hpq
 obtain⟨x,hx,hwf⟩:=VB (i:=0) hfit (fun j t v ht hv=>hval j t v (by simpa using ht) (by simpa using hv)) hA
 obtain⟨y,hy⟩:=hm x hwf
 refine (ok (Gw W) W (fun _=>none) args.toList x (true,y) (afp W) (fun _ _ h=>by cases h) hx hy hT).mono ?_
 rintro e W' ⟨G',ow',vs,hgv⟩
 have hold:∀ b,b<W.heap.size→W'.heap[b]? =W.heap[b]? :=fun b hb=>(hgv.old b hb rfl).1
 have hplt:=hW'.lt
 obtain⟨v,us,rfl,hv,hus,_⟩:=hgv.out
 subst hus
 have hv':v= .bool true:=by simpa [aau,c9,aY] using hv
 subst hv'
 refine⟨.bool true,hgv.ret,ds,[],before,[],before,[],hW', ?_, ?_, ?_, ?_,fun h=>by cases h⟩
 ·rw[hspec,hres]
  exact trodAll_mk1 (shut_bool htb true)
 ·rw[hspec]
  have hsame:∀ z,z∈before→W.sameAt W' z:=by
   intro z hz
   have:=hplt z hz
   cases z with
   | cell b off=>simp only[World.sameAt,World.cell?];rw[hold b this]
   | map b=>exact hold b this
  have hre:=DataW.TrodAll.respare (spare':=fun b=>decide (b<W.heap.size)) kids full hlt hA (fun z hz=>by simpa using hplt z hz)
  have hcar:∀ {Ts:List TypeId} {vs:List Value} {ds:List (DataW H)} {ps:List MemPlace},DataW.TrodAll enc P W 0 (fun b=>decide (b<W.heap.size)) true Ts vs ds ps→(∀ z,z∈ps→W.sameAt W' z)→DataW.TrodAll enc P W' 0 (fun b=>decide (b<W.heap.size)) true Ts vs ds ps:=by
   intro Ts
   induction Ts with
   | nil=>
    intro vs ds ps h _
    cases vs<;>cases ds<;>first | exact h | exact absurd h (by simp[DataW.TrodAll])
   | cons T Ts ih=>
    intro vs ds ps h hs
    cases vs with
    | nil=>cases ds<;>exact absurd h (by simp[DataW.TrodAll])
    | cons v vs=>cases ds with
    | nil=>exact absurd h (by simp[DataW.TrodAll])
    | cons d ds=>
    obtain⟨p,q,⟨n,h1⟩,h2,rfl⟩:=h
    exact⟨p,q,⟨n,DataW.trod_carry n _ _ _ h1 fun z hz=>hs z (List.mem_append_left _ hz)⟩,ih h2 (fun z hz=>hs z (List.mem_append_right _ hz)),rfl⟩
  exact hcar hre hsame
 ·rw[hspec,hvars];rfl
 ·refine⟨hgv.os,hgv.output,fun i hi=> ?_⟩
  rw[hold i hi]
  cases hh:W.heap[i]? with
  | none=>trivial
  | some o=>cases o<;>simp[World.keptBut]
end Go.Dn
namespace Go.Dn
theorem Qs {H:Type} {enc:TypeId×Value→H} {P:Program} {w:World} {base:Nat} {spare:Nat→Bool} {held:Bool}:∀ {Ts:List TypeId} {vs:List Value} {ds:List (DataW H)} {ps:List MemPlace},DataW.TrodAll enc P w base spare held Ts vs ds ps→ds.length=Ts.length
 | [],[],[],_,_=>rfl
 | _::_,_::_,_::_,_,⟨_,_,_,h,_⟩=>by rw[ahT,ahT,Qs h]
def aei:Nat→DataW Unit→List Value
 | d+1,.agg l=>l.flatMap (aei d)
 | _,.lit (.int k n)=>[.int k n]
 | _,.lit (.bool b)=>[.bool b]
 | _,_=>[]
def afD (P:Program) (l:List (String×DataW Unit)) (w:World):World:=
 l.foldl (fun w p=>match P.globalNamed p.1 with
  | some g=>{ w with heap:=w.heap.modify g fun
   | .cells _ t fr=> .cells (aei 9 p.2).toArray t fr
   | o=>o }
  | none=>w) w
end Go.Dn
namespace Go.Dn
open Go.Proofs Go.Shelf
section
variable {P:Program} {G:Gh} {w w':World} {ow:Nat→Option Nat} {e:TypeId}
end
end Go.Dn
namespace Go.Dn
theorem acg {P:Program} {f:FuncId} {t:Ty} {m:gY [.val .str,.val .str]→Option (dO [.val .str,.val .str] [.val t])}
 (h:∀ (s c:List UInt8) (r:t.den) (w:World),m (s,c,())=some (r,())→∃ v,(∀ G:Gh,c9 G t r v)∧Calls P f #[.string (bs s),.string (bs c)] w fun e w'=>e= .returned v∧RowKit.Below w.heap.size w w'):aR P f ⟨[.val .str,.val .str],[.val t],m⟩:=by
 intro G w ow args x y hG how ha hm _
 obtain⟨s,c,u⟩:=x
 obtain⟨r,u'⟩:=y
 obtain⟨v,us,h1,_,hv,v',us',h2,_,hv',h3⟩:=ha
 have e1:=h1 rfl
 have e2:=h2 rfl
 have e3:us'=[]:=h3
 have e4:v= .string (bs s):=by simpa [OL,c9,aY] using hv
 have e5:v'= .string (bs c):=by simpa [OL,c9,aY] using hv'
 subst e1;subst e2;subst e3;subst e4;subst e5
 obtain⟨z,hz,hc⟩:=h s c r w hm
 refine hc.mono ?_
 rintro e w' ⟨he,hb⟩
 refine⟨G,fun _=>none,[z], ?_⟩
 exact {
  ret:=he
  le:=Gh.le_refl G
  agr:=fun b o hbo=>by
   have hw:=hG b o hbo
   have hlt:b<w.heap.size:=by
    rcases aiT b w.heap.size with h | h
    ·exact h
    ·rw[Array.getElem?_eq_none h] at hw;cases hw
   rw[hb.block b hlt];exact hw
  size:=hb.size
  os:=hb.os
  output:=hb.output
  old:=fun b hlt _=>⟨hb.block b hlt,rfl⟩
  own:=fun b i hbi=>by cases hbi
  out:=⟨_,_,rfl,hz G,rfl,trivial⟩
  hnd:=fun _=>rfl }
end Go.Dn
namespace Go.Dn
end Go.Dn
namespace Go.Dn
open Go.Proofs Go.Shelf
section
variable {P:Program} {G:Gh} {w w':World} {ow:Nat→Option Nat} {e:TypeId} {t:Ty}
end
end Go.Dn
namespace Go.Dn
end Go.Dn
namespace Go.Dn
open Go.Proofs Go.Shelf Go.Sort Go.RowKit Go.Lib
theorem flat_get {α:Type} [Inhabited α] {enc:α→List Value} {k:Nat} (hk:∀ x,(enc x).length=k):∀ (l:List α) (j:Nat),j<l.length*k→(l.flatMap enc)[j]? =some ((enc l[j / k]!)[j % k]!)
 | [],j,h=>by simp at h
 | x::l,j,h=>by
  have hk0:0<k:=by
   rcases aiK k with h0 | h0
   ·subst h0;simp at h
   ·exact h0
  rw[List.flatMap_cons]
  by_cases hj:j<k
  ·rw[ahA (by rw[hk];exact hj),aiH hj,aiX hj]
   have h1:j<(enc x).length:=by rw[hk];exact hj
   simp[h1]
  ·have h1:k≤j:=by omega
   rw[ahB (by rw[hk];exact h1),hk]
   have h2:j - k<l.length*k:=by
    rw[ahT,aiF,ai3] at h
    omega
   rw[flat_get hk l (j - k) h2]
   have e1:j / k=(j - k) / k+1:=by
    conv=>lhs;rw[show j=j - k+k from by omega]
    rw[Nat.add_div_right _ hk0]
   have e2:j % k=(j - k) % k:=by
    conv=>lhs;rw[show j=j - k+k from by omega]
    rw[Nat.add_mod_right]
   rw[e1,e2]
   simp
section
variable {P:Program}
end
end Go.Dn
namespace Go.Dn
open Go.Lib Go.Proofs
theorem afk {P:Program} {W:World} {g:Nat} {t:TypeId} {zero:Array Value} (h:W.ShapedOpen P) (hg:P.globalNamed "internal/bytealg.MaxLen" =some g) (hlt:g<P.globals.size)
 (h0:((begin P (fun _ _=>0) default).world.heap[g]?).bind Obj.row? =some (zero,t)) (hz:zero.size=1)
 (hb:P.buildable t=true) (hc:P.cellTypes P.depth t=some [t]) (hu:P.underlying t=some (.int .i64)):
 ∀ g,P.globalNamed "internal/bytealg.MaxLen" =some g→∃ n T fz,Gw W g=some (.cells #[Value.int .i64 n] T fz):=by
 intro g' hg'
 obtain rfl:g=g':=Option.some.inj (hg.symm.trans hg')
 obtain⟨m,hm⟩:=cell_of_shapedOpen_int h hlt h0 hz hb hc hu
 obtain⟨cs,hh,hs,_⟩:=h.1 g zero t hlt h0
 have h1:cs.size=1:=by omega
 refine⟨m,t,(0,0), ?_⟩
 show W.heap[g]? =_
 rw[hh]
 have:cs= #[cs[0]]:=by
  apply Array.ext
  ·simpa using h1
  ·intro i h2 h3
   have:i=0:=by omega
   subst this
   rfl
 have hcell:W.cell? ⟨g,0,none⟩=some cs[0]:=by simp[World.cell?,hh,h1]
 rw[hm] at hcell
 rw[this, ← Option.some.inj hcell]
end Go.Dn
namespace Go.Dn
open Go.ChangeShapes Go.WideShapes Go.ChangeAt Go.RowKit
section
variable {H:Type} {enc:TypeId×Value→H} {P:Program} {w:World} {base:Nat} {spare:Nat→Bool} {held:Bool}
end
end Go.Dn
namespace Go.Dn
open Go.Proofs Go.Shelf Go.RowKit Go.Lib
structure agm (P:Program) (ρ:Ren) (k bytes:Nat) (z:Value):Prop where
 mixed:P.follows .mixedOrders=true
 f22:Bears P (ρ.f 22) (Body2.n22 ρ)
 f29:∃ fn,P.funcs[ρ.f 29]? =some fn∧(fn.name== "runtime.NumGoroutine")=false∧fn.body.isNone=true∧Extern.findNext fn=none∧Extern.find fn=some (Extern.SlicesOverlaps.overlaps #[(ρ.t 24),(ρ.t 24)] #[(ρ.t 4)])
 t0:P.underlying (ρ.t 0)=some (TypeDesc.tuple #[])
 a0:∀ w,(isAgg (ρ.t 0)).run P w= .ok false w
 z0:∀ w,(Go.sizeOf (ρ.t 0)).run P w= .ok 1 w
 v0:∀ w,(zeroValue (ρ.t 0)).run P w= .ok (Value.tuple #[]) w
 t3:P.underlying (ρ.t 3)=some (TypeDesc.int IntKind.i64)
 a3:∀ w,(isAgg (ρ.t 3)).run P w= .ok false w
 z3:∀ w,(Go.sizeOf (ρ.t 3)).run P w= .ok 1 w
 v3:∀ w,(zeroValue (ρ.t 3)).run P w= .ok (Value.int IntKind.i64 0) w
 t4:P.underlying (ρ.t 4)=some (TypeDesc.bool)
 a4:∀ w,(isAgg (ρ.t 4)).run P w= .ok false w
 z4:∀ w,(Go.sizeOf (ρ.t 4)).run P w= .ok 1 w
 v4:∀ w,(zeroValue (ρ.t 4)).run P w= .ok (Value.bool false) w
 z9:∀ w,(Go.sizeOf (ρ.t 9)).run P w= .ok k w
 t24:P.underlying (ρ.t 24)=some (TypeDesc.slice (ρ.t 9))
 a24:∀ w,(isAgg (ρ.t 24)).run P w= .ok false w
 z24:∀ w,(Go.sizeOf (ρ.t 24)).run P w= .ok 1 w
 v24:∀ w,(zeroValue (ρ.t 24)).run P w= .ok (Value.slice none 0 0) w
 i9:(P.info? (ρ.t 9)).map (fun i=>(i.zero,i.size,i.bytes))=some (some z,k,bytes)
 k0:0<k
 zc:z.cells.size=k
variable {P:Program} {ρ:Ren} {k bytes:Nat} {z:Value}
end Go.Dn
namespace Go.Dn
end Go.Dn
namespace Go.Dn
open Go.Proofs Go.Shelf Go.RowKit Go.Lib
section
variable {P:Program} {G:Gh} {w w':World} {ow:Nat→Option Nat} {e:TypeId} {t:Ty}
end
end Go.Dn
namespace Go.Dn
def aga (l:List Int):Option (List Int×Unit):=bif decide (l.length<4294967296) then some (l.mergeSort fun x y=>decide (x≤y),()) else none
end Go.Dn
namespace Go.Dn
open Go.Proofs Go.Shelf Go.Sort
section
variable {P:Program}
end
end Go.Dn
namespace Go.Dn
end Go.Dn
namespace Go.Dn
variable {X:Cx}
theorem BF:∀ {ps:List PM} {p i:Nat} {x:gY ps},nt ps p=true→(iT i ps x)[p]? =some (.v false [.ref (2000+(i+p)) 0])
 | [],_,_,_,h=>by simp[nt] at h
 | .box _::_,0,i,x,_=>by simp[iT]
 | .val _::r,n+1,i,x,h=>by
  have h':nt r n=true:=by simpa [nt,PM.arg] using h
  have:=BF (ps:=r) (p:=n) (i:=i+1) (x:=x.2) h'
  simp only[iT,ahC];rw[this];congr 4;omega
 | .row _ _::r,n+1,i,x,h=>by
  have h':nt r n=true:=by simpa [nt,PM.arg] using h
  have:=BF (ps:=r) (p:=n) (i:=i+1) (x:=x.2) h'
  simp only[iT,ahC];rw[this];congr 4;omega
 | .mrow _ _::r,n+1,i,x,h=>by
  have h':nt r n=true:=by simpa [nt,PM.arg] using h
  have:=BF (ps:=r) (p:=n) (i:=i+1) (x:=x.2) h'
  simp only[iT,ahC];rw[this];congr 4;omega
 | .map _ _::r,n+1,i,x,h=>by
  have h':nt r n=true:=by simpa [nt,PM.arg] using h
  have:=BF (ps:=r) (p:=n) (i:=i+1) (x:=x.2) h'
  simp only[iT,ahC];rw[this];congr 4;omega
 | .box _::r,n+1,i,x,h=>by
  have h':nt r n=true:=by simpa [nt,PM.arg] using h
  have:=BF (ps:=r) (p:=n) (i:=i+1) (x:=x.2) h'
  simp only[iT,ahC];rw[this];congr 4;omega
 | .ar _::r,n+1,i,x,h=>by simp[nt,PM.arg] at h
 | .arR _::r,n+1,i,x,h=>by simp[nt,PM.arg] at h
 | .val _::_,0,_,_,h=>by simp[nt] at h
 | .row _ _::_,0,_,_,h=>by simp[nt] at h
 | .mrow _ _::_,0,_,_,h=>by simp[nt] at h
 | .map _ _::_,0,_,_,h=>by simp[nt] at h
 | .ar _::_,0,_,_,h=>by simp[nt] at h
 | .arR _::_,0,_,_,h=>by simp[nt] at h
theorem ae3 (hX:cT X) (hmix:X.P.follows .mixedOrders=true) {f:FuncId} {fn:Func} (sp:aK) (p:Nat) (anns:List (Nat×Ann)) (hf:X.P.funcs[f]? =some fn)
 (h:∀ x y,sp.m x=some y→adw X anns fn sp p x=some y):OM X.P f (.nest p sp):=by
 intro G w ow args x y bm v T hG how hargs hm hT hpv hbo hGb hbh
 have hN:=h x y hm
 unfold adw at hN
 split at hN
 ·cases hN
 ·rename_i hcond
  simp only[agP,ajE,agK,agJ,Option.isSome_eq_false_iff,ajd] at hcond
  obtain⟨⟨⟨hdO,hdC⟩,hnp⟩,hni⟩:=hcond
  split at hN
  ·rename_i c hc
   obtain⟨vals,hvals,hpt,hst⟩:=pY hargs
   let pv:Nat→Value:=fun k=>match cD vals (.inr k) with | some v=>v | none=>(cD vals (.ob k)).getD undef
   let ρ:Env:=⟨fun k=>if k=ji then bm else match cD vals (.inl k) with | some v=>FE v | none=>0,pv,fun b=>if b=bm then some (.inl ji) else (ow b).bind (mO (dJ 0 sp.ps)),pv,fun k=>Dd w (pv k)⟩
   have hA:∀ o v,(o,v)∈vals→Asg ρ w o v:=fun o v hm=>by
    have hl:=G7 hvals hdO hm
    cases o with
    | inl k=>
     obtain⟨b,hb⟩:=hpt k v hm
     have hne:k≠ji:=fun e=>by
      obtain⟨n,hn⟩:=zM hvals (o:= .inl k) (by rw[hl];simp)
      rw[e] at hn
      have:=qJ hdO hn
      rw[hni] at this;cases this
     show v= .pointer (some ⟨if k=ji then bm else match cD vals (.inl k) with | some v=>FE v | none=>0,0,none⟩)
     rw[ajy hne,hl,hb];rfl
    | inr j=>show (match cD vals (.inr j) with | some v=>v | none=>_)=v;rw[hl]
    | ob j=>
     intro b hb
     subst hb
     have hnr:cD vals (.inr j)=none:=by
      cases h1:cD vals (.inr j) with
      | none=>rfl
      | some v'=>
       obtain⟨n1,m1⟩:=zM hvals (by rw[h1];simp)
       obtain⟨n2,m2⟩:=zM hvals (o:= .ob j) (by rw[hl];simp)
       rcases yZ m1 with ⟨k,e⟩ | e | e
       ·cases e
       ·cases e
       ·rcases yZ m2 with ⟨k,e'⟩ | e' | e'
        ·cases e'
        ·cases e'
         rcases e with e | e
         ·have:bR=nid pD 0 0+n1:=by simpa using e
          simp only[bR,pD,nid] at this;omega
         ·cases e
        ·have h1:j=nid pD 0 0+n1:=by rcases e with e | e<;>cases e;rfl
         have h2:j=nid pD 0 0+n2:=by rcases e' with e' | e'<;>cases e';rfl
         have:n1=n2:=by omega
         subst this
         have:=P7 hdC m1 m2
         cases this
     have hpv:pv j= .map (some b):=by
      show (match cD vals (.inr j) with | some v=>v | none=>(cD vals (.ob j)).getD undef)=_
      rw[hnr,hl];rfl
     refine⟨hpv,fun es clock hw i e' hi=> ?_⟩
     show (e'.born:Int)=Dd w (pv j) i
     rw[hpv]
     simp[Dd,hw,hi]
   have hO:∀ o n,(o,n)∈dJ 0 sp.ps→∀ b,ow b=some n→ρ.own b=some o:=fun o n hm b hb=>by
    show (if b=bm then some (.inl ji) else (ow b).bind (mO (dJ 0 sp.ps)))=_
    rw[ajy (fun e=>by rw[e,hbo] at hb;cases hb),hb];exact zG hdC hm
   obtain⟨hsv,hP,hpins⟩:=hst ρ hA hO
   let C:Fr X.P:=⟨w.heap.size,ρ.bx,pv,fun b=>ow b≠none∨b=bm,w,G,mm sp.ps=false,hT⟩
   have hlen:args.length=zN sp.ps:=by rw[hsv.len,jY]
   have ebx:ρ.bx ji=bm:=by
    show (if ji=ji then bm else match cD vals (.inl ji) with | some v=>FE v | none=>0)=bm
    rw[ajz rfl]
   have eow:ρ.own bm=some (.inl ji):=by
    show (if bm=bm then some (bK.inl ji) else (ow bm).bind (mO (dJ 0 sp.ps)))=_
    rw[ajz rfl]
   have hbl:=eZ hbh
   have hpl:p<args.length:=(ahH.1 hpv).1
   have hM:Mod C G ρ (Oe fn.ntmps p sp.ps x) w { tmps:=(args.set p (.pointer (some ⟨bm,0,none⟩))).toArray++Array.replicate (fn.ntmps - (args.set p (.pointer (some ⟨bm,0,none⟩))).toArray.size) undef,defers:=[] }:=by
    refine { agr:=hG,le0:=Gh.le_refl G,old:=fun _ _ _=>rfl,frame:=fun _ _ _=>rfl,size:=aiN _,os:=rfl,output:=rfl,pin:=fun _ _=>rfl,pinR:=fun _ _=>⟨rfl,rfl⟩,owned:= ?_,boxes:= ?_,rows:=hP.rw,objs:=hP.ob,hndI:= ?_,tmps:=⟨?_, ?_⟩,defers:=rfl }
    ·intro b o ho
     by_cases e:b=bm
     ·subst e;exact⟨hGb,hbl,.inr (.inr rfl)⟩
     cases hb:ow b with
     | none=>
      have ho':(if b=bm then some (.inl ji) else (ow b).bind (mO (dJ 0 sp.ps)))=some o:=ho
      rw[ajy e,hb] at ho';cases ho'
     | some i=>exact⟨(how b i hb).1,(how b i hb).2,.inr (.inl (by rw[hb];simp))⟩
    ·intro k cs hk
     simp only[Oe,aM] at hk
     split at hk
     ·rename_i ek
      subst ek
      cases hk
      refine⟨?_,[v],T, ?_,⟨v,[],rfl, ?_,rfl⟩⟩
      ·rw[ebx];exact eow
      ·rw[ebx];exact hbh
      ·obtain⟨u,hu,hud⟩:=hsv.get (BF (i:=0) (x:=x) hnp)
       rw[hpv] at hu
       cases hu
       have:v= .pointer (some ⟨ρ.bx (2000+(0+p)),0,none⟩):=hud
       show v= .pointer (some ⟨ρ.bx (2000+p),0,none⟩)
       rw[this,ai7]
     ·exact hP.bx k cs hk
    ·intro h1
     exact⟨rfl,fun t l=>sX h1⟩
    ·simp[Oe,jY,hlen]
    ·intro i s hi
     simp only[Oe] at hi
     rw[ahL] at hi
     rw[agp,Array.getElem?_append]
     split at hi
     ·rename_i e
      subst e
      split at hi
      ·cases hi
       rw[ajz (by simpa using hpl)]
       show bM G ρ (.v false [.ref ji 0]) _
       show _=Value.pointer (some ⟨ρ.bx ji,0,none⟩)
       rw[ebx]
       simp[hpl]
      ·cases hi
     ·rename_i hne
      rw[ahz] at hi
      split at hi
      ·rename_i hlt
       obtain⟨u,hu,hsv'⟩:=hsv.get hi
       rw[jY] at hlt
       rw[ajz (by simpa [hlen] using hlt)]
       simpa [hu,ahL,hne] using hsv'
      ·rw[ahK] at hi
       split at hi
       ·cases hi;exact trivial
       ·cases hi
   refine calls_of_wp hf hc (aL (C:=C) hX hmix anns c hN (fun e S' G' ρ' w' a' hk hM'=> ?_) hM)
   have key:Rl X fn sp p S'=some y→a'.defers=[]∧∃ v',(results fn a'.tmps).run X.P w'= .ok v' w'∧∃ w1 G' ow' vs T',w1.os=w'.os∧w1.output=w'.output∧w1.heap.size=w'.heap.size∧(∀ b,b≠bm→w1.heap[b]? =w'.heap[b]?)∧w'.heap[bm]? =some (.cells #[v] T' (0,0))∧WI G w ow sp args y (.returned v') w1 G' ow' vs:=by
    intro hk
    refine⟨hM'.defers, ?_⟩
    unfold Rl at hk
    split at hk
    ·rename_i l hl
     simp only at hk
     split at hk
     ·cases hk
     ·rename_i hd
      simp only[agP,ajE,agK,agJ,Option.isSome_eq_false_iff,ajd] at hd
      obtain⟨us,hr,hus⟩:=LM hM' hl
      generalize hjs:Fh (Gn sp.rs l)++(Pc S' sp.rs l++O9 S' 0 sp.ps)=js at hk hd
      obtain⟨G2,ρ2,hfz,hM2⟩:=hM'.freeze js
      generalize hV:bq S' js=V at hk hd hM2
      generalize how':pg V 0 sp.rs l++nE V 0 sp.ps=owl at hk hd
      obtain⟨⟨hd',hnl⟩,hnb⟩:=hd
      have hus2:bn (bM G2 ρ2) l us:=hus.mono fun s v hs=>bM.congr hfz.le (oN.same hfz.bx hfz.rw hfz.ob hfz.st) hs
      have hpins2:iZ ρ2 0 sp.ps args:=hpins.congr (fun k hk=>hM2.pin k hk) (fun k hk=>hM2.pinR k hk)
      have hbx:look V.boxes ji=some [.ref (2000+p) 0]:=by
       unfold acI at hnb
       split at hnb
       ·rename_i k o hb
        simp only[agC] at hnb
        rw[hb,aiJ hnb.1,aiJ hnb.2]
       ·cases hnb
      have ebm:ρ2.bx ji=bm:=(hM2.pin ji (by decide)).trans ebx
      obtain⟨hob,bvs,T',hbh',hbv⟩:=hM2.boxes ji _ hbx
      obtain⟨v2,e2,hv2⟩:=hbv.single
      subst e2
      rw[ebm] at hob hbh'
      have ev2:v2=v:=by
       have h1:v2= .pointer (some ⟨ρ2.bx (2000+p),0,none⟩):=hv2
       obtain⟨u,hu,hud⟩:=hsv.get (BF (i:=0) (x:=x) hnp)
       rw[hpv] at hu
       cases hu
       have h2:v= .pointer (some ⟨ρ.bx (2000+(0+p)),0,none⟩):=hud
       rw[h1,h2,ai7,hM2.pin (2000+p) (by omega)]
      subst ev2
      let w1:World:={ w' with heap:=w'.heap.setIfInBounds bm (.cells #[v2] T (0,0)) }
      have hbl':=eZ hbh'
      have h1o:∀ b,b≠bm→w1.heap[b]? =w'.heap[b]? :=fun b hb=>by
       show (w'.heap.setIfInBounds bm _)[b]? =_
       rw[agu (Ne.symm hb)]
      have h1b:w1.heap[bm]? =some (.cells #[v2] T (0,0)):=by
       show (w'.heap.setIfInBounds bm _)[bm]? =_
       rw[agv hbl']
      have hM3:=(hM2.Tz (w':=w1) (k:=ji) (cs:=[.ref (2000+p) 0]) (vs:=[v2]) (T:=T) ⟨_,hbx⟩ ⟨rfl,rfl,by simp[w1],fun b _ hne=>h1o b (fun e=>hne (by rw[e,ebm]))⟩ (by rw[ebm];exact h1b) ⟨v2,[],rfl,hv2,rfl⟩).ZN hbx
      have hGbm:G2 bm=none:=(hM2.owned _ _ hob).1
      refine⟨_,Qm hr,w1,G2,fJ ρ2 owl,us,T',rfl,rfl,by simp[w1],h1o,hbh',rfl,hM3.le0,hM3.agr,hM3.size,hM3.os,hM3.output,fun b hb ho=> ?_,fun b i hb=> ?_, ?_,fun h1=>(hM3.hndI h1).1⟩
      ·by_cases e:b=bm
       ·subst e;exact⟨h1b.trans hbh.symm,hGbm.trans hGb.symm⟩
       ·exact⟨hM3.frame b hb (fun h=>h.elim (fun h=>h ho) e),hM3.old b hb (fun h=>h.elim (fun h=>h ho) e)⟩
      ·unfold fJ at hb
       cases ho:ρ2.own b with
       | none=>rw[ho] at hb;cases hb
       | some o=>
        obtain⟨q1,q2,q3⟩:=hM3.owned b o ho
        refine⟨q1,q2,q3.imp id fun q=> ?_⟩
        rcases q with q | q
        ·exact q
        ·subst q
         rw[hob] at ho
         cases ho
         rw[hob] at hb
         simp only[ajb] at hb
         rw[hnl] at hb;cases hb
      ·refine Tm hM3.toMem (fun y' hy'=>sV hM3.toMem hy' (fun z hz=>qJ hd' (by rw[← how'];simp[hz])) hpins2) sp.rs 0 (fun z hz=>qJ hd' (by rw[← how'];simp[hz])) hk hus2
    ·cases hk
   cases e with
   | normal=>exact key hk
   | ret=>exact key hk
   | exit id=>cases hk
  ·cases hN
end Go.Dn
