/-
  Part 5. No condition.
-/
import Derived.Test.YtalfglakknbjkaaGreatDoorQe
import Derived.ReadAgain
import Derived.ChangeSame
import Derived.ChangeArms
import Derived.ChangeOld
import Derived.OpenShut
import Derived.ProofKit
import Derived.WalkKit
import Derived.Deep.DeepHandedRow
import Derived.Lib.LaidTab
import Derived.Shelf.Spec.SlicesInsertGrow
import Derived.Lib.SlicesCompact
import Derived.Sort.OwnSorted
import Derived.Shelf.Sort.Plain
import Derived.Shelf.Slices.In.SortNone
import Derived.Shelf.Slices.CompactS
import Derived.Shelf.Spec.SlicesGrow
set_option linter.all false
namespace Go.Dn
variable {X:Cx} {C:Fr}
def Ex.Nv:Ex→Exit
 | .normal=> .normal
 | .exit id=> .exit id
 | .ret=> .ret
theorem Y7 {β:Type} {A:Ann} {c:Code} {len:Nat} {anns:List (Nat×Ann)} {K:Ex→St→Option β} {r:β} {Q:Exit→Act→World→Prop}
 (ih:∀ {S:St} {K:Ex→St→Option β} {r:β},den X anns c β S K=some r→∀ {Q:Exit→Act→World→Prop},
   (∀ e S' G ρ w a,K e S'=some r→Mod C G ρ S' w a→Q e.Nv a w)→∀ {G ρ w a},Mod C G ρ S w a→c.wp X.P Q a w)
 (hQ:∀ e S' G ρ w a,K e S'=some r→Mod C G ρ S' w a→Q e.Nv a w):∀ (n:Nat) (x:eA A.cks) (G:Gh) (ρ:Env) (w:World) (a:Act),
 iter n x (fun x again=>den X anns c β (head A len x) fun e S'=>match e with
  | .normal=>match carry A S' with
   | some y=>bif Nat.beq S'.tmps.length len then again y else none
   | none=>none
  | .exit j=>K (.exit j) S'
  | .ret=>K .ret S')=some r→Mod C G ρ (head A len x) w a→Code.rounds X.P c Q n a w
 | 0,x,G,ρ,w,a,h,hM=>by simp[iter] at h
 | n+1,x,G,ρ,w,a,h,hM=>by
  simp only[iter] at h
  refine ih h (fun e S' G' ρ' w' a' hk hM'=> ?_) hM
  cases e with
  | normal=>
   simp only at hk
   split at hk
   ·rename_i y hy
    cases hb:Nat.beq S'.tmps.length len with
    | false=>rw[hb] at hk;cases hk
    | true=>
     rw[hb] at hk
     simp only[amE] at hk
     obtain⟨G2,ρ2,h2⟩:=Xy hM' hy
     rw[alV hb] at h2
     exact Y7 ih hQ n y G2 ρ2 w' a' hk h2
   ·cases hk
  | exit id=>exact hQ (.exit id) S' G' ρ' w' a' hk hM'
  | ret=>exact hQ .ret S' G' ρ' w' a' hk hM'
theorem Wx {β γ:Type} {x:Option (β ⊕ γ)} {f:γ→Option β} {r:β} (h:aO x f=some r):∃ q,x=some q∧(q= .inl r∨∃ v,q= .inr v∧f v=some r):=by
 unfold aO at h
 split at h
 ·cases h
 ·cases h;exact⟨_,rfl,.inl rfl⟩
 ·rename_i v;exact⟨_,rfl,.inr ⟨v,rfl,h⟩⟩
theorem CT {β γ:Type} {x:Option β} {q:β ⊕ γ} (h:LD x=some q):∃ r,x=some r∧q= .inl r:=by
 unfold LD at h
 split at h
 ·cases h;exact⟨_,rfl,rfl⟩
 ·cases h
theorem ag1 {β:Type} {A:Ann} {n:Nat} {S:St} {q:β ⊕ eA A.cks} (h:meet A n S=some q):∃ v,carry A S=some v∧S.tmps.length=n∧q= .inr v:=by
 unfold meet at h
 split at h
 ·rename_i v hv
  cases hb:Nat.beq S.tmps.length n with
  | false=>rw[hb] at h;cases h
  | true=>rw[hb] at h;simp only[amE,Option.some.injEq] at h;exact⟨v,hv,alV hb,h.symm⟩
 ·cases h
theorem Sz {β:Type} {A:Ann} {n:Nat} {K:Ex→St→Option β} {r:β} {Q:Exit→Act→World→Prop} (hQ:∀ e S' G ρ w a,K e S'=some r→Mod C G ρ S' w a→Q e.Nv a w) {q:β ⊕ eA A.cks}
 (hq:q= .inl r∨∃ v,q= .inr v∧K .normal (head A n v)=some r) {S':St} {G:Gh} {ρ:Env} {w:World} {a:Act} (hM:Mod C G ρ S' w a) (h:meet A n S'=some q):Q .normal a w:=by
 obtain⟨v,h1,h2,h3⟩:=ag1 h
 rcases hq with hq | ⟨v',hq,hk⟩
 ·rw[h3] at hq;cases hq
 ·rw[h3] at hq
  cases hq
  obtain⟨G2,ρ2,hm⟩:=Xy hM h1
  rw[h2] at hm
  exact hQ .normal _ G2 ρ2 w a hk hm
theorem ahz {β:Type} {a b:Option β} {r:β} (h:both a b=some r):a=some r∧b=some r:=by
 unfold both at h
 split at h
 ·rename_i e;exact⟨h,e ▸ h⟩
 ·cases h
theorem Lm {β:Type} (a:Option β):both a a=a:=by unfold both;simp
theorem aI (hX:gw X) (hmix:X.P.follows .mixedOrders=true) (anns:List (Nat×Ann)):∀ (c:Code) {β:Type} {S:St} {K:Ex→St→Option β} {r:β},den X anns c β S K=some r→∀ {Q:Exit→Act→World→Prop},
 (∀ e S' G ρ w a,K e S'=some r→Mod C G ρ S' w a→Q e.Nv a w)→∀ {G ρ w a},Mod C G ρ S w a→c.wp X.P Q a w:=by
 intro c
 induction c with
 | skip=>
  intro β S K r h Q hQ G ρ w a hM
  exact wp_skip (hQ .normal S G ρ w a h hM)
 | region id ops dr=>
  intro β S K r h Q hQ G ρ w a hM
  cases dr with
  | true=>
   simp only[den,amE] at h
   have:=afH hX hmix h (Q:=Q) (fun S' G ρ w a hk hM=>hQ .normal S' G ρ w a hk hM) hM id
   simpa using this
  | false=>
   simp only[den,amD] at h
   refine wp_region_list ?_
   have:=xZ hX ops.toList ops.toList h (Q:=Q) (fun S' G ρ w a hk hM=>hQ .normal S' G ρ w a hk hM) hM
   simpa using this
 | seq x y ihx ihy=>
  intro β S K r h Q hQ G ρ w a hM
  simp only[den] at h
  refine wp_seq (ihx h (fun e S' G' ρ' w' a' hk hM'=> ?_) hM)
  cases e with
  | normal=>exact ihy hk hQ hM'
  | exit id=>exact hQ (.exit id) S' G' ρ' w' a' hk hM'
  | ret=>exact hQ .ret S' G' ρ' w' a' hk hM'
 | cond b x y ihx ihy=>
  intro β S K r h Q hQ G ρ w a hM
  simp only[den] at h
  split at h
  ·rename_i t ht
   have hv:=hM.tmps.ev b
   rw[ht] at hv
   split at h
   ·rename_i A hA
    obtain⟨q,h1,hq⟩:=Wx h
    refine wp_cond_split (t:=t) hv (fun e=> ?_) (fun e=> ?_)
    ·subst e
     simp only[amE] at h1
     refine ihx h1 (fun e S' G' ρ' w' a' hk hM'=> ?_) hM
     cases e with
     | normal=>exact Sz hQ hq hM' hk
     | exit j=>
      obtain⟨r',hr,hr2⟩:=CT hk
      rcases hq with hq | ⟨v,hq,_⟩
      ·rw[hr2] at hq;cases hq;exact hQ (.exit j) S' G' ρ' w' a' hr hM'
      ·rw[hr2] at hq;cases hq
     | ret=>
      obtain⟨r',hr,hr2⟩:=CT hk
      rcases hq with hq | ⟨v,hq,_⟩
      ·rw[hr2] at hq;cases hq;exact hQ .ret S' G' ρ' w' a' hr hM'
      ·rw[hr2] at hq;cases hq
    ·subst e
     simp only[amD] at h1
     refine ihy h1 (fun e S' G' ρ' w' a' hk hM'=> ?_) hM
     cases e with
     | normal=>exact Sz hQ hq hM' hk
     | exit j=>
      obtain⟨r',hr,hr2⟩:=CT hk
      rcases hq with hq | ⟨v,hq,_⟩
      ·rw[hr2] at hq;cases hq;exact hQ (.exit j) S' G' ρ' w' a' hr hM'
      ·rw[hr2] at hq;cases hq
     | ret=>
      obtain⟨r',hr,hr2⟩:=CT hk
      rcases hq with hq | ⟨v,hq,_⟩
      ·rw[hr2] at hq;cases hq;exact hQ .ret S' G' ρ' w' a' hr hM'
      ·rw[hr2] at hq;cases hq
   ·refine wp_cond_split (t:=t) hv (fun e=> ?_) (fun e=> ?_)
    ·subst e;exact ihx h hQ hM
    ·subst e;exact ihy h hQ hM
  ·rename_i t ht
   have hv:=hM.tmps.ev b
   rw[ht] at hv
   obtain⟨c,hc,hf⟩:=(hv:bJ G ρ (.nb t) _)
   cases t with
   | false=>
    have:=hf rfl
    subst this
    exact wp_cond_split (t:=false) hc (fun e=>by cases e) (fun _=>ihy h hQ hM)
   | true=>
    obtain⟨h1,h2⟩:=ahz h
    exact wp_cond_split (t:=c) hc (fun _=>ihx h1 hQ hM) (fun _=>ihy h2 hQ hM)
  ·cases h
 | block id x ih=>
  intro β S K r h Q hQ G ρ w a hM
  simp only[den] at h
  split at h
  ·rename_i A hA
   obtain⟨q,h1,hq⟩:=Wx h
   refine wp_block (ih h1 (fun e S' G' ρ' w' a' hk hM'=> ?_) hM)
   cases e with
   | normal=>exact Sz hQ hq hM' hk
   | exit j=>
    simp only at hk
    simp only[Ex.Nv,Exit.inBlock]
    split at hk
    ·rename_i hb
     rw[amQ (alV hb)]
     exact Sz hQ hq hM' hk
    ·rename_i hb
     rw[amP (fun e=>hb (by rw[e];simp))]
     obtain⟨r',hr,hr2⟩:=CT hk
     rcases hq with hq | ⟨v,hq,_⟩
     ·rw[hr2] at hq;cases hq;exact hQ (.exit j) S' G' ρ' w' a' hr hM'
     ·rw[hr2] at hq;cases hq
   | ret=>
    obtain⟨r',hr,hr2⟩:=CT hk
    rcases hq with hq | ⟨v,hq,_⟩
    ·rw[hr2] at hq;cases hq;exact hQ .ret S' G' ρ' w' a' hr hM'
    ·rw[hr2] at hq;cases hq
  ·refine wp_block (ih h (fun e S' G' ρ' w' a' hk hM'=> ?_) hM)
   cases e with
   | normal=>exact hQ .normal S' G' ρ' w' a' hk hM'
   | exit j=>
    simp only at hk
    simp only[Ex.Nv,Exit.inBlock]
    split at hk
    ·rename_i hb
     rw[amQ (alV hb)]
     exact hQ .normal S' G' ρ' w' a' hk hM'
    ·rename_i hb
     rw[amP (fun e=>hb (by rw[e];simp))]
     exact hQ (.exit j) S' G' ρ' w' a' hk hM'
   | ret=>exact hQ .ret S' G' ρ' w' a' hk hM'
 | loop x ih=>
  intro β S K r h Q hQ G ρ w a hM
  simp only[den] at h
  split at h
  ·rename_i A hA
   split at h
   ·rename_i y hy
    obtain⟨G2,ρ2,h2⟩:=Xy hM hy
    exact wp_loop_rounds (A.fuel y) (Y7 ih hQ (A.fuel y) y G2 ρ2 w a h h2)
   ·cases h
  ·cases h
 | exit id=>
  intro β S K r h Q hQ G ρ w a hM
  exact wp_exit (hQ (.exit id) S G ρ w a h hM)
 | ret=>
  intro β S K r h Q hQ G ρ w a hM
  exact wp_ret (hQ .ret S G ρ w a h hM)
 | _=>
  intro β S K r h
  simp[den] at h
end Go.Dn
namespace Go.Dn
variable {X:Cx} {C:Fr} {G:Gh} {ρ:Env} {w:World}
def je (ρ:Env):Nat→List PM→List Value→Prop
 | _,[],_=>True
 | i,.mrow _ _::r,vs=>(vs.head? =some (ρ.rw (pid i 0))∧∃ a n c,ρ.rw (pid i 0)= .slice a n c)∧je ρ (i+1) r vs.tail
 | i,.map _ _::r,vs=>(vs.head? =some (ρ.ob (pid i 0))∧∃ b,ρ.ob (pid i 0)= .map (some b))∧je ρ (i+1) r vs.tail
 | i,.box _::r,vs=>vs.head? =some (.pointer (some ⟨ρ.bx (2000+i),0,none⟩))∧je ρ (i+1) r vs.tail
 | i,.ar _::r,vs=>je ρ (i+1) r vs
 | i,.arR _::r,vs=>je ρ (i+1) r vs
 | i,.val _::r,vs=>je ρ (i+1) r vs.tail
 | i,.row _ _::r,vs=>je ρ (i+1) r vs.tail
theorem aeR (i:Nat):10000000≤pid i 0:=by simp only[pid,pD,nid];omega
theorem je.congr {ρ ρ':Env} (hb:∀ k,2000≤k→ρ'.bx k=ρ.bx k) (hr:∀ k,10000000≤k→ρ'.rw k=ρ.rw k∧ρ'.ob k=ρ.ob k):∀ {ps:List PM} {i:Nat} {vs:List Value},je ρ i ps vs→je ρ' i ps vs
 | [],_,_,_=>trivial
 | .mrow _ _::r,i,vs,h=>by
  simp only[je] at h ⊢
  rw[(hr _ (aeR i)).1];exact⟨h.1,h.2.congr hb hr⟩
 | .map _ _::r,i,vs,h=>by
  simp only[je] at h ⊢
  rw[(hr _ (aeR i)).2];exact⟨h.1,h.2.congr hb hr⟩
 | .box _::r,i,vs,h=>by
  simp only[je] at h ⊢
  rw[hb _ (by omega)];exact⟨h.1,h.2.congr hb hr⟩
 | .ar _::r,i,vs,h=>je.congr (ps:=r) hb hr h
 | .arR _::r,i,vs,h=>je.congr (ps:=r) hb hr h
 | .val _::r,i,vs,h=>je.congr (ps:=r) hb hr h
 | .row _ _::r,i,vs,h=>je.congr (ps:=r) hb hr h
theorem Trans.refl (G:Gh) (b:Bool):Trans G G b:=⟨fun _ _ h=>h,.inr (Gh.le_refl G)⟩
theorem rF {ow:Nat→Option Nat}:∀ {ps:List PM} {i:Nat} {x:gU ps} {vs:List Value},mb G w ow i ps x vs→
 ∃ vals:List (bM×Value),vals.map (·.1)=(ff i ps).map (·.1)∧(∀ k v,(.inl k,v)∈vals→∃ b,v= .pointer (some ⟨b,0,none⟩))∧
  ∀ ρ:Env,(∀ o v,(o,v)∈vals→Asg ρ w o v)→(∀ o n,(o,n)∈ff i ps→∀ b,ow b=some n→ρ.own b=some o)→
   bD (bW G ρ) (nQ i ps x) vs∧mK G ρ w (uH i ps x) (td i ps x) (kg i ps x)∧je ρ i ps vs
 | [],i,x,vs,h=>⟨[],rfl,fun k v h=>by simp at h,fun ρ _ _=>⟨h,mK.nil,trivial⟩⟩
 | .val t::r,i,x,vs,⟨v,us,h1,_,hv,hu⟩=>by
  obtain⟨vals,e,hp,hr⟩:=rF hu
  refine⟨vals,e,hp,fun ρ hA hO=> ?_⟩
  obtain⟨g1,g2,g3⟩:=hr ρ hA hO
  rw[h1 rfl]
  exact⟨⟨v,us,rfl,SD ρ hv,g1⟩,g2,g3⟩
 | .row e' t::r,i,x,vs,⟨v,us,h1,_,⟨hv,hv2⟩,hu⟩=>by
  obtain⟨vals,e,hp,hr⟩:=rF hu
  refine⟨(.inr (pid i 0),v)::vals,by simp[ff,e],fun k v h=>hp k v (by simpa using h),fun ρ hA hO=> ?_⟩
  obtain⟨g1,g2,g3⟩:=hr ρ (fun o v h=>hA o v (by simp[h])) (fun o n h=>hO o n (by simp[ff,h]))
  have hav:ρ.rw (pid i 0)=v:=hA (.inr (pid i 0)) v (by simp)
  rw[h1 rfl]
  refine⟨⟨v,us,rfl,⟨hav.symm,hv.isSlice⟩,g1⟩,⟨g2.bx,fun j q hj=> ?_,g2.ob⟩,g3⟩
  simp only[td,aW] at hj
  split at hj
  ·rename_i ej
   subst ej
   cases hj
   exact hv.ok (Trans.refl G _) hav (fun b hb=>hO _ _ (by simp[ff]) b (hv2 b hb))
  ·exact g2.rw j q hj
 | .mrow e' t::r,i,x,vs,⟨v,us,h1,_,⟨hv,hv2⟩,hu⟩=>by
  obtain⟨vals,e,hp,hr⟩:=rF hu
  refine⟨(.inr (pid i 0),v)::vals,by simp[ff,e],fun k v h=>hp k v (by simpa using h),fun ρ hA hO=> ?_⟩
  obtain⟨g1,g2,g3⟩:=hr ρ (fun o v h=>hA o v (by simp[h])) (fun o n h=>hO o n (by simp[ff,h]))
  have hav:ρ.rw (pid i 0)=v:=hA (.inr (pid i 0)) v (by simp)
  rw[h1 rfl]
  refine⟨⟨v,us,rfl,⟨hav.symm,hv.isSlice⟩,g1⟩,⟨g2.bx,fun j q hj=> ?_,g2.ob⟩,⟨by rw[hav];rfl,by rw[hav];exact hv.isSlice⟩,g3⟩
  simp only[td,aW] at hj
  split at hj
  ·rename_i ej
   subst ej
   cases hj
   exact hv.ok (Trans.refl G _) hav (fun b hb=>hO _ _ (by simp[ff]) b (hv2 b hb))
  ·exact g2.rw j q hj
 | .map kk vv::r,i,x,vs,⟨v,us,h1,_,⟨b,hv,hv1,hv2⟩,hu⟩=>by
  obtain⟨vals,e,hp,hr⟩:=rF hu
  refine⟨(.ob (pid i 0),v)::vals,by simp[ff,e],fun k v h=>hp k v (by simpa using h),fun ρ hA hO=> ?_⟩
  obtain⟨g1,g2,g3⟩:=hr ρ (fun o v h=>hA o v (by simp[h])) (fun o n h=>hO o n (by simp[ff,h]))
  rw[h1 rfl]
  subst hv
  have ho:ρ.own b=some (.ob (pid i 0)):=hO _ _ (by simp[ff]) b hv1
  obtain⟨m1,m2⟩:=hv2.ok (Trans.refl G _) (hA (.ob (pid i 0)) (.map (some b)) (by simp)) ho
  refine⟨⟨_,us,rfl,⟨m2.symm,b,rfl⟩,g1⟩,⟨g2.bx,g2.rw,fun j q hj=> ?_⟩,⟨by rw[m2];rfl,b,m2⟩,g3⟩
  simp only[kg,aW] at hj
  split at hj
  ·rename_i ej
   subst ej
   cases hj
   exact m1
  ·exact g2.ob j q hj
 | .box l::r,i,x,vs,⟨v,us,h1,_,hv,hu⟩=>by
  obtain⟨vals,e,hp,hr⟩:=rF hu
  obtain⟨vals2,hv2,hr2⟩:=Vp (G3:=G) (d:=pD) (k:=2000+i) (Trans.refl G _) hv
  refine⟨(.inl (2000+i),v)::(vals2++vals),by simp[ff,e,hv2],fun k v' h=> ?_,fun ρ hA hO=> ?_⟩
  ·rcases ali.1 h with h | h
   ·cases h
    obtain⟨b,_,_,e1,_⟩:=hv
    exact⟨b,e1⟩
   ·rcases alh.1 h with h | h
    ·have hm:(.inl k:bM)∈vals2.map (·.1):=alp.2 ⟨_,h,rfl⟩
     rw[hv2] at hm
     obtain⟨p,hp,e1⟩:=alp.1 hm
     obtain⟨p1,p2⟩:=p
     simp only at e1
     subst e1
     exact absurd hp ((Cn (x:=x.1)).2.2 k p2)
    ·exact hp k v' h
  ·obtain⟨g1,g2,g3⟩:=hr ρ (fun o v h=>hA o v (by simp[h])) (fun o n h=>hO o n (by simp[ff,h]))
   have hk:=hA (.inl (2000+i)) v (by simp)
   have g4:=hr2 ρ hk (fun o v h=>hA o v (by simp[h])) (fun o n h=>hO o n (by
    simp only[ali] at h
    simp only[ff,ali,alh]
    rcases h with h | h
    ·exact .inl h
    ·exact .inr (.inl h)))
   rw[h1 rfl]
   exact⟨⟨v,us,rfl,hk,g1⟩,g4.app g2,by rw[show v=_ from hk];rfl,g3⟩
 | .ar t::r,i,x,vs,⟨v,us,_,h1,hv,hu⟩=>by
  obtain⟨vals,e,hp,hr⟩:=rF hu
  refine⟨(.ob bT,undef)::vals,by simp[ff,e],fun k v h=>hp k v (by simpa using h),fun ρ hA hO=> ?_⟩
  obtain⟨g1,g2,g3⟩:=hr ρ (fun o v h=>hA o v (by simp[h])) (fun o n h=>hO o n (by simp[ff,h]))
  have e1:=h1 rfl
  subst e1
  refine⟨g1,⟨g2.bx,g2.rw,fun j q hj=> ?_⟩,g3⟩
  simp only[kg,aW] at hj
  split at hj
  ·rename_i ej
   subst ej
   cases hj
   refine⟨rfl,hv.1,hv.2.1,fun n z hz=> ?_⟩
   obtain⟨b,ws,T,f1,f2,f3,f4,f5⟩:=hv.2.2 n z hz
   exact⟨b,ws,T,f1,nofun,fun _=>hO _ _ (by simp[ff]) b (f3 rfl),f4,f5⟩
  ·exact g2.ob j q hj
 | .arR t::r,i,x,vs,⟨v,us,_,h1,hv,hu⟩=>by
  obtain⟨vals,e,hp,hr⟩:=rF hu
  refine⟨vals,e,hp,fun ρ hA hO=> ?_⟩
  obtain⟨g1,g2,g3⟩:=hr ρ hA hO
  have e1:=h1 rfl
  subst e1
  refine⟨g1,⟨g2.bx,g2.rw,fun j q hj=> ?_⟩,g3⟩
  simp only[kg,aW] at hj
  split at hj
  ·rename_i ej
   subst ej
   cases hj
   refine⟨rfl,hv.1,hv.2.1,fun n z hz=> ?_⟩
   obtain⟨b,ws,T,f1,f2,f3,f4,f5⟩:=hv.2.2 n z hz
   exact⟨b,ws,T,f1,f2,nofun,f4,f5⟩
  ·exact g2.ob j q hj
theorem DC:∀ {ps:List PM} {i:Nat} {o:bM} {n:Nat},(o,n)∈ff i ps→(∃ k,o= .inl k)∨o= .ob bT∨NO pD o n
 | [],i,o,n,h=>by simp[ff] at h
 | .val _::r,i,o,n,h=>DC (ps:=r) h
 | .arR _::r,i,o,n,h=>DC (ps:=r) h
 | .row _ _::r,i,o,n,h=>by
  simp only[ff,ali,Prod.mk.injEq] at h
  rcases h with ⟨h,h'⟩ | h
  ·subst h;subst h';exact .inr (.inr (.inl (by rw[pid,JN];rfl)))
  ·exact DC (ps:=r) h
 | .mrow _ _::r,i,o,n,h=>by
  simp only[ff,ali,Prod.mk.injEq] at h
  rcases h with ⟨h,h'⟩ | h
  ·subst h;subst h';exact .inr (.inr (.inl (by rw[pid,JN];rfl)))
  ·exact DC (ps:=r) h
 | .map _ _::r,i,o,n,h=>by
  simp only[ff,ali,Prod.mk.injEq] at h
  rcases h with ⟨h,h'⟩ | h
  ·subst h;subst h';exact .inr (.inr (.inr (by rw[pid,JN];rfl)))
  ·exact DC (ps:=r) h
 | .box l::r,i,o,n,h=>by
  simp only[ff,ali,alh,Prod.mk.injEq] at h
  rcases h with ⟨h,h'⟩ | h | h
  ·exact .inl ⟨_,h⟩
  ·exact .inr (.inr (IV h))
  ·exact DC (ps:=r) h
 | .ar _::r,i,o,n,h=>by
  simp only[ff,ali,Prod.mk.injEq] at h
  rcases h with ⟨h,h'⟩ | h
  ·exact .inr (.inl h)
  ·exact DC (ps:=r) h
def abf (tmps:Array Value):ResultVar→Sem Value
 | .tmp t=>pure (tmps.getD t undef)
 | .cell a t=>do loadVar t (← asAddr (tmps.getD a undef))
theorem ahg {S:St} {a:Act} {s:SV} {v:ResultVar} (hM:Mod C G ρ S w a) (h:aaO X S v=some s):∃ u,(abf a.tmps v).run X.P w= .ok u w∧bW G ρ s u:=by
 cases v with
 | tmp t=>
  simp only[aaO,Option.some.injEq] at h
  subst h
  exact⟨_,rfl,hM.tmps.ev (.tmp t)⟩
 | cell t T=>
  simp only[aaO] at h
  split at h
  ·rename_i b off hx
   split at h
   ·rename_i l hl
    obtain⟨s',hs,hld⟩:=GG h
    cases hs
    have h1:=hM.tmps.ev (.tmp t)
    simp only[St.ev] at h1
    rw[hx] at h1
    have h2:a.tmps.getD t undef= .pointer (some ⟨ρ.bx b,off,none⟩):=h1
    obtain⟨_,vs,T',hw,hv⟩:=hM.boxes b l hl
    obtain⟨u,hr,hsv⟩:=hld G ρ w (ρ.bx b) 0 vs hv (fun j v hj=>by
     have hadd:(⟨ρ.bx b,0,none⟩:Addr).add j=⟨ρ.bx b,j,none⟩:=by unfold Addr.add;split<;>simp_all
     rw[hadd,cell_of_row w _ j _ T' (0,0) hw];simpa using hj)
    refine⟨u, ?_,hsv⟩
    simp only[amk] at hr
    simp only[abf,h2,asAddr,Sem.run_bind,Sem.run_pure,Result.andThen_ok,hr]
   ·cases h
  ·cases h
theorem VI {S:St} {a:Act} (hM:Mod C G ρ S w a):∀ {rs:List ResultVar} {l:List SV},NF X S rs=some l→∃ us,(rs.mapM (abf a.tmps)).run X.P w= .ok us w∧bD (bW G ρ) l us
 | [],l,h=>by
  simp only[NF,Option.some.injEq] at h
  subst h
  exact⟨[],rfl,rfl⟩
 | v::r,l,h=>by
  simp only[NF] at h
  split at h
  ·rename_i s hs
   split at h
   ·rename_i l' hl'
    cases h
    obtain⟨u,h1,h2⟩:=ahg hM hs
    obtain⟨us,h3,h4⟩:=VI hM hl'
    refine⟨u::us, ?_,u,us,rfl,h2,h4⟩
    simp only[List.mapM_cons,Sem.run_bind,h1,Result.andThen_ok,h3,Sem.run_pure]
   ·cases h
  ·cases h
theorem adN {fn:Func} {tmps:Array Value} {P:Program} {us:List Value} (h:(fn.results.toList.mapM (abf tmps)).run P w= .ok us w):(results fn tmps).run P w= .ok (Jf us) w:=by
 have e:results fn tmps=(do
  let vs ← fn.results.mapM (abf tmps)
  pure (if h:vs.size=1 then vs[0] else .tuple vs)):=by
  unfold results
  congr 2
 rw[e,Array.mapM_eq_mapM_toList]
 simp only[Sem.run_bind,Sem.run_map,h,Result.andThen_ok,Sem.run_pure]
 match us with
 | []=>rfl
 | [v]=>rfl
 | v::u::r=>simp[Jf]
theorem acD (S:St) (ps:List PM) (bx:Option (iN ps)) (s:SV) (q:List SV):EY S ps bx [] (s::q)=none:=rfl
theorem acy (S:St) (ps:List PM) (bx:Option (iN ps)) (p:RM) (r:List RM) (s:SV) (q:List SV):EY S ps bx (p::r) (s::q)=match IZ S p s with
 | some x=>match EY S ps bx r q with
  | some y=>some (x,y)
  | none=>none
 | none=>none:=rfl
theorem aec (S:St) (ps:List PM) (bx:Option (iN ps)) (p:RM) (r:List RM):EY S ps bx (p::r) []=none:=rfl
theorem afh {s:SV} {c:CV} {v:Value} (hc:wV s=some c) (hs:bW G ρ s v):bJ G ρ c v:=by
 unfold wV at hc
 split at hc
 ·cases hc;exact hs
 ·cases hc
section
variable {V:St} {ow:List (bM×Nat)} (hM:Mem C G ρ V w)
include hM
theorem VV {l:List OT} {k n:Nat} {cs:List CV} {x:qg l} {v:Value} (hcs:look V.boxes k=some cs) (h:qY V l cs=some x) (hv:v= .pointer (some ⟨ρ.bx k,0,none⟩)) (ho:∀ q,q∈(.inl k,n)::ua (n+1) l cs→dN ow q.1=some q.2):
 DX G w (gR ρ ow) n l x v:=by
 obtain⟨h1,vs,T,h2,h3⟩:=hM.boxes k cs hcs
 refine⟨ρ.bx k,vs,T,hv, ?_,h2,Gu hM (Gh.le_refl G) h h3 (fun q hq=>ho q (by simp[hq]))⟩
 simp only[gR,h1,amq]
 exact ho (.inl k,n) (by simp)
theorem afq {p:RM} {s:SV} {x:p.den} {v:Value} {c:Nat} {r:List RM} {q:List SV} (h:IZ V p s=some x) (hv:bW G ρ s v) (ho:∀ z,z∈qC V c (p::r) (s::q)→dN ow z.1=some z.2):afz G w (gR ρ ow) c p x v:=by
 cases p with
 | val t=>exact uz hM.frozen (rJ.nil _ _ _) h hv
 | row e t=>
  simp only[IZ] at h
  split at h
  ·rename_i cv hc
   exact wh hM (Gh.le_refl G) h (afh hc hv) (fun z hz=>ho z (by simp only[qC,hc,alh];exact .inl hz))
  ·cases h
 | map k e=>
  simp only[IZ] at h
  split at h
  ·rename_i cv hc
   exact F7 hM (Gh.le_refl G) h (afh hc hv) (fun z hz=>ho z (by simp only[qC,hc,alh];exact .inl hz))
  ·cases h
 | box l=>
  simp only[IZ] at h
  split at h
  ·rename_i k hk
   split at h
   ·rename_i cs hcs
    exact VV hM hcs h (YT hk hv) (fun z hz=>ho z (by simp only[qC,hk,hcs,alh];exact .inl hz))
   ·cases h
  ·cases h
theorem aft {ps:List PM} {bx:Option (iN ps)} {args:List Value} (hbx:∀ y,bx=some y→tc G w (gR ρ ow) 0 ps y args) (rs:List RM):
 ∀ {l:List SV} {y:dX ps rs} {us:List Value} (c:Nat),(∀ z,z∈qC V c rs l→dN ow z.1=some z.2)→EY V ps bx rs l=some y→bD (bW G ρ) l us→sI G w (gR ρ ow) ps args c rs y us:=by
 induction rs with
 | nil=>
  intro l y us c _ h hv
  cases l with
  | nil=>exact⟨hv,hbx y h⟩
  | cons s q=>rw[acD] at h;cases h
 | cons p r ih=>
  intro l y us c ho h hv
  cases l with
  | nil=>rw[aec] at h;cases h
  | cons s q=>
   obtain⟨v,us',e',hs,hq⟩:=hv
   subst e'
   rw[acy] at h
   split at h
   ·rename_i x hx
    split at h
    ·rename_i z hz
     cases h
     refine⟨v,us',rfl,afq hM hx hs ho,ih (c+1) (fun t ht=>ho t ?_) hz hq⟩
     cases p<;>simp only[qC,alh]<;>first | exact .inr ht | exact ht
    ·cases h
   ·cases h
theorem uy:∀ {ps:List PM} {i:Nat} {y:iN ps} {vs:List Value},s5 V i ps=some y→(∀ z,z∈oK V i ps→dN ow z.1=some z.2)→je ρ i ps vs→tc G w (gR ρ ow) i ps y vs
 | [],i,y,vs,_,_,_=>trivial
 | .val _::r,i,y,vs,h,ho,hp=>uy (ps:=r) h ho hp
 | .row _ _::r,i,y,vs,h,ho,hp=>uy (ps:=r) h ho hp
 | .arR _::r,i,y,vs,h,ho,hp=>uy (ps:=r) h ho hp
 | .mrow e t::r,i,y,vs,h,ho,⟨⟨hp1,hp2⟩,hp⟩=>by
  simp only[s5] at h
  split at h
  ·rename_i x z hx hz
   cases h
   have:=wh (ow:=ow) (n:=64*i) hM (Gh.le_refl G) hx (v:=ρ.rw (pid i 0)) ⟨rfl,hp2⟩ (fun q hq=>ho q (by
    simp only[sO,alx] at hq
    subst hq;simp[oK]))
   exact⟨⟨_,hp1,this.1,this.2⟩,uy (ps:=r) hz (fun q hq=>ho q (by simp[oK,hq])) hp⟩
  ·cases h
 | .map kk vv::r,i,y,vs,h,ho,⟨⟨hp1,hp2⟩,hp⟩=>by
  simp only[s5] at h
  split at h
  ·rename_i x z hx hz
   cases h
   obtain⟨b,h1,h2,h3⟩:=F7 (ow:=ow) (n:=64*i) hM (Gh.le_refl G) hx (v:=ρ.ob (pid i 0)) ⟨rfl,hp2⟩ (fun q hq=>ho q (by
    simp only[sO,alx] at hq
    subst hq;simp[oK]))
   exact⟨⟨b,by rw[hp1,h1],h2,h3⟩,uy (ps:=r) hz (fun q hq=>ho q (by simp[oK,hq])) hp⟩
  ·cases h
 | .box l::r,i,y,vs,h,ho,⟨hp1,hp⟩=>by
  simp only[s5] at h
  split at h
  ·rename_i cs hcs
   split at h
   ·rename_i x z hx hz
    cases h
    refine⟨⟨_,hp1,VV hM hcs hx rfl (fun q hq=>ho q ?_)⟩,uy (ps:=r) hz (fun q hq=>ho q ?_) hp⟩
    ·simp only[oK,hcs,aky,ali,alh]
     rcases ali.1 hq with hq | hq
     ·exact .inl hq
     ·exact .inr (.inl hq)
    ·simp only[oK,hcs,aky,ali,alh]
     exact .inr (.inr hq)
   ·cases h
  ·cases h
 | .ar t::r,i,y,vs,h,ho,hp=>by
  simp only[s5] at h
  split at h
  ·rename_i x z hx hz
   cases h
   obtain⟨f,hl,hf⟩:=xN hx
   have:=hf rfl
   subst this
   obtain⟨_,h1,h2,h3⟩:=hM.objs bT _ hl
   refine⟨⟨h1,h2,fun n z hz=> ?_⟩,uy (ps:=r) hz (fun q hq=>ho q (by simp[oK,hq])) hp⟩
   obtain⟨b,vs,T,g1,g2,g3,g4,g5⟩:=h3 n z hz
   refine⟨b,vs,T,g1,nofun,fun _=> ?_,g4,g5⟩
   have:=g3 rfl
   simp only[gR,this,amq]
   exact ho (.ob bT,64*i) (by simp[oK])
  ·cases h
end
end Go.Dn
namespace Go.Dn
variable {X:Cx}
section
variable {G G':Gh} {w:World} {ow:Nat→Option Nat} (hG:∀ b o,G b=some o→G' b=some o)
include hG
theorem dA.bG {t:Ty} {x:t.den} {v:Value} (hn:t.bG=true) (h:dA G t x v):dA G' t x v:=by
 cases t with
 | st t=>obtain⟨vs,e,hv⟩:=h;exact⟨vs,e,bp.bG hG t x vs (by simpa [Ty.bG] using hn) hv⟩
 | _=>exact bp.bG hG _ x _ hn h
theorem wU.bG {e:TypeId} {t:Ty} {l:List t.den} {v:Value} (hn:t.bG=true) (h:wU G w e t l v):wU G' w e t l v:=by
 obtain⟨xs,h1,h2⟩:=h
 exact⟨xs,h1,h2.mono fun x cs=>bp.bG hG t x cs hn⟩
theorem Gd.bG {k v:Ty} {l:List (k.den×v.den)} {b:Nat} (hk:k.bG=true) (hv:v.bG=true) (h:Gd G w k v l b):Gd G' w k v l b:=by
 obtain⟨es,clock,h1,h2,h3⟩:=h
 exact⟨es,clock,h1,h2.mono fun x y hxy=>⟨hxy.1.bG hG hk,hxy.2.bG hG hv⟩,h3⟩
def MS (l:List OT):Bool:=l.all fun | .val t=>t.bG | .row _ t=>t.bG | .map k v=>k.bG&&v.bG
theorem Ge.bG:∀ {l:List OT} {n:Nat} {x:qg l} {vs:List Value},MS l=true→Ge G w ow n l x vs→Ge G' w ow n l x vs
 | [],_,_,_,_,h=>h
 | .val t::r,n,x,vs,hn,⟨a,b,e,h1,h2⟩=>by
  simp only[MS,aks,ajK] at hn
  exact⟨a,b,e,bp.bG hG t x.1 a hn.1 h1,Ge.bG hn.2 h2⟩
 | .row _ t::r,n,x,vs,hn,⟨a,b,e,⟨v,e2,h1,h3⟩,h2⟩=>by
  simp only[MS,aks,ajK] at hn
  exact⟨a,b,e,⟨v,e2,h1.bG hG hn.1,h3⟩,Ge.bG hn.2 h2⟩
 | .map k v::r,n,x,vs,hn,⟨a,b,e,⟨bb,e2,h1,h3⟩,h2⟩=>by
  simp only[MS,aks,ajK] at hn
  exact⟨a,b,e,⟨bb,e2,h1,h3.bG hG hn.1.1 hn.1.2⟩,Ge.bG hn.2 h2⟩
theorem DX.bG {l:List OT} {n:Nat} {x:qg l} {v:Value} (hn:MS l=true) (h:DX G w ow n l x v):DX G' w ow n l x v:=by
 obtain⟨b,vs,T,h1,h2,h3,h4⟩:=h
 exact⟨b,vs,T,h1,h2,h3,h4.bG hG hn⟩
theorem mb.bG:∀ {ps:List PM} {i:Nat} {x:gU ps} {vs:List Value},fo ps=true→mb G w ow i ps x vs→mb G' w ow i ps x vs
 | [],_,_,_,_,h=>h
 | .val t::r,i,x,vs,hn,⟨v,us,h1,h2,h3,h4⟩=>by
  simp only[fo,ajK] at hn
  exact⟨v,us,h1,h2,dA.bG hG hn.1 h3,mb.bG hn.2 h4⟩
 | .row _ t::r,i,x,vs,hn,⟨v,us,h1,h2,⟨h3,h3'⟩,h4⟩=>by
  simp only[fo,ajK] at hn
  exact⟨v,us,h1,h2,⟨h3.bG hG hn.1,h3'⟩,mb.bG hn.2 h4⟩
 | .mrow _ t::r,i,x,vs,hn,⟨v,us,h1,h2,⟨h3,h3'⟩,h4⟩=>by
  simp only[fo,ajK] at hn
  exact⟨v,us,h1,h2,⟨h3.bG hG hn.1,h3'⟩,mb.bG hn.2 h4⟩
 | .map _ _::r,i,x,vs,hn,⟨v,us,h1,h2,⟨b,h3,h3',h5⟩,h4⟩=>by
  simp only[fo,ajK] at hn
  exact⟨v,us,h1,h2,⟨b,h3,h3',h5.bG hG hn.1.1 hn.1.2⟩,mb.bG hn.2 h4⟩
 | .box l::r,i,x,vs,hn,⟨v,us,h1,h2,h3,h4⟩=>by
  simp only[fo,ajK] at hn
  exact⟨v,us,h1,h2,DX.bG hG hn.1 h3,mb.bG hn.2 h4⟩
 | .ar _::r,i,x,vs,hn,_=>by simp[fo] at hn
 | .arR _::r,i,x,vs,hn,_=>by simp[fo] at hn
theorem tc.bG:∀ {ps:List PM} {i:Nat} {x:iN ps} {vs:List Value},fo ps=true→tc G w ow i ps x vs→tc G' w ow i ps x vs
 | [],_,_,_,_,h=>h
 | .val t::r,i,x,vs,hn,h=>by
  simp only[fo,ajK] at hn
  exact tc.bG (ps:=r) hn.2 h
 | .row _ t::r,i,x,vs,hn,h=>by
  simp only[fo,ajK] at hn
  exact tc.bG (ps:=r) hn.2 h
 | .mrow _ t::r,i,x,vs,hn,⟨⟨v,h1,h2,h3⟩,h4⟩=>by
  simp only[fo,ajK] at hn
  exact⟨⟨v,h1,h2.bG hG hn.1,h3⟩,tc.bG hn.2 h4⟩
 | .map _ _::r,i,x,vs,hn,⟨⟨b,h1,h2,h3⟩,h4⟩=>by
  simp only[fo,ajK] at hn
  exact⟨⟨b,h1,h2,h3.bG hG hn.1.1 hn.1.2⟩,tc.bG hn.2 h4⟩
 | .box l::r,i,x,vs,hn,⟨⟨v,h1,h2⟩,h4⟩=>by
  simp only[fo,ajK] at hn
  exact⟨⟨v,h1,DX.bG hG hn.1 h2⟩,tc.bG hn.2 h4⟩
 | .ar _::r,i,x,vs,hn,_=>by simp[fo] at hn
 | .arR _::r,i,x,vs,hn,_=>by simp[fo] at hn
theorem sI.bG {ps:List PM} {args:List Value} (hp:fo ps=true):∀ {rs:List RM} {c:Nat} {y:dX ps rs} {vs:List Value},wj rs=true→sI G w ow ps args c rs y vs→sI G' w ow ps args c rs y vs
 | [],_,_,_,_,h=>⟨h.1,h.2.bG hG hp⟩
 | .val t::r,c,y,vs,hn,⟨v,us,h1,h2,h3⟩=>by
  simp only[wj,ajK] at hn
  exact⟨v,us,h1,dA.bG hG hn.1 h2,sI.bG hp hn.2 h3⟩
 | .row _ t::r,c,y,vs,hn,⟨v,us,h1,⟨h2,h2'⟩,h3⟩=>by
  simp only[wj,ajK] at hn
  exact⟨v,us,h1,⟨h2.bG hG hn.1,h2'⟩,sI.bG hp hn.2 h3⟩
 | .map _ _::r,c,y,vs,hn,⟨v,us,h1,⟨b,h2,h2',h4⟩,h3⟩=>by
  simp only[wj,ajK] at hn
  exact⟨v,us,h1,⟨b,h2,h2',h4.bG hG hn.1.1 hn.1.2⟩,sI.bG hp hn.2 h3⟩
 | .box l::r,c,y,vs,hn,⟨v,us,h1,h2,h3⟩=>by
  simp only[wj,ajK] at hn
  exact⟨v,us,h1,DX.bG hG hn.1 h2,sI.bG hp hn.2 h3⟩
end
theorem nv:∀ (ps:List PM) (i:Nat) (x:gU ps),(nQ i ps x).length=DI ps
 | [],_,_=>rfl
 | .val _::r,i,x=>by simp[nQ,DI,PM.arg,nv r];omega
 | .row _ _::r,i,x=>by simp[nQ,DI,PM.arg,nv r];omega
 | .mrow _ _::r,i,x=>by simp[nQ,DI,PM.arg,nv r];omega
 | .map _ _::r,i,x=>by simp[nQ,DI,PM.arg,nv r];omega
 | .box _::r,i,x=>by simp[nQ,DI,PM.arg,nv r];omega
 | .ar _::r,i,x=>by simp[nQ,DI,PM.arg,nv r]
 | .arR _::r,i,x=>by simp[nQ,DI,PM.arg,nv r]
theorem uE:∀ {ps:List PM} {i:Nat} {x:gU ps} {t:Ty} {l:List t.den},mH ps=false→look (kg i ps x) bT≠some (.ar false t l)
 | [],i,x,t,l,_=>by simp[kg,look]
 | .val _::r,i,x,t,l,h=>uE (ps:=r) h
 | .row _ _::r,i,x,t,l,h=>uE (ps:=r) h
 | .mrow _ _::r,i,x,t,l,h=>uE (ps:=r) h
 | .map _ _::r,i,x,t,l,h=>by
  simp only[kg,aW]
  split
  ·simp
  ·exact uE (ps:=r) h
 | .box _::r,i,x,t,l,h=>by
  simp only[kg,dz]
  intro e
  rcases or_some e with e | ⟨_,e⟩
  ·obtain⟨_,_,_,e'⟩:=yY e;cases e'
  ·exact uE (ps:=r) h e
 | .ar _::r,i,x,t,l,h=>by simp[mH] at h
 | .arR _::r,i,x,t,l,h=>by
  simp only[kg,aW]
  split
  ·intro e;cases e
  ·exact uE (ps:=r) h
theorem afx {ps:List PM} (h:fo ps=true):mH ps=false:=by
 induction ps with
 | nil=>rfl
 | cons p r ih=>cases p<;>simp only[fo,ajK] at h<;>first | exact ih h.2 | cases h
theorem abt (hX:gw X) (hmix:X.P.follows .mixedOrders=true) {f:FuncId} {fn:Func} (sp:aK) (anns:List (Nat×Ann)) (ar:Option Ty) (hf:X.P.funcs[f]? =some fn) {G:Gh} {w:World} {ow:Nat→Option Nat} {args:List Value} {x:gU sp.ps} {y:dX sp.ps sp.rs}
 (hG:Agr G w) (how:∀ b i,ow b=some i→G b=none∧b<w.heap.size) (hargs:mb G w ow 0 sp.ps x args) (har:ar.isSome=true→G.hnd=(fun _=>none)∧mH sp.ps=false∧fo sp.ps=true) (hN:Sk X anns ar fn sp x=some y):
 Calls X.P f args.toArray w fun e w'=>∃ G' ow' vs,e= .returned (Jf vs)∧G.le G'∧Agr G' w'∧w.heap.size≤w'.heap.size∧w'.os=w.os∧w'.output=w.output∧
  (∀ b,b<w.heap.size→ow b=none→w'.heap[b]? =w.heap[b]? ∧G' b=G b)∧(∀ b i,ow' b=some i→G' b=none∧b<w'.heap.size∧(w.heap.size≤b∨ow b≠none))∧sI G' w' ow' sp.ps args 0 sp.rs y vs∧(mH sp.ps=false→ar=none→G'.hnd=G.hnd):=by
 unfold Sk at hN
 split at hN
 ·cases hN
 ·rename_i hcond
  simp only[ajY,amU,ajT] at hcond
  obtain⟨⟨hdO,hdC⟩,hnoh⟩:=hcond
  split at hN
  ·rename_i c hc
   obtain⟨vals,hvals,hpt,hst⟩:=rF hargs
   let pv:Nat→Value:=fun k=>match dB vals (.inr k) with | some v=>v | none=>(dB vals (.ob k)).getD undef
   let ρ:Env:=⟨fun k=>match dB vals (.inl k) with | some v=>SW v | none=>0,pv,fun b=>(ow b).bind (qz (ff 0 sp.ps)),pv,fun k=>K8 w (pv k)⟩
   have hA:∀ o v,(o,v)∈vals→Asg ρ w o v:=fun o v hm=>by
    have hl:=RU hvals hdO hm
    cases o with
    | inl k=>
     obtain⟨b,hb⟩:=hpt k v hm
     show v= .pointer (some ⟨match dB vals (.inl k) with | some v=>SW v | none=>0,0,none⟩)
     rw[hl,hb];rfl
    | inr j=>show (match dB vals (.inr j) with | some v=>v | none=>_)=v;rw[hl]
    | ob j=>
     intro b hb
     subst hb
     have hnr:dB vals (.inr j)=none:=by
      cases h1:dB vals (.inr j) with
      | none=>rfl
      | some v'=>
       obtain⟨n1,m1⟩:=Pg hvals (by rw[h1];simp)
       obtain⟨n2,m2⟩:=Pg hvals (o:= .ob j) (by rw[hl];simp)
       rcases DC m1 with ⟨k,e⟩ | e | e
       ·cases e
       ·cases e
       ·rcases DC m2 with ⟨k,e'⟩ | e' | e'
        ·cases e'
        ·cases e'
         rcases e with e | e
         ·have:bT=nid pD 0 0+n1:=by simpa using e
          simp only[bT,pD,nid] at this;omega
         ·cases e
        ·have h1:j=nid pD 0 0+n1:=by rcases e with e | e<;>cases e;rfl
         have h2:j=nid pD 0 0+n2:=by rcases e' with e' | e'<;>cases e';rfl
         have:n1=n2:=by omega
         subst this
         have:=ady hdC m1 m2
         cases this
     have hpv:pv j= .map (some b):=by
      show (match dB vals (.inr j) with | some v=>v | none=>(dB vals (.ob j)).getD undef)=_
      rw[hnr,hl];rfl
     refine⟨hpv,fun es clock hw i e' hi=> ?_⟩
     show (e'.born:Int)=K8 w (pv j) i
     rw[hpv]
     simp[K8,hw,hi]
   have hO:∀ o n,(o,n)∈ff 0 sp.ps→∀ b,ow b=some n→ρ.own b=some o:=fun o n hm b hb=>by
    show (ow b).bind (qz (ff 0 sp.ps))=_
    rw[hb];exact FH hdC hm
   obtain⟨hsv,hP,hpins⟩:=hst ρ hA hO
   let C:Fr:=⟨w.heap.size,ρ.bx,pv,fun b=>ow b≠none,w,G,mH sp.ps=false∧ar=none⟩
   have hlen:args.length=DI sp.ps:=by rw[hsv.len,nv]
   have hM:Mod C G ρ (Rx fn.ntmps ar sp.ps x) w { tmps:=args.toArray++Array.replicate (fn.ntmps - args.toArray.size) undef,defers:=[] }:=by
    refine { agr:=hG,le0:=Gh.le_refl G,old:=fun _ _ _=>rfl,frame:=fun _ _ _=>rfl,size:=alZ _,os:=rfl,output:=rfl,pin:=fun _ _=>rfl,pinR:=fun _ _=>⟨rfl,rfl⟩,owned:= ?_,boxes:=hP.bx,rows:=hP.rw,objs:= ?_,hndI:= ?_,tmps:=⟨?_, ?_⟩,defers:=rfl }
    ·intro b o ho
     cases hb:ow b with
     | none=>
      have ho':(ow b).bind (qz (ff 0 sp.ps))=some o:=ho
      rw[hb] at ho';cases ho'
     | some i=>exact⟨(how b i hb).1,(how b i hb).2,.inr (by show ow b≠none;rw[hb];simp)⟩
    ·intro j q hj
     cases ar with
     | none=>exact hP.ob j q hj
     | some t=>
      simp only[Rx,aW] at hj
      split at hj
      ·rename_i ej
       subst ej
       cases hj
       obtain⟨h1,_⟩:=har rfl
       refine⟨rfl,fun i b hb=>(by rw[h1] at hb;cases hb),fun i i' b hb=>(by rw[h1] at hb;cases hb),fun i z hz=>by simp at hz⟩
      ·exact hP.ob j q hj
    ·rintro⟨h1,h2⟩
     refine⟨rfl,fun t l=> ?_⟩
     subst h2
     exact uE h1
    ·simp[Rx,nv,hlen]
    ·intro i s hi
     simp only[Rx] at hi
     rw[List.getElem?_append] at hi
     rw[ajA,Array.getElem?_append]
     split at hi
     ·rename_i hlt
      obtain⟨v,hv,hsv'⟩:=hsv.get hi
      rw[nv] at hlt
      rw[amQ (by simpa [hlen] using hlt)]
      simpa [hv] using hsv'
     ·rw[akV] at hi
      split at hi
      ·cases hi;exact trivial
      ·cases hi
   refine calls_of_wp hf hc (aI (C:=C) hX hmix anns c hN (fun e S' G' ρ' w' a' hk hM'=> ?_) hM)
   have key:ends X fn sp S'=some y→a'.defers=[]∧∃ v,(results fn a'.tmps).run X.P w'= .ok v w'∧∃ G' ow' vs,Ending.returned v= .returned (Jf vs)∧G.le G'∧Agr G' w'∧w.heap.size≤w'.heap.size∧w'.os=w.os∧w'.output=w.output∧
    (∀ b,b<w.heap.size→ow b=none→w'.heap[b]? =w.heap[b]? ∧G' b=G b)∧(∀ b i,ow' b=some i→G' b=none∧b<w'.heap.size∧(w.heap.size≤b∨ow b≠none))∧sI G' w' ow' sp.ps args 0 sp.rs y vs∧(mH sp.ps=false→ar=none→G'.hnd=G.hnd):=by
    intro hk
    unfold ends at hk
    have hI:∃ G1 ρ1,Mod C G1 ρ1 (Lc X fn sp.rs S') w' a':=by
     unfold Lc
     split
     ·exact Mod.mz _ hM'
     ·exact⟨_,_,hM'⟩
    generalize Lc X fn sp.rs S'=S' at hk hI
    obtain⟨G',ρ',hM'⟩:=hI
    refine⟨hM'.defers, ?_⟩
    unfold aiw at hk
    split at hk
    ·rename_i l hl
     simp only at hk
     split at hk
     ·cases hk
     ·rename_i hd
      obtain⟨us,hr,hus⟩:=VI hM' hl
      generalize hjs:LY (SJ sp.rs l)++(aaR S' sp.rs l++aaY S' 0 sp.ps)=js at hk hd
      obtain⟨G2,ρ2,hfz,hM2⟩:=hM'.freeze js
      generalize hV:bE S' js=V at hk hd hM2
      generalize how':qC V 0 sp.rs l++oK V 0 sp.ps=owl at hk hd
      have hd':JP owl=false:=by simpa using hd
      have hus2:bD (bW G2 ρ2) l us:=hus.mono fun s v hs=>bW.congr hfz.le (o5.same hfz.bx hfz.rw hfz.ob hfz.st) hs
      have hpins2:je ρ2 0 sp.ps args:=hpins.congr (fun k hk=>hM2.pin k hk) (fun k hk=>hM2.pinR k hk)
      refine⟨_,adN hr,G2,gR ρ2 owl,us,rfl,hM2.le0,hM2.agr,hM2.size,hM2.os,hM2.output,fun b hb ho=>⟨hM2.frame b hb (by show ¬ ow b≠none;simp[ho]),hM2.old b hb (by show ¬ ow b≠none;simp[ho])⟩,fun b i hb=> ?_, ?_,fun h1 h2=>(hM2.hndI ⟨h1,h2⟩).1⟩
      ·unfold gR at hb
       cases ho:ρ2.own b with
       | none=>rw[ho] at hb;cases hb
       | some o=>exact hM2.owned b o ho
      ·refine aft hM2.toMem (fun y' hy'=>uy hM2.toMem hy' (fun z hz=>DJ hd' (by rw[← how'];simp[hz])) hpins2) sp.rs 0 (fun z hz=>DJ hd' (by rw[← how'];simp[hz])) hk hus2
    ·cases hk
   cases e with
   | normal=>exact key hk
   | ret=>exact key hk
   | exit id=>cases hk
  ·cases hN
theorem agD (hX:gw X) (hmix:X.P.follows .mixedOrders=true) {f:FuncId} {fn:Func} (sp:aK) (anns:List (Nat×Ann)) (ar:Option Ty) (hf:X.P.funcs[f]? =some fn)
 (h:∀ x y,sp.m x=some y→Sk X anns ar fn sp x=some y):aM X.P f sp:=by
 intro G w ow args x y hG how hargs hm
 have hN:=h x y hm
 cases ar with
 | none=>
  refine (abt hX hmix sp anns none hf hG how hargs (fun e=>by cases e) hN).mono ?_
  rintro e w' ⟨G',ow',vs,h1,h2,h3,h4,h5,h6,h7,h8,h9,h10⟩
  exact⟨G',ow',vs,h1,h2,h3,h4,h5,h6,h7,h8,h9,fun h=>h10 h rfl⟩
 | some t=>
  have hN0:=hN
  unfold Sk at hN0
  split at hN0
  ·cases hN0
  ·rename_i hcond
   simp only[ajY,amU,ajT,amv,aj0,ajS,ajK] at hcond
   obtain⟨_,hpn,hrn⟩:=hcond
   let G0:Gh:=⟨G.blk,fun _=>none⟩
   have hargs0:mb G0 w ow 0 sp.ps x args:=mb.bG (G:=G) (G':=G0) (fun _ _ h=>h) hpn hargs
   refine (abt hX hmix sp anns (some t) hf (G:=G0) hG how hargs0 (fun _=>⟨rfl,afx hpn,hpn⟩) hN).mono ?_
   rintro e w' ⟨G',ow',vs,h1,h2,h3,h4,h5,h6,h7,h8,h9,h10⟩
   refine⟨⟨G'.blk,G.hnd⟩,ow',vs,h1,⟨h2.blk,fun _ _ h=>h⟩,h3,h4,h5,h6,h7,h8,sI.bG (G:=G') (G':=⟨G'.blk,G.hnd⟩) (fun _ _ h=>h) hpn hrn h9,fun _=>rfl⟩
end Go.Dn
namespace Go.Dn
def w64 (n:Int):Int:=IntKind.wrap .i64 n
def tI:Ty:= .int .i64
def b8 (n:Int):Int:=IntKind.wrap .u64 n
def nN (n:Int):Int:=IntKind.wrap .u32 n
def Ty.fu:(t:Ty)→t.den→Nat→Nat
 | .int _,n,a=>Int.natAbs n+a
 | .bool,_,a=>a
 | .str,s,a=>List.length s+a
 | .unit,_,a=>a
 | .pair s t,x,a=>s.fu x.1 (t.fu x.2 a)
 | .st t,x,a=>t.fu x a
 | .slice _,l,a=>List.length l+a
 | .ptr t,x,a=>t.fu x a
 | .clo _ _,_,a=>a
 | .hnd,_,a=>a
def aT:(cs:List CK)→eA cs→Nat
 | [],_=>2
 | .val t::r,x=>t.fu x.1 (aT r x.2)
 | .own _ _::r,x=>x.1.length+aT r x.2
 | .map _ _::r,x=>x.1.length+aT r x.2
 | .ref _ _::r,x=>aT r x
 | .fn _ _::r,x=>aT r x
 | .ar _::r,x=>x.1.length+aT r x.2
 | .arF _::r,x=>aT r x.2
 | .rowR _::r,x=>aT r x
 | .mapR _::r,x=>aT r x
 | .rowC _ _ _::r,x=>x.1.length+aT r x.2
 | .mapC _ _ _::r,x=>x.1.length+aT r x.2
theorem dx {X β:Type} (n:Nat) (x:X) (f:X→(X→Option β)→Option β):iter (n+1) x f=f x fun y=>iter n y f:=rfl
end Go.Dn
namespace Go.Dn
def FI {α β:Type} (F:(α→Option β)→α→Option β):Nat→α→Option β
 | 0,_=>none
 | n+1,x=>F (FI F n) x
theorem Oa {P:Program} {specs:List (Nat×aK)} (hX:gw ⟨P,specs⟩) (hmix:P.follows .mixedOrders=true) {f:FuncId} {fn:Func} {ps:List PM} {rs:List RM} (F:(gU ps→Option (dX ps rs))→gU ps→Option (dX ps rs))
 (anns:List (Nat×Ann)) (ar:Option Ty) (hf:P.funcs[f]? =some fn) (hb:aA P f)
 (h:∀ self x,Sk ⟨P,(f,⟨ps,rs,self⟩)::specs⟩ anns ar fn ⟨ps,rs,F self⟩ x=F self x):∀ n,aM P f ⟨ps,rs,FI F n⟩
 | 0=>fun _ _ _ _ _ _ _ _ _ hm=>by cases hm
 | n+1=>by
  have ih:=Oa hX hmix F anns ar hf hb h n
  have hX':gw ⟨P,(f,⟨ps,rs,FI F n⟩)::specs⟩:=by
   intro g sp hg
   rcases ali.1 hg with e | e
   ·cases e;exact⟨ih,hb⟩
   ·exact hX g sp e
  exact agD (X:=⟨P,(f,⟨ps,rs,FI F n⟩)::specs⟩) hX' hmix ⟨ps,rs,FI F (n+1)⟩ anns ar hf (fun x y hm=>(h (FI F n) x).trans hm)
theorem T9 {P:Program} {f:FuncId} {ps:List PM} {rs:List RM} {m:Nat→gU ps→Option (dX ps rs)} (h:∀ n,aM P f ⟨ps,rs,m n⟩) (fuel:gU ps→Nat):aM P f ⟨ps,rs,fun x=>m (fuel x) x⟩:=
 fun G w ow args x y hG how ha hm=>(h (fuel x) G w ow args x y hG how ha hm).mono fun _ _ ⟨G',ow',vs,hg⟩=>⟨G',ow',vs,{ hg with }⟩
theorem adK {P:Program} {f:FuncId} {m:gU [.val .str,.val .str]→Option (dX [.val .str,.val .str] [.val .str])}
 (h:∀ (s c r:List UInt8) (w:World),m (s,c,())=some (r,())→Calls P f #[.string (bs s),.string (bs c)] w fun e w'=>e= .returned (.string (bs r))∧RowKit.Below w.heap.size w w'):aM P f ⟨[.val .str,.val .str],[.val .str],m⟩:=by
 intro G w ow args x y hG how ha hm
 obtain⟨s,c,u⟩:=x
 obtain⟨r,u'⟩:=y
 obtain⟨v,us,h1,_,hv,v',us',h2,_,hv',h3⟩:=ha
 have e1:=h1 rfl
 have e2:=h2 rfl
 have e3:us'=[]:=h3
 have e4:v= .string (bs s):=by simpa [NU,dA,bp] using hv
 have e5:v'= .string (bs c):=by simpa [NU,dA,bp] using hv'
 subst e1;subst e2;subst e3;subst e4;subst e5
 refine (h s c r w hm).mono ?_
 rintro e w' ⟨he,hb⟩
 refine⟨G,fun _=>none,[.string (bs r)], ?_⟩
 exact {
  ret:=he
  le:=Gh.le_refl G
  agr:=fun b o hbo=>by
   have hw:=hG b o hbo
   have hlt:b<w.heap.size:=by
    rcases al3 b w.heap.size with h | h
    ·exact h
    ·rw[Array.getElem?_eq_none h] at hw;cases hw
   rw[hb.block b hlt];exact hw
  size:=hb.size
  os:=hb.os
  output:=hb.output
  old:=fun b hlt _=>⟨hb.block b hlt,rfl⟩
  own:=fun b i hbi=>by cases hbi
  out:=⟨_,_,rfl,rfl,rfl,trivial⟩
  hnd:=fun _=>rfl }
end Go.Dn
namespace Go.Dn
theorem gw.nil (P:Program):gw ⟨P,[]⟩:=fun _ _ h=>by cases h
theorem gw.cons {P:Program} {f:FuncId} {sp:aK} {l:List (Nat×aK)} (h:aM P f sp) (hb:aA P f) (r:gw ⟨P,l⟩):gw ⟨P,(f,sp)::l⟩:=by
 intro g sp' hg
 rcases ali.1 hg with e | e
 ·cases e;exact⟨h,hb⟩
 ·exact r g sp' e
theorem ay {P:Program} {f:FuncId} {fn:Func} (h:P.funcs[f]? =some fn) (hb:fn.body.isSome=true) (hn:fn.name≠ "runtime.NumGoroutine"):aA P f:=⟨fn,h,hb,hn⟩
end Go.Dn
namespace Go.Dn
open Go.ChangeShapes Go.WideShapes Go.ChangeAt Go.RowKit
def Wf:(t:Ty)→t.den→Prop
 | .int k,n=>k.min≤(show Int from n)∧(show Int from n)≤k.max
 | .bool,_=>True
 | .str,s=>List.length s≤maxLen
 | .unit,_=>True
 | .pair a b,x=>Wf a x.1∧Wf b x.2
 | .st t,x=>Wf t x
 | .slice t,l=>List.length l≤maxLen∧∀ x,x∈(show List t.den from l)→Wf t x
 | .ptr _,_=>True
 | .clo _ _,_=>True
 | .hnd,_=>True
def Fits (P:Program):Nat→TypeId→Ty→Bool
 | 0,_,_=>false
 | d+1,T,t=>match P.underlying T,t with
  | some (.int k),.int k'=>decide (k=k')
  | some .bool,.bool=>true
  | some .string,.str=>true
  | some (.slice e),.slice t=>Nat.ble 1 t.size&&(Nat.beq (P.cellsOf e) t.size&&Fits P d e t)
  | some (.struct fs),.st t=>Nat.beq (P.cellsOf T) t.size&&fitsF (Fits P d) P fs.toList 0 t
  | _,_=>false
where
 fitsF (g:TypeId→Ty→Bool) (P:Program):List Field→Nat→Ty→Bool
 | [],_,_=>false
 | [f],off,t=>Nat.beq f.offset off&&(Nat.beq (P.cellsOf f.type) t.size&&g f.type t)
 | f::r,off,.pair a b=>Nat.beq f.offset off&&(Nat.beq (P.cellsOf f.type) a.size&&(g f.type a&&fitsF g P r (off+a.size) b))
 | _,_,_=>false
def Gw (w:World):Gh:=⟨fun b=>w.heap[b]?,fun _=>none⟩
theorem ajg (w:World):Agr (Gw w) w:=fun _ _ h=>h
theorem Ub {w:World} {base:Nat} {a:Addr} {n:Nat} {cs:List Value} (hn:0<n) (h:w.cells? base a n=some cs):
 ∃ c T fz,a.spot=none∧w.heap[a.block]? =some (.cells c T fz)∧a.off+n≤c.size∧cs=(c.toList.drop a.off).take n:=by
 obtain⟨_,hl,hc⟩:=World.cells?_some h
 have h0:=hc 0 hn
 have hlt:0<cs.length:=by omega
 rw[akQ hlt,show a.add 0=a from rfl] at h0
 unfold World.cell? at h0
 split at h0
 ·rename_i c T fz hb
  split at h0
  ·cases h0
  ·rename_i hs
   have hspot:a.spot=none:=by simpa using hs
   have hall:∀ i,i<n→c[a.off+i]? =cs[i]? :=by
    intro i hi
    have:=hc i hi
    rw[← this]
    unfold World.cell? Addr.add
    by_cases h:i=0
    ·subst h;simp[hb,hspot]
    ·simp[h,hb]
   refine⟨c,T,fz,hspot,hb, ?_, ?_⟩
   ·have h1:=hall (n - 1) (by omega)
    rw[akQ (show n - 1<cs.length by omega)] at h1
    have:=(ajC.1 h1).1
    omega
   ·apply akH
    intro i
    rw[akZ,akP]
    by_cases hi:i<n
    ·rw[amQ hi, ← hall i hi];simp
    ·rw[amP hi,akR (by omega)]
 ·cases h0
section
variable {H:Type} {enc:TypeId×Value→H} {P:Program} {w:World} {base:Nat} {spare:Nat→Bool} {held:Bool}
theorem afd {α:Type} {R:α→List Value→Prop} {sz:Nat} {c:List Value} {y:Nat→α} (off:Nat):∀ n,off+n*sz≤c.length→(∀ i,i<n→R (y i) ((c.drop (off+i*sz)).take sz))→cP R ((List.range n).map y) ((c.drop off).take (n*sz))
 | 0,_,_=>by simp[cP]
 | n+1,hle,h=>by
  rw[alD,ald,List.map_singleton]
  have e:(c.drop off).take ((n+1)*sz)=(c.drop off).take (n*sz)++(c.drop (off+n*sz)).take sz:=by
   rw[alQ,amf,List.take_add,akB]
  rw[e]
  refine cP.append (afd off n (by rw[alQ] at hle;omega) fun i hi=>h i (by omega)) ?_
  exact⟨_,[],by simp,h n (by omega),rfl⟩
theorem aeW:∀ (d:Nat) (T:TypeId) (t:Ty) (fuel:Nat) (cs:List Value) (x:DataW H×List MemPlace),Fits P d T t=true→DataW.trod enc P w base spare held fuel T cs=some x→
 ∃ y:t.den,bp (Gw w) t y cs∧Wf t y
 | 0,_,_,_,_,_,hf,_=>by cases hf
 | d+1,T,t,fuel,cs,x,hf,h=>by
  have ih:=fun T t fuel cs x=>aeW d T t fuel cs x
  unfold Fits at hf
  split at hf
  ·rename_i k k' hu
   obtain rfl:k=k':=amV hf
   obtain⟨n,rfl,_,hw⟩:=DataW.trod_int hu h
   refine⟨n,rfl, ?_⟩
   simp only[Lit.wf,ajK,amI] at hw
   exact hw
  ·rename_i hu
   obtain⟨b,rfl,_⟩:=DataW.trod_bool hu h
   exact⟨b,rfl,trivial⟩
  ·rename_i hu
   obtain⟨s,rfl,_,hw⟩:=DataW.trod_string hu h
   refine⟨s.data.toList, ?_,hw⟩
   simp[bp,bs]
  ·rename_i e t hu
   simp only[ajK] at hf
   have hsz:0<t.size:=alX hf.1
   have hce:P.cellsOf e=t.size:=alV hf.2.1
   rcases DataW.trod_slice hu h with ⟨rfl,_⟩ | ⟨a,len,cap,elems,rest,n,_,rfl,_,_,hl,hm,hlen,hel,_⟩
   ·exact⟨[],⟨_,rfl,none,0,rfl,alZ _,amm _,.inl rfl⟩,⟨amm _,fun x hx=>by cases hx⟩⟩
   ·have hone:∀ i,i<len→∃ y:t.den,(∃ cs',w.cells? base (a.add (i*t.size)) t.size=some cs'∧bp (Gw w) t y cs')∧Wf t y:=by
     intro i hi
     have h1:=hel i hi
     rw[akQ (by omega),hce] at h1
     obtain⟨cs',h2,h3⟩:=Option.bind_eq_some_iff.1 h1
     obtain⟨y,h4,h5⟩:=ih e t n cs' _ hf.2.2 h3
     exact⟨y,⟨cs',h2,h4⟩,h5⟩
    by_cases h0:len=0
    ·subst h0
     exact⟨[],⟨_,rfl,some a,cap,rfl,amm _,hm,.inl rfl⟩,⟨amm _,fun x hx=>by cases hx⟩⟩
    ·obtain⟨y0,_,_⟩:=hone 0 (by omega)
     have:∃ y:Nat→t.den,∀ i,i<len→(∃ cs',w.cells? base (a.add (i*t.size)) t.size=some cs'∧bp (Gw w) t (y i) cs')∧Wf t (y i):=by
      classical
      refine⟨fun i=>if hi:i<len then Classical.choose (hone i hi) else y0,fun i hi=> ?_⟩
      simp only[dif_pos hi]
      exact Classical.choose_spec (hone i hi)
     obtain⟨y,hy⟩:=this
     obtain⟨⟨cs0,hc0,_⟩,_⟩:=hy 0 (by omega)
     rw[amo,show a.add 0=a from rfl] at hc0
     obtain⟨c,T',fz,hspot,hb,_,_⟩:=Ub hsz hc0
     have hat:∀ i,i<len→a.off+i*t.size+t.size≤c.size∧bp (Gw w) t (y i) ((c.toList.drop (a.off+i*t.size)).take t.size):=by
      intro i hi
      obtain⟨⟨cs',h1,h2⟩,_⟩:=hy i hi
      obtain⟨c',T2,fz2,h3,h4,h5,h6⟩:=Ub hsz h1
      have hblk:(a.add (i*t.size)).block=a.block:=by unfold Addr.add;split<;>rfl
      have hoff:(a.add (i*t.size)).off=a.off+i*t.size:=by
       unfold Addr.add;split
       ·rename_i hz;rw[hz];rfl
       ·rfl
      rw[hblk,hb] at h4
      cases h4
      rw[hoff] at h5 h6
      exact⟨h5,h6 ▸ h2⟩
     have hend:a.off+len*t.size≤c.size:=by
      have:=(hat (len - 1) (by omega)).1
      have e:len*t.size=(len - 1)*t.size+t.size:=by
       conv=>lhs;rw[show len=len - 1+1 by omega]
       rw[alQ,amf]
      omega
     refine⟨(List.range len).map y,⟨_,rfl,some a,cap,by simp,by simpa using hl,hm,.inr ⟨a.block,a.off,c,T',fz, ?_,hb,by simpa using hend, ?_⟩⟩,⟨by simp only[ak5,ak9];omega,fun x hx=> ?_⟩⟩
     ·congr 1;cases a;cases hspot;rfl
     ·have:=afd (R:=bp (Gw w) t) (y:=y) (c:=c.toList) (sz:=t.size) a.off len (by simpa using hend) fun i hi=>(hat i hi).2
      simpa using this
     ·obtain⟨i,hi,rfl⟩:=alp.1 hx
      exact (hy i (by simpa using hi)).2
  ·rename_i fs t hu
   simp only[ajK] at hf
   obtain⟨xs,n,_,_,hlen,hxl,hx⟩:=DataW.trod_struct hu h
   have hct:P.cellsOf T=t.size:=alV hf.1
   have key:∀ (l:List Field) (k off:Nat) (t:Ty),fs.toList.drop k=l→Fits.fitsF (Fits P d) P l off t=true→off+t.size≤cs.length→
    ∃ y:t.den,bp (Gw w) t y ((cs.drop off).take t.size)∧Wf t y:=by
    intro l
    induction l with
    | nil=>intro k off t _ h2;cases h2
    | cons f r ihl=>
     intro k off t hk h2 hle
     have hfk:fs[k]? =some f:=by
      have:=congrArg (·[0]?) hk
      simpa [akP] using this
     have hxk:=hx k f hfk
     have hkl:k<xs.length:=by rw[hxl];exact (ajC.1 hfk).1
     rw[akQ hkl] at hxk
     have hdr:fs.toList.drop (k+1)=r:=by
      have:=congrArg List.tail hk
      simpa [alJ] using this
     cases r with
     | nil=>
      simp only[Fits.fitsF,ajK] at h2
      obtain⟨h3,h4,h5⟩:=h2
      rw[alV h3,alV h4] at hxk
      exact ih f.type t n _ _ h5 hxk
     | cons f' r'=>
      obtain⟨a,b,rfl⟩:∃ a b,t= .pair a b:=by
       cases t with
       | pair a b=>exact⟨a,b,rfl⟩
       | _=>simp[Fits.fitsF] at h2
      simp only[Fits.fitsF,ajK] at h2
      obtain⟨h3,h4,h5,h6⟩:=h2
      rw[alV h3,alV h4] at hxk
      obtain⟨y1,g1,g2⟩:=ih f.type a n _ _ h5 hxk
      simp only[Ty.size] at hle
      obtain⟨y2,g3,g4⟩:=ihl (k+1) (off+a.size) b hdr h6 (by omega)
      refine⟨(y1,y2),⟨_,_, ?_,g1,g3⟩,⟨g2,g4⟩⟩
      simp only[Ty.size]
      rw[List.take_add,akB]
   obtain⟨y,h1,h2⟩:=key fs.toList 0 0 t rfl hf.2 (by omega)
   refine⟨y, ?_,h2⟩
   rw[akF,alN (by omega)] at h1
   exact h1
  ·cases hf
theorem aii {r:Reach} {b0:Nat} {d:Nat} {T:TypeId} {t:Ty} {v:Value} {dd:DataW H} {ps:List MemPlace} (hf:Fits P d T t=true) (hval:Value.okWide P w r b0 T v) (h:DataW.Trod enc P w base spare held T v dd ps):
 ∃ y:t.den,dA (Gw w) t y v∧Wf t y:=by
 obtain⟨fuel,h⟩:=h
 obtain⟨y,h1,h2⟩:=aeW d T t fuel _ _ hf h
 refine⟨y, ?_,h2⟩
 cases d with
 | zero=>cases hf
 | succ d=>
  unfold Fits at hf
  split at hf
  ·rename_i hu;obtain⟨n,rfl⟩:=okWide_int hu hval;exact h1
  ·rename_i hu;obtain⟨n,rfl⟩:=okWide_bool hu hval;exact h1
  ·rename_i hu;obtain⟨n,rfl⟩:=okWide_string hu hval;exact h1
  ·rename_i hu;obtain⟨a,len,cap,rfl⟩:=okWide_slice hu hval;exact h1
  ·rename_i hu;obtain⟨c,rfl,_⟩:=okWide_struct hu hval;exact⟨c.toList,by simp,h1⟩
  ·cases hf
end
def pms:List Ty→List PM
 | []=>[]
 | t::r=> .val t::pms r
def af3:(ts:List Ty)→gU (pms ts)→Prop
 | [],_=>True
 | t::r,x=>Wf t x.1∧af3 r x.2
def SG (P:Program):List TypeId→List Ty→Bool
 | [],[]=>true
 | T::r,t::q=>Fits P 9 T t&&SG P r q
 | _,_=>false
theorem YN {H:Type} {enc:TypeId×Value→H} {P:Program} {w:World} {base:Nat} {spare:Nat→Bool} {held:Bool} {r:Reach} {b0:Nat}:∀ {Ts:List TypeId} {ts:List Ty} {vs:List Value} {ds:List (DataW H)} {ps:List MemPlace} {i:Nat},SG P Ts ts=true→
 (∀ (j:Nat) t v,Ts[j]? =some t→vs[j]? =some v→Value.okWide P w r b0 t v)→DataW.TrodAll enc P w base spare held Ts vs ds ps→
 ∃ x,mb (Gw w) w (fun _=>none) i (pms ts) x vs∧af3 ts x
 | [],[],[],[],_,_,_,_,_=>⟨(),rfl,trivial⟩
 | T::Ts,t::ts,v::vs,d::ds,ps,i,hf,hv,⟨p,q,h1,h2,_⟩=>by
  simp only[SG,ajK] at hf
  obtain⟨y,h3,h4⟩:=aii hf.1 (hv 0 T v rfl rfl) h1
  obtain⟨x,h5,h6⟩:=YN (i:=i+1) hf.2 (fun j t v ht hv'=>hv (j+1) t v ht hv') h2
  exact⟨(y,x),⟨v,vs,fun _=>rfl,fun h=>absurd h (by simp[PM.arg]),h3,h5⟩,⟨h4,h6⟩⟩
theorem law_calls {P:Program} {f:FuncId} {fn:Func} {ts:List Ty} {m:gU (pms ts)→Option (dX (pms ts) [.val .bool])} (ok:aM P f ⟨pms ts,[.val .bool],m⟩)
 (hm:∀ x,af3 ts x→∃ y,m x=some (true,y)) (hfit:SG P fn.params.toList ts=true) {tb:TypeId} (hres:fn.resultTypes= #[tb]) (htb:P.underlying tb=some .bool)
 (kids:Kids P (· <P.types.size)) (full:∀ t e,t<P.types.size→P.underlying t=some (.slice e)→0<P.cellsOf e) (hlt:∀ t∈fn.params.toList,t<P.types.size)
 {H:Type} {enc:TypeId×Value→H} {s:ChangeSpec} (hvars:s.vars=[]) {W:World} {base:Nat} {args:Array Value} {ds gs:List (DataW H)} {before:List MemPlace}
 (hspec:s.fn H (ds++[])={ results:=[.lit (.bool true)],args:=ds })
 (hval:∀ (j:Nat) t v,fn.params[j]? =some t→args[j]? =some v→Value.okWide P W .any base t v)
 (hW:DataW.Whole enc P fn.params.toList s.vars false W args.toList ds gs before):
 Calls P f args W fun e W'=>∃ v,e= .returned v∧s.post enc P fn false true false false W args v W':=by
 have hW':=hW
 obtain⟨p,q,hA,hV,hpq,hfz,hnd⟩:=hW
 rw[hvars] at hV
 have hg:gs=[]∧q=[]:=by
  cases gs with
  | nil=>exact⟨rfl,hV⟩
  | cons g gs=>exact absurd hV (by simp[DataW.TrodVars])
 obtain⟨rfl,rfl⟩:=hg
 rw[akx] at hpq
 subst hpq
 obtain⟨x,hx,hwf⟩:=YN (i:=0) hfit (fun j t v ht hv=>hval j t v (by simpa using ht) (by simpa using hv)) hA
 obtain⟨y,hy⟩:=hm x hwf
 refine (ok (Gw W) W (fun _=>none) args.toList x (true,y) (ajg W) (fun _ _ h=>by cases h) hx hy).mono ?_
 rintro e W' ⟨G',ow',vs,hgv⟩
 have hold:∀ b,b<W.heap.size→W'.heap[b]? =W.heap[b]? :=fun b hb=>(hgv.old b hb rfl).1
 have hplt:=hW'.lt
 obtain⟨v,us,rfl,hv,hus,_⟩:=hgv.out
 subst hus
 have hv':v= .bool true:=by simpa [afz,dA,bp] using hv
 subst hv'
 refine⟨.bool true,hgv.ret,ds,[],before,[],before,[],hW', ?_, ?_, ?_, ?_,fun h=>by cases h⟩
 ·rw[hspec,hres]
  exact trodAll_mk1 (shut_bool htb true)
 ·rw[hspec]
  have hsame:∀ z,z∈before→W.sameAt W' z:=by
   intro z hz
   have:=hplt z hz
   cases z with
   | cell b off=>simp only[World.sameAt,World.cell?];rw[hold b this]
   | map b=>exact hold b this
  have hre:=DataW.TrodAll.respare (spare':=fun b=>decide (b<W.heap.size)) kids full hlt hA (fun z hz=>by simpa using hplt z hz)
  have hcar:∀ {Ts:List TypeId} {vs:List Value} {ds:List (DataW H)} {ps:List MemPlace},DataW.TrodAll enc P W 0 (fun b=>decide (b<W.heap.size)) true Ts vs ds ps→(∀ z,z∈ps→W.sameAt W' z)→DataW.TrodAll enc P W' 0 (fun b=>decide (b<W.heap.size)) true Ts vs ds ps:=by
   intro Ts
   induction Ts with
   | nil=>
    intro vs ds ps h _
    cases vs<;>cases ds<;>first | exact h | exact absurd h (by simp[DataW.TrodAll])
   | cons T Ts ih=>
    intro vs ds ps h hs
    cases vs with
    | nil=>cases ds<;>exact absurd h (by simp[DataW.TrodAll])
    | cons v vs=>cases ds with
    | nil=>exact absurd h (by simp[DataW.TrodAll])
    | cons d ds=>
    obtain⟨p,q,⟨n,h1⟩,h2,rfl⟩:=h
    exact⟨p,q,⟨n,DataW.trod_carry n _ _ _ h1 fun z hz=>hs z (List.mem_append_left _ hz)⟩,ih h2 (fun z hz=>hs z (List.mem_append_right _ hz)),rfl⟩
  exact hcar hre hsame
 ·rw[hspec,hvars];rfl
 ·refine⟨hgv.os,hgv.output,fun i hi=> ?_⟩
  rw[hold i hi]
  cases hh:W.heap[i]? with
  | none=>trivial
  | some o=>cases o<;>simp[World.keptBut]
end Go.Dn
namespace Go.Dn
theorem Ui {H:Type} {enc:TypeId×Value→H} {P:Program} {w:World} {base:Nat} {spare:Nat→Bool} {held:Bool}:∀ {Ts:List TypeId} {vs:List Value} {ds:List (DataW H)} {ps:List MemPlace},DataW.TrodAll enc P w base spare held Ts vs ds ps→ds.length=Ts.length
 | [],[],[],_,_=>rfl
 | _::_,_::_,_::_,_,⟨_,_,_,h,_⟩=>by rw[ak3,ak3,Ui h]
def ain:Nat→DataW Unit→List Value
 | d+1,.agg l=>l.flatMap (ain d)
 | _,.lit (.int k n)=>[.int k n]
 | _,.lit (.bool b)=>[.bool b]
 | _,_=>[]
def ai0 (P:Program) (l:List (String×DataW Unit)) (w:World):World:=
 l.foldl (fun w p=>match P.globalNamed p.1 with
  | some g=>{ w with heap:=w.heap.modify g fun
   | .cells _ t fr=> .cells (ain 9 p.2).toArray t fr
   | o=>o }
  | none=>w) w
end Go.Dn
namespace Go.Dn
open Go.Proofs Go.Shelf
section
variable {P:Program} {G:Gh} {w w':World} {ow:Nat→Option Nat} {e:TypeId}
end
end Go.Dn
namespace Go.Dn
theorem ahB {P:Program} {f:FuncId} {t:Ty} {m:gU [.val .str,.val .str]→Option (dX [.val .str,.val .str] [.val t])}
 (h:∀ (s c:List UInt8) (r:t.den) (w:World),m (s,c,())=some (r,())→∃ v,(∀ G:Gh,dA G t r v)∧Calls P f #[.string (bs s),.string (bs c)] w fun e w'=>e= .returned v∧RowKit.Below w.heap.size w w'):aM P f ⟨[.val .str,.val .str],[.val t],m⟩:=by
 intro G w ow args x y hG how ha hm
 obtain⟨s,c,u⟩:=x
 obtain⟨r,u'⟩:=y
 obtain⟨v,us,h1,_,hv,v',us',h2,_,hv',h3⟩:=ha
 have e1:=h1 rfl
 have e2:=h2 rfl
 have e3:us'=[]:=h3
 have e4:v= .string (bs s):=by simpa [NU,dA,bp] using hv
 have e5:v'= .string (bs c):=by simpa [NU,dA,bp] using hv'
 subst e1;subst e2;subst e3;subst e4;subst e5
 obtain⟨z,hz,hc⟩:=h s c r w hm
 refine hc.mono ?_
 rintro e w' ⟨he,hb⟩
 refine⟨G,fun _=>none,[z], ?_⟩
 exact {
  ret:=he
  le:=Gh.le_refl G
  agr:=fun b o hbo=>by
   have hw:=hG b o hbo
   have hlt:b<w.heap.size:=by
    rcases al3 b w.heap.size with h | h
    ·exact h
    ·rw[Array.getElem?_eq_none h] at hw;cases hw
   rw[hb.block b hlt];exact hw
  size:=hb.size
  os:=hb.os
  output:=hb.output
  old:=fun b hlt _=>⟨hb.block b hlt,rfl⟩
  own:=fun b i hbi=>by cases hbi
  out:=⟨_,_,rfl,hz G,rfl,trivial⟩
  hnd:=fun _=>rfl }
end Go.Dn
namespace Go.Dn
def Ih (l:List (List UInt8)):Option (List (List UInt8)×Unit):=bif decide (l.length<4294967296) then some (l.mergeSort fun x y=>decide (x≤y),()) else none
def IA (l:List (List UInt8)):Option (List (List UInt8)×Unit):=bif decide (l.length<4294967296) then some (Lib.compact l,()) else none
end Go.Dn
namespace Go.Dn
def Sy (b:Nat) {α:Type} (l:List α) (n:Int):Option (List α×Unit):=bif decide (0≤n)&&decide ((l.length+n.toNat)*b≤140737488355328)&&decide (l.length+n.toNat≤4611686018427387904) then some (l,()) else none
end Go.Dn
namespace Go.Dn
open Go.Proofs Go.Shelf Go.Sort
theorem Fo {G:Gh}:∀ {l:List (List UInt8)} {cs:List Value},cP (bp G .str) l cs↔cs=l.map encStr
 | [],cs=>by simp[cP]
 | x::l,cs=>by
  simp only[cP,alf]
  constructor
  ·rintro⟨c,r,e,h1,h2⟩
   have h1':c=[.string (bs x)]:=h1
   rw[Fo] at h2
   subst h1';subst h2;exact e
  ·rintro rfl
   exact⟨[.string (bs x)],l.map encStr,rfl,rfl,Fo.2 rfl⟩
theorem aeu (l:List (List UInt8)):(Lib.compact l).length≤l.length:=by
 unfold Lib.compact Lib.compactUpTo
 rw[ak5]
 have:=ak4 (Lib.keeps l.toArray) (List.range l.length)
 rwa [ak9] at this
section
variable {P:Program}
theorem ag8 {ρ:Ren} (L:Lays.n190 P ρ) {G:Gh} {w:World} {ow:Nat→Option Nat} {l r:List (List UInt8)} {s:Value} (hG:Agr G w) (how:∀ b i,ow b=some i→G b=none∧b<w.heap.size)
 (hown:w.ownsRow 0 (ρ.t 9) 1 s l.length (l.map encStr)) (hobl:∀ b,s.ownBlock=some b→ow b=some (64*0)) (hm:Ih l=some (r,())):
 Calls P (ρ.f 190) #[s] w fun e w'=>∃ G' ow' vs,WG G w ow ⟨[.mrow (ρ.t 9) .str],[],fun x=>Ih x.1⟩ [s] (r,()) e w' G' ow' vs:=by
 unfold Ih at hm
 cases hb0:decide (l.length<4294967296) with
 | false=>rw[hb0] at hm;cases hm
 | true=>
  rw[hb0] at hm
  simp only[amE,Option.some.injEq,Prod.mk.injEq,and_true] at hm
  have hlt:l.length<4294967296:=amV hb0
  rcases hown.2 with ⟨rfl,hl0⟩ | ⟨g,cap,cur,rfl,hbase,hb,h1,h2,h3,h4⟩
  ·have hl:l=[]:=akG hl0
   have hr:r=[]:=by rw[← hm,hl];simp
   refine (Any.slices_Sort_string_none L none 0 w).mono ?_
   rintro e w' ⟨he,rfl⟩
   refine⟨G,fun _=>none,[], ?_⟩
   exact {
    ret:=he
    le:=Gh.le_refl G
    agr:=hG
    size:=alZ _
    os:=rfl
    output:=rfl
    old:=fun b _ _=>⟨rfl,rfl⟩
    own:=fun b i hbi=>by cases hbi
    out:=⟨rfl,⟨_,rfl,⟨[],⟨by rw[hr];rfl,.inl ⟨rfl,by rw[hr];rfl⟩⟩,by rw[hr];rfl⟩,fun b hb=>by cases hb⟩,trivial⟩
    hnd:=fun _=>rfl }
  ·have h4':cur.toList.take l.length=List.map encStr l:=by simpa using h4
   have hgs:g<w.heap.size:=(ajC.1 hb).1
   have hgOw:ow g=some (64*0):=hobl g rfl
   have hgG:=(how g _ hgOw).1
   refine (Any.slices_Sort_string L g 0 cap l w (holds_of_block hb h4') hgs (by omega)).mono ?_
   rintro e w' ⟨he,n,os,hw⟩
   rw[hm] at hw
   have hrl:r.length=l.length:=by rw[← hm,ak6]
   have hgr:=grownBy_sorted (w:=w) (g:=g) (n:=n) (os:=os) r.toArray
   rw[← hw] at hgr
   obtain⟨q1,q2,q3,q4,q5⟩:=hgr
   have hrow:=ownsRow_sorted (base:=0) (n:=n) (os:=os) (ss:=l) (ts:=r) hrl (amm _) hb h1 h2 (by simpa using h3)
   rw[← hw] at hrow
   refine⟨G,fun b=>if b=g then some (64*0) else none,[], ?_⟩
   exact {
    ret:=he
    le:=Gh.le_refl G
    agr:=fun b o hbo=>by
     have hwb:=hG b o hbo
     have hne:b≠g:=fun e=>by rw[e,hgG] at hbo;cases hbo
     rw[q5 b (gO hwb) (fun e=>hne (Option.some.inj e))];exact hwb
    size:=q4
    os:=by rw[hw];rfl
    output:=by rw[hw];rfl
    old:=fun b hbs hob=>by
     have hne:b≠g:=fun e=>by rw[e,hgOw] at hob;cases hob
     exact⟨q5 b hbs (fun e=>hne (Option.some.inj e)),rfl⟩
    own:=fun b i hbi=>by
     by_cases e:b=g
     ·subst e;exact⟨hgG,by omega,.inr (by rw[hgOw];simp)⟩
     ·simp only[e,amO] at hbi;cases hbi
    out:=⟨rfl,⟨_,rfl,⟨List.map encStr r,by show w'.ownsRow 0 (ρ.t 9) 1 (.slice (some ⟨g,0,none⟩) l.length cap) r.length (List.map encStr r);rw[hrl];exact hrow,Fo.2 rfl⟩,fun b hbv=>by
     have:some g=some b:=hbv
     cases this
     show (if g=g then some (64*0) else none)=_
     simp⟩,trivial⟩
    hnd:=fun _=>rfl }
theorem Yf {ρ:Ren} (L:Lays.n190 P ρ):aM P (ρ.f 190) ⟨[.mrow (ρ.t 9) .str],[],fun x=>Ih x.1⟩:=by
 intro G w ow args x y hG how ha hm
 obtain⟨l,u⟩:=x
 obtain⟨r,u'⟩:=y
 obtain⟨s,us,a1,_,⟨⟨xs,hown,hrep⟩,hobl⟩,a4⟩:=ha
 have e1:=a1 rfl
 have e4:us=[]:=a4
 subst e1;subst e4
 have e6:xs=List.map encStr (l:List (List UInt8)):=(Fo (G:=G)).1 hrep
 subst e6
 exact ag8 (l:=l) (r:=r) L hG how hown hobl hm
theorem aa1 {ρ:Ren} (L:Lays.n194 P ρ) {G:Gh} {w:World} {ow:Nat→Option Nat} {l r:List (List UInt8)} {s:Value} (hG:Agr G w) (how:∀ b i,ow b=some i→G b=none∧b<w.heap.size)
 (hown:w.ownsRow 0 (ρ.t 9) 1 s l.length (l.map encStr)) (hobl:∀ b,s.ownBlock=some b→ow b=some (64*0)) (hm:IA l=some (r,())):
 Calls P (ρ.f 194) #[s] w fun e w'=>∃ G' ow' vs,WG G w ow ⟨[.row (ρ.t 9) .str],[.row (ρ.t 9) .str],fun x=>IA x.1⟩ [s] (r,()) e w' G' ow' vs:=by
 unfold IA at hm
 cases hb0:decide (l.length<4294967296) with
 | false=>rw[hb0] at hm;cases hm
 | true=>
  rw[hb0] at hm
  simp only[amE,Option.some.injEq,Prod.mk.injEq,and_true] at hm
  have hlt:l.length<4294967296:=amV hb0
  rcases hown.2 with ⟨rfl,hl0⟩ | ⟨g,cap,cur,rfl,hbase,hb,h1,h2,h3,h4⟩
  ·have hl:l=[]:=akG hl0
   have hr:r=[]:=by rw[← hm,hl];rfl
   refine (Any.slices_Compact_string_empty L none 0 w).mono ?_
   rintro e w' ⟨he,rfl⟩
   refine⟨G,fun _=>none,[.slice none 0 0], ?_⟩
   exact {
    ret:=he
    le:=Gh.le_refl G
    agr:=hG
    size:=alZ _
    os:=rfl
    output:=rfl
    old:=fun b _ _=>⟨rfl,rfl⟩
    own:=fun b i hbi=>by cases hbi
    out:=⟨_,[],rfl,⟨⟨[],⟨by rw[hr];rfl,.inl ⟨rfl,by rw[hr];rfl⟩⟩,by rw[hr];rfl⟩,fun b hb=>by cases hb⟩,rfl,trivial⟩
    hnd:=fun _=>rfl }
  ·have h4':cur.toList.take l.length=List.map encStr l:=by simpa using h4
   have hgs:g<w.heap.size:=(ajC.1 hb).1
   have hgOw:ow g=some (64*0):=hobl g rfl
   have hgG:=(how g _ hgOw).1
   refine (Any.slices_Compact_string L g 0 cap l w (holds_of_block hb h4') (by omega) h1).mono ?_
   rintro e w' ⟨he,n,hw⟩
   have hcl:=aeu l
   have hrr:r=Lib.compact l:=hm.symm
   rw[← hrr] at he hw hcl
   have hgr:=grownBy_sorted (w:=w) (g:=g) (n:=n) (os:= #[]) (r++List.replicate (l.length - r.length) []).toArray
   rw[grow_empty, ← hw] at hgr
   obtain⟨q1,q2,q3,q4,q5⟩:=hgr
   have hrow:=ownsRow_sorted (base:=0) (n:=n) (os:= #[]) (ss:=l) (ts:=r++List.replicate (l.length - r.length) []) (by simp;omega) (amm _) hb h1 h2 (by simpa using h3)
   rw[grow_empty, ← hw] at hrow
   have hrow2:w'.ownsRow 0 (ρ.t 9) 1 (.slice (some ⟨g,0,none⟩) r.length cap) r.length (List.map encStr r):=by
    rcases hrow.2 with ⟨hx,_⟩ | ⟨g2,cap2,cur2,hv,_,hb2,_,_,k3,k4⟩
    ·cases hx
    ·cases hv
     refine⟨by simp,.inr ⟨g,cap,cur2,rfl,amm _,hb2,by omega,h2,k3, ?_⟩⟩
     rw[Nat.mul_one] at k4 ⊢
     have:=congrArg (List.take r.length) k4
     rw[alO,al8 hcl,ald] at this
     rw[this]
     have e:r.length=(List.map encStr r).length:=by simp
     rw[e,alM]
   refine⟨G,fun b=>if b=g then some (64*24) else none,[.slice (some ⟨g,0,none⟩) r.length cap], ?_⟩
   exact {
    ret:=he
    le:=Gh.le_refl G
    agr:=fun b o hbo=>by
     have hwb:=hG b o hbo
     have hne:b≠g:=fun e=>by rw[e,hgG] at hbo;cases hbo
     rw[q5 b (gO hwb) (fun e=>hne (Option.some.inj e))];exact hwb
    size:=q4
    os:=by rw[hw];rfl
    output:=by rw[hw];rfl
    old:=fun b hbs hob=>by
     have hne:b≠g:=fun e=>by rw[e,hgOw] at hob;cases hob
     exact⟨q5 b hbs (fun e=>hne (Option.some.inj e)),rfl⟩
    own:=fun b i hbi=>by
     by_cases e:b=g
     ·subst e;exact⟨hgG,by omega,.inr (by rw[hgOw];simp)⟩
     ·simp only[e,amO] at hbi;cases hbi
    out:=⟨_,[],rfl,⟨⟨List.map encStr r,hrow2,Fo.2 rfl⟩,fun b hbv=>by
     have:some g=some b:=hbv
     cases this
     show (if g=g then some (64*24) else none)=_
     simp⟩,rfl,trivial⟩
    hnd:=fun _=>rfl }
theorem Tx {ρ:Ren} (L:Lays.n194 P ρ):aM P (ρ.f 194) ⟨[.row (ρ.t 9) .str],[.row (ρ.t 9) .str],fun x=>IA x.1⟩:=by
 intro G w ow args x y hG how ha hm
 obtain⟨l,u⟩:=x
 obtain⟨r,u'⟩:=y
 obtain⟨s,us,a1,_,⟨⟨xs,hown,hrep⟩,hobl⟩,a4⟩:=ha
 have e1:=a1 rfl
 have e4:us=[]:=a4
 subst e1;subst e4
 have e6:xs=List.map encStr (l:List (List UInt8)):=(Fo (G:=G)).1 hrep
 subst e6
 exact aa1 (l:=l) (r:=r) L hG how hown hobl hm
end
end Go.Dn
namespace Go.Dn
open Go.Proofs Go.Shelf
section
variable {P:Program} {G:Gh} {w w':World} {ow:Nat→Option Nat} {e:TypeId} {t:Ty}
def acT (e:TypeId) (t:Ty) (b:Nat):aK:=⟨[.row e t,.val tI],[.row e t],fun x=>Sy b (show List t.den from x.1) x.2.1⟩
theorem Si {b:Nat} {args:List Value} {L:List t.den} {g cap:Nat} {cur':Array Value} {xs:List Value} (hagr:Agr G w) (h1:w'.heap[g]? =some (.cells cur' e (0,0))) (h2:L.length≤cap) (h3:cap≤maxLen) (h4:cur'.size=cap*t.size) (h5:cur'.toList.take (L.length*t.size)=xs) (hx:xs.length=L.length*t.size) (hrep:cP (bp G t) L xs)
 (hos:w'.os=w.os) (hout:w'.output=w.output) (hsz:w.heap.size≤w'.heap.size) (hoth:∀ k,k<w.heap.size→k≠g→w'.heap[k]? =w.heap[k]?) (hG:G g=none) (hnew:w.heap.size≤g∨ow g≠none):
 ∃ G' ow' vs,WG G w ow (acT e t b) args (L,()) (.returned (.slice (some ⟨g,0,none⟩) L.length cap)) w' G' ow' vs:=by
 refine⟨G,fun b=>if b=g then some (64*24) else none,[.slice (some ⟨g,0,none⟩) L.length cap], ?_⟩
 exact {
  ret:=rfl
  le:=Gh.le_refl G
  agr:=fun b o hb=>by
   have hw:=hagr b o hb
   have hne:b≠g:=fun e=>by rw[e,hG] at hb;cases hb
   rw[hoth b (gO hw) hne];exact hw
  size:=hsz
  os:=hos
  output:=hout
  old:=fun b hb hob=>by
   have hne:b≠g:=fun e=>by
    subst e
    rcases hnew with h | h
    ·omega
    ·exact h hob
   exact⟨hoth b hb hne,rfl⟩
  own:=fun b i hb=>by
   by_cases e:b=g
   ·subst e;exact⟨hG,gO h1,hnew⟩
   ·simp only[e,amO] at hb;cases hb
  out:=by
   refine⟨_,[],rfl,⟨⟨xs,⟨hx,.inr ⟨g,cap,cur',rfl,amm _,h1,h2,h3,h4,h5⟩⟩,hrep⟩,fun b hb=> ?_⟩,rfl,trivial⟩
   have:some g=some b:=hb
   cases this
   show (if g=g then some (64*24) else none)=_
   simp
  hnd:=fun _=>rfl }
theorem agq {ρ:Ren} (L:Lays8.n4 P ρ) {i0:TypeInfo} {z:Value} (hi0:P.info? (ρ.t 25)=some i0) (hz0:i0.zero=some z) (hs0:0<i0.size) (hst:i0.size=t.size) (hzc:z.cells.size=i0.size) {l r:List t.den} {n:Int} {s:Value} {xs:List Value}
 (hG:Agr G w) (how:∀ b i,ow b=some i→G b=none∧b<w.heap.size) (hown:w.ownsRow 0 (ρ.t 25) t.size s l.length xs) (hrep:cP (bp G t) l xs) (hobl:∀ b,s.ownBlock=some b→ow b=some (64*0)) (hm:Sy i0.bytes l n=some (r,())):
 Calls P (ρ.f 4) #[s,.int .i64 n] w fun e w'=>∃ G' ow' vs,WG G w ow (acT (ρ.t 25) t i0.bytes) [s,.int .i64 n] (r,()) e w' G' ow' vs:=by
 unfold Sy at hm
 cases hb:(decide (0≤n)&&decide ((l.length+n.toNat)*i0.bytes≤140737488355328)&&decide (l.length+n.toNat≤4611686018427387904)) with
 | false=>rw[hb] at hm;cases hm
 | true=>
  rw[hb] at hm
  simp only[amE,Option.some.injEq,Prod.mk.injEq,and_true] at hm
  subst hm
  simp only[ajK,amI] at hb
  obtain⟨⟨b1,b2⟩,b3⟩:=hb
  obtain⟨k,rfl⟩:∃ k:Nat,n=(k:Int):=⟨n.toNat,by omega⟩
  rw[akq] at b2 b3
  have hGnew:G w.heap.size=none:=by
   cases h:G w.heap.size with
   | none=>rfl
   | some o=>have:=gO (hG _ _ h);omega
  have hmax:l.length+k≤maxLen:=by simp only[maxLen];omega
  rcases hown.2 with ⟨rfl,hl0⟩ | ⟨g,cap,cur,rfl,_,hgb,hln,hcm,hcs,hct⟩
  ·have hl:l=[]:=akG hl0
   subst hl
   have hxs:xs=[]:=akG (by rw[hown.1];simp)
   subst hxs
   by_cases hk:k=0
   ·subst hk
    refine (Any8.slices_Grow_room L none 0 0 0 w (alZ _) (by omega) (by omega) (alZ _)).mono ?_
    rintro e w' ⟨rfl,rfl⟩
    refine⟨G,fun _=>none,[.slice none 0 0], ?_⟩
    exact {
     ret:=rfl
     le:=Gh.le_refl G
     agr:=hG
     size:=alZ _
     os:=rfl
     output:=rfl
     old:=fun b _ _=>⟨rfl,rfl⟩
     own:=fun b i hbi=>by cases hbi
     out:=⟨_,[],rfl,⟨⟨[],⟨by simp,.inl ⟨rfl,rfl⟩⟩,hrep⟩,fun b hb=>by cases hb⟩,rfl,trivial⟩
     hnd:=fun _=>rfl }
   ·refine (Any8.slices_Grow_grow L i0 z hi0 hz0 hs0 none 0 0 k [] w (alZ _) (by omega) (by simpa using b2) (by simpa using b3) (by simp) (fun _=>rfl) (fun a h=>by cases h)).mono ?_
    rintro e w' ⟨rfl,rfl⟩
    have c1:=grownCap_ge w (0+k) 0 (ρ.t 25)
    have c2:=grownCap_le_maxLen w (0+k) 0 (ρ.t 25) (by simpa using hmax)
    refine Si (L:=([]:List t.den)) (xs:=[]) hG (heap_alloc_new w.drew _) (amm _) c2 ?_ (by simp) (by simp) hrep rfl rfl (by simp) (fun q hq hne=>heap_alloc_old w.drew _ hq) hGnew (.inl (alZ _))
    simp only[Array.size_append,size_zeroCells,hzc,hst]
    simp only[alG,ak7,amk,Nat.sub_zero] at c1 ⊢
    rw[← alQ];congr 1;omega
  ·have hgOw:ow g=some (64*0):=hobl g rfl
   have hGg:=(how g _ hgOw).1
   have hc63:cap≤9223372036854775807:=by simp only[maxLen] at hcm;omega
   by_cases hroom:l.length+k≤cap
   ·refine (Any8.slices_Grow_room L (some ⟨g,0,none⟩) l.length cap k w hln hc63 (by omega) hroom).mono ?_
    rintro e w' ⟨rfl,rfl⟩
    exact Si hG hgb hln hcm hcs hct hown.1 hrep rfl rfl (alZ _) (fun _ _ _=>rfl) hGg (.inr (by rw[hgOw];simp))
   ·refine (Any8.slices_Grow_grow L i0 z hi0 hz0 hs0 (some ⟨g,0,none⟩) l.length cap k cur.toList w hln (by omega) b2 b3 (by rw[hst];simpa using hcs) (fun h=>by cases h) (fun a h j v hj=>by
     cases h
     rw[Addr.add_lit]
     simp[World.cell?,hgb]
     simpa using hj)).mono ?_
    rintro e w' ⟨rfl,rfl⟩
    have c1:=grownCap_ge w (l.length+k) cap (ρ.t 25)
    have c2:=grownCap_le_maxLen w (l.length+k) cap (ρ.t 25) hmax
    refine Si (L:=l) (xs:=xs) hG (heap_alloc_new w.drew _) (by omega) c2 ?_ ?_ hown.1 hrep rfl rfl (by simp) (fun q hq hne=>heap_alloc_old w.drew _ hq) hGnew (.inl (alZ _))
    ·simp only[Array.size_append,size_zeroCells,hzc,hst,alG,Array.length_toList,hcs]
     rw[← alQ, ← alQ];congr 1;omega
    ·rw[← hct]
     simp only[Array.toList_append,akw]
     rw[List.take_append_of_le_length (by
      simp only[Array.length_toList,hcs]
      exact amd _ hln)]
theorem aiO {ρ:Ren} (L:Lays8.n4 P ρ) {i0:TypeInfo} {z:Value} (hi0:P.info? (ρ.t 25)=some i0) (hz0:i0.zero=some z) (hs0:0<i0.size) (hst:i0.size=t.size) (hzc:z.cells.size=i0.size):aM P (ρ.f 4) (acT (ρ.t 25) t i0.bytes):=by
 intro G w ow args x y hG how ha hm
 obtain⟨l,i,u⟩:=x
 obtain⟨r,u'⟩:=y
 obtain⟨s,us,a1,_,⟨⟨xs,hown,hrep⟩,hobl⟩,iv,us2,a2,_,hiv,a4⟩:=ha
 have e1:=a1 rfl
 have e2:=a2 rfl
 have e4:us2=[]:=a4
 have e5:iv= .int .i64 i:=by simpa [NU,dA,bp,tI] using hiv
 subst e1;subst e2;subst e4;subst e5
 exact agq (l:=l) (r:=r) (n:=i) L hi0 hz0 hs0 hst hzc hG how hown hrep hobl hm
end
end Go.Dn
