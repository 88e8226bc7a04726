/-
  The executor, its fifth part: whole functions are sound; a law whose plain model is always true holds. No condition.
-/
import Derived.Test.YtilaijcbckgmmaaGreatDoorYe
import Derived.ReadAgain
import Derived.ChangeSame
import Derived.ChangeArms
import Derived.ChangeOld
import Derived.OpenShut
import Derived.ProofKit
import Derived.WalkKit
import Derived.Deep.DeepHandedRow
import Derived.Lib.LaidTab
import Derived.Shelf.Spec.SlicesInsertGrow
import Derived.Shelf.Vars
import Derived.Sort.Grow
import Derived.Deep.Draws
import Derived.Shelf.SlSortCmp.NoneTotal
import Derived.Stop.LaidErr
set_option linter.all false
namespace Go.Dn
variable {X:Cx} {C:Fr X.P}
def Ex.CT:Ex→Exit
 | .normal=> .normal
 | .exit id=> .exit id
 | .ret=> .ret
theorem MM {β:Type} {A:Ann} {c:Code} {len:Nat} {anns:List (Nat×Ann)} {K:Ex→St→Option β} {r:β} {Q:Exit→Act→World→Prop}
 (ih:∀ {S:St} {K:Ex→St→Option β} {r:β},den X anns c β S K=some r→∀ {Q:Exit→Act→World→Prop},
   (∀ e S' G ρ w a,K e S'=some r→Mod C G ρ S' w a→Q e.CT a w)→∀ {G ρ w a},Mod C G ρ S w a→c.wp X.P Q a w)
 (hQ:∀ e S' G ρ w a,K e S'=some r→Mod C G ρ S' w a→Q e.CT a w):∀ (n:Nat) (x:cu A.cks) (G:Gh) (ρ:Env) (w:World) (a:Act),
 iter n x (fun x again=>den X anns c β (head A len x) fun e S'=>match e with
  | .normal=>match carry A S' with
   | some y=>bif Nat.beq S'.tmps.length len then again y else none
   | none=>none
  | .exit j=>K (.exit j) S'
  | .ret=>K .ret S')=some r→Mod C G ρ (head A len x) w a→Code.rounds X.P c Q n a w
 | 0,x,G,ρ,w,a,h,hM=>by simp[iter] at h
 | n+1,x,G,ρ,w,a,h,hM=>by
  simp only[iter] at h
  refine ih h (fun e S' G' ρ' w' a' hk hM'=> ?_) hM
  cases e with
  | normal=>
   simp only at hk
   split at hk
   ·rename_i y hy
    cases hb:Nat.beq S'.tmps.length len with
    | false=>rw[hb] at hk;cases hk
    | true=>
     rw[hb] at hk
     simp only[Zk] at hk
     obtain⟨G2,ρ2,h2⟩:=Li hM' hy
     rw[YI hb] at h2
     exact MM ih hQ n y G2 ρ2 w' a' hk h2
   ·cases hk
  | exit id=>exact hQ (.exit id) S' G' ρ' w' a' hk hM'
  | ret=>exact hQ .ret S' G' ρ' w' a' hk hM'
theorem J5 {β γ:Type} {x:Option (β ⊕ γ)} {f:γ→Option β} {r:β} (h:aO x f=some r):∃ q,x=some q∧(q= .inl r∨∃ v,q= .inr v∧f v=some r):=by
 unfold aO at h
 split at h
 ·cases h
 ·cases h;exact⟨_,rfl,.inl rfl⟩
 ·rename_i v;exact⟨_,rfl,.inr ⟨v,rfl,h⟩⟩
theorem vK {β γ:Type} {x:Option β} {q:β ⊕ γ} (h:AE x=some q):∃ r,x=some r∧q= .inl r:=by
 unfold AE at h
 split at h
 ·cases h;exact⟨_,rfl,rfl⟩
 ·cases h
theorem Ti {β:Type} {A:Ann} {n:Nat} {S:St} {q:β ⊕ cu A.cks} (h:meet A n S=some q):∃ v,carry A S=some v∧S.tmps.length=n∧q= .inr v:=by
 unfold meet at h
 split at h
 ·rename_i v hv
  cases hb:Nat.beq S.tmps.length n with
  | false=>rw[hb] at h;cases h
  | true=>rw[hb] at h;simp only[Zk,Option.some.injEq] at h;exact⟨v,hv,YI hb,h.symm⟩
 ·cases h
theorem Gz {β:Type} {A:Ann} {n:Nat} {K:Ex→St→Option β} {r:β} {Q:Exit→Act→World→Prop} (hQ:∀ e S' G ρ w a,K e S'=some r→Mod C G ρ S' w a→Q e.CT a w) {q:β ⊕ cu A.cks}
 (hq:q= .inl r∨∃ v,q= .inr v∧K .normal (head A n v)=some r) {S':St} {G:Gh} {ρ:Env} {w:World} {a:Act} (hM:Mod C G ρ S' w a) (h:meet A n S'=some q):Q .normal a w:=by
 obtain⟨v,h1,h2,h3⟩:=Ti h
 rcases hq with hq | ⟨v',hq,hk⟩
 ·rw[h3] at hq;cases hq
 ·rw[h3] at hq
  cases hq
  obtain⟨G2,ρ2,hm⟩:=Li hM h1
  rw[h2] at hm
  exact hQ .normal _ G2 ρ2 w a hk hm
theorem Sr {β:Type} {a b:Option β} {r:β} (h:both a b=some r):a=some r∧b=some r:=by
 unfold both at h
 split at h
 ·rename_i e;exact⟨h,e ▸ h⟩
 ·cases h
theorem Mb {β:Type} (a:Option β):both a a=a:=by unfold both;simp
theorem aK (hX:b8 X) (hmix:X.P.follows .mixedOrders=true) (anns:List (Nat×Ann)):∀ (c:Code) {β:Type} {S:St} {K:Ex→St→Option β} {r:β},den X anns c β S K=some r→∀ {Q:Exit→Act→World→Prop},
 (∀ e S' G ρ w a,K e S'=some r→Mod C G ρ S' w a→Q e.CT a w)→∀ {G ρ w a},Mod C G ρ S w a→c.wp X.P Q a w:=by
 intro c
 induction c with
 | skip=>
  intro β S K r h Q hQ G ρ w a hM
  exact wp_skip (hQ .normal S G ρ w a h hM)
 | region id ops dr=>
  intro β S K r h Q hQ G ρ w a hM
  simp only[den] at h
  split at h
  ·rename_i A hA
   obtain⟨v,hv,h⟩:=bind_some h
   have:=Ve hX hmix hv (Q:=Q) (fun S' G ρ w a hk hJ hM=>hQ .normal _ G ρ w a h (S6 hJ hk hM)) hM id
   simpa using this
  ·cases dr with
   | true=>
    simp only[Zk] at h
    have:=R5 hX hmix h (Q:=Q) (fun S' G ρ w a hk hM=>hQ .normal S' G ρ w a hk hM) hM id
    simpa using this
   | false=>
    simp only[Zj] at h
    refine wp_region_list ?_
    have:=sr hX ops.toList ops.toList h (Q:=Q) (fun S' G ρ w a hk hM=>hQ .normal S' G ρ w a hk hM) hM
    simpa using this
 | seq x y ihx ihy=>
  intro β S K r h Q hQ G ρ w a hM
  simp only[den] at h
  refine wp_seq (ihx h (fun e S' G' ρ' w' a' hk hM'=> ?_) hM)
  cases e with
  | normal=>exact ihy hk hQ hM'
  | exit id=>exact hQ (.exit id) S' G' ρ' w' a' hk hM'
  | ret=>exact hQ .ret S' G' ρ' w' a' hk hM'
 | cond b x y ihx ihy=>
  intro β S K r h Q hQ G ρ w a hM
  simp only[den] at h
  split at h
  ·rename_i t ht
   have hv:=hM.tmps.ev b
   rw[ht] at hv
   split at h
   ·rename_i A hA
    obtain⟨q,h1,hq⟩:=J5 h
    refine wp_cond_split (t:=t) hv (fun e=> ?_) (fun e=> ?_)
    ·subst e
     simp only[Zk] at h1
     refine ihx h1 (fun e S' G' ρ' w' a' hk hM'=> ?_) hM
     cases e with
     | normal=>exact Gz hQ hq hM' hk
     | exit j=>
      obtain⟨r',hr,hr2⟩:=vK hk
      rcases hq with hq | ⟨v,hq,_⟩
      ·rw[hr2] at hq;cases hq;exact hQ (.exit j) S' G' ρ' w' a' hr hM'
      ·rw[hr2] at hq;cases hq
     | ret=>
      obtain⟨r',hr,hr2⟩:=vK hk
      rcases hq with hq | ⟨v,hq,_⟩
      ·rw[hr2] at hq;cases hq;exact hQ .ret S' G' ρ' w' a' hr hM'
      ·rw[hr2] at hq;cases hq
    ·subst e
     simp only[Zj] at h1
     refine ihy h1 (fun e S' G' ρ' w' a' hk hM'=> ?_) hM
     cases e with
     | normal=>exact Gz hQ hq hM' hk
     | exit j=>
      obtain⟨r',hr,hr2⟩:=vK hk
      rcases hq with hq | ⟨v,hq,_⟩
      ·rw[hr2] at hq;cases hq;exact hQ (.exit j) S' G' ρ' w' a' hr hM'
      ·rw[hr2] at hq;cases hq
     | ret=>
      obtain⟨r',hr,hr2⟩:=vK hk
      rcases hq with hq | ⟨v,hq,_⟩
      ·rw[hr2] at hq;cases hq;exact hQ .ret S' G' ρ' w' a' hr hM'
      ·rw[hr2] at hq;cases hq
   ·refine wp_cond_split (t:=t) hv (fun e=> ?_) (fun e=> ?_)
    ·subst e;exact ihx h hQ hM
    ·subst e;exact ihy h hQ hM
  ·rename_i t ht
   have hv:=hM.tmps.ev b
   rw[ht] at hv
   obtain⟨c,hc,hf⟩:=(hv:aW G ρ (.nb t) _)
   cases t with
   | false=>
    have:=hf rfl
    subst this
    exact wp_cond_split (t:=false) hc (fun e=>by cases e) (fun _=>ihy h hQ hM)
   | true=>
    obtain⟨h1,h2⟩:=Sr h
    exact wp_cond_split (t:=c) hc (fun _=>ihx h1 hQ hM) (fun _=>ihy h2 hQ hM)
  ·cases h
 | block id x ih=>
  intro β S K r h Q hQ G ρ w a hM
  simp only[den] at h
  split at h
  ·rename_i A hA
   obtain⟨q,h1,hq⟩:=J5 h
   refine wp_block (ih h1 (fun e S' G' ρ' w' a' hk hM'=> ?_) hM)
   cases e with
   | normal=>exact Gz hQ hq hM' hk
   | exit j=>
    simp only at hk
    simp only[Ex.CT,Exit.inBlock]
    split at hk
    ·rename_i hb
     rw[Zw (YI hb)]
     exact Gz hQ hq hM' hk
    ·rename_i hb
     rw[Zv (fun e=>hb (by rw[e];simp))]
     obtain⟨r',hr,hr2⟩:=vK hk
     rcases hq with hq | ⟨v,hq,_⟩
     ·rw[hr2] at hq;cases hq;exact hQ (.exit j) S' G' ρ' w' a' hr hM'
     ·rw[hr2] at hq;cases hq
   | ret=>
    obtain⟨r',hr,hr2⟩:=vK hk
    rcases hq with hq | ⟨v,hq,_⟩
    ·rw[hr2] at hq;cases hq;exact hQ .ret S' G' ρ' w' a' hr hM'
    ·rw[hr2] at hq;cases hq
  ·refine wp_block (ih h (fun e S' G' ρ' w' a' hk hM'=> ?_) hM)
   cases e with
   | normal=>exact hQ .normal S' G' ρ' w' a' hk hM'
   | exit j=>
    simp only at hk
    simp only[Ex.CT,Exit.inBlock]
    split at hk
    ·rename_i hb
     rw[Zw (YI hb)]
     exact hQ .normal S' G' ρ' w' a' hk hM'
    ·rename_i hb
     rw[Zv (fun e=>hb (by rw[e];simp))]
     exact hQ (.exit j) S' G' ρ' w' a' hk hM'
   | ret=>exact hQ .ret S' G' ρ' w' a' hk hM'
 | loop x ih=>
  intro β S K r h Q hQ G ρ w a hM
  simp only[den] at h
  split at h
  ·rename_i A hA
   split at h
   ·rename_i y hy
    obtain⟨G2,ρ2,h2⟩:=Li hM hy
    exact wp_loop_rounds (A.fuel y) (MM ih hQ (A.fuel y) y G2 ρ2 w a h h2)
   ·cases h
  ·cases h
 | exit id=>
  intro β S K r h Q hQ G ρ w a hM
  exact wp_exit (hQ (.exit id) S G ρ w a h hM)
 | ret=>
  intro β S K r h Q hQ G ρ w a hM
  exact wp_ret (hQ .ret S G ρ w a h hM)
 | _=>
  intro β S K r h
  simp[den] at h
end Go.Dn
namespace Go.Dn
variable {X:Cx} {C:Fr X.P} {G:Gh} {ρ:Env} {w:World}
def gd (ρ:Env):Nat→List PM→List Value→Prop
 | _,[],_=>True
 | i,.mrow _ _::r,vs=>(vs.head? =some (ρ.rw (pid i 0))∧∃ a n c,ρ.rw (pid i 0)= .slice a n c)∧gd ρ (i+1) r vs.tail
 | i,.map _ _::r,vs=>(vs.head? =some (ρ.ob (pid i 0))∧∃ b,ρ.ob (pid i 0)= .map (some b))∧gd ρ (i+1) r vs.tail
 | i,.box _::r,vs=>vs.head? =some (.pointer (some ⟨ρ.bx (2000+i),0,none⟩))∧gd ρ (i+1) r vs.tail
 | i,.ar _::r,vs=>gd ρ (i+1) r vs
 | i,.arR _::r,vs=>gd ρ (i+1) r vs
 | i,.val _::r,vs=>gd ρ (i+1) r vs.tail
 | i,.row _ _::r,vs=>gd ρ (i+1) r vs.tail
theorem Q6 (i:Nat):10000000≤pid i 0:=by simp only[pid,pD,nid];omega
theorem gd.congr {ρ ρ':Env} (hb:∀ k,2000≤k→ρ'.bx k=ρ.bx k) (hr:∀ k,10000000≤k→ρ'.rw k=ρ.rw k∧ρ'.ob k=ρ.ob k):∀ {ps:List PM} {i:Nat} {vs:List Value},gd ρ i ps vs→gd ρ' i ps vs
 | [],_,_,_=>trivial
 | .mrow _ _::r,i,vs,h=>by
  simp only[gd] at h ⊢
  rw[(hr _ (Q6 i)).1];exact⟨h.1,h.2.congr hb hr⟩
 | .map _ _::r,i,vs,h=>by
  simp only[gd] at h ⊢
  rw[(hr _ (Q6 i)).2];exact⟨h.1,h.2.congr hb hr⟩
 | .box _::r,i,vs,h=>by
  simp only[gd] at h ⊢
  rw[hb _ (by omega)];exact⟨h.1,h.2.congr hb hr⟩
 | .ar _::r,i,vs,h=>gd.congr (ps:=r) hb hr h
 | .arR _::r,i,vs,h=>gd.congr (ps:=r) hb hr h
 | .val _::r,i,vs,h=>gd.congr (ps:=r) hb hr h
 | .row _ _::r,i,vs,h=>gd.congr (ps:=r) hb hr h
theorem Trans.refl (G:Gh) (b:Bool):Trans G G b:=⟨fun _ _ h=>h,.inr (Gh.le_refl G)⟩
theorem mU {ow:Nat→Option Nat}:∀ {ps:List PM} {i:Nat} {x:eU ps} {vs:List Value},gT G w ow i ps x vs→
 ∃ vals:List (bf×Value),vals.map (·.1)=(dG i ps).map (·.1)∧(∀ k v,(.inl k,v)∈vals→∃ b,v= .pointer (some ⟨b,0,none⟩))∧
  ∀ ρ:Env,(∀ o v,(o,v)∈vals→Asg ρ w o v)→(∀ o n,(o,n)∈dG i ps→∀ b,ow b=some n→ρ.own b=some o)→
   aN (bh G ρ) (kr i ps x) vs∧jF G ρ w (pJ i ps x) (oD i ps x) (gQ i ps x)∧gd ρ i ps vs
 | [],i,x,vs,h=>⟨[],rfl,fun k v h=>by simp at h,fun ρ _ _=>⟨h,jF.nil,trivial⟩⟩
 | .val t::r,i,x,vs,⟨v,us,h1,_,hv,hu⟩=>by
  obtain⟨vals,e,hp,hr⟩:=mU hu
  refine⟨vals,e,hp,fun ρ hA hO=> ?_⟩
  obtain⟨g1,g2,g3⟩:=hr ρ hA hO
  rw[h1 rfl]
  exact⟨⟨v,us,rfl,xW ρ hv,g1⟩,g2,g3⟩
 | .row e' t::r,i,x,vs,⟨v,us,h1,_,⟨hv,hv2⟩,hu⟩=>by
  obtain⟨vals,e,hp,hr⟩:=mU hu
  refine⟨(.inr (pid i 0),v)::vals,by simp[dG,e],fun k v h=>hp k v (by simpa using h),fun ρ hA hO=> ?_⟩
  obtain⟨g1,g2,g3⟩:=hr ρ (fun o v h=>hA o v (by simp[h])) (fun o n h=>hO o n (by simp[dG,h]))
  have hav:ρ.rw (pid i 0)=v:=hA (.inr (pid i 0)) v (by simp)
  rw[h1 rfl]
  refine⟨⟨v,us,rfl,⟨hav.symm,hv.isSlice⟩,g1⟩,⟨g2.bx,fun j q hj=> ?_,g2.ob⟩,g3⟩
  simp only[oD,au] at hj
  split at hj
  ·rename_i ej
   subst ej
   cases hj
   exact hv.ok (Trans.refl G _) hav (fun b hb=>hO _ _ (by simp[dG]) b (hv2 b hb))
  ·exact g2.rw j q hj
 | .mrow e' t::r,i,x,vs,⟨v,us,h1,_,⟨hv,hv2⟩,hu⟩=>by
  obtain⟨vals,e,hp,hr⟩:=mU hu
  refine⟨(.inr (pid i 0),v)::vals,by simp[dG,e],fun k v h=>hp k v (by simpa using h),fun ρ hA hO=> ?_⟩
  obtain⟨g1,g2,g3⟩:=hr ρ (fun o v h=>hA o v (by simp[h])) (fun o n h=>hO o n (by simp[dG,h]))
  have hav:ρ.rw (pid i 0)=v:=hA (.inr (pid i 0)) v (by simp)
  rw[h1 rfl]
  refine⟨⟨v,us,rfl,⟨hav.symm,hv.isSlice⟩,g1⟩,⟨g2.bx,fun j q hj=> ?_,g2.ob⟩,⟨by rw[hav];rfl,by rw[hav];exact hv.isSlice⟩,g3⟩
  simp only[oD,au] at hj
  split at hj
  ·rename_i ej
   subst ej
   cases hj
   exact hv.ok (Trans.refl G _) hav (fun b hb=>hO _ _ (by simp[dG]) b (hv2 b hb))
  ·exact g2.rw j q hj
 | .map kk vv::r,i,x,vs,⟨v,us,h1,_,⟨b,hv,hv1,hv2⟩,hu⟩=>by
  obtain⟨vals,e,hp,hr⟩:=mU hu
  refine⟨(.ob (pid i 0),v)::vals,by simp[dG,e],fun k v h=>hp k v (by simpa using h),fun ρ hA hO=> ?_⟩
  obtain⟨g1,g2,g3⟩:=hr ρ (fun o v h=>hA o v (by simp[h])) (fun o n h=>hO o n (by simp[dG,h]))
  rw[h1 rfl]
  subst hv
  have ho:ρ.own b=some (.ob (pid i 0)):=hO _ _ (by simp[dG]) b hv1
  obtain⟨m1,m2⟩:=hv2.ok (Trans.refl G _) (hA (.ob (pid i 0)) (.map (some b)) (by simp)) ho
  refine⟨⟨_,us,rfl,⟨m2.symm,b,rfl⟩,g1⟩,⟨g2.bx,g2.rw,fun j q hj=> ?_⟩,⟨by rw[m2];rfl,b,m2⟩,g3⟩
  simp only[gQ,au] at hj
  split at hj
  ·rename_i ej
   subst ej
   cases hj
   exact m1
  ·exact g2.ob j q hj
 | .box l::r,i,x,vs,⟨v,us,h1,_,hv,hu⟩=>by
  obtain⟨vals,e,hp,hr⟩:=mU hu
  obtain⟨vals2,hv2,hr2⟩:=Ic (G3:=G) (d:=pD) (k:=2000+i) (Trans.refl G _) hv
  refine⟨(.inl (2000+i),v)::(vals2++vals),by simp[dG,e,hv2],fun k v' h=> ?_,fun ρ hA hO=> ?_⟩
  ·rcases Yc.1 h with h | h
   ·cases h
    obtain⟨b,_,_,e1,_⟩:=hv
    exact⟨b,e1⟩
   ·rcases Yb.1 h with h | h
    ·have hm:(.inl k:bf)∈vals2.map (·.1):=Yi.2 ⟨_,h,rfl⟩
     rw[hv2] at hm
     obtain⟨p,hp,e1⟩:=Yi.1 hm
     obtain⟨p1,p2⟩:=p
     simp only at e1
     subst e1
     exact absurd hp ((vk (x:=x.1)).2.2 k p2)
    ·exact hp k v' h
  ·obtain⟨g1,g2,g3⟩:=hr ρ (fun o v h=>hA o v (by simp[h])) (fun o n h=>hO o n (by simp[dG,h]))
   have hk:=hA (.inl (2000+i)) v (by simp)
   have g4:=hr2 ρ hk (fun o v h=>hA o v (by simp[h])) (fun o n h=>hO o n (by
    simp only[Yc] at h
    simp only[dG,Yc,Yb]
    rcases h with h | h
    ·exact .inl h
    ·exact .inr (.inl h)))
   rw[h1 rfl]
   exact⟨⟨v,us,rfl,hk,g1⟩,g4.app g2,by rw[show v=_ from hk];rfl,g3⟩
 | .ar t::r,i,x,vs,⟨v,us,_,h1,hv,hu⟩=>by
  obtain⟨vals,e,hp,hr⟩:=mU hu
  refine⟨(.ob br,undef)::vals,by simp[dG,e],fun k v h=>hp k v (by simpa using h),fun ρ hA hO=> ?_⟩
  obtain⟨g1,g2,g3⟩:=hr ρ (fun o v h=>hA o v (by simp[h])) (fun o n h=>hO o n (by simp[dG,h]))
  have e1:=h1 rfl
  subst e1
  refine⟨g1,⟨g2.bx,g2.rw,fun j q hj=> ?_⟩,g3⟩
  simp only[gQ,au] at hj
  split at hj
  ·rename_i ej
   subst ej
   cases hj
   refine⟨rfl,hv.1,hv.2.1,fun n z hz=> ?_⟩
   obtain⟨b,ws,T,f1,f2,f3,f4,f5⟩:=hv.2.2 n z hz
   exact⟨b,ws,T,f1,nofun,fun _=>hO _ _ (by simp[dG]) b (f3 rfl),f4,f5⟩
  ·exact g2.ob j q hj
 | .arR t::r,i,x,vs,⟨v,us,_,h1,hv,hu⟩=>by
  obtain⟨vals,e,hp,hr⟩:=mU hu
  refine⟨vals,e,hp,fun ρ hA hO=> ?_⟩
  obtain⟨g1,g2,g3⟩:=hr ρ hA hO
  have e1:=h1 rfl
  subst e1
  refine⟨g1,⟨g2.bx,g2.rw,fun j q hj=> ?_⟩,g3⟩
  simp only[gQ,au] at hj
  split at hj
  ·rename_i ej
   subst ej
   cases hj
   refine⟨rfl,hv.1,hv.2.1,fun n z hz=> ?_⟩
   obtain⟨b,ws,T,f1,f2,f3,f4,f5⟩:=hv.2.2 n z hz
   exact⟨b,ws,T,f1,f2,nofun,f4,f5⟩
  ·exact g2.ob j q hj
theorem w5:∀ {ps:List PM} {i:Nat} {o:bf} {n:Nat},(o,n)∈dG i ps→(∃ k,o= .inl k)∨o= .ob br∨Du pD o n
 | [],i,o,n,h=>by simp[dG] at h
 | .val _::r,i,o,n,h=>w5 (ps:=r) h
 | .arR _::r,i,o,n,h=>w5 (ps:=r) h
 | .row _ _::r,i,o,n,h=>by
  simp only[dG,Yc,Prod.mk.injEq] at h
  rcases h with ⟨h,h'⟩ | h
  ·subst h;subst h';exact .inr (.inr (.inl (by rw[pid,AG];rfl)))
  ·exact w5 (ps:=r) h
 | .mrow _ _::r,i,o,n,h=>by
  simp only[dG,Yc,Prod.mk.injEq] at h
  rcases h with ⟨h,h'⟩ | h
  ·subst h;subst h';exact .inr (.inr (.inl (by rw[pid,AG];rfl)))
  ·exact w5 (ps:=r) h
 | .map _ _::r,i,o,n,h=>by
  simp only[dG,Yc,Prod.mk.injEq] at h
  rcases h with ⟨h,h'⟩ | h
  ·subst h;subst h';exact .inr (.inr (.inr (by rw[pid,AG];rfl)))
  ·exact w5 (ps:=r) h
 | .box l::r,i,o,n,h=>by
  simp only[dG,Yc,Yb,Prod.mk.injEq] at h
  rcases h with ⟨h,h'⟩ | h | h
  ·exact .inl ⟨_,h⟩
  ·exact .inr (.inr (Ag h))
  ·exact w5 (ps:=r) h
 | .ar _::r,i,o,n,h=>by
  simp only[dG,Yc,Prod.mk.injEq] at h
  rcases h with ⟨h,h'⟩ | h
  ·exact .inr (.inl h)
  ·exact w5 (ps:=r) h
def O1 (tmps:Array Value):ResultVar→Sem Value
 | .tmp t=>pure (tmps.getD t undef)
 | .cell a t=>do loadVar t (← asAddr (tmps.getD a undef))
theorem TJ {S:St} {a:Act} {s:SV} {v:ResultVar} (hM:Mod C G ρ S w a) (h:NI X S v=some s):∃ u,(O1 a.tmps v).run X.P w= .ok u w∧bh G ρ s u:=by
 cases v with
 | tmp t=>
  simp only[NI,Option.some.injEq] at h
  subst h
  exact⟨_,rfl,hM.tmps.ev (.tmp t)⟩
 | cell t T=>
  simp only[NI] at h
  split at h
  ·rename_i b off hx
   split at h
   ·rename_i l hl
    obtain⟨s',hs,hld⟩:=yL h
    cases hs
    have h1:=hM.tmps.ev (.tmp t)
    simp only[St.ev] at h1
    rw[hx] at h1
    have h2:a.tmps.getD t undef= .pointer (some ⟨ρ.bx b,off,none⟩):=h1
    obtain⟨_,vs,T',hw,hv⟩:=hM.boxes b l hl
    obtain⟨u,hr,hsv⟩:=hld G ρ w (ρ.bx b) 0 vs hv (fun j v hj=>by
     have hadd:(⟨ρ.bx b,0,none⟩:Addr).add j=⟨ρ.bx b,j,none⟩:=by unfold Addr.add;split<;>simp_all
     rw[hadd,cell_of_row w _ j _ T' (0,0) hw];simpa using hj)
    refine⟨u, ?_,hsv⟩
    simp only[Y4] at hr
    simp only[O1,h2,asAddr,Sem.run_bind,Sem.run_pure,Result.andThen_ok,hr]
   ·cases h
  ·cases h
theorem KA {S:St} {a:Act} (hM:Mod C G ρ S w a):∀ {rs:List ResultVar} {l:List SV},CO X S rs=some l→∃ us,(rs.mapM (O1 a.tmps)).run X.P w= .ok us w∧aN (bh G ρ) l us
 | [],l,h=>by
  simp only[CO,Option.some.injEq] at h
  subst h
  exact⟨[],rfl,rfl⟩
 | v::r,l,h=>by
  simp only[CO] at h
  split at h
  ·rename_i s hs
   split at h
   ·rename_i l' hl'
    cases h
    obtain⟨u,h1,h2⟩:=TJ hM hs
    obtain⟨us,h3,h4⟩:=KA hM hl'
    refine⟨u::us, ?_,u,us,rfl,h2,h4⟩
    simp only[List.mapM_cons,Sem.run_bind,h1,Result.andThen_ok,h3,Sem.run_pure]
   ·cases h
  ·cases h
theorem Qn {fn:Func} {tmps:Array Value} {P:Program} {us:List Value} (h:(fn.results.toList.mapM (O1 tmps)).run P w= .ok us w):(results fn tmps).run P w= .ok (ur us) w:=by
 have e:results fn tmps=(do
  let vs ← fn.results.mapM (O1 tmps)
  pure (if h:vs.size=1 then vs[0] else .tuple vs)):=by
  unfold results
  congr 2
 rw[e,Array.mapM_eq_mapM_toList]
 simp only[Sem.run_bind,Sem.run_map,h,Result.andThen_ok,Sem.run_pure]
 match us with
 | []=>rfl
 | [v]=>rfl
 | v::u::r=>simp[ur]
theorem OS (S:St) (ps:List PM) (bx:Option (fV ps)) (s:SV) (q:List SV):xK S ps bx [] (s::q)=none:=rfl
theorem OR (S:St) (ps:List PM) (bx:Option (fV ps)) (p:RM) (r:List RM) (s:SV) (q:List SV):xK S ps bx (p::r) (s::q)=match Aj S p s with
 | some x=>match xK S ps bx r q with
  | some y=>some (x,y)
  | none=>none
 | none=>none:=rfl
theorem Qe (S:St) (ps:List PM) (bx:Option (fV ps)) (p:RM) (r:List RM):xK S ps bx (p::r) []=none:=rfl
theorem QB {s:SV} {c:CV} {v:Value} (hc:q9 s=some c) (hs:bh G ρ s v):aW G ρ c v:=by
 unfold q9 at hc
 split at hc
 ·cases hc;exact hs
 ·cases hc
section
variable {V:St} {ow:List (bf×Nat)} (hM:Mem C G ρ V w)
include hM
theorem Kn {l:List OT} {k n:Nat} {cs:List CV} {x:mo l} {v:Value} (hcs:look V.boxes k=some cs) (h:nj V l cs=some x) (hv:v= .pointer (some ⟨ρ.bx k,0,none⟩)) (ho:∀ q,q∈(.inl k,n)::oB (n+1) l cs→bU ow q.1=some q.2):
 vS G w (dO ρ ow) n l x v:=by
 obtain⟨h1,vs,T,h2,h3⟩:=hM.boxes k cs hcs
 refine⟨ρ.bx k,vs,T,hv, ?_,h2,yV hM (Gh.le_refl G) h h3 (fun q hq=>ho q (by simp[hq]))⟩
 simp only[dO,h1,Y7]
 exact ho (.inl k,n) (by simp)
theorem RS {p:RM} {s:SV} {x:p.den} {v:Value} {c:Nat} {r:List RM} {q:List SV} (h:Aj V p s=some x) (hv:bh G ρ s v) (ho:∀ z,z∈mO V c (p::r) (s::q)→bU ow z.1=some z.2):Ri G w (dO ρ ow) c p x v:=by
 cases p with
 | val t=>exact ko hM.frozen (lG.nil _ _ _) h hv
 | row e t=>
  simp only[Aj] at h
  split at h
  ·rename_i cv hc
   exact qJ hM (Gh.le_refl G) h (QB hc hv) (fun z hz=>ho z (by simp only[mO,hc,Yb];exact .inl hz))
  ·cases h
 | map k e=>
  simp only[Aj] at h
  split at h
  ·rename_i cv hc
   exact yb hM (Gh.le_refl G) h (QB hc hv) (fun z hz=>ho z (by simp only[mO,hc,Yb];exact .inl hz))
  ·cases h
 | box l=>
  simp only[Aj] at h
  split at h
  ·rename_i k hk
   split at h
   ·rename_i cs hcs
    exact Kn hM hcs h (MB hk hv) (fun z hz=>ho z (by simp only[mO,hk,hcs,Yb];exact .inl hz))
   ·cases h
  ·cases h
theorem RR {ps:List PM} {bx:Option (fV ps)} {args:List Value} (hbx:∀ y,bx=some y→oq G w (dO ρ ow) 0 ps y args) (rs:List RM):
 ∀ {l:List SV} {y:ck ps rs} {us:List Value} (c:Nat),(∀ z,z∈mO V c rs l→bU ow z.1=some z.2)→xK V ps bx rs l=some y→aN (bh G ρ) l us→mj G w (dO ρ ow) ps args c rs y us:=by
 induction rs with
 | nil=>
  intro l y us c _ h hv
  cases l with
  | nil=>exact⟨hv,hbx y h⟩
  | cons s q=>rw[OS] at h;cases h
 | cons p r ih=>
  intro l y us c ho h hv
  cases l with
  | nil=>rw[Qe] at h;cases h
  | cons s q=>
   obtain⟨v,us',e',hs,hq⟩:=hv
   subst e'
   rw[OR] at h
   split at h
   ·rename_i x hx
    split at h
    ·rename_i z hz
     cases h
     refine⟨v,us',rfl,RS hM hx hs ho,ih (c+1) (fun t ht=>ho t ?_) hz hq⟩
     cases p<;>simp only[mO,Yb]<;>first | exact .inr ht | exact ht
    ·cases h
   ·cases h
theorem oP:∀ {ps:List PM} {i:Nat} {y:fV ps} {vs:List Value},oC V i ps=some y→(∀ z,z∈lC V i ps→bU ow z.1=some z.2)→gd ρ i ps vs→oq G w (dO ρ ow) i ps y vs
 | [],i,y,vs,_,_,_=>trivial
 | .val _::r,i,y,vs,h,ho,hp=>oP (ps:=r) h ho hp
 | .row _ _::r,i,y,vs,h,ho,hp=>oP (ps:=r) h ho hp
 | .arR _::r,i,y,vs,h,ho,hp=>oP (ps:=r) h ho hp
 | .mrow e t::r,i,y,vs,h,ho,⟨⟨hp1,hp2⟩,hp⟩=>by
  simp only[oC] at h
  split at h
  ·rename_i x z hx hz
   cases h
   have:=qJ (ow:=ow) (n:=64*i) hM (Gh.le_refl G) hx (v:=ρ.rw (pid i 0)) ⟨rfl,hp2⟩ (fun q hq=>ho q (by
    simp only[nZ,Ym] at hq
    subst hq;simp[lC]))
   exact⟨⟨_,hp1,this.1,this.2⟩,oP (ps:=r) hz (fun q hq=>ho q (by simp[lC,hq])) hp⟩
  ·cases h
 | .map kk vv::r,i,y,vs,h,ho,⟨⟨hp1,hp2⟩,hp⟩=>by
  simp only[oC] at h
  split at h
  ·rename_i x z hx hz
   cases h
   obtain⟨b,h1,h2,h3⟩:=yb (ow:=ow) (n:=64*i) hM (Gh.le_refl G) hx (v:=ρ.ob (pid i 0)) ⟨rfl,hp2⟩ (fun q hq=>ho q (by
    simp only[nZ,Ym] at hq
    subst hq;simp[lC]))
   exact⟨⟨b,by rw[hp1,h1],h2,h3⟩,oP (ps:=r) hz (fun q hq=>ho q (by simp[lC,hq])) hp⟩
  ·cases h
 | .box l::r,i,y,vs,h,ho,⟨hp1,hp⟩=>by
  simp only[oC] at h
  split at h
  ·rename_i cs hcs
   split at h
   ·rename_i x z hx hz
    cases h
    refine⟨⟨_,hp1,Kn hM hcs hx rfl (fun q hq=>ho q ?_)⟩,oP (ps:=r) hz (fun q hq=>ho q ?_) hp⟩
    ·simp only[lC,hcs,Xo,Yc,Yb]
     rcases Yc.1 hq with hq | hq
     ·exact .inl hq
     ·exact .inr (.inl hq)
    ·simp only[lC,hcs,Xo,Yc,Yb]
     exact .inr (.inr hq)
   ·cases h
  ·cases h
 | .ar t::r,i,y,vs,h,ho,hp=>by
  simp only[oC] at h
  split at h
  ·rename_i x z hx hz
   cases h
   obtain⟨f,hl,hf⟩:=rY hx
   have:=hf rfl
   subst this
   obtain⟨_,h1,h2,h3⟩:=hM.objs br _ hl
   refine⟨⟨h1,h2,fun n z hz=> ?_⟩,oP (ps:=r) hz (fun q hq=>ho q (by simp[lC,hq])) hp⟩
   obtain⟨b,vs,T,g1,g2,g3,g4,g5⟩:=h3 n z hz
   refine⟨b,vs,T,g1,nofun,fun _=> ?_,g4,g5⟩
   have:=g3 rfl
   simp only[dO,this,Y7]
   exact ho (.ob br,64*i) (by simp[lC])
  ·cases h
end
end Go.Dn
namespace Go.Dn
variable {X:Cx}
section
variable {G G':Gh} {w:World} {ow:Nat→Option Nat} (hG:∀ b o,G b=some o→G' b=some o)
include hG
theorem bL.aU {t:Ty} {x:t.den} {v:Value} (hn:t.aU=true) (h:bL G t x v):bL G' t x v:=by
 cases t with
 | st t=>obtain⟨vs,e,hv⟩:=h;exact⟨vs,e,aD.aU hG t x vs (by simpa [Ty.aU] using hn) hv⟩
 | _=>exact aD.aU hG _ x _ hn h
theorem oV.aU {e:TypeId} {t:Ty} {l:List t.den} {v:Value} (hn:t.aU=true) (h:oV G w e t l v):oV G' w e t l v:=by
 obtain⟨xs,h1,h2⟩:=h
 exact⟨xs,h1,h2.mono fun x cs=>aD.aU hG t x cs hn⟩
theorem sK.aU {k v:Ty} {l:List (k.den×v.den)} {b:Nat} (hk:k.aU=true) (hv:v.aU=true) (h:sK G w k v l b):sK G' w k v l b:=by
 obtain⟨es,clock,h1,h2,h3⟩:=h
 exact⟨es,clock,h1,h2.mono fun x y hxy=>⟨hxy.1.aU hG hk,hxy.2.aU hG hv⟩,h3⟩
def CJ (l:List OT):Bool:=l.all fun | .val t=>t.aU | .row _ t=>t.aU | .map k v=>k.aU&&v.aU
theorem x9.aU:∀ {l:List OT} {n:Nat} {x:mo l} {vs:List Value},CJ l=true→x9 G w ow n l x vs→x9 G' w ow n l x vs
 | [],_,_,_,_,h=>h
 | .val t::r,n,x,vs,hn,⟨a,b,e,h1,h2⟩=>by
  simp only[CJ,Xh,WJ] at hn
  exact⟨a,b,e,aD.aU hG t x.1 a hn.1 h1,x9.aU hn.2 h2⟩
 | .row _ t::r,n,x,vs,hn,⟨a,b,e,⟨v,e2,h1,h3⟩,h2⟩=>by
  simp only[CJ,Xh,WJ] at hn
  exact⟨a,b,e,⟨v,e2,h1.aU hG hn.1,h3⟩,x9.aU hn.2 h2⟩
 | .map k v::r,n,x,vs,hn,⟨a,b,e,⟨bb,e2,h1,h3⟩,h2⟩=>by
  simp only[CJ,Xh,WJ] at hn
  exact⟨a,b,e,⟨bb,e2,h1,h3.aU hG hn.1.1 hn.1.2⟩,x9.aU hn.2 h2⟩
theorem vS.aU {l:List OT} {n:Nat} {x:mo l} {v:Value} (hn:CJ l=true) (h:vS G w ow n l x v):vS G' w ow n l x v:=by
 obtain⟨b,vs,T,h1,h2,h3,h4⟩:=h
 exact⟨b,vs,T,h1,h2,h3,h4.aU hG hn⟩
theorem gT.aU:∀ {ps:List PM} {i:Nat} {x:eU ps} {vs:List Value},dJ ps=true→gT G w ow i ps x vs→gT G' w ow i ps x vs
 | [],_,_,_,_,h=>h
 | .val t::r,i,x,vs,hn,⟨v,us,h1,h2,h3,h4⟩=>by
  simp only[dJ,WJ] at hn
  exact⟨v,us,h1,h2,bL.aU hG hn.1 h3,gT.aU hn.2 h4⟩
 | .row _ t::r,i,x,vs,hn,⟨v,us,h1,h2,⟨h3,h3'⟩,h4⟩=>by
  simp only[dJ,WJ] at hn
  exact⟨v,us,h1,h2,⟨h3.aU hG hn.1,h3'⟩,gT.aU hn.2 h4⟩
 | .mrow _ t::r,i,x,vs,hn,⟨v,us,h1,h2,⟨h3,h3'⟩,h4⟩=>by
  simp only[dJ,WJ] at hn
  exact⟨v,us,h1,h2,⟨h3.aU hG hn.1,h3'⟩,gT.aU hn.2 h4⟩
 | .map _ _::r,i,x,vs,hn,⟨v,us,h1,h2,⟨b,h3,h3',h5⟩,h4⟩=>by
  simp only[dJ,WJ] at hn
  exact⟨v,us,h1,h2,⟨b,h3,h3',h5.aU hG hn.1.1 hn.1.2⟩,gT.aU hn.2 h4⟩
 | .box l::r,i,x,vs,hn,⟨v,us,h1,h2,h3,h4⟩=>by
  simp only[dJ,WJ] at hn
  exact⟨v,us,h1,h2,vS.aU hG hn.1 h3,gT.aU hn.2 h4⟩
 | .ar _::r,i,x,vs,hn,_=>by simp[dJ] at hn
 | .arR _::r,i,x,vs,hn,_=>by simp[dJ] at hn
theorem oq.aU:∀ {ps:List PM} {i:Nat} {x:fV ps} {vs:List Value},dJ ps=true→oq G w ow i ps x vs→oq G' w ow i ps x vs
 | [],_,_,_,_,h=>h
 | .val t::r,i,x,vs,hn,h=>by
  simp only[dJ,WJ] at hn
  exact oq.aU (ps:=r) hn.2 h
 | .row _ t::r,i,x,vs,hn,h=>by
  simp only[dJ,WJ] at hn
  exact oq.aU (ps:=r) hn.2 h
 | .mrow _ t::r,i,x,vs,hn,⟨⟨v,h1,h2,h3⟩,h4⟩=>by
  simp only[dJ,WJ] at hn
  exact⟨⟨v,h1,h2.aU hG hn.1,h3⟩,oq.aU hn.2 h4⟩
 | .map _ _::r,i,x,vs,hn,⟨⟨b,h1,h2,h3⟩,h4⟩=>by
  simp only[dJ,WJ] at hn
  exact⟨⟨b,h1,h2,h3.aU hG hn.1.1 hn.1.2⟩,oq.aU hn.2 h4⟩
 | .box l::r,i,x,vs,hn,⟨⟨v,h1,h2⟩,h4⟩=>by
  simp only[dJ,WJ] at hn
  exact⟨⟨v,h1,vS.aU hG hn.1 h2⟩,oq.aU hn.2 h4⟩
 | .ar _::r,i,x,vs,hn,_=>by simp[dJ] at hn
 | .arR _::r,i,x,vs,hn,_=>by simp[dJ] at hn
theorem mj.aU {ps:List PM} {args:List Value} (hp:dJ ps=true):∀ {rs:List RM} {c:Nat} {y:ck ps rs} {vs:List Value},qK rs=true→mj G w ow ps args c rs y vs→mj G' w ow ps args c rs y vs
 | [],_,_,_,_,h=>⟨h.1,h.2.aU hG hp⟩
 | .val t::r,c,y,vs,hn,⟨v,us,h1,h2,h3⟩=>by
  simp only[qK,WJ] at hn
  exact⟨v,us,h1,bL.aU hG hn.1 h2,mj.aU hp hn.2 h3⟩
 | .row _ t::r,c,y,vs,hn,⟨v,us,h1,⟨h2,h2'⟩,h3⟩=>by
  simp only[qK,WJ] at hn
  exact⟨v,us,h1,⟨h2.aU hG hn.1,h2'⟩,mj.aU hp hn.2 h3⟩
 | .map _ _::r,c,y,vs,hn,⟨v,us,h1,⟨b,h2,h2',h4⟩,h3⟩=>by
  simp only[qK,WJ] at hn
  exact⟨v,us,h1,⟨b,h2,h2',h4.aU hG hn.1.1 hn.1.2⟩,mj.aU hp hn.2 h3⟩
 | .box l::r,c,y,vs,hn,⟨v,us,h1,h2,h3⟩=>by
  simp only[qK,WJ] at hn
  exact⟨v,us,h1,vS.aU hG hn.1 h2,mj.aU hp hn.2 h3⟩
end
theorem jT:∀ (ps:List PM) (i:Nat) (x:eU ps),(kr i ps x).length=wB ps
 | [],_,_=>rfl
 | .val _::r,i,x=>by simp[kr,wB,PM.arg,jT r];omega
 | .row _ _::r,i,x=>by simp[kr,wB,PM.arg,jT r];omega
 | .mrow _ _::r,i,x=>by simp[kr,wB,PM.arg,jT r];omega
 | .map _ _::r,i,x=>by simp[kr,wB,PM.arg,jT r];omega
 | .box _::r,i,x=>by simp[kr,wB,PM.arg,jT r];omega
 | .ar _::r,i,x=>by simp[kr,wB,PM.arg,jT r]
 | .arR _::r,i,x=>by simp[kr,wB,PM.arg,jT r]
theorem pK:∀ {ps:List PM} {i:Nat} {x:eU ps} {t:Ty} {l:List t.den},jy ps=false→look (gQ i ps x) br≠some (.ar false t l)
 | [],i,x,t,l,_=>by simp[gQ,look]
 | .val _::r,i,x,t,l,h=>pK (ps:=r) h
 | .row _ _::r,i,x,t,l,h=>pK (ps:=r) h
 | .mrow _ _::r,i,x,t,l,h=>pK (ps:=r) h
 | .map _ _::r,i,x,t,l,h=>by
  simp only[gQ,au]
  split
  ·simp
  ·exact pK (ps:=r) h
 | .box _::r,i,x,t,l,h=>by
  simp only[gQ,cq]
  intro e
  rcases or_some e with e | ⟨_,e⟩
  ·obtain⟨_,_,_,e'⟩:=sX e;cases e'
  ·exact pK (ps:=r) h e
 | .ar _::r,i,x,t,l,h=>by simp[jy] at h
 | .arR _::r,i,x,t,l,h=>by
  simp only[gQ,au]
  split
  ·intro e;cases e
  ·exact pK (ps:=r) h
theorem RL {ps:List PM} (h:dJ ps=true):jy ps=false:=by
 induction ps with
 | nil=>rfl
 | cons p r ih=>cases p<;>simp only[dJ,WJ] at h<;>first | exact ih h.2 | cases h
theorem Oh (hX:b8 X) (hmix:X.P.follows .mixedOrders=true) {f:FuncId} {fn:Func} (sp:aB) (anns:List (Nat×Ann)) (ar:Option Ty) (hf:X.P.funcs[f]? =some fn) {G:Gh} {w:World} {ow:Nat→Option Nat} {args:List Value} {x:eU sp.ps} {y:ck sp.ps sp.rs}
 (hT:uB X.P G) (hG:Agr G w) (how:∀ b i,ow b=some i→G b=none∧b<w.heap.size) (hargs:gT G w ow 0 sp.ps x args) (har:ar.isSome=true→G.hnd=(fun _=>none)∧jy sp.ps=false∧dJ sp.ps=true) (hN:Ir X anns ar fn sp x=some y):
 Calls X.P f args.toArray w fun e w'=>∃ G' ow' vs,e= .returned (ur vs)∧G.le G'∧Agr G' w'∧w.heap.size≤w'.heap.size∧w'.os=w.os∧w'.output=w.output∧
  (∀ b,b<w.heap.size→ow b=none→w'.heap[b]? =w.heap[b]? ∧G' b=G b)∧(∀ b i,ow' b=some i→G' b=none∧b<w'.heap.size∧(w.heap.size≤b∨ow b≠none))∧mj G' w' ow' sp.ps args 0 sp.rs y vs∧(jy sp.ps=false→ar=none→G'.hnd=G.hnd):=by
 unfold Ir at hN
 split at hN
 ·cases hN
 ·rename_i hcond
  simp only[WW,ZA,WR] at hcond
  obtain⟨⟨hdO,hdC⟩,hnoh⟩:=hcond
  split at hN
  ·rename_i c hc
   obtain⟨vals,hvals,hpt,hst⟩:=mU hargs
   let pv:Nat→Value:=fun k=>match cn vals (.inr k) with | some v=>v | none=>(cn vals (.ob k)).getD undef
   let ρ:Env:=⟨fun k=>match cn vals (.inl k) with | some v=>Gj v | none=>0,pv,fun b=>(ow b).bind (mM (dG 0 sp.ps)),pv,fun k=>BL w (pv k)⟩
   have hA:∀ o v,(o,v)∈vals→Asg ρ w o v:=fun o v hm=>by
    have hl:=FK hvals hdO hm
    cases o with
    | inl k=>
     obtain⟨b,hb⟩:=hpt k v hm
     show v= .pointer (some ⟨match cn vals (.inl k) with | some v=>Gj v | none=>0,0,none⟩)
     rw[hl,hb];rfl
    | inr j=>show (match cn vals (.inr j) with | some v=>v | none=>_)=v;rw[hl]
    | ob j=>
     intro b hb
     subst hb
     have hnr:cn vals (.inr j)=none:=by
      cases h1:cn vals (.inr j) with
      | none=>rfl
      | some v'=>
       obtain⟨n1,m1⟩:=DB hvals (by rw[h1];simp)
       obtain⟨n2,m2⟩:=DB hvals (o:= .ob j) (by rw[hl];simp)
       rcases w5 m1 with ⟨k,e⟩ | e | e
       ·cases e
       ·cases e
       ·rcases w5 m2 with ⟨k,e'⟩ | e' | e'
        ·cases e'
        ·cases e'
         rcases e with e | e
         ·have:br=nid pD 0 0+n1:=by simpa using e
          simp only[br,pD,nid] at this;omega
         ·cases e
        ·have h1:j=nid pD 0 0+n1:=by rcases e with e | e<;>cases e;rfl
         have h2:j=nid pD 0 0+n2:=by rcases e' with e' | e'<;>cases e';rfl
         have:n1=n2:=by omega
         subst this
         have:=Pz hdC m1 m2
         cases this
     have hpv:pv j= .map (some b):=by
      show (match cn vals (.inr j) with | some v=>v | none=>(cn vals (.ob j)).getD undef)=_
      rw[hnr,hl];rfl
     refine⟨hpv,fun es clock hw i e' hi=> ?_⟩
     show (e'.born:Int)=BL w (pv j) i
     rw[hpv]
     simp[BL,hw,hi]
   have hO:∀ o n,(o,n)∈dG 0 sp.ps→∀ b,ow b=some n→ρ.own b=some o:=fun o n hm b hb=>by
    show (ow b).bind (mM (dG 0 sp.ps))=_
    rw[hb];exact xD hdC hm
   obtain⟨hsv,hP,hpins⟩:=hst ρ hA hO
   let C:Fr X.P:=⟨w.heap.size,ρ.bx,pv,fun b=>ow b≠none,w,G,jy sp.ps=false∧ar=none,hT⟩
   have hlen:args.length=wB sp.ps:=by rw[hsv.len,jT]
   have hM:Mod C G ρ (FC fn.ntmps ar sp.ps x) w { tmps:=args.toArray++Array.replicate (fn.ntmps - args.toArray.size) undef,defers:=[] }:=by
    refine { agr:=hG,le0:=Gh.le_refl G,old:=fun _ _ _=>rfl,frame:=fun _ _ _=>rfl,size:=YM _,os:=rfl,output:=rfl,pin:=fun _ _=>rfl,pinR:=fun _ _=>⟨rfl,rfl⟩,owned:= ?_,boxes:=hP.bx,rows:=hP.rw,objs:= ?_,hndI:= ?_,tmps:=⟨?_, ?_⟩,defers:=rfl }
    ·intro b o ho
     cases hb:ow b with
     | none=>
      have ho':(ow b).bind (mM (dG 0 sp.ps))=some o:=ho
      rw[hb] at ho';cases ho'
     | some i=>exact⟨(how b i hb).1,(how b i hb).2,.inr (by show ow b≠none;rw[hb];simp)⟩
    ·intro j q hj
     cases ar with
     | none=>exact hP.ob j q hj
     | some t=>
      simp only[FC,au] at hj
      split at hj
      ·rename_i ej
       subst ej
       cases hj
       obtain⟨h1,_⟩:=har rfl
       refine⟨rfl,fun i b hb=>(by rw[h1] at hb;cases hb),fun i i' b hb=>(by rw[h1] at hb;cases hb),fun i z hz=>by simp at hz⟩
      ·exact hP.ob j q hj
    ·rintro⟨h1,h2⟩
     refine⟨rfl,fun t l=> ?_⟩
     subst h2
     exact pK h1
    ·simp[FC,jT,hlen]
    ·intro i s hi
     simp only[FC] at hi
     rw[XF] at hi
     rw[Wu,Array.getElem?_append]
     split at hi
     ·rename_i hlt
      obtain⟨v,hv,hsv'⟩:=hsv.get hi
      rw[jT] at hlt
      rw[Zw (by simpa [hlen] using hlt)]
      simpa [hv] using hsv'
     ·rw[List.getElem?_replicate] at hi
      split at hi
      ·cases hi;exact trivial
      ·cases hi
   refine calls_of_wp hf hc (aK (C:=C) hX hmix anns c hN (fun e S' G' ρ' w' a' hk hM'=> ?_) hM)
   have key:ends X fn sp S'=some y→a'.defers=[]∧∃ v,(results fn a'.tmps).run X.P w'= .ok v w'∧∃ G' ow' vs,Ending.returned v= .returned (ur vs)∧G.le G'∧Agr G' w'∧w.heap.size≤w'.heap.size∧w'.os=w.os∧w'.output=w.output∧
    (∀ b,b<w.heap.size→ow b=none→w'.heap[b]? =w.heap[b]? ∧G' b=G b)∧(∀ b i,ow' b=some i→G' b=none∧b<w'.heap.size∧(w.heap.size≤b∨ow b≠none))∧mj G' w' ow' sp.ps args 0 sp.rs y vs∧(jy sp.ps=false→ar=none→G'.hnd=G.hnd):=by
    intro hk
    unfold ends at hk
    have hI:∃ G1 ρ1,Mod C G1 ρ1 (Bz X fn sp.rs S') w' a':=by
     unfold Bz
     split
     ·exact Mod.jt _ hM'
     ·exact⟨_,_,hM'⟩
    generalize Bz X fn sp.rs S'=S' at hk hI
    obtain⟨G',ρ',hM'⟩:=hI
    refine⟨hM'.defers, ?_⟩
    unfold UE at hk
    split at hk
    ·rename_i l hl
     simp only at hk
     split at hk
     ·cases hk
     ·rename_i hd
      obtain⟨us,hr,hus⟩:=KA hM' hl
      generalize hjs:B1 (GK sp.rs l)++(NH S' sp.rs l++NF S' 0 sp.ps)=js at hk hd
      obtain⟨G2,ρ2,hfz,hM2⟩:=hM'.freeze js
      generalize hV:aQ S' js=V at hk hd hM2
      generalize how':mO V 0 sp.rs l++lC V 0 sp.ps=owl at hk hd
      have hd':xC owl=false:=by simpa using hd
      have hus2:aN (bh G2 ρ2) l us:=hus.mono fun s v hs=>bh.congr hfz.le (lH.same hfz.bx hfz.rw hfz.ob hfz.st) hs
      have hpins2:gd ρ2 0 sp.ps args:=hpins.congr (fun k hk=>hM2.pin k hk) (fun k hk=>hM2.pinR k hk)
      refine⟨_,Qn hr,G2,dO ρ2 owl,us,rfl,hM2.le0,hM2.agr,hM2.size,hM2.os,hM2.output,fun b hb ho=>⟨hM2.frame b hb (by show ¬ ow b≠none;simp[ho]),hM2.old b hb (by show ¬ ow b≠none;simp[ho])⟩,fun b i hb=> ?_, ?_,fun h1 h2=>(hM2.hndI ⟨h1,h2⟩).1⟩
      ·unfold dO at hb
       cases ho:ρ2.own b with
       | none=>rw[ho] at hb;cases hb
       | some o=>exact hM2.owned b o ho
      ·refine RR hM2.toMem (fun y' hy'=>oP hM2.toMem hy' (fun z hz=>wA hd' (by rw[← how'];simp[hz])) hpins2) sp.rs 0 (fun z hz=>wA hd' (by rw[← how'];simp[hz])) hk hus2
    ·cases hk
   cases e with
   | normal=>exact key hk
   | ret=>exact key hk
   | exit id=>cases hk
  ·cases hN
theorem SQ (hX:b8 X) (hmix:X.P.follows .mixedOrders=true) {f:FuncId} {fn:Func} (sp:aB) (anns:List (Nat×Ann)) (ar:Option Ty) (hf:X.P.funcs[f]? =some fn)
 (h:∀ x y,sp.m x=some y→Ir X anns ar fn sp x=some y):aJ X.P f sp:=by
 intro G w ow args x y hG how hargs hm hT
 have hN:=h x y hm
 cases ar with
 | none=>
  refine (Oh hX hmix sp anns none hf hT hG how hargs (fun e=>by cases e) hN).mono ?_
  rintro e w' ⟨G',ow',vs,h1,h2,h3,h4,h5,h6,h7,h8,h9,h10⟩
  exact⟨G',ow',vs,h1,h2,h3,h4,h5,h6,h7,h8,h9,fun h=>h10 h rfl⟩
 | some t=>
  have hN0:=hN
  unfold Ir at hN0
  split at hN0
  ·cases hN0
  ·rename_i hcond
   simp only[WW,ZA,WR,Option.isSome_some,WY,WQ,WJ] at hcond
   obtain⟨_,hpn,hrn⟩:=hcond
   let G0:Gh:=⟨G.blk,fun _=>none⟩
   have hargs0:gT G0 w ow 0 sp.ps x args:=gT.aU (G:=G) (G':=G0) (fun _ _ h=>h) hpn hargs
   refine (Oh hX hmix sp anns (some t) hf (G:=G0) ⟨hT.pow,hT.maxLen⟩ hG how hargs0 (fun _=>⟨rfl,RL hpn,hpn⟩) hN).mono ?_
   rintro e w' ⟨G',ow',vs,h1,h2,h3,h4,h5,h6,h7,h8,h9,h10⟩
   refine⟨⟨G'.blk,G.hnd⟩,ow',vs,h1,⟨h2.blk,fun _ _ h=>h⟩,h3,h4,h5,h6,h7,h8,mj.aU (G:=G') (G':=⟨G'.blk,G.hnd⟩) (fun _ _ h=>h) hpn hrn h9,fun _=>rfl⟩
end Go.Dn
namespace Go.Dn
def w64 (n:Int):Int:=IntKind.wrap .i64 n
def tI:Ty:= .int .i64
def bK (n:Int):Int:=IntKind.wrap .u64 n
def lu (n:Int):Int:=IntKind.wrap .u32 n
def wu8 (n:Int):Int:=IntKind.wrap .u8 n
def Ty.fu:(t:Ty)→t.den→Nat→Nat
 | .int _,n,a=>Int.natAbs n+a
 | .bool,_,a=>a
 | .str,s,a=>List.length s+a
 | .unit,_,a=>a
 | .pair s t,x,a=>s.fu x.1 (t.fu x.2 a)
 | .st t,x,a=>t.fu x a
 | .slice _,l,a=>List.length l+a
 | .ptr t,x,a=>t.fu x a
 | .clo _ _,_,a=>a
 | .hnd,_,a=>a
def aT:(cs:List CK)→cu cs→Nat
 | [],_=>2
 | .val t::r,x=>t.fu x.1 (aT r x.2)
 | .own _ _::r,x=>x.1.length+aT r x.2
 | .map _ _::r,x=>x.1.length+aT r x.2
 | .ref _ _::r,x=>aT r x
 | .fn _ _::r,x=>aT r x
 | .ar _::r,x=>x.1.length+aT r x.2
 | .arF _::r,x=>aT r x.2
 | .rowR _::r,x=>aT r x
 | .rpR _ _::r,x=>aT r x.2
 | .mapR _::r,x=>aT r x
 | .rowC _ _ _::r,x=>x.1.length+aT r x.2
 | .mapC _ _ _::r,x=>x.1.length+aT r x.2
theorem bF {X β:Type} (n:Nat) (x:X) (f:X→(X→Option β)→Option β):iter (n+1) x f=f x fun y=>iter n y f:=rfl
end Go.Dn
namespace Go.Dn
def AS {α β:Type} (F:(α→Option β)→α→Option β):Nat→α→Option β
 | 0,_=>none
 | n+1,x=>F (AS F n) x
theorem JQ {P:Program} {specs:List (Nat×aB)} (hX:b8 ⟨P,specs,[]⟩) (hmix:P.follows .mixedOrders=true) {f:FuncId} {fn:Func} {ps:List PM} {rs:List RM} (F:(eU ps→Option (ck ps rs))→eU ps→Option (ck ps rs))
 (anns:List (Nat×Ann)) (ar:Option Ty) (hf:P.funcs[f]? =some fn) (hb:av P f)
 (h:∀ self x,Ir ⟨P,(f,⟨ps,rs,self⟩)::specs,[]⟩ anns ar fn ⟨ps,rs,F self⟩ x=F self x):∀ n,aJ P f ⟨ps,rs,AS F n⟩
 | 0=>fun _ _ _ _ _ _ _ _ _ hm _=>by cases hm
 | n+1=>by
  have ih:=JQ hX hmix F anns ar hf hb h n
  have hX':b8 ⟨P,(f,⟨ps,rs,AS F n⟩)::specs,[]⟩:=by
   refine⟨fun g sp hg=> ?_,nofun⟩
   rcases Yc.1 hg with e | e
   ·cases e;exact⟨ih,hb⟩
   ·exact hX.fn g sp e
  exact SQ (X:=⟨P,(f,⟨ps,rs,AS F n⟩)::specs,[]⟩) hX' hmix ⟨ps,rs,AS F (n+1)⟩ anns ar hf (fun x y hm=>(h (AS F n) x).trans hm)
theorem PR {P:Program} {f:FuncId} {ps:List PM} {rs:List RM} {m:Nat→eU ps→Option (ck ps rs)} (h:∀ n,aJ P f ⟨ps,rs,m n⟩) (fuel:eU ps→Nat):aJ P f ⟨ps,rs,fun x=>m (fuel x) x⟩:=
 fun G w ow args x y hG how ha hm hT=>(h (fuel x) G w ow args x y hG how ha hm hT).mono fun _ _ ⟨G',ow',vs,hg⟩=>⟨G',ow',vs,{ hg with }⟩
theorem PT {P:Program} {f:FuncId} {m:eU [.val .str,.val .str]→Option (ck [.val .str,.val .str] [.val .str])}
 (h:∀ (s c r:List UInt8) (w:World),m (s,c,())=some (r,())→Calls P f #[.string (bs s),.string (bs c)] w fun e w'=>e= .returned (.string (bs r))∧RowKit.Below w.heap.size w w'):aJ P f ⟨[.val .str,.val .str],[.val .str],m⟩:=by
 intro G w ow args x y hG how ha hm _
 obtain⟨s,c,u⟩:=x
 obtain⟨r,u'⟩:=y
 obtain⟨v,us,h1,_,hv,v',us',h2,_,hv',h3⟩:=ha
 have e1:=h1 rfl
 have e2:=h2 rfl
 have e3:us'=[]:=h3
 have e4:v= .string (bs s):=by simpa [Gi,bL,aD] using hv
 have e5:v'= .string (bs c):=by simpa [Gi,bL,aD] using hv'
 subst e1;subst e2;subst e3;subst e4;subst e5
 refine (h s c r w hm).mono ?_
 rintro e w' ⟨he,hb⟩
 refine⟨G,fun _=>none,[.string (bs r)], ?_⟩
 exact {
  ret:=he
  le:=Gh.le_refl G
  agr:=fun b o hbo=>by
   have hw:=hG b o hbo
   have hlt:b<w.heap.size:=by
    rcases YQ b w.heap.size with h | h
    ·exact h
    ·rw[Ww h] at hw;cases hw
   rw[hb.block b hlt];exact hw
  size:=hb.size
  os:=hb.os
  output:=hb.output
  old:=fun b hlt _=>⟨hb.block b hlt,rfl⟩
  own:=fun b i hbi=>by cases hbi
  out:=⟨_,_,rfl,rfl,rfl,trivial⟩
  hnd:=fun _=>rfl }
end Go.Dn
namespace Go.Dn
theorem b8.nil (P:Program):b8 ⟨P,[],[]⟩:=⟨nofun,nofun⟩
theorem b8.cons {P:Program} {f:FuncId} {sp:aB} {l:List (Nat×aB)} {ks:List (Nat×HZ)} (h:aJ P f sp) (hb:av P f) (r:b8 ⟨P,l,ks⟩):b8 ⟨P,(f,sp)::l,ks⟩:=by
 refine⟨fun g sp' hg=> ?_,r.key⟩
 rcases Yc.1 hg with e | e
 ·cases e;exact⟨h,hb⟩
 ·exact r.fn g sp' e
theorem ak {P:Program} {f:FuncId} {fn:Func} (h:P.funcs[f]? =some fn) (hb:fn.body.isSome=true) (hn:fn.name≠ "runtime.NumGoroutine"):av P f:=⟨fn,h,hb,hn⟩
end Go.Dn
namespace Go.Dn
open Go.ChangeShapes Go.WideShapes Go.ChangeAt Go.RowKit
def Wf:(t:Ty)→t.den→Prop
 | .int k,n=>k.min≤(show Int from n)∧(show Int from n)≤k.max
 | .bool,_=>True
 | .str,s=>List.length s≤maxLen
 | .unit,_=>True
 | .pair a b,x=>Wf a x.1∧Wf b x.2
 | .st t,x=>Wf t x
 | .slice t,l=>List.length l≤maxLen∧∀ x,x∈(show List t.den from l)→Wf t x
 | .ptr _,_=>True
 | .clo _ _,_=>True
 | .hnd,_=>True
def Fits (P:Program):Nat→TypeId→Ty→Bool
 | 0,_,_=>false
 | d+1,T,t=>match P.underlying T,t with
  | some (.int k),.int k'=>decide (k=k')
  | some .bool,.bool=>true
  | some .string,.str=>true
  | some (.slice e),.slice t=>Nat.ble 1 t.size&&(Nat.beq (P.cellsOf e) t.size&&Fits P d e t)
  | some (.struct fs),.st t=>Nat.beq (P.cellsOf T) t.size&&fitsF (Fits P d) P fs.toList 0 t
  | _,_=>false
where
 fitsF (g:TypeId→Ty→Bool) (P:Program):List Field→Nat→Ty→Bool
 | [],_,_=>false
 | [f],off,t=>Nat.beq f.offset off&&(Nat.beq (P.cellsOf f.type) t.size&&g f.type t)
 | f::r,off,.pair a b=>Nat.beq f.offset off&&(Nat.beq (P.cellsOf f.type) a.size&&(g f.type a&&fitsF g P r (off+a.size) b))
 | _,_,_=>false
def Gw (w:World):Gh:=⟨fun b=>w.heap[b]?,fun _=>none⟩
theorem Vx (w:World):Agr (Gw w) w:=fun _ _ h=>h
theorem HG {w:World} {base:Nat} {a:Addr} {n:Nat} {cs:List Value} (hn:0<n) (h:w.cells? base a n=some cs):
 ∃ c T fz,a.spot=none∧w.heap[a.block]? =some (.cells c T fz)∧a.off+n≤c.size∧cs=(c.toList.drop a.off).take n:=by
 obtain⟨_,hl,hc⟩:=World.cells?_some h
 have h0:=hc 0 hn
 have hlt:0<cs.length:=by omega
 rw[XL hlt,show a.add 0=a from rfl] at h0
 unfold World.cell? at h0
 split at h0
 ·rename_i c T fz hb
  split at h0
  ·cases h0
  ·rename_i hs
   have hspot:a.spot=none:=by simpa using hs
   have hall:∀ i,i<n→c[a.off+i]? =cs[i]? :=by
    intro i hi
    have:=hc i hi
    rw[← this]
    unfold World.cell? Addr.add
    by_cases h:i=0
    ·subst h;simp[hb,hspot]
    ·simp[h,hb]
   refine⟨c,T,fz,hspot,hb, ?_, ?_⟩
   ·have h1:=hall (n - 1) (by omega)
    rw[XL (show n - 1<cs.length by omega)] at h1
    have:=(Wx.1 h1).1
    omega
   ·apply Xy
    intro i
    rw[XT,XK]
    by_cases hi:i<n
    ·rw[Zw hi, ← hall i hi];simp
    ·rw[Zv hi,XM (by omega)]
 ·cases h0
section
variable {H:Type} {enc:TypeId×Value→H} {P:Program} {w:World} {base:Nat} {spare:Nat→Bool} {held:Bool}
theorem Q7 {α:Type} {R:α→List Value→Prop} {sz:Nat} {c:List Value} {y:Nat→α} (off:Nat):∀ n,off+n*sz≤c.length→(∀ i,i<n→R (y i) ((c.drop (off+i*sz)).take sz))→bX R ((List.range n).map y) ((c.drop off).take (n*sz))
 | 0,_,_=>by simp[bX]
 | n+1,hle,h=>by
  rw[List.range_succ,X6,List.map_singleton]
  have e:(c.drop off).take ((n+1)*sz)=(c.drop off).take (n*sz)++(c.drop (off+n*sz)).take sz:=by
   rw[YE,Y0,List.take_add,Xr]
  rw[e]
  refine bX.append (Q7 off n (by rw[YE] at hle;omega) fun i hi=>h i (by omega)) ?_
  exact⟨_,[],by simp,h n (by omega),rfl⟩
theorem QV:∀ (d:Nat) (T:TypeId) (t:Ty) (fuel:Nat) (cs:List Value) (x:DataW H×List MemPlace),Fits P d T t=true→DataW.trod enc P w base spare held fuel T cs=some x→
 ∃ y:t.den,aD (Gw w) t y cs∧Wf t y
 | 0,_,_,_,_,_,hf,_=>by cases hf
 | d+1,T,t,fuel,cs,x,hf,h=>by
  have ih:=fun T t fuel cs x=>QV d T t fuel cs x
  unfold Fits at hf
  split at hf
  ·rename_i k k' hu
   obtain rfl:k=k':=ZB hf
   obtain⟨n,rfl,_,hw⟩:=DataW.trod_int hu h
   refine⟨n,rfl, ?_⟩
   simp only[Lit.wf,WJ,Zp] at hw
   exact hw
  ·rename_i hu
   obtain⟨b,rfl,_⟩:=DataW.trod_bool hu h
   exact⟨b,rfl,trivial⟩
  ·rename_i hu
   obtain⟨s,rfl,_,hw⟩:=DataW.trod_string hu h
   refine⟨s.data.toList, ?_,hw⟩
   simp[aD,bs]
  ·rename_i e t hu
   simp only[WJ] at hf
   have hsz:0<t.size:=YK hf.1
   have hce:P.cellsOf e=t.size:=YI hf.2.1
   rcases DataW.trod_slice hu h with ⟨rfl,_⟩ | ⟨a,len,cap,elems,rest,n,_,rfl,_,_,hl,hm,hlen,hel,_⟩
   ·exact⟨[],⟨_,rfl,none,0,rfl,YM _,Y5 _,.inl rfl⟩,⟨Y5 _,fun x hx=>by cases hx⟩⟩
   ·have hone:∀ i,i<len→∃ y:t.den,(∃ cs',w.cells? base (a.add (i*t.size)) t.size=some cs'∧aD (Gw w) t y cs')∧Wf t y:=by
     intro i hi
     have h1:=hel i hi
     rw[XL (by omega),hce] at h1
     obtain⟨cs',h2,h3⟩:=Option.bind_eq_some_iff.1 h1
     obtain⟨y,h4,h5⟩:=ih e t n cs' _ hf.2.2 h3
     exact⟨y,⟨cs',h2,h4⟩,h5⟩
    by_cases h0:len=0
    ·subst h0
     exact⟨[],⟨_,rfl,some a,cap,rfl,Y5 _,hm,.inl rfl⟩,⟨Y5 _,fun x hx=>by cases hx⟩⟩
    ·obtain⟨y0,_,_⟩:=hone 0 (by omega)
     have:∃ y:Nat→t.den,∀ i,i<len→(∃ cs',w.cells? base (a.add (i*t.size)) t.size=some cs'∧aD (Gw w) t (y i) cs')∧Wf t (y i):=by
      classical
      refine⟨fun i=>if hi:i<len then Classical.choose (hone i hi) else y0,fun i hi=> ?_⟩
      simp only[dif_pos hi]
      exact Classical.choose_spec (hone i hi)
     obtain⟨y,hy⟩:=this
     obtain⟨⟨cs0,hc0,_⟩,_⟩:=hy 0 (by omega)
     rw[Y6,show a.add 0=a from rfl] at hc0
     obtain⟨c,T',fz,hspot,hb,_,_⟩:=HG hsz hc0
     have hat:∀ i,i<len→a.off+i*t.size+t.size≤c.size∧aD (Gw w) t (y i) ((c.toList.drop (a.off+i*t.size)).take t.size):=by
      intro i hi
      obtain⟨⟨cs',h1,h2⟩,_⟩:=hy i hi
      obtain⟨c',T2,fz2,h3,h4,h5,h6⟩:=HG hsz h1
      have hblk:(a.add (i*t.size)).block=a.block:=by unfold Addr.add;split<;>rfl
      have hoff:(a.add (i*t.size)).off=a.off+i*t.size:=by
       unfold Addr.add;split
       ·rename_i hz;rw[hz];rfl
       ·rfl
      rw[hblk,hb] at h4
      cases h4
      rw[hoff] at h5 h6
      exact⟨h5,h6 ▸ h2⟩
     have hend:a.off+len*t.size≤c.size:=by
      have:=(hat (len - 1) (by omega)).1
      have e:len*t.size=(len - 1)*t.size+t.size:=by
       conv=>lhs;rw[show len=len - 1+1 by omega]
       rw[YE,Y0]
      omega
     refine⟨(List.range len).map y,⟨_,rfl,some a,cap,by simp,by simpa using hl,hm,.inr ⟨a.block,a.off,c,T',fz, ?_,hb,by simpa using hend, ?_⟩⟩,⟨by simp only[XZ,List.length_range];omega,fun x hx=> ?_⟩⟩
     ·congr 1;cases a;cases hspot;rfl
     ·have:=Q7 (R:=aD (Gw w) t) (y:=y) (c:=c.toList) (sz:=t.size) a.off len (by simpa using hend) fun i hi=>(hat i hi).2
      simpa using this
     ·obtain⟨i,hi,rfl⟩:=Yi.1 hx
      exact (hy i (by simpa using hi)).2
  ·rename_i fs t hu
   simp only[WJ] at hf
   obtain⟨xs,n,_,_,hlen,hxl,hx⟩:=DataW.trod_struct hu h
   have hct:P.cellsOf T=t.size:=YI hf.1
   have key:∀ (l:List Field) (k off:Nat) (t:Ty),fs.toList.drop k=l→Fits.fitsF (Fits P d) P l off t=true→off+t.size≤cs.length→
    ∃ y:t.den,aD (Gw w) t y ((cs.drop off).take t.size)∧Wf t y:=by
    intro l
    induction l with
    | nil=>intro k off t _ h2;cases h2
    | cons f r ihl=>
     intro k off t hk h2 hle
     have hfk:fs[k]? =some f:=by
      have:=congrArg (·[0]?) hk
      simpa [XK] using this
     have hxk:=hx k f hfk
     have hkl:k<xs.length:=by rw[hxl];exact (Wx.1 hfk).1
     rw[XL hkl] at hxk
     have hdr:fs.toList.drop (k+1)=r:=by
      have:=congrArg List.tail hk
      simpa [Yx] using this
     cases r with
     | nil=>
      simp only[Fits.fitsF,WJ] at h2
      obtain⟨h3,h4,h5⟩:=h2
      rw[YI h3,YI h4] at hxk
      exact ih f.type t n _ _ h5 hxk
     | cons f' r'=>
      obtain⟨a,b,rfl⟩:∃ a b,t= .pair a b:=by
       cases t with
       | pair a b=>exact⟨a,b,rfl⟩
       | _=>simp[Fits.fitsF] at h2
      simp only[Fits.fitsF,WJ] at h2
      obtain⟨h3,h4,h5,h6⟩:=h2
      rw[YI h3,YI h4] at hxk
      obtain⟨y1,g1,g2⟩:=ih f.type a n _ _ h5 hxk
      simp only[Ty.size] at hle
      obtain⟨y2,g3,g4⟩:=ihl (k+1) (off+a.size) b hdr h6 (by omega)
      refine⟨(y1,y2),⟨_,_, ?_,g1,g3⟩,⟨g2,g4⟩⟩
      simp only[Ty.size]
      rw[List.take_add,Xr]
   obtain⟨y,h1,h2⟩:=key fs.toList 0 0 t rfl hf.2 (by omega)
   refine⟨y, ?_,h2⟩
   rw[Xv,YB (by omega)] at h1
   exact h1
  ·cases hf
theorem Ul {r:Reach} {b0:Nat} {d:Nat} {T:TypeId} {t:Ty} {v:Value} {dd:DataW H} {ps:List MemPlace} (hf:Fits P d T t=true) (hval:Value.okWide P w r b0 T v) (h:DataW.Trod enc P w base spare held T v dd ps):
 ∃ y:t.den,bL (Gw w) t y v∧Wf t y:=by
 obtain⟨fuel,h⟩:=h
 obtain⟨y,h1,h2⟩:=QV d T t fuel _ _ hf h
 refine⟨y, ?_,h2⟩
 cases d with
 | zero=>cases hf
 | succ d=>
  unfold Fits at hf
  split at hf
  ·rename_i hu;obtain⟨n,rfl⟩:=okWide_int hu hval;exact h1
  ·rename_i hu;obtain⟨n,rfl⟩:=okWide_bool hu hval;exact h1
  ·rename_i hu;obtain⟨n,rfl⟩:=okWide_string hu hval;exact h1
  ·rename_i hu;obtain⟨a,len,cap,rfl⟩:=okWide_slice hu hval;exact h1
  ·rename_i hu;obtain⟨c,rfl,_⟩:=okWide_struct hu hval;exact⟨c.toList,by simp,h1⟩
  ·cases hf
end
def pms:List Ty→List PM
 | []=>[]
 | t::r=> .val t::pms r
def Rj:(ts:List Ty)→eU (pms ts)→Prop
 | [],_=>True
 | t::r,x=>Wf t x.1∧Rj r x.2
def Gs (P:Program):List TypeId→List Ty→Bool
 | [],[]=>true
 | T::r,t::q=>Fits P 9 T t&&Gs P r q
 | _,_=>false
theorem MD {H:Type} {enc:TypeId×Value→H} {P:Program} {w:World} {base:Nat} {spare:Nat→Bool} {held:Bool} {r:Reach} {b0:Nat}:∀ {Ts:List TypeId} {ts:List Ty} {vs:List Value} {ds:List (DataW H)} {ps:List MemPlace} {i:Nat},Gs P Ts ts=true→
 (∀ (j:Nat) t v,Ts[j]? =some t→vs[j]? =some v→Value.okWide P w r b0 t v)→DataW.TrodAll enc P w base spare held Ts vs ds ps→
 ∃ x,gT (Gw w) w (fun _=>none) i (pms ts) x vs∧Rj ts x
 | [],[],[],[],_,_,_,_,_=>⟨(),rfl,trivial⟩
 | T::Ts,t::ts,v::vs,d::ds,ps,i,hf,hv,⟨p,q,h1,h2,_⟩=>by
  simp only[Gs,WJ] at hf
  obtain⟨y,h3,h4⟩:=Ul hf.1 (hv 0 T v rfl rfl) h1
  obtain⟨x,h5,h6⟩:=MD (i:=i+1) hf.2 (fun j t v ht hv'=>hv (j+1) t v ht hv') h2
  exact⟨(y,x),⟨v,vs,fun _=>rfl,fun h=>absurd h (by simp[PM.arg]),h3,h5⟩,⟨h4,h6⟩⟩
theorem law_calls {P:Program} {f:FuncId} {fn:Func} {ts:List Ty} {m:eU (pms ts)→Option (ck (pms ts) [.val .bool])} (ok:aJ P f ⟨pms ts,[.val .bool],m⟩)
 (hm:∀ x,Rj ts x→∃ y,m x=some (true,y)) (hfit:Gs P fn.params.toList ts=true) {tb:TypeId} (hres:fn.resultTypes= #[tb]) (htb:P.underlying tb=some .bool)
 (kids:Kids P (· <P.types.size)) (full:∀ t e,t<P.types.size→P.underlying t=some (.slice e)→0<P.cellsOf e) (hlt:∀ t∈fn.params.toList,t<P.types.size)
 {H:Type} {enc:TypeId×Value→H} {s:ChangeSpec} (hvars:s.vars=[]) {W:World} (hT:uB P (Gw W)) {base:Nat} {args:Array Value} {ds gs:List (DataW H)} {before:List MemPlace}
 (hspec:s.fn H (ds++[])={ results:=[.lit (.bool true)],args:=ds })
 (hval:∀ (j:Nat) t v,fn.params[j]? =some t→args[j]? =some v→Value.okWide P W .any base t v)
 (hW:DataW.Whole enc P fn.params.toList s.vars false W args.toList ds gs before):
 Calls P f args W fun e W'=>∃ v,e= .returned v∧s.post enc P fn false true false false W args v W':=by
 have hW':=hW
 obtain⟨p,q,hA,hV,hpq,hfz,hnd⟩:=hW
 rw[hvars] at hV
 have hg:gs=[]∧q=[]:=by
  cases gs with
  | nil=>exact⟨rfl,hV⟩
  | cons g gs=>exact absurd hV (by simp[DataW.TrodVars])
 obtain⟨rfl,rfl⟩:=hg
 rw[Xn] at hpq
 subst hpq
 obtain⟨x,hx,hwf⟩:=MD (i:=0) hfit (fun j t v ht hv=>hval j t v (by simpa using ht) (by simpa using hv)) hA
 obtain⟨y,hy⟩:=hm x hwf
 refine (ok (Gw W) W (fun _=>none) args.toList x (true,y) (Vx W) (fun _ _ h=>by cases h) hx hy hT).mono ?_
 rintro e W' ⟨G',ow',vs,hgv⟩
 have hold:∀ b,b<W.heap.size→W'.heap[b]? =W.heap[b]? :=fun b hb=>(hgv.old b hb rfl).1
 have hplt:=hW'.lt
 obtain⟨v,us,rfl,hv,hus,_⟩:=hgv.out
 subst hus
 have hv':v= .bool true:=by simpa [Ri,bL,aD] using hv
 subst hv'
 refine⟨.bool true,hgv.ret,ds,[],before,[],before,[],hW', ?_, ?_, ?_, ?_,fun h=>by cases h⟩
 ·rw[hspec,hres]
  exact trodAll_mk1 (shut_bool htb true)
 ·rw[hspec]
  have hsame:∀ z,z∈before→W.sameAt W' z:=by
   intro z hz
   have:=hplt z hz
   cases z with
   | cell b off=>simp only[World.sameAt,World.cell?];rw[hold b this]
   | map b=>exact hold b this
  have hre:=DataW.TrodAll.respare (spare':=fun b=>decide (b<W.heap.size)) kids full hlt hA (fun z hz=>by simpa using hplt z hz)
  have hcar:∀ {Ts:List TypeId} {vs:List Value} {ds:List (DataW H)} {ps:List MemPlace},DataW.TrodAll enc P W 0 (fun b=>decide (b<W.heap.size)) true Ts vs ds ps→(∀ z,z∈ps→W.sameAt W' z)→DataW.TrodAll enc P W' 0 (fun b=>decide (b<W.heap.size)) true Ts vs ds ps:=by
   intro Ts
   induction Ts with
   | nil=>
    intro vs ds ps h _
    cases vs<;>cases ds<;>first | exact h | exact absurd h (by simp[DataW.TrodAll])
   | cons T Ts ih=>
    intro vs ds ps h hs
    cases vs with
    | nil=>cases ds<;>exact absurd h (by simp[DataW.TrodAll])
    | cons v vs=>cases ds with
    | nil=>exact absurd h (by simp[DataW.TrodAll])
    | cons d ds=>
    obtain⟨p,q,⟨n,h1⟩,h2,rfl⟩:=h
    exact⟨p,q,⟨n,DataW.trod_carry n _ _ _ h1 fun z hz=>hs z (List.mem_append_left _ hz)⟩,ih h2 (fun z hz=>hs z (List.mem_append_right _ hz)),rfl⟩
  exact hcar hre hsame
 ·rw[hspec,hvars];rfl
 ·refine⟨hgv.os,hgv.output,fun i hi=> ?_⟩
  rw[hold i hi]
  cases hh:W.heap[i]? with
  | none=>trivial
  | some o=>cases o<;>simp[World.keptBut]
end Go.Dn
namespace Go.Dn
theorem HY {H:Type} {enc:TypeId×Value→H} {P:Program} {w:World} {base:Nat} {spare:Nat→Bool} {held:Bool}:∀ {Ts:List TypeId} {vs:List Value} {ds:List (DataW H)} {ps:List MemPlace},DataW.TrodAll enc P w base spare held Ts vs ds ps→ds.length=Ts.length
 | [],[],[],_,_=>rfl
 | _::_,_::_,_::_,_,⟨_,_,_,h,_⟩=>by rw[XY,XY,HY h]
def UH:Nat→DataW Unit→List Value
 | d+1,.agg l=>l.flatMap (UH d)
 | _,.lit (.int k n)=>[.int k n]
 | _,.lit (.bool b)=>[.bool b]
 | _,_=>[]
def VE (P:Program) (l:List (String×DataW Unit)) (w:World):World:=
 l.foldl (fun w p=>match P.globalNamed p.1 with
  | some g=>{ w with heap:=w.heap.modify g fun
   | .cells _ t fr=> .cells (UH 9 p.2).toArray t fr
   | o=>o }
  | none=>w) w
end Go.Dn
namespace Go.Dn
open Go.Proofs Go.Shelf
section
variable {P:Program} {G:Gh} {w w':World} {ow:Nat→Option Nat} {e:TypeId}
end
end Go.Dn
namespace Go.Dn
theorem SR {P:Program} {f:FuncId} {t:Ty} {m:eU [.val .str,.val .str]→Option (ck [.val .str,.val .str] [.val t])}
 (h:∀ (s c:List UInt8) (r:t.den) (w:World),m (s,c,())=some (r,())→∃ v,(∀ G:Gh,bL G t r v)∧Calls P f #[.string (bs s),.string (bs c)] w fun e w'=>e= .returned v∧RowKit.Below w.heap.size w w'):aJ P f ⟨[.val .str,.val .str],[.val t],m⟩:=by
 intro G w ow args x y hG how ha hm _
 obtain⟨s,c,u⟩:=x
 obtain⟨r,u'⟩:=y
 obtain⟨v,us,h1,_,hv,v',us',h2,_,hv',h3⟩:=ha
 have e1:=h1 rfl
 have e2:=h2 rfl
 have e3:us'=[]:=h3
 have e4:v= .string (bs s):=by simpa [Gi,bL,aD] using hv
 have e5:v'= .string (bs c):=by simpa [Gi,bL,aD] using hv'
 subst e1;subst e2;subst e3;subst e4;subst e5
 obtain⟨z,hz,hc⟩:=h s c r w hm
 refine hc.mono ?_
 rintro e w' ⟨he,hb⟩
 refine⟨G,fun _=>none,[z], ?_⟩
 exact {
  ret:=he
  le:=Gh.le_refl G
  agr:=fun b o hbo=>by
   have hw:=hG b o hbo
   have hlt:b<w.heap.size:=by
    rcases YQ b w.heap.size with h | h
    ·exact h
    ·rw[Ww h] at hw;cases hw
   rw[hb.block b hlt];exact hw
  size:=hb.size
  os:=hb.os
  output:=hb.output
  old:=fun b hlt _=>⟨hb.block b hlt,rfl⟩
  own:=fun b i hbi=>by cases hbi
  out:=⟨_,_,rfl,hz G,rfl,trivial⟩
  hnd:=fun _=>rfl }
end Go.Dn
namespace Go.Dn
def Dx:(t:Ty)→t.den→Value
 | .int k,n=> .int k n
 | .bool,b=> .bool b
 | .str,s=> .string (bs s)
 | _,_=>undef
def isLit:Ty→Bool
 | .int _=>true
 | .bool=>true
 | .str=>true
 | _=>false
theorem Lt {G:Gh} {t:Ty} (ht:isLit t=true) {x:t.den} {v:Value} (h:bL G t x v):v=Dx t x:=by
 cases t<;>simp[isLit] at ht<;>simpa [bL,aD,Dx] using h
theorem PS {P:Program} {f:FuncId} {a a' t:Ty} {m:eU [.val a,.val a']→Option (ck [.val a,.val a'] [.val t])} (ha:isLit a=true) (ha':isLit a'=true)
 (h:∀ (s:a.den) (c:a'.den) (r:t.den) (w:World),m (s,c,())=some (r,())→∃ v,(∀ G:Gh,bL G t r v)∧Calls P f #[Dx a s,Dx a' c] w fun e w'=>e= .returned v∧RowKit.Below w.heap.size w w'):aJ P f ⟨[.val a,.val a'],[.val t],m⟩:=by
 intro G w ow args x y hG how hargs hm _
 obtain⟨s,c,u⟩:=x
 obtain⟨r,u'⟩:=y
 obtain⟨v,us,h1,_,hv,v',us',h2,_,hv',h3⟩:=hargs
 have e1:=h1 rfl
 have e2:=h2 rfl
 have e3:us'=[]:=h3
 have e4:v=Dx a s:=Lt ha hv
 have e5:v'=Dx a' c:=Lt ha' hv'
 subst e1;subst e2;subst e3;subst e4;subst e5
 obtain⟨z,hz,hc⟩:=h s c r w hm
 refine hc.mono ?_
 rintro e w' ⟨he,hb⟩
 refine⟨G,fun _=>none,[z], ?_⟩
 exact {
  ret:=he
  le:=Gh.le_refl G
  agr:=fun b o hbo=>by
   have hw:=hG b o hbo
   have hlt:b<w.heap.size:=by
    rcases YQ b w.heap.size with h | h
    ·exact h
    ·rw[Ww h] at hw;cases hw
   rw[hb.block b hlt];exact hw
  size:=hb.size
  os:=hb.os
  output:=hb.output
  old:=fun b hlt _=>⟨hb.block b hlt,rfl⟩
  own:=fun b i hbi=>by cases hbi
  out:=⟨_,_,rfl,hz G,rfl,trivial⟩
  hnd:=fun _=>rfl }
theorem ua (P:Program) (f:FuncId) (ps:List PM) (rs:List RM):aJ P f ⟨ps,rs,fun _=>none⟩:=by
 intro G w ow args x y hG how hargs hm _
 cases hm
end Go.Dn
namespace Go.Dn
open Go.Lib
theorem Pv (w:World) (k:Nat) (os:Array Obj):RowKit.Below w.heap.size w (Sort.grow (w.drewN k) os):=
 ⟨rfl,rfl,rfl,by show w.heap.size≤(w.heap++os).size;rw[Array.size_append];omega,fun b hb=>by
   show (w.heap++os)[b]? =w.heap[b]?
   rw[Array.getElem?_append_left hb]⟩
theorem Ux {P:Program} {G:Gh} {w:World} (hG:Agr G w) (hT:uB P G) {g:Nat} (hg:P.globalNamed "internal/strconv.uint64pow10" =some g):TabIs P w "internal/strconv.uint64pow10" .u64 AN:=by
 obtain⟨T,fz,e⟩:=hT.pow g hg
 have h:=hG _ _ e
 unfold TabIs World.var?
 rw[hg,Y7,h]
theorem Oi {P:Program} {f:FuncId} {a t:Ty} {m:eU [.val a]→Option (ck [.val a] [.val t])} {g:Nat} (hg:P.globalNamed "internal/strconv.uint64pow10" =some g) (ha:isLit a=true)
 (h:∀ (s:a.den) (r:t.den) (w:World),TabIs P w "internal/strconv.uint64pow10" .u64 AN→m (s,())=some (r,())→∃ v,(∀ G:Gh,bL G t r v)∧Calls P f #[Dx a s] w fun e w'=>e= .returned v∧RowKit.Below w.heap.size w w'):aJ P f ⟨[.val a],[.val t],m⟩:=by
 intro G w ow args x y hG how hargs hm hT
 obtain⟨s,u⟩:=x
 obtain⟨r,u'⟩:=y
 obtain⟨v,us,h1,_,hv,h3⟩:=hargs
 have e1:=h1 rfl
 have e3:us=[]:=h3
 have e4:v=Dx a s:=Lt ha hv
 subst e1;subst e3;subst e4
 obtain⟨z,hz,hc⟩:=h s r w (Ux hG hT hg) hm
 refine hc.mono ?_
 rintro e w' ⟨he,hb⟩
 refine⟨G,fun _=>none,[z], ?_⟩
 exact {
  ret:=he
  le:=Gh.le_refl G
  agr:=fun b o hbo=>by
   have hw:=hG b o hbo
   have hlt:b<w.heap.size:=by
    rcases YQ b w.heap.size with h | h
    ·exact h
    ·rw[Ww h] at hw;cases hw
   rw[hb.block b hlt];exact hw
  size:=hb.size
  os:=hb.os
  output:=hb.output
  old:=fun b hlt _=>⟨hb.block b hlt,rfl⟩
  own:=fun b i hbi=>by cases hbi
  out:=⟨_,_,rfl,hz G,rfl,trivial⟩
  hnd:=fun _=>rfl }
end Go.Dn
namespace Go.Dn
open Classical in
noncomputable def F8 {α:Type} (ok:α→Bool) (cf:α→α→Int) (l:List α):Option (List α×Unit):=
 if (∀ x,x∈l→ok x=true)∧(∀ x,x∈l→∀ y,y∈l→¬ cf x y<0→¬ cf y x<0→x=y)∧l.length<4294967296 then some (l.mergeSort fun x y=> !decide (cf y x<0),()) else none
end Go.Dn
namespace Go.Dn
open Go.Proofs Go.Shelf Go.Sort Go.RowKit Go.Lib
theorem flat_get {α:Type} [Inhabited α] {enc:α→List Value} {k:Nat} (hk:∀ x,(enc x).length=k):∀ (l:List α) (j:Nat),j<l.length*k→(l.flatMap enc)[j]? =some ((enc l[j / k]!)[j % k]!)
 | [],j,h=>by simp at h
 | x::l,j,h=>by
  have hk0:0<k:=by
   rcases YJ k with h0 | h0
   ·subst h0;simp at h
   ·exact h0
  rw[XD]
  by_cases hj:j<k
  ·rw[XG (by rw[hk];exact hj),YG hj,YW hj]
   have h1:j<(enc x).length:=by rw[hk];exact hj
   simp[h1]
  ·have h1:k≤j:=by omega
   rw[XH (by rw[hk];exact h1),hk]
   have h2:j - k<l.length*k:=by
    rw[XY,YE,Y0] at h
    omega
   rw[flat_get hk l (j - k) h2]
   have e1:j / k=(j - k) / k+1:=by
    conv=>lhs;rw[show j=j - k+k from by omega]
    rw[Nat.add_div_right _ hk0]
   have e2:j % k=(j - k) % k:=by
    conv=>lhs;rw[show j=j - k+k from by omega]
    rw[Nat.add_mod_right]
   rw[e1,e2]
   simp
theorem IA {α:Type} {enc:α→List Value} {k:Nat} (hk:∀ x,(enc x).length=k):∀ (l:List α),(l.flatMap enc).length=l.length*k
 | []=>by simp
 | x::l=>by rw[XD,XX,hk,IA hk l,XY,YE,Y0,Nat.add_comm]
theorem JN {α:Type} [Inhabited α] {enc:α→List Value} {k:Nat} (hk:∀ x,(enc x).length=k) (d:Array α):(flatK enc k d).toList=d.toList.flatMap enc:=by
 apply Xy
 intro j
 by_cases hj:j<d.size*k
 ·rw[flat_get hk d.toList j (by simpa using hj)]
  have h1:=get_flatK enc k d j hj
  have h2:j<(flatK enc k d).size:=by rw[size_flatK];exact hj
  rw[getElem!_pos (flatK enc k d) j h2] at h1
  rw[WB,Wv h2,h1]
  have e:d[j / k]! =d.toList[j / k]! :=by rw[Array.getElem!_toList]
  rw[e]
 ·rw[XM (by rw[WC,size_flatK];omega),XM (by rw[IA hk];simpa using hj)]
theorem LU (cur F:Array Value) (h:F.size≤cur.size):(putCells id 0 F cur).toList.take F.size=F.toList:=by
 apply Xy
 intro j
 by_cases hj:j<F.size
 ·rw[XU hj,WB,WB]
  have h2:j<cur.size:=by omega
  simp[putCells,hj,h2]
 ·rw[List.getElem?_take_eq_none (by omega),XM (by simp;omega)]
theorem Ot {w:World} {g n:Nat} {os:Array Obj} {cur:Array Value} {e:TypeId} {fr:Nat×Nat} (F:Array Value) (hb:w.heap[g]? =some (.cells cur e fr)):
 (grow (putRow id (Sort.ahead w n) g 0 F) os).heap[g]? =some (.cells (putCells id 0 F cur) e fr):=by
 have hg:g<w.heap.size:=(Wx.1 hb).1
 rw[heap_grow_old _ _ (by simpa using hg)]
 simp[putRow,mapBlock,Sort.ahead,Array.getElem?_modify,hb,onCells]
theorem Qc {w:World} {g n:Nat} {os:Array Obj} (F:Array Value) {k:Nat} (hk:k<w.heap.size) (hne:k≠g):(grow (putRow id (Sort.ahead w n) g 0 F) os).heap[k]? =w.heap[k]? :=by
 rw[heap_grow_old _ _ (by simpa using hk)]
 have:g≠k:=fun e=>hne e.symm
 simp[putRow,mapBlock,Sort.ahead,Array.getElem?_modify,this]
theorem SU {α:Type} [Inhabited α] {enc:α→List Value} {k:Nat} (hk:∀ x,(enc x).length=k) {w:World} {g:Nat} {cur:Array Value} {e:TypeId} {d:Array α} (hb:w.heap[g]? =some (.cells cur e (0,0))) (ht:cur.toList.take (d.size*k)=d.toList.flatMap enc):HoldsK enc k w g 0 d:=by
 intro j hj
 rw[size_flatK] at hj
 refine⟨?_,by simp[World.frozen?,hb]⟩
 have h2:j<(flatK enc k d).size:=by rw[size_flatK];exact hj
 have h1:(cur.toList.take (d.size*k))[j]? =(flatK enc k d).toList[j]? :=by rw[ht,JN hk]
 rw[XU hj,WB,WB,Wv h2] at h1
 simp only[World.cell?,hb,Y4]
 simp only[Option.isSome_none,WM,Zu]
 rw[h1,getElem!_pos (flatK enc k d) j h2]
 rfl
theorem Qp {α:Type} {cf:α→α→Int} (hO:SWO (ltOf cf)) {l r:List α} (hT:∀ x,x∈l→∀ y,y∈l→¬ cf x y<0→¬ cf y x<0→x=y) (hp:r.Perm l) (hs:r.Pairwise fun x y=>(!decide (cf y x<0))=true):
 r=l.mergeSort fun x y=> !decide (cf y x<0):=by
 refine List.Perm.eq_of_pairwise (le:=fun x y=>(!decide (cf y x<0))=true) (fun a b ha hb h1 h2=> ?_) hs ?_ (hp.trans (List.mergeSort_perm _ _).symm)
 ·simp only[WS,Zn] at h1 h2
  exact hT a (hp.mem_iff.1 ha) b (by simpa using hb) h2 h1
 ·refine List.pairwise_mergeSort (fun a b c h1 h2=> ?_) (fun a b=> ?_) l
  ·have h1':ltOf cf b a=false:=by simpa [ltOf] using h1
   have h2':ltOf cf c b=false:=by simpa [ltOf] using h2
   have:=hO.ntrans _ _ _ h2' h1'
   simpa [ltOf] using this
  ·cases h:decide (cf b a<0) with
   | false=>rfl
   | true=>
    have h1:ltOf cf b a=true:=h
    have h2:ltOf cf a b=false:=by
     cases h3:ltOf cf a b with
     | false=>rfl
     | true=>
      have:=hO.trans _ _ _ h1 h3
      rw[hO.irrefl] at this;cases this
    have h2':decide (cf a b<0)=false:=h2
    rw[h2'];rfl
section
variable {P:Program}
def KM (P:Program) (g:Nat) (t:Ty) (ok:t.den→Bool) (cf:t.den→t.den→Int):Prop:=
 ∀ (G:Gh) (x y:t.den) (a b:List Value),aD G t x a→aD G t y b→ok x=true→ok y=true→∀ w:World,
  Calls P g #[.agg a.toArray,.agg b.toArray] w fun e w'=>e= .returned (.int .i64 (cf x y))∧∃ q os,w'=grow (w.drewN q) os
abbrev Pr (G:Gh) (t:Ty) (ok:t.den→Bool):Type:={p:t.den×List Value // aD G t p.1 p.2∧ok p.1=true}
theorem OU {G:Gh} {t:Ty} {ok:t.den→Bool}:∀ {l:List t.den} {cs:List Value},bX (aD G t) l cs→(∀ x,x∈l→ok x=true)→∃ d:List (Pr G t ok),d.map (fun p=>p.1.1)=l∧d.flatMap (fun p=>p.1.2)=cs
 | [],cs,h,_=>⟨[],rfl,by cases h;rfl⟩
 | x::l,cs,⟨c,r,e,h1,h2⟩,hok=>by
  obtain⟨d,e1,e2⟩:=OU h2 (fun y hy=>hok y (by simp[hy]))
  exact⟨⟨(x,c),h1,hok x (by simp)⟩::d,by simp[e1],by rw[XD,e2,e]⟩
theorem ML {G:Gh} {t:Ty} {ok:t.den→Bool}:∀ (d:List (Pr G t ok)),bX (aD G t) (d.map fun p=>p.1.1) (d.flatMap fun p=>p.1.2)
 | []=>rfl
 | p::d=>⟨p.1.2,d.flatMap fun p=>p.1.2,by rw[XD],p.2.1,ML d⟩
noncomputable def O8 (e:TypeId) (t:Ty) (g:Nat) (ok:t.den→Bool) (cf:t.den→t.den→Int):aB:=⟨[.mrow e t,.val (.clo g .unit)],[],fun x=>F8 ok cf (show List t.den from x.1)⟩
theorem Sc {ρ:Ren} (L:SlLaysF0.n6 P ρ) {t:Ty} (aE:∀ w,(isAgg (ρ.t 24)).run P w= .ok true w) (zE:∀ w,(Go.sizeOf (ρ.t 24)).run P w= .ok t.size w) {e1:TypeId} {g:Nat} {ok:t.den→Bool} {cf:t.den→t.den→Int} (hO:SWO (ltOf cf)) (hc:KM P g t ok cf) (eg:∀ args w,(callFunc g args).run P w= .ok (.enter g args) w)
 {G:Gh} {w:World} {ow:Nat→Option Nat} {l r:List t.den} {s:Value} {xs:List Value} (hG:Agr G w) (how:∀ b i,ow b=some i→G b=none∧b<w.heap.size)
 (hown:w.ownsRow 0 e1 t.size s l.length xs) (hrep:bX (aD G t) l xs) (hobl:∀ b,s.ownBlock=some b→ow b=some (64*0)) (hm:F8 ok cf l=some (r,())):
 Calls P (ρ.f 6) #[s,.func (.func g) #[] #[]] w fun e w'=>∃ G' ow' vs,Nt G w ow (O8 e1 t g ok cf) [s,.func (.func g) #[] #[]] (r,()) e w' G' ow' vs:=by
 unfold F8 at hm
 split at hm
 ·rename_i hcnd
  obtain⟨hok,hT,hlt⟩:=hcnd
  simp only[Option.some.injEq,Prod.mk.injEq,Ze] at hm
  rcases hown.2 with ⟨rfl,hl0⟩ | ⟨b0,cap,cur,rfl,hbase,hb,h1,h2,h3,h4⟩
  ·have hl:l=[]:=Xx hl0
   have hr:r=[]:=by rw[← hm,hl];simp
   refine (AnyF.slices_SortFunc_none L none 0 (.func (.func g) #[] #[]) w).mono ?_
   rintro e w' ⟨he,rfl⟩
   refine⟨G,fun _=>none,[], ?_⟩
   exact {
    ret:=he
    le:=Gh.le_refl G
    agr:=hG
    size:=YM _
    os:=rfl
    output:=rfl
    old:=fun b _ _=>⟨rfl,rfl⟩
    own:=fun b i hbi=>by cases hbi
    out:=⟨rfl,⟨_,rfl,⟨[],⟨by rw[hr];simp,.inl ⟨rfl,by rw[hr];rfl⟩⟩,by rw[hr];rfl⟩,fun b hb=>by cases hb⟩,trivial⟩
    hnd:=fun _=>rfl }
  ·have hgs:b0<w.heap.size:=(Wx.1 hb).1
   have hgOw:ow b0=some (64*0):=hobl b0 rfl
   have hgG:=(how b0 _ hgOw).1
   obtain⟨d,hd1,hd2⟩:=OU hrep hok
   have hdl:d.length=l.length:=by rw[← hd1,XZ]
   by_cases hl0:l=[]
   ·subst hl0
    have hr:r=[]:=by rw[← hm];simp
    refine (AnyF.slices_SortFunc_none L (some ⟨b0,0,none⟩) cap (.func (.func g) #[] #[]) w).mono ?_
    rintro e w' ⟨he,rfl⟩
    refine⟨G,fun b=>if b=b0 then some (64*0) else none,[], ?_⟩
    exact {
     ret:=he
     le:=Gh.le_refl G
     agr:=hG
     size:=YM _
     os:=rfl
     output:=rfl
     old:=fun b _ _=>⟨rfl,rfl⟩
     own:=fun b i hbi=>by
      by_cases e:b=b0
      ·subst e;exact⟨hgG,hgs,.inr (by rw[hgOw];simp)⟩
      ·simp only[e,Zu] at hbi;cases hbi
     out:=by
      subst hr
      refine⟨rfl,⟨_,rfl,⟨xs,hown,hrep⟩,fun b hbv=> ?_⟩,trivial⟩
      have:some b0=some b:=hbv
      cases this
      show (if b0=b0 then some (64*0) else none)=_
      simp
     hnd:=fun _=>rfl }
   ·obtain⟨p0,hp0⟩:∃ p0,p0∈d:=by
     cases d with
     | nil=>exact absurd hd1.symm hl0
     | cons p d=>exact⟨p,by simp⟩
    haveI:Inhabited (Pr G t ok):=⟨p0⟩
    have hk:∀ p:Pr G t ok,(p.1.2).length=t.size:=fun p=>p.2.1.len
    have h1c:∀ p:Pr G t ok,∀ v,v∈p.1.2→v.oneCell'=true:=fun p=>p.2.1.one
    have hO':SWO (ltOf fun p q:Pr G t ok=>cf p.1.1 q.1.1):=⟨fun x=>hO.irrefl _,fun x y z=>hO.trans _ _ _,fun x y z=>hO.ntrans _ _ _⟩
    have hH:HoldsK (fun p:Pr G t ok=>p.1.2) t.size w b0 0 d.toArray:=SU hk hb (by
     rw[Yu,hdl];simpa [hd2] using h4)
    have hcmp:CmpLays P g #[] (fun p:Pr G t ok=>p.1.2) t.size (fun p q=>cf p.1.1 q.1.1) b0 0 d.toArray.size w:=fun m os dk _ x y=>hc G _ _ _ _ x.2.1 y.2.1 x.2.2 y.2.2 _
    have hS:=AnyQ.slices_SortFunc L t.size aE zE (fun p:Pr G t ok=>p.1.2) hk h1c (fun p q=>cf p.1.1 q.1.1) hO' g #[] b0 0 cap d.toArray w eg hcmp hH hgs (by rw[Yu,hdl];omega)
    rw[Yu,hdl] at hS
    refine hS.mono ?_
    rintro e w' ⟨he,d',n,os,hp,hs,hw⟩
    have hp3:d'.toList.Perm d:=by
     have h:=hp.2.2
     have e1:d'.size=l.length:=hp.1.trans (by rw[Yu,hdl])
     have e2:d'.extract 0 l.length=d':=by rw[← e1];simp
     have e3:d.toArray.extract 0 l.length=d.toArray:=by
      have:l.length=d.toArray.size:=by rw[Yu,hdl]
      rw[this];simp
     rw[e2,e3] at h
     simpa using h
    have hd'l:d'.size=l.length:=by rw[← hdl, ← WC];exact hp3.length_eq
    have hr:r=d'.toList.map fun p=>p.1.1:=by
     rw[← hm]
     refine (Qp hO hT ?_ ?_).symm
     ·rw[← hd1];exact hp3.map _
     ·rw[Yq,Yp]
      intro i j hi hj hij
      have h:=hs i j (Y5 _) hij (by rw[← hd'l];simpa using hj)
      have hi':i<d'.size:=by simpa using hi
      have hj':j<d'.size:=by simpa using hj
      rw[getElem!_pos d' i hi',getElem!_pos d' j hj'] at h
      have h':decide (cf d'[j].1.1 d'[i].1.1<0)=false:=h
      rw[Array.getElem_toList,Array.getElem_toList,h']
      rfl
    have hrl:r.length=l.length:=by rw[hr,XZ,WC,hd'l]
    have hF:(flatK (fun p:Pr G t ok=>p.1.2) t.size d').size=l.length*t.size:=by rw[size_flatK,hd'l]
    unfold sortWorldK putRowK at hw
    have hcz:l.length*t.size≤cur.size:=by rw[h3];exact YY _ h1
    have hb':=Ot (n:=n) (os:=os) (flatK (fun p:Pr G t ok=>p.1.2) t.size d') hb
    have hold:=fun k hk hne=>Qc (n:=n) (os:=os) (w:=w) (g:=b0) (flatK (fun p:Pr G t ok=>p.1.2) t.size d') (k:=k) hk hne
    have hsz:w.heap.size≤(grow (putRow id (Sort.ahead w n) b0 0 (flatK (fun p:Pr G t ok=>p.1.2) t.size d')) os).heap.size:=by simp
    rw[← hw] at hb' hold hsz
    refine⟨G,fun b=>if b=b0 then some (64*0) else none,[], ?_⟩
    exact {
     ret:=he
     le:=Gh.le_refl G
     agr:=fun b o hbo=>by
      have hwb:=hG b o hbo
      have hne:b≠b0:=fun e=>by rw[e,hgG] at hbo;cases hbo
      rw[hold b (dH hwb) hne];exact hwb
     size:=hsz
     os:=by rw[hw];rfl
     output:=by rw[hw];rfl
     old:=fun b hbs hob=>by
      have hne:b≠b0:=fun e=>by rw[e,hgOw] at hob;cases hob
      exact⟨hold b hbs hne,rfl⟩
     own:=fun b i hbi=>by
      by_cases e:b=b0
      ·subst e;exact⟨hgG,by omega,.inr (by rw[hgOw];simp)⟩
      ·simp only[e,Zu] at hbi;cases hbi
     out:=by
      refine⟨rfl,⟨_,rfl,⟨d'.toList.flatMap fun p=>p.1.2,⟨by rw[IA hk,WC,hd'l,hrl],.inr ⟨b0,cap,_,by rw[hrl],Y5 _,hb',by rw[hrl];exact h1,h2,by simp[putCells,h3], ?_⟩⟩,by rw[hr];exact ML _⟩,fun b hbv=> ?_⟩,trivial⟩
      ·rw[hrl, ← hF,LU _ _ (by rw[hF];exact hcz),JN hk]
      ·have:some b0=some b:=hbv
       cases this
       show (if b0=b0 then some (64*0) else none)=_
       simp
     hnd:=fun _=>rfl }
 ·cases hm
theorem Uu {ρ:Ren} (L:SlLaysF0.n6 P ρ) {t:Ty} (aE:∀ w,(isAgg (ρ.t 24)).run P w= .ok true w) (zE:∀ w,(Go.sizeOf (ρ.t 24)).run P w= .ok t.size w) {e1:TypeId} {g:Nat} {ok:t.den→Bool} {cf:t.den→t.den→Int} (hO:SWO (ltOf cf)) (hc:KM P g t ok cf) (eg:∀ args w,(callFunc g args).run P w= .ok (.enter g args) w):
 aJ P (ρ.f 6) (O8 e1 t g ok cf):=by
 intro G w ow args x y hG how ha hm _
 obtain⟨l,c,u⟩:=x
 obtain⟨r,u'⟩:=y
 obtain⟨s,us,a1,_,⟨⟨xs,hown,hrep⟩,hobl⟩,iv,us2,a2,_,hiv,a4⟩:=ha
 have e1:=a1 rfl
 have e2:=a2 rfl
 have e4:us2=[]:=a4
 obtain⟨caps,e5',e6⟩:=(show aD G (.clo g .unit) c [iv] from hiv)
 have e5:iv= .func (.func g) #[] caps.toArray:=(List.cons.inj e5').1
 have e7:caps=[]:=e6
 subst e1;subst e2;subst e4;subst e7;subst e5
 exact Sc (l:=l) (r:=r) L aE zE hO hc eg hG how hown hrep hobl hm
end
end Go.Dn
namespace Go.Dn
open Go.Lib Go.Proofs
theorem Vs {P:Program} {W:World} {rest:List (String×DataW Unit)} {g:Nat} {t e:TypeId} (hg:P.globalNamed "internal/strconv.uint64pow10" =some g) (hty:(P.globals[g]?).map (·.type)=some t)
 (ht:P.underlying t=some (.array 20 e)) (he:P.underlying e=some (.int .u64)) (hce:P.cellsOf e=1) (hct:P.cellsOf t=20) (h:laidMet P (("internal/strconv.uint64pow10",tabData .u64 AN)::rest) W):
 ∀ g,P.globalNamed "internal/strconv.uint64pow10" =some g→∃ T fz,Gw W g=some (.cells (AN.map fun z=>Value.int .u64 z).toArray T fz):=by
 intro g' hg'
 have:=tabIs_of_head hg hty ht he hce hct h
 unfold TabIs World.var? at this
 rw[hg',Y7] at this
 show ∃ T fz,W.heap[g']? =_
 split at this
 ·rename_i cs T fz hh
  cases this
  exact⟨T,fz,hh⟩
 ·cases this
theorem Vr {P:Program} {W:World} {g:Nat} {t:TypeId} {zero:Array Value} (h:W.ShapedOpen P) (hg:P.globalNamed "internal/bytealg.MaxLen" =some g) (hlt:g<P.globals.size)
 (h0:((begin P (fun _ _=>0) default).world.heap[g]?).bind Obj.row? =some (zero,t)) (hz:zero.size=1)
 (hb:P.buildable t=true) (hc:P.cellTypes P.depth t=some [t]) (hu:P.underlying t=some (.int .i64)):
 ∀ g,P.globalNamed "internal/bytealg.MaxLen" =some g→∃ n T fz,Gw W g=some (.cells #[Value.int .i64 n] T fz):=by
 intro g' hg'
 obtain rfl:g=g':=Option.some.inj (hg.symm.trans hg')
 obtain⟨m,hm⟩:=cell_of_shapedOpen_int h hlt h0 hz hb hc hu
 obtain⟨cs,hh,hs,_⟩:=h.1 g zero t hlt h0
 have h1:cs.size=1:=by omega
 refine⟨m,t,(0,0), ?_⟩
 show W.heap[g]? =_
 rw[hh]
 have:cs= #[cs[0]]:=by
  apply Array.ext
  ·simpa using h1
  ·intro i h2 h3
   have:i=0:=by omega
   subst this
   rfl
 have hcell:W.cell? ⟨g,0,none⟩=some cs[0]:=by simp[World.cell?,hh,h1]
 rw[hm] at hcell
 rw[this, ← Option.some.inj hcell]
end Go.Dn
