/-
  parcel.readLine by a walk, second part. No condition.
-/
import Derived.Test.YtjlkkapojeldlaaGreatDoorYe
import Derived.Deep.RegionHeld3
import Derived.Test.YtjlkkapojeldlaaGreatDoorYA
import Derived.OwnWalk
set_option linter.all false
namespace Go.Dn
def lastPost (P:Program) (os:Oper) (Q:Exit->Act->World->Prop):Exit->Act->World->Prop
 | .normal,a,w=>os.wp P a w (Q .normal) Q
 | e,a,w=>Q e a w
def lastB (l:List Oper) (os:Oper):Bool:=
 (l++[os]).all (fun o=>o.guard.isNone)&&dn (l++[os])&&kQ (deps (l++[os])) l.length
theorem wp_last_mono {P:Program} {o os:Oper} {Q:Exit->Act->World->Prop} {K K':Act->World->Prop} {a:Act} {w:World} (h:∀ a w,K a w->K' a w) (hh:o.wp P a w K (lastPost P os Q)):o.wp P a w K' Q:=by
 unfold Oper.wp at*
 generalize (execOp a.eval o).run P w=r at*
 cases r with
 | ok n w'=>
  cases n<;>simp only[Oper.upon] at hh ⊢ <;>
   first
    | exact h _ _ hh
    | exact Calls.mono hh (fun e w'' he=>by cases e<;>first | exact h _ _ he | exact he)
    | exact Rows.mono hh (fun _ _ he=>h _ _ he)
 | halt x w'=>cases x<;>simp only[Oper.upon] at hh ⊢ <;>exact hh
theorem wanted_none {o:Oper} (h:o.guard.isNone=true) (y:Nat->Option Bool):Region.wanted o y=true:=by
 unfold Region.wanted
 cases hg:o.guard with
 | none=>rfl
 | some p=>rw[hg] at h;cases h
theorem wpOp_last {P:Program} {l:List Oper} {os:Oper} {Q:Exit->Act->World->Prop} {K K':Act->World->Prop} {a:Act} {w:World} {i:Nat} {o:Oper} (hi:l[i]? =some o) (hg:o.guard.isNone=true) (h:∀ a w,K a w->K' a w) (hh:wpOp P l.toArray (lastPost P os Q) i K a w):wpOp P (l++[os]).toArray Q i K' a w:=by
 have hlt:=(Xa.1 hi).1
 have h2:(l++[os]).toArray[i]? =some o:=by simp[WT,hlt, <- hi]
 have h1:l.toArray[i]? =some o:=by simpa using hi
 unfold wpOp at*
 rw[h2]
 rw[h1] at hh
 simp only[wanted_none hg,YS] at hh ⊢
 exact hh.imp (wp_last_mono h) id
section
variable {P:Program} {l:List Oper} {os:Oper} {Q:Exit->Act->World->Prop} {S:World->Prop}
theorem ready_none_last (hE:dn (l++[os])=true) {listed:Array Bool} (hsz:listed.size=l.length) (hr:Region.ready .any l.toArray listed=[]):∀ i,i<l.length->listed.getD i true=true:=by
 intro i
 induction i using Nat.strongRecOn with
 | _ i ih=>
  intro hin
  cases hl:listed.getD i true with
  | true=>rfl
  | false=>
   exfalso
   have hoi:l[i]? =some l[i]:=WZ hin
   have:i∈Region.ready .any l.toArray listed:=by
    rw[mem_ready]
    refine⟨hl,l[i],by simp,fun e he hb=> ?_⟩
    have hE':=hE
    simp only[dn,Wv] at hE'
    have h7:=hE' i (by simp;omega)
    rw[show (l++[os])[i]? =some l[i] by simp[WT,hin]] at h7
    simp only[Wv] at h7
    have h8:=h7 e (by simpa using he)
    simp only[hb,Wd,V7] at h8
    have h9:e.on<i:=Ye (Yi _) (Ya h8)
    have h10:=ih e.on h9 (by omega)
    rw[VN] at h10 ⊢
    rw[VO (by omega)] at h10 ⊢
    simpa using h10
   rw[hr] at this
   cases this
theorem push_getD_last {listed:Array Bool} {i:Nat} {b:Bool} (h:i<listed.size):(listed.push false).getD i b=listed.getD i b:=by
 rw[VN,VN,Array.getElem?_push,YQ (by omega)]
theorem wpAny_last (hG:(l++[os]).all (fun o=>o.guard.isNone)=true) (hE:dn (l++[os])=true) (hW:kQ (deps (l++[os])) l.length=true): ∀ (fuel:Nat) (listed:Array Bool) (a:Act) (w:World),listed.size=l.length->gD l listed->wpAnyH P .any l.toArray (lastPost P os Q) S fuel listed a w-> wpAny P .any (l++[os]).toArray Q (fuel+1) (listed.push false) a w:=by
 have hgo:∀ (i:Nat) (o:Oper),l[i]? =some o->o.guard.isNone=true:=fun i o h=>by
  rw[Wv] at hG
  exact hG o (Xy.2 (.inl (XH h)))
 have hgs:os.guard.isNone=true:=by
  rw[Wv] at hG
  exact hG os (by simp)
 have hwait:∀ j,j<l.length->j∈(deps (l++[os])).getD l.length m0:=fun j hj=>by
  simp only[kQ,Wv] at hW
  exact eE.1 (hW j (by simpa using hj))
 have hlast:(l++[os])[l.length]? =some os:=by simp
 have hrd:∀ (listed:Array Bool),listed.size=l.length->∀ i,i<l.length->i∈Region.ready .any (l++[os]).toArray (listed.push false)->i∈Region.ready .any l.toArray listed:=fun listed hsz i hin h=>by
  rw[mem_ready] at h ⊢
  obtain⟨h1,o,h2,h3⟩:=h
  rw[push_getD_last (by omega)] at h1
  have h2':l[i]? =some o:=by
   have:(l++[os])[i]? =some o:=by simpa using h2
   rwa [WU hin] at this
  refine⟨h1,o,by simpa using h2',fun e he hb=> ?_⟩
  have h4:=h3 e he hb
  have hE':=hE
  simp only[dn,Wv] at hE'
  have h7:=hE' i (by simp;omega)
  rw[show (l++[os])[i]? =some o by simpa using h2] at h7
  simp only[Wv] at h7
  have h8:=h7 e (by simpa using he)
  simp only[hb,Wd,V7] at h8
  have h9:e.on<i:=Ye (Yi _) (Ya h8)
  rwa [push_getD_last (by omega)] at h4
 have hlr:∀ (listed:Array Bool),listed.size=l.length->gD l listed->l.length∈Region.ready .any (l++[os]).toArray (listed.push false)->∀ j,j<l.length->listed.getD j true=true:=fun listed hsz hcl h j hj=>by
  rw[mem_ready] at h
  obtain⟨_,o,h2,h3⟩:=h
  have h2':(l++[os])[l.length]? =some o:=by simpa using h2
  have hcl':gD (l++[os]) (listed.push false):=fun i oi hi hli e he hb=>by
   by_cases hin:i<l.length
   ·rw[push_getD_last (by omega)] at hli
    rw[WU hin] at hi
    have h5:=hcl i oi hi hli e he hb
    have hlt:e.on<listed.size:=by
     rcases Yf e.on listed.size with h | h
     ·exact h
     ·rw[VN,VP h] at h5;cases h5
    rwa [push_getD_last hlt]
   ·have hil:i<(l++[os]).length:=(Xa.1 hi).1
    have:i=l.length:=by simp at hil;omega
    subst this
    rw[<- hsz,VN,VR] at hli
    cases hli
  have h6:=bT hE hcl' l.length o h2' (fun e he hb=>h3 e (by simpa using he) hb) j (hwait j hj)
  rwa [push_getD_last (by omega)] at h6
 have hend:∀ (fuel:Nat) (listed:Array Bool) (a:Act) (w:World),listed.size=l.length->(∀ j,j<l.length->listed.getD j true=true)->lastPost P os Q .normal a w->wpAny P .any (l++[os]).toArray Q (fuel+1) (listed.push false) a w:=fun fuel listed a w hsz hall h=>by
  have hlt:l.length<(listed.push false).size:=by simp[hsz]
  have hun:(listed.push false).getD l.length true=false:=by
   rw[<- hsz,VN,VR];rfl
  have hin:l.length∈Region.ready .any (l++[os]).toArray (listed.push false):=by
   rw[mem_ready]
   refine⟨hun,os,by simp,fun e he hb=> ?_⟩
   have hE':=hE
   simp only[dn,Wv] at hE'
   have h7:=hE' l.length (by simp)
   rw[hlast] at h7
   simp only[Wv] at h7
   have h8:=h7 e (by simpa using he)
   simp only[hb,Wd,V7] at h8
   have h9:e.on<l.length:=Ye (Yi _) (Ya h8)
   rw[push_getD_last (by omega)]
   have h10:=hall e.on h9
   rw[VN,VO (by omega)] at h10 ⊢
   simpa using h10
  refine⟨fun h0=>(by rw[h0] at hin;cases hin),fun i hi=> ?_⟩
  have hil:i=l.length:=by
   rw[mem_ready] at hi
   obtain⟨h1,o,h2,_⟩:=hi
   have h2':(l++[os])[i]? =some o:=by simpa using h2
   have h3:i<(l++[os]).length:=(Xa.1 h2').1
   rcases Yf i l.length with h | h
   ·rw[push_getD_last (by omega),hall i h] at h1;cases h1
   ·simp at h3;omega
  subst hil
  unfold wpOp
  rw[show (l++[os]).toArray[l.length]? =some os by simp]
  simp only[wanted_none hgs,YS]
  refine .inl (Oper.wp_mono (fun a' w' hq=> ?_) h)
  refine wpAny_done ?_ hq fuel
  rw[WK]
  intro j hj
  rw[mem_ready] at hj
  obtain⟨h1,o,h2,_⟩:=hj
  have h2':(l++[os])[j]? =some o:=by simpa using h2
  have h3:j<(l++[os]).length:=(Xa.1 h2').1
  by_cases hjl:j=l.length
  ·rw[hjl,br hlt] at h1;cases h1
  ·rw[aH hjl,push_getD_last (by simp at h3;omega),hall j (by simp at h3;omega)] at h1;cases h1
 intro fuel
 induction fuel with
 | zero=>
  intro listed a w hsz hcl h
  exact hend 0 listed a w hsz (ready_none_last hE hsz h.1) h.2
 | succ fuel ih=>
  intro listed a w hsz hcl h
  by_cases hr:Region.ready .any l.toArray listed=[]
  ·exact hend (fuel+1) listed a w hsz (ready_none_last hE hsz hr) (h.1 hr)
  ·obtain⟨i0,hi0⟩:=List.exists_mem_of_ne_nil _ hr
   have hnl:¬ ∀ j,j<l.length->listed.getD j true=true:=fun hall=>by
    rw[mem_ready] at hi0
    obtain⟨h1,o,h2,_⟩:=hi0
    have h2':l[i0]? =some o:=by simpa using h2
    rw[hall i0 (Xa.1 h2').1] at h1;cases h1
   refine⟨fun h0=> ?_,fun i hi=> ?_⟩
   ·exfalso
    rw[mem_ready] at hi0
    obtain⟨h1,o,h2,h3⟩:=hi0
    have h2':l[i0]? =some o:=by simpa using h2
    have hlt:=(Xa.1 h2').1
    have:i0∈Region.ready .any (l++[os]).toArray (listed.push false):=by
     rw[mem_ready]
     refine⟨by rw[push_getD_last (by omega)];exact h1,o,by simp[WT,hlt, <- h2'],fun e he hb=> ?_⟩
     have h5:=h3 e he hb
     have:e.on<listed.size:=by
      rcases Yf e.on listed.size with h | h
      ·exact h
      ·rw[VN,VP h] at h5;cases h5
     rwa [push_getD_last this]
    rw[h0] at this;cases this
   ·by_cases hin:i<l.length
    ·have hil:=hrd listed hsz i hin hi
     have hi':=hil
     rw[mem_ready] at hi'
     obtain⟨hun,o,h2,h3⟩:=hi'
     have h2':l[i]? =some o:=by simpa using h2
     refine wpOp_last h2' (hgo i o h2') (fun a' w' hk=> ?_) (h.2 i hil)
     have hpush:(listed.push false).setIfInBounds i true=(listed.setIfInBounds i true).push false:=by
      apply Array.ext_getElem?
      intro j
      rw[Array.getElem?_push,Array.getElem?_setIfInBounds,Array.getElem?_setIfInBounds,Array.getElem?_push]
      simp only[VW,Array.size_setIfInBounds]
      by_cases e1:i=j
      ·subst e1
       rw[YR rfl,YR (by omega),YQ (by omega),YR rfl,YR (by omega)]
      ·simp[e1]
     rw[hpush]
     refine ih (listed.setIfInBounds i true) a' w' (by simpa using hsz) ?_ hk.2
     intro j oj hj hlj e he hb
     by_cases eji:j=i
     ·subst eji
      rw[h2'] at hj
      cases hj
      have:=h3 e (by simpa using he) hb
      by_cases e2:e.on=j
      ·rw[e2];exact br (by omega)
      ·rw[aH e2];exact this
     ·rw[aH eji] at hlj
      have:=hcl j oj hj hlj e he hb
      by_cases e2:e.on=i
      ·rw[e2];exact br (by omega)
      ·rw[aH e2];exact this
    ·exfalso
     have:i=l.length:=by
      rw[mem_ready] at hi
      obtain⟨_,o,h2,_⟩:=hi
      have h2':(l++[os])[i]? =some o:=by simpa using h2
      have h3:i<(l++[os]).length:=(Xa.1 h2').1
      simp at h3;omega
     subst this
     exact hnl (hlr listed hsz hcl hi)
end
theorem wp_region_last {P:Program} {id n:Nat} {ll l:List Oper} {os:Oper} {Q:Exit->Act->World->Prop} {S:World->Prop} {a:Act} {w:World} (hm:P.follows .mixedOrders=true) (hl:l=ll.take n) (ho:ll.drop n=[os]) (hn:n=l.length) (hB:lastB l os=true) (hS:S w.drew) (h:S w.drew->wpAnyH P .any l.toArray (lastPost P os Q) S n (Array.replicate n false) a w.drew):(Code.region id ll.toArray true).wp P Q a w:=by
 simp only[lastB,VZ] at hB
 have hll:ll=l++[os]:=by rw[hl, <- ho,XX]
 subst hn
 rw[hll]
 refine wp_region_any hm ?_
 have h0:gD l (Array.replicate l.length false):=fun i o hi hl=>by
  rw[VN,VS,YR (Xa.1 hi).1] at hl
  cases hl
 have:=wpAny_last hB.1.1 hB.1.2 hB.2 l.length (Array.replicate l.length false) a w.drew (by simp) h0 (h hS)
 rw[show (l++[os]).toArray.size=l.length+1 by simp,Array.replicate_succ]
 exact this
theorem last_out {P:Program} {os:Oper} {Q:Exit->Act->World->Prop} {a:Act} {w:World} (h:∀ K:Act->World->Prop,Shut (∀ a w,Q .normal a w->K a w)->os.wp P a w K Q):lastPost P os Q .normal a w:=
 h _ fun _ _ h=>h
theorem take_at {P:Program} {md:Region.Mode} {l r:List Oper} {Q:Exit->Act->World->Prop} {S:World->Prop} {i:Nat} {oi:Oper} {v:Value} {fuel:Nat} {listed:Array Bool} {a:Act} {w:World} (hd:l.drop i=oi::r) (hs:Region.noSelect l.toArray=true) (hf:Region.free md l.toArray listed i=true) (hr:(Region.ready md l.toArray listed).contains i=true) (hQ:∀ c a w,Q (.panic c) (a.put oi.dst v) w->Q (.panic c) a w) (hy:YieldsIf P l.toArray S oi v a) (hS:S w) (h:wpAnyH P md l.toArray Q S fuel (listed.setIfInBounds i true) (a.put oi.dst v) w):wpAnyH P md l.toArray Q S (fuel+1) listed a w:=
 wpAnyH_take (by have:(l.drop i)[0]? =some oi:=by rw[hd];rfl
                 simpa using this) hs hf hr hQ hy hS h
theorem step_at {P:Program} {md:Region.Mode} {l r:List Oper} {Q:Exit->Act->World->Prop} {S:World->Prop} {i:Nat} {o:Oper} {fuel:Nat} {listed:Array Bool} {a:Act} {w:World} (hd:l.drop i=o::r) (hr:Region.ready md l.toArray listed=[i]) (h:∀ K':Act->World->Prop,Shut (∀ a w,S w->(S w->wpAnyH P md l.toArray Q S fuel (listed.setIfInBounds i true) a w)->K' a w)->if Region.wanted o (yielded l.toArray a.tmps)=true then Oper.wp P o a w K' Q else K' (a.put o.dst undef) w): wpAnyH P md l.toArray Q S (fuel+1) listed a w:=
 wpAnyH_ready hr (by simp) (AllReadyH.cons (by have:(l.drop i)[0]? =some o:=by rw[hd];rfl
                                               simpa using this) h AllReadyH.nil)
end Go.Dn
set_option maxRecDepth 100000
namespace Go.Proofs.SeatU
open Go.Dn Go.Md Go.Proofs Go.RowKit Go.Shelf Go.Lib
attribute [local go_sem ↓] Go.wp_at_zero Go.wp_at_succ
theorem Ut (p:aa) (a:Option Addr) (n c:Nat):∀ u∈iW p (.slice a n c),u.oneCell'=true:=by
 intro u hu
 simp only[iW,XB,XP,or_false] at hu
 rcases hu with rfl | rfl | rfl | rfl | rfl<;>rfl
theorem gu {w:World} {o:Obj} {a:Addr} {u:Value} (h:w.cell? a=some u):(w.alloc o).cell? a=some u:=by
 simp only[World.cell?] at h ⊢
 cases hb:w.heap[a.block]? with
 | none=>rw[hb] at h;cases h
 | some o'=>rw[heap_alloc_old _ _ (aG hb),hb];rw[hb] at h;exact h
theorem bL {w w':World} {r:Option Nat} (hg:w.grownBy w' r) {b o:Nat} {u:Value} (h:w.cell? ⟨b,o,none⟩=some u) (hne:some b≠r):w'.cell? ⟨b,o,none⟩=some u:=by
 simp only[World.cell?] at h ⊢
 cases hb:w.heap[b]? with
 | none=>rw[hb] at h;cases h
 | some o'=>rw[hg.block b (aG hb) hne,hb];rw[hb] at h;exact h
theorem Ae {P:Program} {c:Code} {Q:Exit->Act->World->Prop} {a:Act} {w:World} (F:World->Prop) (hF:F w) (h:∀ W,F W->Code.wp P c Q a W):Code.wp P c Q a w:=h w hF
theorem dx (w:World) (o:Obj):(w.alloc o).heap[w.heap.size]? =some o/\Kept w (w.alloc o):=by
 refine⟨heap_alloc_new w o, ?_,rfl,rfl,fun k hk=>heap_alloc_old _ _ hk⟩
 show _<=(w.heap.push _).size
 rw[VW];omega
theorem yo {W5 W6 W8:World} {o:Obj} {r:Option Nat} {bx:Nat} {c:Obj} (hk6:Kept W5 W6) (hg:(W6.alloc o).grownBy W8 r) (hne:some bx≠r) (hb:W5.heap[bx]? =some c):W8.heap[bx]? =some c:=by
 have h6:=(hk6.block bx (aG hb)).trans hb
 have h7:=(heap_alloc_old W6 o (aG h6)).trans h6
 exact (hg.block bx (aG h7) hne).trans h7
theorem TJ {W5 W6 W8:World} {bx:Nat} {a:ai} {v:Value} {L:List (aa×Value)} {w1 t:List UInt8} {d:ah} {g cap:Nat} {xs:List Value} {o:Obj} (hR:RS W5 bx a v L) (hk6:Kept W5 W6) (hxs:xs=L.flatMap fun q=>iW q.1 q.2) (hown:W8.ownsRow 0 60 5 (.slice (some ⟨g,0,none⟩) (L.length+1) cap) (L.length+1) (xs++[.string (bs w1),.string (bs t),.int .i64 d.1,.int .i64 d.2,.slice none 0 0])) (hgr:(W6.alloc o).grownBy W8 v.ownBlock) (hat:v.ownBlock=some g\/g=W6.heap.size+1): W5.heap.size<=(W8.setCell ⟨bx,3,none⟩ (.slice (some ⟨g,0,none⟩) (L.length+1) cap)).heap.size/\W8.os=W5.os/\W8.output=W5.output/\ (∀ b,b<W5.heap.size->b∉bx::nblk v L->(W8.setCell ⟨bx,3,none⟩ (.slice (some ⟨g,0,none⟩) (L.length+1) cap)).heap[b]? =W5.heap[b]?)/\ RS (W8.setCell ⟨bx,3,none⟩ (.slice (some ⟨g,0,none⟩) (L.length+1) cap)) bx (a.1,a.2.1,a.2.2.1,a.2.2.2++[(w1,t,d,[])]) (.slice (some ⟨g,0,none⟩) (L.length+1) cap) (L++[((w1,t,d,[]),.slice none 0 0)])/\ ∀ b∈nblk (.slice (some ⟨g,0,none⟩) (L.length+1) cap) (L++[((w1,t,d,[]),.slice none 0 0)]),b∈nblk v L\/W5.heap.size<=b:=by
 have hsz:(W6.alloc o).heap.size=W6.heap.size+1:=VW _
 have hkeep:∀ b,b<W5.heap.size->(W6.alloc o).heap[b]? =W5.heap[b]? :=fun b hb=>(heap_alloc_old _ _ (Ye hb hk6.size)).trans (hk6.block b hb)
 have hN:ym (W6.alloc o) v L:=hR.nst.keep fun b hb=>hkeep b (hR.lt b (by simp[hb]))
 have hbxl:=hR.lt bx (by simp)
 have h6:=hk6.size
 have hvx:some bx≠v.ownBlock:=fun e=>hR.out (by unfold nblk;rw[<- e];simp)
 have hpush:ym W8 (.slice (some ⟨g,0,none⟩) (L.length+1) cap) (L++[((w1,t,d,[]),.slice none 0 0)]):=by
  refine hN.push (a:=(w1,t,d,[])) rfl ?_ hgr (hat.imp id fun e=>by rw[hsz];omega)
  rw[<- hxs]
  exact hown
 have hnb:∀ b∈nblk (.slice (some ⟨g,0,none⟩) (L.length+1) cap) (L++[((w1,t,d,([]:List ay)),Value.slice none 0 0)]),b∈nblk v L\/W5.heap.size<=b:=by
  intro b hb
  rcases Xy.1 hb with hb | hb
  ·have e:b=g:=by simpa [Value.ownBlock] using hb
   subst e
   rcases hat with h | h
   ·exact .inl (Xy.2 (.inl (by rw[h];simp)))
   ·exact .inr (by omega)
  ·rw[WN] at hb
   rcases Xy.1 hb with hb | hb
   ·exact .inl (Xy.2 (.inr hb))
   ·simp[Value.ownBlock] at hb
 have hbn:bx∉nblk (.slice (some ⟨g,0,none⟩) (L.length+1) cap) (L++[((w1,t,d,([]:List ay)),Value.slice none 0 0)]):=fun hb=>by
  rcases hnb bx hb with h | h
  ·exact hR.out h
  ·omega
 have hb8:=yo hk6 hgr hvx hR.box
 refine⟨?_,hgr.os.trans hk6.os,hgr.output.trans hk6.output,fun b hb hn=> ?_,⟨?_, ?_, ?_,hbn⟩,hnb⟩
 ·rw[setCell_size];have:=hgr.size;rw[hsz] at this;omega
 ·have n1:b≠bx:=fun e=>hn (by simp[e])
  have n2:some b≠v.ownBlock:=fun e=>hn (XC _ (Xy.2 (.inl (by rw[<- e];simp))))
  rw[setCell_far _ _ _ _ _ n1,hgr.block b (by rw[hsz];omega) n2]
  exact hkeep b hb
 ·exact setCell_same _ _ 3 _ _ _ _ hb8
 ·exact hpush.keep fun b hb=>setCell_far _ _ _ _ _ fun e=>hbn (e ▸ hb)
 ·rw[Xu,hR.map];rfl
theorem UT:(Tryz.prog.info? 60).map (fun i=>(i.zero,i.size,i.bytes))=some (some (.agg #[.string ⟨#[]⟩,.string ⟨#[]⟩,.int .i64 0,.int .i64 0,.slice none 0 0]),5,72):=by kernel_rfl
set_option maxHeartbeats 2000000 in
theorem SK (G:Gh) (w:World) (bx:Nat) (s:List UInt8) (w0 w1 w2 w3:List UInt8) (a:ai) (v:Value) (L:List (aa×Value)) (d:ah) (n:Int) (t:List UInt8) (hG:Agr G w) (hT:cq Tryz.prog G) (hm:iJ s=some ([w0,w1,w2,w3],true,())) (hR:RS w bx a v L) (hgb:∀ b∈bx::nblk v L,G b=none) (hL:L.length<=1000000) (ha:((bs w0).toList==[97,100,118,105,99,101])=false) (hp:((bs w0).toList==[112,97,114,99,101,108])=true) (hd:fC w3=some (d,n,())) (hund:oS w2=some (t,())): Calls Tryz.prog 12 #[.pointer (some ⟨bx,0,none⟩),.bool false,.string (bs s)] w fun e w'=>e= .returned (.bool (n==0))/\w.heap.size<=w'.heap.size/\w'.os=w.os/\w'.output=w.output/\(∀ b,b<w.heap.size->b∉bx::nblk v L->w'.heap[b]? =w.heap[b]?)/\ ∃ v',RS w' bx (a.1,a.2.1,a.2.2.1,a.2.2.2++[(w1,t,d,[])]) v' (L++[((w1,t,d,[]),.slice none 0 0)])/\∀ b∈nblk v' (L++[((w1,t,d,[]),.slice none 0 0)]),b∈nblk v L\/w.heap.size<=b:=by
 have e30:∀ args w,(callFunc 30 args).run Tryz.prog w= .ok (.enter 30 args) w:=enters_of Tryz.func30 (by kernel_rfl) rfl
 have e32:∀ args w,(callFunc 32 args).run Tryz.prog w= .ok (.enter 32 args) w:=enters_of Tryz.func32 (by kernel_rfl) rfl
 have e33:∀ args w,(callFunc 33 args).run Tryz.prog w= .ok (.enter 33 args) w:=enters_of Tryz.func33 (by kernel_rfl) rfl
 have mixed:Tryz.prog.follows .mixedOrders=true:=by kernel_rfl
 have late:Tryz.prog.follows .lateStores=true:=by kernel_rfl
 have t3:=Tryz.underlying3;have t4:=Tryz.underlying4;have t9:=Tryz.underlying9;have t22:=Tryz.underlying22;have t34:=Tryz.underlying34;have t24:=Tryz.underlying24;have t25:=Tryz.underlying25
 have t57:=Tryz.underlying57;have a57:=Tryz.isAgg57;have z57:=Tryz.sizeOf57;have v57:=Tryz.zeroValue57
 have hw:=qv s _ _ hG hT hm
 go_enter Tryz.func12,Tryz.ntmps12
 go_wp2_with (first | (go_at_fn 30;refine hw.mono ?_;rintro e W2 ⟨G2,u,rfl,hlv,hu⟩;obtain⟨b,off,cap,rfl,hcap,sw,hfz,hcell⟩:=tr hu hlv.agr (List.cons_ne_nil _ _);have c0:W2.cell? ⟨b,off,none⟩=some (.string (bs w0)):=hcell 0 w0 rfl;have c3:W2.cell? ⟨b,off+3,none⟩=some (.string (bs w3)):=hcell 3 w3 rfl;have hdec:=KS w3 d n hlv.agr (hT.mono hlv.le) hd) | (go_at_fn 32;refine hdec.mono ?_;rintro e W3 ⟨rfl,hk3⟩))
 refine Ae (fun W=>W.heap[W3.heap.size]? =some (.cells #[.int .i64 d.1,.int .i64 d.2] 57 (0,0))/\Kept W3 W) ?_ ?_
 ·exact dx _ _
 intro W5 ⟨hd5,hk5⟩
 have hk25:Kept W2 W5:=hk3.trans hk5
 have hk05:Kept w W5:=hlv.kept.trans hk25
 have hR5:RS W5 bx a v L:=hR.keep fun b hb=>hk05.block b (hR.lt b hb)
 have hA5:Agr G2 W5:=fun b o hb=>(hk25.block b (aG (hlv.agr b o hb))).trans (hlv.agr b o hb)
 have hT2:=hT.mono hlv.le
 have hg2:∀ b∈bx::nblk v L,G2 b=none:=fun b hb=>J6 hlv (hR.lt b hb) (hgb b hb)
 obtain⟨⟨q0,q1,q2,q3⟩,qf⟩:=dh hR5.box
 have f3:=qf 3
 have d1:W5.cell? ⟨b,off+1,none⟩=some (.string (bs w1)):=aL hk25 (hcell 1 w1 rfl)
 have d2:W5.cell? ⟨b,off+2,none⟩=some (.string (bs w2)):=aL hk25 (hcell 2 w2 rfl)
 have x0:W5.cell? ⟨W3.heap.size,0,none⟩=some (.int .i64 d.1):=by simp[World.cell?,hd5]
 have x1:W5.cell? ⟨W3.heap.size,1,none⟩=some (.int .i64 d.2):=by simp[World.cell?,hd5]
 have hne:b≠bx:=GG hfz (hg2 bx (by simp))
 have hnd:W3.heap.size≠bx:=by have:=hR.lt bx (by simp);have:=hlv.kept.size;have:=hk3.size;omega
 have hvn:∀ g,v.ownBlock=some g->G2 g=none/\g<W2.heap.size:=fun g hg=>⟨hg2 g (by unfold nblk;rw[hg];simp),Ye (ownsRow_lt hR.nst.row hg) hlv.kept.size⟩
 have hvb:some b≠v.ownBlock:=fun e=>by
  obtain⟨o,ho⟩:=hfz
  rw[(hvn b e.symm).1] at ho;cases ho
 have hvd:some W3.heap.size≠v.ownBlock:=fun e=>by
  have:=(hvn _ e.symm).2;have:=hk3.size;omega
 have hvx:some bx≠v.ownBlock:=fun e=>hR.out (by unfold nblk;rw[<- e];simp)
 have hun:∀ W,Kept W5 W->Calls Tryz.prog 33 #[.string (bs w2)] W fun e w'=>e= .returned (.string (bs t))/\Kept W w':=fun W hk=>En w2 t (fun b o hb=>(hk.block b (aG (hA5 b o hb))).trans (hA5 b o hb)) hT2 hund
 obtain⟨xs,hxs⟩:∃ xs:List Value,xs=L.flatMap fun q=>iW q.1 q.2:=⟨_,rfl⟩
 have HXS:Aside _:=hxs
 have hown:∀ W6,Kept W5 W6->(W6.alloc (.cells #[.string (bs w1),.string (bs t),.int .i64 d.1,.int .i64 d.2,.slice none 0 0] 60)).ownsRow 0 60 5 v L.length xs:=fun W6 hk6=>by
  rw[hxs]
  exact ownsRow_same hR5.nst.row fun g hg=>(heap_alloc_old _ _ (Ye (ownsRow_lt hR5.nst.row hg) hk6.size)).trans (hk6.block g (ownsRow_lt hR5.nst.row hg))
 obtain⟨i0,hi0,hz0,hz1,hz2⟩:=info_parts UT
 have h63:L.length+1<=maxLen:=by simp only[maxLen];omega
 have hbytes:(L.length+1)*72<=140737488355328:=by omega
 have HR5:Aside _:=hR5
 have HCELL:Aside _:=hcell
 have HG2:Aside _:=hg2
 have HGB:Aside _:=hgb
 have HK05:Aside _:=hk05
 have HLV:Aside _:=hlv
 clear hvn hxs hcell hu hw hdec hR5 hR hG hT hg2 hgb hk05 hk25 hA5 hlv hk3 hk5 hd5 q0 q1 q2
 refine wp_region_noPanic ?_
 refine wp_region_last (n:=18) (S:=(fun W=>W.cell? ⟨b,off+1,none⟩=some (.string (bs w1))/\W.cell? ⟨b,off+2,none⟩=some (.string (bs w2))/\W.cell? ⟨W3.heap.size,0,none⟩=some (.int .i64 d.1)/\W.cell? ⟨W3.heap.size,1,none⟩=some (.int .i64 d.2)/\W.cell? ⟨bx,3,none⟩=some v)) mixed (by (simp only[X1,List.take_zero];try rfl)) rfl rfl (by kernel_rfl) ?_ (fun hHeld=> ?_)
 ·(try dsimp only);(refine And.intro ?_ (And.intro ?_ (And.intro ?_ (And.intro ?_ ?_)))<;>(repeat (first | with_reducible exact d1 | with_reducible exact d2 | with_reducible exact x0 | with_reducible exact x1 | with_reducible exact y0 | with_reducible exact y1 | with_reducible exact g1 | with_reducible exact g2 | with_reducible exact q3 | with_reducible exact q3' | with_reducible refine gu ?_ | with_reducible refine fT ?_ | with_reducible refine cell_far hne ?_ | with_reducible refine cell_far hnd ?_ | with_reducible refine bL hgr8 ?_ hvb | with_reducible refine bL hgr8 ?_ hvd | with_reducible refine bL hgr8 ?_ hvx)))
 refine take_at (i:=0) (v:= ?_) rfl (by kernel_rfl) (by kernel_rfl) (by kernel_rfl) (fun _ _ _ h=>h) (Or.inl ⟨by rfl, ?_⟩) (by assumption) ?_
 rotate_left
 ·(intro w hSw;(try dsimp only at hSw);go_simp<;>with_reducible rfl)
 try simp only[Act.put,XS,XU,XT]
 refine take_at (i:=1) (v:= ?_) rfl (by kernel_rfl) (by kernel_rfl) (by kernel_rfl) (fun _ _ _ h=>h) (Or.inl ⟨by rfl, ?_⟩) (by assumption) ?_
 rotate_left
 ·(intro w hSw;(try dsimp only at hSw);go_simp<;>with_reducible rfl)
 try simp only[Act.put,XS,XU,XT]
 refine take_at (i:=2) (v:= ?_) rfl (by kernel_rfl) (by kernel_rfl) (by kernel_rfl) (fun _ _ _ h=>h) (Or.inl ⟨by rfl, ?_⟩) (by assumption) ?_
 rotate_left
 ·(intro w hSw;(try dsimp only at hSw);go_simp<;>with_reducible rfl)
 try simp only[Act.put,XS,XU,XT]
 refine take_at (i:=3) (v:= ?_) rfl (by kernel_rfl) (by kernel_rfl) (by kernel_rfl) (fun _ _ _ h=>h) (Or.inl ⟨by rfl, ?_⟩) (by assumption) ?_
 rotate_left
 ·(intro w hSw;(try dsimp only at hSw);go_simp<;>with_reducible rfl)
 try simp only[Act.put,XS,XU,XT]
 refine take_at (i:=4) (v:= ?_) rfl (by kernel_rfl) (by kernel_rfl) (by kernel_rfl) (fun _ _ _ h=>h) (Or.inl ⟨by rfl, ?_⟩) (by assumption) ?_
 rotate_left
 ·(intro w hSw;(try dsimp only at hSw);go_simp<;>with_reducible rfl)
 try simp only[Act.put,XS,XU,XT]
 refine take_at (i:=5) (v:= ?_) rfl (by kernel_rfl) (by kernel_rfl) (by kernel_rfl) (fun _ _ _ h=>h) (Or.inl ⟨by rfl, ?_⟩) (by assumption) ?_
 rotate_left
 ·(intro w hSw;(try dsimp only at hSw);go_simp<;>with_reducible rfl)
 try simp only[Act.put,XS,XU,XT]
 refine take_at (i:=6) (v:= ?_) rfl (by kernel_rfl) (by kernel_rfl) (by kernel_rfl) (fun _ _ _ h=>h) (Or.inl ⟨by rfl, ?_⟩) (by assumption) ?_
 rotate_left
 ·(intro w hSw;(try dsimp only at hSw);go_simp<;>with_reducible rfl)
 try simp only[Act.put,XS,XU,XT]
 refine take_at (i:=7) (v:= ?_) rfl (by kernel_rfl) (by kernel_rfl) (by kernel_rfl) (fun _ _ _ h=>h) (Or.inl ⟨by rfl, ?_⟩) (by assumption) ?_
 rotate_left
 ·(intro w hSw;(try dsimp only at hSw);go_simp<;>with_reducible rfl)
 try simp only[Act.put,XS,XU,XT]
 refine take_at (i:=8) (v:= ?_) rfl (by kernel_rfl) (by kernel_rfl) (by kernel_rfl) (fun _ _ _ h=>h) (Or.inl ⟨by rfl, ?_⟩) (by assumption) ?_
 rotate_left
 ·(intro w hSw;(try dsimp only at hSw);go_simp<;>with_reducible rfl)
 try simp only[Act.put,XS,XU,XT]
 refine take_at (i:=9) (v:= ?_) rfl (by kernel_rfl) (by kernel_rfl) (by kernel_rfl) (fun _ _ _ h=>h) (Or.inl ⟨by rfl, ?_⟩) (by assumption) ?_
 rotate_left
 ·(intro w hSw;(try dsimp only at hSw);go_simp<;>with_reducible rfl)
 try simp only[Act.put,XS,XU,XT]
 refine take_at (i:=10) (v:= ?_) rfl (by kernel_rfl) (by kernel_rfl) (by kernel_rfl) (fun _ _ _ h=>h) (Or.inl ⟨by rfl, ?_⟩) (by assumption) ?_
 rotate_left
 ·(intro w hSw;(try dsimp only at hSw);go_simp<;>with_reducible rfl)
 try simp only[Act.put,XS,XU,XT]
 refine take_at (i:=12) (v:= ?_) rfl (by kernel_rfl) (by kernel_rfl) (by kernel_rfl) (fun _ _ _ h=>h) (Or.inl ⟨by rfl, ?_⟩) (by assumption) ?_
 rotate_left
 ·(intro w hSw;(try dsimp only at hSw);go_simp<;>with_reducible rfl)
 try simp only[Act.put,XS,XU,XT]
 refine step_at (i:=11) rfl (by kernel_rfl) (fun K hK=> ?_)
 go_simp
 (go_at_fn 33;refine (hun _ (by exact⟨Yc _,rfl,rfl,fun _ _=>rfl⟩)).mono ?_;rintro e W6 ⟨rfl,hk6'⟩;have hk6:Kept W5 W6:=⟨hk6'.size,hk6'.os,hk6'.output,hk6'.block⟩;clear hk6';have q3':=aL hk6 q3;have q3n:=World.new_ne W6 _ q3';have q3o:=gu (o:= .cells #[.string (bs w1),.string (bs t),.int .i64 d.1,.int .i64 d.2,.slice none 0 0] 60) q3';have y0:=aL hk6 x0;have y1:=aL hk6 x1;have g1:=aL hk6 d1;have g2:=aL hk6 d2)
 refine hK.out _ _ ?_ (fun hHeld=> ?_)
 ·(try dsimp only);(refine And.intro ?_ (And.intro ?_ (And.intro ?_ (And.intro ?_ ?_)))<;>(repeat (first | with_reducible exact d1 | with_reducible exact d2 | with_reducible exact x0 | with_reducible exact x1 | with_reducible exact y0 | with_reducible exact y1 | with_reducible exact g1 | with_reducible exact g2 | with_reducible exact q3 | with_reducible exact q3' | with_reducible refine gu ?_ | with_reducible refine fT ?_ | with_reducible refine cell_far hne ?_ | with_reducible refine cell_far hnd ?_ | with_reducible refine bL hgr8 ?_ hvb | with_reducible refine bL hgr8 ?_ hvd | with_reducible refine bL hgr8 ?_ hvx)))
 clear hK K
 try simp only[Act.put,XS,XU,XT]
 refine take_at (i:=13) (v:= ?_) rfl (by kernel_rfl) (by kernel_rfl) (by kernel_rfl) (fun _ _ _ h=>h) (Or.inl ⟨by rfl, ?_⟩) (by assumption) ?_
 rotate_left
 ·(intro w hSw;(try dsimp only at hSw);go_simp<;>with_reducible rfl)
 try simp only[Act.put,XS,XU,XT]
 refine step_at (i:=14) rfl (by kernel_rfl) (fun K hK=> ?_)
 go_simp
 refine hK.out _ _ ?_ (fun hHeld=> ?_)
 ·(try dsimp only);(refine And.intro ?_ (And.intro ?_ (And.intro ?_ (And.intro ?_ ?_)))<;>(repeat (first | with_reducible exact d1 | with_reducible exact d2 | with_reducible exact x0 | with_reducible exact x1 | with_reducible exact y0 | with_reducible exact y1 | with_reducible exact g1 | with_reducible exact g2 | with_reducible exact q3 | with_reducible exact q3' | with_reducible refine gu ?_ | with_reducible refine fT ?_ | with_reducible refine cell_far hne ?_ | with_reducible refine cell_far hnd ?_ | with_reducible refine bL hgr8 ?_ hvb | with_reducible refine bL hgr8 ?_ hvd | with_reducible refine bL hgr8 ?_ hvx)))
 clear hK K
 try simp only[Act.put,XS,XU,XT]
 refine step_at (i:=15) rfl (by kernel_rfl) (fun K hK=> ?_)
 (refine step_append_lies _ (by rfl) _ _ _ (by rfl) 0 60 i0 _ 5 72 t22 hi0 hz0 hz1 hz2 rfl (by omega) v L.length xs (by rfl) (hown W6 hk6) ⟨W6.heap.size,0,none⟩ 1 1 [.string (bs w1),.string (bs t),.int .i64 d.1,.int .i64 d.2,.slice none 0 0] (by rfl) (by rfl) (World.news_of_block (cs:= #[.string (bs w1),.string (bs t),.int .i64 d.1,.int .i64 d.2,.slice none 0 0]) (t:=60) (fr:=(0,0)) (heap_alloc_new W6 _)) (Ut (w1,t,d,[]) none 0 0) (by omega) h63 hbytes (Ys _) (W6.heap.size+1) (by simp) ?_;intro g capn W8 hown8 hgr8 hat8 hlt8;have hb8:=yo hk6 hgr8 hvx HR5.out.box;have p3:=(dh hb8).1.2.2.2;have pf:=(dh hb8).2 3)
 refine hK.out _ _ ?_ (fun hHeld=> ?_)
 ·(try dsimp only);(refine And.intro ?_ (And.intro ?_ (And.intro ?_ (And.intro ?_ ?_)))<;>(repeat (first | with_reducible exact d1 | with_reducible exact d2 | with_reducible exact x0 | with_reducible exact x1 | with_reducible exact y0 | with_reducible exact y1 | with_reducible exact g1 | with_reducible exact g2 | with_reducible exact q3 | with_reducible exact q3' | with_reducible refine gu ?_ | with_reducible refine fT ?_ | with_reducible refine cell_far hne ?_ | with_reducible refine cell_far hnd ?_ | with_reducible refine bL hgr8 ?_ hvb | with_reducible refine bL hgr8 ?_ hvd | with_reducible refine bL hgr8 ?_ hvx)))
 clear hK K
 try simp only[Act.put,XS,XU,XT]
 refine take_at (i:=16) (v:= ?_) rfl (by kernel_rfl) (by kernel_rfl) (by kernel_rfl) (fun _ _ _ h=>h) (Or.inl ⟨by rfl, ?_⟩) (by assumption) ?_
 rotate_left
 ·(intro w hSw;(try dsimp only at hSw);go_simp<;>with_reducible rfl)
 try simp only[Act.put,XS,XU,XT]
 refine take_at (i:=17) (v:= ?_) rfl (by kernel_rfl) (by kernel_rfl) (by kernel_rfl) (fun _ _ _ h=>h) (Or.inl ⟨by rfl, ?_⟩) (by assumption) ?_
 rotate_left
 ·(intro w hSw;(try dsimp only at hSw);go_simp<;>with_reducible rfl)
 try simp only[Act.put,XS,XU,XT]
 refine wpAnyH_done (by kernel_rfl) ?_ _
 refine last_out (fun K hK=> ?_)
 go_simp
 refine hK.out _ _ (NoPanic.normal ?_)
 clear hK K
 go_wp2
 go_ret
 all_goals
  obtain⟨r1,r2,r3,r4,r5,r6⟩:=TJ HR5.out hk6 HXS.out hown8 hgr8 hat8
  refine⟨rfl,Yd HK05.out.size r1,r2.trans HK05.out.os,r3.trans HK05.out.output,(by intro b' hb' hn';first | exact (r4 b' (Ye hb' HK05.out.size) hn').trans (HK05.out.block b' hb') | (intro hn2;exact (r4 b' (Ye hb' HK05.out.size) (fun hm=>(XB.1 hm).elim hn' hn2)).trans (HK05.out.block b' hb'))),_,r5,fun b' hb'=>(r6 b' hb').imp id fun h=>Yd HK05.out.size h⟩
end Go.Proofs.SeatU
set_option maxRecDepth 100000
namespace Go.Proofs.SeatU
open Go.Dn Go.Md Go.Proofs Go.RowKit Go.Shelf Go.Lib
attribute [local go_sem ↓] Go.wp_at_zero Go.wp_at_succ
theorem putC_last (l:List aa) (p:aa) (c:ay):putC (l++[p]) c=l++[(p.1,p.2.1,p.2.2.1,p.2.2.2++[c])]:=by
 induction l with
 | nil=>rfl
 | cons x r ih=>
  cases r with
  | nil=>rfl
  | cons y q=>exact congrArg (x:: ·) ih
theorem Us (c:ay):∀ u∈gW c,u.oneCell'=true:=by
 intro u hu
 simp only[gW,XB,XP,or_false] at hu
 rcases hu with rfl | rfl | rfl | rfl | rfl<;>rfl
theorem GO (p:aa) (h:Value):(iW p h).length=5:=rfl
theorem Nl (L:List (aa×Value)):(L.flatMap fun q=>iW q.1 q.2).length=L.length*5:=by
 induction L with
 | nil=>rfl
 | cons x r ih=>rw[WQ,Xl,ih,GO,Xm];omega
theorem K3 {w:World} {v:Value} {L0:List (aa×Value)} {p:aa} {h:Value} (hN:ym w v (L0++[(p,h)])): ∃ g cap,v= .slice (some ⟨g,0,none⟩) (L0.length+1) cap/\(∀ j u,(iW p h)[j]? =some u->w.cell? ⟨g,L0.length*5+j,none⟩=some u)/\∀ o,w.frozen? ⟨g,o,none⟩=false:=by
 have hl:(L0++[(p,h)]).length=L0.length+1:=by simp
 rcases hN.row.2 with ⟨_,e⟩ | ⟨g,cap,cur,hv,_,hg,hn,hc,hs,ht⟩
 ·rw[hl] at e;omega
 refine⟨g,cap,by rw[hv,hl],fun j u hj=> ?_,fun o=>by simp[World.frozen?,hg]⟩
 have hj5:=(Xa.1 hj).1
 rw[GO] at hj5
 have h1:(cur.toList.take ((L0++[(p,h)]).length*5))[L0.length*5+j]? =some u:=by
  rw[ht,WO,WV (by rw[Nl];omega),Nl,show L0.length*5+j - L0.length*5=j by omega,List.flatMap_singleton]
  exact hj
 rw[Xh (by rw[hl];omega)] at h1
 simp[World.cell?,hg]
 simpa using h1
theorem UU:(Tryz.prog.info? 64).map (fun i=>(i.zero,i.size,i.bytes))=some (some (.agg #[.string ⟨#[]⟩,.string ⟨#[]⟩,.string ⟨#[]⟩,.int .i64 0,.int .i64 0]),5,64):=by kernel_rfl
theorem Tn {W5 W6 W8:World} {bx:Nat} {a:ai} {v:Value} {L0:List (aa×Value)} {p:aa} {h:Value} {w1 w2 t:List UInt8} {d:ah} {g go capo cap:Nat} {xs:List Value} {o:Obj} (hR:RS W5 bx a v (L0++[(p,h)])) (hv:v= .slice (some ⟨go,0,none⟩) (L0.length+1) capo) (hk6:Kept W5 W6) (hxs:xs=p.2.2.2.flatMap gW) (hown:W8.ownsRow 0 64 5 (.slice (some ⟨g,0,none⟩) (p.2.2.2.length+1) cap) (p.2.2.2.length+1) (xs++[.string (bs w1),.string (bs w2),.string (bs t),.int .i64 d.1,.int .i64 d.2])) (hgr:(W6.alloc o).grownBy W8 h.ownBlock) (hat:h.ownBlock=some g\/g=W6.heap.size+1): W5.heap.size<=(W8.setCell ⟨go,L0.length*5+4,none⟩ (.slice (some ⟨g,0,none⟩) (p.2.2.2.length+1) cap)).heap.size/\W8.os=W5.os/\W8.output=W5.output/\ (∀ b,b<W5.heap.size->b∉bx::nblk v (L0++[(p,h)])->(W8.setCell ⟨go,L0.length*5+4,none⟩ (.slice (some ⟨g,0,none⟩) (p.2.2.2.length+1) cap)).heap[b]? =W5.heap[b]?)/\ RS (W8.setCell ⟨go,L0.length*5+4,none⟩ (.slice (some ⟨g,0,none⟩) (p.2.2.2.length+1) cap)) bx (a.1,a.2.1,a.2.2.1,putC a.2.2.2 (w1,w2,t,d)) v (L0++[((p.1,p.2.1,p.2.2.1,p.2.2.2++[(w1,w2,t,d)]),.slice (some ⟨g,0,none⟩) (p.2.2.2.length+1) cap)])/\ ∀ b∈nblk v (L0++[((p.1,p.2.1,p.2.2.1,p.2.2.2++[(w1,w2,t,d)]),.slice (some ⟨g,0,none⟩) (p.2.2.2.length+1) cap)]),b∈nblk v (L0++[(p,h)])\/W5.heap.size<=b:=by
 have hsz:(W6.alloc o).heap.size=W6.heap.size+1:=VW _
 have hkeep:∀ b,b<W5.heap.size->(W6.alloc o).heap[b]? =W5.heap[b]? :=fun b hb=>(heap_alloc_old _ _ (Ye hb hk6.size)).trans (hk6.block b hb)
 have hN:ym (W6.alloc o) v (L0++[(p,h)]):=hR.nst.keep fun b hb=>hkeep b (hR.lt b (by simp[hb]))
 have hbxl:=hR.lt bx (by simp)
 have h6:=hk6.size
 have hvo:v.ownBlock=some go:=by rw[hv];rfl
 have hmem:∀ b,b∈nblk v (L0++[(p,h)])↔b=go\/b∈L0.filterMap (·.2.ownBlock)\/h.ownBlock=some b:=by
  intro b
  unfold nblk
  rw[hvo,WN]
  cases ho:h.ownBlock with
  | none=>simp[ho,eq_comm]
  | some c=>simp[ho,eq_comm]
 have hgrow:ym (W8.setCell ⟨go,L0.length*5+4,none⟩ (.slice (some ⟨g,0,none⟩) (p.2.2.2.length+1) cap)) v (L0++[((p.1,p.2.1,p.2.2.1,p.2.2.2++[(w1,w2,t,d)]),.slice (some ⟨g,0,none⟩) (p.2.2.2.length+1) cap)]):=by
  refine NestW.grow (a:=p) (a':=(p.1,p.2.1,p.2.2.1,p.2.2.2++[(w1,w2,t,d)])) hN hvo (news:=gW (w1,w2,t,d)) ?_ hgr (hat.imp id fun e=>by rw[hsz];exact e) ?_ GO (by decide) rfl
  ·show W8.ownsRow 0 64 5 _ (p.2.2.2.length+1) (p.2.2.2.flatMap gW++gW (w1,w2,t,d))
   rw[<- hxs]
   exact hown
  ·simp[QS,WO]
 have hvh:some bx≠h.ownBlock:=fun e=>hR.out ((hmem bx).2 (.inr (.inr e.symm)))
 have hbgo:bx≠go:=fun e=>hR.out ((hmem bx).2 (.inl e))
 have hnb:∀ b∈nblk v (L0++[((p.1,p.2.1,p.2.2.1,p.2.2.2++[(w1,w2,t,d)]),Value.slice (some ⟨g,0,none⟩) (p.2.2.2.length+1) cap)]),b∈nblk v (L0++[(p,h)])\/W5.heap.size<=b:=by
  intro b hb
  unfold nblk at hb
  rw[hvo,WN] at hb
  have hb:b=go\/b∈L0.filterMap (·.2.ownBlock)\/b=g:=by
   rcases Xy.1 hb with hb | hb
   ·exact .inl (by simpa using hb)
   ·rcases Xy.1 hb with hb | hb
    ·exact .inr (.inl hb)
    ·exact .inr (.inr (by simpa [Value.ownBlock] using hb))
  rcases hb with h | h | h
  ·exact .inl ((hmem b).2 (.inl h))
  ·exact .inl ((hmem b).2 (.inr (.inl h)))
  ·subst h
   rcases hat with h | h
   ·exact .inl ((hmem b).2 (.inr (.inr h)))
   ·exact .inr (by omega)
 have hbn:bx∉nblk v (L0++[((p.1,p.2.1,p.2.2.1,p.2.2.2++[(w1,w2,t,d)]),Value.slice (some ⟨g,0,none⟩) (p.2.2.2.length+1) cap)]):=fun hb=>by
  rcases hnb bx hb with h | h
  ·exact hR.out h
  ·omega
 have hb8:=yo hk6 hgr hvh hR.box
 refine⟨?_,hgr.os.trans hk6.os,hgr.output.trans hk6.output,fun b hb hn=> ?_,⟨?_,hgrow, ?_,hbn⟩,hnb⟩
 ·rw[setCell_size];have:=hgr.size;rw[hsz] at this;omega
 ·have n1:b≠go:=fun e=>hn (XC _ ((hmem b).2 (.inl e)))
  have n2:some b≠h.ownBlock:=fun e=>hn (XC _ ((hmem b).2 (.inr (.inr e.symm))))
  rw[setCell_far _ _ _ _ _ n1,hgr.block b (by rw[hsz];omega) n2]
  exact hkeep b hb
 ·rw[setCell_far _ _ _ _ _ hbgo]
  exact hb8
 ·have hm:=hR.map
  rw[Xu] at hm ⊢
  show _=putC a.2.2.2 (w1,w2,t,d)
  rw[<- hm]
  exact (putC_last _ _ _).symm
end Go.Proofs.SeatU
set_option maxRecDepth 100000
namespace Go.Proofs.SeatU
open Go.Dn Go.Md Go.Proofs Go.RowKit Go.Shelf Go.Lib
attribute [local go_sem ↓] Go.wp_at_zero Go.wp_at_succ
theorem Hp {W7 W8:World} {b o:Nat} {c:Obj} {u:Value} (h8:W8.heap[b]? =some c) (h7:W7.heap[b]? =some c) (h:W7.cell? ⟨b,o,none⟩=some u):W8.cell? ⟨b,o,none⟩=some u:=by
 simp only[World.cell?,h7] at h
 simp only[World.cell?,h8]
 exact h
theorem MI {W7 W8:World} {b o:Nat} {c:Obj} (h8:W8.heap[b]? =some c) (h7:W7.heap[b]? =some c) (h:W7.frozen? ⟨b,o,none⟩=false):W8.frozen? ⟨b,o,none⟩=false:=by
 simp only[World.frozen?,h7] at h
 simp only[World.frozen?,h8]
 exact h
set_option maxHeartbeats 4000000 in
theorem Q3 (G:Gh) (w:World) (bx:Nat) (s:List UInt8) (w0 w1 w2 w3 w4:List UInt8) (a:ai) (v:Value) (L0:List (aa×Value)) (p:aa) (h:Value) (d:ah) (n:Int) (t:List UInt8) (hG:Agr G w) (hT:cq Tryz.prog G) (hm:iJ s=some ([w0,w1,w2,w3,w4],true,())) (hR:RS w bx a v (L0++[(p,h)])) (hgb:∀ b∈bx::nblk v (L0++[(p,h)]),G b=none) (hL:L0.length<=1000000) (hK:p.2.2.2.length<=1000000) (ha:((bs w0).toList==[97,100,118,105,99,101])=false) (hp:((bs w0).toList==[112,97,114,99,101,108])=false) (hc:((bs w0).toList==[99,111,110,116,101,110,116])=true) (hd:fC w4=some (d,n,())) (hund:oS w3=some (t,())): Calls Tryz.prog 12 #[.pointer (some ⟨bx,0,none⟩),.bool false,.string (bs s)] w fun e w'=>e= .returned (.bool (n==0))/\w.heap.size<=w'.heap.size/\w'.os=w.os/\w'.output=w.output/\(∀ b,b<w.heap.size->b∉bx::nblk v (L0++[(p,h)])->w'.heap[b]? =w.heap[b]?)/\ ∃ h',RS w' bx (a.1,a.2.1,a.2.2.1,putC a.2.2.2 (w1,w2,t,d)) v (L0++[((p.1,p.2.1,p.2.2.1,p.2.2.2++[(w1,w2,t,d)]),h')])/\∀ b∈nblk v (L0++[((p.1,p.2.1,p.2.2.1,p.2.2.2++[(w1,w2,t,d)]),h')]),b∈nblk v (L0++[(p,h)])\/w.heap.size<=b:=by
 have e30:∀ args w,(callFunc 30 args).run Tryz.prog w= .ok (.enter 30 args) w:=enters_of Tryz.func30 (by kernel_rfl) rfl
 have e32:∀ args w,(callFunc 32 args).run Tryz.prog w= .ok (.enter 32 args) w:=enters_of Tryz.func32 (by kernel_rfl) rfl
 have e33:∀ args w,(callFunc 33 args).run Tryz.prog w= .ok (.enter 33 args) w:=enters_of Tryz.func33 (by kernel_rfl) rfl
 have mixed:Tryz.prog.follows .mixedOrders=true:=by kernel_rfl
 have late:Tryz.prog.follows .lateStores=true:=by kernel_rfl
 have t3:=Tryz.underlying3;have t4:=Tryz.underlying4;have t9:=Tryz.underlying9;have t22:=Tryz.underlying22;have t34:=Tryz.underlying34;have t24:=Tryz.underlying24;have t25:=Tryz.underlying25;have t60:=Tryz.underlying60;have z60:=Tryz.sizeOf60;have a60:=Tryz.isAgg60;have t58:=Tryz.underlying58
 have t57:=Tryz.underlying57;have a57:=Tryz.isAgg57;have z57:=Tryz.sizeOf57;have v57:=Tryz.zeroValue57
 obtain⟨go,capo,hv,_,_⟩:=K3 hR.nst
 obtain⟨n0,hn0⟩:∃ n0,n0=L0.length:=⟨_,rfl⟩
 have hv':v= .slice (some ⟨go,0,none⟩) (n0+1) capo:=by rw[hn0];exact hv
 have cb:=(dh hR.box).1.2.2.2
 rw[hv'] at cb
 have hw:=qv s _ _ hG hT hm
 have hn1:(0:Int)<=(n0:Int):=by omega
 have hn2:(n0:Int)<=1000000:=by omega
 have hn3:(n0:Int)<(n0:Int)+1:=by omega
 have hwr:IntKind.i64.wrap (n0:Int)=(n0:Int):=by rw[IntKind.wrap_i64];omega
 have hwr1:IntKind.i64.wrap ((n0:Int)+1 - 1)=(n0:Int):=by rw[IntKind.wrap_i64];omega
 have HN0:Aside _:=hn0
 have HV:Aside _:=hv
 clear hn0 hv hv'
 go_enter Tryz.func12,Tryz.ntmps12
 go_wp2_with (first | (go_at_fn 30;refine hw.mono ?_;rintro e W2 ⟨G2,u,rfl,hlv,hu⟩;obtain⟨b,off,cap,rfl,hcap,sw,hfz,hcell⟩:=tr hu hlv.agr (List.cons_ne_nil _ _);have c0:W2.cell? ⟨b,off,none⟩=some (.string (bs w0)):=hcell 0 w0 rfl;have c4:W2.cell? ⟨b,off+4,none⟩=some (.string (bs w4)):=hcell 4 w4 rfl;have cb2:=aL hlv.kept cb;have hdec:=KS w4 d n hlv.agr (hT.mono hlv.le) hd) | (go_at_fn 32;refine hdec.mono ?_;rintro e W3 ⟨rfl,hk3⟩))
 refine Ae (fun W=>W.heap[W3.heap.size]? =some (.cells #[.int .i64 d.1,.int .i64 d.2] 57 (0,0))/\Kept W3 W) ?_ ?_
 ·exact dx _ _
 intro W5 ⟨hd5,hk5⟩
 have hk25:Kept W2 W5:=hk3.trans hk5
 have cb5:=aL hk25 cb2
 go_region_held3 (fun W=>W.cell? ⟨bx,3,none⟩=some (.slice (some ⟨go,0,none⟩) (n0+1) capo)) (exact cb5) (fail)
 go_wp2
 refine Ae (fun W=>Kept W5 W) ⟨Yc _,rfl,rfl,fun _ _=>rfl⟩ ?_
 intro W7 hk7
 have hk27:Kept W2 W7:=hk25.trans hk7
 have hk07:Kept w W7:=hlv.kept.trans hk27
 have hR7:RS W7 bx a v (L0++[(p,h)]):=hR.keep fun b hb=>hk07.block b (hR.lt b hb)
 have hA7:Agr G2 W7:=fun b o hb=>(hk27.block b (aG (hlv.agr b o hb))).trans (hlv.agr b o hb)
 have hT2:=hT.mono hlv.le
 have hg2:∀ b∈bx::nblk v (L0++[(p,h)]),G2 b=none:=fun b hb=>J6 hlv (hR.lt b hb) (hgb b hb)
 have hd7:=(hk7.block _ (aG hd5)).trans hd5
 have d1:W7.cell? ⟨b,off+1,none⟩=some (.string (bs w1)):=aL hk27 (hcell 1 w1 rfl)
 have d2:W7.cell? ⟨b,off+2,none⟩=some (.string (bs w2)):=aL hk27 (hcell 2 w2 rfl)
 have d3:W7.cell? ⟨b,off+3,none⟩=some (.string (bs w3)):=aL hk27 (hcell 3 w3 rfl)
 have x0:W7.cell? ⟨W3.heap.size,0,none⟩=some (.int .i64 d.1):=by simp[World.cell?,hd7]
 have x1:W7.cell? ⟨W3.heap.size,1,none⟩=some (.int .i64 d.2):=by simp[World.cell?,hd7]
 have hgo:go∈bx::nblk v (L0++[(p,h)]):=XC _ (Xy.2 (.inl (by rw[HV.out];simp[Value.ownBlock])))
 have hne:b≠go:=GG hfz (hg2 go hgo)
 have hnd:W3.heap.size≠go:=by have:=hR.lt go hgo;have:=hlv.kept.size;have:=hk3.size;omega
 have hun:∀ W,Kept W7 W->Calls Tryz.prog 33 #[.string (bs w3)] W fun e w'=>e= .returned (.string (bs t))/\Kept W w':=fun W hk=>En w3 t (fun b o hb=>(hk.block b (aG (hA7 b o hb))).trans (hA7 b o hb)) hT2 hund
 have hhm:∀ g,h.ownBlock=some g->g∈nblk v (L0++[(p,h)]):=fun g hg=>Xy.2 (.inr (by rw[WN];exact Xy.2 (.inr (by simp[hg]))))
 have hvb:some b≠h.ownBlock:=fun e=>by
  obtain⟨o,ho⟩:=hfz
  rw[hg2 b (XC _ (hhm b e.symm))] at ho;cases ho
 have hvd:some W3.heap.size≠h.ownBlock:=fun e=>by
  have:=hR.lt _ (XC _ (hhm _ e.symm));have:=hlv.kept.size;have:=hk3.size;omega
 have hvx:some go≠h.ownBlock:=fun e=>by
  have hdis:=hR.nst.dis
  unfold nblk at hdis
  rw[HV.out,WN] at hdis
  have h2:=(XN.1 hdis).2.2 go (by simp[Value.ownBlock]) go (Xy.2 (.inr (by simp[<- e])))
  exact h2 rfl
 have hrow:W7.ownsRow 0 64 5 h p.2.2.2.length (p.2.2.2.flatMap gW):=hR7.nst.inn (p,h) (by simp)
 obtain⟨xs,hxs⟩:∃ xs:List Value,xs=p.2.2.2.flatMap gW:=⟨_,rfl⟩
 obtain⟨m0,hm0⟩:∃ m0,m0=p.2.2.2.length:=⟨_,rfl⟩
 rw[<- hxs, <- hm0] at hrow
 have hown:∀ W6,Kept W7 W6->(W6.alloc (.cells #[.string (bs w1),.string (bs w2),.string (bs t),.int .i64 d.1,.int .i64 d.2] 64)).ownsRow 0 64 5 h m0 xs:=fun W6 hk6=>
  ownsRow_same hrow fun g hg=>(heap_alloc_old _ _ (Ye (ownsRow_lt hrow hg) hk6.size)).trans (hk6.block g (ownsRow_lt hrow hg))
 obtain⟨i0,hi0,hz0,hz1,hz2⟩:=info_parts UU
 have h63:m0+1<=maxLen:=by rw[hm0];simp only[maxLen];omega
 have hbytes:(m0+1)*64<=140737488355328:=by rw[hm0];omega
 obtain⟨go',capo',hv2,hlc,hlf⟩:=K3 hR7.nst
 have ego:go'=go:=by
  have:=HV.out.symm.trans hv2
  simp only[Value.slice.injEq,Option.some.injEq,Addr.mk.injEq] at this
  exact this.1.1.symm
 rw[ego, <- HN0.out] at hlc
 rw[ego] at hlf
 have q3:W7.cell? ⟨go,n0*5+4,none⟩=some h:=hlc 4 h rfl
 obtain⟨og,hog⟩:∃ o,W7.heap[go]? =some o:=by
  cases ho:W7.heap[go]? with
  | none=>simp[World.cell?,ho] at q3
  | some o=>exact⟨o,rfl⟩
 have HOG:Aside _:=hog
 have HLF:Aside (W7.frozen? ⟨go,n0*5+4,none⟩=false):=hlf _
 have HR7:Aside _:=hR7
 have HXS:Aside _:=hxs
 have HM0:Aside _:=hm0
 have HK07:Aside _:=hk07
 clear hlf hlc hv2 ego hrow hxs hm0 hcell hu hw hdec hR7 hR hG hT hg2 hgb hk07 hk27 hk25 hA7 hlv hk3 hk5 hk7 hd5 hd7 cb cb2 cb5 c0 c4 hhm hgo hog
 refine wp_region_noPanic ?_
 refine wp_region_last (n:=21) (S:=(fun W=>W.cell? ⟨b,off+1,none⟩=some (.string (bs w1))/\W.cell? ⟨b,off+2,none⟩=some (.string (bs w2))/\W.cell? ⟨b,off+3,none⟩=some (.string (bs w3))/\W.cell? ⟨W3.heap.size,0,none⟩=some (.int .i64 d.1)/\W.cell? ⟨W3.heap.size,1,none⟩=some (.int .i64 d.2)/\W.cell? ⟨go,n0*5+4,none⟩=some h)) mixed (by (simp only[X1,List.take_zero];try rfl)) rfl rfl (by kernel_rfl) ?_ (fun hHeld=> ?_)
 ·(try dsimp only);(refine And.intro ?_ (And.intro ?_ (And.intro ?_ (And.intro ?_ (And.intro ?_ ?_))))<;>(repeat (first | with_reducible exact q3' | with_reducible exact q3 | with_reducible exact d1 | with_reducible exact d2 | with_reducible exact d3 | with_reducible exact x0 | with_reducible exact x1 | with_reducible exact y0 | with_reducible exact y1 | with_reducible exact g1 | with_reducible exact g2 | with_reducible exact g3 | with_reducible refine gu ?_ | with_reducible refine fT ?_ | with_reducible refine cell_far hne ?_ | with_reducible refine cell_far hnd ?_ | with_reducible refine bL hgr8 ?_ hvb | with_reducible refine bL hgr8 ?_ hvd | with_reducible refine bL hgr8 ?_ hvx)))
 refine take_at (i:=0) (v:= ?_) rfl (by kernel_rfl) (by kernel_rfl) (by kernel_rfl) (fun _ _ _ h=>h) (Or.inl ⟨by rfl, ?_⟩) (by assumption) ?_
 rotate_left
 ·(intro w hSw;(try dsimp only at hSw);go_simp<;>with_reducible rfl)
 try simp only[Act.put,XS,XU,XT]
 refine take_at (i:=1) (v:= ?_) rfl (by kernel_rfl) (by kernel_rfl) (by kernel_rfl) (fun _ _ _ h=>h) (Or.inl ⟨by rfl, ?_⟩) (by assumption) ?_
 rotate_left
 ·(intro w hSw;(try dsimp only at hSw);go_simp<;>with_reducible rfl)
 try simp only[Act.put,XS,XU,XT]
 refine take_at (i:=2) (v:= ?_) rfl (by kernel_rfl) (by kernel_rfl) (by kernel_rfl) (fun _ _ _ h=>h) (Or.inl ⟨by rfl, ?_⟩) (by assumption) ?_
 rotate_left
 ·(intro w hSw;(try dsimp only at hSw);go_simp<;>with_reducible rfl)
 try simp only[Act.put,XS,XU,XT]
 refine take_at (i:=3) (v:= ?_) rfl (by kernel_rfl) (by kernel_rfl) (by kernel_rfl) (fun _ _ _ h=>h) (Or.inl ⟨by rfl, ?_⟩) (by assumption) ?_
 rotate_left
 ·(intro w hSw;(try dsimp only at hSw);go_simp<;>with_reducible rfl)
 try simp only[Act.put,XS,XU,XT]
 refine take_at (i:=4) (v:= ?_) rfl (by kernel_rfl) (by kernel_rfl) (by kernel_rfl) (fun _ _ _ h=>h) (Or.inl ⟨by rfl, ?_⟩) (by assumption) ?_
 rotate_left
 ·(intro w hSw;(try dsimp only at hSw);go_simp<;>with_reducible rfl)
 try simp only[Act.put,XS,XU,XT]
 refine take_at (i:=5) (v:= ?_) rfl (by kernel_rfl) (by kernel_rfl) (by kernel_rfl) (fun _ _ _ h=>h) (Or.inl ⟨by rfl, ?_⟩) (by assumption) ?_
 rotate_left
 ·(intro w hSw;(try dsimp only at hSw);go_simp<;>with_reducible rfl)
 try simp only[Act.put,XS,XU,XT]
 refine take_at (i:=6) (v:= ?_) rfl (by kernel_rfl) (by kernel_rfl) (by kernel_rfl) (fun _ _ _ h=>h) (Or.inl ⟨by rfl, ?_⟩) (by assumption) ?_
 rotate_left
 ·(intro w hSw;(try dsimp only at hSw);go_simp<;>with_reducible rfl)
 try simp only[Act.put,XS,XU,XT]
 refine take_at (i:=7) (v:= ?_) rfl (by kernel_rfl) (by kernel_rfl) (by kernel_rfl) (fun _ _ _ h=>h) (Or.inl ⟨by rfl, ?_⟩) (by assumption) ?_
 rotate_left
 ·(intro w hSw;(try dsimp only at hSw);go_simp<;>with_reducible rfl)
 try simp only[Act.put,XS,XU,XT]
 refine take_at (i:=8) (v:= ?_) rfl (by kernel_rfl) (by kernel_rfl) (by kernel_rfl) (fun _ _ _ h=>h) (Or.inl ⟨by rfl, ?_⟩) (by assumption) ?_
 rotate_left
 ·(intro w hSw;(try dsimp only at hSw);go_simp<;>with_reducible rfl)
 try simp only[Act.put,XS,XU,XT]
 refine take_at (i:=9) (v:= ?_) rfl (by kernel_rfl) (by kernel_rfl) (by kernel_rfl) (fun _ _ _ h=>h) (Or.inl ⟨by rfl, ?_⟩) (by assumption) ?_
 rotate_left
 ·(intro w hSw;(try dsimp only at hSw);go_simp<;>with_reducible rfl)
 try simp only[Act.put,XS,XU,XT]
 refine take_at (i:=10) (v:= ?_) rfl (by kernel_rfl) (by kernel_rfl) (by kernel_rfl) (fun _ _ _ h=>h) (Or.inl ⟨by rfl, ?_⟩) (by assumption) ?_
 rotate_left
 ·(intro w hSw;(try dsimp only at hSw);go_simp<;>with_reducible rfl)
 try simp only[Act.put,XS,XU,XT]
 refine take_at (i:=11) (v:= ?_) rfl (by kernel_rfl) (by kernel_rfl) (by kernel_rfl) (fun _ _ _ h=>h) (Or.inl ⟨by rfl, ?_⟩) (by assumption) ?_
 rotate_left
 ·(intro w hSw;(try dsimp only at hSw);go_simp<;>with_reducible rfl)
 try simp only[Act.put,XS,XU,XT]
 refine take_at (i:=12) (v:= ?_) rfl (by kernel_rfl) (by kernel_rfl) (by kernel_rfl) (fun _ _ _ h=>h) (Or.inl ⟨by rfl, ?_⟩) (by assumption) ?_
 rotate_left
 ·(intro w hSw;(try dsimp only at hSw);go_simp<;>with_reducible rfl)
 try simp only[Act.put,XS,XU,XT]
 refine take_at (i:=13) (v:= ?_) rfl (by kernel_rfl) (by kernel_rfl) (by kernel_rfl) (fun _ _ _ h=>h) (Or.inl ⟨by rfl, ?_⟩) (by assumption) ?_
 rotate_left
 ·(intro w hSw;(try dsimp only at hSw);go_simp<;>with_reducible rfl)
 try simp only[Act.put,XS,XU,XT]
 refine take_at (i:=15) (v:= ?_) rfl (by kernel_rfl) (by kernel_rfl) (by kernel_rfl) (fun _ _ _ h=>h) (Or.inl ⟨by rfl, ?_⟩) (by assumption) ?_
 rotate_left
 ·(intro w hSw;(try dsimp only at hSw);go_simp<;>with_reducible rfl)
 try simp only[Act.put,XS,XU,XT]
 refine step_at (i:=14) rfl (by kernel_rfl) (fun K hK=> ?_)
 go_simp
 (go_at_fn 33;refine (hun _ (by exact⟨Yc _,rfl,rfl,fun _ _=>rfl⟩)).mono ?_;rintro e W6 ⟨rfl,hk6'⟩;have hk6:Kept W7 W6:=⟨hk6'.size,hk6'.os,hk6'.output,hk6'.block⟩;clear hk6';have q3':=aL hk6 q3;have q3n:=World.new_ne W6 _ q3';have q3o:=gu (o:= .cells #[.string (bs w1),.string (bs w2),.string (bs t),.int .i64 d.1,.int .i64 d.2] 64) q3';have y0:=aL hk6 x0;have y1:=aL hk6 x1;have g1:=aL hk6 d1;have g2:=aL hk6 d2;have g3:=aL hk6 d3)
 refine hK.out _ _ ?_ (fun hHeld=> ?_)
 ·(try dsimp only);(refine And.intro ?_ (And.intro ?_ (And.intro ?_ (And.intro ?_ (And.intro ?_ ?_))))<;>(repeat (first | with_reducible exact q3' | with_reducible exact q3 | with_reducible exact d1 | with_reducible exact d2 | with_reducible exact d3 | with_reducible exact x0 | with_reducible exact x1 | with_reducible exact y0 | with_reducible exact y1 | with_reducible exact g1 | with_reducible exact g2 | with_reducible exact g3 | with_reducible refine gu ?_ | with_reducible refine fT ?_ | with_reducible refine cell_far hne ?_ | with_reducible refine cell_far hnd ?_ | with_reducible refine bL hgr8 ?_ hvb | with_reducible refine bL hgr8 ?_ hvd | with_reducible refine bL hgr8 ?_ hvx)))
 clear hK K
 try simp only[Act.put,XS,XU,XT]
 refine take_at (i:=16) (v:= ?_) rfl (by kernel_rfl) (by kernel_rfl) (by kernel_rfl) (fun _ _ _ h=>h) (Or.inl ⟨by rfl, ?_⟩) (by assumption) ?_
 rotate_left
 ·(intro w hSw;(try dsimp only at hSw);go_simp<;>with_reducible rfl)
 try simp only[Act.put,XS,XU,XT]
 refine step_at (i:=17) rfl (by kernel_rfl) (fun K hK=> ?_)
 go_simp
 refine hK.out _ _ ?_ (fun hHeld=> ?_)
 ·(try dsimp only);(refine And.intro ?_ (And.intro ?_ (And.intro ?_ (And.intro ?_ (And.intro ?_ ?_))))<;>(repeat (first | with_reducible exact q3' | with_reducible exact q3 | with_reducible exact d1 | with_reducible exact d2 | with_reducible exact d3 | with_reducible exact x0 | with_reducible exact x1 | with_reducible exact y0 | with_reducible exact y1 | with_reducible exact g1 | with_reducible exact g2 | with_reducible exact g3 | with_reducible refine gu ?_ | with_reducible refine fT ?_ | with_reducible refine cell_far hne ?_ | with_reducible refine cell_far hnd ?_ | with_reducible refine bL hgr8 ?_ hvb | with_reducible refine bL hgr8 ?_ hvd | with_reducible refine bL hgr8 ?_ hvx)))
 clear hK K
 try simp only[Act.put,XS,XU,XT]
 refine step_at (i:=18) rfl (by kernel_rfl) (fun K hK=> ?_)
 (refine step_append_lies _ (by rfl) _ _ _ (by rfl) 0 64 i0 _ 5 64 t58 hi0 hz0 hz1 hz2 rfl (by omega) h m0 xs (by rfl) (hown W6 hk6) ⟨W6.heap.size,0,none⟩ 1 1 [.string (bs w1),.string (bs w2),.string (bs t),.int .i64 d.1,.int .i64 d.2] (by rfl) (by rfl) (World.news_of_block (cs:= #[.string (bs w1),.string (bs w2),.string (bs t),.int .i64 d.1,.int .i64 d.2]) (t:=64) (fr:=(0,0)) (heap_alloc_new W6 _)) (Us (w1,w2,t,d)) (by omega) h63 hbytes (Ys _) (W6.heap.size+1) (by simp) ?_;intro g capn W8 hown8 hgr8 hat8 hlt8;have hb8:=yo hk6 hgr8 hvx HOG.out;have p3:=Hp hb8 HOG.out q3;have pf:=MI hb8 HOG.out HLF.out)
 refine hK.out _ _ ?_ (fun hHeld=> ?_)
 ·(try dsimp only);(refine And.intro ?_ (And.intro ?_ (And.intro ?_ (And.intro ?_ (And.intro ?_ ?_))))<;>(repeat (first | with_reducible exact q3' | with_reducible exact q3 | with_reducible exact d1 | with_reducible exact d2 | with_reducible exact d3 | with_reducible exact x0 | with_reducible exact x1 | with_reducible exact y0 | with_reducible exact y1 | with_reducible exact g1 | with_reducible exact g2 | with_reducible exact g3 | with_reducible refine gu ?_ | with_reducible refine fT ?_ | with_reducible refine cell_far hne ?_ | with_reducible refine cell_far hnd ?_ | with_reducible refine bL hgr8 ?_ hvb | with_reducible refine bL hgr8 ?_ hvd | with_reducible refine bL hgr8 ?_ hvx)))
 clear hK K
 try simp only[Act.put,XS,XU,XT]
 refine take_at (i:=19) (v:= ?_) rfl (by kernel_rfl) (by kernel_rfl) (by kernel_rfl) (fun _ _ _ h=>h) (Or.inl ⟨by rfl, ?_⟩) (by assumption) ?_
 rotate_left
 ·(intro w hSw;(try dsimp only at hSw);go_simp<;>with_reducible rfl)
 try simp only[Act.put,XS,XU,XT]
 refine take_at (i:=20) (v:= ?_) rfl (by kernel_rfl) (by kernel_rfl) (by kernel_rfl) (fun _ _ _ h=>h) (Or.inl ⟨by rfl, ?_⟩) (by assumption) ?_
 rotate_left
 ·(intro w hSw;(try dsimp only at hSw);go_simp<;>with_reducible rfl)
 try simp only[Act.put,XS,XU,XT]
 refine wpAnyH_done (by kernel_rfl) ?_ _
 refine last_out (fun K hK=> ?_)
 go_simp
 refine hK.out _ _ (NoPanic.normal ?_)
 clear hK K
 all_goals go_wp2
 all_goals go_ret
 all_goals
  rw[HM0.out] at hown8
  obtain⟨r1,r2,r3,r4,r5,r6⟩:=Tn HR7.out HV.out hk6 HXS.out hown8 hgr8 hat8
  rw[<- HN0.out, <- HM0.out] at*
  refine⟨rfl,Yd HK07.out.size r1,r2.trans HK07.out.os,r3.trans HK07.out.output,(by intro b' hb' hn';first | exact (r4 b' (Ye hb' HK07.out.size) hn').trans (HK07.out.block b' hb') | (intro hn2;exact (r4 b' (Ye hb' HK07.out.size) (fun hm=>(XB.1 hm).elim hn' hn2)).trans (HK07.out.block b' hb'))),_,r5,fun b' hb'=>(r6 b' hb').imp id fun h=>Yd HK07.out.size h⟩
end Go.Proofs.SeatU
