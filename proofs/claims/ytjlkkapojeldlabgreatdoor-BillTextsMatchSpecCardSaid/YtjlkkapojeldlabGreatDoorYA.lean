/-
  Rows whose elements have rows; reader.line by a walk, first part. No condition.
-/
import Derived.Test.YtjlkkapojeldlabGreatDoorYa
import Derived.Laws.AppendOwn
import Derived.Deep.AppendLies
import Derived.Test.YtjlkkapojeldlabGreatDoorYe
import Derived.Deep.RegionHeld3
import Derived.WalkKit
import Derived.OwnWalk
import Derived.Test.YtjlkkapojeldlabGreatDoorYj
import Derived.Test.YtjlkkapojeldlabGreatDoorYt
import Derived.Deep.LoopGhost
import Derived.Deep.DrawnRows
set_option linter.all false
namespace Go.Dn
theorem cg {w w':World} {base:Nat} {e:TypeId} {sz:Nat} {v:Value} {n:Nat} {xs:List Value} (h:w.ownsRow base e sz v n xs) (hk:∀ g,v.ownBlock=some g->w'.heap[g]? =w.heap[g]?):w'.ownsRow base e sz v n xs:=by
 refine⟨h.1, ?_⟩
 rcases h.2 with hn | ⟨g,cap,cur,hv,hb,hg,rest⟩
 ·exact .inl hn
 ·exact .inr ⟨g,cap,cur,hv,hb,(hk g (by rw[hv];rfl)).trans hg,rest⟩
theorem dw {w:World} {base:Nat} {e:TypeId} {sz:Nat} {v:Value} {n:Nat} {xs:List Value} (h:w.ownsRow base e sz v n xs) {g:Nat} (hg:v.ownBlock=some g):g<w.heap.size:=by
 rcases h.2 with ⟨hn,_⟩ | ⟨g',cap,cur,hv,hb,hg',rest⟩
 ·rw[hn] at hg;cases hg
 ·rw[hv] at hg
  have e:g'=g:=Option.some.inj hg
  subst e
  exact (ac8.1 hg').1
def gI {α:Type} (v:Value) (L:List (α×Value)):List Nat:=v.ownBlock.toList++L.filterMap (·.2.ownBlock)
structure nv {α:Type} (eO szO eI szI:Nat) (oc:α->Value->List Value) (ic:α->Nat×List Value) (w:World) (v:Value) (L:List (α×Value)):Prop where
 row:w.ownsRow 0 eO szO v L.length (L.flatMap fun q=>oc q.1 q.2)
 inn:∀ q∈L,w.ownsRow 0 eI szI q.2 (ic q.1).1 (ic q.1).2
 dis:(gI v L).Nodup
section
variable {α:Type} {eO szO eI szI:Nat} {oc:α->Value->List Value} {ic:α->Nat×List Value} {w w':World} {v:Value} {L:List (α×Value)}
theorem nv.lt (h:nv eO szO eI szI oc ic w v L):∀ b∈gI v L,b<w.heap.size:=by
 intro b hb
 rcases aeN.1 hb with hb | hb
 ·exact dw h.row (by simpa [Option.mem_toList] using hb)
 ·obtain⟨q,hq,hqb⟩:=aeR.1 hb
  exact dw (h.inn q hq) hqb
theorem nv.keep (h:nv eO szO eI szI oc ic w v L) (hk:∀ b∈gI v L,w'.heap[b]? =w.heap[b]?):nv eO szO eI szI oc ic w' v L where
 row:=cg h.row fun g hg=>hk g (aeN.2 (.inl (by rw[hg];simp)))
 inn:=fun q hq=>cg (h.inn q hq) fun g hg=>hk g (aeN.2 (.inr (aeR.2 ⟨q,hq,hg⟩)))
 dis:=h.dis
theorem nv.nil (eO szO eI szI:Nat) (oc:α->Value->List Value) (ic:α->Nat×List Value) (w:World):nv eO szO eI szI oc ic w (.slice none 0 0) [] where
 row:=⟨by simp,.inl ⟨rfl,rfl⟩⟩
 inn:=fun q hq=>by cases hq
 dis:=by simp[gI,Value.ownBlock]
theorem nv.push (h:nv eO szO eI szI oc ic w v L) {a:α} {g cap:Nat} (hic:ic a=(0,[])) (hrow:w'.ownsRow 0 eO szO (.slice (some ⟨g,0,none⟩) (L.length+1) cap) (L.length+1) ((L.flatMap fun q=>oc q.1 q.2)++oc a (.slice none 0 0))) (hgr:w.grownBy w' v.ownBlock) (hg:v.ownBlock=some g\/w.heap.size<=g):nv eO szO eI szI oc ic w' (.slice (some ⟨g,0,none⟩) (L.length+1) cap) (L++[(a,.slice none 0 0)]):=by
 have hd:=ae0.1 h.dis
 refine⟨?_, ?_, ?_⟩
 ·simpa using hrow
 ·intro q hq
  rcases aeN.1 hq with hq | hq
  ·refine cg (h.inn q hq) fun b hb=>hgr.block b (dw (h.inn q hq) hb) fun e=> ?_
   exact hd.2.2 b (by rw[<- e];simp) b (aeR.2 ⟨q,hq,hb⟩) rfl
  ·rw[aeY.1 hq,hic]
   exact⟨by simp,.inl ⟨rfl,rfl⟩⟩
 ·have e:gI (Value.slice (some ⟨g,0,none⟩) (L.length+1) cap) (L++[(a,Value.slice none 0 0)])=g::L.filterMap (·.2.ownBlock):=by
   simp[gI,Value.ownBlock,aea]
  rw[e,ae1]
  refine⟨fun hm=> ?_,hd.2.1⟩
  rcases hg with hg | hg
  ·exact hd.2.2 g (by rw[hg];simp) g hm rfl
  ·have:=h.lt g (aeN.2 (.inr hm));omega
theorem bz (W:World) (b k:Nat) (arr:Array Value) (T:TypeId) (fz:Nat×Nat) (v:Value) (h:W.heap[b]? =some (.cells arr T fz)):(W.setCell ⟨b,k,none⟩ v).heap[b]? =some (.cells (arr.setIfInBounds k v) T fz):=by
 simp[World.setCell,Array.getElem?_modify,h]
theorem aW (W:World) (b k b':Nat) (v:Value) (h:b'≠b):(W.setCell ⟨b,k,none⟩ v).heap[b']? =W.heap[b']? :=by
 simp only[World.setCell,Array.getElem?_modify]
 rw[af8 (fun e=>h e.symm)]
theorem bF (W:World) (b k:Nat) (v:Value):(W.setCell ⟨b,k,none⟩ v).heap.size=W.heap.size:=by
 simp[World.setCell]
theorem nv.grow {w1:World} {L0:List (α×Value)} {a a':α} {hd:Value} (h:nv eO szO eI szI oc ic w v (L0++[(a,hd)])) {g gi cap off:Nat} (hv:v.ownBlock=some g) {news:List Value} (hrow:w1.ownsRow 0 eI szI (.slice (some ⟨gi,0,none⟩) ((ic a).1+1) cap) ((ic a).1+1) ((ic a).2++news)) (hgr:w.grownBy w1 hd.ownBlock) (hg:hd.ownBlock=some gi\/gi=w.heap.size) (hic:ic a'=((ic a).1+1,(ic a).2++news)) (hsz:∀ x u,(oc x u).length=szO) (hoff:off<szO) (hoc:oc a' (.slice (some ⟨gi,0,none⟩) ((ic a).1+1) cap)=(oc a hd).set off (.slice (some ⟨gi,0,none⟩) ((ic a).1+1) cap)): nv eO szO eI szI oc ic (w1.setCell ⟨g,L0.length*szO+off,none⟩ (.slice (some ⟨gi,0,none⟩) ((ic a).1+1) cap)) v (L0++[(a',.slice (some ⟨gi,0,none⟩) ((ic a).1+1) cap)]):=by
 have hdis:(g::(L0.filterMap (·.2.ownBlock)++hd.ownBlock.toList)).Nodup:=by
  have:=h.dis
  unfold gI at this
  rw[hv,aea] at this
  cases ho:hd.ownBlock with
  | none=>simpa [ho] using this
  | some b=>simpa [ho] using this
 obtain⟨hgn,hdis2⟩:=ae1.1 hdis
 obtain⟨hn0,_,hcross⟩:=ae0.1 hdis2
 have hglt:g<w.heap.size:=dw h.row hv
 have hgi:gi≠g:=by
  rcases hg with hg | hg
  ·intro e;subst e;exact hgn (aeN.2 (.inr (by rw[hg];simp)))
  ·omega
 have hgin:∀ b∈L0.filterMap (·.2.ownBlock),b≠gi:=by
  intro b hb e
  subst e
  rcases hg with hg | hg
  ·exact hcross b hb b (by rw[hg];simp) rfl
  ·have:=h.lt b (by unfold gI;rw[aea];exact aeN.2 (.inr (aeN.2 (.inl hb))));omega
 have hgh:some g≠hd.ownBlock:=fun e=>hgn (aeN.2 (.inr (by rw[<- e];simp)))
 obtain⟨g',capO,cur,hvv,_,hgw,hn,hcap,hcs,htk⟩:∃ g' cap cur,v= .slice (some ⟨g',0,none⟩) (L0++[(a,hd)]).length cap/\0<=g'/\w.heap[g']? =some (.cells cur eO (0,0))/\(L0++[(a,hd)]).length<=cap/\cap<=maxLen/\cur.size=cap*szO/\cur.toList.take ((L0++[(a,hd)]).length*szO)=(L0++[(a,hd)]).flatMap fun q=>oc q.1 q.2:=by
  rcases h.row.2 with ⟨e,_⟩ | e
  ·rw[e] at hv;cases hv
  ·exact e
 have e:g'=g:=by rw[hvv] at hv;exact Option.some.inj hv
 subst e
 have hlen:(L0++[(a,hd)]).length=L0.length+1:=by simp
 have hg1:w1.heap[g']? =some (.cells cur eO (0,0)):=(hgr.block g' hglt hgh).trans hgw
 have hflat:∀ (M:List (α×Value)),(M.flatMap fun q=>oc q.1 q.2).length=M.length*szO:=by
  intro M
  induction M with
  | nil=>simp
  | cons x r ih=>simp only[aec,aey,ih,hsz,aez];rw[Nat.succ_mul];omega
 refine⟨?_, ?_, ?_⟩
 ·refine⟨by rw[hflat],.inr ⟨g',capO,cur.setIfInBounds (L0.length*szO+off) (.slice (some ⟨gi,0,none⟩) ((ic a).1+1) cap), ?_,afI _,bz _ _ _ _ _ _ _ hg1, ?_,hcap,by simpa using hcs, ?_⟩⟩
  ·rw[hvv,hlen];simp
  ·simpa using hn
  ·rw[Array.toList_setIfInBounds,List.take_set]
   have hl2:(L0++[(a',Value.slice (some ⟨gi,0,none⟩) ((ic a).1+1) cap)]).length=(L0++[(a,hd)]).length:=by simp
   rw[hl2,htk,aeb,aeb,List.flatMap_singleton,List.flatMap_singleton,List.set_append_right _ _ (by rw[hflat];omega),hflat]
   rw[show L0.length*szO+off - L0.length*szO=off by omega,hoc]
 ·intro q hq
  rcases aeN.1 hq with hq | hq
  ·have hq':=h.inn q (aeN.2 (.inl hq))
   refine cg hq' fun b hb=> ?_
   have hbm:b∈L0.filterMap (·.2.ownBlock):=aeR.2 ⟨q,hq,hb⟩
   rw[aW _ _ _ _ _ (fun e=>hgn (aeN.2 (.inl (by rw[<- e];exact hbm))))]
   exact hgr.block b (dw hq' hb) fun e=>hcross b hbm b (by rw[<- e];simp) rfl
  ·rw[aeY.1 hq,hic]
   refine cg hrow fun b hb=>aW _ _ _ _ _ ?_
   have:gi=b:=Option.some.inj hb
   omega
 ·have e:gI v (L0++[(a',Value.slice (some ⟨gi,0,none⟩) ((ic a).1+1) cap)])=g'::(L0.filterMap (·.2.ownBlock)++[gi]):=by
   unfold gI
   rw[hv,aea]
   rfl
  rw[e,ae1]
  refine⟨fun hm=> ?_, ?_⟩
  ·rcases aeN.1 hm with hm | hm
   ·exact hgn (aeN.2 (.inl hm))
   ·exact hgi (aeY.1 hm).symm
  ·refine ae0.2 ⟨hn0,by simp,fun b hb c hc=> ?_⟩
   rw[aeY.1 hc]
   exact hgin b hb
end
end Go.Dn
namespace Go.Dn
def xV (P:Program) (os:Oper) (Q:Exit->Act->World->Prop):Exit->Act->World->Prop
 | .normal,a,w=>os.wp P a w (Q .normal) Q
 | e,a,w=>Q e a w
def aaW (l:List Oper) (os:Oper):Bool:=
 (l++[os]).all (fun o=>o.guard.isNone)&&eF (l++[os])&&nq (deps (l++[os])) l.length
theorem TU {P:Program} {o os:Oper} {Q:Exit->Act->World->Prop} {K K':Act->World->Prop} {a:Act} {w:World} (h:∀ a w,K a w->K' a w) (hh:o.wp P a w K (xV P os Q)):o.wp P a w K' Q:=by
 unfold Oper.wp at*
 generalize (execOp a.eval o).run P w=r at*
 cases r with
 | ok n w'=>
  cases n<;>simp only[Oper.upon] at hh ⊢ <;>
   first
    | exact h _ _ hh
    | exact Calls.mono hh (fun e w'' he=>by cases e<;>first | exact h _ _ he | exact he)
    | exact Rows.mono hh (fun _ _ he=>h _ _ he)
 | halt x w'=>cases x<;>simp only[Oper.upon] at hh ⊢ <;>exact hh
theorem Ld {o:Oper} (h:o.guard.isNone=true) (y:Nat->Option Bool):Region.wanted o y=true:=by
 unfold Region.wanted
 cases hg:o.guard with
 | none=>rfl
 | some p=>rw[hg] at h;cases h
theorem ZP {P:Program} {l:List Oper} {os:Oper} {Q:Exit->Act->World->Prop} {K K':Act->World->Prop} {a:Act} {w:World} {i:Nat} {o:Oper} (hi:l[i]? =some o) (hg:o.guard.isNone=true) (h:∀ a w,K a w->K' a w) (hh:wpOp P l.toArray (xV P os Q) i K a w):wpOp P (l++[os]).toArray Q i K' a w:=by
 have hlt:=(aen.1 hi).1
 have h2:(l++[os]).toArray[i]? =some o:=by simp[aef,hlt, <- hi]
 have h1:l.toArray[i]? =some o:=by simpa using hi
 unfold wpOp at*
 rw[h2]
 rw[h1] at hh
 simp only[Ld hg,aga] at hh ⊢
 exact hh.imp (TU h) id
section
variable {P:Program} {l:List Oper} {os:Oper} {Q:Exit->Act->World->Prop} {S:World->Prop}
theorem CR (hE:eF (l++[os])=true) {listed:Array Bool} (hsz:listed.size=l.length) (hr:Region.ready .any l.toArray listed=[]):∀ i,i<l.length->listed.getD i true=true:=by
 intro i
 induction i using Nat.strongRecOn with
 | _ i ih=>
  intro hin
  cases hl:listed.getD i true with
  | true=>rfl
  | false=>
   exfalso
   have hoi:l[i]? =some l[i]:=ael hin
   have:i∈Region.ready .any l.toArray listed:=by
    rw[mem_ready]
    refine⟨hl,l[i],by simp,fun e he hb=> ?_⟩
    have hE':=hE
    simp only[eF,adQ] at hE'
    have h7:=hE' i (by simp;omega)
    rw[show (l++[os])[i]? =some l[i] by simp[aef,hin]] at h7
    simp only[adQ] at h7
    have h8:=h7 e (by simpa using he)
    simp only[hb,adv,adq] at h8
    have h9:e.on<i:=aft (afx _) (afo h8)
    have h10:=ih e.on h9 (by omega)
    rw[ac5] at h10 ⊢
    rw[ac6 (by omega)] at h10 ⊢
    simpa using h10
   rw[hr] at this
   cases this
theorem fj {listed:Array Bool} {i:Nat} {b:Bool} (h:i<listed.size):(listed.push false).getD i b=listed.getD i b:=by
 rw[ac5,ac5,Array.getElem?_push,af8 (by omega)]
theorem XR (hG:(l++[os]).all (fun o=>o.guard.isNone)=true) (hE:eF (l++[os])=true) (hW:nq (deps (l++[os])) l.length=true): ∀ (fuel:Nat) (listed:Array Bool) (a:Act) (w:World),listed.size=l.length->ju l listed->wpAnyH P .any l.toArray (xV P os Q) S fuel listed a w-> wpAny P .any (l++[os]).toArray Q (fuel+1) (listed.push false) a w:=by
 have hgo:∀ (i:Nat) (o:Oper),l[i]? =some o->o.guard.isNone=true:=fun i o h=>by
  rw[adQ] at hG
  exact hG o (aeN.2 (.inl (aeU h)))
 have hgs:os.guard.isNone=true:=by
  rw[adQ] at hG
  exact hG os (by simp)
 have hwait:∀ j,j<l.length->j∈(deps (l++[os])).getD l.length m0:=fun j hj=>by
  simp only[nq,adQ] at hW
  exact gD.1 (hW j (by simpa using hj))
 have hlast:(l++[os])[l.length]? =some os:=by simp
 have hrd:∀ (listed:Array Bool),listed.size=l.length->∀ i,i<l.length->i∈Region.ready .any (l++[os]).toArray (listed.push false)->i∈Region.ready .any l.toArray listed:=fun listed hsz i hin h=>by
  rw[mem_ready] at h ⊢
  obtain⟨h1,o,h2,h3⟩:=h
  rw[fj (by omega)] at h1
  have h2':l[i]? =some o:=by
   have:(l++[os])[i]? =some o:=by simpa using h2
   rwa [aeg hin] at this
  refine⟨h1,o,by simpa using h2',fun e he hb=> ?_⟩
  have h4:=h3 e he hb
  have hE':=hE
  simp only[eF,adQ] at hE'
  have h7:=hE' i (by simp;omega)
  rw[show (l++[os])[i]? =some o by simpa using h2] at h7
  simp only[adQ] at h7
  have h8:=h7 e (by simpa using he)
  simp only[hb,adv,adq] at h8
  have h9:e.on<i:=aft (afx _) (afo h8)
  rwa [fj (by omega)] at h4
 have hlr:∀ (listed:Array Bool),listed.size=l.length->ju l listed->l.length∈Region.ready .any (l++[os]).toArray (listed.push false)->∀ j,j<l.length->listed.getD j true=true:=fun listed hsz hcl h j hj=>by
  rw[mem_ready] at h
  obtain⟨_,o,h2,h3⟩:=h
  have h2':(l++[os])[l.length]? =some o:=by simpa using h2
  have hcl':ju (l++[os]) (listed.push false):=fun i oi hi hli e he hb=>by
   by_cases hin:i<l.length
   ·rw[fj (by omega)] at hli
    rw[aeg hin] at hi
    have h5:=hcl i oi hi hli e he hb
    have hlt:e.on<listed.size:=by
     rcases afu e.on listed.size with h | h
     ·exact h
     ·rw[ac5,ac7 h] at h5;cases h5
    rwa [fj hlt]
   ·have hil:i<(l++[os]).length:=(aen.1 hi).1
    have:i=l.length:=by simp at hil;omega
    subst this
    rw[<- hsz,ac5,ac9] at hli
    cases hli
  have h6:=cJ hE hcl' l.length o h2' (fun e he hb=>h3 e (by simpa using he) hb) j (hwait j hj)
  rwa [fj (by omega)] at h6
 have hend:∀ (fuel:Nat) (listed:Array Bool) (a:Act) (w:World),listed.size=l.length->(∀ j,j<l.length->listed.getD j true=true)->xV P os Q .normal a w->wpAny P .any (l++[os]).toArray Q (fuel+1) (listed.push false) a w:=fun fuel listed a w hsz hall h=>by
  have hlt:l.length<(listed.push false).size:=by simp[hsz]
  have hun:(listed.push false).getD l.length true=false:=by
   rw[<- hsz,ac5,ac9];rfl
  have hin:l.length∈Region.ready .any (l++[os]).toArray (listed.push false):=by
   rw[mem_ready]
   refine⟨hun,os,by simp,fun e he hb=> ?_⟩
   have hE':=hE
   simp only[eF,adQ] at hE'
   have h7:=hE' l.length (by simp)
   rw[hlast] at h7
   simp only[adQ] at h7
   have h8:=h7 e (by simpa using he)
   simp only[hb,adv,adq] at h8
   have h9:e.on<l.length:=aft (afx _) (afo h8)
   rw[fj (by omega)]
   have h10:=hall e.on h9
   rw[ac5,ac6 (by omega)] at h10 ⊢
   simpa using h10
  refine⟨fun h0=>(by rw[h0] at hin;cases hin),fun i hi=> ?_⟩
  have hil:i=l.length:=by
   rw[mem_ready] at hi
   obtain⟨h1,o,h2,_⟩:=hi
   have h2':(l++[os])[i]? =some o:=by simpa using h2
   have h3:i<(l++[os]).length:=(aen.1 h2').1
   rcases afu i l.length with h | h
   ·rw[fj (by omega),hall i h] at h1;cases h1
   ·simp at h3;omega
  subst hil
  unfold wpOp
  rw[show (l++[os]).toArray[l.length]? =some os by simp]
  simp only[Ld hgs,aga]
  refine .inl (Oper.wp_mono (fun a' w' hq=> ?_) h)
  refine wpAny_done ?_ hq fuel
  rw[ad7]
  intro j hj
  rw[mem_ready] at hj
  obtain⟨h1,o,h2,_⟩:=hj
  have h2':(l++[os])[j]? =some o:=by simpa using h2
  have h3:j<(l++[os]).length:=(aen.1 h2').1
  by_cases hjl:j=l.length
  ·rw[hjl,bM hlt] at h1;cases h1
  ·rw[aL hjl,fj (by simp at h3;omega),hall j (by simp at h3;omega)] at h1;cases h1
 intro fuel
 induction fuel with
 | zero=>
  intro listed a w hsz hcl h
  exact hend 0 listed a w hsz (CR hE hsz h.1) h.2
 | succ fuel ih=>
  intro listed a w hsz hcl h
  by_cases hr:Region.ready .any l.toArray listed=[]
  ·exact hend (fuel+1) listed a w hsz (CR hE hsz hr) (h.1 hr)
  ·obtain⟨i0,hi0⟩:=List.exists_mem_of_ne_nil _ hr
   have hnl:¬ ∀ j,j<l.length->listed.getD j true=true:=fun hall=>by
    rw[mem_ready] at hi0
    obtain⟨h1,o,h2,_⟩:=hi0
    have h2':l[i0]? =some o:=by simpa using h2
    rw[hall i0 (aen.1 h2').1] at h1;cases h1
   refine⟨fun h0=> ?_,fun i hi=> ?_⟩
   ·exfalso
    rw[mem_ready] at hi0
    obtain⟨h1,o,h2,h3⟩:=hi0
    have h2':l[i0]? =some o:=by simpa using h2
    have hlt:=(aen.1 h2').1
    have:i0∈Region.ready .any (l++[os]).toArray (listed.push false):=by
     rw[mem_ready]
     refine⟨by rw[fj (by omega)];exact h1,o,by simp[aef,hlt, <- h2'],fun e he hb=> ?_⟩
     have h5:=h3 e he hb
     have:e.on<listed.size:=by
      rcases afu e.on listed.size with h | h
      ·exact h
      ·rw[ac5,ac7 h] at h5;cases h5
     rwa [fj this]
    rw[h0] at this;cases this
   ·by_cases hin:i<l.length
    ·have hil:=hrd listed hsz i hin hi
     have hi':=hil
     rw[mem_ready] at hi'
     obtain⟨hun,o,h2,h3⟩:=hi'
     have h2':l[i]? =some o:=by simpa using h2
     refine ZP h2' (hgo i o h2') (fun a' w' hk=> ?_) (h.2 i hil)
     have hpush:(listed.push false).setIfInBounds i true=(listed.setIfInBounds i true).push false:=by
      apply Array.ext_getElem?
      intro j
      rw[Array.getElem?_push,Array.getElem?_setIfInBounds,Array.getElem?_setIfInBounds,Array.getElem?_push]
      simp only[adg,Array.size_setIfInBounds]
      by_cases e1:i=j
      ·subst e1
       rw[af9 rfl,af9 (by omega),af8 (by omega),af9 rfl,af9 (by omega)]
      ·simp[e1]
     rw[hpush]
     refine ih (listed.setIfInBounds i true) a' w' (by simpa using hsz) ?_ hk.2
     intro j oj hj hlj e he hb
     by_cases eji:j=i
     ·subst eji
      rw[h2'] at hj
      cases hj
      have:=h3 e (by simpa using he) hb
      by_cases e2:e.on=j
      ·rw[e2];exact bM (by omega)
      ·rw[aL e2];exact this
     ·rw[aL eji] at hlj
      have:=hcl j oj hj hlj e he hb
      by_cases e2:e.on=i
      ·rw[e2];exact bM (by omega)
      ·rw[aL e2];exact this
    ·exfalso
     have:i=l.length:=by
      rw[mem_ready] at hi
      obtain⟨_,o,h2,_⟩:=hi
      have h2':(l++[os])[i]? =some o:=by simpa using h2
      have h3:i<(l++[os]).length:=(aen.1 h2').1
      simp at h3;omega
     subst this
     exact hnl (hlr listed hsz hcl hi)
end
theorem sQ {P:Program} {id n:Nat} {ll l:List Oper} {os:Oper} {Q:Exit->Act->World->Prop} {S:World->Prop} {a:Act} {w:World} (hm:P.follows .mixedOrders=true) (hl:l=ll.take n) (ho:ll.drop n=[os]) (hn:n=l.length) (hB:aaW l os=true) (hS:S w.drew) (h:S w.drew->wpAnyH P .any l.toArray (xV P os Q) S n (Array.replicate n false) a w.drew):(Code.region id ll.toArray true).wp P Q a w:=by
 simp only[aaW,adj] at hB
 have hll:ll=l++[os]:=by rw[hl, <- ho,afa]
 subst hn
 rw[hll]
 refine wp_region_any hm ?_
 have h0:ju l (Array.replicate l.length false):=fun i o hi hl=>by
  rw[ac5,ada,af9 (aen.1 hi).1] at hl
  cases hl
 have:=XR hB.1.1 hB.1.2 hB.2 l.length (Array.replicate l.length false) a w.drew (by simp) h0 (h hS)
 rw[show (l++[os]).toArray.size=l.length+1 by simp,Array.replicate_succ]
 exact this
theorem Fw {P:Program} {os:Oper} {Q:Exit->Act->World->Prop} {a:Act} {w:World} (h:∀ K:Act->World->Prop,Shut (∀ a w,Q .normal a w->K a w)->os.wp P a w K Q):xV P os Q .normal a w:=
 h _ fun _ _ h=>h
theorem take_at {P:Program} {md:Region.Mode} {l r:List Oper} {Q:Exit->Act->World->Prop} {S:World->Prop} {i:Nat} {oi:Oper} {v:Value} {fuel:Nat} {listed:Array Bool} {a:Act} {w:World} (hd:l.drop i=oi::r) (hs:Region.noSelect l.toArray=true) (hf:Region.free md l.toArray listed i=true) (hr:(Region.ready md l.toArray listed).contains i=true) (hQ:∀ c a w,Q (.panic c) (a.put oi.dst v) w->Q (.panic c) a w) (hy:YieldsIf P l.toArray S oi v a) (hS:S w) (h:wpAnyH P md l.toArray Q S fuel (listed.setIfInBounds i true) (a.put oi.dst v) w):wpAnyH P md l.toArray Q S (fuel+1) listed a w:=
 wpAnyH_take (by have:(l.drop i)[0]? =some oi:=by rw[hd];rfl
                 simpa using this) hs hf hr hQ hy hS h
theorem dI {P:Program} {md:Region.Mode} {l r:List Oper} {Q:Exit->Act->World->Prop} {S:World->Prop} {i:Nat} {o:Oper} {fuel:Nat} {listed:Array Bool} {a:Act} {w:World} (hd:l.drop i=o::r) (hr:Region.ready md l.toArray listed=[i]) (h:∀ K':Act->World->Prop,Shut (∀ a w,S w->(S w->wpAnyH P md l.toArray Q S fuel (listed.setIfInBounds i true) a w)->K' a w)->if Region.wanted o (yielded l.toArray a.tmps)=true then Oper.wp P o a w K' Q else K' (a.put o.dst undef) w): wpAnyH P md l.toArray Q S (fuel+1) listed a w:=
 wpAnyH_ready hr (by simp) (AllReadyH.cons (by have:(l.drop i)[0]? =some o:=by rw[hd];rfl
                                               simpa using this) h AllReadyH.nil)
end Go.Dn
namespace Go.Dn
open Go
theorem tk (i:Nat) {P:Program} {md:Region.Mode} {l r:List Oper} {Q:Exit->Act->World->Prop} {S:World->Prop} {oi:Oper} {v:Value} {fuel:Nat} {listed l':Array Bool} {a a':Act} {w:World}
 (h:wpAnyH P md l.toArray Q S fuel l' a' w) (hd:l.drop i=oi::r:=by rfl) (hs:Region.noSelect l.toArray=true:=by kernel_rfl)
 (hf:Region.free md l.toArray listed i=true:=by kernel_rfl) (hr:(Region.ready md l.toArray listed).contains i=true:=by kernel_rfl)
 (hp:Region.wanted oi (yielded l.toArray a.tmps)=true:=by rfl)
 (hv:∀ w,S w->(execOp a.eval oi).run P w= .ok (.value v) w:=by (intro w hSw;(try dsimp only at hSw);go_simp<;>with_reducible rfl))
 (hQ:∀ c a w,Q (.panic c) (a.put oi.dst v) w->Q (.panic c) a w:=by exact fun _ _ _ h=>h) (hS:S w:=by assumption)
 (ha:a.put oi.dst v=a':=by ((try simp only[Act.put,ae5,ae7,ae6])<;>rfl))
 (hl:listed.setIfInBounds i true=l':=by ((try simp only[ae5,ae7,ae6])<;>rfl)):wpAnyH P md l.toArray Q S (fuel+1) listed a w:=by
 subst ha hl
 exact take_at hd hs hf hr hQ (Or.inl ⟨hp,hv⟩) hS h
end Go.Dn
set_option maxRecDepth 100000
namespace Go.Proofs.SeatU
open Go.Dn Go.Md Go.Proofs Go.RowKit Go.Shelf Go.Lib
structure Lv (G G':Gh) (w w':World):Prop where
 kept:Kept w w'
 le:G.le G'
 agr:Agr G' w'
 old:∀ b,b<w.heap.size->G' b=G b
theorem nr {G:Gh} {w:World} (s:List UInt8) (W:List (List UInt8)) (ok:Bool) (hG:Agr G w) (hT:bZ Tryz.prog G) (hm:iR s=some (W,ok,())): Calls Tryz.prog 33 #[.string (bs s)] w fun e w'=>∃ G' u,e= .returned (.tuple #[u,.bool ok])/\Lv G G' w w'/\bJ G' Ty.str.size (ax G' .str) W u:=by
 refine (Tn G w (fun _=>none) [.string (bs s)] (s,()) (W,ok,()) hG (fun b i h=>by cases h) ⟨_,[],fun _=>rfl,fun h=>Bool.noConfusion h,rfl,rfl⟩ hm hT).mono ?_
 rintro e w' ⟨G',ow',vs,g⟩
 obtain⟨u,us,rfl,⟨u0,e0,hu⟩,u2,us2,rfl,hb,h3,_⟩:=g.out
 cases e0
 have e2:[u2]=[Value.bool ok]:=hb
 have e3:us2=[]:=h3
 cases e2;subst e3
 exact⟨G',u,g.ret,⟨⟨g.size,g.os,g.output,fun b hb=>(g.old b hb rfl).1⟩,g.le,g.agr,fun b hb=>(g.old b hb rfl).2⟩,hu⟩
theorem TM {G:Gh} {w:World} (s t:List UInt8) (hG:Agr G w) (hT:bZ Tryz.prog G) (hm:sC s=some (t,())): Calls Tryz.prog 38 #[.string (bs s)] w fun e w'=>e= .returned (.string (bs t))/\Kept w w':=by
 refine (Ri G w (fun _=>none) [.string (bs s)] (s,()) (t,()) hG (fun b i h=>by cases h) ⟨_,[],fun _=>rfl,fun h=>Bool.noConfusion h,rfl,rfl⟩ hm hT).mono ?_
 rintro e w' ⟨G',ow',vs,g⟩
 obtain⟨u,us,rfl,hu,h3,_⟩:=g.out
 have e1:[u]=[Value.string (bs t)]:=hu
 have e3:us=[]:=h3
 cases e1;subst e3
 exact⟨g.ret,⟨g.size,g.os,g.output,fun b hb=>(g.old b hb rfl).1⟩⟩
structure WAt (G:Gh) (w:World) (bw:Nat) (q:List (List UInt8)×Bool×Unit):Prop where
 box:∃ u T,w.heap[bw]? =some (.cells #[u,.bool q.2.1] T (0,0))/\bJ G Ty.str.size (ax G .str) q.1 u
 gh:G bw=none
structure LvB (bw:Nat) (G G':Gh) (w w':World):Prop where
 size:w.heap.size<=w'.heap.size
 os:w'.os=w.os
 output:w'.output=w.output
 keep:∀ b,b<w.heap.size->b≠bw->w'.heap[b]? =w.heap[b]?
 le:G.le G'
 agr:Agr G' w'
 old:∀ b,b<w.heap.size->b≠bw->G' b=G b
theorem LvB.trans {bw:Nat} {G G1 G2:Gh} {w w1 w2:World} (h:LvB bw G G1 w w1) (k:LvB bw G1 G2 w1 w2):LvB bw G G2 w w2:=
 ⟨afs h.size k.size,k.os.trans h.os,k.output.trans h.output,fun b hb hn=>(k.keep b (aft hb h.size) hn).trans (h.keep b hb hn),
   ⟨fun b o hb=>k.le.1 b o (h.le.1 b o hb),fun a b hb=>k.le.2 a b (h.le.2 a b hb)⟩,k.agr,fun b hb hn=>(k.old b (aft hb h.size) hn).trans (h.old b hb hn)⟩
abbrev WB:List OT:=[.val (.slice .str),.val .bool]
theorem Mz {f:FuncId} {t:Ty} {ps:List PM} {m:dL (.box WB::ps)->Option (cD (.box WB::ps) [.val t])} (h:cM Tryz.prog f ⟨.box WB::ps,[.val t],m⟩) {G:Gh} {w:World} {bw:Nat} {q:List (List UInt8)×Bool×Unit} {xs:dL ps} {args:List Value} {r:t.den} {q':List (List UInt8)×Bool×Unit} {z:dK ps} (hG:Agr G w) (hT:bZ Tryz.prog G) (hW:WAt G w bw q) (ha:∀ ow,gf G w ow 1 ps xs args) (hm:m (q,xs)=some (r,q',z)): Calls Tryz.prog f (.pointer (some ⟨bw,0,none⟩)::args).toArray w fun e w'=>∃ G' v,e= .returned v/\bT G' t r v/\LvB bw G G' w w'/\WAt G' w' bw q':=by
 obtain⟨⟨u,T,hb,hu⟩,hg⟩:=hW
 refine (h G w (fun b=>if b=bw then some 0 else none) (.pointer (some ⟨bw,0,none⟩)::args) (q,xs) (r,q',z) hG (fun b i hi=> ?_) ⟨_,args,fun _=>rfl,fun h=>Bool.noConfusion h,⟨bw,[u,.bool q.2.1],T,rfl,af9 rfl,hb,[u],[.bool q.2.1],rfl,⟨u,rfl,hu⟩,[.bool q.2.1],[],rfl,rfl,rfl⟩,ha _⟩ hm hT).mono ?_
 ·by_cases e:b=bw
  ·subst e;exact⟨hg,aB hb⟩
  ·simp only[af8 e] at hi;cases hi
 ·rintro e w' ⟨G',ow',vs,g⟩
  obtain⟨v,us,rfl,hv,h3,⟨v0,hv0,b',vs',T',hp,ho,hbx,a,c,rfl,⟨u',e1,hu'⟩,a2,c2,rfl,e2,e3⟩,_⟩:=g.out
  subst h3
  have e0:Value.pointer (some ⟨bw,0,none⟩)=v0:=Option.some.inj hv0
  subst e0
  have eb:bw=b':=by
   have:=Option.some.inj (Value.pointer.inj hp)
   exact congrArg Addr.block this
  subst eb
  have e2':a2=[Value.bool q'.2.1]:=e2
  have e3':c2=[]:=e3
  subst e1;subst e2';subst e3'
  exact⟨G',v,g.ret,hv,⟨g.size,g.os,g.output,fun b hb hn=>(g.old b hb (af8 hn)).1,g.le,g.agr,fun b hb hn=>(g.old b hb (af8 hn)).2⟩,⟨_,T',hbx,hu'⟩,(g.own bw _ ho).1⟩
theorem Xe {G:Gh} {w:World} {bw:Nat} {q q':List (List UInt8)×Bool×Unit} {s:List UInt8} (hG:Agr G w) (hT:bZ Tryz.prog G) (hW:WAt G w bw q) (hm:bC q=some (s,q',())): Calls Tryz.prog 34 #[.pointer (some ⟨bw,0,none⟩)] w fun e w'=>e= .returned (.string (bs s))/\∃ G',LvB bw G G' w w'/\WAt G' w' bw q':=by
 refine (Mz IN hG hT hW (xs:=()) (args:=[]) (fun _=>rfl) hm).mono ?_
 rintro e w' ⟨G',v,rfl,hv,h1,h2⟩
 have e1:[v]=[Value.string (bs s)]:=hv
 cases e1
 exact⟨rfl,G',h1,h2⟩
theorem Rg {G:Gh} {w:World} {bw:Nat} {q q':List (List UInt8)×Bool×Unit} {n:Int} (hG:Agr G w) (hT:bZ Tryz.prog G) (hW:WAt G w bw q) (hm:bI q=some (n,q',())): Calls Tryz.prog 35 #[.pointer (some ⟨bw,0,none⟩)] w fun e w'=>e= .returned (.int .i64 n)/\∃ G',LvB bw G G' w w'/\WAt G' w' bw q':=by
 refine (Mz FH hG hT hW (xs:=()) (args:=[]) (fun _=>rfl) hm).mono ?_
 rintro e w' ⟨G',v,rfl,hv,h1,h2⟩
 have e1:[v]=[Value.int .i64 n]:=hv
 cases e1
 exact⟨rfl,G',h1,h2⟩
theorem Q7 {G:Gh} {w:World} {bw:Nat} {q q':List (List UInt8)×Bool×Unit} {d:ah} (hG:Agr G w) (hT:bZ Tryz.prog G) (hW:WAt G w bw q) (hm:bU q=some (d,q',())): Calls Tryz.prog 37 #[.pointer (some ⟨bw,0,none⟩)] w fun e w'=>e= .returned (.agg #[.int .i64 d.1,.int .i64 d.2])/\∃ G',LvB bw G G' w w'/\WAt G' w' bw q':=by
 refine (Mz Et hG hT hW (xs:=()) (args:=[]) (fun _=>rfl) hm).mono ?_
 rintro e w' ⟨G',v,rfl,hv,h1,h2⟩
 obtain⟨cs,rfl,c1,c2,rfl,k1,k2⟩:=hv
 have e1:c1=[Value.int .i64 d.1]:=k1
 have e2:c2=[Value.int .i64 d.2]:=k2
 subst e1;subst e2
 exact⟨rfl,G',h1,h2⟩
theorem WW {G:Gh} {w:World} {bw:Nat} {q q':List (List UInt8)×Bool×Unit} {s:List UInt8} {b:Bool} (hG:Agr G w) (hT:bZ Tryz.prog G) (hW:WAt G w bw q) (hm:dS q s=some (b,q',())): Calls Tryz.prog 36 #[.pointer (some ⟨bw,0,none⟩),.string (bs s)] w fun e w'=>e= .returned (.bool b)/\∃ G',LvB bw G G' w w'/\WAt G' w' bw q':=by
 refine (Mz IM hG hT hW (xs:=(s,())) (args:=[.string (bs s)]) (fun _=>⟨_,[],fun _=>rfl,fun h=>Bool.noConfusion h,rfl,rfl⟩) hm).mono ?_
 rintro e w' ⟨G',v,rfl,hv,h1,h2⟩
 have e1:[v]=[Value.bool b]:=hv
 cases e1
 exact⟨rfl,G',h1,h2⟩
theorem Um {G:Gh} {w:World} {bw:Nat} {q q':List (List UInt8)×Bool×Unit} {b:Bool} (hG:Agr G w) (hT:bZ Tryz.prog G) (hW:WAt G w bw q) (hm:cm q=some (b,q',())): Calls Tryz.prog 39 #[.pointer (some ⟨bw,0,none⟩)] w fun e w'=>e= .returned (.bool b)/\∃ G',LvB bw G G' w w'/\WAt G' w' bw q':=by
 refine (Mz GX hG hT hW (xs:=()) (args:=[]) (fun _=>rfl) hm).mono ?_
 rintro e w' ⟨G',v,rfl,hv,h1,h2⟩
 have e1:[v]=[Value.bool b]:=hv
 cases e1
 exact⟨rfl,G',h1,h2⟩
end Go.Proofs.SeatU
set_option maxRecDepth 100000
namespace Go.Proofs.SeatU
open Go.Dn Go.Md Go.Proofs Go.RowKit Go.Shelf Go.Lib
def BX (r:ak):List Value:=[.string (bs r.1),.int .i64 r.2.1,.int .i64 r.2.2]
def td (x:aj):List Value:=[.bool x.1,.int .i64 x.2.1.1,.int .i64 x.2.1.2,.string (bs x.2.2)]
def wC (l:aa) (h:Value):List Value:=[.int .i64 l.1,.int .i64 l.2.1,.string (bs l.2.2.1),.int .i64 l.2.2.2.1.1,.int .i64 l.2.2.2.1.2,.string (bs l.2.2.2.2.1),.int .i64 l.2.2.2.2.2.1.1,.int .i64 l.2.2.2.2.2.1.2,.int .i64 l.2.2.2.2.2.2.1,h,.string (bs l.2.2.2.2.2.2.2.2)]
def Ta (l:aa):Nat×List Value:=(l.2.2.2.2.2.2.2.1.length,l.2.2.2.2.2.2.2.1.flatMap td)
abbrev aaQ:=nv 50 11 53 4 wC Ta
def bH (vr vl ve:Value) (L:List (aa×Value)):List Nat:=vr.ownBlock.toList++(ve.ownBlock.toList++gI vl L)
structure RV (w:World) (v:ai) (vr vl ve:Value) (L:List (aa×Value)):Prop where
 rat:w.ownsRow 0 56 3 vr v.2.2.2.2.2.2.1.length (v.2.2.2.2.2.2.1.flatMap BX)
 ext:w.ownsRow 0 53 4 ve v.2.2.2.2.2.2.2.2.length (v.2.2.2.2.2.2.2.2.flatMap td)
 nst:aaQ w vl L
 map:L.map (·.1)=v.2.2.2.2.2.2.2.1
 d1:∀ b,vr.ownBlock=some b->ve.ownBlock≠some b/\b∉gI vl L
 d2:∀ b,ve.ownBlock=some b->b∉gI vl L
section
variable {w w':World} {v:ai} {vr vl ve:Value} {L:List (aa×Value)}
theorem bW {b:Nat}:b∈bH vr vl ve L↔vr.ownBlock=some b\/ve.ownBlock=some b\/b∈gI vl L:=by
 unfold bH
 simp[Option.mem_toList]
theorem RV.lt (h:RV w v vr vl ve L):∀ b∈bH vr vl ve L,b<w.heap.size:=by
 intro b hb
 rcases bW.1 hb with hb | hb | hb
 ·exact dw h.rat hb
 ·exact dw h.ext hb
 ·exact h.nst.lt b hb
theorem RV.keep (h:RV w v vr vl ve L) (hk:∀ b∈bH vr vl ve L,w'.heap[b]? =w.heap[b]?):RV w' v vr vl ve L:=
 ⟨cg h.rat fun g hg=>hk g (bW.2 (.inl hg)),cg h.ext fun g hg=>hk g (bW.2 (.inr (.inl hg))),h.nst.keep fun b hb=>hk b (bW.2 (.inr (.inr hb))),h.map,h.d1,h.d2⟩
theorem RV.zero (w:World) (v:ai) (h1:v.2.2.2.2.2.2.1=[]) (h2:v.2.2.2.2.2.2.2.1=[]) (h3:v.2.2.2.2.2.2.2.2=[]):RV w v (.slice none 0 0) (.slice none 0 0) (.slice none 0 0) []:=
 ⟨by rw[h1];exact⟨rfl,.inl ⟨rfl,rfl⟩⟩,by rw[h3];exact⟨rfl,.inl ⟨rfl,rfl⟩⟩,nv.nil _ _ _ _ _ _ _,h2.symm,fun b hb=>(by cases hb),fun b hb=>(by cases hb)⟩
theorem RV.aaz (h:RV w v vr vl ve L) {r:ak} {g cap:Nat} (hrow:w'.ownsRow 0 56 3 (.slice (some ⟨g,0,none⟩) (v.2.2.2.2.2.2.1.length+1) cap) (v.2.2.2.2.2.2.1.length+1) (v.2.2.2.2.2.2.1.flatMap BX++BX r)) (hgr:w.grownBy w' vr.ownBlock) (hg:vr.ownBlock=some g\/w.heap.size<=g): RV w' (xE v r) (.slice (some ⟨g,0,none⟩) (v.2.2.2.2.2.2.1.length+1) cap) vl ve L/\∀ b∈bH (.slice (some ⟨g,0,none⟩) (v.2.2.2.2.2.2.1.length+1) cap) vl ve L,b∈bH vr vl ve L\/w.heap.size<=b:=by
 have hk:∀ b,b<w.heap.size->vr.ownBlock≠some b->w'.heap[b]? =w.heap[b]? :=fun b hb hn=>hgr.block b hb fun e=>hn e.symm
 have hn1:∀ b,ve.ownBlock=some b->vr.ownBlock≠some b:=fun b hb e=>(h.d1 b e).1 hb
 have hn2:∀ b,b∈gI vl L->vr.ownBlock≠some b:=fun b hb e=>(h.d1 b e).2 hb
 have hl1:∀ b,ve.ownBlock=some b->b<w.heap.size:=fun b hb=>dw h.ext hb
 refine⟨⟨?_,cg h.ext fun b hb=>hk b (hl1 b hb) (hn1 b hb),h.nst.keep fun b hb=>hk b (h.nst.lt b hb) (hn2 b hb),h.map,fun b hb=> ?_,h.d2⟩,fun b hb=> ?_⟩
 ·simpa [xE] using hrow
 ·have e:g=b:=Option.some.inj hb
  subst e
  rcases hg with hg | hg
  ·exact h.d1 g hg
  ·exact⟨fun e=>by have:=hl1 g e;omega,fun hm=>by have:=h.nst.lt g hm;omega⟩
 ·rcases bW.1 hb with hb | hb | hb
  ·have e:g=b:=Option.some.inj hb
   subst e
   exact hg.imp (fun hg=>bW.2 (.inl hg)) id
  ·exact .inl (bW.2 (.inr (.inl hb)))
  ·exact .inl (bW.2 (.inr (.inr hb)))
theorem RV.abp (h:RV w v vr vl ve L) {x:aj} {g cap:Nat} (hrow:w'.ownsRow 0 53 4 (.slice (some ⟨g,0,none⟩) (v.2.2.2.2.2.2.2.2.length+1) cap) (v.2.2.2.2.2.2.2.2.length+1) (v.2.2.2.2.2.2.2.2.flatMap td++td x)) (hgr:w.grownBy w' ve.ownBlock) (hg:ve.ownBlock=some g\/w.heap.size<=g): RV w' (Bj v x) vr vl (.slice (some ⟨g,0,none⟩) (v.2.2.2.2.2.2.2.2.length+1) cap) L/\∀ b∈bH vr vl (.slice (some ⟨g,0,none⟩) (v.2.2.2.2.2.2.2.2.length+1) cap) L,b∈bH vr vl ve L\/w.heap.size<=b:=by
 have hk:∀ b,b<w.heap.size->ve.ownBlock≠some b->w'.heap[b]? =w.heap[b]? :=fun b hb hn=>hgr.block b hb fun e=>hn e.symm
 have hn1:∀ b,vr.ownBlock=some b->ve.ownBlock≠some b:=fun b hb=>(h.d1 b hb).1
 have hn2:∀ b,b∈gI vl L->ve.ownBlock≠some b:=fun b hb e=>h.d2 b e hb
 have hl1:∀ b,vr.ownBlock=some b->b<w.heap.size:=fun b hb=>dw h.rat hb
 refine⟨⟨cg h.rat fun b hb=>hk b (hl1 b hb) (hn1 b hb), ?_,h.nst.keep fun b hb=>hk b (h.nst.lt b hb) (hn2 b hb),h.map,fun b hb=>⟨fun e=> ?_,(h.d1 b hb).2⟩,fun b hb=> ?_⟩,fun b hb=> ?_⟩
 ·simpa [Bj] using hrow
 ·have e:g=b:=Option.some.inj e
  subst e
  rcases hg with hg | hg
  ·exact (h.d1 g hb).1 hg
  ·have:=hl1 g hb;omega
 ·have e:g=b:=Option.some.inj hb
  subst e
  rcases hg with hg | hg
  ·exact h.d2 g hg
  ·exact fun hm=>by have:=h.nst.lt g hm;omega
 ·rcases bW.1 hb with hb | hb | hb
  ·exact .inl (bW.2 (.inl hb))
  ·have e:g=b:=Option.some.inj hb
   subst e
   exact hg.imp (fun hg=>bW.2 (.inr (.inl hg))) id
  ·exact .inl (bW.2 (.inr (.inr hb)))
theorem RV.pushLine (h:RV w v vr vl ve L) {l:aa} {g cap:Nat} (hl:l.2.2.2.2.2.2.2.1=[]) (hrow:w'.ownsRow 0 50 11 (.slice (some ⟨g,0,none⟩) (L.length+1) cap) (L.length+1) ((L.flatMap fun q=>wC q.1 q.2)++wC l (.slice none 0 0))) (hgr:w.grownBy w' vl.ownBlock) (hg:vl.ownBlock=some g\/w.heap.size<=g): RV w' (addLine v l) vr (.slice (some ⟨g,0,none⟩) (L.length+1) cap) ve (L++[(l,.slice none 0 0)])/\∀ b∈bH vr (.slice (some ⟨g,0,none⟩) (L.length+1) cap) ve (L++[(l,.slice none 0 0)]),b∈bH vr vl ve L\/w.heap.size<=b:=by
 have hmem:∀ b,vl.ownBlock=some b->b∈gI vl L:=fun b hb=>aeN.2 (.inl (by rw[hb];simp))
 have hk:∀ b,b<w.heap.size->b∉gI vl L->w'.heap[b]? =w.heap[b]? :=fun b hb hn=>hgr.block b hb fun e=>hn (hmem b e.symm)
 have hl1:∀ b,vr.ownBlock=some b->b<w.heap.size:=fun b hb=>dw h.rat hb
 have hl2:∀ b,ve.ownBlock=some b->b<w.heap.size:=fun b hb=>dw h.ext hb
 have hnew:∀ b∈gI (.slice (some ⟨g,0,none⟩) (L.length+1) cap) (L++[(l,Value.slice none 0 0)]),b∈gI vl L\/w.heap.size<=b:=by
  intro b hb
  rcases aeN.1 hb with hb | hb
  ·have e:b=g:=by simpa [Value.ownBlock] using hb
   subst e
   exact hg.imp (hmem b) id
  ·rw[aea] at hb
   rcases aeN.1 hb with hb | hb
   ·exact .inl (aeN.2 (.inr hb))
   ·simp[Value.ownBlock] at hb
 refine⟨⟨cg h.rat fun b hb=>hk b (hl1 b hb) (h.d1 b hb).2,cg h.ext fun b hb=>hk b (hl2 b hb) (h.d2 b hb),h.nst.push (by simp[Ta,hl]) hrow hgr hg, ?_,fun b hb=>⟨(h.d1 b hb).1,fun hm=> ?_⟩,fun b hb hm=> ?_⟩,fun b hb=> ?_⟩
 ·rw[aeI,h.map];rfl
 ·rcases hnew b hm with hm | hm
  ·exact (h.d1 b hb).2 hm
  ·have:=hl1 b hb;omega
 ·rcases hnew b hm with hm | hm
  ·exact h.d2 b hb hm
  ·have:=hl2 b hb;omega
 ·rcases bW.1 hb with hb | hb | hb
  ·exact .inl (bW.2 (.inl hb))
  ·exact .inl (bW.2 (.inr (.inl hb)))
  ·exact (hnew b hb).imp (fun h=>bW.2 (.inr (.inr h))) id
end
theorem zJ (l:List aa) (p:aa) (x:aj):Al (l++[p]) x=l++[(p.1,p.2.1,p.2.2.1,p.2.2.2.1,p.2.2.2.2.1,p.2.2.2.2.2.1,p.2.2.2.2.2.2.1,p.2.2.2.2.2.2.2.1++[x],p.2.2.2.2.2.2.2.2)]:=by
 induction l with
 | nil=>rfl
 | cons y r ih=>
  cases r with
  | nil=>rfl
  | cons z q=>exact congrArg (y:: ·) ih
def JI (p:aa) (x:aj):aa:=(p.1,p.2.1,p.2.2.1,p.2.2.2.1,p.2.2.2.2.1,p.2.2.2.2.2.1,p.2.2.2.2.2.2.1,p.2.2.2.2.2.2.2.1++[x],p.2.2.2.2.2.2.2.2)
theorem LW (p:aa) (h:Value):(wC p h).length=11:=rfl
theorem Qh (L:List (aa×Value)):(L.flatMap fun q=>wC q.1 q.2).length=L.length*11:=by
 induction L with
 | nil=>rfl
 | cons x r ih=>rw[aec,aey,ih,LW,aez];omega
theorem Qg {w:World} {v:Value} {L0:List (aa×Value)} {p:aa} {h:Value} (hN:aaQ w v (L0++[(p,h)])): ∃ g cap,v= .slice (some ⟨g,0,none⟩) (L0.length+1) cap/\L0.length+1<=cap/\(∀ j u,(wC p h)[j]? =some u->w.cell? ⟨g,L0.length*11+j,none⟩=some u)/\∀ o,w.frozen? ⟨g,o,none⟩=false:=by
 have hl:(L0++[(p,h)]).length=L0.length+1:=by simp
 rcases hN.row.2 with ⟨_,e⟩ | ⟨g,cap,cur,hv,_,hg,hn,hc,hs,ht⟩
 ·rw[hl] at e;omega
 refine⟨g,cap,by rw[hv,hl],by rw[hl] at hn;exact hn,fun j u hj=> ?_,fun o=>by simp[World.frozen?,hg]⟩
 have hj5:=(aen.1 hj).1
 rw[LW] at hj5
 have h1:(cur.toList.take ((L0++[(p,h)]).length*11))[L0.length*11+j]? =some u:=by
  rw[ht,aeb,aeh (by rw[Qh];omega),Qh,show L0.length*11+j - L0.length*11=j by omega,List.flatMap_singleton]
  exact hj
 rw[aeu (by rw[hl];omega)] at h1
 simp[World.cell?,hg]
 simpa using h1
theorem RV.aa6 {w w1:World} {v:ai} {vr vl ve:Value} {L0:List (aa×Value)} {p:aa} {hd:Value} (h:RV w v vr vl ve (L0++[(p,hd)])) {x:aj} {go capo g cap:Nat} (hv:vl= .slice (some ⟨go,0,none⟩) (L0.length+1) capo) (hrow:w1.ownsRow 0 53 4 (.slice (some ⟨g,0,none⟩) (p.2.2.2.2.2.2.2.1.length+1) cap) (p.2.2.2.2.2.2.2.1.length+1) (p.2.2.2.2.2.2.2.1.flatMap td++td x)) (hgr:w.grownBy w1 hd.ownBlock) (hg:hd.ownBlock=some g\/g=w.heap.size): RV (w1.setCell ⟨go,L0.length*11+9,none⟩ (.slice (some ⟨g,0,none⟩) (p.2.2.2.2.2.2.2.1.length+1) cap)) (Hh v x) vr vl ve (L0++[(JI p x,.slice (some ⟨g,0,none⟩) (p.2.2.2.2.2.2.2.1.length+1) cap)])/\ ∀ b∈bH vr vl ve (L0++[(JI p x,.slice (some ⟨g,0,none⟩) (p.2.2.2.2.2.2.2.1.length+1) cap)]),b∈bH vr vl ve (L0++[(p,hd)])\/w.heap.size<=b:=by
 have hvo:vl.ownBlock=some go:=by rw[hv];rfl
 have hmem:∀ b,b∈gI vl (L0++[(p,hd)])↔b=go\/b∈L0.filterMap (·.2.ownBlock)\/hd.ownBlock=some b:=by
  intro b
  unfold gI
  rw[hvo,aea]
  cases ho:hd.ownBlock with
  | none=>simp[ho,eq_comm]
  | some c=>simp[ho,eq_comm]
 have hnew:∀ b∈gI vl (L0++[(JI p x,Value.slice (some ⟨g,0,none⟩) (p.2.2.2.2.2.2.2.1.length+1) cap)]),b∈gI vl (L0++[(p,hd)])\/w.heap.size<=b:=by
  intro b hb
  unfold gI at hb
  rw[hvo,aea] at hb
  have hb:b=go\/b∈L0.filterMap (·.2.ownBlock)\/b=g:=by
   rcases aeN.1 hb with hb | hb
   ·exact .inl (by simpa using hb)
   ·rcases aeN.1 hb with hb | hb
    ·exact .inr (.inl hb)
    ·exact .inr (.inr (by simpa [Value.ownBlock] using hb))
  rcases hb with h | h | h
  ·exact .inl ((hmem b).2 (.inl h))
  ·exact .inl ((hmem b).2 (.inr (.inl h)))
  ·subst h
   rcases hg with h | h
   ·exact .inl ((hmem b).2 (.inr (.inr h)))
   ·exact .inr (by omega)
 have hl1:∀ b,vr.ownBlock=some b->b<w.heap.size:=fun b hb=>dw h.rat hb
 have hl2:∀ b,ve.ownBlock=some b->b<w.heap.size:=fun b hb=>dw h.ext hb
 have hk:∀ b,b<w.heap.size->b∉gI vl (L0++[(p,hd)])->(w1.setCell ⟨go,L0.length*11+9,none⟩ (.slice (some ⟨g,0,none⟩) (p.2.2.2.2.2.2.2.1.length+1) cap)).heap[b]? =w.heap[b]? :=fun b hb hn=>by
  rw[aW _ _ _ _ _ (fun e=>hn ((hmem b).2 (.inl e)))]
  exact hgr.block b hb fun e=>hn ((hmem b).2 (.inr (.inr e.symm)))
 refine⟨⟨cg h.rat fun b hb=>hk b (hl1 b hb) (h.d1 b hb).2,cg h.ext fun b hb=>hk b (hl2 b hb) (h.d2 b hb), ?_, ?_,fun b hb=>⟨(h.d1 b hb).1,fun hm=> ?_⟩,fun b hb hm=> ?_⟩,fun b hb=> ?_⟩
 ·exact nv.grow (a:=p) (a':=JI p x) h.nst hvo (news:=td x) hrow hgr hg (by simp[Ta,JI,aeb]) LW (by decide) rfl
 ·have hm:=h.map
  rw[aeI] at hm ⊢
  show _=Al v.2.2.2.2.2.2.2.1 x
  rw[<- hm]
  exact (zJ _ _ _).symm
 ·rcases hnew b hm with hm | hm
  ·exact (h.d1 b hb).2 hm
  ·have:=hl1 b hb;omega
 ·rcases hnew b hm with hm | hm
  ·exact h.d2 b hb hm
  ·have:=hl2 b hb;omega
 ·rcases bW.1 hb with hb | hb | hb
  ·exact .inl (bW.2 (.inl hb))
  ·exact .inl (bW.2 (.inr (.inl hb)))
  ·exact (hnew b hb).imp (fun h=>bW.2 (.inr (.inr h))) id
end Go.Proofs.SeatU
set_option maxRecDepth 100000
namespace Go.Proofs.SeatU
open Go.Dn Go.Md Go.Proofs Go.RowKit Go.Shelf Go.Lib
attribute [local go_sem ↓] Go.wp_at_zero Go.wp_at_succ
theorem YE {w w':World} (h:Kept w w') {a:Addr} {v:Value} (hc:w.cell? a=some v):w'.cell? a=some v:=by
 simp only[World.cell?] at hc ⊢
 cases hb:w.heap[a.block]? with
 | none=>rw[hb] at hc;cases hc
 | some o=>rw[h.block _ (aB hb),hb];rw[hb] at hc;exact hc
theorem o9 {G:Gh} {w:World} {W:List (List UInt8)} {u:Value} (h:bJ G Ty.str.size (ax G .str) W u) (hA:Agr G w) (hne:W≠[]): ∃ b off cap,u= .slice (some ⟨b,off,none⟩) W.length cap/\W.length<=cap/\cap<=maxLen/\(∃ o,G b=some o)/\∀ i x,W[i]? =some x->w.cell? ⟨b,off+i,none⟩=some (.string (bs x)):=by
 obtain⟨a,cap,rfl,hcap,qJ,hrow⟩:=h
 rcases hrow with hr | ⟨b,off,c,T,fz,rfl,hg,hin,hrep⟩
 ·exact absurd hr hne
 refine⟨b,off,cap,rfl,hcap,qJ,⟨_,hg⟩,fun i x hi=> ?_⟩
 have hs:=yh hrep
 have hi2:=(congrArg (fun l:List Value=>l[i]?) hs).trans (show (W.map fun s=>Value.string (bs s))[i]? =some (.string (bs x)) by rw[aeo,hi];rfl)
 have hlt:=(aen.1 hi).1
 have e1:Ty.str.size=1:=rfl
 have hlt2:i<W.length*Ty.str.size:=by rw[e1,afC];exact hlt
 have hi2:=hi2
 erw [aeu hlt2,aek] at hi2
 simp[World.cell?,hA b _ hg]
 simpa using hi2
structure RI (w:World) (bx:Nat) (v:ai) (k:Int) (vr vl ve:Value) (L:List (aa×Value)):Prop where
 box:w.heap[bx]? =some (.cells #[.string (bs v.1),.string (bs v.2.1),.int .i64 v.2.2.1,.int .i64 v.2.2.2.1,.int .i64 v.2.2.2.2.1,.bool v.2.2.2.2.2.1,vr,vl,ve,.int .i64 k] 41 (0,0))
 rows:RV w v vr vl ve L
 out:bx∉bH vr vl ve L
theorem bO {w:World} {b:Nat} {a0 a1 a2 a3 a4 a5 a6 a7 a8 a9:Value} {T:TypeId} (h:w.heap[b]? =some (.cells #[a0,a1,a2,a3,a4,a5,a6,a7,a8,a9] T (0,0))): (w.cell? ⟨b,0,none⟩=some a0/\w.cell? ⟨b,1,none⟩=some a1/\w.cell? ⟨b,2,none⟩=some a2/\w.cell? ⟨b,3,none⟩=some a3/\w.cell? ⟨b,4,none⟩=some a4/\w.cell? ⟨b,5,none⟩=some a5/\w.cell? ⟨b,6,none⟩=some a6/\w.cell? ⟨b,7,none⟩=some a7/\w.cell? ⟨b,8,none⟩=some a8/\w.cell? ⟨b,9,none⟩=some a9)/\∀ o,w.frozen? ⟨b,o,none⟩=false:=by
 refine⟨⟨?_, ?_, ?_, ?_, ?_, ?_, ?_, ?_, ?_, ?_⟩,fun o=>by simp[World.frozen?,h]⟩<;>simp[World.cell?,h]
theorem bA (w:World) (o:Obj):(w.alloc o).heap[w.heap.size]? =some o/\Kept w (w.alloc o):=by
 refine⟨heap_alloc_new w o, ?_,rfl,rfl,fun k hk=>heap_alloc_old _ _ hk⟩
 show _<=(w.heap.push _).size
 rw[adg];omega
theorem bf {w:World} {o:Obj} {a:Addr} {u:Value} (h:w.cell? a=some u):(w.alloc o).cell? a=some u:=by
 simp only[World.cell?] at h ⊢
 cases hb:w.heap[a.block]? with
 | none=>rw[hb] at h;cases h
 | some o'=>rw[heap_alloc_old _ _ (aB hb),hb];rw[hb] at h;exact h
theorem abB (G:Gh) (w:World) (bx:Nat) (s:List UInt8) (W:List (List UInt8)) (hG:Agr G w) (hT:bZ Tryz.prog G) (hm:iR s=some (W,false,())): Calls Tryz.prog 12 #[.pointer (some ⟨bx,0,none⟩),.string (bs s)] w fun e w'=>e= .returned (.bool false)/\Kept w w':=by
 have e33:∀ args w,(callFunc 33 args).run Tryz.prog w= .ok (.enter 33 args) w:=enters_of Tryz.func33 (by kernel_rfl) rfl
 have mixed:Tryz.prog.follows .mixedOrders=true:=by kernel_rfl
 have late:Tryz.prog.follows .lateStores=true:=by kernel_rfl
 have t3:=Tryz.underlying3;have t4:=Tryz.underlying4;have t9:=Tryz.underlying9;have t36:=Tryz.underlying36
 have hw:=nr s _ _ hG hT hm
 go_enter Tryz.func12,Tryz.ntmps12
 go_wp2_with (go_at_fn 33;refine hw.mono ?_;rintro e w2 ⟨G2,u,rfl,hlv,hu⟩)
 go_ret
 exact⟨rfl,hlv.kept⟩
set_option maxHeartbeats 4000000 in
theorem aaD (G:Gh) (w:World) (bx:Nat) (s:List UInt8) (w0:List UInt8) (r:List (List UInt8)) (k:Int) (hG:Agr G w) (hT:bZ Tryz.prog G) (hm:iR s=some (w0::r,true,())) (cb:w.cell? ⟨bx,9,none⟩=some (.int .i64 k)) (ei er el ee ea k0 k1 k2:Bool) (hi:((bs w0).toList==[105,110,118,111,105,99,101])=ei) (hr:((bs w0).toList==[114,97,116,101])=er) (hl:((bs w0).toList==[108,105,110,101])=el) (he:((bs w0).toList==[101,120,116,114,97])=ee) (ha:((bs w0).toList==[97,108,108])=ea) (h0:(k==0)=k0) (h1:(k==1)=k1) (h2:(k==2)=k2) (hno:(ei=false/\er=false/\el=false/\ee=false/\ea=false)\/(ei=true/\er=false/\el=false/\ee=false/\ea=false/\k0=false)\/(ei=false/\er=true/\el=false/\ee=false/\ea=false/\k1=false)\/(ei=false/\er=false/\el=true/\ee=false/\ea=false/\k1=false/\k2=false)\/(ei=false/\er=false/\el=false/\ee=true/\ea=false/\k2=false)\/(ei=false/\er=false/\el=false/\ee=false/\ea=true/\k0=true)): Calls Tryz.prog 12 #[.pointer (some ⟨bx,0,none⟩),.string (bs s)] w fun e w'=>e= .returned (.bool false)/\Kept w w':=by
 have e33:∀ args w,(callFunc 33 args).run Tryz.prog w= .ok (.enter 33 args) w:=enters_of Tryz.func33 (by kernel_rfl) rfl
 have mixed:Tryz.prog.follows .mixedOrders=true:=by kernel_rfl
 have late:Tryz.prog.follows .lateStores=true:=by kernel_rfl
 have t3:=Tryz.underlying3;have t4:=Tryz.underlying4;have t9:=Tryz.underlying9;have t36:=Tryz.underlying36;have t41:=Tryz.underlying41;have t91:=Tryz.underlying91;have t26:=Tryz.underlying26;have a91:=Tryz.isAgg91;have z91:=Tryz.sizeOf91;have v91:=Tryz.zeroValue91
 have hw:=nr s _ _ hG hT hm
 go_enter Tryz.func12,Tryz.ntmps12
 rcases hno with ⟨rfl,rfl,rfl,rfl,rfl⟩ | ⟨rfl,rfl,rfl,rfl,rfl,rfl⟩ | ⟨rfl,rfl,rfl,rfl,rfl,rfl⟩ | ⟨rfl,rfl,rfl,rfl,rfl,rfl,rfl⟩ | ⟨rfl,rfl,rfl,rfl,rfl,rfl⟩ | ⟨rfl,rfl,rfl,rfl,rfl,rfl⟩
 all_goals go_wp2_with (go_at_fn 33;refine hw.mono ?_;rintro e w2 ⟨G2,u,rfl,hlv,hu⟩;obtain⟨b,off,cap,rfl,hcap,qJ,hfz,hcell⟩:=o9 hu hlv.agr (adW _ _);have c0:w2.cell? ⟨b,off,none⟩=some (.string (bs w0)):=hcell 0 w0 rfl;have cb2:=YE hlv.kept cb;have c0':=fun o=>bf (o:=o) c0;have cb2':=fun o=>bf (o:=o) cb2;clear hcell)
 all_goals go_ret
 all_goals exact⟨rfl,hlv.kept.trans (bA _ _).2⟩
end Go.Proofs.SeatU
