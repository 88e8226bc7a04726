/-
  Rows whose elements have rows; reader.line by a walk, first part. No condition.
-/
import Derived.Test.YtjlkkapojeldlabGreatDoorYa
import Derived.Laws.AppendOwn
import Derived.Deep.AppendLies
import Derived.Test.YtjlkkapojeldlabGreatDoorYe
import Derived.Deep.RegionHeld3
import Derived.WalkKit
import Derived.OwnWalk
import Derived.Test.YtjlkkapojeldlabGreatDoorYj
import Derived.Test.YtjlkkapojeldlabGreatDoorYt
import Derived.Deep.LoopGhost
import Derived.Deep.DrawnRows
set_option linter.all false
namespace Go.Dn
theorem bV {w w':World} {base:Nat} {e:TypeId} {sz:Nat} {v:Value} {n:Nat} {xs:List Value} (h:w.ownsRow base e sz v n xs) (hk:∀ g,v.ownBlock=some g->w'.heap[g]? =w.heap[g]?):w'.ownsRow base e sz v n xs:=by
 refine⟨h.1, ?_⟩
 rcases h.2 with hn | ⟨g,cap,cur,hv,hb,hg,rest⟩
 ·exact .inl hn
 ·exact .inr ⟨g,cap,cur,hv,hb,(hk g (by rw[hv];rfl)).trans hg,rest⟩
theorem bT {w:World} {base:Nat} {e:TypeId} {sz:Nat} {v:Value} {n:Nat} {xs:List Value} (h:w.ownsRow base e sz v n xs) {g:Nat} (hg:v.ownBlock=some g):g<w.heap.size:=by
 rcases h.2 with ⟨hn,_⟩ | ⟨g',cap,cur,hv,hb,hg',rest⟩
 ·rw[hn] at hg;cases hg
 ·rw[hv] at hg
  have e:g'=g:=Option.some.inj hg
  subst e
  exact (YO.1 hg').1
def fy {α:Type} (v:Value) (L:List (α×Value)):List Nat:=v.ownBlock.toList++L.filterMap (·.2.ownBlock)
structure nh {α:Type} (eO szO eI szI:Nat) (oc:α->Value->List Value) (ic:α->Nat×List Value) (w:World) (v:Value) (L:List (α×Value)):Prop where
 row:w.ownsRow 0 eO szO v L.length (L.flatMap fun q=>oc q.1 q.2)
 inn:∀ q∈L,w.ownsRow 0 eI szI q.2 (ic q.1).1 (ic q.1).2
 dis:(fy v L).Nodup
section
variable {α:Type} {eO szO eI szI:Nat} {oc:α->Value->List Value} {ic:α->Nat×List Value} {w w':World} {v:Value} {L:List (α×Value)}
theorem nh.lt (h:nh eO szO eI szI oc ic w v L):∀ b∈fy v L,b<w.heap.size:=by
 intro b hb
 rcases aav.1 hb with hb | hb
 ·exact bT h.row (by simpa [Option.mem_toList] using hb)
 ·obtain⟨q,hq,hqb⟩:=aaz.1 hb
  exact bT (h.inn q hq) hqb
theorem nh.keep (h:nh eO szO eI szI oc ic w v L) (hk:∀ b∈fy v L,w'.heap[b]? =w.heap[b]?):nh eO szO eI szI oc ic w' v L where
 row:=bV h.row fun g hg=>hk g (aav.2 (.inl (by rw[hg];simp)))
 inn:=fun q hq=>bV (h.inn q hq) fun g hg=>hk g (aav.2 (.inr (aaz.2 ⟨q,hq,hg⟩)))
 dis:=h.dis
theorem nh.nil (eO szO eI szI:Nat) (oc:α->Value->List Value) (ic:α->Nat×List Value) (w:World):nh eO szO eI szI oc ic w (.slice none 0 0) [] where
 row:=⟨by simp,.inl ⟨rfl,rfl⟩⟩
 inn:=fun q hq=>by cases hq
 dis:=by simp[fy,Value.ownBlock]
theorem nh.push (h:nh eO szO eI szI oc ic w v L) {a:α} {g cap:Nat} (hic:ic a=(0,[])) (hrow:w'.ownsRow 0 eO szO (.slice (some ⟨g,0,none⟩) (L.length+1) cap) (L.length+1) ((L.flatMap fun q=>oc q.1 q.2)++oc a (.slice none 0 0))) (hgr:w.grownBy w' v.ownBlock) (hg:v.ownBlock=some g\/w.heap.size<=g):nh eO szO eI szI oc ic w' (.slice (some ⟨g,0,none⟩) (L.length+1) cap) (L++[(a,.slice none 0 0)]):=by
 have hd:=aaG.1 h.dis
 refine⟨?_, ?_, ?_⟩
 ·simpa using hrow
 ·intro q hq
  rcases aav.1 hq with hq | hq
  ·refine bV (h.inn q hq) fun b hb=>hgr.block b (bT (h.inn q hq) hb) fun e=> ?_
   exact hd.2.2 b (by rw[<- e];simp) b (aaz.2 ⟨q,hq,hb⟩) rfl
  ·rw[aaF.1 hq,hic]
   exact⟨by simp,.inl ⟨rfl,rfl⟩⟩
 ·have e:fy (Value.slice (some ⟨g,0,none⟩) (L.length+1) cap) (L++[(a,Value.slice none 0 0)])=g::L.filterMap (·.2.ownBlock):=by
   simp[fy,Value.ownBlock,ZR]
  rw[e,aaH]
  refine⟨fun hm=> ?_,hd.2.1⟩
  rcases hg with hg | hg
  ·exact hd.2.2 g (by rw[hg];simp) g hm rfl
  ·have:=h.lt g (aav.2 (.inr hm));omega
theorem aN (W:World) (b k:Nat) (arr:Array Value) (T:TypeId) (fz:Nat×Nat) (v:Value) (h:W.heap[b]? =some (.cells arr T fz)):(W.setCell ⟨b,k,none⟩ v).heap[b]? =some (.cells (arr.setIfInBounds k v) T fz):=by
 simp[World.setCell,Array.getElem?_modify,h]
theorem aB (W:World) (b k b':Nat) (v:Value) (h:b'≠b):(W.setCell ⟨b,k,none⟩ v).heap[b']? =W.heap[b']? :=by
 simp only[World.setCell,Array.getElem?_modify]
 rw[abX (fun e=>h e.symm)]
theorem aO (W:World) (b k:Nat) (v:Value):(W.setCell ⟨b,k,none⟩ v).heap.size=W.heap.size:=by
 simp[World.setCell]
theorem nh.grow {w1:World} {L0:List (α×Value)} {a a':α} {hd:Value} (h:nh eO szO eI szI oc ic w v (L0++[(a,hd)])) {g gi cap off:Nat} (hv:v.ownBlock=some g) {news:List Value} (hrow:w1.ownsRow 0 eI szI (.slice (some ⟨gi,0,none⟩) ((ic a).1+1) cap) ((ic a).1+1) ((ic a).2++news)) (hgr:w.grownBy w1 hd.ownBlock) (hg:hd.ownBlock=some gi\/gi=w.heap.size) (hic:ic a'=((ic a).1+1,(ic a).2++news)) (hsz:∀ x u,(oc x u).length=szO) (hoff:off<szO) (hoc:oc a' (.slice (some ⟨gi,0,none⟩) ((ic a).1+1) cap)=(oc a hd).set off (.slice (some ⟨gi,0,none⟩) ((ic a).1+1) cap)): nh eO szO eI szI oc ic (w1.setCell ⟨g,L0.length*szO+off,none⟩ (.slice (some ⟨gi,0,none⟩) ((ic a).1+1) cap)) v (L0++[(a',.slice (some ⟨gi,0,none⟩) ((ic a).1+1) cap)]):=by
 have hdis:(g::(L0.filterMap (·.2.ownBlock)++hd.ownBlock.toList)).Nodup:=by
  have:=h.dis
  unfold fy at this
  rw[hv,ZR] at this
  cases ho:hd.ownBlock with
  | none=>simpa [ho] using this
  | some b=>simpa [ho] using this
 obtain⟨hgn,hdis2⟩:=aaH.1 hdis
 obtain⟨hn0,_,hcross⟩:=aaG.1 hdis2
 have hglt:g<w.heap.size:=bT h.row hv
 have hgi:gi≠g:=by
  rcases hg with hg | hg
  ·intro e;subst e;exact hgn (aav.2 (.inr (by rw[hg];simp)))
  ·omega
 have hgin:∀ b∈L0.filterMap (·.2.ownBlock),b≠gi:=by
  intro b hb e
  subst e
  rcases hg with hg | hg
  ·exact hcross b hb b (by rw[hg];simp) rfl
  ·have:=h.lt b (by unfold fy;rw[ZR];exact aav.2 (.inr (aav.2 (.inl hb))));omega
 have hgh:some g≠hd.ownBlock:=fun e=>hgn (aav.2 (.inr (by rw[<- e];simp)))
 obtain⟨g',capO,cur,hvv,_,hgw,hn,hcap,hcs,htk⟩:∃ g' cap cur,v= .slice (some ⟨g',0,none⟩) (L0++[(a,hd)]).length cap/\0<=g'/\w.heap[g']? =some (.cells cur eO (0,0))/\(L0++[(a,hd)]).length<=cap/\cap<=maxLen/\cur.size=cap*szO/\cur.toList.take ((L0++[(a,hd)]).length*szO)=(L0++[(a,hd)]).flatMap fun q=>oc q.1 q.2:=by
  rcases h.row.2 with ⟨e,_⟩ | e
  ·rw[e] at hv;cases hv
  ·exact e
 have e:g'=g:=by rw[hvv] at hv;exact Option.some.inj hv
 subst e
 have hlen:(L0++[(a,hd)]).length=L0.length+1:=by simp
 have hg1:w1.heap[g']? =some (.cells cur eO (0,0)):=(hgr.block g' hglt hgh).trans hgw
 have hflat:∀ (M:List (α×Value)),(M.flatMap fun q=>oc q.1 q.2).length=M.length*szO:=by
  intro M
  induction M with
  | nil=>simp
  | cons x r ih=>simp only[ZT,aak,ih,hsz,aal];rw[Nat.succ_mul];omega
 refine⟨?_, ?_, ?_⟩
 ·refine⟨by rw[hflat],.inr ⟨g',capO,cur.setIfInBounds (L0.length*szO+off) (.slice (some ⟨gi,0,none⟩) ((ic a).1+1) cap), ?_,abw _,aN _ _ _ _ _ _ _ hg1, ?_,hcap,by simpa using hcs, ?_⟩⟩
  ·rw[hvv,hlen];simp
  ·simpa using hn
  ·rw[Array.toList_setIfInBounds,List.take_set]
   have hl2:(L0++[(a',Value.slice (some ⟨gi,0,none⟩) ((ic a).1+1) cap)]).length=(L0++[(a,hd)]).length:=by simp
   rw[hl2,htk,ZS,ZS,List.flatMap_singleton,List.flatMap_singleton,List.set_append_right _ _ (by rw[hflat];omega),hflat]
   rw[show L0.length*szO+off - L0.length*szO=off by omega,hoc]
 ·intro q hq
  rcases aav.1 hq with hq | hq
  ·have hq':=h.inn q (aav.2 (.inl hq))
   refine bV hq' fun b hb=> ?_
   have hbm:b∈L0.filterMap (·.2.ownBlock):=aaz.2 ⟨q,hq,hb⟩
   rw[aB _ _ _ _ _ (fun e=>hgn (aav.2 (.inl (by rw[<- e];exact hbm))))]
   exact hgr.block b (bT hq' hb) fun e=>hcross b hbm b (by rw[<- e];simp) rfl
  ·rw[aaF.1 hq,hic]
   refine bV hrow fun b hb=>aB _ _ _ _ _ ?_
   have:gi=b:=Option.some.inj hb
   omega
 ·have e:fy v (L0++[(a',Value.slice (some ⟨gi,0,none⟩) ((ic a).1+1) cap)])=g'::(L0.filterMap (·.2.ownBlock)++[gi]):=by
   unfold fy
   rw[hv,ZR]
   rfl
  rw[e,aaH]
  refine⟨fun hm=> ?_, ?_⟩
  ·rcases aav.1 hm with hm | hm
   ·exact hgn (aav.2 (.inl hm))
   ·exact hgi (aaF.1 hm).symm
  ·refine aaG.2 ⟨hn0,by simp,fun b hb c hc=> ?_⟩
   rw[aaF.1 hc]
   exact hgin b hb
end
end Go.Dn
namespace Go.Dn
def wL (P:Program) (os:Oper) (Q:Exit->Act->World->Prop):Exit->Act->World->Prop
 | .normal,a,w=>os.wp P a w (Q .normal) Q
 | e,a,w=>Q e a w
def WH (l:List Oper) (os:Oper):Bool:=
 (l++[os]).all (fun o=>o.guard.isNone)&&eC (l++[os])&&mW (deps (l++[os])) l.length
theorem QC {P:Program} {o os:Oper} {Q:Exit->Act->World->Prop} {K K':Act->World->Prop} {a:Act} {w:World} (h:∀ a w,K a w->K' a w) (hh:o.wp P a w K (wL P os Q)):o.wp P a w K' Q:=by
 unfold Oper.wp at*
 generalize (execOp a.eval o).run P w=r at*
 cases r with
 | ok n w'=>
  cases n<;>simp only[Oper.upon] at hh ⊢ <;>
   first
    | exact h _ _ hh
    | exact Calls.mono hh (fun e w'' he=>by cases e<;>first | exact h _ _ he | exact he)
    | exact Rows.mono hh (fun _ _ he=>h _ _ he)
 | halt x w'=>cases x<;>simp only[Oper.upon] at hh ⊢ <;>exact hh
theorem IW {o:Oper} (h:o.guard.isNone=true) (y:Nat->Option Bool):Region.wanted o y=true:=by
 unfold Region.wanted
 cases hg:o.guard with
 | none=>rfl
 | some p=>rw[hg] at h;cases h
theorem VE {P:Program} {l:List Oper} {os:Oper} {Q:Exit->Act->World->Prop} {K K':Act->World->Prop} {a:Act} {w:World} {i:Nat} {o:Oper} (hi:l[i]? =some o) (hg:o.guard.isNone=true) (h:∀ a w,K a w->K' a w) (hh:wpOp P l.toArray (wL P os Q) i K a w):wpOp P (l++[os]).toArray Q i K' a w:=by
 have hlt:=(Z9.1 hi).1
 have h2:(l++[os]).toArray[i]? =some o:=by simp[ZW,hlt, <- hi]
 have h1:l.toArray[i]? =some o:=by simpa using hi
 unfold wpOp at*
 rw[h2]
 rw[h1] at hh
 simp only[IW hg,abZ] at hh ⊢
 exact hh.imp (QC h) id
section
variable {P:Program} {l:List Oper} {os:Oper} {Q:Exit->Act->World->Prop} {S:World->Prop}
theorem Bn (hE:eC (l++[os])=true) {listed:Array Bool} (hsz:listed.size=l.length) (hr:Region.ready .any l.toArray listed=[]):∀ i,i<l.length->listed.getD i true=true:=by
 intro i
 induction i using Nat.strongRecOn with
 | _ i ih=>
  intro hin
  cases hl:listed.getD i true with
  | true=>rfl
  | false=>
   exfalso
   have hoi:l[i]? =some l[i]:=Z7 hin
   have:i∈Region.ready .any l.toArray listed:=by
    rw[mem_ready]
    refine⟨hl,l[i],by simp,fun e he hb=> ?_⟩
    have hE':=hE
    simp only[eC,Zz] at hE'
    have h7:=hE' i (by simp;omega)
    rw[show (l++[os])[i]? =some l[i] by simp[ZW,hin]] at h7
    simp only[Zz] at h7
    have h8:=h7 e (by simpa using he)
    simp only[hb,Ze,Y9] at h8
    have h9:e.on<i:=abh (abl _) (aba h8)
    have h10:=ih e.on h9 (by omega)
    rw[YL] at h10 ⊢
    rw[YM (by omega)] at h10 ⊢
    simpa using h10
   rw[hr] at this
   cases this
theorem eZ {listed:Array Bool} {i:Nat} {b:Bool} (h:i<listed.size):(listed.push false).getD i b=listed.getD i b:=by
 rw[YL,YL,Array.getElem?_push,abX (by omega)]
theorem Ub (hG:(l++[os]).all (fun o=>o.guard.isNone)=true) (hE:eC (l++[os])=true) (hW:mW (deps (l++[os])) l.length=true): ∀ (fuel:Nat) (listed:Array Bool) (a:Act) (w:World),listed.size=l.length->jC l listed->wpAnyH P .any l.toArray (wL P os Q) S fuel listed a w-> wpAny P .any (l++[os]).toArray Q (fuel+1) (listed.push false) a w:=by
 have hgo:∀ (i:Nat) (o:Oper),l[i]? =some o->o.guard.isNone=true:=fun i o h=>by
  rw[Zz] at hG
  exact hG o (aav.2 (.inl (aaC h)))
 have hgs:os.guard.isNone=true:=by
  rw[Zz] at hG
  exact hG os (by simp)
 have hwait:∀ j,j<l.length->j∈(deps (l++[os])).getD l.length m0:=fun j hj=>by
  simp only[mW,Zz] at hW
  exact gz.1 (hW j (by simpa using hj))
 have hlast:(l++[os])[l.length]? =some os:=by simp
 have hrd:∀ (listed:Array Bool),listed.size=l.length->∀ i,i<l.length->i∈Region.ready .any (l++[os]).toArray (listed.push false)->i∈Region.ready .any l.toArray listed:=fun listed hsz i hin h=>by
  rw[mem_ready] at h ⊢
  obtain⟨h1,o,h2,h3⟩:=h
  rw[eZ (by omega)] at h1
  have h2':l[i]? =some o:=by
   have:(l++[os])[i]? =some o:=by simpa using h2
   rwa [ZX hin] at this
  refine⟨h1,o,by simpa using h2',fun e he hb=> ?_⟩
  have h4:=h3 e he hb
  have hE':=hE
  simp only[eC,Zz] at hE'
  have h7:=hE' i (by simp;omega)
  rw[show (l++[os])[i]? =some o by simpa using h2] at h7
  simp only[Zz] at h7
  have h8:=h7 e (by simpa using he)
  simp only[hb,Ze,Y9] at h8
  have h9:e.on<i:=abh (abl _) (aba h8)
  rwa [eZ (by omega)] at h4
 have hlr:∀ (listed:Array Bool),listed.size=l.length->jC l listed->l.length∈Region.ready .any (l++[os]).toArray (listed.push false)->∀ j,j<l.length->listed.getD j true=true:=fun listed hsz hcl h j hj=>by
  rw[mem_ready] at h
  obtain⟨_,o,h2,h3⟩:=h
  have h2':(l++[os])[l.length]? =some o:=by simpa using h2
  have hcl':jC (l++[os]) (listed.push false):=fun i oi hi hli e he hb=>by
   by_cases hin:i<l.length
   ·rw[eZ (by omega)] at hli
    rw[ZX hin] at hi
    have h5:=hcl i oi hi hli e he hb
    have hlt:e.on<listed.size:=by
     rcases abi e.on listed.size with h | h
     ·exact h
     ·rw[YL,YN h] at h5;cases h5
    rwa [eZ hlt]
   ·have hil:i<(l++[os]).length:=(Z9.1 hi).1
    have:i=l.length:=by simp at hil;omega
    subst this
    rw[<- hsz,YL,YP] at hli
    cases hli
  have h6:=cJ hE hcl' l.length o h2' (fun e he hb=>h3 e (by simpa using he) hb) j (hwait j hj)
  rwa [eZ (by omega)] at h6
 have hend:∀ (fuel:Nat) (listed:Array Bool) (a:Act) (w:World),listed.size=l.length->(∀ j,j<l.length->listed.getD j true=true)->wL P os Q .normal a w->wpAny P .any (l++[os]).toArray Q (fuel+1) (listed.push false) a w:=fun fuel listed a w hsz hall h=>by
  have hlt:l.length<(listed.push false).size:=by simp[hsz]
  have hun:(listed.push false).getD l.length true=false:=by
   rw[<- hsz,YL,YP];rfl
  have hin:l.length∈Region.ready .any (l++[os]).toArray (listed.push false):=by
   rw[mem_ready]
   refine⟨hun,os,by simp,fun e he hb=> ?_⟩
   have hE':=hE
   simp only[eC,Zz] at hE'
   have h7:=hE' l.length (by simp)
   rw[hlast] at h7
   simp only[Zz] at h7
   have h8:=h7 e (by simpa using he)
   simp only[hb,Ze,Y9] at h8
   have h9:e.on<l.length:=abh (abl _) (aba h8)
   rw[eZ (by omega)]
   have h10:=hall e.on h9
   rw[YL,YM (by omega)] at h10 ⊢
   simpa using h10
  refine⟨fun h0=>(by rw[h0] at hin;cases hin),fun i hi=> ?_⟩
  have hil:i=l.length:=by
   rw[mem_ready] at hi
   obtain⟨h1,o,h2,_⟩:=hi
   have h2':(l++[os])[i]? =some o:=by simpa using h2
   have h3:i<(l++[os]).length:=(Z9.1 h2').1
   rcases abi i l.length with h | h
   ·rw[eZ (by omega),hall i h] at h1;cases h1
   ·simp at h3;omega
  subst hil
  unfold wpOp
  rw[show (l++[os]).toArray[l.length]? =some os by simp]
  simp only[IW hgs,abZ]
  refine .inl (Oper.wp_mono (fun a' w' hq=> ?_) h)
  refine wpAny_done ?_ hq fuel
  rw[ZO]
  intro j hj
  rw[mem_ready] at hj
  obtain⟨h1,o,h2,_⟩:=hj
  have h2':(l++[os])[j]? =some o:=by simpa using h2
  have h3:j<(l++[os]).length:=(Z9.1 h2').1
  by_cases hjl:j=l.length
  ·rw[hjl,bM hlt] at h1;cases h1
  ·rw[aL hjl,eZ (by simp at h3;omega),hall j (by simp at h3;omega)] at h1;cases h1
 intro fuel
 induction fuel with
 | zero=>
  intro listed a w hsz hcl h
  exact hend 0 listed a w hsz (Bn hE hsz h.1) h.2
 | succ fuel ih=>
  intro listed a w hsz hcl h
  by_cases hr:Region.ready .any l.toArray listed=[]
  ·exact hend (fuel+1) listed a w hsz (Bn hE hsz hr) (h.1 hr)
  ·obtain⟨i0,hi0⟩:=List.exists_mem_of_ne_nil _ hr
   have hnl:¬ ∀ j,j<l.length->listed.getD j true=true:=fun hall=>by
    rw[mem_ready] at hi0
    obtain⟨h1,o,h2,_⟩:=hi0
    have h2':l[i0]? =some o:=by simpa using h2
    rw[hall i0 (Z9.1 h2').1] at h1;cases h1
   refine⟨fun h0=> ?_,fun i hi=> ?_⟩
   ·exfalso
    rw[mem_ready] at hi0
    obtain⟨h1,o,h2,h3⟩:=hi0
    have h2':l[i0]? =some o:=by simpa using h2
    have hlt:=(Z9.1 h2').1
    have:i0∈Region.ready .any (l++[os]).toArray (listed.push false):=by
     rw[mem_ready]
     refine⟨by rw[eZ (by omega)];exact h1,o,by simp[ZW,hlt, <- h2'],fun e he hb=> ?_⟩
     have h5:=h3 e he hb
     have:e.on<listed.size:=by
      rcases abi e.on listed.size with h | h
      ·exact h
      ·rw[YL,YN h] at h5;cases h5
     rwa [eZ this]
    rw[h0] at this;cases this
   ·by_cases hin:i<l.length
    ·have hil:=hrd listed hsz i hin hi
     have hi':=hil
     rw[mem_ready] at hi'
     obtain⟨hun,o,h2,h3⟩:=hi'
     have h2':l[i]? =some o:=by simpa using h2
     refine VE h2' (hgo i o h2') (fun a' w' hk=> ?_) (h.2 i hil)
     have hpush:(listed.push false).setIfInBounds i true=(listed.setIfInBounds i true).push false:=by
      apply Array.ext_getElem?
      intro j
      rw[Array.getElem?_push,Array.getElem?_setIfInBounds,Array.getElem?_setIfInBounds,Array.getElem?_push]
      simp only[YU,Array.size_setIfInBounds]
      by_cases e1:i=j
      ·subst e1
       rw[abY rfl,abY (by omega),abX (by omega),abY rfl,abY (by omega)]
      ·simp[e1]
     rw[hpush]
     refine ih (listed.setIfInBounds i true) a' w' (by simpa using hsz) ?_ hk.2
     intro j oj hj hlj e he hb
     by_cases eji:j=i
     ·subst eji
      rw[h2'] at hj
      cases hj
      have:=h3 e (by simpa using he) hb
      by_cases e2:e.on=j
      ·rw[e2];exact bM (by omega)
      ·rw[aL e2];exact this
     ·rw[aL eji] at hlj
      have:=hcl j oj hj hlj e he hb
      by_cases e2:e.on=i
      ·rw[e2];exact bM (by omega)
      ·rw[aL e2];exact this
    ·exfalso
     have:i=l.length:=by
      rw[mem_ready] at hi
      obtain⟨_,o,h2,_⟩:=hi
      have h2':(l++[os])[i]? =some o:=by simpa using h2
      have h3:i<(l++[os]).length:=(Z9.1 h2').1
      simp at h3;omega
     subst this
     exact hnl (hlr listed hsz hcl hi)
end
theorem fU {P:Program} {id n:Nat} {ll l:List Oper} {os:Oper} {Q:Exit->Act->World->Prop} {S:World->Prop} {a:Act} {w:World} (hm:P.follows .mixedOrders=true) (hl:l=ll.take n) (ho:ll.drop n=[os]) (hn:n=l.length) (hB:WH l os=true) (hS:S w.drew) (h:S w.drew->wpAnyH P .any l.toArray (wL P os Q) S n (Array.replicate n false) a w.drew):(Code.region id ll.toArray true).wp P Q a w:=by
 simp only[WH,YX] at hB
 have hll:ll=l++[os]:=by rw[hl, <- ho,aaO]
 subst hn
 rw[hll]
 refine wp_region_any hm ?_
 have h0:jC l (Array.replicate l.length false):=fun i o hi hl=>by
  rw[YL,YQ,abY (Z9.1 hi).1] at hl
  cases hl
 have:=Ub hB.1.1 hB.1.2 hB.2 l.length (Array.replicate l.length false) a w.drew (by simp) h0 (h hS)
 rw[show (l++[os]).toArray.size=l.length+1 by simp,Array.replicate_succ]
 exact this
theorem mS {P:Program} {os:Oper} {Q:Exit->Act->World->Prop} {a:Act} {w:World} (h:∀ K:Act->World->Prop,Shut (∀ a w,Q .normal a w->K a w)->os.wp P a w K Q):wL P os Q .normal a w:=
 h _ fun _ _ h=>h
theorem take_at {P:Program} {md:Region.Mode} {l r:List Oper} {Q:Exit->Act->World->Prop} {S:World->Prop} {i:Nat} {oi:Oper} {v:Value} {fuel:Nat} {listed:Array Bool} {a:Act} {w:World} (hd:l.drop i=oi::r) (hs:Region.noSelect l.toArray=true) (hf:Region.free md l.toArray listed i=true) (hr:(Region.ready md l.toArray listed).contains i=true) (hQ:∀ c a w,Q (.panic c) (a.put oi.dst v) w->Q (.panic c) a w) (hy:YieldsIf P l.toArray S oi v a) (hS:S w) (h:wpAnyH P md l.toArray Q S fuel (listed.setIfInBounds i true) (a.put oi.dst v) w):wpAnyH P md l.toArray Q S (fuel+1) listed a w:=
 wpAnyH_take (by have:(l.drop i)[0]? =some oi:=by rw[hd];rfl
                 simpa using this) hs hf hr hQ hy hS h
theorem cc {P:Program} {md:Region.Mode} {l r:List Oper} {Q:Exit->Act->World->Prop} {S:World->Prop} {i:Nat} {o:Oper} {fuel:Nat} {listed:Array Bool} {a:Act} {w:World} (hd:l.drop i=o::r) (hr:Region.ready md l.toArray listed=[i]) (h:∀ K':Act->World->Prop,Shut (∀ a w,S w->(S w->wpAnyH P md l.toArray Q S fuel (listed.setIfInBounds i true) a w)->K' a w)->if Region.wanted o (yielded l.toArray a.tmps)=true then Oper.wp P o a w K' Q else K' (a.put o.dst undef) w): wpAnyH P md l.toArray Q S (fuel+1) listed a w:=
 wpAnyH_ready hr (by simp) (AllReadyH.cons (by have:(l.drop i)[0]? =some o:=by rw[hd];rfl
                                               simpa using this) h AllReadyH.nil)
end Go.Dn
namespace Go.Dn
open Go
theorem tk (i:Nat) {P:Program} {md:Region.Mode} {l r:List Oper} {Q:Exit->Act->World->Prop} {S:World->Prop} {oi:Oper} {v:Value} {fuel:Nat} {listed l':Array Bool} {a a':Act} {w:World}
 (h:wpAnyH P md l.toArray Q S fuel l' a' w) (hd:l.drop i=oi::r:=by rfl) (hs:Region.noSelect l.toArray=true:=by kernel_rfl)
 (hf:Region.free md l.toArray listed i=true:=by kernel_rfl) (hr:(Region.ready md l.toArray listed).contains i=true:=by kernel_rfl)
 (hp:Region.wanted oi (yielded l.toArray a.tmps)=true:=by rfl)
 (hv:∀ w,S w->(execOp a.eval oi).run P w= .ok (.value v) w:=by (intro w hSw;(try dsimp only at hSw);go_simp<;>with_reducible rfl))
 (hQ:∀ c a w,Q (.panic c) (a.put oi.dst v) w->Q (.panic c) a w:=by exact fun _ _ _ h=>h) (hS:S w:=by assumption)
 (ha:a.put oi.dst v=a':=by ((try simp only[Act.put,aaK,aaM,aaL])<;>rfl))
 (hl:listed.setIfInBounds i true=l':=by ((try simp only[aaK,aaM,aaL])<;>rfl)):wpAnyH P md l.toArray Q S (fuel+1) listed a w:=by
 subst ha hl
 exact take_at hd hs hf hr hQ (Or.inl ⟨hp,hv⟩) hS h
end Go.Dn
set_option maxRecDepth 100000
namespace Go.Proofs.SeatU
open Go.Dn Go.Md Go.Proofs Go.RowKit Go.Shelf Go.Lib
structure Lv (G G':Gh) (w w':World):Prop where
 kept:Kept w w'
 le:G.le G'
 agr:Agr G' w'
 old:∀ b,b<w.heap.size->G' b=G b
theorem mX {G:Gh} {w:World} (s:List UInt8) (W:List (List UInt8)) (ok:Bool) (hG:Agr G w) (hT:bF Tryz.prog G) (hm:iU s=some (W,ok,())): Calls Tryz.prog 33 #[.string (bs s)] w fun e w'=>∃ G' u,e= .returned (.tuple #[u,.bool ok])/\Lv G G' w w'/\cw G' Ty.str.size (az G' .str) W u:=by
 refine (Qa G w (fun _=>none) [.string (bs s)] (s,()) (W,ok,()) hG (fun b i h=>by cases h) ⟨_,[],fun _=>rfl,fun h=>Bool.noConfusion h,rfl,rfl⟩ hm hT).mono ?_
 rintro e w' ⟨G',ow',vs,g⟩
 obtain⟨u,us,rfl,⟨u0,e0,hu⟩,u2,us2,rfl,hb,h3,_⟩:=g.out
 cases e0
 have e2:[u2]=[Value.bool ok]:=hb
 have e3:us2=[]:=h3
 cases e2;subst e3
 exact⟨G',u,g.ret,⟨⟨g.size,g.os,g.output,fun b hb=>(g.old b hb rfl).1⟩,g.le,g.agr,fun b hb=>(g.old b hb rfl).2⟩,hu⟩
theorem Qv {G:Gh} {w:World} (s t:List UInt8) (hG:Agr G w) (hT:bF Tryz.prog G) (hm:rP s=some (t,())): Calls Tryz.prog 38 #[.string (bs s)] w fun e w'=>e= .returned (.string (bs t))/\Kept w w':=by
 refine (Oo G w (fun _=>none) [.string (bs s)] (s,()) (t,()) hG (fun b i h=>by cases h) ⟨_,[],fun _=>rfl,fun h=>Bool.noConfusion h,rfl,rfl⟩ hm hT).mono ?_
 rintro e w' ⟨G',ow',vs,g⟩
 obtain⟨u,us,rfl,hu,h3,_⟩:=g.out
 have e1:[u]=[Value.string (bs t)]:=hu
 have e3:us=[]:=h3
 cases e1;subst e3
 exact⟨g.ret,⟨g.size,g.os,g.output,fun b hb=>(g.old b hb rfl).1⟩⟩
structure WAt (G:Gh) (w:World) (bw:Nat) (q:List (List UInt8)×Bool×Unit):Prop where
 box:∃ u T,w.heap[bw]? =some (.cells #[u,.bool q.2.1] T (0,0))/\cw G Ty.str.size (az G .str) q.1 u
 gh:G bw=none
structure LvB (bw:Nat) (G G':Gh) (w w':World):Prop where
 size:w.heap.size<=w'.heap.size
 os:w'.os=w.os
 output:w'.output=w.output
 keep:∀ b,b<w.heap.size->b≠bw->w'.heap[b]? =w.heap[b]?
 le:G.le G'
 agr:Agr G' w'
 old:∀ b,b<w.heap.size->b≠bw->G' b=G b
theorem LvB.trans {bw:Nat} {G G1 G2:Gh} {w w1 w2:World} (h:LvB bw G G1 w w1) (k:LvB bw G1 G2 w1 w2):LvB bw G G2 w w2:=
 ⟨abf h.size k.size,k.os.trans h.os,k.output.trans h.output,fun b hb hn=>(k.keep b (abh hb h.size) hn).trans (h.keep b hb hn),
   ⟨fun b o hb=>k.le.1 b o (h.le.1 b o hb),fun a b hb=>k.le.2 a b (h.le.2 a b hb)⟩,k.agr,fun b hb hn=>(k.old b (abh hb h.size) hn).trans (h.old b hb hn)⟩
abbrev WB:List OT:=[.val (.slice .str),.val .bool]
theorem Kh {f:FuncId} {t:Ty} {ps:List PM} {m:dS (.box WB::ps)->Option (cF (.box WB::ps) [.val t])} (h:cZ Tryz.prog f ⟨.box WB::ps,[.val t],m⟩) {G:Gh} {w:World} {bw:Nat} {q:List (List UInt8)×Bool×Unit} {xs:dS ps} {args:List Value} {r:t.den} {q':List (List UInt8)×Bool×Unit} {z:dY ps} (hG:Agr G w) (hT:bF Tryz.prog G) (hW:WAt G w bw q) (ha:∀ ow,fV G w ow 1 ps xs args) (hm:m (q,xs)=some (r,q',z)): Calls Tryz.prog f (.pointer (some ⟨bw,0,none⟩)::args).toArray w fun e w'=>∃ G' v,e= .returned v/\bS G' t r v/\LvB bw G G' w w'/\WAt G' w' bw q':=by
 obtain⟨⟨u,T,hb,hu⟩,hg⟩:=hW
 refine (h G w (fun b=>if b=bw then some 0 else none) (.pointer (some ⟨bw,0,none⟩)::args) (q,xs) (r,q',z) hG (fun b i hi=> ?_) ⟨_,args,fun _=>rfl,fun h=>Bool.noConfusion h,⟨bw,[u,.bool q.2.1],T,rfl,abY rfl,hb,[u],[.bool q.2.1],rfl,⟨u,rfl,hu⟩,[.bool q.2.1],[],rfl,rfl,rfl⟩,ha _⟩ hm hT).mono ?_
 ·by_cases e:b=bw
  ·subst e;exact⟨hg,aj hb⟩
  ·simp only[abX e] at hi;cases hi
 ·rintro e w' ⟨G',ow',vs,g⟩
  obtain⟨v,us,rfl,hv,h3,⟨v0,hv0,b',vs',T',hp,ho,hbx,a,c,rfl,⟨u',e1,hu'⟩,a2,c2,rfl,e2,e3⟩,_⟩:=g.out
  subst h3
  have e0:Value.pointer (some ⟨bw,0,none⟩)=v0:=Option.some.inj hv0
  subst e0
  have eb:bw=b':=by
   have:=Option.some.inj (Value.pointer.inj hp)
   exact congrArg Addr.block this
  subst eb
  have e2':a2=[Value.bool q'.2.1]:=e2
  have e3':c2=[]:=e3
  subst e1;subst e2';subst e3'
  exact⟨G',v,g.ret,hv,⟨g.size,g.os,g.output,fun b hb hn=>(g.old b hb (abX hn)).1,g.le,g.agr,fun b hb hn=>(g.old b hb (abX hn)).2⟩,⟨_,T',hbx,hu'⟩,(g.own bw _ ho).1⟩
theorem TA {G:Gh} {w:World} {bw:Nat} {q q':List (List UInt8)×Bool×Unit} {s:List UInt8} (hG:Agr G w) (hT:bF Tryz.prog G) (hW:WAt G w bw q) (hm:bD q=some (s,q',())): Calls Tryz.prog 34 #[.pointer (some ⟨bw,0,none⟩)] w fun e w'=>e= .returned (.string (bs s))/\∃ G',LvB bw G G' w w'/\WAt G' w' bw q':=by
 refine (Kh Gq hG hT hW (xs:=()) (args:=[]) (fun _=>rfl) hm).mono ?_
 rintro e w' ⟨G',v,rfl,hv,h1,h2⟩
 have e1:[v]=[Value.string (bs s)]:=hv
 cases e1
 exact⟨rfl,G',h1,h2⟩
theorem Om {G:Gh} {w:World} {bw:Nat} {q q':List (List UInt8)×Bool×Unit} {n:Int} (hG:Agr G w) (hT:bF Tryz.prog G) (hW:WAt G w bw q) (hm:bK q=some (n,q',())): Calls Tryz.prog 35 #[.pointer (some ⟨bw,0,none⟩)] w fun e w'=>e= .returned (.int .i64 n)/\∃ G',LvB bw G G' w w'/\WAt G' w' bw q':=by
 refine (Kh DP hG hT hW (xs:=()) (args:=[]) (fun _=>rfl) hm).mono ?_
 rintro e w' ⟨G',v,rfl,hv,h1,h2⟩
 have e1:[v]=[Value.int .i64 n]:=hv
 cases e1
 exact⟨rfl,G',h1,h2⟩
theorem Od {G:Gh} {w:World} {bw:Nat} {q q':List (List UInt8)×Bool×Unit} {d:ah} (hG:Agr G w) (hT:bF Tryz.prog G) (hW:WAt G w bw q) (hm:bQ q=some (d,q',())): Calls Tryz.prog 37 #[.pointer (some ⟨bw,0,none⟩)] w fun e w'=>e= .returned (.agg #[.int .i64 d.1,.int .i64 d.2])/\∃ G',LvB bw G G' w w'/\WAt G' w' bw q':=by
 refine (Kh CC hG hT hW (xs:=()) (args:=[]) (fun _=>rfl) hm).mono ?_
 rintro e w' ⟨G',v,rfl,hv,h1,h2⟩
 obtain⟨cs,rfl,c1,c2,rfl,k1,k2⟩:=hv
 have e1:c1=[Value.int .i64 d.1]:=k1
 have e2:c2=[Value.int .i64 d.2]:=k2
 subst e1;subst e2
 exact⟨rfl,G',h1,h2⟩
theorem Tq {G:Gh} {w:World} {bw:Nat} {q q':List (List UInt8)×Bool×Unit} {s:List UInt8} {b:Bool} (hG:Agr G w) (hT:bF Tryz.prog G) (hW:WAt G w bw q) (hm:dR q s=some (b,q',())): Calls Tryz.prog 36 #[.pointer (some ⟨bw,0,none⟩),.string (bs s)] w fun e w'=>e= .returned (.bool b)/\∃ G',LvB bw G G' w w'/\WAt G' w' bw q':=by
 refine (Kh Gp hG hT hW (xs:=(s,())) (args:=[.string (bs s)]) (fun _=>⟨_,[],fun _=>rfl,fun h=>Bool.noConfusion h,rfl,rfl⟩) hm).mono ?_
 rintro e w' ⟨G',v,rfl,hv,h1,h2⟩
 have e1:[v]=[Value.bool b]:=hv
 cases e1
 exact⟨rfl,G',h1,h2⟩
theorem QY {G:Gh} {w:World} {bw:Nat} {q q':List (List UInt8)×Bool×Unit} {b:Bool} (hG:Agr G w) (hT:bF Tryz.prog G) (hW:WAt G w bw q) (hm:cg q=some (b,q',())): Calls Tryz.prog 39 #[.pointer (some ⟨bw,0,none⟩)] w fun e w'=>e= .returned (.bool b)/\∃ G',LvB bw G G' w w'/\WAt G' w' bw q':=by
 refine (Kh EN hG hT hW (xs:=()) (args:=[]) (fun _=>rfl) hm).mono ?_
 rintro e w' ⟨G',v,rfl,hv,h1,h2⟩
 have e1:[v]=[Value.bool b]:=hv
 cases e1
 exact⟨rfl,G',h1,h2⟩
end Go.Proofs.SeatU
set_option maxRecDepth 100000
namespace Go.Proofs.SeatU
open Go.Dn Go.Md Go.Proofs Go.RowKit Go.Shelf Go.Lib
def BS (r:aC):List Value:=[.string (bs r.1),.int .i64 r.2.1,.int .i64 r.2.2]
def qw (x:aJ):List Value:=[.bool x.1,.int .i64 x.2.1.1,.int .i64 x.2.1.2,.string (bs x.2.2)]
def wM (l:ai) (h:Value):List Value:=[.int .i64 l.1,.int .i64 l.2.1,.string (bs l.2.2.1),.int .i64 l.2.2.2.1.1,.int .i64 l.2.2.2.1.2,.string (bs l.2.2.2.2.1),.int .i64 l.2.2.2.2.2.1.1,.int .i64 l.2.2.2.2.2.1.2,.int .i64 l.2.2.2.2.2.2.1,h,.string (bs l.2.2.2.2.2.2.2.2)]
def PW (l:ai):Nat×List Value:=(l.2.2.2.2.2.2.2.1.length,l.2.2.2.2.2.2.2.1.flatMap qw)
abbrev Wy:=nh 50 11 53 4 wM PW
def aK (vr vl ve:Value) (L:List (ai×Value)):List Nat:=vr.ownBlock.toList++(ve.ownBlock.toList++fy vl L)
structure RV (w:World) (v:aa) (vr vl ve:Value) (L:List (ai×Value)):Prop where
 rat:w.ownsRow 0 56 3 vr v.2.2.2.2.2.2.1.length (v.2.2.2.2.2.2.1.flatMap BS)
 ext:w.ownsRow 0 53 4 ve v.2.2.2.2.2.2.2.2.length (v.2.2.2.2.2.2.2.2.flatMap qw)
 nst:Wy w vl L
 map:L.map (·.1)=v.2.2.2.2.2.2.2.1
 d1:∀ b,vr.ownBlock=some b->ve.ownBlock≠some b/\b∉fy vl L
 d2:∀ b,ve.ownBlock=some b->b∉fy vl L
section
variable {w w':World} {v:aa} {vr vl ve:Value} {L:List (ai×Value)}
theorem bC {b:Nat}:b∈aK vr vl ve L↔vr.ownBlock=some b\/ve.ownBlock=some b\/b∈fy vl L:=by
 unfold aK
 simp[Option.mem_toList]
theorem RV.lt (h:RV w v vr vl ve L):∀ b∈aK vr vl ve L,b<w.heap.size:=by
 intro b hb
 rcases bC.1 hb with hb | hb | hb
 ·exact bT h.rat hb
 ·exact bT h.ext hb
 ·exact h.nst.lt b hb
theorem RV.keep (h:RV w v vr vl ve L) (hk:∀ b∈aK vr vl ve L,w'.heap[b]? =w.heap[b]?):RV w' v vr vl ve L:=
 ⟨bV h.rat fun g hg=>hk g (bC.2 (.inl hg)),bV h.ext fun g hg=>hk g (bC.2 (.inr (.inl hg))),h.nst.keep fun b hb=>hk b (bC.2 (.inr (.inr hb))),h.map,h.d1,h.d2⟩
theorem RV.zero (w:World) (v:aa) (h1:v.2.2.2.2.2.2.1=[]) (h2:v.2.2.2.2.2.2.2.1=[]) (h3:v.2.2.2.2.2.2.2.2=[]):RV w v (.slice none 0 0) (.slice none 0 0) (.slice none 0 0) []:=
 ⟨by rw[h1];exact⟨rfl,.inl ⟨rfl,rfl⟩⟩,by rw[h3];exact⟨rfl,.inl ⟨rfl,rfl⟩⟩,nh.nil _ _ _ _ _ _ _,h2.symm,fun b hb=>(by cases hb),fun b hb=>(by cases hb)⟩
theorem RV.Qi (h:RV w v vr vl ve L) {r:aC} {g cap:Nat} (hrow:w'.ownsRow 0 56 3 (.slice (some ⟨g,0,none⟩) (v.2.2.2.2.2.2.1.length+1) cap) (v.2.2.2.2.2.2.1.length+1) (v.2.2.2.2.2.2.1.flatMap BS++BS r)) (hgr:w.grownBy w' vr.ownBlock) (hg:vr.ownBlock=some g\/w.heap.size<=g): RV w' (kU v r) (.slice (some ⟨g,0,none⟩) (v.2.2.2.2.2.2.1.length+1) cap) vl ve L/\∀ b∈aK (.slice (some ⟨g,0,none⟩) (v.2.2.2.2.2.2.1.length+1) cap) vl ve L,b∈aK vr vl ve L\/w.heap.size<=b:=by
 have hk:∀ b,b<w.heap.size->vr.ownBlock≠some b->w'.heap[b]? =w.heap[b]? :=fun b hb hn=>hgr.block b hb fun e=>hn e.symm
 have hn1:∀ b,ve.ownBlock=some b->vr.ownBlock≠some b:=fun b hb e=>(h.d1 b e).1 hb
 have hn2:∀ b,b∈fy vl L->vr.ownBlock≠some b:=fun b hb e=>(h.d1 b e).2 hb
 have hl1:∀ b,ve.ownBlock=some b->b<w.heap.size:=fun b hb=>bT h.ext hb
 refine⟨⟨?_,bV h.ext fun b hb=>hk b (hl1 b hb) (hn1 b hb),h.nst.keep fun b hb=>hk b (h.nst.lt b hb) (hn2 b hb),h.map,fun b hb=> ?_,h.d2⟩,fun b hb=> ?_⟩
 ·simpa [kU] using hrow
 ·have e:g=b:=Option.some.inj hb
  subst e
  rcases hg with hg | hg
  ·exact h.d1 g hg
  ·exact⟨fun e=>by have:=hl1 g e;omega,fun hm=>by have:=h.nst.lt g hm;omega⟩
 ·rcases bC.1 hb with hb | hb | hb
  ·have e:g=b:=Option.some.inj hb
   subst e
   exact hg.imp (fun hg=>bC.2 (.inl hg)) id
  ·exact .inl (bC.2 (.inr (.inl hb)))
  ·exact .inl (bC.2 (.inr (.inr hb)))
theorem RV.CE (h:RV w v vr vl ve L) {x:aJ} {g cap:Nat} (hrow:w'.ownsRow 0 53 4 (.slice (some ⟨g,0,none⟩) (v.2.2.2.2.2.2.2.2.length+1) cap) (v.2.2.2.2.2.2.2.2.length+1) (v.2.2.2.2.2.2.2.2.flatMap qw++qw x)) (hgr:w.grownBy w' ve.ownBlock) (hg:ve.ownBlock=some g\/w.heap.size<=g): RV w' (fX v x) vr vl (.slice (some ⟨g,0,none⟩) (v.2.2.2.2.2.2.2.2.length+1) cap) L/\∀ b∈aK vr vl (.slice (some ⟨g,0,none⟩) (v.2.2.2.2.2.2.2.2.length+1) cap) L,b∈aK vr vl ve L\/w.heap.size<=b:=by
 have hk:∀ b,b<w.heap.size->ve.ownBlock≠some b->w'.heap[b]? =w.heap[b]? :=fun b hb hn=>hgr.block b hb fun e=>hn e.symm
 have hn1:∀ b,vr.ownBlock=some b->ve.ownBlock≠some b:=fun b hb=>(h.d1 b hb).1
 have hn2:∀ b,b∈fy vl L->ve.ownBlock≠some b:=fun b hb e=>h.d2 b e hb
 have hl1:∀ b,vr.ownBlock=some b->b<w.heap.size:=fun b hb=>bT h.rat hb
 refine⟨⟨bV h.rat fun b hb=>hk b (hl1 b hb) (hn1 b hb), ?_,h.nst.keep fun b hb=>hk b (h.nst.lt b hb) (hn2 b hb),h.map,fun b hb=>⟨fun e=> ?_,(h.d1 b hb).2⟩,fun b hb=> ?_⟩,fun b hb=> ?_⟩
 ·simpa [fX] using hrow
 ·have e:g=b:=Option.some.inj e
  subst e
  rcases hg with hg | hg
  ·exact (h.d1 g hb).1 hg
  ·have:=hl1 g hb;omega
 ·have e:g=b:=Option.some.inj hb
  subst e
  rcases hg with hg | hg
  ·exact h.d2 g hg
  ·exact fun hm=>by have:=h.nst.lt g hm;omega
 ·rcases bC.1 hb with hb | hb | hb
  ·exact .inl (bC.2 (.inl hb))
  ·have e:g=b:=Option.some.inj hb
   subst e
   exact hg.imp (fun hg=>bC.2 (.inr (.inl hg))) id
  ·exact .inl (bC.2 (.inr (.inr hb)))
theorem RV.pushLine (h:RV w v vr vl ve L) {l:ai} {g cap:Nat} (hl:l.2.2.2.2.2.2.2.1=[]) (hrow:w'.ownsRow 0 50 11 (.slice (some ⟨g,0,none⟩) (L.length+1) cap) (L.length+1) ((L.flatMap fun q=>wM q.1 q.2)++wM l (.slice none 0 0))) (hgr:w.grownBy w' vl.ownBlock) (hg:vl.ownBlock=some g\/w.heap.size<=g): RV w' (addLine v l) vr (.slice (some ⟨g,0,none⟩) (L.length+1) cap) ve (L++[(l,.slice none 0 0)])/\∀ b∈aK vr (.slice (some ⟨g,0,none⟩) (L.length+1) cap) ve (L++[(l,.slice none 0 0)]),b∈aK vr vl ve L\/w.heap.size<=b:=by
 have hmem:∀ b,vl.ownBlock=some b->b∈fy vl L:=fun b hb=>aav.2 (.inl (by rw[hb];simp))
 have hk:∀ b,b<w.heap.size->b∉fy vl L->w'.heap[b]? =w.heap[b]? :=fun b hb hn=>hgr.block b hb fun e=>hn (hmem b e.symm)
 have hl1:∀ b,vr.ownBlock=some b->b<w.heap.size:=fun b hb=>bT h.rat hb
 have hl2:∀ b,ve.ownBlock=some b->b<w.heap.size:=fun b hb=>bT h.ext hb
 have hnew:∀ b∈fy (.slice (some ⟨g,0,none⟩) (L.length+1) cap) (L++[(l,Value.slice none 0 0)]),b∈fy vl L\/w.heap.size<=b:=by
  intro b hb
  rcases aav.1 hb with hb | hb
  ·have e:b=g:=by simpa [Value.ownBlock] using hb
   subst e
   exact hg.imp (hmem b) id
  ·rw[ZR] at hb
   rcases aav.1 hb with hb | hb
   ·exact .inl (aav.2 (.inr hb))
   ·simp[Value.ownBlock] at hb
 refine⟨⟨bV h.rat fun b hb=>hk b (hl1 b hb) (h.d1 b hb).2,bV h.ext fun b hb=>hk b (hl2 b hb) (h.d2 b hb),h.nst.push (by simp[PW,hl]) hrow hgr hg, ?_,fun b hb=>⟨(h.d1 b hb).1,fun hm=> ?_⟩,fun b hb hm=> ?_⟩,fun b hb=> ?_⟩
 ·rw[List.map_append,h.map];rfl
 ·rcases hnew b hm with hm | hm
  ·exact (h.d1 b hb).2 hm
  ·have:=hl1 b hb;omega
 ·rcases hnew b hm with hm | hm
  ·exact h.d2 b hb hm
  ·have:=hl2 b hb;omega
 ·rcases bC.1 hb with hb | hb | hb
  ·exact .inl (bC.2 (.inl hb))
  ·exact .inl (bC.2 (.inr (.inl hb)))
  ·exact (hnew b hb).imp (fun h=>bC.2 (.inr (.inr h))) id
end
theorem NB (l:List ai) (p:ai) (x:aJ):DW (l++[p]) x=l++[(p.1,p.2.1,p.2.2.1,p.2.2.2.1,p.2.2.2.2.1,p.2.2.2.2.2.1,p.2.2.2.2.2.2.1,p.2.2.2.2.2.2.2.1++[x],p.2.2.2.2.2.2.2.2)]:=by
 induction l with
 | nil=>rfl
 | cons y r ih=>
  cases r with
  | nil=>rfl
  | cons z q=>exact congrArg (y:: ·) ih
def DI (p:ai) (x:aJ):ai:=(p.1,p.2.1,p.2.2.1,p.2.2.2.1,p.2.2.2.2.1,p.2.2.2.2.2.1,p.2.2.2.2.2.2.1,p.2.2.2.2.2.2.2.1++[x],p.2.2.2.2.2.2.2.2)
theorem JE (p:ai) (h:Value):(wM p h).length=11:=rfl
theorem Ns (L:List (ai×Value)):(L.flatMap fun q=>wM q.1 q.2).length=L.length*11:=by
 induction L with
 | nil=>rfl
 | cons x r ih=>rw[ZT,aak,ih,JE,aal];omega
theorem Bi {w:World} {v:Value} {L0:List (ai×Value)} {p:ai} {h:Value} (hN:Wy w v (L0++[(p,h)])): ∃ g cap,v= .slice (some ⟨g,0,none⟩) (L0.length+1) cap/\L0.length+1<=cap/\(∀ j u,(wM p h)[j]? =some u->w.cell? ⟨g,L0.length*11+j,none⟩=some u)/\∀ o,w.frozen? ⟨g,o,none⟩=false:=by
 have hl:(L0++[(p,h)]).length=L0.length+1:=by simp
 rcases hN.row.2 with ⟨_,e⟩ | ⟨g,cap,cur,hv,_,hg,hn,hc,hs,ht⟩
 ·rw[hl] at e;omega
 refine⟨g,cap,by rw[hv,hl],by rw[hl] at hn;exact hn,fun j u hj=> ?_,fun o=>by simp[World.frozen?,hg]⟩
 have hj5:=(Z9.1 hj).1
 rw[JE] at hj5
 have h1:(cur.toList.take ((L0++[(p,h)]).length*11))[L0.length*11+j]? =some u:=by
  rw[ht,ZS,ZY (by rw[Ns];omega),Ns,show L0.length*11+j - L0.length*11=j by omega,List.flatMap_singleton]
  exact hj
 rw[aag (by rw[hl];omega)] at h1
 simp[World.cell?,hg]
 simpa using h1
theorem RV.Se {w w1:World} {v:aa} {vr vl ve:Value} {L0:List (ai×Value)} {p:ai} {hd:Value} (h:RV w v vr vl ve (L0++[(p,hd)])) {x:aJ} {go capo g cap:Nat} (hv:vl= .slice (some ⟨go,0,none⟩) (L0.length+1) capo) (hrow:w1.ownsRow 0 53 4 (.slice (some ⟨g,0,none⟩) (p.2.2.2.2.2.2.2.1.length+1) cap) (p.2.2.2.2.2.2.2.1.length+1) (p.2.2.2.2.2.2.2.1.flatMap qw++qw x)) (hgr:w.grownBy w1 hd.ownBlock) (hg:hd.ownBlock=some g\/g=w.heap.size): RV (w1.setCell ⟨go,L0.length*11+9,none⟩ (.slice (some ⟨g,0,none⟩) (p.2.2.2.2.2.2.2.1.length+1) cap)) (qi v x) vr vl ve (L0++[(DI p x,.slice (some ⟨g,0,none⟩) (p.2.2.2.2.2.2.2.1.length+1) cap)])/\ ∀ b∈aK vr vl ve (L0++[(DI p x,.slice (some ⟨g,0,none⟩) (p.2.2.2.2.2.2.2.1.length+1) cap)]),b∈aK vr vl ve (L0++[(p,hd)])\/w.heap.size<=b:=by
 have hvo:vl.ownBlock=some go:=by rw[hv];rfl
 have hmem:∀ b,b∈fy vl (L0++[(p,hd)])↔b=go\/b∈L0.filterMap (·.2.ownBlock)\/hd.ownBlock=some b:=by
  intro b
  unfold fy
  rw[hvo,ZR]
  cases ho:hd.ownBlock with
  | none=>simp[ho,eq_comm]
  | some c=>simp[ho,eq_comm]
 have hnew:∀ b∈fy vl (L0++[(DI p x,Value.slice (some ⟨g,0,none⟩) (p.2.2.2.2.2.2.2.1.length+1) cap)]),b∈fy vl (L0++[(p,hd)])\/w.heap.size<=b:=by
  intro b hb
  unfold fy at hb
  rw[hvo,ZR] at hb
  have hb:b=go\/b∈L0.filterMap (·.2.ownBlock)\/b=g:=by
   rcases aav.1 hb with hb | hb
   ·exact .inl (by simpa using hb)
   ·rcases aav.1 hb with hb | hb
    ·exact .inr (.inl hb)
    ·exact .inr (.inr (by simpa [Value.ownBlock] using hb))
  rcases hb with h | h | h
  ·exact .inl ((hmem b).2 (.inl h))
  ·exact .inl ((hmem b).2 (.inr (.inl h)))
  ·subst h
   rcases hg with h | h
   ·exact .inl ((hmem b).2 (.inr (.inr h)))
   ·exact .inr (by omega)
 have hl1:∀ b,vr.ownBlock=some b->b<w.heap.size:=fun b hb=>bT h.rat hb
 have hl2:∀ b,ve.ownBlock=some b->b<w.heap.size:=fun b hb=>bT h.ext hb
 have hk:∀ b,b<w.heap.size->b∉fy vl (L0++[(p,hd)])->(w1.setCell ⟨go,L0.length*11+9,none⟩ (.slice (some ⟨g,0,none⟩) (p.2.2.2.2.2.2.2.1.length+1) cap)).heap[b]? =w.heap[b]? :=fun b hb hn=>by
  rw[aB _ _ _ _ _ (fun e=>hn ((hmem b).2 (.inl e)))]
  exact hgr.block b hb fun e=>hn ((hmem b).2 (.inr (.inr e.symm)))
 refine⟨⟨bV h.rat fun b hb=>hk b (hl1 b hb) (h.d1 b hb).2,bV h.ext fun b hb=>hk b (hl2 b hb) (h.d2 b hb), ?_, ?_,fun b hb=>⟨(h.d1 b hb).1,fun hm=> ?_⟩,fun b hb hm=> ?_⟩,fun b hb=> ?_⟩
 ·exact nh.grow (a:=p) (a':=DI p x) h.nst hvo (news:=qw x) hrow hgr hg (by simp[PW,DI,ZS]) JE (by decide) rfl
 ·have hm:=h.map
  rw[List.map_append] at hm ⊢
  show _=DW v.2.2.2.2.2.2.2.1 x
  rw[<- hm]
  exact (NB _ _ _).symm
 ·rcases hnew b hm with hm | hm
  ·exact (h.d1 b hb).2 hm
  ·have:=hl1 b hb;omega
 ·rcases hnew b hm with hm | hm
  ·exact h.d2 b hb hm
  ·have:=hl2 b hb;omega
 ·rcases bC.1 hb with hb | hb | hb
  ·exact .inl (bC.2 (.inl hb))
  ·exact .inl (bC.2 (.inr (.inl hb)))
  ·exact (hnew b hb).imp (fun h=>bC.2 (.inr (.inr h))) id
end Go.Proofs.SeatU
set_option maxRecDepth 100000
namespace Go.Proofs.SeatU
open Go.Dn Go.Md Go.Proofs Go.RowKit Go.Shelf Go.Lib
attribute [local go_sem ↓] Go.wp_at_zero Go.wp_at_succ
theorem cB {w w':World} (h:Kept w w') {a:Addr} {v:Value} (hc:w.cell? a=some v):w'.cell? a=some v:=by
 simp only[World.cell?] at hc ⊢
 cases hb:w.heap[a.block]? with
 | none=>rw[hb] at hc;cases hc
 | some o=>rw[h.block _ (aj hb),hb];rw[hb] at hc;exact hc
theorem eS {G:Gh} {w:World} {W:List (List UInt8)} {u:Value} (h:cw G Ty.str.size (az G .str) W u) (hA:Agr G w) (hne:W≠[]): ∃ b off cap,u= .slice (some ⟨b,off,none⟩) W.length cap/\W.length<=cap/\cap<=maxLen/\(∃ o,G b=some o)/\∀ i x,W[i]? =some x->w.cell? ⟨b,off+i,none⟩=some (.string (bs x)):=by
 obtain⟨a,cap,rfl,hcap,kC,hrow⟩:=h
 rcases hrow with hr | ⟨b,off,c,T,fz,rfl,hg,hin,hrep⟩
 ·exact absurd hr hne
 refine⟨b,off,cap,rfl,hcap,kC,⟨_,hg⟩,fun i x hi=> ?_⟩
 have hs:=CI hrep
 have hi2:=(congrArg (fun l:List Value=>l[i]?) hs).trans (show (W.map fun s=>Value.string (bs s))[i]? =some (.string (bs x)) by rw[aaa,hi];rfl)
 have hlt:=(Z9.1 hi).1
 have e1:Ty.str.size=1:=rfl
 have hlt2:i<W.length*Ty.str.size:=by rw[e1,abp];exact hlt
 have hi2:=hi2
 erw [aag hlt2,Z6] at hi2
 simp[World.cell?,hA b _ hg]
 simpa using hi2
structure RI (w:World) (bx:Nat) (v:aa) (k:Int) (vr vl ve:Value) (L:List (ai×Value)):Prop where
 box:w.heap[bx]? =some (.cells #[.string (bs v.1),.string (bs v.2.1),.int .i64 v.2.2.1,.int .i64 v.2.2.2.1,.int .i64 v.2.2.2.2.1,.bool v.2.2.2.2.2.1,vr,vl,ve,.int .i64 k] 41 (0,0))
 rows:RV w v vr vl ve L
 out:bx∉aK vr vl ve L
theorem bN {w:World} {b:Nat} {a0 a1 a2 a3 a4 a5 a6 a7 a8 a9:Value} {T:TypeId} (h:w.heap[b]? =some (.cells #[a0,a1,a2,a3,a4,a5,a6,a7,a8,a9] T (0,0))): (w.cell? ⟨b,0,none⟩=some a0/\w.cell? ⟨b,1,none⟩=some a1/\w.cell? ⟨b,2,none⟩=some a2/\w.cell? ⟨b,3,none⟩=some a3/\w.cell? ⟨b,4,none⟩=some a4/\w.cell? ⟨b,5,none⟩=some a5/\w.cell? ⟨b,6,none⟩=some a6/\w.cell? ⟨b,7,none⟩=some a7/\w.cell? ⟨b,8,none⟩=some a8/\w.cell? ⟨b,9,none⟩=some a9)/\∀ o,w.frozen? ⟨b,o,none⟩=false:=by
 refine⟨⟨?_, ?_, ?_, ?_, ?_, ?_, ?_, ?_, ?_, ?_⟩,fun o=>by simp[World.frozen?,h]⟩<;>simp[World.cell?,h]
theorem bH (w:World) (o:Obj):(w.alloc o).heap[w.heap.size]? =some o/\Kept w (w.alloc o):=by
 refine⟨heap_alloc_new w o, ?_,rfl,rfl,fun k hk=>heap_alloc_old _ _ hk⟩
 show _<=(w.heap.push _).size
 rw[YU];omega
theorem aM {w:World} {o:Obj} {a:Addr} {u:Value} (h:w.cell? a=some u):(w.alloc o).cell? a=some u:=by
 simp only[World.cell?] at h ⊢
 cases hb:w.heap[a.block]? with
 | none=>rw[hb] at h;cases h
 | some o'=>rw[heap_alloc_old _ _ (aj hb),hb];rw[hb] at h;exact h
theorem Xm (G:Gh) (w:World) (bx:Nat) (s:List UInt8) (W:List (List UInt8)) (hG:Agr G w) (hT:bF Tryz.prog G) (hm:iU s=some (W,false,())): Calls Tryz.prog 12 #[.pointer (some ⟨bx,0,none⟩),.string (bs s)] w fun e w'=>e= .returned (.bool false)/\Kept w w':=by
 have e33:∀ args w,(callFunc 33 args).run Tryz.prog w= .ok (.enter 33 args) w:=enters_of Tryz.func33 (by kernel_rfl) rfl
 have mixed:Tryz.prog.follows .mixedOrders=true:=by kernel_rfl
 have late:Tryz.prog.follows .lateStores=true:=by kernel_rfl
 have t3:=Tryz.underlying3;have t4:=Tryz.underlying4;have t9:=Tryz.underlying9;have t36:=Tryz.underlying36
 have hw:=mX s _ _ hG hT hm
 go_enter Tryz.func12,Tryz.ntmps12
 go_wp2_with (go_at_fn 33;refine hw.mono ?_;rintro e w2 ⟨G2,u,rfl,hlv,hu⟩)
 go_ret
 exact⟨rfl,hlv.kept⟩
set_option maxHeartbeats 4000000 in
theorem Wi (G:Gh) (w:World) (bx:Nat) (s:List UInt8) (w0:List UInt8) (r:List (List UInt8)) (k:Int) (hG:Agr G w) (hT:bF Tryz.prog G) (hm:iU s=some (w0::r,true,())) (cb:w.cell? ⟨bx,9,none⟩=some (.int .i64 k)) (ei er el ee ea k0 k1 k2:Bool) (hi:((bs w0).toList==[105,110,118,111,105,99,101])=ei) (hr:((bs w0).toList==[114,97,116,101])=er) (hl:((bs w0).toList==[108,105,110,101])=el) (he:((bs w0).toList==[101,120,116,114,97])=ee) (ha:((bs w0).toList==[97,108,108])=ea) (h0:(k==0)=k0) (h1:(k==1)=k1) (h2:(k==2)=k2) (hno:(ei=false/\er=false/\el=false/\ee=false/\ea=false)\/(ei=true/\er=false/\el=false/\ee=false/\ea=false/\k0=false)\/(ei=false/\er=true/\el=false/\ee=false/\ea=false/\k1=false)\/(ei=false/\er=false/\el=true/\ee=false/\ea=false/\k1=false/\k2=false)\/(ei=false/\er=false/\el=false/\ee=true/\ea=false/\k2=false)\/(ei=false/\er=false/\el=false/\ee=false/\ea=true/\k0=true)): Calls Tryz.prog 12 #[.pointer (some ⟨bx,0,none⟩),.string (bs s)] w fun e w'=>e= .returned (.bool false)/\Kept w w':=by
 have e33:∀ args w,(callFunc 33 args).run Tryz.prog w= .ok (.enter 33 args) w:=enters_of Tryz.func33 (by kernel_rfl) rfl
 have mixed:Tryz.prog.follows .mixedOrders=true:=by kernel_rfl
 have late:Tryz.prog.follows .lateStores=true:=by kernel_rfl
 have t3:=Tryz.underlying3;have t4:=Tryz.underlying4;have t9:=Tryz.underlying9;have t36:=Tryz.underlying36;have t41:=Tryz.underlying41;have t91:=Tryz.underlying91;have t26:=Tryz.underlying26;have a91:=Tryz.isAgg91;have z91:=Tryz.sizeOf91;have v91:=Tryz.zeroValue91
 have hw:=mX s _ _ hG hT hm
 go_enter Tryz.func12,Tryz.ntmps12
 rcases hno with ⟨rfl,rfl,rfl,rfl,rfl⟩ | ⟨rfl,rfl,rfl,rfl,rfl,rfl⟩ | ⟨rfl,rfl,rfl,rfl,rfl,rfl⟩ | ⟨rfl,rfl,rfl,rfl,rfl,rfl,rfl⟩ | ⟨rfl,rfl,rfl,rfl,rfl,rfl⟩ | ⟨rfl,rfl,rfl,rfl,rfl,rfl⟩
 all_goals go_wp2_with (go_at_fn 33;refine hw.mono ?_;rintro e w2 ⟨G2,u,rfl,hlv,hu⟩;obtain⟨b,off,cap,rfl,hcap,kC,hfz,hcell⟩:=eS hu hlv.agr (ZF _ _);have c0:w2.cell? ⟨b,off,none⟩=some (.string (bs w0)):=hcell 0 w0 rfl;have cb2:=cB hlv.kept cb;have c0':=fun o=>aM (o:=o) c0;have cb2':=fun o=>aM (o:=o) cb2;clear hcell)
 all_goals go_ret
 all_goals exact⟨rfl,hlv.kept.trans (bH _ _).2⟩
end Go.Proofs.SeatU
