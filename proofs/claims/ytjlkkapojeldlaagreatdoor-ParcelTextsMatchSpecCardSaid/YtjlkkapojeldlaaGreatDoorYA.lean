/-
  Rows whose elements have rows; parcel.readLine by a walk, first part. No condition.
-/
import Derived.Test.YtjlkkapojeldlaaGreatDoorYa
import Derived.Laws.AppendOwn
import Derived.Deep.AppendLies
import Derived.Test.YtjlkkapojeldlaaGreatDoorYj
import Derived.WalkKit
import Derived.Deep.LoopGhost
import Derived.Deep.RegionHeld3
import Derived.Deep.DrawnRows
import Derived.Test.YtjlkkapojeldlaaGreatDoorYt
set_option linter.all false
namespace Go.Dn
theorem ownsRow_same {w w':World} {base:Nat} {e:TypeId} {sz:Nat} {v:Value} {n:Nat} {xs:List Value} (h:w.ownsRow base e sz v n xs) (hk:∀ g,v.ownBlock=some g->w'.heap[g]? =w.heap[g]?):w'.ownsRow base e sz v n xs:=by
 refine⟨h.1, ?_⟩
 rcases h.2 with hn | ⟨g,cap,cur,hv,hb,hg,rest⟩
 ·exact .inl hn
 ·exact .inr ⟨g,cap,cur,hv,hb,(hk g (by rw[hv];rfl)).trans hg,rest⟩
theorem ownsRow_lt {w:World} {base:Nat} {e:TypeId} {sz:Nat} {v:Value} {n:Nat} {xs:List Value} (h:w.ownsRow base e sz v n xs) {g:Nat} (hg:v.ownBlock=some g):g<w.heap.size:=by
 rcases h.2 with ⟨hn,_⟩ | ⟨g',cap,cur,hv,hb,hg',rest⟩
 ·rw[hn] at hg;cases hg
 ·rw[hv] at hg
  have e:g'=g:=Option.some.inj hg
  subst e
  exact (VQ.1 hg').1
def nblk {α:Type} (v:Value) (L:List (α×Value)):List Nat:=v.ownBlock.toList++L.filterMap (·.2.ownBlock)
structure NestW {α:Type} (eO szO eI szI:Nat) (oc:α->Value->List Value) (ic:α->Nat×List Value) (w:World) (v:Value) (L:List (α×Value)):Prop where
 row:w.ownsRow 0 eO szO v L.length (L.flatMap fun q=>oc q.1 q.2)
 inn:∀ q∈L,w.ownsRow 0 eI szI q.2 (ic q.1).1 (ic q.1).2
 dis:(nblk v L).Nodup
section
variable {α:Type} {eO szO eI szI:Nat} {oc:α->Value->List Value} {ic:α->Nat×List Value} {w w':World} {v:Value} {L:List (α×Value)}
theorem NestW.lt (h:NestW eO szO eI szI oc ic w v L):∀ b∈nblk v L,b<w.heap.size:=by
 intro b hb
 rcases Xy.1 hb with hb | hb
 ·exact ownsRow_lt h.row (by simpa [Option.mem_toList] using hb)
 ·obtain⟨q,hq,hqb⟩:=XE.1 hb
  exact ownsRow_lt (h.inn q hq) hqb
theorem NestW.keep (h:NestW eO szO eI szI oc ic w v L) (hk:∀ b∈nblk v L,w'.heap[b]? =w.heap[b]?):NestW eO szO eI szI oc ic w' v L where
 row:=ownsRow_same h.row fun g hg=>hk g (Xy.2 (.inl (by rw[hg];simp)))
 inn:=fun q hq=>ownsRow_same (h.inn q hq) fun g hg=>hk g (Xy.2 (.inr (XE.2 ⟨q,hq,hg⟩)))
 dis:=h.dis
theorem NestW.nil (eO szO eI szI:Nat) (oc:α->Value->List Value) (ic:α->Nat×List Value) (w:World):NestW eO szO eI szI oc ic w (.slice none 0 0) [] where
 row:=⟨by simp,.inl ⟨rfl,rfl⟩⟩
 inn:=fun q hq=>by cases hq
 dis:=by simp[nblk,Value.ownBlock]
theorem NestW.push (h:NestW eO szO eI szI oc ic w v L) {a:α} {g cap:Nat} (hic:ic a=(0,[])) (hrow:w'.ownsRow 0 eO szO (.slice (some ⟨g,0,none⟩) (L.length+1) cap) (L.length+1) ((L.flatMap fun q=>oc q.1 q.2)++oc a (.slice none 0 0))) (hgr:w.grownBy w' v.ownBlock) (hg:v.ownBlock=some g\/w.heap.size<=g):NestW eO szO eI szI oc ic w' (.slice (some ⟨g,0,none⟩) (L.length+1) cap) (L++[(a,.slice none 0 0)]):=by
 have hd:=XN.1 h.dis
 refine⟨?_, ?_, ?_⟩
 ·simpa using hrow
 ·intro q hq
  rcases Xy.1 hq with hq | hq
  ·refine ownsRow_same (h.inn q hq) fun b hb=>hgr.block b (ownsRow_lt (h.inn q hq) hb) fun e=> ?_
   exact hd.2.2 b (by rw[<- e];simp) b (XE.2 ⟨q,hq,hb⟩) rfl
  ·rw[XL.1 hq,hic]
   exact⟨by simp,.inl ⟨rfl,rfl⟩⟩
 ·have e:nblk (Value.slice (some ⟨g,0,none⟩) (L.length+1) cap) (L++[(a,Value.slice none 0 0)])=g::L.filterMap (·.2.ownBlock):=by
   simp[nblk,Value.ownBlock,WN]
  rw[e,XO]
  refine⟨fun hm=> ?_,hd.2.1⟩
  rcases hg with hg | hg
  ·exact hd.2.2 g (by rw[hg];simp) g hm rfl
  ·have:=h.lt g (Xy.2 (.inr hm));omega
theorem setCell_same (W:World) (b k:Nat) (arr:Array Value) (T:TypeId) (fz:Nat×Nat) (v:Value) (h:W.heap[b]? =some (.cells arr T fz)):(W.setCell ⟨b,k,none⟩ v).heap[b]? =some (.cells (arr.setIfInBounds k v) T fz):=by
 simp[World.setCell,Array.getElem?_modify,h]
theorem setCell_far (W:World) (b k b':Nat) (v:Value) (h:b'≠b):(W.setCell ⟨b,k,none⟩ v).heap[b']? =W.heap[b']? :=by
 simp only[World.setCell,Array.getElem?_modify]
 rw[YQ (fun e=>h e.symm)]
theorem setCell_size (W:World) (b k:Nat) (v:Value):(W.setCell ⟨b,k,none⟩ v).heap.size=W.heap.size:=by
 simp[World.setCell]
theorem NestW.grow {w1:World} {L0:List (α×Value)} {a a':α} {hd:Value} (h:NestW eO szO eI szI oc ic w v (L0++[(a,hd)])) {g gi cap off:Nat} (hv:v.ownBlock=some g) {news:List Value} (hrow:w1.ownsRow 0 eI szI (.slice (some ⟨gi,0,none⟩) ((ic a).1+1) cap) ((ic a).1+1) ((ic a).2++news)) (hgr:w.grownBy w1 hd.ownBlock) (hg:hd.ownBlock=some gi\/gi=w.heap.size) (hic:ic a'=((ic a).1+1,(ic a).2++news)) (hsz:∀ x u,(oc x u).length=szO) (hoff:off<szO) (hoc:oc a' (.slice (some ⟨gi,0,none⟩) ((ic a).1+1) cap)=(oc a hd).set off (.slice (some ⟨gi,0,none⟩) ((ic a).1+1) cap)): NestW eO szO eI szI oc ic (w1.setCell ⟨g,L0.length*szO+off,none⟩ (.slice (some ⟨gi,0,none⟩) ((ic a).1+1) cap)) v (L0++[(a',.slice (some ⟨gi,0,none⟩) ((ic a).1+1) cap)]):=by
 have hdis:(g::(L0.filterMap (·.2.ownBlock)++hd.ownBlock.toList)).Nodup:=by
  have:=h.dis
  unfold nblk at this
  rw[hv,WN] at this
  cases ho:hd.ownBlock with
  | none=>simpa [ho] using this
  | some b=>simpa [ho] using this
 obtain⟨hgn,hdis2⟩:=XO.1 hdis
 obtain⟨hn0,_,hcross⟩:=XN.1 hdis2
 have hglt:g<w.heap.size:=ownsRow_lt h.row hv
 have hgi:gi≠g:=by
  rcases hg with hg | hg
  ·intro e;subst e;exact hgn (Xy.2 (.inr (by rw[hg];simp)))
  ·omega
 have hgin:∀ b∈L0.filterMap (·.2.ownBlock),b≠gi:=by
  intro b hb e
  subst e
  rcases hg with hg | hg
  ·exact hcross b hb b (by rw[hg];simp) rfl
  ·have:=h.lt b (by unfold nblk;rw[WN];exact Xy.2 (.inr (Xy.2 (.inl hb))));omega
 have hgh:some g≠hd.ownBlock:=fun e=>hgn (Xy.2 (.inr (by rw[<- e];simp)))
 obtain⟨g',capO,cur,hvv,_,hgw,hn,hcap,hcs,htk⟩:∃ g' cap cur,v= .slice (some ⟨g',0,none⟩) (L0++[(a,hd)]).length cap/\0<=g'/\w.heap[g']? =some (.cells cur eO (0,0))/\(L0++[(a,hd)]).length<=cap/\cap<=maxLen/\cur.size=cap*szO/\cur.toList.take ((L0++[(a,hd)]).length*szO)=(L0++[(a,hd)]).flatMap fun q=>oc q.1 q.2:=by
  rcases h.row.2 with ⟨e,_⟩ | e
  ·rw[e] at hv;cases hv
  ·exact e
 have e:g'=g:=by rw[hvv] at hv;exact Option.some.inj hv
 subst e
 have hlen:(L0++[(a,hd)]).length=L0.length+1:=by simp
 have hg1:w1.heap[g']? =some (.cells cur eO (0,0)):=(hgr.block g' hglt hgh).trans hgw
 have hflat:∀ (M:List (α×Value)),(M.flatMap fun q=>oc q.1 q.2).length=M.length*szO:=by
  intro M
  induction M with
  | nil=>simp
  | cons x r ih=>simp only[WQ,Xl,ih,hsz,Xm];rw[Nat.succ_mul];omega
 refine⟨?_, ?_, ?_⟩
 ·refine⟨by rw[hflat],.inr ⟨g',capO,cur.setIfInBounds (L0.length*szO+off) (.slice (some ⟨gi,0,none⟩) ((ic a).1+1) cap), ?_,Ys _,setCell_same _ _ _ _ _ _ _ hg1, ?_,hcap,by simpa using hcs, ?_⟩⟩
  ·rw[hvv,hlen];simp
  ·simpa using hn
  ·rw[Array.toList_setIfInBounds,List.take_set]
   have hl2:(L0++[(a',Value.slice (some ⟨gi,0,none⟩) ((ic a).1+1) cap)]).length=(L0++[(a,hd)]).length:=by simp
   rw[hl2,htk,WO,WO,List.flatMap_singleton,List.flatMap_singleton,List.set_append_right _ _ (by rw[hflat];omega),hflat]
   rw[show L0.length*szO+off - L0.length*szO=off by omega,hoc]
 ·intro q hq
  rcases Xy.1 hq with hq | hq
  ·have hq':=h.inn q (Xy.2 (.inl hq))
   refine ownsRow_same hq' fun b hb=> ?_
   have hbm:b∈L0.filterMap (·.2.ownBlock):=XE.2 ⟨q,hq,hb⟩
   rw[setCell_far _ _ _ _ _ (fun e=>hgn (Xy.2 (.inl (by rw[<- e];exact hbm))))]
   exact hgr.block b (ownsRow_lt hq' hb) fun e=>hcross b hbm b (by rw[<- e];simp) rfl
  ·rw[XL.1 hq,hic]
   refine ownsRow_same hrow fun b hb=>setCell_far _ _ _ _ _ ?_
   have:gi=b:=Option.some.inj hb
   omega
 ·have e:nblk v (L0++[(a',Value.slice (some ⟨gi,0,none⟩) ((ic a).1+1) cap)])=g'::(L0.filterMap (·.2.ownBlock)++[gi]):=by
   unfold nblk
   rw[hv,WN]
   rfl
  rw[e,XO]
  refine⟨fun hm=> ?_, ?_⟩
  ·rcases Xy.1 hm with hm | hm
   ·exact hgn (Xy.2 (.inl hm))
   ·exact hgi (XL.1 hm).symm
  ·refine XN.2 ⟨hn0,by simp,fun b hb c hc=> ?_⟩
   rw[XL.1 hc]
   exact hgin b hb
end
end Go.Dn
set_option maxRecDepth 100000
namespace Go.Proofs.SeatU
open Go.Dn Go.Md Go.Proofs Go.RowKit Go.Shelf Go.Lib
structure Lv (G G':Gh) (w w':World):Prop where
 kept:Kept w w'
 le:G.le G'
 agr:Agr G' w'
 old:∀ b,b<w.heap.size->G' b=G b
theorem qv {G:Gh} {w:World} (s:List UInt8) (W:List (List UInt8)) (ok:Bool) (hG:Agr G w) (hT:cq Tryz.prog G) (hm:iJ s=some (W,ok,())): Calls Tryz.prog 30 #[.string (bs s)] w fun e w'=>∃ G' u,e= .returned (.tuple #[u,.bool ok])/\Lv G G' w w'/\bN G' Ty.str.size (ax G' .str) W u:=by
 refine (NQ G w (fun _=>none) [.string (bs s)] (s,()) (W,ok,()) hG (fun b i h=>by cases h) ⟨_,[],fun _=>rfl,fun h=>Bool.noConfusion h,rfl,rfl⟩ hm hT).mono ?_
 rintro e w' ⟨G',ow',vs,g⟩
 obtain⟨u,us,rfl,⟨u0,e0,hu⟩,u2,us2,rfl,hb,h3,_⟩:=g.out
 cases e0
 have e2:[u2]=[Value.bool ok]:=hb
 have e3:us2=[]:=h3
 cases e2;subst e3
 exact⟨G',u,g.ret,⟨⟨g.size,g.os,g.output,fun b hb=>(g.old b hb rfl).1⟩,g.le,g.agr,fun b hb=>(g.old b hb rfl).2⟩,hu⟩
theorem Sl {G:Gh} {w:World} (s:List UInt8) (n:Int) (ok:Bool) (hG:Agr G w) (hT:cq Tryz.prog G) (hm:jK s 16=some (n,ok,())): Calls Tryz.prog 31 #[.string (bs s),.int .i64 16] w fun e w'=>e= .returned (.tuple #[.int .i64 n,.bool ok])/\Kept w w':=by
 refine (L1 G w (fun _=>none) [.string (bs s),.int .i64 16] (s,(16:Int),()) (n,ok,()) hG (fun b i h=>by cases h) ⟨_,_,fun _=>rfl,fun h=>Bool.noConfusion h,rfl,_,[],fun _=>rfl,fun h=>Bool.noConfusion h,rfl,rfl⟩ hm hT).mono ?_
 rintro e w' ⟨G',ow',vs,g⟩
 obtain⟨u,us,rfl,hu,u2,us2,rfl,hb,h3,_⟩:=g.out
 have e1:[u]=[Value.int .i64 n]:=hu
 have e2:[u2]=[Value.bool ok]:=hb
 have e3:us2=[]:=h3
 cases e1;cases e2;subst e3
 exact⟨g.ret,⟨g.size,g.os,g.output,fun b hb=>(g.old b hb rfl).1⟩⟩
theorem KS {G:Gh} {w:World} (s:List UInt8) (d:ah) (n:Int) (hG:Agr G w) (hT:cq Tryz.prog G) (hm:fC s=some (d,n,())): Calls Tryz.prog 32 #[.string (bs s)] w fun e w'=>e= .returned (.tuple #[.agg #[.int .i64 d.1,.int .i64 d.2],.int .i64 n])/\Kept w w':=by
 refine (DM G w (fun _=>none) [.string (bs s)] (s,()) (d,n,()) hG (fun b i h=>by cases h) ⟨_,[],fun _=>rfl,fun h=>Bool.noConfusion h,rfl,rfl⟩ hm hT).mono ?_
 rintro e w' ⟨G',ow',vs,g⟩
 obtain⟨u,us,rfl,hu,u2,us2,rfl,hb,h3,_⟩:=g.out
 obtain⟨cs,rfl,c1,c2,rfl,h1,h2⟩:=hu
 have e1:c1=[Value.int .i64 d.1]:=h1
 have e1':c2=[Value.int .i64 d.2]:=h2
 have e2:[u2]=[Value.int .i64 n]:=hb
 have e3:us2=[]:=h3
 subst e1;subst e1';cases e2;subst e3
 exact⟨g.ret,⟨g.size,g.os,g.output,fun b hb=>(g.old b hb rfl).1⟩⟩
theorem En {G:Gh} {w:World} (s t:List UInt8) (hG:Agr G w) (hT:cq Tryz.prog G) (hm:oS s=some (t,())): Calls Tryz.prog 33 #[.string (bs s)] w fun e w'=>e= .returned (.string (bs t))/\Kept w w':=by
 refine (L2 G w (fun _=>none) [.string (bs s)] (s,()) (t,()) hG (fun b i h=>by cases h) ⟨_,[],fun _=>rfl,fun h=>Bool.noConfusion h,rfl,rfl⟩ hm hT).mono ?_
 rintro e w' ⟨G',ow',vs,g⟩
 obtain⟨u,us,rfl,hu,h3,_⟩:=g.out
 have e1:[u]=[Value.string (bs t)]:=hu
 have e3:us=[]:=h3
 cases e1;subst e3
 exact⟨g.ret,⟨g.size,g.os,g.output,fun b hb=>(g.old b hb rfl).1⟩⟩
def iW (p:aa) (h:Value):List Value:=[.string (bs p.1),.string (bs p.2.1),.int .i64 p.2.2.1.1,.int .i64 p.2.2.1.2,h]
def gW (c:ay):List Value:=[.string (bs c.1),.string (bs c.2.1),.string (bs c.2.2.1),.int .i64 c.2.2.2.1,.int .i64 c.2.2.2.2]
def QS (p:aa):Nat×List Value:=(p.2.2.2.length,p.2.2.2.flatMap gW)
abbrev ym:=NestW 60 5 64 5 iW QS
structure RS (w:World) (bx:Nat) (a:ai) (v:Value) (L:List (aa×Value)):Prop where
 box:w.heap[bx]? =some (.cells #[.string (bs a.1),.string (bs a.2.1),.int .i64 a.2.2.1,v] 24 (0,0))
 nst:ym w v L
 map:L.map (·.1)=a.2.2.2
 out:bx∉nblk v L
theorem RS.keep {w w':World} {bx:Nat} {a:ai} {v:Value} {L:List (aa×Value)} (h:RS w bx a v L) (hk:∀ b∈bx::nblk v L,w'.heap[b]? =w.heap[b]?):RS w' bx a v L:=
 ⟨(hk bx (by simp)).trans h.box,h.nst.keep fun b hb=>hk b (by simp[hb]),h.map,h.out⟩
theorem RS.lt {w:World} {bx:Nat} {a:ai} {v:Value} {L:List (aa×Value)} (h:RS w bx a v L):∀ b∈bx::nblk v L,b<w.heap.size:=by
 intro b hb
 rcases XB.1 hb with rfl | hb
 ·exact aG h.box
 ·exact h.nst.lt b hb
theorem tr {G:Gh} {w:World} {W:List (List UInt8)} {u:Value} (h:bN G Ty.str.size (ax G .str) W u) (hA:Agr G w) (hne:W≠[]): ∃ b off cap,u= .slice (some ⟨b,off,none⟩) W.length cap/\W.length<=cap/\cap<=maxLen/\(∃ o,G b=some o)/\∀ i x,W[i]? =some x->w.cell? ⟨b,off+i,none⟩=some (.string (bs x)):=by
 obtain⟨a,cap,rfl,hcap,sw,hrow⟩:=h
 rcases hrow with hr | ⟨b,off,c,T,fz,rfl,hg,hin,hrep⟩
 ·exact absurd hr hne
 refine⟨b,off,cap,rfl,hcap,sw,⟨_,hg⟩,fun i x hi=> ?_⟩
 have hs:=uv hrep
 have hi2:=(congrArg (fun l:List Value=>l[i]?) hs).trans (show (W.map fun s=>Value.string (bs s))[i]? =some (.string (bs x)) by rw[Xb,hi];rfl)
 have hlt:=(Xa.1 hi).1
 have e1:Ty.str.size=1:=rfl
 have hlt2:i<W.length*Ty.str.size:=by rw[e1,Yn];exact hlt
 have hi2:=hi2
 erw [Xh hlt2,WY] at hi2
 simp[World.cell?,hA b _ hg]
 simpa using hi2
theorem cell_far {W:World} {bx k b o:Nat} {v u:Value} (h:b≠bx) (hc:W.cell? ⟨b,o,none⟩=some u):(W.setCell ⟨bx,k,none⟩ v).cell? ⟨b,o,none⟩=some u:=by
 simp only[World.cell?] at hc ⊢
 rw[setCell_far _ _ _ _ _ h]
 exact hc
theorem fT {W:World} {a:Addr} {u:Value} (hc:W.cell? a=some u):W.drew.cell? a=some u:=hc
theorem GG {G:Gh} {b bx:Nat} (h:∃ o,G b=some o) (hx:G bx=none):b≠bx:=by
 rintro rfl
 obtain⟨o,ho⟩:=h
 rw[hx] at ho;cases ho
end Go.Proofs.SeatU
set_option maxRecDepth 100000
namespace Go.Proofs.SeatU
open Go.Dn Go.Md Go.Proofs Go.RowKit Go.Shelf Go.Lib
attribute [local go_sem ↓] Go.wp_at_zero Go.wp_at_succ
theorem aL {w w':World} (h:Kept w w') {a:Addr} {v:Value} (hc:w.cell? a=some v):w'.cell? a=some v:=by
 simp only[World.cell?] at hc ⊢
 cases hb:w.heap[a.block]? with
 | none=>rw[hb] at hc;cases hc
 | some o=>rw[h.block _ (aG hb),hb];rw[hb] at hc;exact hc
theorem UA (G:Gh) (w:World) (bx:Nat) (first:Bool) (s:List UInt8) (W:List (List UInt8)) (hG:Agr G w) (hT:cq Tryz.prog G) (hm:iJ s=some (W,false,())): Calls Tryz.prog 12 #[.pointer (some ⟨bx,0,none⟩),.bool first,.string (bs s)] w fun e w'=>e= .returned (.bool false)/\Kept w w':=by
 have e30:∀ args w,(callFunc 30 args).run Tryz.prog w= .ok (.enter 30 args) w:=enters_of Tryz.func30 (by kernel_rfl) rfl
 have mixed:Tryz.prog.follows .mixedOrders=true:=by kernel_rfl
 have late:Tryz.prog.follows .lateStores=true:=by kernel_rfl
 have t3:=Tryz.underlying3;have t4:=Tryz.underlying4;have t9:=Tryz.underlying9;have t22:=Tryz.underlying22;have t34:=Tryz.underlying34
 have hw:=qv s _ _ hG hT hm
 go_enter Tryz.func12,Tryz.ntmps12
 go_wp2_with (go_at_fn 30;refine hw.mono ?_;rintro e w2 ⟨G2,u,rfl,hlv,hu⟩)
 go_ret
 exact⟨rfl,hlv.kept⟩
set_option maxHeartbeats 1000000 in
theorem TM (G:Gh) (w:World) (bx:Nat) (first:Bool) (s:List UInt8) (w0:List UInt8) (r:List (List UInt8)) (av:Option Addr) (n cap':Nat) (hG:Agr G w) (hT:cq Tryz.prog G) (hm:iJ s=some (w0::r,true,())) (cb:w.cell? ⟨bx,3,none⟩=some (.slice av n cap')) (ea ep ec l4 l5:Bool) (ha:((bs w0).toList==[97,100,118,105,99,101])=ea) (hp:((bs w0).toList==[112,97,114,99,101,108])=ep) (hc:((bs w0).toList==[99,111,110,116,101,110,116])=ec) (h4:((r.length:Int)+1==4)=l4) (h5:((r.length:Int)+1==5)=l5) (hno:(first=false/\ea=true)\/(first=true/\ea=false)\/(first=true/\ea=true/\ep=false/\ec=false/\l4=false)\/(first=false/\ea=false/\ep=true/\ec=false/\l4=false)\/(first=false/\ea=false/\ep=false/\ec=false)\/(first=false/\ea=false/\ep=false/\ec=true/\l5=false)\/(first=false/\ea=false/\ep=false/\ec=true/\l5=true/\n=0)): Calls Tryz.prog 12 #[.pointer (some ⟨bx,0,none⟩),.bool first,.string (bs s)] w fun e w'=>e= .returned (.bool false)/\Kept w w':=by
 have e30:∀ args w,(callFunc 30 args).run Tryz.prog w= .ok (.enter 30 args) w:=enters_of Tryz.func30 (by kernel_rfl) rfl
 have mixed:Tryz.prog.follows .mixedOrders=true:=by kernel_rfl
 have late:Tryz.prog.follows .lateStores=true:=by kernel_rfl
 have t3:=Tryz.underlying3;have t4:=Tryz.underlying4;have t9:=Tryz.underlying9;have t22:=Tryz.underlying22;have t34:=Tryz.underlying34;have t24:=Tryz.underlying24
 have hw:=qv s _ _ hG hT hm
 go_enter Tryz.func12,Tryz.ntmps12
 rcases hno with ⟨rfl,rfl⟩ | ⟨rfl,rfl⟩ | ⟨rfl,rfl,rfl,rfl,rfl⟩ | ⟨rfl,rfl,rfl,rfl,rfl⟩ | ⟨rfl,rfl,rfl,rfl⟩ | ⟨rfl,rfl,rfl,rfl,rfl⟩ | ⟨rfl,rfl,rfl,rfl,rfl,rfl⟩
 all_goals go_wp2_with (go_at_fn 30;refine hw.mono ?_;rintro e w2 ⟨G2,u,rfl,hlv,hu⟩;obtain⟨b,off,cap,rfl,hcap,sw,hfz,hcell⟩:=tr hu hlv.agr (List.cons_ne_nil _ _);have c0:w2.cell? ⟨b,off,none⟩=some (.string (bs w0)):=hcell 0 w0 rfl;have cb2:=aL hlv.kept cb;clear hcell)
 all_goals go_ret
 all_goals exact⟨rfl,hlv.kept⟩
end Go.Proofs.SeatU
set_option maxRecDepth 100000
namespace Go.Proofs.SeatU
open Go.Dn Go.Md Go.Proofs Go.RowKit Go.Shelf Go.Lib
attribute [local go_sem ↓] Go.wp_at_zero Go.wp_at_succ
theorem dh {w:World} {b:Nat} {a0 a1 a2 a3:Value} {T:TypeId} (h:w.heap[b]? =some (.cells #[a0,a1,a2,a3] T (0,0))): (w.cell? ⟨b,0,none⟩=some a0/\w.cell? ⟨b,1,none⟩=some a1/\w.cell? ⟨b,2,none⟩=some a2/\w.cell? ⟨b,3,none⟩=some a3)/\∀ o,w.frozen? ⟨b,o,none⟩=false:=by
 refine⟨⟨by simp[World.cell?,h],by simp[World.cell?,h],by simp[World.cell?,h],by simp[World.cell?,h]⟩,fun o=>by simp[World.frozen?,h]⟩
theorem J6 {G G2:Gh} {w w2:World} (h:Lv G G2 w w2) {b:Nat} (hb:b<w.heap.size) (hg:G b=none):G2 b=none:=(h.old b hb).trans hg
set_option maxHeartbeats 2000000 in
theorem SJ (G:Gh) (w:World) (bx:Nat) (s:List UInt8) (w0 w1 w2 w3:List UInt8) (a0 a1 v:Value) (a2:Value) (n:Int) (ok:Bool) (hG:Agr G w) (hT:cq Tryz.prog G) (hm:iJ s=some ([w0,w1,w2,w3],true,())) (hb:w.heap[bx]? =some (.cells #[a0,a1,a2,v] 24 (0,0))) (hgb:G bx=none) (ha:((bs w0).toList==[97,100,118,105,99,101])=true) (hn:jK w3 16=some (n,ok,())): Calls Tryz.prog 12 #[.pointer (some ⟨bx,0,none⟩),.bool true,.string (bs s)] w fun e w'=>e= .returned (.bool ok)/\w.heap.size<=w'.heap.size/\w'.os=w.os/\w'.output=w.output/\(∀ b,b<w.heap.size->b≠bx->w'.heap[b]? =w.heap[b]?)/\w'.heap[bx]? =some (.cells #[.string (bs w1),.string (bs w2),.int .i64 n,v] 24 (0,0)):=by
 have e30:∀ args w,(callFunc 30 args).run Tryz.prog w= .ok (.enter 30 args) w:=enters_of Tryz.func30 (by kernel_rfl) rfl
 have e31:∀ args w,(callFunc 31 args).run Tryz.prog w= .ok (.enter 31 args) w:=enters_of Tryz.func31 (by kernel_rfl) rfl
 have mixed:Tryz.prog.follows .mixedOrders=true:=by kernel_rfl
 have late:Tryz.prog.follows .lateStores=true:=by kernel_rfl
 have t3:=Tryz.underlying3;have t4:=Tryz.underlying4;have t9:=Tryz.underlying9;have t22:=Tryz.underlying22;have t34:=Tryz.underlying34;have t24:=Tryz.underlying24
 have hw:=qv s _ _ hG hT hm
 go_enter Tryz.func12,Tryz.ntmps12
 go_wp2_with (first | (go_at_fn 30;refine hw.mono ?_;rintro e W2 ⟨G2,u,rfl,hlv,hu⟩;obtain⟨b,off,cap,rfl,hcap,sw,hfz,hcell⟩:=tr hu hlv.agr (List.cons_ne_nil _ _);have c0:W2.cell? ⟨b,off,none⟩=some (.string (bs w0)):=hcell 0 w0 rfl;have c3:W2.cell? ⟨b,off+3,none⟩=some (.string (bs w3)):=hcell 3 w3 rfl;have hnum:=Sl w3 n ok hlv.agr (hT.mono hlv.le) hn) | (go_at_fn 31;refine hnum.mono ?_;rintro e W3 ⟨rfl,hk3⟩))
 have hgb2:G2 bx=none:=J6 hlv (aG hb) hgb
 have hb2:W2.heap[bx]? =some (.cells #[a0,a1,a2,v] 24 (0,0)):=(hlv.kept.block bx (aG hb)).trans hb
 have hb3:W3.heap[bx]? =some (.cells #[a0,a1,a2,v] 24 (0,0)):=(hk3.block bx (aG hb2)).trans hb2
 obtain⟨⟨q0,q1,q2,q3⟩,qf⟩:=dh hb3
 have d1:W3.cell? ⟨b,off+1,none⟩=some (.string (bs w1)):=aL hk3 (hcell 1 w1 rfl)
 have d2:W3.cell? ⟨b,off+2,none⟩=some (.string (bs w2)):=aL hk3 (hcell 2 w2 rfl)
 have hne:b≠bx:=GG hfz hgb2
 have f0:=qf 0
 have f1:=qf 1
 have f2:=qf 2
 clear hcell hu hw hnum
 go_region_held3 (fun W=>W.cell? ⟨b,off+1,none⟩=some (.string (bs w1))/\W.cell? ⟨b,off+2,none⟩=some (.string (bs w2))) (refine And.intro ?_ ?_<;>(repeat (first | exact d1 | exact d2 | refine fT ?_ | refine cell_far hne ?_))) (fail)
 go_wp2
 go_ret
 have k0:=setCell_same W3 bx 0 _ _ _ (.string (bs w1)) hb3
 have k1:=setCell_same _ bx 1 _ _ _ (.string (bs w2)) k0
 have k2:=setCell_same _ bx 2 _ _ _ (.int .i64 n) k1
 refine⟨rfl, ?_,hk3.os.trans hlv.kept.os,hk3.output.trans hlv.kept.output,fun b' hb' hne'=> ?_,k2⟩
 ·show w.heap.size<=(((W3.setCell ⟨bx,0,none⟩ (.string (bs w1))).setCell ⟨bx,1,none⟩ (.string (bs w2))).setCell ⟨bx,2,none⟩ (.int .i64 n)).heap.size
  rw[setCell_size,setCell_size,setCell_size]
  exact Yd hlv.kept.size hk3.size
 ·show (((W3.setCell ⟨bx,0,none⟩ (.string (bs w1))).setCell ⟨bx,1,none⟩ (.string (bs w2))).setCell ⟨bx,2,none⟩ (.int .i64 n)).heap[b']? =_
  rw[setCell_far _ _ _ _ _ hne',setCell_far _ _ _ _ _ hne',setCell_far _ _ _ _ _ hne']
  exact (hk3.block b' (Ye hb' hlv.kept.size)).trans (hlv.kept.block b' hb')
end Go.Proofs.SeatU
