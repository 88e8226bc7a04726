/-
  Read of the reference by a walk; both as their models say. No condition.
-/
import Derived.Test.YtjlkkapojeldlaaGreatDoorYG
set_option linter.all false
set_option maxRecDepth 100000
namespace Go.Proofs.SeatU
open Go.Dn Go.Md Go.Proofs Go.RowKit Go.Shelf Go.Lib
end Go.Proofs.SeatU
set_option maxRecDepth 100000
namespace Go.Proofs.SeatU
open Go.Dn Go.Md Go.Proofs Go.RowKit Go.Shelf Go.Lib
structure RdR (w wr:World) (a:ai) (av:Option Addr) (n c:Nat) (L:List (aa×Value)) (i:Nat):Prop where
 box:wr.heap[w.heap.size+1]? =some (.cells #[.string (bs a.1),.string (bs a.2.1),.int .i64 a.2.2.1,.slice av n c] 24 (0,0))
 nst:ym wr (.slice av n c) L
 map:L.map (·.1)=a.2.2.2
 fr:∀ b∈nblk (.slice av n c) L,w.heap.size+1<b
 kb:w.heap.size<=wr.heap.size/\wr.os=w.os/\wr.output=w.output/\∀ b,b<w.heap.size->wr.heap[b]? =w.heap[b]?
 res:wr.heap[w.heap.size]? =some (.cells gq 24 (0,0))
 len:a.2.2.2.length<=i
 lens:∀ p∈a.2.2.2,p.2.2.2.length<=i
theorem RdR.kept {w wr W:World} {a:ai} {av:Option Addr} {n c:Nat} {L:List (aa×Value)} {i:Nat} (h:RdR w wr a av n c L i) (hk:Kept wr W):RdR w W a av n c L i:=
 ⟨(hk.block _ (aG h.box)).trans h.box,h.nst.keep fun b hb=>hk.block b (h.nst.lt b hb),h.map,h.fr,⟨Yd h.kb.1 hk.size,hk.os.trans h.kb.2.1,hk.output.trans h.kb.2.2.1,fun b hb=>(hk.block b (Ye hb h.kb.1)).trans (h.kb.2.2.2 b hb)⟩,(hk.block _ (aG h.res)).trans h.res,h.len,h.lens⟩
theorem RdR.agr {G:Gh} {w wr:World} {a:ai} {av:Option Addr} {n c:Nat} {L:List (aa×Value)} {i:Nat} (h:RdR w wr a av n c L i) (hG:Agr G w):Agr G wr:=fun b o hb=>(h.kb.2.2.2 b (aG (hG b o hb))).trans (hG b o hb)
theorem RdR.fin {w wr W Wz:World} {a:ai} {av:Option Addr} {n c:Nat} {L:List (aa×Value)} {i:Nat} (h:RdR w wr a av n c L i) (hs:wr.heap.size<=W.heap.size) (ho:W.os=wr.os) (hp:W.output=wr.output) (hb:∀ b,b<w.heap.size->W.heap[b]? =wr.heap[b]?)
 (s2:∀ k,k≠w.heap.size->Wz.heap[k]? =W.heap[k]?) (s3:Wz.heap.size=W.heap.size) (ho2:Wz.os=W.os:=by rfl) (hp2:Wz.output=W.output:=by rfl):Kept w Wz:=
 ⟨by rw[s3];exact Yd h.kb.1 hs,ho2.trans (ho.trans h.kb.2.1),hp2.trans (hp.trans h.kb.2.2.1),fun b hb'=>(s2 b (by omega)).trans ((hb b hb').trans (h.kb.2.2.2 b hb'))⟩
theorem RdR.next {w wr W3:World} {a a':ai} {av av':Option Addr} {n c n' c':Nat} {L L':List (aa×Value)} {i:Nat} {f:Bool} {s:List UInt8} (h:RdR w wr a av n c L i) (hr:rdL a f s=some a') (h1:wr.heap.size<=W3.heap.size) (h2:W3.os=wr.os) (h3:W3.output=wr.output) (h4:∀ b,b<wr.heap.size->b∉nblk (.slice av n c) L->W3.heap[b]? =wr.heap[b]?) (hN:ym W3 (.slice av' n' c') L') (hM:L'.map (·.1)=a'.2.2.2) (hb:∀ b∈nblk (.slice av' n' c') L',b∈nblk (.slice av n c) L\/wr.heap.size<=b) {W9:World} (hk:∀ k,k≠w.heap.size+1->k<W3.heap.size->W9.heap[k]? =W3.heap[k]?) (hbx:W9.heap[w.heap.size+1]? =some (.cells #[.string (bs a'.1),.string (bs a'.2.1),.int .i64 a'.2.2.1,.slice av' n' c'] 24 (0,0))) (hs9:W3.heap.size<=W9.heap.size) (ho:W9.os=W3.os) (hp:W9.output=W3.output):RdR w W9 a' av' n' c' L' (i+1):=by
 obtain⟨l1,l2⟩:=PW hr h.len h.lens
 have hx1:w.heap.size+1<wr.heap.size:=aG h.box
 have hfr:∀ b∈nblk (.slice av' n' c') L',w.heap.size+1<b:=fun b hm=>by
  rcases hb b hm with hm | hm
  ·exact h.fr b hm
  ·omega
 refine⟨hbx,hN.keep fun b hm=>hk b (by have:=hfr b hm;omega) (hN.lt b hm),hM,hfr,⟨by have:=h.kb.1;omega,ho.trans (h2.trans h.kb.2.1),hp.trans (h3.trans h.kb.2.2.1),fun b hbN=> ?_⟩, ?_,l1,l2⟩
 ·rw[hk b (by omega) (by omega),h4 b (by omega) (fun hm=>by have:=h.fr b hm;omega)]
  exact h.kb.2.2.2 b hbN
 ·rw[hk _ (by omega) (by omega),h4 _ (by omega) (fun hm=>by have:=h.fr _ hm;omega)]
  exact h.res
end Go.Proofs.SeatU
set_option maxRecDepth 100000
namespace Go.Proofs.SeatU
open Go.Dn Go.Md Go.Proofs Go.RowKit Go.Shelf Go.Lib
def P7 (G:Gh) (w:World) (a:ai) (n f:Int) (e:Ending) (w':World):Prop:=
 ∃ v,e= .returned (.tuple #[.agg (yS a v).toArray,.int .i64 n,.int .i64 f])/\Kept w w'/\bN (frz w.heap.size G w') az.size (ax (frz w.heap.size G w') az) a.2.2.2 v
theorem BH {G:Gh} {w w':World} {n f:Int} {e:Ending} (he:e= .returned (.tuple #[.agg gq,.int .i64 n,.int .i64 f])) (hk:Kept w w'):P7 G w zA n f e w':=
 ⟨.slice none 0 0,he,hk,none,0,rfl,Yc _,by decide,.inl rfl⟩
theorem O5 {G:Gh} {w:World} (t:List UInt8) (a:ai) (n f:Int) (hG:Agr G w) (hT:cq Tryz.prog G) (hm:mZ t=some (a,n,f,())):Calls Tryz.prog 5 #[.string (bs t)] w fun e w'=>P7 G w a n f e w':=by
 unfold mZ at hm
 by_cases hl:(300000:Int)<(t.length:Int)
 ·rw[YJ hl,YG] at hm
  cases hm
  exact (Q0 w t hl).mono fun e w' ⟨h1,h2⟩=>BH h1 h2
 ·rw[YI hl,YF] at hm
  obtain⟨Ls,e0,hL,_,_,h1,h2,_⟩:=DC t (by omega)
  rw[hL,Yt] at hm
  dsimp only at hm
  cases hLs:Ls.isEmpty with
  | true=>
   have:Ls=[]:=by simpa using hLs
   subst this
   rw[hLs,YG] at hm
   cases hm
   exact (SF G w t e0 hG hT hl hL).mono fun e w' ⟨h1,h2⟩=>BH h1 h2
  | false=>
   rw[hLs,YF] at hm
   have hne:Ls≠[]:=fun h=>by rw[h] at hLs;cases hLs
   obtain⟨o,ho⟩:∃ o,pGo e0 Ls 0 zA=o:=⟨_,rfl⟩
   rw[ho] at hm
   cases o with
   | inr k=>
    dsimp only at hm
    cases hm
    refine (Ld G w t Ls e0 0 hG hT hl hL hne (by omega) h2 (fun a ha=>by rw[ho] at ha;cases ha)).mono ?_
    rintro e w' ⟨hk,⟨k',hk',he⟩ | ⟨a,ha,_⟩⟩
    ·rw[ho] at hk';cases hk'
     exact BH he hk
    ·rw[ho] at ha;cases ha
   | inl b=>
    dsimp only at hm
    cases hq:cg b with
    | none=>rw[hq] at hm;cases hm
    | some q=>
     obtain⟨q,u⟩:=q
     rw[hq,Yt] at hm
     dsimp only at hm
     refine (Ld G w t Ls e0 q hG hT hl hL hne (by omega) h2 (fun a ha=>by rw[ho] at ha;cases ha;exact hq)).mono ?_
     rintro e w' ⟨hk,⟨k',hk',he⟩ | ⟨a',ha,hh⟩⟩
     ·rw[ho] at hk';cases hk'
     ·rw[ho] at ha;cases ha
      rcases hh with ⟨hq0,he⟩ | ⟨hq0,v,he,hv⟩
      ·have hb:(q != 0)=true:=by simpa using hq0
       rw[hb,YG] at hm
       cases hm
       exact BH he hk
      ·subst hq0
       have hm:some (b,(0:Int),(0:Int),())=some (a,n,f,()):=hm
       cases hm
       exact⟨v,he,hk,hv⟩
theorem OR {P:Program} {f:FuncId} {m:List UInt8->Option (ai×Int×Int×Unit)} (h:∀ {G:Gh} {w:World} (t:List UInt8) (a:ai) (n k:Int),Agr G w->cq P G->m t=some (a,n,k,())->Calls P f #[.string (bs t)] w fun e w'=>P7 G w a n k e w'): bQ P f ⟨[.val .str],[.val cH,.val tI,.val tI],fun x=>m x.1⟩:=by
 intro G w ow args x y hG how ha hm hT
 obtain⟨t,u⟩:=x
 obtain⟨a,n,k,u'⟩:=y
 obtain⟨v,us,h1,_,hv,h3⟩:=ha
 have e1:=h1 rfl
 have e3:us=[]:=h3
 subst e1;subst e3
 have e0:[v]=[Value.string (bs t)]:=hv
 cases e0
 refine (h t a n k hG hT hm).mono ?_
 rintro e w' ⟨v,he,hk,hr⟩
 refine⟨frz w.heap.size G w',fun _=>none,[.agg (yS a v).toArray,.int .i64 n,.int .i64 k], ?_⟩
 exact {
  ret:=he
  le:=Nn hG (Yc _)
  agr:=JT fun b hb o ho=>(hk.block b hb).trans (hG b o ho)
  size:=hk.size
  os:=hk.os
  output:=hk.output
  old:=fun i hlt _=>⟨hk.block i hlt,by simp only[frz,YR hlt]⟩
  own:=fun i j hij=>by cases hij
  out:=⟨_,_,rfl,⟨_,rfl,[.string (bs a.1)],_,rfl,rfl,[.string (bs a.2.1)],_,rfl,rfl,[.int .i64 a.2.2.1],_,rfl,rfl,_,rfl,hr⟩,_,_,rfl,rfl,_,_,rfl,rfl,rfl,trivial⟩
  hnd:=fun _=>rfl }
noncomputable def AA:ak:=⟨[.val .str],[.val cH,.val tI,.val tI],fun x=>mZ x.1⟩
theorem JV:cm Tryz.prog 5:=cX (fn:=Tryz.f5) (by kernel_rfl) rfl (by decide)
theorem Kc:bQ Tryz.prog 5 AA:=OR fun t a n k hG hT hm=>O5 t a n k hG hT hm
end Go.Proofs.SeatU
