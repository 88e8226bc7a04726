/-
  parcel.Read by a walk. No condition.
-/
import Derived.Test.YtjlkkapojeldlaaGreatDoorYC
import Derived.Test.YtjlkkapojeldlaaGreatDoorYh
set_option linter.all false
set_option maxRecDepth 100000
namespace Go.Proofs.SeatU
open Go.Dn Go.Md Go.Proofs Go.RowKit Go.Shelf Go.Lib
theorem J4 (n k:Nat):((n+1==k):Bool)=((n:Int)+1==(k:Int)):=by
 by_cases h:n+1=k
 ·subst h
  rw[YD,show ((n:Int)+1)=((n+1:Nat):Int) by omega,YD]
 ·rw[YC h,YC (by omega)]
def Lin (bx:Nat) (w w':World) (nb:List Nat) (e:Ending) (o:Option ai):Prop:=
 w.heap.size<=w'.heap.size/\w'.os=w.os/\w'.output=w.output/\(∀ b,b<w.heap.size->b∉bx::nb->w'.heap[b]? =w.heap[b]?)/\
  ((o=none/\e= .returned (.bool false))\/∃ a',o=some a'/\e= .returned (.bool true)/\∃ v' L',RS w' bx a' v' L'/\∀ b∈nblk v' L',b∈nb\/w.heap.size<=b)
theorem Lt (s:List UInt8):oS s=some (wI s,()):=by
 unfold oS wI
 cases s==[45]<;>rfl
theorem R5 {bx:Nat} {w w':World} {nb:List Nat} {e:Ending} (he:e= .returned (.bool false)) (h:Kept w w'):Lin bx w w' nb e none:=
 ⟨h.size,h.os,h.output,fun b hb _=>h.block b hb,.inl ⟨rfl,he⟩⟩
theorem nM {a b c:List UInt8} (h:(a==b)=true) (hbc:b≠c):(a==c)=false:=by
 have:=eq_of_beq h;subst this
 cases hh:(a==c) with
 | false=>rfl
 | true=>exact absurd (eq_of_beq hh) hbc
theorem Kv (G:Gh) (w:World) (bx:Nat) (first:Bool) (s:List UInt8) (a:ai) (v:Value) (L:List (aa×Value)) (hG:Agr G w) (hT:cq Tryz.prog G) (hs:s.length<=1000000) (hR:RS w bx a v L) (hgb:∀ b∈bx::nblk v L,G b=none) (hL:L.length<=1000000) (hK:∀ q∈L,q.1.2.2.2.length<=1000000): Calls Tryz.prog 12 #[.pointer (some ⟨bx,0,none⟩),.bool first,.string (bs s)] w fun e w'=>Lin bx w w' (nblk v L) e (rdL a first s):=by
 have hm:=NB s hs
 unfold rdL
 cases hf:nA (aS 32 s) with
 | false=>
  rw[hf] at hm
  exact (UA G w bx first s [] hG hT hm).mono fun e w' ⟨h1,h2⟩=>R5 h1 h2
 | true=>
  rw[hf] at hm
  simp only[YG] at hm ⊢
  have hwl:=(ov 32 s).2
  have hne:=F1 32 s
  generalize aS 32 s=W at hm hf hwl hne
  obtain⟨w0,r,rfl⟩:∃ w0 r,W=w0::r:=by
   cases W with
   | nil=>exact absurd rfl hne
   | cons x y=>exact⟨x,y,rfl⟩
  obtain⟨av,capv,hav⟩:∃ av capv,v= .slice av L.length capv:=by
   rcases hR.nst.row.2 with ⟨e,e2⟩ | ⟨g,cap,cur,e,_⟩
   ·exact⟨none,0,by rw[e,e2]⟩
   ·exact⟨_,_,e⟩
  have cb:=(dh hR.box).1.2.2.2
  rw[hav] at cb
  obtain⟨ea,ha⟩:∃ ea,((bs w0).toList==[97,100,118,105,99,101])=ea:=⟨_,rfl⟩
  obtain⟨ep,hp⟩:∃ ep,((bs w0).toList==[112,97,114,99,101,108])=ep:=⟨_,rfl⟩
  obtain⟨ec,hc⟩:∃ ec,((bs w0).toList==[99,111,110,116,101,110,116])=ec:=⟨_,rfl⟩
  obtain⟨l4,h4⟩:∃ l4,((r.length:Int)+1==4)=l4:=⟨_,rfl⟩
  obtain⟨l5,h5⟩:∃ l5,((r.length:Int)+1==5)=l5:=⟨_,rfl⟩
  have ha':=ha;have hp':=hp;have hc':=hc
  rw[Hq] at ha' hp' hc'
  have hno:=fun h=>(TM G w bx first s w0 r av L.length capv hG hT hm cb ea ep ec l4 l5 ha hp hc h4 h5 h).mono fun e w' (h:_/\_)=>R5 (bx:=bx) (nb:=nblk v L) h.1 h.2
  have hlen4:((w0::r).length==4)=l4:=by
   rw[<- h4,Xm]
   exact J4 _ _
  have hlen5:((w0::r).length==5)=l5:=by
   rw[<- h5,Xm]
   exact J4 _ _
  unfold rdW
  simp only[List.headD_cons,ha',hp',hc',hlen4,hlen5]
  cases first with
  | true=>
   rw[YG]
   cases ea with
   | false=>exact hno (.inr (.inl ⟨rfl,rfl⟩))
   | true=>
    cases l4 with
    | false=>
     have e1:ep=false:=by rw[<- hp'];exact nM ha' (by decide)
     have e2:ec=false:=by rw[<- hc'];exact nM ha' (by decide)
     exact hno (.inr (.inr (.inl ⟨rfl,rfl,e1,e2,rfl⟩)))
    | true=>
     obtain⟨w1,w2,w3,rfl⟩:∃ w1 w2 w3,r=[w1,w2,w3]:=by
      have:r.length=3:=by have:=eq_of_beq hlen4;simpa using this
      match r,this with
      | [a,b,c],_=>exact⟨a,b,c,rfl⟩
     have hn:=LY w3
     refine (SJ G w bx s w0 w1 w2 w3 _ _ v _ _ _ hG hT hm hR.box (hgb bx (by simp)) ha hn).mono ?_
     rintro e w' ⟨h1,h2,h3,h4,h5,h6⟩
     refine⟨h2,h3,h4,fun b hb hn=>h5 b hb fun e=>hn (by simp[e]), ?_⟩
     simp only[List.getD_cons_succ,List.getD_cons_zero,Wg]
     cases hok:wO w3 with
     | false=>rw[hok] at h1;exact .inl ⟨rfl,h1⟩
     | true=>
      rw[hok] at h1
      refine .inr ⟨_,rfl,h1,v,L,⟨h6,hR.nst.keep fun b hb=>h5 b (hR.lt b (by simp[hb])) fun e=>hR.out (e ▸ hb),hR.map,hR.out⟩,fun b hb=> .inl hb⟩
  | false=>
   rw[YF]
   cases ea with
   | true=>
    have e1:ep=false:=by rw[<- hp'];exact nM ha' (by decide)
    have e2:ec=false:=by rw[<- hc'];exact nM ha' (by decide)
    subst e1;subst e2
    exact hno (.inl ⟨rfl,rfl⟩)
   | false=>
    cases ep with
    | true=>
     have e2:ec=false:=by rw[<- hc'];exact nM hp' (by decide)
     subst e2
     cases l4 with
     | false=>exact hno (.inr (.inr (.inr (.inl ⟨rfl,rfl,rfl,rfl,rfl⟩))))
     | true=>
      obtain⟨w1,w2,w3,rfl⟩:∃ w1 w2 w3,r=[w1,w2,w3]:=by
       have:r.length=3:=by have:=eq_of_beq hlen4;simpa using this
       match r,this with
       | [a,b,c],_=>exact⟨a,b,c,rfl⟩
      have hd:=vf w3 (Yd (hwl w3 (by simp)) hs)
      refine (SK G w bx s w0 w1 w2 w3 a v L _ _ _ hG hT hm hR hgb hL ha hp hd (Lt w2)).mono ?_
      rintro e w' ⟨h1,h2,h3,h4,h5,v',h6,h7⟩
      refine⟨h2,h3,h4,h5, ?_⟩
      simp only[List.getD_cons_succ,List.getD_cons_zero,Wg,YG]
      cases hok:((kU w3).2==0) with
      | false=>rw[hok] at h1;exact .inl ⟨rfl,h1⟩
      | true=>rw[hok] at h1;exact .inr ⟨_,rfl,h1,_,_,h6,h7⟩
    | false=>
     cases ec with
     | false=>exact hno (.inr (.inr (.inr (.inr (.inl ⟨rfl,rfl,rfl,rfl⟩)))))
     | true=>
      cases l5 with
      | false=>exact hno (.inr (.inr (.inr (.inr (.inr (.inl ⟨rfl,rfl,rfl,rfl,rfl⟩))))))
      | true=>
       rw[<- hR.map]
       rcases List.eq_nil_or_concat L with e | ⟨L0,q,e⟩
       ·subst e
        exact hno (.inr (.inr (.inr (.inr (.inr (.inr ⟨rfl,rfl,rfl,rfl,rfl,rfl⟩))))))
       ·obtain⟨p,h⟩:=q
        rw[List.concat_eq_append] at e
        subst e
        obtain⟨w1,w2,w3,w4,rfl⟩:∃ w1 w2 w3 w4,r=[w1,w2,w3,w4]:=by
         have:r.length=4:=by have:=eq_of_beq hlen5;simpa using this
         match r,this with
         | [a,b,c,d],_=>exact⟨a,b,c,d,rfl⟩
        have hd:=vf w4 (Yd (hwl w4 (by simp)) hs)
        refine (Q3 G w bx s w0 w1 w2 w3 w4 a v L0 p h _ _ _ hG hT hm hR hgb (by simp at hL;omega) (hK (p,h) (by simp)) ha hp hc hd (Lt w3)).mono ?_
        rintro e w' ⟨h1,h2,h3,h4,h5,h',h6,h7⟩
        refine⟨h2,h3,h4,h5, ?_⟩
        have hemp:((L0++[(p,h)]).map (·.1)).isEmpty=false:=by simp
        simp only[List.getD_cons_succ,List.getD_cons_zero,Wg,YG,YF,V3,hemp,Wc]
        cases hok:((kU w4).2==0) with
        | false=>rw[hok] at h1;exact .inl ⟨rfl,h1⟩
        | true=>
         rw[hok] at h1
         refine .inr ⟨_,rfl,h1,_,_, ?_,h7⟩
         rw[hR.map]
         exact h6
end Go.Proofs.SeatU
set_option maxRecDepth 100000
namespace Go.Proofs.SeatU
open Go.Dn Go.Md Go.Proofs Go.RowKit Go.Shelf Go.Lib
theorem FE {G:Gh} {w:World} (s:List UInt8) (W:List (List UInt8)) (ok:Bool) (hG:Agr G w) (hT:cq Tryz.prog G) (hm:lM s=some (W,ok,())): Calls Tryz.prog 11 #[.string (bs s)] w fun e w'=>∃ G' u,e= .returned (.tuple #[u,.bool ok])/\Lv G G' w w'/\bN G' Ty.str.size (ax G' .str) W u:=by
 refine (NP G w (fun _=>none) [.string (bs s)] (s,()) (W,ok,()) hG (fun b i h=>by cases h) ⟨_,[],fun _=>rfl,fun h=>Bool.noConfusion h,rfl,rfl⟩ hm hT).mono ?_
 rintro e w' ⟨G',ow',vs,g⟩
 obtain⟨u,us,rfl,⟨u0,e0,hu⟩,u2,us2,rfl,hb,h3,_⟩:=g.out
 cases e0
 have e2:[u2]=[Value.bool ok]:=hb
 have e3:us2=[]:=h3
 cases e2;subst e3
 exact⟨G',u,g.ret,⟨⟨g.size,g.os,g.output,fun b hb=>(g.old b hb rfl).1⟩,g.le,g.agr,fun b hb=>(g.old b hb rfl).2⟩,hu⟩
def yS (a:ai) (v:Value):List Value:=[.string (bs a.1),.string (bs a.2.1),.int .i64 a.2.2.1,v]
theorem yX {G:Gh} {w:World} (a:ai) (v:Value) (n:Int) (hv:bN G az.size (ax G az) a.2.2.2 v) (hG:Agr G w) (hT:cq Tryz.prog G) (hm:cg a=some (n,())): Calls Tryz.prog 13 #[.agg (yS a v).toArray] w fun e w'=>e= .returned (.int .i64 n)/\Kept w w':=by
 refine (Ak G w (fun _=>none) [.agg (yS a v).toArray] (a,()) (n,()) hG (fun b i h=>by cases h) ⟨_,[],fun _=>rfl,fun h=>Bool.noConfusion h,⟨_,rfl,[.string (bs a.1)],_,rfl,rfl,[.string (bs a.2.1)],_,rfl,rfl,[.int .i64 a.2.2.1],_,rfl,rfl,_,rfl,hv⟩,rfl⟩ hm hT).mono ?_
 rintro e w' ⟨G',ow',vs,g⟩
 obtain⟨u,us,rfl,hu,h3,_⟩:=g.out
 have e1:[u]=[Value.int .i64 n]:=hu
 have e3:us=[]:=h3
 cases e1;subst e3
 exact⟨g.ret,⟨g.size,g.os,g.output,fun b hb=>(g.old b hb rfl).1⟩⟩
def frz (N:Nat) (G:Gh) (w:World):Gh:=⟨fun b=>if b<N then G b else w.heap[b]?,G.hnd⟩
theorem JT {N:Nat} {G:Gh} {w:World} (h:∀ b,b<N->∀ o,G b=some o->w.heap[b]? =some o):Agr (frz N G w) w:=fun b o hb=>by
 by_cases hn:b<N
 ·simp only[frz,YR hn] at hb;exact h b hn o hb
 ·simp only[frz,YQ hn] at hb;exact hb
theorem Nn {N:Nat} {G:Gh} {w w0:World} (h:Agr G w0) (hN:w0.heap.size<=N):G.le (frz N G w):=
 ⟨fun b o hb=>by
   have:=aG (h b o hb)
   simp only[frz,YR (show b<N by omega)];exact hb,fun _ _ h=>h⟩
theorem Pr (G:Gh):∀ (l:List ay),bA (ax G bh) l (l.flatMap gW)
 | []=>rfl
 | c::r=>by
  refine⟨gW c,r.flatMap gW,by rw[WQ], ?_,Pr G r⟩
  exact⟨[.string (bs c.1)],_,rfl,rfl,[.string (bs c.2.1)],_,rfl,rfl,[.string (bs c.2.2.1)],_,rfl,rfl,[.int .i64 c.2.2.2.1],_,rfl,rfl,rfl⟩
theorem PY {G:Gh} {w:World} {N:Nat} {e:TypeId} {sz:Nat} {α:Type} {R:α->List Value->Prop} {l:List α} {v:Value} {xs:List Value} (hN:∀ b,v.ownBlock=some b->N<=b) (h:w.ownsRow 0 e sz v l.length xs) (hr:bA R l xs):bN (frz N G w) sz R l v:=by
 rcases h.2 with ⟨e,hn⟩ | ⟨g,cap,cur,hv,_,hg,hc,hm,hs,ht⟩
 ·have hl:l=[]:=List.length_eq_zero_iff.1 hn
  subst hl
  exact⟨none,0,e,Yc _,by decide,.inl rfl⟩
 ·refine⟨some ⟨g,0,none⟩,cap,hv,hc,hm,.inr ⟨g,0,cur,e,(0,0),rfl, ?_, ?_, ?_⟩⟩
  ·have:=hN g (by rw[hv];rfl)
   simp only[frz,YQ (show ¬ g<N by omega)]
   exact hg
  ·rw[hs,Yr];exact Ym _ hc
  ·rw[WJ,ht];exact hr
theorem PS {G:Gh} {w:World} {N:Nat}:∀ (L:List (aa×Value)),(∀ q∈L,w.ownsRow 0 64 5 q.2 (QS q.1).1 (QS q.1).2/\∀ b,q.2.ownBlock=some b->N<=b)-> bA (ax (frz N G w) az) (L.map (·.1)) (L.flatMap fun q=>iW q.1 q.2)
 | [],_=>rfl
 | q::r,h=>by
  obtain⟨h1,h2⟩:=h q (by simp)
  refine⟨iW q.1 q.2,r.flatMap fun q=>iW q.1 q.2,by rw[WQ], ?_,PS r fun x hx=>h x (by simp[hx])⟩
  have hs:bN (frz N G w) bh.size (ax (frz N G w) bh) q.1.2.2.2 q.2:=PY h2 h1 (Pr _ _)
  exact⟨[.string (bs q.1.1)],_,rfl,rfl,[.string (bs q.1.2.1)],_,rfl,rfl,[.int .i64 q.1.2.2.1.1,.int .i64 q.1.2.2.1.2],_,rfl,⟨[.int .i64 q.1.2.2.1.1],_,rfl,rfl,rfl⟩,_,rfl,hs⟩
theorem SO {G:Gh} {w:World} {N bx:Nat} {a:ai} {v:Value} {L:List (aa×Value)} (h:RS w bx a v L) (hN:∀ b∈nblk v L,N<=b):bN (frz N G w) az.size (ax (frz N G w) az) a.2.2.2 v:=by
 rw[<- h.map]
 refine PY (e:=60) (fun b hb=>hN b (Xy.2 (.inl (by rw[hb];simp)))) ?_ (PS L fun q hq=>⟨h.nst.inn q hq,fun b hb=>hN b (Xy.2 (.inr (XE.2 ⟨q,hq,hb⟩)))⟩)
 have hrow:=h.nst.row
 rw[show L.length=(L.map (·.1)).length from (Xo _).symm] at hrow
 exact hrow
end Go.Proofs.SeatU
set_option maxRecDepth 100000
namespace Go.Proofs.SeatU
open Go.Dn Go.Md Go.Proofs Go.RowKit Go.Shelf Go.Lib
theorem N7 {W:World} {b:Nat} {a0 a1 a2 a3:Value} {T:TypeId} (c0 c1 c2 c3:Value) (h:W.heap[b]? =some (.cells #[a0,a1,a2,a3] T (0,0))): ((((W.setCell ⟨b,0,none⟩ c0).setCell ⟨b,1,none⟩ c1).setCell ⟨b,2,none⟩ c2).setCell ⟨b,3,none⟩ c3).heap[b]? =some (.cells #[c0,c1,c2,c3] T (0,0))/\ (∀ k,k≠b->((((W.setCell ⟨b,0,none⟩ c0).setCell ⟨b,1,none⟩ c1).setCell ⟨b,2,none⟩ c2).setCell ⟨b,3,none⟩ c3).heap[k]? =W.heap[k]?)/\ ((((W.setCell ⟨b,0,none⟩ c0).setCell ⟨b,1,none⟩ c1).setCell ⟨b,2,none⟩ c2).setCell ⟨b,3,none⟩ c3).heap.size=W.heap.size:=by
 refine⟨?_,fun k hk=> ?_, ?_⟩
 ·exact setCell_same _ _ 3 _ _ _ c3 (setCell_same _ _ 2 _ _ _ c2 (setCell_same _ _ 1 _ _ _ c1 (setCell_same _ _ 0 _ _ _ c0 h)))
 ·rw[setCell_far _ _ _ _ _ hk,setCell_far _ _ _ _ _ hk,setCell_far _ _ _ _ _ hk,setCell_far _ _ _ _ _ hk]
 ·rw[setCell_size,setCell_size,setCell_size,setCell_size]
theorem o8 {fn:Func} {p q r:Tmp} {ty:TypeId} (h:fn.results= #[.cell p ty,.tmp q,.tmp r]) (tmps:Array Value) (P:Program) (w:World) {b:Nat} {v:Value} (hp:tmps.getD p undef= .pointer (some ⟨b,0,none⟩)) (hl:(loadVar ty ⟨b,0,none⟩).run P w= .ok v w): (results fn tmps).run P w= .ok (.tuple #[v,tmps.getD q undef,tmps.getD r undef]) w:=by
 have hp':tmps[p]?.getD undef= .pointer (some ⟨b,0,none⟩):=by simpa using hp
 simp[results,h,hp',asAddr,Sem.run_bind,Result.andThen,hl]
theorem EJ {w:World} {b:Nat} {a0 a1 a2 a3:Value} (h:w.heap[b]? =some (.cells #[a0,a1,a2,a3] 24 (0,0))):(loadVar 24 ⟨b,0,none⟩).run Tryz.prog w= .ok (.agg #[a0,a1,a2,a3]) w:=by
 have aA:=Tryz.isAgg24;have zA:=Tryz.sizeOf24
 obtain⟨⟨c0,c1,c2,c3⟩,_⟩:=dh h
 have hl:=run_loadCells_list (P:=Tryz.prog) w ⟨b,0,none⟩ [a0,a1,a2,a3] (fun j v hj=>by
  match j,hj with
  | 0,hj=>cases hj;exact c0
  | 1,hj=>cases hj;exact c1
  | 2,hj=>cases hj;exact c2
  | 3,hj=>cases hj;exact c3
  | j+4,hj=>simp at hj)
 simp only[Xm,Xp,Nat.reduceAdd] at hl
 simp[loadVar,aA,zA,Result.andThen]
 rw[hl]
theorem ve {G:Gh} {w:World} (h:Agr G w) (o:Obj):Agr G (w.alloc o):=fun b o' hb=>by
 have:=aG (h b o' hb)
 rw[heap_alloc_old _ _ this];exact h b o' hb
def gq:Array Value:= #[.string ⟨#[]⟩,.string ⟨#[]⟩,.int .i64 0,.slice none 0 0]
theorem Q0 (w:World) (t:List UInt8) (h:(300000:Int)<(t.length:Int)): Calls Tryz.prog 5 #[.string (bs t)] w fun e w'=>e= .returned (.tuple #[.agg gq,.int .i64 0,.int .i64 2])/\Kept w w':=by
 have mixed:Tryz.prog.follows .mixedOrders=true:=by kernel_rfl
 have late:Tryz.prog.follows .lateStores=true:=by kernel_rfl
 have t3:=Tryz.underlying3;have t4:=Tryz.underlying4;have t9:=Tryz.underlying9;have t24:=Tryz.underlying24;have a24:=Tryz.isAgg24;have z24:=Tryz.sizeOf24;have v24:=Tryz.zeroValue24
 have hsz:(bs t).size=t.length:=XW
 go_enter Tryz.func5,Tryz.ntmps5
 go_wp2
 refine bodyPost_ret (o8 (p:=2) (q:=3) (r:=4) (ty:=24) (b:=w.heap.size) (v:= .agg gq) (by kernel_rfl) _ _ _ (by rfl) (EJ ?_)) rfl ⟨by rfl, ?_⟩
 ·exact (dx _ _).1
 ·exact (dx _ _).2
theorem SF (G:Gh) (w:World) (t:List UInt8) (e0:Bool) (hG:Agr G w) (hT:cq Tryz.prog G) (h:¬ (300000:Int)<(t.length:Int)) (hm:lM t=some ([],e0,())): Calls Tryz.prog 5 #[.string (bs t)] w fun e w'=>e= .returned (.tuple #[.agg gq,.int .i64 1,.int .i64 10])/\Kept w w':=by
 have e11:∀ args w,(callFunc 11 args).run Tryz.prog w= .ok (.enter 11 args) w:=enters_of Tryz.func11 (by kernel_rfl) rfl
 have mixed:Tryz.prog.follows .mixedOrders=true:=by kernel_rfl
 have late:Tryz.prog.follows .lateStores=true:=by kernel_rfl
 have t3:=Tryz.underlying3;have t4:=Tryz.underlying4;have t9:=Tryz.underlying9;have t24:=Tryz.underlying24;have a24:=Tryz.isAgg24;have z24:=Tryz.sizeOf24;have v24:=Tryz.zeroValue24;have t34:=Tryz.underlying34
 have hsz:(bs t).size=t.length:=XW
 have hA0:=ve hG (.cells gq 24)
 have hl:=FE t [] e0 hA0 hT hm
 have h0:=dx w (.cells gq 24)
 unfold gq at hl h0 hA0
 go_enter Tryz.func5,Tryz.ntmps5
 go_wp2_with (go_at_fn 11;refine hl.mono ?_;rintro e W1 ⟨G1,u,rfl,hlv,hu⟩;have hr1:=(hlv.kept.block _ (aG h0.1)).trans h0.1;have hq:=dh hr1;obtain⟨⟨q0,q1,q2,q3⟩,qf⟩:=hq;have f0:=qf 0;have f1:=qf 1;have f2:=qf 2;have f3:=qf 3;obtain⟨au,cu,rfl,hcu,hmu,hu⟩:=hu)
 obtain⟨s1,s2,s3⟩:=N7 (.string ⟨#[]⟩) (.string ⟨#[]⟩) (.int .i64 0) (.slice none 0 0) hr1
 have hk:=h0.2.trans hlv.kept
 refine bodyPost_ret (o8 (p:=2) (q:=3) (r:=4) (ty:=24) (b:=w.heap.size) (v:= .agg gq) (by kernel_rfl) _ _ _ (by rfl) (EJ s1)) rfl ⟨by rfl, ?_,hk.os,hk.output,fun b hb=>(s2 b (by omega)).trans (hk.block b hb)⟩
 rw[s3];exact hk.size
theorem Gd {α:Type} {c:Bool} {x y:α} (h:(bif c then some x else none)=some y):c=true/\x=y:=by
 cases c with
 | false=>cases h
 | true=>exact⟨rfl,Option.some.inj h⟩
theorem Ro {α:Type} {c:Bool} {x y:Option α} {z:α} (h:(bif c then x else y)=some z):x=some z\/y=some z:=by
 cases c with
 | false=>exact .inr h
 | true=>exact .inl h
theorem NZ (i:Nat) (c:ay):∀ l:List aa,(∀ p∈l,p.2.2.2.length<=i)->(putC l c).length=l.length/\∀ p∈putC l c,p.2.2.2.length<=i+1
 | [],_=>⟨rfl,fun p hp=>by cases hp⟩
 | [p],h=>⟨rfl,fun q hq=>by
  have:=h p (by simp)
  rw[XL.1 hq]
  simp only[Xl,List.length_singleton];omega⟩
 | p::q::r,h=>by
  obtain⟨h1,h2⟩:=NZ i c (q::r) fun x hx=>h x (by simp at hx ⊢;exact .inr hx)
  refine⟨by rw[putC,Xm,h1];rfl,fun x hx=> ?_⟩
  rcases XB.1 hx with rfl | hx
  ·have:=h x (by simp);omega
  ·exact h2 x hx
theorem PW {a b:ai} {f:Bool} {s:List UInt8} {i:Nat} (h:rdL a f s=some b) (h1:a.2.2.2.length<=i) (h2:∀ p∈a.2.2.2,p.2.2.2.length<=i):b.2.2.2.length<=i+1/\∀ p∈b.2.2.2,p.2.2.2.length<=i+1:=by
 unfold rdL at h
 cases hf:nA (aS 32 s) with
 | false=>rw[hf] at h;cases h
 | true=>
  rw[hf,YG] at h
  unfold rdW at h
  cases f with
  | true=>
   rw[YG] at h
   obtain⟨_,rfl⟩:=Gd h
   exact⟨by show a.2.2.2.length<=i+1;omega,fun p hp=>by have:=h2 p hp;omega⟩
  | false=>
   rw[YF] at h
   rcases Ro h with h | h
   ·obtain⟨_,rfl⟩:=Gd h
    refine⟨by simp only[Xl,List.length_singleton];omega,fun p hp=> ?_⟩
    rcases Xy.1 hp with hp | hp
    ·have:=h2 p hp;omega
    ·rw[XL.1 hp];exact Ys _
   ·rcases Ro h with h | h
    ·obtain⟨_,rfl⟩:=Gd h
     obtain⟨c1,c2⟩:=NZ i (((aS 32 s).getD 1 [],(aS 32 s).getD 2 [],wI ((aS 32 s).getD 3 []),(kU ((aS 32 s).getD 4 [])).1):ay) a.2.2.2 h2
     exact⟨by show (putC _ _).length<=_;rw[c1];omega,c2⟩
    ·cases h
end Go.Proofs.SeatU
set_option maxRecDepth 100000
namespace Go.Proofs.SeatU
open Go.Dn Go.Md Go.Proofs Go.RowKit Go.Shelf Go.Lib
structure RdI (G1:Gh) (w wr:World) (N bx:Nat) (a:ai) (v:Value) (L:List (aa×Value)) (i:Nat):Prop where
 rs:RS wr bx a v L
 fr:∀ b∈bx::nblk v L,N<b/\G1 b=none
 agr:Agr G1 wr
 kb:wr.heap.size>=w.heap.size/\wr.os=w.os/\wr.output=w.output/\∀ b,b<N->wr.heap[b]? =w.heap[b]?
 res:wr.heap[N]? =some (.cells gq 24 (0,0))
 len:a.2.2.2.length<=i
 lens:∀ p∈a.2.2.2,p.2.2.2.length<=i
theorem RdI.next {G1:Gh} {w wr W3:World} {N bx:Nat} {a a':ai} {v v':Value} {L L':List (aa×Value)} {i:Nat} {f:Bool} {s:List UInt8} (h:RdI G1 w wr N bx a v L i) (hbx:N<bx) (hr:rdL a f s=some a') (h1:wr.heap.size<=W3.heap.size) (h2:W3.os=wr.os) (h3:W3.output=wr.output) (h4:∀ b,b<wr.heap.size->b∉bx::nblk v L->W3.heap[b]? =wr.heap[b]?) (hR:RS W3 bx a' v' L') (hb:∀ b∈nblk v' L',b∈nblk v L\/wr.heap.size<=b) (hN:N=w.heap.size):RdI G1 w W3 N bx a' v' L' (i+1):=by
 obtain⟨l1,l2⟩:=PW hr h.len h.lens
 have hNs:N<wr.heap.size:=aG h.res
 have hdom:∀ b,wr.heap.size<=b->G1 b=none:=fun b hb=>by
  cases hg:G1 b with
  | none=>rfl
  | some o=>exact absurd (aG (h.agr b o hg)) (Nat.not_lt.2 hb)
 have hnot:∀ b,G1 b≠none->b∉bx::nblk v L:=fun b hg hm=>hg (h.fr b hm).2
 refine⟨hR,fun b hm=> ?_,fun b o hg=> ?_,⟨Yd h.kb.1 h1,h2.trans h.kb.2.1,h3.trans h.kb.2.2.1,fun b hbN=> ?_⟩, ?_,l1,l2⟩
 ·rcases XB.1 hm with rfl | hm
  ·exact h.fr _ (by simp)
  ·rcases hb b hm with hm | hm
   ·exact h.fr b (by simp[hm])
   ·exact⟨by omega,hdom b hm⟩
 ·rw[h4 b (aG (h.agr b o hg)) (hnot b (by rw[hg];simp))]
  exact h.agr b o hg
 ·rw[h4 b (by omega) (fun hm=>by have:=(h.fr b hm).1;omega)]
  exact h.kb.2.2.2 b hbN
 ·rw[h4 N hNs (fun hm=>by have:=(h.fr N hm).1;omega)]
  exact h.res
theorem K1 {G1:Gh} {w wr W3:World} {N bx:Nat} {a:ai} {v:Value} {L:List (aa×Value)} {i:Nat} (h:RdI G1 w wr N bx a v L i) (hl:Kept wr W3) {Wz:World} (s2:∀ k,k≠N->Wz.heap[k]? =W3.heap[k]?) (s3:Wz.heap.size=W3.heap.size) (ho:Wz.os=W3.os:=by rfl) (hp:Wz.output=W3.output:=by rfl) (hN:N=w.heap.size:=by rfl):Kept w Wz:=by
 have hNs:N<wr.heap.size:=aG h.res
 refine⟨?_,ho.trans (hl.os.trans h.kb.2.1),hp.trans (hl.output.trans h.kb.2.2.1),fun b hb=> ?_⟩
 ·rw[s3];exact Yd h.kb.1 hl.size
 ·rw[s2 b (by omega),hl.block b (by omega)]
  exact h.kb.2.2.2 b (by omega)
theorem A2 (i:Nat):((i:Int)==0)=(i==0):=by
 by_cases h:i=0
 ·subst h;rfl
 ·rw[YC h,YC (by omega)]
theorem Ny {G1:Gh} {w wr W3:World} {N bx:Nat} {a:ai} {v:Value} {L:List (aa×Value)} {i:Nat} {e:Ending} {o:Option ai} (h:RdI G1 w wr N bx a v L i) (hl:Lin bx wr W3 (nblk v L) e o) (hNx:N∉bx::nblk v L) {Wz:World} (s2:∀ k,k≠N->Wz.heap[k]? =W3.heap[k]?) (s3:Wz.heap.size=W3.heap.size) (ho:Wz.os=W3.os:=by rfl) (hp:Wz.output=W3.output:=by rfl) (hN:N=w.heap.size:=by rfl):Kept w Wz:=by
 have hNs:N<wr.heap.size:=aG h.res
 refine⟨?_,ho.trans (hl.2.1.trans h.kb.2.1),hp.trans (hl.2.2.1.trans h.kb.2.2.1),fun b hb=> ?_⟩
 ·rw[s3];exact Yd h.kb.1 hl.1
 ·rw[s2 b (by omega),hl.2.2.2.1 b (by omega) (fun hm=>by have:=(h.fr b hm).1;omega)]
  exact h.kb.2.2.2 b (by omega)
def UL (G:Gh) (w:World) (e0:Bool) (Ls:List (List UInt8)) (qq:Int) (e:Ending) (w':World):Prop:=Kept w w'/\
 ((∃ n,pGo e0 Ls 0 zA= .inr n/\e= .returned (.tuple #[.agg gq,.int .i64 n,.int .i64 10]))\/
  (∃ a,pGo e0 Ls 0 zA= .inl a/\((qq≠0/\e= .returned (.tuple #[.agg gq,.int .i64 0,.int .i64 qq]))\/
    (qq=0/\∃ v,e= .returned (.tuple #[.agg (yS a v).toArray,.int .i64 0,.int .i64 0])/\bN (frz w.heap.size G w') az.size (ax (frz w.heap.size G w') az) a.2.2.2 v))))
set_option maxHeartbeats 2000000 in
theorem Ld (G:Gh) (w:World) (t:List UInt8) (Ls:List (List UInt8)) (e0:Bool) (qq:Int) (hG:Agr G w) (hT:cq Tryz.prog G) (h:¬ (300000:Int)<(t.length:Int)) (hm:lM t=some (Ls,e0,())) (hne:Ls≠[]) (hln:Ls.length<=1000000) (hll:∀ l∈Ls,l.length<=1000000) (hq:∀ a,pGo e0 Ls 0 zA= .inl a->cg a=some (qq,())): Calls Tryz.prog 5 #[.string (bs t)] w fun e w'=>UL G w e0 Ls qq e w':=by
 have e11:∀ args w,(callFunc 11 args).run Tryz.prog w= .ok (.enter 11 args) w:=enters_of Tryz.func11 (by kernel_rfl) rfl
 have e12:∀ args w,(callFunc 12 args).run Tryz.prog w= .ok (.enter 12 args) w:=enters_of Tryz.func12 (by kernel_rfl) rfl
 have e13:∀ args w,(callFunc 13 args).run Tryz.prog w= .ok (.enter 13 args) w:=enters_of Tryz.func13 (by kernel_rfl) rfl
 have mixed:Tryz.prog.follows .mixedOrders=true:=by kernel_rfl
 have late:Tryz.prog.follows .lateStores=true:=by kernel_rfl
 have t3:=Tryz.underlying3;have t4:=Tryz.underlying4;have t9:=Tryz.underlying9;have t24:=Tryz.underlying24;have a24:=Tryz.isAgg24;have z24:=Tryz.sizeOf24;have v24:=Tryz.zeroValue24;have t34:=Tryz.underlying34;have t25:=Tryz.underlying25
 have hsz:(bs t).size=t.length:=XW
 have hA0:=ve hG (.cells gq 24)
 have hl:=FE t Ls e0 hA0 hT hm
 have h0:=dx w (.cells gq 24)
 have hz1:(0:Int)<(Ls.length:Int):=by
  cases Ls with
  | nil=>exact absurd rfl hne
  | cons x y=>simp only[Xm];omega
 have hz2:((Ls.length:Int)==0)=false:=YC (by omega)
 unfold gq at hl h0 hA0
 go_enter Tryz.func5,Tryz.ntmps5
 go_wp2_with (go_at_fn 11;refine hl.mono ?_;rintro e W1 ⟨G1,u,rfl,hlv,hu⟩;have hr1:=(hlv.kept.block _ (aG h0.1)).trans h0.1;obtain⟨b,off,cu,rfl,hcu,hmu,hfz,hcell⟩:=tr hu hlv.agr hne)
 go_loopg [27] Ls.length (fun g s27 wr=>∃ (i:Nat) (a:ai) (v:Value) (L:List (aa×Value)),s27= .int .i64 (i:Int)/\i<=Ls.length/\Ls.length - i<=g/\Aside (RdI G1 w wr w.heap.size W1.heap.size a v L i)/\Aside (pGo e0 Ls 0 zA=pGo e0 (Ls.drop i) i a))
 case atStart=>
  have hs0:(w.alloc (.cells #[.string ⟨#[]⟩,.string ⟨#[]⟩,.int .i64 0,.slice none 0 0] 24)).heap.size=w.heap.size+1:=VW _
  have hlt:w.heap.size<W1.heap.size:=by have:=hlv.kept.size;omega
  have hd:G1 W1.heap.size=none:=by
   cases hg:G1 W1.heap.size with
   | none=>rfl
   | some o=>exact absurd (aG (hlv.agr _ o hg)) (Nat.lt_irrefl _)
  have hk:=h0.2.trans hlv.kept
  have hn:=dx W1 (.cells #[.string ⟨#[]⟩,.string ⟨#[]⟩,.int .i64 0,.slice none 0 0] 24)
  refine⟨0,zA,.slice none 0 0,[],rfl,Ys _,Yc _, ?_,rfl⟩
  exact {
   rs:=⟨hn.1,NestW.nil _ _ _ _ _ _ _,rfl,by simp[nblk,Value.ownBlock]⟩
   fr:=fun b hb=>by
    have:b=W1.heap.size:=by simpa [nblk,Value.ownBlock] using hb
    rw[this];exact⟨hlt,hd⟩
   agr:=ve hlv.agr _
   kb:=⟨Yd hk.size hn.2.size,hn.2.os.trans hk.os,hn.2.output.trans hk.output,fun b hb=>(hn.2.block b (by omega)).trans (hk.block b hb)⟩
   res:=(hn.2.block _ hlt).trans hr1
   len:=Ys _
   lens:=fun p hp=>by cases hp }
 case round=>
  obtain⟨i,a,v,L,rfl,hi,hg,HI,HP⟩:=hrel
  have hTG:cq Tryz.prog G1:=hT.mono hlv.le
  have hbxN:w.heap.size<W1.heap.size:=(HI.out.fr _ (by simp)).1
  have hlc:∀ j x,Ls[j]? =some x->wr.cell? ⟨b,off+j,none⟩=some (.string (bs x)):=by
   obtain⟨o,ho⟩:=hfz
   exact fun j x hx=>Hp (HI.out.agr b o ho) (hlv.agr b o ho) (hcell j x hx)
  by_cases hlt:i<Ls.length
  ·have hltz:(i:Int)<(Ls.length:Int):=by omega
   have hi0:(0:Int)<=(i:Int):=by omega
   obtain⟨s,hs⟩:∃ s,Ls[i]? =some s:=⟨_,WZ hlt⟩
   have hsl:s.length<=1000000:=hll s (XH hs)
   have hcs:=hlc i s hs
   have hdrop:Ls.drop i=s::Ls.drop (i+1):=by
    rw[WG hlt]
    congr 1
    exact (Xa.1 hs).2
   have hLlen:L.length=a.2.2.2.length:=by rw[<- HI.out.rs.map,Xo]
   have hcall:=fun f=>Kv G1 wr W1.heap.size f s a v L HI.out.agr hTG hsl HI.out.rs (fun b hb=>(HI.out.fr b hb).2) (by have:=HI.out.len;omega) (fun q hq=>by
    have:=HI.out.lens q.1 (by rw[<- HI.out.rs.map];exact List.mem_map_of_mem hq)
    omega)
   have hP:=HP.out
   rw[hdrop,pGo] at hP
   have hb4:wr.heap[w.heap.size]? =some (.cells #[.string ⟨#[]⟩,.string ⟨#[]⟩,.int .i64 0,.slice none 0 0] 24 (0,0)):=HI.out.res
   have hNx:w.heap.size∉W1.heap.size::nblk v L:=fun hm=>by have:=(HI.out.fr _ hm).1;omega
   obtain⟨o,hr⟩:∃ o,rdL a (i==0) s=o:=⟨_,rfl⟩
   rw[hr] at hP
   cases o with
   | none=>
    have HPG:Aside _:=hP
    have hcall2:∀ f:Bool,f=(i==0)->Calls Tryz.prog 12 #[.pointer (some ⟨W1.heap.size,0,none⟩),.bool f,.string (bs s)] wr fun e w'=>e= .returned (.bool false)/\Lin W1.heap.size wr w' (nblk v L) e none:=fun f hf=>by
     refine (hcall f).mono fun e w' hlin=> ?_
     rw[hf,hr] at hlin
     rcases hlin.2.2.2.2 with ⟨_,he⟩ | ⟨a',h1,_⟩
     ·exact⟨he,hlin⟩
     ·cases h1
    clear hP hcall hs hdrop hlc hr
    go_wp2_with (go_at_fn 12;refine (hcall2 _ (A2 i)).mono ?_;rintro e W3 ⟨rfl,hlin⟩;have hb5:=(hlin.2.2.2.1 _ (aG hb4) hNx).trans hb4;obtain⟨⟨q0,q1,q2,q3⟩,qf⟩:=dh hb5;have f0:=qf 0;have f1:=qf 1;have f2:=qf 2;have f3:=qf 3)
    obtain⟨s1,s2,s3⟩:=N7 (.string ⟨#[]⟩) (.string ⟨#[]⟩) (.int .i64 0) (.slice none 0 0) hb5
    refine bodyPost_ret (o8 (p:=2) (q:=3) (r:=4) (ty:=24) (b:=w.heap.size) (v:= .agg gq) (by kernel_rfl) _ _ _ (by rfl) (EJ s1)) rfl ⟨Ny HI.out hlin hNx s2 s3,.inl ⟨i+1,HPG.out,by rfl⟩⟩
   | some a'=>
    have hcall2:∀ f:Bool,f=(i==0)->Calls Tryz.prog 12 #[.pointer (some ⟨W1.heap.size,0,none⟩),.bool f,.string (bs s)] wr fun e w'=>e= .returned (.bool true)/\Lin W1.heap.size wr w' (nblk v L) e (some a'):=fun f hf=>by
     refine (hcall f).mono fun e w' hlin=> ?_
     rw[hf,hr] at hlin
     rcases hlin.2.2.2.2 with ⟨h1,_⟩ | ⟨a'',_,he,_⟩
     ·cases h1
     ·exact⟨he,hlin⟩
    have hlin2:∀ W3,Lin W1.heap.size wr W3 (nblk v L) (.returned (.bool true)) (some a')->∃ v' L',RdI G1 w W3 w.heap.size W1.heap.size a' v' L' (i+1):=fun W3 hlin=>by
     obtain⟨h1,h2,h3,h4,⟨h5,_⟩ | ⟨a'',h5,_,v',L',hR',hb'⟩⟩:=hlin
     ·cases h5
     ·cases h5
      exact⟨v',L',HI.out.next hbxN hr h1 h2 h3 h4 hR' hb' rfl⟩
    have HL2:Aside _:=hlin2
    by_cases hlast:i+1=Ls.length
    ·have hemp:(Ls.drop (i+1)).isEmpty=true:=by rw[hlast,List.drop_length];rfl
     have hbl:((i:Int)==(Ls.length:Int) - 1)=true:=by
      have:(i:Int)=(Ls.length:Int) - 1:=by omega
      rw[this];exact YD _
     simp only[hemp] at hP
     obtain rfl | rfl:e0=true\/e0=false:=by cases e0<;>simp
     ·have HPG:Aside _:=hP
      clear hP hcall hs hdrop hlc hr hlin2 hemp hlast
      go_wp2_with (go_at_fn 12;refine (hcall2 _ (A2 i)).mono ?_;rintro e W3 ⟨rfl,hlin⟩)
      go_roundg (Ls.length - (i+1))
      case measure=>omega
      case rel=>
       obtain⟨v',L',hI⟩:=HL2.out W3 hlin
       exact⟨i+1,a',v',L',by go_num,hlt,Yc _,hI,HPG.out⟩
     ·have HPG:Aside _:=hP
      clear hP hcall hs hdrop hlc hr hlin2 hemp
      go_wp2_with (go_at_fn 12;refine (hcall2 _ (A2 i)).mono ?_;rintro e W3 ⟨rfl,hlin⟩;have hb5:=(hlin.2.2.2.1 _ (aG hb4) hNx).trans hb4;obtain⟨⟨q0,q1,q2,q3⟩,qf⟩:=dh hb5;have f0:=qf 0;have f1:=qf 1;have f2:=qf 2;have f3:=qf 3)
      obtain⟨s1,s2,s3⟩:=N7 (.string ⟨#[]⟩) (.string ⟨#[]⟩) (.int .i64 0) (.slice none 0 0) hb5
      refine bodyPost_ret (o8 (p:=2) (q:=3) (r:=4) (ty:=24) (b:=w.heap.size) (v:= .agg gq) (by kernel_rfl) _ _ _ (by rfl) (EJ s1)) rfl ⟨Ny HI.out hlin hNx s2 s3,.inl ⟨i+1,HPG.out,by rfl⟩⟩
    ·have hemp:(Ls.drop (i+1)).isEmpty=false:=by
      cases hd:Ls.drop (i+1) with
      | nil=>have:=congrArg List.length hd;simp at this;omega
      | cons _ _=>rfl
     have hbl:((i:Int)==(Ls.length:Int) - 1)=false:=YC (by omega)
     simp only[hemp,V0,YF] at hP
     have HPG:Aside _:=hP
     clear hP hcall hs hdrop hlc hr hlin2 hemp
     obtain rfl | rfl:e0=true\/e0=false:=by cases e0<;>simp
     all_goals
      go_wp2_with (go_at_fn 12;refine (hcall2 _ (A2 i)).mono ?_;rintro e W3 ⟨rfl,hlin⟩)
      go_roundg (Ls.length - (i+1))
      case measure=>omega
      case rel=>
       obtain⟨v',L',hI⟩:=HL2.out W3 hlin
       exact⟨i+1,a',v',L',by go_num,hlt,Yc _,hI,HPG.out⟩
  ·have hltz:¬ (i:Int)<(Ls.length:Int):=by omega
   obtain⟨av,nv,capv,rfl⟩:∃ av nv capv,v= .slice av nv capv:=by
    rcases HI.out.rs.nst.row.2 with ⟨e,_⟩ | ⟨g,cap,cur,e,_⟩
    ·exact⟨_,_,_,e⟩
    ·exact⟨_,_,_,e⟩
   have hP:=HP.out
   rw[List.drop_eq_nil_of_le (by omega),pGo] at hP
   have hqa:=hq a hP
   have HPG:Aside _:=hP
   have hfg:∀ b∈nblk (.slice av nv capv) L,w.heap.size<=b:=fun b hb=>Yb (HI.out.fr b (by simp[hb])).1
   have hck:=yX (G:=frz w.heap.size G wr) a (.slice av nv capv) qq (SO HI.out.rs hfg) (JT fun b hb o ho=>(HI.out.kb.2.2.2 b hb).trans (hG b o ho)) (hT.mono (Nn hG (Yc _))) hqa
   have hb4:wr.heap[w.heap.size]? =some (.cells #[.string ⟨#[]⟩,.string ⟨#[]⟩,.int .i64 0,.slice none 0 0] 24 (0,0)):=HI.out.res
   have hNx:w.heap.size∉W1.heap.size::nblk (.slice av nv capv) L:=fun hm=>by have:=(HI.out.fr _ hm).1;omega
   obtain⟨⟨c0,c1,c2,c3⟩,_⟩:=dh HI.out.rs.box
   have hbxb:=HI.out.rs.box
   unfold yS at hck
   have HN:Aside _:=hNx
   have HFG:Aside _:=hfg
   clear hP hq hlc hqa hNx hfg
   by_cases hqz:qq=0
   ·subst hqz
    go_wp2_with (go_at_fn 13;refine hck.mono ?_;rintro e W4 ⟨rfl,hk4⟩;have hb5:=(hk4.block _ (aG hb4)).trans hb4;obtain⟨⟨q0,q1,q2,q3⟩,qf⟩:=dh hb5;have f0:=qf 0;have f1:=qf 1;have f2:=qf 2;have f3:=qf 3;have hbx5:=(hk4.block _ (aG hbxb)).trans hbxb;obtain⟨⟨d0,d1,d2,d3⟩,_⟩:=dh hbx5)
    obtain⟨s1,s2,s3⟩:=N7 (.string (bs a.1)) (.string (bs a.2.1)) (.int .i64 a.2.2.1) (.slice av nv capv) hb5
    refine bodyPost_ret (o8 (p:=2) (q:=3) (r:=4) (ty:=24) (b:=w.heap.size) (v:= .agg (yS a (.slice av nv capv)).toArray) (by kernel_rfl) _ _ _ (by rfl) (EJ s1)) rfl (And.intro (K1 HI.out hk4 s2 s3) <| Or.inr <| Exists.intro a <| And.intro HPG.out <| Or.inr <| And.intro rfl <| Exists.intro (.slice av nv capv) <| And.intro (by rfl) (SO (HI.out.rs.keep fun b hb=>(s2 b fun e=>HN.out (e ▸ hb)).trans (hk4.block b (HI.out.rs.lt b hb))) HFG.out))
   ·have hqb:(qq==0)=false:=YC hqz
    go_wp2_with (go_at_fn 13;refine hck.mono ?_;rintro e W4 ⟨rfl,hk4⟩;have hb5:=(hk4.block _ (aG hb4)).trans hb4;obtain⟨⟨q0,q1,q2,q3⟩,qf⟩:=dh hb5;have f0:=qf 0;have f1:=qf 1;have f2:=qf 2;have f3:=qf 3)
    obtain⟨s1,s2,s3⟩:=N7 (.string ⟨#[]⟩) (.string ⟨#[]⟩) (.int .i64 0) (.slice none 0 0) hb5
    refine bodyPost_ret (o8 (p:=2) (q:=3) (r:=4) (ty:=24) (b:=w.heap.size) (v:= .agg gq) (by kernel_rfl) _ _ _ (by rfl) (EJ s1)) rfl ⟨K1 HI.out hk4 s2 s3,.inr ⟨a,HPG.out,.inl ⟨hqz,by rfl⟩⟩⟩
end Go.Proofs.SeatU
