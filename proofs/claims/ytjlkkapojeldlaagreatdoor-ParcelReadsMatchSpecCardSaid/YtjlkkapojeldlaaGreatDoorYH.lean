/-
  Read of the reference by a walk; both as their models say. No condition.
-/
import Derived.Test.YtjlkkapojeldlaaGreatDoorYG
set_option linter.all false
set_option maxRecDepth 100000
namespace Go.Proofs.SeatU
open Go.Dn Go.Md Go.Proofs Go.RowKit Go.Shelf Go.Lib
theorem Ko (s:List UInt8):rV s=some (Ft s,vN s,()):=(show rV s=xY s from rfl).trans (Mi s)
theorem Ez (s:List UInt8):tu s=some (xF s,()):=by
 unfold tu xF
 cases s==[45]<;>rfl
theorem contains_eq (W:List (List UInt8)) (hW:W.length<1000000000):bA W []=some (!kD W,()):=by
 rw[vU W [] hW]
 unfold kD
 congr 2
 induction W with
 | nil=>rfl
 | cons x r ih=>rw[List.any_cons,TX,ih (by simp at hW;omega)];cases (x==[])<;>rfl
theorem Nn (G:Gh) (w:World) (first:Bool) (s:List UInt8) (a:ai) (av:Option Addr) (n c:Nat) (L:List (aa×Value)) (hG:Agr G w) (hT:bJ Tryz.prog G) (hs:s.length<=1000000) (hN:ku w (.slice av n c) L) (hMap:L.map (·.1)=a.2.2.2) (hgb:∀ b∈nblk (.slice av n c) L,G b=none) (hL:L.length<=1000000) (hK:∀ q∈L,q.1.2.2.2.length<=1000000) (hz:first=true->a.2.2.2=[]): Calls Tryz.prog 15 #[.agg #[.string (bs a.1),.string (bs a.2.1),.int .i64 a.2.2.1,.slice av n c],.string (bs s),.bool first] w fun e w'=>ET w w' (nblk (.slice av n c) L) e (rdL a first s):=by
 have hm:=l8 s 32 hs
 have hwl:=iP 32 s
 have hne:=yF 32 s
 have hcn:=contains_eq (aR 32 s) (by have:=hwl.1;omega)
 unfold rdL
 cases hf:kD (aR 32 s) with
 | false=>
  rw[hf] at hcn
  exact R7 G w first s _ a av n c _ hG hT hm hcn
 | true=>
  rw[hf] at hcn
  simp only[VW,TH] at hcn ⊢
  have hwl:=hwl.2
  generalize aR 32 s=W at hm hf hwl hne hcn
  obtain⟨w0,r,rfl⟩:∃ w0 r,W=w0::r:=by
   cases W with
   | nil=>exact absurd rfl hne
   | cons x y=>exact⟨x,y,rfl⟩
  have hnL:n=L.length:=by
   rcases hN.row.2 with ⟨e,e2⟩ | ⟨g,cap,cur,e,_⟩
   ·cases e;exact e2.symm
   ·cases e;rfl
  obtain⟨ea,ha⟩:∃ ea,((bs w0).toList==[97,100,118,105,99,101])=ea:=⟨_,rfl⟩
  obtain⟨ep,hp⟩:∃ ep,((bs w0).toList==[112,97,114,99,101,108])=ep:=⟨_,rfl⟩
  obtain⟨ec,hc⟩:∃ ec,((bs w0).toList==[99,111,110,116,101,110,116])=ec:=⟨_,rfl⟩
  obtain⟨l4,h4⟩:∃ l4,((r.length:Int)+1==4)=l4:=⟨_,rfl⟩
  obtain⟨l5,h5⟩:∃ l5,((r.length:Int)+1==5)=l5:=⟨_,rfl⟩
  have ha':=ha;have hp':=hp;have hc':=hc
  rw[oV] at ha' hp' hc'
  have hno:=fun h=>Rj G w first s w0 r a av n c (nblk (.slice av n c) L) hG hT hm hcn ea ep ec l4 l5 ha hp hc h4 h5 h
  have hlen4:((w0::r).length==4)=l4:=by
   rw[<- h4,UK]
   exact zn _ _
  have hlen5:((w0::r).length==5)=l5:=by
   rw[<- h5,UK]
   exact zn _ _
  have h45:l4=true->l5=false:=fun h=>by
   rw[h] at hlen4;rw[<- hlen5,eq_of_beq hlen4];rfl
  unfold rdW
  simp only[List.headD_cons,ha',hp',hc',hlen4,hlen5]
  cases first with
  | true=>
   rw[VW]
   cases l4 with
   | false=>cases ea<;>exact hno (.inl ⟨rfl,rfl⟩)
   | true=>
    cases ea with
    | false=>exact hno (.inr (.inl ⟨rfl,rfl,rfl⟩))
    | true=>
     obtain⟨w1,w2,w3,rfl⟩:∃ w1 w2 w3,r=[w1,w2,w3]:=by
      have:r.length=3:=by have:=eq_of_beq hlen4;simpa using this
      match r,this with
      | [a,b,c],_=>exact⟨a,b,c,rfl⟩
     refine (Qu G w s w0 w1 w2 w3 a av n c _ _ hG hT hm hcn ha (Ko w3)).mono ?_
     rintro e w' ⟨h1,hk⟩
     refine⟨hk.size,hk.os,hk.output,fun b hb _=>hk.block b hb, ?_⟩
     simp only[Un,Uo,TK]
     cases hok:vN w3 with
     | false=>rw[hok] at h1;exact .inl ⟨rfl,(w1,w2,Ft w3,[]),none,0,0,h1⟩
     | true=>
      rw[hok] at h1
      refine .inr ⟨_,rfl,none,0,0,[],h1,NestW.nil _ _ _ _ _ _ _,(hz rfl).symm,fun b hb=>by simp[nblk,Value.ownBlock] at hb⟩
  | false=>
   rw[VV]
   cases l4 with
   | true=>
    have e5:=h45 rfl
    subst e5
    cases ep with
    | false=>cases ec<;>exact hno (.inr (.inr (.inl ⟨rfl,rfl,rfl,rfl⟩)))
    | true=>
     obtain⟨w1,w2,w3,rfl⟩:∃ w1 w2 w3,r=[w1,w2,w3]:=by
      have:r.length=3:=by have:=eq_of_beq hlen4;simpa using this
      match r,this with
      | [a,b,c],_=>exact⟨a,b,c,rfl⟩
     have hd:=zB w3 (Vv (hwl w3 (by simp)) hs)
     refine (Qw G w s w0 w1 w2 w3 a av n c L _ _ _ hG hT hm hcn hN hMap hgb hL hp hd (Ez w2)).mono ?_
     rintro e w' ⟨g,cap,h1,h2,h3,h4,h5,h6,h7⟩
     refine⟨h2,h3,h4,h5, ?_⟩
     simp only[Un,Uo,TK,VW]
     cases hok:((kF w3).2==0) with
     | false=>rw[hok] at h1;exact .inl ⟨rfl,a,_,_,_,h1⟩
     | true=>rw[hok] at h1;exact .inr ⟨_,rfl,_,_,_,_,h1,h6,by rw[US,hMap];rfl,h7⟩
   | false=>
    have hp0:(ep&&false)=false:=by cases ep<;>rfl
    rw[hp0,VV]
    cases l5 with
    | false=>cases ec<;>exact hno (.inr (.inr (.inr (.inl ⟨rfl,rfl,rfl⟩))))
    | true=>
     cases ec with
     | false=>exact hno (.inr (.inr (.inr (.inr (.inl ⟨rfl,rfl,rfl,rfl⟩)))))
     | true=>
      rw[<- hMap]
      rcases List.eq_nil_or_concat L with e | ⟨L0,q,e⟩
      ·subst e
       exact hno (.inr (.inr (.inr (.inr (.inr ⟨rfl,rfl,rfl,rfl,hnL⟩)))))
      ·obtain⟨p,h⟩:=q
       rw[List.concat_eq_append] at e
       subst e
       obtain⟨w1,w2,w3,w4,rfl⟩:∃ w1 w2 w3 w4,r=[w1,w2,w3,w4]:=by
        have:r.length=4:=by have:=eq_of_beq hlen5;simpa using this
        match r,this with
        | [a,b,c,d],_=>exact⟨a,b,c,d,rfl⟩
       obtain⟨go,capo,hv,_,_⟩:=xP hN
       obtain⟨rfl,rfl,rfl⟩:av=some ⟨go,0,none⟩/\n=L0.length+1/\c=capo:=by cases hv;exact⟨rfl,rfl,rfl⟩
       have hd:=zB w4 (Vv (hwl w4 (by simp)) hs)
       refine (O2 G w s w0 w1 w2 w3 w4 a go L0.length c L0 p h _ _ _ hG hT hm hcn hN rfl hMap hgb (by simp at hL;omega) (hK (p,h) (by simp)) hc hd (Ez w3)).mono ?_
       rintro e w' ⟨h',h1,h2,h3,h4,h5,h6,h7⟩
       refine⟨h2,h3,h4,h5, ?_⟩
       have hemp:((L0++[(p,h)]).map (·.1)).isEmpty=false:=by simp
       simp only[Un,Uo,TK,VW,VV,hemp,TG]
       cases hok:((kF w4).2==0) with
       | false=>rw[hok] at h1;exact .inl ⟨rfl,a,_,_,_,h1⟩
       | true=>
        rw[hok] at h1
        refine .inr ⟨_,rfl,_,_,_,_,h1,h6, ?_,h7⟩
        rw[US,US]
        exact (JF _ _ _).symm
end Go.Proofs.SeatU
set_option maxRecDepth 100000
namespace Go.Proofs.SeatU
open Go.Dn Go.Md Go.Proofs Go.RowKit Go.Shelf Go.Lib
theorem Np (w:World) (t:List UInt8) (h:(300000:Int)<(t.length:Int)): Calls Tryz.prog 6 #[.string (bs t)] w fun e w'=>e= .returned (.tuple #[.agg dn,.int .i64 0,.int .i64 2])/\Kept w w':=by
 have mixed:Tryz.prog.follows .mixedOrders=true:=by kernel_rfl
 have late:Tryz.prog.follows .lateStores=true:=by kernel_rfl
 have t3:=Tryz.underlying3;have t4:=Tryz.underlying4;have t9:=Tryz.underlying9;have t24:=Tryz.underlying24;have a24:=Tryz.isAgg24;have z24:=Tryz.sizeOf24;have v24:=Tryz.zeroValue24
 have hsz:(bs t).size=t.length:=Ve
 go_enter Tryz.func6,Tryz.ntmps6
 go_wp2
 refine bodyPost_ret (eV (p:=2) (q:=3) (r:=4) (ty:=24) (b:=w.heap.size) (v:= .agg dn) (by kernel_rfl) _ _ _ (by rfl) (jw ?_)) rfl ⟨by rfl, ?_⟩
 ·exact (cP _ _).1
 ·exact (cP _ _).2
theorem O3 (w:World): Calls Tryz.prog 6 #[.string (bs [])] w fun e w'=>e= .returned (.tuple #[.agg dn,.int .i64 1,.int .i64 10])/\Kept w w':=by
 have mixed:Tryz.prog.follows .mixedOrders=true:=by kernel_rfl
 have late:Tryz.prog.follows .lateStores=true:=by kernel_rfl
 have t3:=Tryz.underlying3;have t4:=Tryz.underlying4;have t9:=Tryz.underlying9;have t24:=Tryz.underlying24;have a24:=Tryz.isAgg24;have z24:=Tryz.sizeOf24;have v24:=Tryz.zeroValue24
 have hsz:(bs []).size=0:=rfl
 have hb:((bs []).toList==[])=true:=by rw[oV];rfl
 go_enter Tryz.func6,Tryz.ntmps6
 go_wp2
 refine bodyPost_ret (eV (p:=2) (q:=3) (r:=4) (ty:=24) (b:=w.heap.size) (v:= .agg dn) (by kernel_rfl) _ _ _ (by rfl) (jw ?_)) rfl ⟨by rfl, ?_⟩
 ·exact (cP _ _).1
 ·exact (cP _ _).2
structure RdR (w wr:World) (a:ai) (av:Option Addr) (n c:Nat) (L:List (aa×Value)) (i:Nat):Prop where
 box:wr.heap[w.heap.size+1]? =some (.cells #[.string (bs a.1),.string (bs a.2.1),.int .i64 a.2.2.1,.slice av n c] 24 (0,0))
 nst:ku wr (.slice av n c) L
 map:L.map (·.1)=a.2.2.2
 fr:∀ b∈nblk (.slice av n c) L,w.heap.size+1<b
 kb:w.heap.size<=wr.heap.size/\wr.os=w.os/\wr.output=w.output/\∀ b,b<w.heap.size->wr.heap[b]? =w.heap[b]?
 res:wr.heap[w.heap.size]? =some (.cells dn 24 (0,0))
 len:a.2.2.2.length<=i
 lens:∀ p∈a.2.2.2,p.2.2.2.length<=i
def SN (G:Gh) (w:World) (t:List UInt8) (qq:Int) (e:Ending) (w':World):Prop:=
 Kept w w'/\
  ((∃ n,rGo t.length t 1 zA= .inr n/\e= .returned (.tuple #[.agg dn,.int .i64 n,.int .i64 10]))\/
   (∃ a,rGo t.length t 1 zA= .inl a/\((qq≠0/\e= .returned (.tuple #[.agg dn,.int .i64 0,.int .i64 qq]))\/
     (qq=0/\∃ v,e= .returned (.tuple #[.agg (nq a v).toArray,.int .i64 0,.int .i64 0])/\bZ (frz w.heap.size G w') aK.size (ay (frz w.heap.size G w') aK) a.2.2.2 v))))
theorem BT (i:Nat):((i:Int)+1==1)=(i+1==1):=by
 by_cases h:i=0
 ·subst h;rfl
 ·rw[VS (show i+1≠1 by omega),VS (by omega)]
theorem RdR.kept {w wr W:World} {a:ai} {av:Option Addr} {n c:Nat} {L:List (aa×Value)} {i:Nat} (h:RdR w wr a av n c L i) (hk:Kept wr W):RdR w W a av n c L i:=
 ⟨(hk.block _ (aj h.box)).trans h.box,h.nst.keep fun b hb=>hk.block b (h.nst.lt b hb),h.map,h.fr,⟨Vv h.kb.1 hk.size,hk.os.trans h.kb.2.1,hk.output.trans h.kb.2.2.1,fun b hb=>(hk.block b (Vw hb h.kb.1)).trans (h.kb.2.2.2 b hb)⟩,(hk.block _ (aj h.res)).trans h.res,h.len,h.lens⟩
theorem RdR.agr {G:Gh} {w wr:World} {a:ai} {av:Option Addr} {n c:Nat} {L:List (aa×Value)} {i:Nat} (h:RdR w wr a av n c L i) (hG:Agr G w):Agr G wr:=fun b o hb=>(h.kb.2.2.2 b (aj (hG b o hb))).trans (hG b o hb)
theorem RdR.fin {w wr W Wz:World} {a:ai} {av:Option Addr} {n c:Nat} {L:List (aa×Value)} {i:Nat} (h:RdR w wr a av n c L i) (hs:wr.heap.size<=W.heap.size) (ho:W.os=wr.os) (hp:W.output=wr.output) (hb:∀ b,b<w.heap.size->W.heap[b]? =wr.heap[b]?)
 (s2:∀ k,k≠w.heap.size->Wz.heap[k]? =W.heap[k]?) (s3:Wz.heap.size=W.heap.size) (ho2:Wz.os=W.os:=by rfl) (hp2:Wz.output=W.output:=by rfl):Kept w Wz:=
 ⟨by rw[s3];exact Vv h.kb.1 hs,ho2.trans (ho.trans h.kb.2.1),hp2.trans (hp.trans h.kb.2.2.1),fun b hb'=>(s2 b (by omega)).trans ((hb b hb').trans (h.kb.2.2.2 b hb'))⟩
theorem RdR.next {w wr W3:World} {a a':ai} {av av':Option Addr} {n c n' c':Nat} {L L':List (aa×Value)} {i:Nat} {f:Bool} {s:List UInt8} (h:RdR w wr a av n c L i) (hr:rdL a f s=some a') (h1:wr.heap.size<=W3.heap.size) (h2:W3.os=wr.os) (h3:W3.output=wr.output) (h4:∀ b,b<wr.heap.size->b∉nblk (.slice av n c) L->W3.heap[b]? =wr.heap[b]?) (hN:ku W3 (.slice av' n' c') L') (hM:L'.map (·.1)=a'.2.2.2) (hb:∀ b∈nblk (.slice av' n' c') L',b∈nblk (.slice av n c) L\/wr.heap.size<=b) {W9:World} (hk:∀ k,k≠w.heap.size+1->k<W3.heap.size->W9.heap[k]? =W3.heap[k]?) (hbx:W9.heap[w.heap.size+1]? =some (.cells #[.string (bs a'.1),.string (bs a'.2.1),.int .i64 a'.2.2.1,.slice av' n' c'] 24 (0,0))) (hs9:W3.heap.size<=W9.heap.size) (ho:W9.os=W3.os) (hp:W9.output=W3.output):RdR w W9 a' av' n' c' L' (i+1):=by
 obtain⟨l1,l2⟩:=N0 hr h.len h.lens
 have hx1:w.heap.size+1<wr.heap.size:=aj h.box
 have hfr:∀ b∈nblk (.slice av' n' c') L',w.heap.size+1<b:=fun b hm=>by
  rcases hb b hm with hm | hm
  ·exact h.fr b hm
  ·omega
 refine⟨hbx,hN.keep fun b hm=>hk b (by have:=hfr b hm;omega) (hN.lt b hm),hM,hfr,⟨by have:=h.kb.1;omega,ho.trans (h2.trans h.kb.2.1),hp.trans (h3.trans h.kb.2.2.1),fun b hbN=> ?_⟩, ?_,l1,l2⟩
 ·rw[hk b (by omega) (by omega),h4 b (by omega) (fun hm=>by have:=h.fr b hm;omega)]
  exact h.kb.2.2.2 b hbN
 ·rw[hk _ (by omega) (by omega),h4 _ (by omega) (fun hm=>by have:=h.fr _ hm;omega)]
  exact h.res
theorem Qx {w wr W3 W4 W5:World} {a:ai} {av:Option Addr} {n c:Nat} {L:List (aa×Value)} {i:Nat} {e:Ending} {o:Option ai} (h:RdR w wr a av n c L i) (hk:Kept wr W3) (hl:ET W3 W4 (nblk (.slice av n c) L) e o) (hn:Kept W4 W5) {b:Nat} (hb:b<w.heap.size):W5.heap[b]? =wr.heap[b]? :=by
 have h1:=h.kb.1
 have h2:=hk.size
 have h3:=hl.1
 rw[hn.block b (by omega),hl.2.2.2.1 b (by omega) (fun hm=>by have:=h.fr b hm;omega)]
 exact hk.block b (by omega)
set_option maxHeartbeats 4000000 in
theorem G5 (G:Gh) (w:World) (t:List UInt8) (qq:Int) (hG:Agr G w) (hT:bJ Tryz.prog G) (h:¬ (300000:Int)<(t.length:Int)) (hne:t≠[]) (hq:∀ a,rGo t.length t 1 zA= .inl a->fO a=some (qq,())): Calls Tryz.prog 6 #[.string (bs t)] w fun e w'=>SN G w t qq e w':=by
 have e14:∀ args w,(callFunc 14 args).run Tryz.prog w= .ok (.enter 14 args) w:=enters_of Tryz.func14 (by kernel_rfl) rfl
 have e15:∀ args w,(callFunc 15 args).run Tryz.prog w= .ok (.enter 15 args) w:=enters_of Tryz.func15 (by kernel_rfl) rfl
 have e16:∀ args w,(callFunc 16 args).run Tryz.prog w= .ok (.enter 16 args) w:=enters_of Tryz.func16 (by kernel_rfl) rfl
 have mixed:Tryz.prog.follows .mixedOrders=true:=by kernel_rfl
 have late:Tryz.prog.follows .lateStores=true:=by kernel_rfl
 have t3:=Tryz.underlying3;have t4:=Tryz.underlying4;have t9:=Tryz.underlying9;have t24:=Tryz.underlying24;have a24:=Tryz.isAgg24;have z24:=Tryz.sizeOf24;have v24:=Tryz.zeroValue24;have t25:=Tryz.underlying25
 have hsz:(bs t).size=t.length:=Ve
 have hbt:((bs t).toList==[])=false:=by
  rw[oV]
  cases t with
  | nil=>exact absurd rfl hne
  | cons x y=>rfl
 obtain⟨k1,k2,k3⟩:=oM w (.cells #[.string ⟨#[]⟩,.string ⟨#[]⟩,.int .i64 0,.slice none 0 0] 24) (.cells #[.string ⟨#[]⟩,.string ⟨#[]⟩,.int .i64 0,.slice none 0 0] 24)
 go_enter Tryz.func6,Tryz.ntmps6
 go_wp2
 go_loopg [0,6] t.length (fun g s0 s6 wr=>∃ (i:Nat) (rest:List UInt8) (a:ai) (av:Option Addr) (n c:Nat) (L:List (aa×Value)) (f:Nat),s0= .string (bs rest)/\s6= .int .i64 ((i:Int)+1)/\rest.length<=g/\rest.length<=f/\i+rest.length<=t.length/\Aside (RdR w wr a av n c L i)/\Aside (rGo t.length t 1 zA=rGo f rest (i+1) a))
 case atStart=>
  refine⟨0,t,zA,none,0,0,[],t.length,rfl,rfl,Vu _,Vu _,by omega, ?_,rfl⟩
  exact⟨k2,NestW.nil _ _ _ _ _ _ _,rfl,fun b hb=>by simp[nblk,Value.ownBlock] at hb,⟨k3.size,k3.os,k3.output,fun b hb=>k3.block b hb⟩,k1,VI _,fun p hp=>by cases hp⟩
 case round=>
  obtain⟨i,rest,a,av,n,c,L,f,rfl,rfl,hg,hf,hi,HI,HP⟩:=hrel
  have hA:=HI.out.agr hG
  have hbx:=HI.out.box
  have hb4:wr.heap[w.heap.size]? =some (.cells #[.string ⟨#[]⟩,.string ⟨#[]⟩,.int .i64 0,.slice none 0 0] 24 (0,0)):=HI.out.res
  by_cases hre:rest=[]
  ·subst hre
   have hP:rGo t.length t 1 zA= .inl a:=by
    rw[HP.out]
    cases f<;>rfl
   have hqa:=hq a hP
   have HPG:Aside _:=hP
   have hbr:((bs ([]:List UInt8)).toList==[])=true:=by rw[oV];rfl
   have hck:=Mj (G:=frz w.heap.size G wr) a (.slice av n c) qq (G6 (bx:=w.heap.size+1) ⟨HI.out.box,HI.out.nst,HI.out.map,fun hm=>by have:=HI.out.fr _ hm;omega⟩ (fun b hb=>by have:=HI.out.fr b hb;omega)) (Is fun b hb o ho=>(HI.out.kb.2.2.2 b hb).trans (hG b o ho)) (hT.mono (Ly hG (Vu _))) hqa
   obtain⟨⟨c0,c1,c2,c3⟩,_⟩:=aW hbx
   unfold nq at hck
   clear hP hq hqa k1 k2 k3
   by_cases hqz:qq=0
   ·subst hqz
    go_wp2_with (go_at_fn 16;refine hck.mono ?_;rintro e W4 ⟨rfl,hk4⟩;have hb5:=(hk4.block _ (aj hb4)).trans hb4;obtain⟨⟨q0,q1,q2,q3⟩,qf⟩:=aW hb5;have f0:=qf 0;have f1:=qf 1;have f2:=qf 2;have f3:=qf 3;have hbx5:=(hk4.block _ (aj hbx)).trans hbx;obtain⟨⟨d0,d1,d2,d3⟩,_⟩:=aW hbx5)
    obtain⟨s1,s2,s3⟩:=qE (.string (bs a.1)) (.string (bs a.2.1)) (.int .i64 a.2.2.1) (.slice av n c) hb5
    have hI4:=HI.out.kept hk4
    refine bodyPost_ret (eV (p:=2) (q:=3) (r:=4) (ty:=24) (b:=w.heap.size) (v:= .agg (nq a (.slice av n c)).toArray) (by kernel_rfl) _ _ _ (by rfl) (jw s1)) rfl (And.intro (HI.out.fin hk4.size hk4.os hk4.output (fun b hb=>hk4.block b (Vw hb HI.out.kb.1)) s2 s3) <| Or.inr <| Exists.intro a <| And.intro HPG.out <| Or.inr <| And.intro rfl <| Exists.intro (.slice av n c) <| And.intro (by rfl) (G6 (bx:=w.heap.size+1) ⟨(s2 _ (by omega)).trans hI4.box,hI4.nst.keep fun b hb=>s2 b (by have:=hI4.fr b hb;omega),hI4.map,fun hm=>by have:=hI4.fr _ hm;omega⟩ (fun b hb=>by have:=hI4.fr b hb;omega)))
   ·have hqb:(qq==0)=false:=VS hqz
    go_wp2_with (go_at_fn 16;refine hck.mono ?_;rintro e W4 ⟨rfl,hk4⟩;have hb5:=(hk4.block _ (aj hb4)).trans hb4;obtain⟨⟨q0,q1,q2,q3⟩,qf⟩:=aW hb5;have f0:=qf 0;have f1:=qf 1;have f2:=qf 2;have f3:=qf 3)
    obtain⟨s1,s2,s3⟩:=qE (.string ⟨#[]⟩) (.string ⟨#[]⟩) (.int .i64 0) (.slice none 0 0) hb5
    refine bodyPost_ret (eV (p:=2) (q:=3) (r:=4) (ty:=24) (b:=w.heap.size) (v:= .agg dn) (by kernel_rfl) _ _ _ (by rfl) (jw s1)) rfl ⟨HI.out.fin hk4.size hk4.os hk4.output (fun b hb=>hk4.block b (Vw hb HI.out.kb.1)) s2 s3,.inr ⟨a,HPG.out,.inl ⟨hqz,by rfl⟩⟩⟩
  ·have hbr:((bs rest).toList==[])=false:=by
    rw[oV]
    cases rest with
    | nil=>exact absurd rfl hre
    | cons x y=>rfl
   have hbr2:(rest==[])=false:=by rw[oV] at hbr;exact hbr
   have hrl:rest.length<=1000000:=by omega
   have hcut:=tJ rest 10 hrl
   have hcl:=E7 10 rest
   have hcs:=(lQ 10 rest).1
   obtain⟨f',rfl⟩:∃ f',f=f'+1:=by
    cases f with
    | zero=>exact absurd (UL.1 (by omega)) hre
    | succ f'=>exact⟨f',rfl⟩
   have hP:=HP.out
   rw[rGo,hbr2,VV] at hP
   generalize cW 10 rest=cf at hcut hcl hcs hP
   obtain⟨x,y,ok⟩:=cf
   dsimp only at hcut hcl hcs hP
   have hct:=Pz rest x y ok hA hT hcut
   have hxl:x.length<=1000000:=by omega
   have hLlen:L.length=a.2.2.2.length:=by rw[<- HI.out.map,UM]
   have hcall:=fun (W3:World) (hk:Kept wr W3) f=>Nn G W3 f x a av n c L ((HI.out.kept hk).agr hG) hT hxl (HI.out.kept hk).nst HI.out.map (fun b hb=>by
    have:=HI.out.fr b hb
    cases hg:G b with
    | none=>rfl
    | some o=>exact absurd (aj (hG b o hg)) (by omega)) (by have:=HI.out.len;omega) (fun q hq=>by
    have:=HI.out.lens q.1 (by rw[<- HI.out.map];exact List.mem_map_of_mem hq)
    omega)
   have hz:(i+1==1)=true->a.2.2.2=[]:=fun he=>by
    have:=HI.out.len
    have h0:i=0:=by have:=eq_of_beq he;omega
    exact UL.1 (by omega)
   have hNx:w.heap.size∉nblk (.slice av n c) L:=fun hm=>by have:=HI.out.fr _ hm;omega
   have hbx1:w.heap.size+1∉nblk (.slice av n c) L:=fun hm=>by have:=HI.out.fr _ hm;omega
   obtain⟨o,hr⟩:∃ o,rdL a (i+1==1) x=o:=⟨_,rfl⟩
   rw[hr] at hP
   have hrest:ok=true->y.length+1<=rest.length:=fun he=>by
    rw[he,VW] at hcs
    have:=congrArg List.length hcs
    simp at this
    omega
   cases o with
   | none=>
    have HPG:Aside _:=hP
    have hcall2:∀ W3,Kept wr W3->∀ f:Bool,f=(i+1==1)->Calls Tryz.prog 15 #[.agg #[.string (bs a.1),.string (bs a.2.1),.int .i64 a.2.2.1,.slice av n c],.string (bs x),.bool f] W3 fun e w'=>(∃ (x':ai) (av':Option Addr) (n' c':Nat),e= .returned (.tuple #[.agg #[.string (bs x'.1),.string (bs x'.2.1),.int .i64 x'.2.2.1,.slice av' n' c'],.bool false]))/\ET W3 w' (nblk (.slice av n c) L) e none:=fun W3 hk f hf=>by
     refine (hcall W3 hk f (fun h=>hz (hf ▸ h))).mono fun e w' hlin=> ?_
     rw[hf,hr] at hlin
     rcases hlin.2.2.2.2 with ⟨_,x',av',n',c',he⟩ | ⟨a',h1,_⟩
     ·exact⟨⟨x',av',n',c',he⟩,hlin⟩
     ·cases h1
    clear hP hcall hr hcs hcut k1 k2 k3 hrest hcl
    go_wp2_with (first | (go_at_fn 14;refine hct.mono ?_;rintro e W3 ⟨rfl,hk3⟩;have hbx3:=(hk3.block _ (aj hbx)).trans hbx;obtain⟨⟨c0,c1,c2,c3⟩,_⟩:=aW hbx3;have hb3:=(hk3.block _ (aj hb4)).trans hb4;have hc15:=hcall2 W3 hk3) | (go_at_fn 15;refine (hc15 _ (BT i)).mono ?_;rintro e W4 ⟨⟨x',av',n',c',rfl⟩,hlin⟩;have hb5:=(hlin.2.2.2.1 _ (aj hb3) hNx).trans hb3;have hb6:=(heap_alloc_old W4 (.cells #[.string (bs x'.1),.string (bs x'.2.1),.int .i64 x'.2.2.1,.slice av' n' c'] 24) (aj hb5)).trans hb5;obtain⟨⟨q0,q1,q2,q3⟩,qf⟩:=aW hb6;have f0:=qf 0;have f1:=qf 1;have f2:=qf 2;have f3:=qf 3))
    obtain⟨s1,s2,s3⟩:=qE (.string ⟨#[]⟩) (.string ⟨#[]⟩) (.int .i64 0) (.slice none 0 0) hb6
    have hn:=cP W4 (.cells #[.string (bs x'.1),.string (bs x'.2.1),.int .i64 x'.2.2.1,.slice av' n' c'] 24)
    refine bodyPost_ret (eV (p:=2) (q:=3) (r:=4) (ty:=24) (b:=w.heap.size) (v:= .agg dn) (by kernel_rfl) _ _ _ (by rfl) (jw s1)) rfl ⟨HI.out.fin (Vv hk3.size (Vv hlin.1 hn.2.size)) (hn.2.os.trans (hlin.2.1.trans hk3.os)) (hn.2.output.trans (hlin.2.2.1.trans hk3.output)) (fun b hb=>Qx HI.out hk3 hlin hn.2 hb) s2 s3,.inl ⟨i+1,HPG.out,by rfl⟩⟩
   | some a'=>
    have hcall2:∀ W3,Kept wr W3->∀ f:Bool,f=(i+1==1)->Calls Tryz.prog 15 #[.agg #[.string (bs a.1),.string (bs a.2.1),.int .i64 a.2.2.1,.slice av n c],.string (bs x),.bool f] W3 fun e w'=>(∃ (av':Option Addr) (n' c':Nat) (L':List (aa×Value)),e= .returned (.tuple #[.agg #[.string (bs a'.1),.string (bs a'.2.1),.int .i64 a'.2.2.1,.slice av' n' c'],.bool true])/\ku w' (.slice av' n' c') L'/\L'.map (·.1)=a'.2.2.2/\∀ b∈nblk (.slice av' n' c') L',b∈nblk (.slice av n c) L\/W3.heap.size<=b)/\ET W3 w' (nblk (.slice av n c) L) e (some a'):=fun W3 hk f hf=>by
     refine (hcall W3 hk f (fun h=>hz (hf ▸ h))).mono fun e w' hlin=> ?_
     rw[hf,hr] at hlin
     rcases hlin.2.2.2.2 with ⟨h1,_⟩ | ⟨a'',h1,av',n',c',L',he,hh⟩
     ·cases h1
     ·cases h1
      exact⟨⟨av',n',c',L',he,hh⟩,hlin⟩
    have HR:Aside _:=hr
    clear hcall hr hcs hcut k1 k2 k3 hcl
    cases ok with
    | false=>
     have HPG:Aside _:=hP
     clear hP hrest
     go_wp2_with (first | (go_at_fn 14;refine hct.mono ?_;rintro e W3 ⟨rfl,hk3⟩;have hbx3:=(hk3.block _ (aj hbx)).trans hbx;obtain⟨⟨c0,c1,c2,c3⟩,_⟩:=aW hbx3;have hb3:=(hk3.block _ (aj hb4)).trans hb4;have hc15:=hcall2 W3 hk3) | (go_at_fn 15;refine (hc15 _ (BT i)).mono ?_;rintro e W4 ⟨⟨av',n',c',L',rfl,hN4,hM4,hB4⟩,hlin⟩;have hb5:=(hlin.2.2.2.1 _ (aj hb3) hNx).trans hb3;have hb6:=(heap_alloc_old W4 (.cells #[.string (bs a'.1),.string (bs a'.2.1),.int .i64 a'.2.2.1,.slice av' n' c'] 24) (aj hb5)).trans hb5;obtain⟨⟨q0,q1,q2,q3⟩,qf⟩:=aW hb6;have f0:=qf 0;have f1:=qf 1;have f2:=qf 2;have f3:=qf 3))
     obtain⟨s1,s2,s3⟩:=qE (.string ⟨#[]⟩) (.string ⟨#[]⟩) (.int .i64 0) (.slice none 0 0) hb6
     have hn:=cP W4 (.cells #[.string (bs a'.1),.string (bs a'.2.1),.int .i64 a'.2.2.1,.slice av' n' c'] 24)
     refine bodyPost_ret (eV (p:=2) (q:=3) (r:=4) (ty:=24) (b:=w.heap.size) (v:= .agg dn) (by kernel_rfl) _ _ _ (by rfl) (jw s1)) rfl ⟨HI.out.fin (Vv hk3.size (Vv hlin.1 hn.2.size)) (hn.2.os.trans (hlin.2.1.trans hk3.os)) (hn.2.output.trans (hlin.2.2.1.trans hk3.output)) (fun b hb=>Qx HI.out hk3 hlin hn.2 hb) s2 s3,.inl ⟨i+1,HPG.out,by rfl⟩⟩
    | true=>
     have HPG:Aside _:=hP
     have hyl:=hrest rfl
     have HYL:Aside _:=hyl
     clear hP hrest hyl
     go_wp2_with (first | (go_at_fn 14;refine hct.mono ?_;rintro e W3 ⟨rfl,hk3⟩;have hbx3:=(hk3.block _ (aj hbx)).trans hbx;obtain⟨⟨c0,c1,c2,c3⟩,_⟩:=aW hbx3;have hb3:=(hk3.block _ (aj hb4)).trans hb4;have hc15:=hcall2 W3 hk3) | (go_at_fn 15;refine (hc15 _ (BT i)).mono ?_;rintro e W4 ⟨⟨av',n',c',L',rfl,hN4,hM4,hB4⟩,hlin⟩;have hb5:=(hlin.2.2.2.1 _ (aj hbx3) hbx1).trans hbx3;have hb6:=(heap_alloc_old W4 (.cells #[.string (bs a'.1),.string (bs a'.2.1),.int .i64 a'.2.2.1,.slice av' n' c'] 24) (aj hb5)).trans hb5;obtain⟨⟨q0,q1,q2,q3⟩,qf⟩:=aW hb6;have f0:=qf 0;have f1:=qf 1;have f2:=qf 2;have f3:=qf 3;have hnw:=(cP W4 (.cells #[.string (bs a'.1),.string (bs a'.2.1),.int .i64 a'.2.2.1,.slice av' n' c'] 24)).1;obtain⟨⟨z0,z1,z2,z3⟩,_⟩:=aW hnw))
     obtain⟨s1,s2,s3⟩:=qE (.string (bs a'.1)) (.string (bs a'.2.1)) (.int .i64 a'.2.2.1) (.slice av' n' c') hb6
     have hn:=cP W4 (.cells #[.string (bs a'.1),.string (bs a'.2.1),.int .i64 a'.2.2.1,.slice av' n' c'] 24)
     have HI3:=HI.out.kept hk3
     have HN9:Aside _:=HI3.next HR.out hlin.1 hlin.2.1 hlin.2.2.1 hlin.2.2.2.1 hN4 hM4 hB4 (fun k hk hlt=>(s2 k hk).trans (hn.2.block k hlt)) s1 (by rw[s3];exact hn.2.size) hn.2.os hn.2.output
     go_roundg y.length
     case measure=>have:=HYL.out;omega
     case rel=>
      have:=HYL.out
      exact⟨i+1,y,a',av',n',c',L',f',by rfl,by go_num,Vu _,by omega,by omega,HN9.out,HPG.out⟩
end Go.Proofs.SeatU
set_option maxRecDepth 100000
namespace Go.Proofs.SeatU
open Go.Dn Go.Md Go.Proofs Go.RowKit Go.Shelf Go.Lib
def KA (G:Gh) (w:World) (a:ai) (n f:Int) (e:Ending) (w':World):Prop:=
 ∃ v,e= .returned (.tuple #[.agg (nq a v).toArray,.int .i64 n,.int .i64 f])/\Kept w w'/\bZ (frz w.heap.size G w') aK.size (ay (frz w.heap.size G w') aK) a.2.2.2 v
theorem nH {G:Gh} {w w':World} {n f:Int} {e:Ending} (he:e= .returned (.tuple #[.agg dn,.int .i64 n,.int .i64 f])) (hk:Kept w w'):KA G w zA n f e w':=
 ⟨.slice none 0 0,he,hk,none,0,rfl,Vu _,by decide,.inl rfl⟩
theorem Nb {G:Gh} {w:World} (t:List UInt8) (a:ai) (n f:Int) (hG:Agr G w) (hT:bJ Tryz.prog G) (hm:mK t=some (a,n,f,())):Calls Tryz.prog 5 #[.string (bs t)] w fun e w'=>KA G w a n f e w':=by
 unfold mK at hm
 by_cases hl:(300000:Int)<(t.length:Int)
 ·rw[VZ hl,VW] at hm
  cases hm
  exact (OX w t hl).mono fun e w' ⟨h1,h2⟩=>nH h1 h2
 ·rw[VY hl,VV] at hm
  obtain⟨Ls,e0,hL,_,_,h1,h2,_⟩:=Cy t (by omega)
  rw[hL,VJ] at hm
  dsimp only at hm
  cases hLs:Ls.isEmpty with
  | true=>
   have:Ls=[]:=by simpa using hLs
   subst this
   rw[hLs,VW] at hm
   cases hm
   exact (Qo G w t e0 hG hT hl hL).mono fun e w' ⟨h1,h2⟩=>nH h1 h2
  | false=>
   rw[hLs,VV] at hm
   have hne:Ls≠[]:=fun h=>by rw[h] at hLs;cases hLs
   obtain⟨o,ho⟩:∃ o,pGo e0 Ls 0 zA=o:=⟨_,rfl⟩
   rw[ho] at hm
   cases o with
   | inr k=>
    dsimp only at hm
    cases hm
    refine (JH G w t Ls e0 0 hG hT hl hL hne (by omega) h2 (fun a ha=>by rw[ho] at ha;cases ha)).mono ?_
    rintro e w' ⟨hk,⟨k',hk',he⟩ | ⟨a,ha,_⟩⟩
    ·rw[ho] at hk';cases hk'
     exact nH he hk
    ·rw[ho] at ha;cases ha
   | inl b=>
    dsimp only at hm
    cases hq:dQ b with
    | none=>rw[hq] at hm;cases hm
    | some q=>
     obtain⟨q,u⟩:=q
     rw[hq,VJ] at hm
     dsimp only at hm
     refine (JH G w t Ls e0 q hG hT hl hL hne (by omega) h2 (fun a ha=>by rw[ho] at ha;cases ha;exact hq)).mono ?_
     rintro e w' ⟨hk,⟨k',hk',he⟩ | ⟨a',ha,hh⟩⟩
     ·rw[ho] at hk';cases hk'
     ·rw[ho] at ha;cases ha
      rcases hh with ⟨hq0,he⟩ | ⟨hq0,v,he,hv⟩
      ·have hb:(q != 0)=true:=by simpa using hq0
       rw[hb,VW] at hm
       cases hm
       exact nH he hk
      ·subst hq0
       have hm:some (b,(0:Int),(0:Int),())=some (a,n,f,()):=hm
       cases hm
       exact⟨v,he,hk,hv⟩
theorem No {G:Gh} {w:World} (t:List UInt8) (a:ai) (n f:Int) (hG:Agr G w) (hT:bJ Tryz.prog G) (hm:tr t=some (a,n,f,())):Calls Tryz.prog 6 #[.string (bs t)] w fun e w'=>KA G w a n f e w':=by
 unfold tr at hm
 by_cases hl:(300000:Int)<(t.length:Int)
 ·rw[VZ hl,VW] at hm
  cases hm
  exact (Np w t hl).mono fun e w' ⟨h1,h2⟩=>nH h1 h2
 ·rw[VY hl,VV] at hm
  by_cases ht:t=[]
  ·subst ht
   cases hm
   exact (O3 w).mono fun e w' ⟨h1,h2⟩=>nH h1 h2
  ·have htb:(t==[])=false:=by
    cases t with
    | nil=>exact absurd rfl ht
    | cons x y=>rfl
   rw[htb,VV] at hm
   obtain⟨o,ho⟩:∃ o,rGo t.length t 1 zA=o:=⟨_,rfl⟩
   rw[ho] at hm
   cases o with
   | inr k=>
    dsimp only at hm
    cases hm
    refine (G5 G w t 0 hG hT hl ht (fun a ha=>by rw[ho] at ha;cases ha)).mono ?_
    rintro e w' ⟨hk,⟨k',hk',he⟩ | ⟨a,ha,_⟩⟩
    ·rw[ho] at hk';cases hk'
     exact nH he hk
    ·rw[ho] at ha;cases ha
   | inl b=>
    dsimp only at hm
    cases hq:fO b with
    | none=>rw[hq] at hm;cases hm
    | some q=>
     obtain⟨q,u⟩:=q
     rw[hq,VJ] at hm
     dsimp only at hm
     refine (G5 G w t q hG hT hl ht (fun a ha=>by rw[ho] at ha;cases ha;exact hq)).mono ?_
     rintro e w' ⟨hk,⟨k',hk',he⟩ | ⟨a',ha,hh⟩⟩
     ·rw[ho] at hk';cases hk'
     ·rw[ho] at ha;cases ha
      rcases hh with ⟨hq0,he⟩ | ⟨hq0,v,he,hv⟩
      ·have hb:(q != 0)=true:=by simpa using hq0
       rw[hb,VW] at hm
       cases hm
       exact nH he hk
      ·subst hq0
       have hm:some (b,(0:Int),(0:Int),())=some (a,n,f,()):=hm
       cases hm
       exact⟨v,he,hk,hv⟩
theorem Ep {P:Program} {f:FuncId} {m:List UInt8->Option (ai×Int×Int×Unit)} (h:∀ {G:Gh} {w:World} (t:List UInt8) (a:ai) (n k:Int),Agr G w->bJ P G->m t=some (a,n,k,())->Calls P f #[.string (bs t)] w fun e w'=>KA G w a n k e w'): bO P f ⟨[.val .str],[.val eM,.val tI,.val tI],fun x=>m x.1⟩:=by
 intro G w ow args x y hG how ha hm hT
 obtain⟨t,u⟩:=x
 obtain⟨a,n,k,u'⟩:=y
 obtain⟨v,us,h1,_,hv,h3⟩:=ha
 have e1:=h1 rfl
 have e3:us=[]:=h3
 subst e1;subst e3
 have e0:[v]=[Value.string (bs t)]:=hv
 cases e0
 refine (h t a n k hG hT hm).mono ?_
 rintro e w' ⟨v,he,hk,hr⟩
 refine⟨frz w.heap.size G w',fun _=>none,[.agg (nq a v).toArray,.int .i64 n,.int .i64 k], ?_⟩
 exact {
  ret:=he
  le:=Ly hG (Vu _)
  agr:=Is fun b hb o ho=>(hk.block b hb).trans (hG b o ho)
  size:=hk.size
  os:=hk.os
  output:=hk.output
  old:=fun i hlt _=>⟨hk.block i hlt,by simp only[frz,V7 hlt]⟩
  own:=fun i j hij=>by cases hij
  out:=⟨_,_,rfl,⟨_,rfl,[.string (bs a.1)],_,rfl,rfl,[.string (bs a.2.1)],_,rfl,rfl,[.int .i64 a.2.2.1],_,rfl,rfl,_,rfl,hr⟩,_,_,rfl,rfl,_,_,rfl,rfl,rfl,trivial⟩
  hnd:=fun _=>rfl }
noncomputable def zL:ax:=⟨[.val .str],[.val eM,.val tI,.val tI],fun x=>mK x.1⟩
theorem Iu:cB Tryz.prog 5:=di (fn:=Tryz.f5) (by kernel_rfl) rfl (by decide)
theorem IG:bO Tryz.prog 5 zL:=Ep fun t a n k hG hT hm=>Nb t a n k hG hT hm
noncomputable def EF:ax:=⟨[.val .str],[.val eM,.val tI,.val tI],fun x=>tr x.1⟩
theorem MY:cB Tryz.prog 6:=di (fn:=Tryz.f6) (by kernel_rfl) rfl (by decide)
theorem M7:bO Tryz.prog 6 EF:=Ep fun t a n k hG hT hm=>No t a n k hG hT hm
end Go.Proofs.SeatU
