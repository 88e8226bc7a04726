/-
  readLine of the reference by a walk, second part. No condition.
-/
import Derived.Test.YtjlkkapojeldlabGreatDoorYF
set_option maxRecDepth 100000
namespace Go.Proofs.SeatU
open Go.Dn Go.Md Go.Proofs Go.RowKit Go.Shelf Go.Lib
attribute [local go_sem ↓] Go.wp_at_zero Go.wp_at_succ
theorem Wd.cell {bw:Nat} {u:Value} {ok:Bool} {w w':World} (h:Wd bw u ok w w') {b o:Nat} {x:Value} (hn:b≠bw) (hc:w.cell? ⟨b,o,none⟩=some x):w'.cell? ⟨b,o,none⟩=some x:=by
 simp only[World.cell?] at hc ⊢
 cases hb:w.heap[b]? with
 | none=>rw[hb] at hc;cases hc
 | some o'=>rw[h.keep b (aj hb) hn,hb];rw[hb] at hc;exact hc
structure RE (w W:World) (v:aa) (vr vl ve:Value) (L:List (ai×Value)) (nb:List Nat) (bw:Nat) (u:Value) (ok:Bool):Prop where
 b0:W.heap[w.heap.size]? =some (.cells #[.string (bs v.1),.string (bs v.2.1),.int .i64 v.2.2.1,.int .i64 v.2.2.2.1,.int .i64 v.2.2.2.2.1,.bool v.2.2.2.2.2.1,vr,vl,ve] 26 (0,0))
 b1:W.heap[w.heap.size+1]? =some (.cells #[.string ⟨#[]⟩,.string ⟨#[]⟩,.int .i64 0,.int .i64 0,.int .i64 0,.bool false,.slice none 0 0,.slice none 0 0,.slice none 0 0] 26 (0,0))
 box:W.heap[bw]? =some (.cells #[u,.bool ok] 100 (0,0))
 lt:w.heap.size+1<bw
 far:Far w.heap.size nb w W
 rv:RV W v vr vl ve L
 sub:∀ b∈aK vr vl ve L,(b∈nb\/w.heap.size<=b)/\b≠w.heap.size+1
theorem XU {w W Wz:World} {v:aa} {ra:Option Addr} {rn rc:Nat} {la:Option Addr} {ln lc:Nat} {xa:Option Addr} {xn xc:Nat} {L:List (ai×Value)} {nb:List Nat} {bw:Nat} {u:Value} {ok:Bool} {e:Ending} {o:Option aa} (h:RE w W v (.slice ra rn rc) (.slice la ln lc) (.slice xa xn xc) L nb bw u ok) (he:e= .returned (.tuple #[.agg (iJ v (.slice ra rn rc) (.slice la ln lc) (.slice xa xn xc)).toArray,.bool ok])) (ho:o=bif ok then some v else none) (s2:∀ k,k≠w.heap.size+1->Wz.heap[k]? =W.heap[k]?) (s3:Wz.heap.size=W.heap.size) (s4:Wz.os=W.os) (s5:Wz.output=W.output):uc w Wz nb e o:=by
 refine⟨⟨by rw[s3];exact h.far.size,s4.trans h.far.os,s5.trans h.far.output,fun b hb hn=>(s2 b (by omega)).trans (h.far.keep b hb hn)⟩, ?_⟩
 cases ok with
 | false=>exact .inl ⟨ho,v,ra,rn,rc,la,ln,lc,xa,xn,xc,he⟩
 | true=>exact .inr ⟨v,ho,ra,rn,rc,la,ln,lc,xa,xn,xc,L,he,h.rv.keep fun b hb=>s2 b (h.sub b hb).2,fun b hb=>(h.sub b hb).1⟩
theorem kO {w W Wz:World} {v:aa} {ra:Option Addr} {rn rc:Nat} {la:Option Addr} {ln lc:Nat} {xa:Option Addr} {xn xc:Nat} {L:List (ai×Value)} {nb:List Nat} {bw:Nat} {u:Value} {ok:Bool} {e:Ending} {o:Option aa} (h:RE w W v (.slice ra rn rc) (.slice la ln lc) (.slice xa xn xc) L nb bw u ok) (he:e= .returned (.tuple #[.agg (iJ v (.slice ra rn rc) (.slice la ln lc) (.slice xa xn xc)).toArray,.bool ok])) (ho:o=bif ok then some v else none) (s2:∀ k,k≠w.heap.size+1->Wz.heap[k]? =W.heap[k]?) (s3:Wz.heap.size=W.heap.size) (s4:Wz.os=W.os) (s5:Wz.output=W.output):uc w Wz.drew nb e o:=XU h he ho s2 s3 s4 s5
theorem mz {w:World} {b:Nat} {a0 a1 a2 a3 a4 a5 a6 a7 a8:Value} (h:w.heap[b]? =some (.cells #[a0,a1,a2,a3,a4,a5,a6,a7,a8] 26 (0,0))):(loadVar 26 ⟨b,0,none⟩).run Tryz.prog w.drew= .ok (.agg #[a0,a1,a2,a3,a4,a5,a6,a7,a8]) w.drew:=nk (w:=w.drew) h
set_option maxHeartbeats 8000000 in
theorem TU (G:Gh) (w:World) (s:List UInt8) (Ws:List (List UInt8)) (v:aa) (ra:Option Addr) (rn rc:Nat) (la:Option Addr) (ln lc:Nat) (xa:Option Addr) (xn xc:Nat) (nb:List Nat) (hG:Agr G w) (hT:bF Tryz.prog G) (hne:Ws≠[]) (nW:Nat) (hnW:Ws.length=nW) (hWl:nW<=1000000) (hm:strings_Split s [32]=some (Ws,())) (hc:bn Ws []=some (false,())) (hi0:isW [105,110,118,111,105,99,101] 6 [112,101,114,108,105,110,101] Ws=true) (x1 x2 x3 x4 x5:List UInt8) (hx1:Ws[1]? =some x1) (hx2:Ws[2]? =some x2) (hx3:Ws[3]? =some x3) (hx4:Ws[4]? =some x4) (hx5:Ws[5]? =some x5) (e7:Bool) (h7:((nW:Int)==7)=e7): Calls Tryz.prog 15 #[.agg #[.string (bs v.1),.string (bs v.2.1),.int .i64 v.2.2.1,.int .i64 v.2.2.2.1,.int .i64 v.2.2.2.2.1,.bool v.2.2.2.2.2.1,.slice ra rn rc,.slice la ln lc,.slice xa xn xc],.string (bs s),.bool true] w fun e w'=>uc w w' nb e (bif (true&&cD x3&&cD x4&&cD x5) then some (x1,x2,bL x3,bL x4,bL x5,e7,[],[],[]) else none):=by
 have e32:∀ args w,(callFunc 32 args).run Tryz.prog w= .ok (.enter 32 args) w:=enters_of Tryz.func32 (by kernel_rfl) rfl
 have e48:∀ args w,(callFunc 48 args).run Tryz.prog w= .ok (.enter 48 args) w:=enters_of Tryz.func48 (by kernel_rfl) rfl
 have e49:∀ args w,(callFunc 49 args).run Tryz.prog w= .ok (.enter 49 args) w:=enters_of Tryz.func49 (by kernel_rfl) rfl
 have e50:∀ args w,(callFunc 50 args).run Tryz.prog w= .ok (.enter 50 args) w:=enters_of Tryz.func50 (by kernel_rfl) rfl
 have e51:∀ args w,(callFunc 51 args).run Tryz.prog w= .ok (.enter 51 args) w:=enters_of Tryz.func51 (by kernel_rfl) rfl
 have mixed:Tryz.prog.follows .mixedOrders=true:=by kernel_rfl
 have late:Tryz.prog.follows .lateStores=true:=by kernel_rfl
 have t3:=Tryz.underlying3;have t4:=Tryz.underlying4;have t9:=Tryz.underlying9;have t26:=Tryz.underlying26;have a26:=Tryz.isAgg26;have z26:=Tryz.sizeOf26;have v26:=Tryz.zeroValue26;have t36:=Tryz.underlying36;have t100:=Tryz.underlying100;have a100:=Tryz.isAgg100;have z100:=Tryz.sizeOf100;have v100:=Tryz.zeroValue100;have t22:=Tryz.underlying22;have t23:=Tryz.underlying23;have t24:=Tryz.underlying24
 obtain⟨k1,k2,k3⟩:=kK w (.cells #[.string (bs v.1),.string (bs v.2.1),.int .i64 v.2.2.1,.int .i64 v.2.2.2.1,.int .i64 v.2.2.2.2.1,.bool v.2.2.2.2.2.1,.slice ra rn rc,.slice la ln lc,.slice xa xn xc] 26) (.cells #[.string ⟨#[]⟩,.string ⟨#[]⟩,.int .i64 0,.int .i64 0,.int .i64 0,.bool false,.slice none 0 0,.slice none 0 0,.slice none 0 0] 26)
 have hA0:Agr G ((w.alloc (.cells #[.string (bs v.1),.string (bs v.2.1),.int .i64 v.2.2.1,.int .i64 v.2.2.2.1,.int .i64 v.2.2.2.2.1,.bool v.2.2.2.2.2.1,.slice ra rn rc,.slice la ln lc,.slice xa xn xc] 26)).alloc (.cells #[.string ⟨#[]⟩,.string ⟨#[]⟩,.int .i64 0,.int .i64 0,.int .i64 0,.bool false,.slice none 0 0,.slice none 0 0,.slice none 0 0] 26)):=dy (dy hG _) _
 have hsp:=kT s Ws hA0 hT hm
 have h5:5<nW:=by rw[<- hnW];exact (Z9.1 hx5).1
 have j1:(1:Int)<(nW:Int):=by omega
 have j2:(2:Int)<(nW:Int):=by omega
 have j3:(nW:Int)<=1000000:=by omega
 go_enter Tryz.func15,Tryz.ntmps15
 go_wp2_with (first | (go_at_fn 32;refine hsp.mono ?_;rintro e W2 ⟨G2,u,rfl,hlv,hu⟩;obtain⟨b,off,cap,rfl,hcap,kC,hfz,hcell⟩:=eS hu hlv.agr hne;obtain⟨hRW,hct⟩:=yx (ok:=false) hlv k1 k2 k3 hT hu hc;rw[hnW] at hRW hct) | (go_at_fn 48;refine hct.mono ?_;rintro e W3 ⟨rfl,hk3⟩;have hR3:=hRW.keep hk3;have hc3:∀ i x,Ws[i]? =some x->W3.cell? ⟨b,off+i,none⟩=some (.string (bs x)):=fun i x hx=>cB hk3 (aM (hcell i x hx));obtain⟨⟨p0,p1,p2,p3,p4,p5,p6,p7,p8⟩,_⟩:=ak hR3.b0) | (go_at_fn 49;(have hi:=ris (ok:=true) [105,110,118,111,105,99,101] [112,101,114,108,105,110,101] 6 (by rw[hnW];exact hR3.box) hne (by rw[hnW];exact hWl) (by decide) hc3;rw[hi0] at hi;refine hi.mono ?_;rintro e W4 ⟨rfl,hk4⟩;have hR4:=hR3.keep hk4;have hc4:=fun i x hx=>cB hk4 (hc3 i x hx);skip)))
 have hbb:b≠W2.heap.size:=by
  obtain⟨o,ho⟩:=hfz
  exact abr (aj (hlv.agr b o ho))
 refine jd (fun W=>RW w W v (.slice ra rn rc) (.slice la ln lc) (.slice xa xn xc) W2.heap.size (.slice (some ⟨b,off,none⟩) nW cap) true/\∀ i x,Ws[i]? =some x->W.cell? ⟨b,off+i,none⟩=some (.string (bs x))) ⟨hR4,hc4⟩ ?_
 clear hR4 hc4
 intro W4 ⟨hR4,hc4⟩
 generalize hbw:W2.heap.size=bw at*
 have u4:=(eG hR4.box).1.1
 have v4:=hc4 1 x1 hx1
 have z4:=hc4 2 x2 hx2
 clear hR3 hc3 hRW hct hu hsp hA0 hlv hcell k1 k2 k3 hk3 hk4 hfz hG hi0
 refine wp_region_noPanic ?_
 refine fU (n:=16) (S:=(fun W=>W.cell? ⟨bw,0,none⟩=some (.slice (some ⟨b,off,none⟩) nW cap)/\W.cell? ⟨b,off+1,none⟩=some (.string (bs x1))/\W.cell? ⟨b,off+2,none⟩=some (.string (bs x2)))) mixed (by (simp only[aaR,aaT];try rfl)) rfl rfl (by kernel_rfl) ?_ (fun hHeld=> ?_)
 ·(try dsimp only);((refine And.intro ?_ (And.intro ?_ ?_)<;>(repeat (first | with_reducible assumption | with_reducible refine aQ ?_))))
 refine tk 0 ?_
 refine tk 1 ?_
 refine tk 2 ?_
 refine tk 3 ?_
 refine tk 4 ?_
 refine tk 5 ?_
 refine tk 6 ?_
 refine tk 7 ?_
 refine tk 11 ?_
 refine tk 12 ?_
 refine tk 13 ?_
 refine tk 14 ?_
 refine cc (i:=8) rfl (by kernel_rfl) (fun K hK=> ?_)
 go_simp
 (go_at_fn 50;refine Calls.mono (zT (i:=3) (n:=nW) (cap:=cap) (b:=b) (off:=off) (by exact hR4.box) (by omega) hWl (by exact hc4 3 x3 hx3)) ?_;rintro e W5 ⟨rfl,hwd⟩;have hwd5:Wd bw (.slice (some ⟨b,off,none⟩) nW cap) _ W4 W5:=⟨hwd.size,hwd.os,hwd.output,hwd.keep,hwd.box⟩;clear hwd;have hR5:=hR4.wd hwd5;have hc5:=fun i x hx=>hwd5.cell hbb (hc4 i x hx);have u5:=(eG hR5.box).1.1;have v5:=hc5 1 x1 hx1;have z5:=hc5 2 x2 hx2)
 refine hK.out _ _ ?_ (fun hHeld=> ?_)
 ·(try dsimp only);((refine And.intro ?_ (And.intro ?_ ?_)<;>(repeat (first | with_reducible assumption | with_reducible refine aQ ?_))))
 clear hK K
 try simp only[Act.put,aaK,aaM,aaL]
 refine cc (i:=9) rfl (by kernel_rfl) (fun K hK=> ?_)
 go_simp
 (go_at_fn 50;refine Calls.mono (zT (i:=4) (n:=nW) (cap:=cap) (b:=b) (off:=off) (by exact hR5.box) (by omega) hWl (by exact hc5 4 x4 hx4)) ?_;rintro e W6 ⟨rfl,hwd⟩;have hwd6:Wd bw (.slice (some ⟨b,off,none⟩) nW cap) _ W5 W6:=⟨hwd.size,hwd.os,hwd.output,hwd.keep,hwd.box⟩;clear hwd;have hR6:=hR5.wd hwd6;have hc6:=fun i x hx=>hwd6.cell hbb (hc5 i x hx);have u6:=(eG hR6.box).1.1;have v6:=hc6 1 x1 hx1;have z6:=hc6 2 x2 hx2)
 refine hK.out _ _ ?_ (fun hHeld=> ?_)
 ·(try dsimp only);((refine And.intro ?_ (And.intro ?_ ?_)<;>(repeat (first | with_reducible assumption | with_reducible refine aQ ?_))))
 clear hK K
 try simp only[Act.put,aaK,aaM,aaL]
 refine cc (i:=10) rfl (by kernel_rfl) (fun K hK=> ?_)
 go_simp
 (go_at_fn 50;refine Calls.mono (zT (i:=5) (n:=nW) (cap:=cap) (b:=b) (off:=off) (by exact hR6.box) (by omega) hWl (by exact hc6 5 x5 hx5)) ?_;rintro e W7 ⟨rfl,hwd⟩;have hwd7:Wd bw (.slice (some ⟨b,off,none⟩) nW cap) _ W6 W7:=⟨hwd.size,hwd.os,hwd.output,hwd.keep,hwd.box⟩;clear hwd;have hR7:=hR6.wd hwd7;have hc7:=fun i x hx=>hwd7.cell hbb (hc6 i x hx);have u7:=(eG hR7.box).1.1;have v7:=hc7 1 x1 hx1;have z7:=hc7 2 x2 hx2)
 refine hK.out _ _ ?_ (fun hHeld=> ?_)
 ·(try dsimp only);((refine And.intro ?_ (And.intro ?_ ?_)<;>(repeat (first | with_reducible assumption | with_reducible refine aQ ?_))))
 clear hK K
 try simp only[Act.put,aaK,aaM,aaL]
 refine tk 15 ?_
 obtain⟨⟨m0,m1,m2,m3,m4,m5,m6,m7,m8⟩,mf⟩:=ak hR7.b0
 have mf0:=mf 0;have mf1:=mf 1;have mf2:=mf 2;have mf3:=mf 3;have mf4:=mf 4;have mf5:=mf 5;have mf6:=mf 6;have mf7:=mf 7;have mf8:=mf 8
 refine wpAnyH_done (by kernel_rfl) ?_ _
 refine mS (fun K hK=> ?_)
 go_simp
 refine hK.out _ _ (NoPanic.normal ?_)
 clear hK K
 obtain⟨y1,y2,y3,y4,y5⟩:=iZ (.string (bs x1)) (.string (bs x2)) (.int .i64 (bL x3)) (.int .i64 (bL x4)) (.int .i64 (bL x5)) (.bool e7) (.slice none 0 0) (.slice none 0 0) (.slice none 0 0) hR7.b0
 have hlt7:=hR7.lt
 have hRE:RE w (((((((((W7.setCell ⟨w.heap.size,0,none⟩ (.string (bs x1))).setCell ⟨w.heap.size,1,none⟩ (.string (bs x2))).setCell ⟨w.heap.size,2,none⟩ (.int .i64 (bL x3))).setCell ⟨w.heap.size,3,none⟩ (.int .i64 (bL x4))).setCell ⟨w.heap.size,4,none⟩ (.int .i64 (bL x5))).setCell ⟨w.heap.size,5,none⟩ (.bool e7)).setCell ⟨w.heap.size,6,none⟩ (.slice none 0 0)).setCell ⟨w.heap.size,7,none⟩ (.slice none 0 0)).setCell ⟨w.heap.size,8,none⟩ (.slice none 0 0)) (x1,x2,bL x3,bL x4,bL x5,e7,[],[],[]) (.slice none 0 0) (.slice none 0 0) (.slice none 0 0) [] nb bw (.slice (some ⟨b,off,none⟩) nW cap) (true&&cD x3&&cD x4&&cD x5):=by
  refine⟨y1,(y2 _ (by omega)).trans hR7.b1,(y2 _ (by omega)).trans hR7.box,hlt7,⟨by rw[y3];exact hR7.kept.size,y4.trans hR7.kept.os,y5.trans hR7.kept.output,fun k hk _=>(y2 k (by omega)).trans (hR7.kept.block k hk)⟩,RV.zero _ _ rfl rfl rfl,fun b hb=> ?_⟩
  simp[aK,fy,Value.ownBlock] at hb
 have HRE:Aside _:=hRE
 clear hRE y1 y2 y3 y4 y5 m0 m1 m2 m3 m4 m5 m6 m7 m8 mf mf0 mf1 mf2 mf3 mf4 mf5 mf6 mf7 mf8 hR7 hR6 hR5 hR4 hwd5 hwd6 hwd7 u4 v4 z4 u5 v5 z5 u6 v6 z6 u7 v7 z7 hc4 hc5 hc6 hc7
 go_wp2
 refine jd (fun W=>RE w W (x1,x2,bL x3,bL x4,bL x5,e7,[],[],[]) (.slice none 0 0) (.slice none 0 0) (.slice none 0 0) [] nb bw (.slice (some ⟨b,off,none⟩) nW cap) (true&&cD x3&&cD x4&&cD x5)) HRE.out ?_
 generalize hokf:(true&&cD x3&&cD x4&&cD x5)=ok at*
 clear HRE
 intro W hE
 obtain⟨⟨p0,p1,p2,p3,p4,p5,p6,p7,p8⟩,_⟩:=ak hE.b0
 obtain⟨⟨q0,q1,q2,q3,q4,q5,q6,q7,q8⟩,qf⟩:=ak hE.b1
 have f0:=qf 0;have f1:=qf 1;have f2:=qf 2;have f3:=qf 3;have f4:=qf 4;have f5:=qf 5;have f6:=qf 6;have f7:=qf 7;have f8:=qf 8
 have o1:=(eG hE.box).1.2
 have n1:w.heap.size≠w.heap.size+1:=by omega
 have n2:bw≠w.heap.size+1:=by have:=hE.lt;omega
 have HE:Aside _:=hE
 clear hE
 go_region_held3 (fun W=>W.cell? ⟨w.heap.size,0,none⟩=some (.string (bs x1))/\W.cell? ⟨w.heap.size,1,none⟩=some (.string (bs x2))/\W.cell? ⟨w.heap.size,2,none⟩=some (.int .i64 (bL x3))/\W.cell? ⟨w.heap.size,3,none⟩=some (.int .i64 (bL x4))/\W.cell? ⟨w.heap.size,4,none⟩=some (.int .i64 (bL x5))/\W.cell? ⟨w.heap.size,5,none⟩=some (.bool e7)/\W.cell? ⟨w.heap.size,6,none⟩=some (.slice none 0 0)/\W.cell? ⟨w.heap.size,7,none⟩=some (.slice none 0 0)/\W.cell? ⟨w.heap.size,8,none⟩=some (.slice none 0 0)/\W.cell? ⟨bw,1,none⟩=some (.bool ok)) (refine⟨?_, ?_, ?_, ?_, ?_, ?_, ?_, ?_, ?_, ?_⟩<;>(repeat (first | with_reducible assumption | with_reducible refine aQ ?_ | with_reducible refine dA n1 ?_ | with_reducible refine dA n2 ?_))) (fail)
 go_wp2
 obtain⟨s1,s2,s3,s4,s5⟩:=iZ (.string (bs x1)) (.string (bs x2)) (.int .i64 (bL x3)) (.int .i64 (bL x4)) (.int .i64 (bL x5)) (.bool e7) (.slice none 0 0) (.slice none 0 0) (.slice none 0 0) HE.out.b1
 refine bodyPost_ret (iO (p:=6) (q:=7) (ty:=26) (b:=w.heap.size+1) (v:= .agg (iJ (x1,x2,bL x3,bL x4,bL x5,e7,[],[],[]) (.slice none 0 0) (.slice none 0 0) (.slice none 0 0)).toArray) (by kernel_rfl) _ _ _ (by rfl) (mz s1)) rfl ?_
 exact kO HE.out (by rfl) (by rw[<- hokf];rfl) s2 s3 s4 s5
end Go.Proofs.SeatU
set_option maxRecDepth 100000
namespace Go.Proofs.SeatU
open Go.Dn Go.Md Go.Proofs Go.RowKit Go.Shelf Go.Lib
attribute [local go_sem ↓] Go.wp_at_zero Go.wp_at_succ
theorem Wd.agr {G:Gh} {bw:Nat} {u:Value} {ok:Bool} {w w':World} (h:Wd bw u ok w w') (hA:Agr G w) (hg:G bw=none):Agr G w':=fun b o hb=>(h.keep b (aj (hA b o hb)) fun e=>by rw[e,hg] at hb;cases hb).trans (hA b o hb)
theorem HH {w Wc W8 W9:World} {v v':aa} {vr vl ve vr' vl' ve' u:Value} {L L':List (ai×Value)} {bw:Nat} {ok:Bool} {o:Obj} {ow:Option Nat} (hRW:RW w Wc v vr vl ve bw u ok) (hlt:∀ b∈aK vr vl ve L,b<w.heap.size) (hgr:(Wc.alloc o).grownBy W8 ow) (how:∀ b,ow=some b->b∈aK vr vl ve L) (h9:∀ k,k≠w.heap.size->W9.heap[k]? =W8.heap[k]?) (s9:W9.heap.size=W8.heap.size) (o9:W9.os=W8.os) (p9:W9.output=W8.output) (hb0:W9.heap[w.heap.size]? =some (.cells #[.string (bs v'.1),.string (bs v'.2.1),.int .i64 v'.2.2.1,.int .i64 v'.2.2.2.1,.int .i64 v'.2.2.2.2.1,.bool v'.2.2.2.2.2.1,vr',vl',ve'] 26 (0,0))) (hP1:RV W8 v' vr' vl' ve' L') (hP2:∀ b∈aK vr' vl' ve' L',b∈aK vr vl ve L\/(Wc.alloc o).heap.size<=b):RE w W9 v' vr' vl' ve' L' (aK vr vl ve L) bw u ok:=by
 have hs:(Wc.alloc o).heap.size=Wc.heap.size+1:=YU _
 have hbwl:=aj hRW.box
 have h1:=hRW.lt
 have hk:∀ b,b<Wc.heap.size->b∉aK vr vl ve L->b≠w.heap.size->W9.heap[b]? =Wc.heap[b]? :=fun b hb hn hn2=>by
  rw[h9 b hn2,hgr.block b (by omega) (fun e=>hn (how b e.symm))]
  exact heap_alloc_old _ _ hb
 have hnb:∀ b,w.heap.size<=b->b∉aK vr vl ve L:=fun b hb hm=>by have:=hlt b hm;omega
 have hkw:=hRW.kept.size
 refine⟨hb0,(hk _ (by omega) (hnb _ (by omega)) (by omega)).trans hRW.b1,(hk bw hbwl (hnb _ (by omega)) (by omega)).trans hRW.box,h1,⟨?_,o9.trans (hgr.os.trans hRW.kept.os),p9.trans (hgr.output.trans hRW.kept.output),fun b hb hn=>(hk b (by omega) hn (by omega)).trans (hRW.kept.block b hb)⟩,hP1.keep fun b hb=>h9 b ?_,fun b hb=> ?_⟩
 ·have:=hgr.size
  rw[s9];omega
 ·rcases hP2 b hb with h | h
  ·have:=hlt b h;omega
  ·omega
 ·rcases hP2 b hb with h | h
  ·have:=hlt b h
   exact⟨.inl h,by omega⟩
  ·exact⟨.inr (by omega),by omega⟩
set_option maxHeartbeats 8000000 in
theorem Xq (G:Gh) (w:World) (s:List UInt8) (Ws:List (List UInt8)) (v:aa) (ra:Option Addr) (rn rc:Nat) (la:Option Addr) (ln lc:Nat) (xa:Option Addr) (xn xc:Nat) (L:List (ai×Value)) (hG:Agr G w) (hT:bF Tryz.prog G) (hne:Ws≠[]) (nW:Nat) (hnW:Ws.length=nW) (hWl:nW<=1000000) (hm:strings_Split s [32]=some (Ws,())) (hc:bn Ws []=some (false,())) (hV:RV w v (.slice ra rn rc) (.slice la ln lc) (.slice xa xn xc) L) (hgb:∀ b∈aK (.slice ra rn rc) (.slice la ln lc) (.slice xa xn xc) L,G b=none) (hn:v.2.2.2.2.2.2.1.length<=1000000) (hi1:isW [114,97,116,101] 3 [] Ws=true) (hl0:((ln:Int)==0)=true) (hx0:((xn:Int)==0)=true) (x1 x2:List UInt8) (hx1:Ws[1]? =some x1) (hx2:Ws[2]? =some x2) {d2:ah} {f2:Int} (hd2:gF x2=some (d2,f2,())): Calls Tryz.prog 15 #[.agg #[.string (bs v.1),.string (bs v.2.1),.int .i64 v.2.2.1,.int .i64 v.2.2.2.1,.int .i64 v.2.2.2.2.1,.bool v.2.2.2.2.2.1,.slice ra rn rc,.slice la ln lc,.slice xa xn xc],.string (bs s),.bool false] w fun e w'=>uc w w' (aK (.slice ra rn rc) (.slice la ln lc) (.slice xa xn xc) L) e (bif (true&&f2==0) then some (kU v (x1,d2)) else none):=by
 have e32:∀ args w,(callFunc 32 args).run Tryz.prog w= .ok (.enter 32 args) w:=enters_of Tryz.func32 (by kernel_rfl) rfl
 have e48:∀ args w,(callFunc 48 args).run Tryz.prog w= .ok (.enter 48 args) w:=enters_of Tryz.func48 (by kernel_rfl) rfl
 have e49:∀ args w,(callFunc 49 args).run Tryz.prog w= .ok (.enter 49 args) w:=enters_of Tryz.func49 (by kernel_rfl) rfl
 have e50:∀ args w,(callFunc 50 args).run Tryz.prog w= .ok (.enter 50 args) w:=enters_of Tryz.func50 (by kernel_rfl) rfl
 have e51:∀ args w,(callFunc 51 args).run Tryz.prog w= .ok (.enter 51 args) w:=enters_of Tryz.func51 (by kernel_rfl) rfl
 have mixed:Tryz.prog.follows .mixedOrders=true:=by kernel_rfl
 have late:Tryz.prog.follows .lateStores=true:=by kernel_rfl
 have t3:=Tryz.underlying3;have t4:=Tryz.underlying4;have t9:=Tryz.underlying9;have t26:=Tryz.underlying26;have a26:=Tryz.isAgg26;have z26:=Tryz.sizeOf26;have v26:=Tryz.zeroValue26;have t36:=Tryz.underlying36;have t100:=Tryz.underlying100;have a100:=Tryz.isAgg100;have z100:=Tryz.sizeOf100;have v100:=Tryz.zeroValue100;have t22:=Tryz.underlying22;have t23:=Tryz.underlying23;have t24:=Tryz.underlying24
 obtain⟨k1,k2,k3⟩:=kK w (.cells #[.string (bs v.1),.string (bs v.2.1),.int .i64 v.2.2.1,.int .i64 v.2.2.2.1,.int .i64 v.2.2.2.2.1,.bool v.2.2.2.2.2.1,.slice ra rn rc,.slice la ln lc,.slice xa xn xc] 26) (.cells #[.string ⟨#[]⟩,.string ⟨#[]⟩,.int .i64 0,.int .i64 0,.int .i64 0,.bool false,.slice none 0 0,.slice none 0 0,.slice none 0 0] 26)
 have hA0:Agr G ((w.alloc (.cells #[.string (bs v.1),.string (bs v.2.1),.int .i64 v.2.2.1,.int .i64 v.2.2.2.1,.int .i64 v.2.2.2.2.1,.bool v.2.2.2.2.2.1,.slice ra rn rc,.slice la ln lc,.slice xa xn xc] 26)).alloc (.cells #[.string ⟨#[]⟩,.string ⟨#[]⟩,.int .i64 0,.int .i64 0,.int .i64 0,.bool false,.slice none 0 0,.slice none 0 0,.slice none 0 0] 26)):=dy (dy hG _) _
 have a48:=Tryz.isAgg48;have z48:=Tryz.sizeOf48;have a56:=Tryz.isAgg56;have z56:=Tryz.sizeOf56;have t55:=Tryz.underlying55;have t56:=Tryz.underlying56
 have hsp:=kT s Ws hA0 hT hm
 have hmx:2<nW:=by rw[<- hnW];exact (Z9.1 hx2).1
 have j1:(1:Int)<(nW:Int):=by omega
 have j2:(2:Int)<(nW:Int):=by omega
 have jj:(nW:Int)<=1000000:=by omega
 have hltV:=hV.lt
 have HV:Aside _:=hV
 go_enter Tryz.func15,Tryz.ntmps15
 go_wp2_with (first | (go_at_fn 32;refine hsp.mono ?_;rintro e W2 ⟨G2,u,rfl,hlv,hu⟩;obtain⟨b,off,cap,rfl,hcap,kC,hfz,hcell⟩:=eS hu hlv.agr hne;obtain⟨hRW,hct⟩:=yx (ok:=false) hlv k1 k2 k3 hT hu hc;rw[hnW] at hRW hct) | (go_at_fn 48;refine hct.mono ?_;rintro e W3 ⟨rfl,hk3⟩;have hR3:=hRW.keep hk3;have hc3:∀ i x,Ws[i]? =some x->W3.cell? ⟨b,off+i,none⟩=some (.string (bs x)):=fun i x hx=>cB hk3 (aM (hcell i x hx));obtain⟨⟨p0,p1,p2,p3,p4,p5,p6,p7,p8⟩,_⟩:=ak hR3.b0) | (go_at_fn 49;first | (have hi:=ris (ok:=true) [114,97,116,101] [] 3 (by rw[hnW];exact hR3.box) hne (by rw[hnW];exact hWl) (by decide) hc3;rw[hi1] at hi;refine hi.mono ?_;rintro e W4 ⟨rfl,hk4⟩;have hR4:=hR3.keep hk4;have hc4:=fun i x hx=>cB hk4 (hc3 i x hx);obtain⟨⟨aa0,aa1,aa2,aa3,aa4,aa5,aa6,aa7,aa8⟩,_⟩:=ak hR4.b0)))
 have hbb:b≠W2.heap.size:=by
  obtain⟨o,ho⟩:=hfz
  exact abr (aj (hlv.agr b o ho))
 have hgbw:G2 W2.heap.size=none:=by
  cases hg:G2 W2.heap.size with
  | none=>rfl
  | some o=>exact absurd (aj (hlv.agr _ o hg)) (abg _)
 have hT2:=hT.mono hlv.le
 have HBF:Aside (some b≠(Value.slice ra rn rc).ownBlock):=fun e=>by
  obtain⟨o,ho⟩:=hfz
  have hm:b∈aK (.slice ra rn rc) (.slice la ln lc) (.slice xa xn xc) L:=bC.2 (.inl (e.symm))
  have hb:=hV.lt b hm
  have h1:G2 b=G b:=hlv.old b (abh hb k3.size)
  rw[h1,hgb b hm] at ho;cases ho
 have hAK:Agr G2 W4:=fun b o hb=>(((((bH W2 _).2).trans hk3).trans hk4).block b (aj (hlv.agr b o hb))).trans (hlv.agr b o hb)
 refine jd (fun W=>RW w W v (.slice ra rn rc) (.slice la ln lc) (.slice xa xn xc) W2.heap.size (.slice (some ⟨b,off,none⟩) nW cap) true/\(∀ i x,Ws[i]? =some x->W.cell? ⟨b,off+i,none⟩=some (.string (bs x)))/\Agr G2 W) ⟨hR4,hc4,hAK⟩ ?_
 clear hAK hR3 hc3 hk3 hR4 hc4 hk4
 intro X0 ⟨hR0,hc0,hA0'⟩
 generalize hbw:W2.heap.size=bw at*
 have u0:=(eG hR0.box).1.1
 have r0:=(ak hR0.b0).1.2.2.2.2.2.2.1
 have c1_0:=hc0 1 x1 hx1
 have HR0:Aside _:=hR0
 have HC0:Aside _:=hc0
 have HA0:Aside _:=hA0'
 obtain⟨xs,hxs⟩:∃ xs:List Value,xs=v.2.2.2.2.2.2.1.flatMap BS:=⟨_,rfl⟩
 have HXS:Aside _:=hxs
 have hown:∀ {W:World} {o:Obj},Kept w W->(W.alloc o).ownsRow 0 56 3 (.slice ra rn rc) v.2.2.2.2.2.2.1.length xs:=fun {W o} hk=>by
  rw[hxs]
  exact bV HV.out.rat fun g hg=>(heap_alloc_old _ _ (abh (bT HV.out.rat hg) hk.size)).trans (hk.block g (bT HV.out.rat hg))
 have hoX:∀ b,(Value.slice ra rn rc).ownBlock=some b->b∈aK (.slice ra rn rc) (.slice la ln lc) (.slice xa xn xc) L:=fun b hb=>bC.2 (.inl (hb))
 have hvx:some w.heap.size≠(Value.slice ra rn rc).ownBlock:=fun e=>by have:=hltV _ (hoX _ e.symm);omega
 have HVW:Aside (some bw≠(Value.slice ra rn rc).ownBlock):=fun e=>by
  have h1:=hltV _ (hoX _ e.symm)
  have h2:=HR0.out.lt
  omega
 obtain⟨i0,hi0,hz0,hz1,hz2⟩:=info_parts UI
 have h63:v.2.2.2.2.2.2.1.length+1<=maxLen:=by simp only[maxLen];omega
 have hbytes:(v.2.2.2.2.2.2.1.length+1)*32<=140737488355328:=by omega
 clear hRW hct hu hsp hA0 hlv hcell k1 k2 k3 hfz hG hV hxs hR0 hc0 hA0' hm hc hi1
 have HVB:Aside (some b≠(Value.slice ra rn rc).ownBlock):=HBF.out
 refine wp_region_noPanic ?_
 refine fU (n:=11) (S:=(fun W=>W.cell? ⟨w.heap.size,6,none⟩=some (.slice ra rn rc)/\W.cell? ⟨bw,0,none⟩=some (.slice (some ⟨b,off,none⟩) nW cap)/\W.cell? ⟨b,off+1,none⟩=some (.string (bs x1)))) mixed (by (simp only[aaR,aaT];try rfl)) rfl rfl (by kernel_rfl) ?_ (fun hHeld=> ?_)
 ·(try dsimp only);((refine⟨?_, ?_, ?_⟩<;>(repeat (first | with_reducible assumption | with_reducible refine aM ?_ | with_reducible refine aQ ?_ | with_reducible refine ay hgr8 ?_ hvx | with_reducible refine ay hgr8 ?_ hvb | with_reducible refine ay hgr8 ?_ hvw))))
 refine tk 0 ?_
 refine tk 1 ?_
 refine tk 2 ?_
 refine tk 3 ?_
 refine tk 4 ?_
 refine tk 5 ?_
 refine cc (i:=6) rfl (by kernel_rfl) (fun K hK=> ?_)
 go_simp
 (go_at_fn 51;refine Calls.mono (wZ (G:=G2) (i:=2) (n:=nW) (cap:=cap) (b:=b) (off:=off) (by exact HA0.out) hT2 (by exact HR0.out.box) (by omega) hWl (by exact HC0.out 2 x2 hx2) hd2) ?_;rintro e X1 ⟨rfl,hwd⟩;have hwd1:Wd bw (.slice (some ⟨b,off,none⟩) nW cap) _ X0 X1:=⟨hwd.size,hwd.os,hwd.output,hwd.keep,hwd.box⟩;clear hwd;have hR1:=HR0.out.wd hwd1;have hc1:=fun i x hx=>hwd1.cell hbb (HC0.out i x hx);have hA1:=hwd1.agr HA0.out hgbw;have u1:=(eG hR1.box).1.1;have r1:=(ak hR1.b0).1.2.2.2.2.2.2.1;have c1_1:=hc1 1 x1 hx1;have HR1:Aside _:=hR1;have HC1:Aside _:=hc1;have HA1:Aside _:=hA1;clear hR1 hc1 hA1 hwd1)
 refine hK.out _ _ ?_ (fun hHeld=> ?_)
 ·(try dsimp only);((refine⟨?_, ?_, ?_⟩<;>(repeat (first | with_reducible assumption | with_reducible refine aM ?_ | with_reducible refine aQ ?_ | with_reducible refine ay hgr8 ?_ hvx | with_reducible refine ay hgr8 ?_ hvb | with_reducible refine ay hgr8 ?_ hvw))))
 clear hK K
 try simp only[Act.put,aaK,aaM,aaL]
 refine tk 7 ?_
 refine cc (i:=8) rfl (by kernel_rfl) (fun K hK=> ?_)
 go_simp
 refine hK.out _ _ ?_ (fun hHeld=> ?_)
 ·(try dsimp only);((refine⟨?_, ?_, ?_⟩<;>(repeat (first | with_reducible assumption | with_reducible refine aM ?_ | with_reducible refine aQ ?_ | with_reducible refine ay hgr8 ?_ hvx | with_reducible refine ay hgr8 ?_ hvb | with_reducible refine ay hgr8 ?_ hvw))))
 clear hK K
 try simp only[Act.put,aaK,aaM,aaL]
 refine cc (i:=9) rfl (by kernel_rfl) (fun K hK=> ?_)
 (have hvb:some b≠(Value.slice ra rn rc).ownBlock:=HVB.out;have hvw:some bw≠(Value.slice ra rn rc).ownBlock:=HVW.out;refine step_append_lies _ (by rfl) _ _ _ (by rfl) 0 56 i0 _ 3 32 t22 hi0 hz0 hz1 hz2 rfl (by omega) (.slice ra rn rc) v.2.2.2.2.2.2.1.length xs (by rfl) (hown HR1.out.kept) ⟨X1.heap.size,0,none⟩ 1 1 [.string (bs x1),.int .i64 d2.1,.int .i64 d2.2] (by rfl) (by rfl) (World.news_of_block (cs:= #[.string (bs x1),.int .i64 d2.1,.int .i64 d2.2]) (t:=56) (fr:=(0,0)) (heap_alloc_new X1 _)) (Su (x1,d2)) (by omega) h63 hbytes (abw _) (X1.heap.size+1) (by simp) ?_;intro g capn W8 hown8 hgr8 hat8 hlt8;have hb8:=kL hgr8 hvx HR1.out.b0;have p3:=(ak hb8).1.2.2.2.2.2.2.1;have pf:=(ak hb8).2 6)
 refine hK.out _ _ ?_ (fun hHeld=> ?_)
 ·(try dsimp only);((refine⟨?_, ?_, ?_⟩<;>(repeat (first | with_reducible assumption | with_reducible refine aM ?_ | with_reducible refine aQ ?_ | with_reducible refine ay hgr8 ?_ hvx | with_reducible refine ay hgr8 ?_ hvb | with_reducible refine ay hgr8 ?_ hvw))))
 clear hK K
 try simp only[Act.put,aaK,aaM,aaL]
 refine tk 10 ?_
 refine wpAnyH_done (by kernel_rfl) ?_ _
 refine mS (fun K hK=> ?_)
 go_simp
 refine hK.out _ _ (NoPanic.normal ?_)
 clear hK K
 have hP:=RV.Qi (w:=X1.alloc (.cells #[.string (bs x1),.int .i64 d2.1,.int .i64 d2.2] 56)) (w':=W8) (HV.out.keep fun b hb=>(heap_alloc_old _ _ (abh (hltV b hb) HR1.out.kept.size)).trans (HR1.out.kept.block b (hltV b hb))) (r:=(x1,d2)) (g:=g) (cap:=capn) (by rw[HXS.out] at hown8;exact hown8) hgr8 (hat8.imp id fun e=>by rw[e];exact abb (YU _))
 obtain⟨hP1,hP2⟩:=hP
 have hRE:=HH HR1.out hltV hgr8 hoX (fun k hk=>aB W8 w.heap.size 6 k (.slice (some ⟨g,0,none⟩) (v.2.2.2.2.2.2.1.length+1) capn) hk) (aO _ _ _ _) rfl rfl (v':=kU v (x1,d2)) (aN W8 w.heap.size 6 _ _ _ _ hb8) hP1 hP2
 have HRE:Aside _:=hRE
 clear hRE hP1 hP2 p3 pf hb8 hown8 hgr8 hat8 hlt8 u0 r0 c1_0 u1 r1 c1_1
 go_wp2
 refine jd (fun W=>RE w W (kU v (x1,d2)) (.slice (some ⟨g,0,none⟩) (v.2.2.2.2.2.2.1.length+1) capn) (.slice la ln lc) (.slice xa xn xc) (L) (aK (.slice ra rn rc) (.slice la ln lc) (.slice xa xn xc) L) bw (.slice (some ⟨b,off,none⟩) nW cap) (true&&f2==0)) HRE.out ?_
 generalize hokf:(true&&f2==0)=ok at*
 clear HRE
 intro W hE
 obtain⟨⟨p0,p1,p2,p3,p4,p5,p6,p7,p8⟩,_⟩:=ak hE.b0
 obtain⟨⟨q0,q1,q2,q3,q4,q5,q6,q7,q8⟩,qf⟩:=ak hE.b1
 have f0:=qf 0;have f1:=qf 1;have f2:=qf 2;have f3:=qf 3;have f4:=qf 4;have f5:=qf 5;have f6:=qf 6;have f7:=qf 7;have f8:=qf 8
 have o1:=(eG hE.box).1.2
 have n1:w.heap.size≠w.heap.size+1:=by omega
 have n2:bw≠w.heap.size+1:=by have:=hE.lt;omega
 have HE:Aside _:=hE
 have p0:W.cell? ⟨w.heap.size,0,none⟩=some (.string (bs v.1)):=p0
 have p1:W.cell? ⟨w.heap.size,1,none⟩=some (.string (bs v.2.1)):=p1
 have p2:W.cell? ⟨w.heap.size,2,none⟩=some (.int .i64 v.2.2.1):=p2
 have p3:W.cell? ⟨w.heap.size,3,none⟩=some (.int .i64 v.2.2.2.1):=p3
 have p4:W.cell? ⟨w.heap.size,4,none⟩=some (.int .i64 v.2.2.2.2.1):=p4
 have p5:W.cell? ⟨w.heap.size,5,none⟩=some (.bool v.2.2.2.2.2.1):=p5
 have p6:W.cell? ⟨w.heap.size,6,none⟩=some (.slice (some ⟨g,0,none⟩) (v.2.2.2.2.2.2.1.length+1) capn):=p6
 have p7:W.cell? ⟨w.heap.size,7,none⟩=some (.slice la ln lc):=p7
 have p8:W.cell? ⟨w.heap.size,8,none⟩=some (.slice xa xn xc):=p8
 clear hE
 go_region_held3 (fun W=>W.cell? ⟨w.heap.size,0,none⟩=some (.string (bs v.1))/\W.cell? ⟨w.heap.size,1,none⟩=some (.string (bs v.2.1))/\W.cell? ⟨w.heap.size,2,none⟩=some (.int .i64 v.2.2.1)/\W.cell? ⟨w.heap.size,3,none⟩=some (.int .i64 v.2.2.2.1)/\W.cell? ⟨w.heap.size,4,none⟩=some (.int .i64 v.2.2.2.2.1)/\W.cell? ⟨w.heap.size,5,none⟩=some (.bool v.2.2.2.2.2.1)/\W.cell? ⟨w.heap.size,6,none⟩=some (.slice (some ⟨g,0,none⟩) (v.2.2.2.2.2.2.1.length+1) capn)/\W.cell? ⟨w.heap.size,7,none⟩=some (.slice la ln lc)/\W.cell? ⟨w.heap.size,8,none⟩=some (.slice xa xn xc)/\W.cell? ⟨bw,1,none⟩=some (.bool ok)) (refine⟨?_, ?_, ?_, ?_, ?_, ?_, ?_, ?_, ?_, ?_⟩<;>(repeat (first | with_reducible assumption | with_reducible refine aQ ?_ | with_reducible refine dA n1 ?_ | with_reducible refine dA n2 ?_))) (fail)
 go_wp2
 obtain⟨s1,s2,s3,s4,s5⟩:=iZ (.string (bs v.1)) (.string (bs v.2.1)) (.int .i64 v.2.2.1) (.int .i64 v.2.2.2.1) (.int .i64 v.2.2.2.2.1) (.bool v.2.2.2.2.2.1) (.slice (some ⟨g,0,none⟩) (v.2.2.2.2.2.2.1.length+1) capn) (.slice la ln lc) (.slice xa xn xc) HE.out.b1
 refine bodyPost_ret (iO (p:=6) (q:=7) (ty:=26) (b:=w.heap.size+1) (v:= .agg (iJ (kU v (x1,d2)) (.slice (some ⟨g,0,none⟩) (v.2.2.2.2.2.2.1.length+1) capn) (.slice la ln lc) (.slice xa xn xc)).toArray) (by kernel_rfl) _ _ _ (by rfl) (mz s1)) rfl ?_
 exact kO HE.out (by rfl) (by rw[<- hokf]) s2 s3 s4 s5
end Go.Proofs.SeatU
set_option maxRecDepth 100000
namespace Go.Proofs.SeatU
open Go.Dn Go.Md Go.Proofs Go.RowKit Go.Shelf Go.Lib
attribute [local go_sem ↓] Go.wp_at_zero Go.wp_at_succ
set_option maxHeartbeats 8000000 in
theorem Xo (G:Gh) (w:World) (s:List UInt8) (Ws:List (List UInt8)) (v:aa) (ra:Option Addr) (rn rc:Nat) (la:Option Addr) (ln lc:Nat) (xa:Option Addr) (xn xc:Nat) (L:List (ai×Value)) (hG:Agr G w) (hT:bF Tryz.prog G) (hne:Ws≠[]) (nW:Nat) (hnW:Ws.length=nW) (hWl:nW<=1000000) (hm:strings_Split s [32]=some (Ws,())) (hc:bn Ws []=some (false,())) (hV:RV w v (.slice ra rn rc) (.slice la ln lc) (.slice xa xn xc) L) (hgb:∀ b∈aK (.slice ra rn rc) (.slice la ln lc) (.slice xa xn xc) L,G b=none) (hn:L.length<=1000000) (hi1:isW [114,97,116,101] 3 [] Ws=false) (hi2:isW [108,105,110,101] 9 [] Ws=true) (hx0:((xn:Int)==0)=true) (x1 x2 x3 x4 x5 x6 x7 x8:List UInt8) (hx1:Ws[1]? =some x1) (hx2:Ws[2]? =some x2) (hx3:Ws[3]? =some x3) (hx4:Ws[4]? =some x4) (hx5:Ws[5]? =some x5) (hx6:Ws[6]? =some x6) (hx7:Ws[7]? =some x7) (hx8:Ws[8]? =some x8) {d4 d6:ah} {f4 f6:Int} (hd4:gF x4=some (d4,f4,())) (hd6:gF x6=some (d6,f6,())): Calls Tryz.prog 15 #[.agg #[.string (bs v.1),.string (bs v.2.1),.int .i64 v.2.2.1,.int .i64 v.2.2.2.1,.int .i64 v.2.2.2.2.1,.bool v.2.2.2.2.2.1,.slice ra rn rc,.slice la ln lc,.slice xa xn xc],.string (bs s),.bool false] w fun e w'=>uc w w' (aK (.slice ra rn rc) (.slice la ln lc) (.slice xa xn xc) L) e (bif (((((true&&cD x1)&&cD x2)&&f4==0)&&f6==0)&&cD x7) then some (addLine v (bL x1,bL x2,x3,d4,x5,d6,bL x7,[],x8)) else none):=by
 have e32:∀ args w,(callFunc 32 args).run Tryz.prog w= .ok (.enter 32 args) w:=enters_of Tryz.func32 (by kernel_rfl) rfl
 have e48:∀ args w,(callFunc 48 args).run Tryz.prog w= .ok (.enter 48 args) w:=enters_of Tryz.func48 (by kernel_rfl) rfl
 have e49:∀ args w,(callFunc 49 args).run Tryz.prog w= .ok (.enter 49 args) w:=enters_of Tryz.func49 (by kernel_rfl) rfl
 have e50:∀ args w,(callFunc 50 args).run Tryz.prog w= .ok (.enter 50 args) w:=enters_of Tryz.func50 (by kernel_rfl) rfl
 have e51:∀ args w,(callFunc 51 args).run Tryz.prog w= .ok (.enter 51 args) w:=enters_of Tryz.func51 (by kernel_rfl) rfl
 have mixed:Tryz.prog.follows .mixedOrders=true:=by kernel_rfl
 have late:Tryz.prog.follows .lateStores=true:=by kernel_rfl
 have t3:=Tryz.underlying3;have t4:=Tryz.underlying4;have t9:=Tryz.underlying9;have t26:=Tryz.underlying26;have a26:=Tryz.isAgg26;have z26:=Tryz.sizeOf26;have v26:=Tryz.zeroValue26;have t36:=Tryz.underlying36;have t100:=Tryz.underlying100;have a100:=Tryz.isAgg100;have z100:=Tryz.sizeOf100;have v100:=Tryz.zeroValue100;have t22:=Tryz.underlying22;have t23:=Tryz.underlying23;have t24:=Tryz.underlying24
 obtain⟨k1,k2,k3⟩:=kK w (.cells #[.string (bs v.1),.string (bs v.2.1),.int .i64 v.2.2.1,.int .i64 v.2.2.2.1,.int .i64 v.2.2.2.2.1,.bool v.2.2.2.2.2.1,.slice ra rn rc,.slice la ln lc,.slice xa xn xc] 26) (.cells #[.string ⟨#[]⟩,.string ⟨#[]⟩,.int .i64 0,.int .i64 0,.int .i64 0,.bool false,.slice none 0 0,.slice none 0 0,.slice none 0 0] 26)
 have hA0:Agr G ((w.alloc (.cells #[.string (bs v.1),.string (bs v.2.1),.int .i64 v.2.2.1,.int .i64 v.2.2.2.1,.int .i64 v.2.2.2.2.1,.bool v.2.2.2.2.2.1,.slice ra rn rc,.slice la ln lc,.slice xa xn xc] 26)).alloc (.cells #[.string ⟨#[]⟩,.string ⟨#[]⟩,.int .i64 0,.int .i64 0,.int .i64 0,.bool false,.slice none 0 0,.slice none 0 0,.slice none 0 0] 26)):=dy (dy hG _) _
 have a48:=Tryz.isAgg48;have z48:=Tryz.sizeOf48;have a50:=Tryz.isAgg50;have z50:=Tryz.sizeOf50;have t49:=Tryz.underlying49;have t50:=Tryz.underlying50
 have hsp:=kT s Ws hA0 hT hm
 have hmx:8<nW:=by rw[<- hnW];exact (Z9.1 hx8).1
 have j1:(1:Int)<(nW:Int):=by omega
 have j2:(2:Int)<(nW:Int):=by omega
 have j3:(3:Int)<(nW:Int):=by omega
 have j4:(4:Int)<(nW:Int):=by omega
 have j5:(5:Int)<(nW:Int):=by omega
 have j6:(6:Int)<(nW:Int):=by omega
 have j7:(7:Int)<(nW:Int):=by omega
 have j8:(8:Int)<(nW:Int):=by omega
 have jj:(nW:Int)<=1000000:=by omega
 have hltV:=hV.lt
 have HV:Aside _:=hV
 go_enter Tryz.func15,Tryz.ntmps15
 go_wp2_with (first | (go_at_fn 32;refine hsp.mono ?_;rintro e W2 ⟨G2,u,rfl,hlv,hu⟩;obtain⟨b,off,cap,rfl,hcap,kC,hfz,hcell⟩:=eS hu hlv.agr hne;obtain⟨hRW,hct⟩:=yx (ok:=false) hlv k1 k2 k3 hT hu hc;rw[hnW] at hRW hct) | (go_at_fn 48;refine hct.mono ?_;rintro e W3 ⟨rfl,hk3⟩;have hR3:=hRW.keep hk3;have hc3:∀ i x,Ws[i]? =some x->W3.cell? ⟨b,off+i,none⟩=some (.string (bs x)):=fun i x hx=>cB hk3 (aM (hcell i x hx));obtain⟨⟨p0,p1,p2,p3,p4,p5,p6,p7,p8⟩,_⟩:=ak hR3.b0) | (go_at_fn 49;first | (have hi:=ris (ok:=true) [108,105,110,101] [] 9 (by rw[hnW];exact hR4.box) hne (by rw[hnW];exact hWl) (by decide) hc4;rw[hi2] at hi;refine hi.mono ?_;rintro e W5 ⟨rfl,hk5⟩;have hR5:=hR4.keep hk5;have hc5:=fun i x hx=>cB hk5 (hc4 i x hx);obtain⟨⟨bb0,bb1,bb2,bb3,bb4,bb5,bb6,bb7,bb8⟩,_⟩:=ak hR5.b0) | (have hi:=ris (ok:=true) [114,97,116,101] [] 3 (by rw[hnW];exact hR3.box) hne (by rw[hnW];exact hWl) (by decide) hc3;rw[hi1] at hi;refine hi.mono ?_;rintro e W4 ⟨rfl,hk4⟩;have hR4:=hR3.keep hk4;have hc4:=fun i x hx=>cB hk4 (hc3 i x hx);obtain⟨⟨aa0,aa1,aa2,aa3,aa4,aa5,aa6,aa7,aa8⟩,_⟩:=ak hR4.b0)))
 have hbb:b≠W2.heap.size:=by
  obtain⟨o,ho⟩:=hfz
  exact abr (aj (hlv.agr b o ho))
 have hgbw:G2 W2.heap.size=none:=by
  cases hg:G2 W2.heap.size with
  | none=>rfl
  | some o=>exact absurd (aj (hlv.agr _ o hg)) (abg _)
 have hT2:=hT.mono hlv.le
 have HBF:Aside (some b≠(Value.slice la ln lc).ownBlock):=fun e=>by
  obtain⟨o,ho⟩:=hfz
  have hm:b∈aK (.slice ra rn rc) (.slice la ln lc) (.slice xa xn xc) L:=bC.2 (.inr (.inr (aav.2 (.inl (by rw[e.symm];simp)))))
  have hb:=hV.lt b hm
  have h1:G2 b=G b:=hlv.old b (abh hb k3.size)
  rw[h1,hgb b hm] at ho;cases ho
 have hAK:Agr G2 W5:=fun b o hb=>((((((bH W2 _).2).trans hk3).trans hk4).trans hk5).block b (aj (hlv.agr b o hb))).trans (hlv.agr b o hb)
 refine jd (fun W=>RW w W v (.slice ra rn rc) (.slice la ln lc) (.slice xa xn xc) W2.heap.size (.slice (some ⟨b,off,none⟩) nW cap) true/\(∀ i x,Ws[i]? =some x->W.cell? ⟨b,off+i,none⟩=some (.string (bs x)))/\Agr G2 W) ⟨hR5,hc5,hAK⟩ ?_
 clear hAK hR3 hc3 hk3 hR4 hc4 hk4 hR5 hc5 hk5
 intro X0 ⟨hR0,hc0,hA0'⟩
 generalize hbw:W2.heap.size=bw at*
 have u0:=(eG hR0.box).1.1
 have r0:=(ak hR0.b0).1.2.2.2.2.2.2.2.1
 have c3_0:=hc0 3 x3 hx3
 have c5_0:=hc0 5 x5 hx5
 have c8_0:=hc0 8 x8 hx8
 have HR0:Aside _:=hR0
 have HC0:Aside _:=hc0
 have HA0:Aside _:=hA0'
 obtain⟨xs,hxs⟩:∃ xs:List Value,xs=L.flatMap fun q=>wM q.1 q.2:=⟨_,rfl⟩
 have HXS:Aside _:=hxs
 have hown:∀ {W:World} {o:Obj},Kept w W->(W.alloc o).ownsRow 0 50 11 (.slice la ln lc) L.length xs:=fun {W o} hk=>by
  rw[hxs]
  exact bV HV.out.nst.row fun g hg=>(heap_alloc_old _ _ (abh (bT HV.out.nst.row hg) hk.size)).trans (hk.block g (bT HV.out.nst.row hg))
 have hoX:∀ b,(Value.slice la ln lc).ownBlock=some b->b∈aK (.slice ra rn rc) (.slice la ln lc) (.slice xa xn xc) L:=fun b hb=>bC.2 (.inr (.inr (aav.2 (.inl (by rw[hb];simp)))))
 have hvx:some w.heap.size≠(Value.slice la ln lc).ownBlock:=fun e=>by have:=hltV _ (hoX _ e.symm);omega
 have HVW:Aside (some bw≠(Value.slice la ln lc).ownBlock):=fun e=>by
  have h1:=hltV _ (hoX _ e.symm)
  have h2:=HR0.out.lt
  omega
 obtain⟨i0,hi0,hz0,hz1,hz2⟩:=info_parts UH
 have h63:L.length+1<=maxLen:=by simp only[maxLen];omega
 have hbytes:(L.length+1)*128<=140737488355328:=by omega
 clear hRW hct hu hsp hA0 hlv hcell k1 k2 k3 hfz hG hV hxs hR0 hc0 hA0' hm hc hi1 hi2
 have HVB:Aside (some b≠(Value.slice la ln lc).ownBlock):=HBF.out
 refine wp_region_noPanic ?_
 refine fU (n:=23) (S:=(fun W=>W.cell? ⟨w.heap.size,7,none⟩=some (.slice la ln lc)/\W.cell? ⟨bw,0,none⟩=some (.slice (some ⟨b,off,none⟩) nW cap)/\W.cell? ⟨b,off+3,none⟩=some (.string (bs x3))/\W.cell? ⟨b,off+5,none⟩=some (.string (bs x5))/\W.cell? ⟨b,off+8,none⟩=some (.string (bs x8)))) mixed (by (simp only[aaR,aaT];try rfl)) rfl rfl (by kernel_rfl) ?_ (fun hHeld=> ?_)
 ·(try dsimp only);((refine⟨?_, ?_, ?_, ?_, ?_⟩<;>(repeat (first | with_reducible assumption | with_reducible refine aM ?_ | with_reducible refine aQ ?_ | with_reducible refine ay hgr8 ?_ hvx | with_reducible refine ay hgr8 ?_ hvb | with_reducible refine ay hgr8 ?_ hvw))))
 refine tk 0 ?_
 refine tk 1 ?_
 refine tk 4 ?_
 refine tk 5 ?_
 refine tk 6 ?_
 refine tk 7 ?_
 refine tk 9 ?_
 refine tk 10 ?_
 refine tk 11 ?_
 refine tk 12 ?_
 refine tk 15 ?_
 refine tk 16 ?_
 refine tk 17 ?_
 refine tk 18 ?_
 refine cc (i:=2) rfl (by kernel_rfl) (fun K hK=> ?_)
 go_simp
 (go_at_fn 50;refine Calls.mono (zT (i:=1) (n:=nW) (cap:=cap) (b:=b) (off:=off) (by exact HR0.out.box) (by omega) hWl (by exact HC0.out 1 x1 hx1)) ?_;rintro e X1 ⟨rfl,hwd⟩;have hwd1:Wd bw (.slice (some ⟨b,off,none⟩) nW cap) _ X0 X1:=⟨hwd.size,hwd.os,hwd.output,hwd.keep,hwd.box⟩;clear hwd;have hR1:=HR0.out.wd hwd1;have hc1:=fun i x hx=>hwd1.cell hbb (HC0.out i x hx);have hA1:=hwd1.agr HA0.out hgbw;have u1:=(eG hR1.box).1.1;have r1:=(ak hR1.b0).1.2.2.2.2.2.2.2.1;have c3_1:=hc1 3 x3 hx3;have c5_1:=hc1 5 x5 hx5;have c8_1:=hc1 8 x8 hx8;have HR1:Aside _:=hR1;have HC1:Aside _:=hc1;have HA1:Aside _:=hA1;clear hR1 hc1 hA1 hwd1)
 refine hK.out _ _ ?_ (fun hHeld=> ?_)
 ·(try dsimp only);((refine⟨?_, ?_, ?_, ?_, ?_⟩<;>(repeat (first | with_reducible assumption | with_reducible refine aM ?_ | with_reducible refine aQ ?_ | with_reducible refine ay hgr8 ?_ hvx | with_reducible refine ay hgr8 ?_ hvb | with_reducible refine ay hgr8 ?_ hvw))))
 clear hK K
 try simp only[Act.put,aaK,aaM,aaL]
 refine cc (i:=3) rfl (by kernel_rfl) (fun K hK=> ?_)
 go_simp
 (go_at_fn 50;refine Calls.mono (zT (i:=2) (n:=nW) (cap:=cap) (b:=b) (off:=off) (by exact HR1.out.box) (by omega) hWl (by exact HC1.out 2 x2 hx2)) ?_;rintro e X2 ⟨rfl,hwd⟩;have hwd2:Wd bw (.slice (some ⟨b,off,none⟩) nW cap) _ X1 X2:=⟨hwd.size,hwd.os,hwd.output,hwd.keep,hwd.box⟩;clear hwd;have hR2:=HR1.out.wd hwd2;have hc2:=fun i x hx=>hwd2.cell hbb (HC1.out i x hx);have hA2:=hwd2.agr HA1.out hgbw;have u2:=(eG hR2.box).1.1;have r2:=(ak hR2.b0).1.2.2.2.2.2.2.2.1;have c3_2:=hc2 3 x3 hx3;have c5_2:=hc2 5 x5 hx5;have c8_2:=hc2 8 x8 hx8;have HR2:Aside _:=hR2;have HC2:Aside _:=hc2;have HA2:Aside _:=hA2;clear hR2 hc2 hA2 hwd2)
 refine hK.out _ _ ?_ (fun hHeld=> ?_)
 ·(try dsimp only);((refine⟨?_, ?_, ?_, ?_, ?_⟩<;>(repeat (first | with_reducible assumption | with_reducible refine aM ?_ | with_reducible refine aQ ?_ | with_reducible refine ay hgr8 ?_ hvx | with_reducible refine ay hgr8 ?_ hvb | with_reducible refine ay hgr8 ?_ hvw))))
 clear hK K
 try simp only[Act.put,aaK,aaM,aaL]
 refine cc (i:=8) rfl (by kernel_rfl) (fun K hK=> ?_)
 go_simp
 (go_at_fn 51;refine Calls.mono (wZ (G:=G2) (i:=4) (n:=nW) (cap:=cap) (b:=b) (off:=off) (by exact HA2.out) hT2 (by exact HR2.out.box) (by omega) hWl (by exact HC2.out 4 x4 hx4) hd4) ?_;rintro e X3 ⟨rfl,hwd⟩;have hwd3:Wd bw (.slice (some ⟨b,off,none⟩) nW cap) _ X2 X3:=⟨hwd.size,hwd.os,hwd.output,hwd.keep,hwd.box⟩;clear hwd;have hR3:=HR2.out.wd hwd3;have hc3:=fun i x hx=>hwd3.cell hbb (HC2.out i x hx);have hA3:=hwd3.agr HA2.out hgbw;have u3:=(eG hR3.box).1.1;have r3:=(ak hR3.b0).1.2.2.2.2.2.2.2.1;have c3_3:=hc3 3 x3 hx3;have c5_3:=hc3 5 x5 hx5;have c8_3:=hc3 8 x8 hx8;have HR3:Aside _:=hR3;have HC3:Aside _:=hc3;have HA3:Aside _:=hA3;clear hR3 hc3 hA3 hwd3)
 refine hK.out _ _ ?_ (fun hHeld=> ?_)
 ·(try dsimp only);((refine⟨?_, ?_, ?_, ?_, ?_⟩<;>(repeat (first | with_reducible assumption | with_reducible refine aM ?_ | with_reducible refine aQ ?_ | with_reducible refine ay hgr8 ?_ hvx | with_reducible refine ay hgr8 ?_ hvb | with_reducible refine ay hgr8 ?_ hvw))))
 clear hK K
 try simp only[Act.put,aaK,aaM,aaL]
 refine cc (i:=13) rfl (by kernel_rfl) (fun K hK=> ?_)
 go_simp
 (go_at_fn 51;refine Calls.mono (wZ (G:=G2) (i:=6) (n:=nW) (cap:=cap) (b:=b) (off:=off) (by exact HA3.out) hT2 (by exact HR3.out.box) (by omega) hWl (by exact HC3.out 6 x6 hx6) hd6) ?_;rintro e X4 ⟨rfl,hwd⟩;have hwd4:Wd bw (.slice (some ⟨b,off,none⟩) nW cap) _ X3 X4:=⟨hwd.size,hwd.os,hwd.output,hwd.keep,hwd.box⟩;clear hwd;have hR4:=HR3.out.wd hwd4;have hc4:=fun i x hx=>hwd4.cell hbb (HC3.out i x hx);have hA4:=hwd4.agr HA3.out hgbw;have u4:=(eG hR4.box).1.1;have r4:=(ak hR4.b0).1.2.2.2.2.2.2.2.1;have c3_4:=hc4 3 x3 hx3;have c5_4:=hc4 5 x5 hx5;have c8_4:=hc4 8 x8 hx8;have HR4:Aside _:=hR4;have HC4:Aside _:=hc4;have HA4:Aside _:=hA4;clear hR4 hc4 hA4 hwd4)
 refine hK.out _ _ ?_ (fun hHeld=> ?_)
 ·(try dsimp only);((refine⟨?_, ?_, ?_, ?_, ?_⟩<;>(repeat (first | with_reducible assumption | with_reducible refine aM ?_ | with_reducible refine aQ ?_ | with_reducible refine ay hgr8 ?_ hvx | with_reducible refine ay hgr8 ?_ hvb | with_reducible refine ay hgr8 ?_ hvw))))
 clear hK K
 try simp only[Act.put,aaK,aaM,aaL]
 refine cc (i:=14) rfl (by kernel_rfl) (fun K hK=> ?_)
 go_simp
 (go_at_fn 50;refine Calls.mono (zT (i:=7) (n:=nW) (cap:=cap) (b:=b) (off:=off) (by exact HR4.out.box) (by omega) hWl (by exact HC4.out 7 x7 hx7)) ?_;rintro e X5 ⟨rfl,hwd⟩;have hwd5:Wd bw (.slice (some ⟨b,off,none⟩) nW cap) _ X4 X5:=⟨hwd.size,hwd.os,hwd.output,hwd.keep,hwd.box⟩;clear hwd;have hR5:=HR4.out.wd hwd5;have hc5:=fun i x hx=>hwd5.cell hbb (HC4.out i x hx);have hA5:=hwd5.agr HA4.out hgbw;have u5:=(eG hR5.box).1.1;have r5:=(ak hR5.b0).1.2.2.2.2.2.2.2.1;have c3_5:=hc5 3 x3 hx3;have c5_5:=hc5 5 x5 hx5;have c8_5:=hc5 8 x8 hx8;have HR5:Aside _:=hR5;have HC5:Aside _:=hc5;have HA5:Aside _:=hA5;clear hR5 hc5 hA5 hwd5)
 refine hK.out _ _ ?_ (fun hHeld=> ?_)
 ·(try dsimp only);((refine⟨?_, ?_, ?_, ?_, ?_⟩<;>(repeat (first | with_reducible assumption | with_reducible refine aM ?_ | with_reducible refine aQ ?_ | with_reducible refine ay hgr8 ?_ hvx | with_reducible refine ay hgr8 ?_ hvb | with_reducible refine ay hgr8 ?_ hvw))))
 clear hK K
 try simp only[Act.put,aaK,aaM,aaL]
 refine tk 19 ?_
 refine cc (i:=20) rfl (by kernel_rfl) (fun K hK=> ?_)
 go_simp
 refine hK.out _ _ ?_ (fun hHeld=> ?_)
 ·(try dsimp only);((refine⟨?_, ?_, ?_, ?_, ?_⟩<;>(repeat (first | with_reducible assumption | with_reducible refine aM ?_ | with_reducible refine aQ ?_ | with_reducible refine ay hgr8 ?_ hvx | with_reducible refine ay hgr8 ?_ hvb | with_reducible refine ay hgr8 ?_ hvw))))
 clear hK K
 try simp only[Act.put,aaK,aaM,aaL]
 refine cc (i:=21) rfl (by kernel_rfl) (fun K hK=> ?_)
 (have hvb:some b≠(Value.slice la ln lc).ownBlock:=HVB.out;have hvw:some bw≠(Value.slice la ln lc).ownBlock:=HVW.out;refine step_append_lies _ (by rfl) _ _ _ (by rfl) 0 50 i0 _ 11 128 t23 hi0 hz0 hz1 hz2 rfl (by omega) (.slice la ln lc) L.length xs (by rfl) (hown HR5.out.kept) ⟨X5.heap.size,0,none⟩ 1 1 [.int .i64 (bL x1),.int .i64 (bL x2),.string (bs x3),.int .i64 d4.1,.int .i64 d4.2,.string (bs x5),.int .i64 d6.1,.int .i64 d6.2,.int .i64 (bL x7),.slice none 0 0,.string (bs x8)] (by rfl) (by rfl) (World.news_of_block (cs:= #[.int .i64 (bL x1),.int .i64 (bL x2),.string (bs x3),.int .i64 d4.1,.int .i64 d4.2,.string (bs x5),.int .i64 d6.1,.int .i64 d6.2,.int .i64 (bL x7),.slice none 0 0,.string (bs x8)]) (t:=50) (fr:=(0,0)) (heap_alloc_new X5 _)) (Ss (bL x1,bL x2,x3,d4,x5,d6,bL x7,[],x8) none 0 0) (by omega) h63 hbytes (abw _) (X5.heap.size+1) (by simp) ?_;intro g capn W8 hown8 hgr8 hat8 hlt8;have hb8:=kL hgr8 hvx HR5.out.b0;have p3:=(ak hb8).1.2.2.2.2.2.2.2.1;have pf:=(ak hb8).2 7)
 refine hK.out _ _ ?_ (fun hHeld=> ?_)
 ·(try dsimp only);((refine⟨?_, ?_, ?_, ?_, ?_⟩<;>(repeat (first | with_reducible assumption | with_reducible refine aM ?_ | with_reducible refine aQ ?_ | with_reducible refine ay hgr8 ?_ hvx | with_reducible refine ay hgr8 ?_ hvb | with_reducible refine ay hgr8 ?_ hvw))))
 clear hK K
 try simp only[Act.put,aaK,aaM,aaL]
 refine tk 22 ?_
 refine wpAnyH_done (by kernel_rfl) ?_ _
 refine mS (fun K hK=> ?_)
 go_simp
 refine hK.out _ _ (NoPanic.normal ?_)
 clear hK K
 have hP:=RV.pushLine (w:=X5.alloc (.cells #[.int .i64 (bL x1),.int .i64 (bL x2),.string (bs x3),.int .i64 d4.1,.int .i64 d4.2,.string (bs x5),.int .i64 d6.1,.int .i64 d6.2,.int .i64 (bL x7),.slice none 0 0,.string (bs x8)] 50)) (w':=W8) (HV.out.keep fun b hb=>(heap_alloc_old _ _ (abh (hltV b hb) HR5.out.kept.size)).trans (HR5.out.kept.block b (hltV b hb))) (l:=(bL x1,bL x2,x3,d4,x5,d6,bL x7,[],x8)) (by rfl) (g:=g) (cap:=capn) (by rw[HXS.out] at hown8;exact hown8) hgr8 (hat8.imp id fun e=>by rw[e];exact abb (YU _))
 obtain⟨hP1,hP2⟩:=hP
 have hRE:=HH HR5.out hltV hgr8 hoX (fun k hk=>aB W8 w.heap.size 7 k (.slice (some ⟨g,0,none⟩) (L.length+1) capn) hk) (aO _ _ _ _) rfl rfl (v':=addLine v (bL x1,bL x2,x3,d4,x5,d6,bL x7,[],x8)) (aN W8 w.heap.size 7 _ _ _ _ hb8) hP1 hP2
 have HRE:Aside _:=hRE
 clear hRE hP1 hP2 p3 pf hb8 hown8 hgr8 hat8 hlt8 u0 r0 c3_0 c5_0 c8_0 u1 r1 c3_1 c5_1 c8_1 u2 r2 c3_2 c5_2 c8_2 u3 r3 c3_3 c5_3 c8_3 u4 r4 c3_4 c5_4 c8_4 u5 r5 c3_5 c5_5 c8_5
 go_wp2
 refine jd (fun W=>RE w W (addLine v (bL x1,bL x2,x3,d4,x5,d6,bL x7,[],x8)) (.slice ra rn rc) (.slice (some ⟨g,0,none⟩) (L.length+1) capn) (.slice xa xn xc) (L++[((bL x1,bL x2,x3,d4,x5,d6,bL x7,[],x8),.slice none 0 0)]) (aK (.slice ra rn rc) (.slice la ln lc) (.slice xa xn xc) L) bw (.slice (some ⟨b,off,none⟩) nW cap) (((((true&&cD x1)&&cD x2)&&f4==0)&&f6==0)&&cD x7)) HRE.out ?_
 generalize hokf:(((((true&&cD x1)&&cD x2)&&f4==0)&&f6==0)&&cD x7)=ok at*
 clear HRE
 intro W hE
 obtain⟨⟨p0,p1,p2,p3,p4,p5,p6,p7,p8⟩,_⟩:=ak hE.b0
 obtain⟨⟨q0,q1,q2,q3,q4,q5,q6,q7,q8⟩,qf⟩:=ak hE.b1
 have f0:=qf 0;have f1:=qf 1;have f2:=qf 2;have f3:=qf 3;have f4:=qf 4;have f5:=qf 5;have f6:=qf 6;have f7:=qf 7;have f8:=qf 8
 have o1:=(eG hE.box).1.2
 have n1:w.heap.size≠w.heap.size+1:=by omega
 have n2:bw≠w.heap.size+1:=by have:=hE.lt;omega
 have HE:Aside _:=hE
 have p0:W.cell? ⟨w.heap.size,0,none⟩=some (.string (bs v.1)):=p0
 have p1:W.cell? ⟨w.heap.size,1,none⟩=some (.string (bs v.2.1)):=p1
 have p2:W.cell? ⟨w.heap.size,2,none⟩=some (.int .i64 v.2.2.1):=p2
 have p3:W.cell? ⟨w.heap.size,3,none⟩=some (.int .i64 v.2.2.2.1):=p3
 have p4:W.cell? ⟨w.heap.size,4,none⟩=some (.int .i64 v.2.2.2.2.1):=p4
 have p5:W.cell? ⟨w.heap.size,5,none⟩=some (.bool v.2.2.2.2.2.1):=p5
 have p6:W.cell? ⟨w.heap.size,6,none⟩=some (.slice ra rn rc):=p6
 have p7:W.cell? ⟨w.heap.size,7,none⟩=some (.slice (some ⟨g,0,none⟩) (L.length+1) capn):=p7
 have p8:W.cell? ⟨w.heap.size,8,none⟩=some (.slice xa xn xc):=p8
 clear hE
 go_region_held3 (fun W=>W.cell? ⟨w.heap.size,0,none⟩=some (.string (bs v.1))/\W.cell? ⟨w.heap.size,1,none⟩=some (.string (bs v.2.1))/\W.cell? ⟨w.heap.size,2,none⟩=some (.int .i64 v.2.2.1)/\W.cell? ⟨w.heap.size,3,none⟩=some (.int .i64 v.2.2.2.1)/\W.cell? ⟨w.heap.size,4,none⟩=some (.int .i64 v.2.2.2.2.1)/\W.cell? ⟨w.heap.size,5,none⟩=some (.bool v.2.2.2.2.2.1)/\W.cell? ⟨w.heap.size,6,none⟩=some (.slice ra rn rc)/\W.cell? ⟨w.heap.size,7,none⟩=some (.slice (some ⟨g,0,none⟩) (L.length+1) capn)/\W.cell? ⟨w.heap.size,8,none⟩=some (.slice xa xn xc)/\W.cell? ⟨bw,1,none⟩=some (.bool ok)) (refine⟨?_, ?_, ?_, ?_, ?_, ?_, ?_, ?_, ?_, ?_⟩<;>(repeat (first | with_reducible assumption | with_reducible refine aQ ?_ | with_reducible refine dA n1 ?_ | with_reducible refine dA n2 ?_))) (fail)
 go_wp2
 obtain⟨s1,s2,s3,s4,s5⟩:=iZ (.string (bs v.1)) (.string (bs v.2.1)) (.int .i64 v.2.2.1) (.int .i64 v.2.2.2.1) (.int .i64 v.2.2.2.2.1) (.bool v.2.2.2.2.2.1) (.slice ra rn rc) (.slice (some ⟨g,0,none⟩) (L.length+1) capn) (.slice xa xn xc) HE.out.b1
 refine bodyPost_ret (iO (p:=6) (q:=7) (ty:=26) (b:=w.heap.size+1) (v:= .agg (iJ (addLine v (bL x1,bL x2,x3,d4,x5,d6,bL x7,[],x8)) (.slice ra rn rc) (.slice (some ⟨g,0,none⟩) (L.length+1) capn) (.slice xa xn xc)).toArray) (by kernel_rfl) _ _ _ (by rfl) (mz s1)) rfl ?_
 exact kO HE.out (by rfl) (by rw[<- hokf]) s2 s3 s4 s5
end Go.Proofs.SeatU
