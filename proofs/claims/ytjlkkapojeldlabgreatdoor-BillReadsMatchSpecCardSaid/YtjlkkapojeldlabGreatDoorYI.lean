/-
  readLine of the reference by a walk, third part. No condition.
-/
import Derived.Test.YtjlkkapojeldlabGreatDoorYG
import Derived.Test.YtjlkkapojeldlabGreatDoorYf
set_option linter.all false
set_option maxRecDepth 100000
namespace Go.Proofs.SeatU
open Go.Dn Go.Md Go.Proofs Go.RowKit Go.Shelf Go.Lib
attribute [local go_sem ↓] Go.wp_at_zero Go.wp_at_succ
theorem Wt {P:Program} {md:Region.Mode} {l r1 r2:List Oper} {Q:Exit->Act->World->Prop} {S:World->Prop} {i j:Nat} {o1 o2:Oper} {fuel:Nat} {listed:Array Bool} {a:Act} {w:World} (hd1:l.drop i=o1::r1) (hd2:l.drop j=o2::r2) (hr:Region.ready md l.toArray listed=[i,j]) (h1:∀ K':Act->World->Prop,Shut (∀ a w,S w->(S w->wpAnyH P md l.toArray Q S fuel (listed.setIfInBounds i true) a w)->K' a w)->if Region.wanted o1 (yielded l.toArray a.tmps)=true then Oper.wp P o1 a w K' Q else K' (a.put o1.dst undef) w) (h2:∀ K':Act->World->Prop,Shut (∀ a w,S w->(S w->wpAnyH P md l.toArray Q S fuel (listed.setIfInBounds j true) a w)->K' a w)->if Region.wanted o2 (yielded l.toArray a.tmps)=true then Oper.wp P o2 a w K' Q else K' (a.put o2.dst undef) w): wpAnyH P md l.toArray Q S (fuel+1) listed a w:=by
 have e1:l.toArray[i]? =some o1:=by
  have:(l.drop i)[0]? =some o1:=by rw[hd1];rfl
  simpa using this
 have e2:l.toArray[j]? =some o2:=by
  have:(l.drop j)[0]? =some o2:=by rw[hd2];rfl
  simpa using this
 exact wpAnyH_ready hr (by simp) (AllReadyH.cons e1 h1 (AllReadyH.cons e2 h2 AllReadyH.nil))
theorem RW.far {w W W':World} {v:aa} {vr vl ve u:Value} {bw y:Nat} {ok:Bool} (h:RW w W v vr vl ve bw u ok) (s2:∀ k,k≠y->W'.heap[k]? =W.heap[k]?) (s3:W'.heap.size=W.heap.size) (s4:W'.os=W.os) (s5:W'.output=W.output) (hy:w.heap.size+1<y) (hn:y≠bw):RW w W' v vr vl ve bw u ok:=
 ⟨(s2 _ (by omega)).trans h.b0,(s2 _ (by omega)).trans h.b1,(s2 _ (Ne.symm hn)).trans h.box,⟨by rw[s3];exact h.kept.size,s4.trans h.kept.os,s5.trans h.kept.output,fun b hb=>(s2 b (by omega)).trans (h.kept.block b hb)⟩,h.lt⟩
theorem Yw {W:World} {b:Nat} {a0 a1 a2 a3:Value} {T:TypeId} (c0 c1 c2 c3:Value) (h:W.heap[b]? =some (.cells #[a0,a1,a2,a3] T (0,0))):((((W.setCell ⟨b,0,none⟩ c0).setCell ⟨b,1,none⟩ c1).setCell ⟨b,2,none⟩ c2).setCell ⟨b,3,none⟩ c3).os=W.os/\((((W.setCell ⟨b,0,none⟩ c0).setCell ⟨b,1,none⟩ c1).setCell ⟨b,2,none⟩ c2).setCell ⟨b,3,none⟩ c3).output=W.output:=by
 constructor
 ·simp only[Ea]
 ·simp only[w5]
structure RX (w W:World) (v:aa) (vr vl ve:Value) (bw:Nat) (u:Value) (ok:Bool) (y:Nat) (x:aJ):Prop where
 rw0:RW w W v vr vl ve bw u ok
 ext:W.heap[y]? =some (.cells #[.bool x.1,.int .i64 x.2.1.1,.int .i64 x.2.1.2,.string (bs x.2.2)] 53 (0,0))
 ylt:w.heap.size+1<y
 ybw:y≠bw
theorem Vu {w W:World} {v:aa} {vr vl ve u:Value} {bw y:Nat} {ok:Bool} {x:aJ} (h:RX w W v vr vl ve bw u ok y x):RX w (W.setCell ⟨y,3,none⟩ (.string (bs []))) v vr vl ve bw u ok y (x.1,x.2.1,[]):=
 ⟨h.rw0.far (fun k hk=>aB _ _ _ _ _ hk) (aO _ _ _ _) rfl rfl h.ylt h.ybw,aN _ y 3 _ _ _ (.string (bs [])) h.ext,h.ylt,h.ybw⟩
set_option maxHeartbeats 8000000 in
theorem XY (G:Gh) (w:World) (s:List UInt8) (Ws:List (List UInt8)) (v:aa) (ra:Option Addr) (rn rc:Nat) (la:Option Addr) (ln lc:Nat) (xa:Option Addr) (xn xc:Nat) (L:List (ai×Value)) (hG:Agr G w) (hT:bF Tryz.prog G) (hne:Ws≠[]) (nW:Nat) (hnW:Ws.length=nW) (hWl:nW<=1000000) (hm:strings_Split s [32]=some (Ws,())) (hc:bn Ws []=some (false,())) (hV:RV w v (.slice ra rn rc) (.slice la ln lc) (.slice xa xn xc) L) (hgb:∀ b∈aK (.slice ra rn rc) (.slice la ln lc) (.slice xa xn xc) L,G b=none) (hn:v.2.2.2.2.2.2.2.2.length<=1000000) (hi1:isW [114,97,116,101] 3 [] Ws=false) (hi2:isW [108,105,110,101] 9 [] Ws=false) (hi3:isW [101,120,116,114,97] 2 [112,101,114,99,101,110,116] Ws=false) (hi4:isW [97,108,108] 3 [112,101,114,99,101,110,116] Ws=true) (x1 x2:List UInt8) (hx1:Ws[1]? =some x1) (hx2:Ws[2]? =some x2) {d1:ah} {f1:Int} (hd1:gF x1=some (d1,f1,())) (e4:Bool) (h4:((nW:Int)==4)=e4) (hln0:(0:Int)<=(ln:Int)): Calls Tryz.prog 15 #[.agg #[.string (bs v.1),.string (bs v.2.1),.int .i64 v.2.2.1,.int .i64 v.2.2.2.1,.int .i64 v.2.2.2.2.1,.bool v.2.2.2.2.2.1,.slice ra rn rc,.slice la ln lc,.slice xa xn xc],.string (bs s),.bool false] w fun e w'=>uc w w' (aK (.slice ra rn rc) (.slice la ln lc) (.slice xa xn xc) L) e (bif (true&&f1==0) then some (fX v (e4,d1,zo x2)) else none):=by
 have e32:∀ args w,(callFunc 32 args).run Tryz.prog w= .ok (.enter 32 args) w:=enters_of Tryz.func32 (by kernel_rfl) rfl
 have e48:∀ args w,(callFunc 48 args).run Tryz.prog w= .ok (.enter 48 args) w:=enters_of Tryz.func48 (by kernel_rfl) rfl
 have e49:∀ args w,(callFunc 49 args).run Tryz.prog w= .ok (.enter 49 args) w:=enters_of Tryz.func49 (by kernel_rfl) rfl
 have e50:∀ args w,(callFunc 50 args).run Tryz.prog w= .ok (.enter 50 args) w:=enters_of Tryz.func50 (by kernel_rfl) rfl
 have e51:∀ args w,(callFunc 51 args).run Tryz.prog w= .ok (.enter 51 args) w:=enters_of Tryz.func51 (by kernel_rfl) rfl
 have mixed:Tryz.prog.follows .mixedOrders=true:=by kernel_rfl
 have late:Tryz.prog.follows .lateStores=true:=by kernel_rfl
 have t3:=Tryz.underlying3;have t4:=Tryz.underlying4;have t9:=Tryz.underlying9;have t26:=Tryz.underlying26;have a26:=Tryz.isAgg26;have z26:=Tryz.sizeOf26;have v26:=Tryz.zeroValue26;have t36:=Tryz.underlying36;have t100:=Tryz.underlying100;have a100:=Tryz.isAgg100;have z100:=Tryz.sizeOf100;have v100:=Tryz.zeroValue100;have t22:=Tryz.underlying22;have t23:=Tryz.underlying23;have t24:=Tryz.underlying24
 obtain⟨k1,k2,k3⟩:=kK w (.cells #[.string (bs v.1),.string (bs v.2.1),.int .i64 v.2.2.1,.int .i64 v.2.2.2.1,.int .i64 v.2.2.2.2.1,.bool v.2.2.2.2.2.1,.slice ra rn rc,.slice la ln lc,.slice xa xn xc] 26) (.cells #[.string ⟨#[]⟩,.string ⟨#[]⟩,.int .i64 0,.int .i64 0,.int .i64 0,.bool false,.slice none 0 0,.slice none 0 0,.slice none 0 0] 26)
 have hA0:Agr G ((w.alloc (.cells #[.string (bs v.1),.string (bs v.2.1),.int .i64 v.2.2.1,.int .i64 v.2.2.2.1,.int .i64 v.2.2.2.2.1,.bool v.2.2.2.2.2.1,.slice ra rn rc,.slice la ln lc,.slice xa xn xc] 26)).alloc (.cells #[.string ⟨#[]⟩,.string ⟨#[]⟩,.int .i64 0,.int .i64 0,.int .i64 0,.bool false,.slice none 0 0,.slice none 0 0,.slice none 0 0] 26)):=dy (dy hG _) _
 have a48:=Tryz.isAgg48;have z48:=Tryz.sizeOf48;have a53:=Tryz.isAgg53;have z53:=Tryz.sizeOf53;have v53:=Tryz.zeroValue53;have t53:=Tryz.underlying53;have t52:=Tryz.underlying52
 have hsp:=kT s Ws hA0 hT hm
 have hmx:2<nW:=by rw[<- hnW];exact (Z9.1 hx2).1
 have j1:(1:Int)<(nW:Int):=by omega
 have j2:(2:Int)<(nW:Int):=by omega
 have jj:(nW:Int)<=1000000:=by omega
 have hltV:=hV.lt
 have HV:Aside _:=hV
 go_enter Tryz.func15,Tryz.ntmps15
 go_wp2_with (first | (go_at_fn 32;refine hsp.mono ?_;rintro e W2 ⟨G2,u,rfl,hlv,hu⟩;obtain⟨b,off,cap,rfl,hcap,kC,hfz,hcell⟩:=eS hu hlv.agr hne;obtain⟨hRW,hct⟩:=yx (ok:=false) hlv k1 k2 k3 hT hu hc;rw[hnW] at hRW hct) | (go_at_fn 48;refine hct.mono ?_;rintro e W3 ⟨rfl,hk3⟩;have hR3:=hRW.keep hk3;have hc3:∀ i x,Ws[i]? =some x->W3.cell? ⟨b,off+i,none⟩=some (.string (bs x)):=fun i x hx=>cB hk3 (aM (hcell i x hx));obtain⟨⟨p0,p1,p2,p3,p4,p5,p6,p7,p8⟩,_⟩:=ak hR3.b0) | (go_at_fn 49;first | (have hi:=ris (ok:=true) [97,108,108] [112,101,114,99,101,110,116] 3 (by rw[hnW];exact hR6.box) hne (by rw[hnW];exact hWl) (by decide) hc6;rw[hi4] at hi;refine hi.mono ?_;rintro e W7 ⟨rfl,hk7⟩;have hR7:=hR6.keep hk7;have hc7:=fun i x hx=>cB hk7 (hc6 i x hx);obtain⟨⟨dd0,dd1,dd2,dd3,dd4,dd5,dd6,dd7,dd8⟩,_⟩:=ak hR7.b0) | (have hi:=ris (ok:=true) [101,120,116,114,97] [112,101,114,99,101,110,116] 2 (by rw[hnW];exact hR5.box) hne (by rw[hnW];exact hWl) (by decide) hc5;rw[hi3] at hi;refine hi.mono ?_;rintro e W6 ⟨rfl,hk6⟩;have hR6:=hR5.keep hk6;have hc6:=fun i x hx=>cB hk6 (hc5 i x hx);obtain⟨⟨cc0,cc1,cc2,cc3,cc4,cc5,cc6,cc7,cc8⟩,_⟩:=ak hR6.b0) | (have hi:=ris (ok:=true) [108,105,110,101] [] 9 (by rw[hnW];exact hR4.box) hne (by rw[hnW];exact hWl) (by decide) hc4;rw[hi2] at hi;refine hi.mono ?_;rintro e W5 ⟨rfl,hk5⟩;have hR5:=hR4.keep hk5;have hc5:=fun i x hx=>cB hk5 (hc4 i x hx);obtain⟨⟨bb0,bb1,bb2,bb3,bb4,bb5,bb6,bb7,bb8⟩,_⟩:=ak hR5.b0) | (have hi:=ris (ok:=true) [114,97,116,101] [] 3 (by rw[hnW];exact hR3.box) hne (by rw[hnW];exact hWl) (by decide) hc3;rw[hi1] at hi;refine hi.mono ?_;rintro e W4 ⟨rfl,hk4⟩;have hR4:=hR3.keep hk4;have hc4:=fun i x hx=>cB hk4 (hc3 i x hx);obtain⟨⟨aa0,aa1,aa2,aa3,aa4,aa5,aa6,aa7,aa8⟩,_⟩:=ak hR4.b0)))
 have hbb:b≠W2.heap.size:=by
  obtain⟨o,ho⟩:=hfz
  exact abr (aj (hlv.agr b o ho))
 have hgbw:G2 W2.heap.size=none:=by
  cases hg:G2 W2.heap.size with
  | none=>rfl
  | some o=>exact absurd (aj (hlv.agr _ o hg)) (abg _)
 have hT2:=hT.mono hlv.le
 have hAK:Agr G2 W7:=fun b o hb=>((((((((bH W2 _).2).trans hk3).trans hk4).trans hk5).trans hk6).trans hk7).block b (aj (hlv.agr b o hb))).trans (hlv.agr b o hb)
 refine jd (fun W=>RW w W v (.slice ra rn rc) (.slice la ln lc) (.slice xa xn xc) W2.heap.size (.slice (some ⟨b,off,none⟩) nW cap) true/\(∀ i x,Ws[i]? =some x->W.cell? ⟨b,off+i,none⟩=some (.string (bs x)))/\Agr G2 W) ⟨hR7,hc7,hAK⟩ ?_
 clear hAK hR3 hc3 hk3 hR4 hc4 hk4 hR5 hc5 hk5 hR6 hc6 hk6 hR7 hc7 hk7
 intro X0 ⟨hR0,hc0,hA0'⟩
 generalize hbw:W2.heap.size=bw at*
 have u0:=(eG hR0.box).1.1
 have c2_0:=hc0 2 x2 hx2
 have hltX:bw<X0.heap.size:=aj hR0.box
 have hnA:=bH X0 (.cells #[.bool false,.int .i64 0,.int .i64 0,.string ⟨#[]⟩] 53)
 have hRa:=hR0.keep hnA.2
 have hca:=fun i x hx=>cB hnA.2 (hc0 i x hx)
 have hAa:Agr G2 _:=dy hA0' (.cells #[.bool false,.int .i64 0,.int .i64 0,.string ⟨#[]⟩] 53)
 have ua:=(eG hRa.box).1.1
 have ca:=hca 2 x2 hx2
 have HR0:Aside _:=hR0
 have HC0:Aside _:=hc0
 have HA0:Aside _:=hA0'
 have HRA:Aside _:=hRa
 have HCA:Aside _:=hca
 have HAA:Aside _:=hAa
 have HNA:Aside _:=hnA
 clear hRW hct hu hsp hA0 hlv hcell k1 k2 k3 hfz hG hV hR0 hc0 hA0' hRa hca hAa hnA hm hc hi1 hi2 hi3 hi4 hgb
 refine wp_region_noPanic ?_
 refine fU (n:=11) (S:=(fun W=>W.cell? ⟨bw,0,none⟩=some (.slice (some ⟨b,off,none⟩) nW cap)/\W.cell? ⟨b,off+2,none⟩=some (.string (bs x2)))) mixed (by (simp only[aaR,aaT];try rfl)) rfl rfl (by kernel_rfl) ?_ (fun hHeld=> ?_)
 ·(try dsimp only);((refine⟨?_, ?_⟩<;>(repeat (first | with_reducible assumption | with_reducible refine aQ ?_ | with_reducible refine aM ?_))))
 refine tk 1 ?_
 refine tk 2 ?_
 refine tk 3 ?_
 refine tk 4 ?_
 refine tk 5 ?_
 refine tk 6 ?_
 refine tk 7 ?_
 refine tk 8 ?_
 refine Wt (i:=0) (j:=10) rfl rfl (by kernel_rfl) (fun K hK=> ?_) (fun K hK=> ?_)
 ·go_simp
  (go_at_fn 51;refine Calls.mono (wZ (G:=G2) (i:=1) (n:=nW) (cap:=cap) (b:=b) (off:=off) (by exact HA0.out) hT2 (by exact HR0.out.box) (by omega) hWl (by exact HC0.out 1 x1 hx1) hd1) ?_;rintro e X1 ⟨rfl,hwd⟩;have hwd1:Wd bw (.slice (some ⟨b,off,none⟩) nW cap) _ (X0) X1:=⟨hwd.size,hwd.os,hwd.output,hwd.keep,hwd.box⟩;clear hwd;have hR1:=HR0.out.wd hwd1;have u1:=(eG hR1.box).1.1;have c1:=hwd1.cell hbb (HC0.out 2 x2 hx2);have HR1:Aside _:=hR1;have HW1:Aside _:=hwd1;clear hR1 hwd1)
  refine hK.out _ _ ?_ (fun hHeld=> ?_)
  ·(try dsimp only);((refine⟨?_, ?_⟩<;>(repeat (first | with_reducible assumption | with_reducible refine aQ ?_ | with_reducible refine aM ?_))))
  clear hK K
  try simp only[Act.put,aaK,aaM,aaL]
  refine tk 9 ?_
  refine cc (i:=10) rfl (by kernel_rfl) (fun K hK=> ?_)
  go_simp
  refine hK.out _ _ ?_ (fun hHeld=> ?_)
  ·(try dsimp only);((refine⟨?_, ?_⟩<;>(repeat (first | with_reducible assumption | with_reducible refine aQ ?_ | with_reducible refine aM ?_))))
  clear hK K
  try simp only[Act.put,aaK,aaM,aaL]
  refine wpAnyH_done (by kernel_rfl) ?_ _
  refine mS (fun K hK=> ?_)
  go_simp
  refine hK.out _ _ (NoPanic.normal ?_)
  clear hK K
  have hnz:=bH X1 (.cells #[.bool e4,.int .i64 d1.1,.int .i64 d1.2,.string (bs x2)] 53)
  have hX:RX w (X1.alloc (.cells #[.bool e4,.int .i64 d1.1,.int .i64 d1.2,.string (bs x2)] 53)) v (.slice ra rn rc) (.slice la ln lc) (.slice xa xn xc) bw (.slice (some ⟨b,off,none⟩) nW cap) (true&&f1==0) X1.heap.size (e4,d1,x2):=⟨HR1.out.keep hnz.2,hnz.1,by have h1:=HR1.out.lt;have h2:=aj HR1.out.box;omega,abq (aj HR1.out.box)⟩
  generalize X1.alloc (.cells #[.bool e4,.int .i64 d1.1,.int .i64 d1.2,.string (bs x2)] 53)=Wz at hX ⊢
  generalize X1.heap.size=y at hX ⊢
  have HX:Aside _:=hX
  clear hX hnz u1 c1 u0 c2_0 ua ca hltX HR0 HC0 HA0 HRA HCA HAA HNA HR1 HW1
  obtain⟨xs,hxs⟩:∃ xs:List Value,xs=v.2.2.2.2.2.2.2.2.flatMap qw:=⟨_,rfl⟩
  have HXS:Aside _:=hxs
  have hown:∀ {W:World} {o:Obj},Kept w W->(W.alloc o).ownsRow 0 53 4 (.slice xa xn xc) v.2.2.2.2.2.2.2.2.length xs:=fun {W o} hk=>by
   rw[hxs]
   exact bV HV.out.ext fun g hg=>(heap_alloc_old _ _ (abh (bT HV.out.ext hg) hk.size)).trans (hk.block g (bT HV.out.ext hg))
  have hoX:∀ b,(Value.slice xa xn xc).ownBlock=some b->b∈aK (.slice ra rn rc) (.slice la ln lc) (.slice xa xn xc) L:=fun b hb=>bC.2 (.inr (.inl hb))
  have hvx:some w.heap.size≠(Value.slice xa xn xc).ownBlock:=fun e=>by have:=hltV _ (hoX _ e.symm);omega
  obtain⟨i0,hi0,hz0,hz1,hz2⟩:=info_parts FX
  have h63:v.2.2.2.2.2.2.2.2.length+1<=maxLen:=by simp only[maxLen];omega
  have hbytes:(v.2.2.2.2.2.2.2.2.length+1)*40<=140737488355328:=by omega
  clear hxs
  have hyw:y≠w.heap.size:=by have:=HX.out.ylt;omega
  have hyw2:w.heap.size≠y:=Ne.symm hyw
  have r0:=(ak HX.out.rw0.b0).1.2.2.2.2.2.2.2.2
  obtain⟨⟨y0,y1,y2,y3⟩,yf⟩:=Ab HX.out.ext
  have yf3:=yf 3
  by_cases h45:x2=[45]
  ·subst h45
   have hz:((bs ([45]:List UInt8)).toList==([45]:List UInt8))=true:=by rw[fY];rfl
   have HXS2:=Vu HX.out
   have HX2:Aside _:=HXS2
   clear HXS2
   have hgy:=(Ab HX2.out.ext).1
   obtain⟨gy0,gy1,gy2,gy3⟩:=hgy
   have gr0:=(ak HX2.out.rw0.b0).1.2.2.2.2.2.2.2.2
   have hnb:((Wz.setCell ⟨y,3,none⟩ (.string (bs []))).alloc (.cells #[.bool e4,.int .i64 d1.1,.int .i64 d1.2,.string (bs [])] 53)).heap[Wz.heap.size]? =some (.cells #[.bool e4,.int .i64 d1.1,.int .i64 d1.2,.string (bs [])] 53 (0,0)):=by
    rw[<- aO Wz y 3 (.string (bs []))]
    exact heap_alloc_new _ _
   have HNB:Aside _:=hnb
   clear hnb
   go_wp2_with (at_builtin;refine wpList_append_lies _ rfl _ _ _ rfl 0 53 i0 _ 4 40 t24 hi0 hz0 hz1 hz2 rfl (by decide) (.slice xa xn xc) v.2.2.2.2.2.2.2.2.length xs rfl (hown HX2.out.rw0.kept) ⟨Wz.heap.size,0,none⟩ 1 1 [.bool e4,.int .i64 d1.1,.int .i64 d1.2,.string (bs [])] rfl rfl (World.news_of_block (cs:= #[.bool e4,.int .i64 d1.1,.int .i64 d1.2,.string (bs [])]) (t:=53) (fr:=(0,0)) (by exact HNB.out)) (wO (e4,d1,[])) (by decide) h63 hbytes (abw _) _ rfl ?_;intro g capn W8 hown8 hgr8 hat8 hlt8;have hb8:=kL hgr8 hvx HX2.out.rw0.b0;have p3:=(ak hb8).1.2.2.2.2.2.2.2.2;have pf:=(ak hb8).2 8)
   have hP:=RV.CE (w:=(Wz.setCell ⟨y,3,none⟩ (.string (bs []))).alloc (.cells #[.bool e4,.int .i64 d1.1,.int .i64 d1.2,.string (bs [])] 53)) (w':=W8) (HV.out.keep fun b hb=>(heap_alloc_old _ _ (abh (hltV b hb) HX2.out.rw0.kept.size)).trans (HX2.out.rw0.kept.block b (hltV b hb))) (x:=(e4,d1,[])) (g:=g) (cap:=capn) (by rw[HXS.out] at hown8;exact hown8) hgr8 (hat8.imp id fun e=>abb e.symm)
   obtain⟨hP1,hP2⟩:=hP
   have hRE:=HH HX2.out.rw0 hltV hgr8 hoX (fun k hk=>aB W8 w.heap.size 8 k (.slice (some ⟨g,0,none⟩) (v.2.2.2.2.2.2.2.2.length+1) capn) hk) (aO _ _ _ _) rfl rfl (v':=fX v (e4,d1,[])) (aN W8 w.heap.size 8 _ _ _ _ hb8) hP1 hP2
   have HRE:Aside _:=hRE
   clear hRE hP1 hP2 p3 pf hb8 hown8 hgr8 hat8 hlt8
   refine jd (fun W=>RE w W (fX v (e4,d1,[])) (.slice ra rn rc) (.slice la ln lc) (.slice (some ⟨g,0,none⟩) (v.2.2.2.2.2.2.2.2.length+1) capn) L (aK (.slice ra rn rc) (.slice la ln lc) (.slice xa xn xc) L) bw (.slice (some ⟨b,off,none⟩) nW cap) (true&&f1==0)) HRE.out ?_
   generalize hokf:(true&&f1==0)=ok at*
   clear HRE
   intro W hE
   obtain⟨⟨p0,p1,p2,p3,p4,p5,p6,p7,p8⟩,_⟩:=ak hE.b0
   obtain⟨⟨q0,q1,q2,q3,q4,q5,q6,q7,q8⟩,qf⟩:=ak hE.b1
   have f0:=qf 0;have f1:=qf 1;have f2:=qf 2;have f3:=qf 3;have f4:=qf 4;have f5:=qf 5;have f6:=qf 6;have f7:=qf 7;have f8:=qf 8
   have o1:=(eG hE.box).1.2
   have n1:w.heap.size≠w.heap.size+1:=by omega
   have n2:bw≠w.heap.size+1:=by have:=hE.lt;omega
   have HE:Aside _:=hE
   have p0:W.cell? ⟨w.heap.size,0,none⟩=some (.string (bs v.1)):=p0
   have p1:W.cell? ⟨w.heap.size,1,none⟩=some (.string (bs v.2.1)):=p1
   have p2:W.cell? ⟨w.heap.size,2,none⟩=some (.int .i64 v.2.2.1):=p2
   have p3:W.cell? ⟨w.heap.size,3,none⟩=some (.int .i64 v.2.2.2.1):=p3
   have p4:W.cell? ⟨w.heap.size,4,none⟩=some (.int .i64 v.2.2.2.2.1):=p4
   have p5:W.cell? ⟨w.heap.size,5,none⟩=some (.bool v.2.2.2.2.2.1):=p5
   have p6:W.cell? ⟨w.heap.size,6,none⟩=some (.slice ra rn rc):=p6
   have p7:W.cell? ⟨w.heap.size,7,none⟩=some (.slice la ln lc):=p7
   have p8:W.cell? ⟨w.heap.size,8,none⟩=some (.slice (some ⟨g,0,none⟩) (v.2.2.2.2.2.2.2.2.length+1) capn):=p8
   clear hE
   go_region_held3 (fun W=>W.cell? ⟨w.heap.size,0,none⟩=some (.string (bs v.1))/\W.cell? ⟨w.heap.size,1,none⟩=some (.string (bs v.2.1))/\W.cell? ⟨w.heap.size,2,none⟩=some (.int .i64 v.2.2.1)/\W.cell? ⟨w.heap.size,3,none⟩=some (.int .i64 v.2.2.2.1)/\W.cell? ⟨w.heap.size,4,none⟩=some (.int .i64 v.2.2.2.2.1)/\W.cell? ⟨w.heap.size,5,none⟩=some (.bool v.2.2.2.2.2.1)/\W.cell? ⟨w.heap.size,6,none⟩=some (.slice ra rn rc)/\W.cell? ⟨w.heap.size,7,none⟩=some (.slice la ln lc)/\W.cell? ⟨w.heap.size,8,none⟩=some (.slice (some ⟨g,0,none⟩) (v.2.2.2.2.2.2.2.2.length+1) capn)/\W.cell? ⟨bw,1,none⟩=some (.bool ok)) (refine⟨?_, ?_, ?_, ?_, ?_, ?_, ?_, ?_, ?_, ?_⟩<;>(repeat (first | with_reducible assumption | with_reducible refine aQ ?_ | with_reducible refine dA n1 ?_ | with_reducible refine dA n2 ?_))) (fail)
   go_wp2
   obtain⟨s1,s2,s3,s4,s5⟩:=iZ (.string (bs v.1)) (.string (bs v.2.1)) (.int .i64 v.2.2.1) (.int .i64 v.2.2.2.1) (.int .i64 v.2.2.2.2.1) (.bool v.2.2.2.2.2.1) (.slice ra rn rc) (.slice la ln lc) (.slice (some ⟨g,0,none⟩) (v.2.2.2.2.2.2.2.2.length+1) capn) HE.out.b1
   refine bodyPost_ret (iO (p:=6) (q:=7) (ty:=26) (b:=w.heap.size+1) (v:= .agg (iJ (fX v (e4,d1,[])) (.slice ra rn rc) (.slice la ln lc) (.slice (some ⟨g,0,none⟩) (v.2.2.2.2.2.2.2.2.length+1) capn)).toArray) (by kernel_rfl) _ _ _ (by rfl) (mz s1)) rfl ?_
   exact kO HE.out (by rfl) (by rw[<- hokf];try rfl) s2 s3 s4 s5
  ·have hz:((bs x2).toList==([45]:List UInt8))=false:=by rw[fY];exact abH h45
   have hbare:zo x2=x2:=by unfold zo;rw[show (x2==[45])=false from abH h45];rfl
   have HBARE:Aside _:=hbare
   clear hbare
   have hnb:(Wz.alloc (.cells #[.bool e4,.int .i64 d1.1,.int .i64 d1.2,.string (bs x2)] 53)).heap[Wz.heap.size]? =some (.cells #[.bool e4,.int .i64 d1.1,.int .i64 d1.2,.string (bs x2)] 53 (0,0)):=heap_alloc_new _ _
   have HNB:Aside _:=hnb
   clear hnb
   go_wp2_with (at_builtin;refine wpList_append_lies _ rfl _ _ _ rfl 0 53 i0 _ 4 40 t24 hi0 hz0 hz1 hz2 rfl (by decide) (.slice xa xn xc) v.2.2.2.2.2.2.2.2.length xs rfl (hown HX.out.rw0.kept) ⟨Wz.heap.size,0,none⟩ 1 1 [.bool e4,.int .i64 d1.1,.int .i64 d1.2,.string (bs x2)] rfl rfl (World.news_of_block (cs:= #[.bool e4,.int .i64 d1.1,.int .i64 d1.2,.string (bs x2)]) (t:=53) (fr:=(0,0)) (by exact HNB.out)) (wO (e4,d1,x2)) (by decide) h63 hbytes (abw _) _ rfl ?_;intro g capn W8 hown8 hgr8 hat8 hlt8;have hb8:=kL hgr8 hvx HX.out.rw0.b0;have p3:=(ak hb8).1.2.2.2.2.2.2.2.2;have pf:=(ak hb8).2 8)
   have hP:=RV.CE (w:=(Wz).alloc (.cells #[.bool e4,.int .i64 d1.1,.int .i64 d1.2,.string (bs x2)] 53)) (w':=W8) (HV.out.keep fun b hb=>(heap_alloc_old _ _ (abh (hltV b hb) HX.out.rw0.kept.size)).trans (HX.out.rw0.kept.block b (hltV b hb))) (x:=(e4,d1,x2)) (g:=g) (cap:=capn) (by rw[HXS.out] at hown8;exact hown8) hgr8 (hat8.imp id fun e=>abb e.symm)
   obtain⟨hP1,hP2⟩:=hP
   have hRE:=HH HX.out.rw0 hltV hgr8 hoX (fun k hk=>aB W8 w.heap.size 8 k (.slice (some ⟨g,0,none⟩) (v.2.2.2.2.2.2.2.2.length+1) capn) hk) (aO _ _ _ _) rfl rfl (v':=fX v (e4,d1,x2)) (aN W8 w.heap.size 8 _ _ _ _ hb8) hP1 hP2
   have HRE:Aside _:=hRE
   clear hRE hP1 hP2 p3 pf hb8 hown8 hgr8 hat8 hlt8
   refine jd (fun W=>RE w W (fX v (e4,d1,x2)) (.slice ra rn rc) (.slice la ln lc) (.slice (some ⟨g,0,none⟩) (v.2.2.2.2.2.2.2.2.length+1) capn) L (aK (.slice ra rn rc) (.slice la ln lc) (.slice xa xn xc) L) bw (.slice (some ⟨b,off,none⟩) nW cap) (true&&f1==0)) HRE.out ?_
   generalize hokf:(true&&f1==0)=ok at*
   clear HRE
   intro W hE
   obtain⟨⟨p0,p1,p2,p3,p4,p5,p6,p7,p8⟩,_⟩:=ak hE.b0
   obtain⟨⟨q0,q1,q2,q3,q4,q5,q6,q7,q8⟩,qf⟩:=ak hE.b1
   have f0:=qf 0;have f1:=qf 1;have f2:=qf 2;have f3:=qf 3;have f4:=qf 4;have f5:=qf 5;have f6:=qf 6;have f7:=qf 7;have f8:=qf 8
   have o1:=(eG hE.box).1.2
   have n1:w.heap.size≠w.heap.size+1:=by omega
   have n2:bw≠w.heap.size+1:=by have:=hE.lt;omega
   have HE:Aside _:=hE
   have p0:W.cell? ⟨w.heap.size,0,none⟩=some (.string (bs v.1)):=p0
   have p1:W.cell? ⟨w.heap.size,1,none⟩=some (.string (bs v.2.1)):=p1
   have p2:W.cell? ⟨w.heap.size,2,none⟩=some (.int .i64 v.2.2.1):=p2
   have p3:W.cell? ⟨w.heap.size,3,none⟩=some (.int .i64 v.2.2.2.1):=p3
   have p4:W.cell? ⟨w.heap.size,4,none⟩=some (.int .i64 v.2.2.2.2.1):=p4
   have p5:W.cell? ⟨w.heap.size,5,none⟩=some (.bool v.2.2.2.2.2.1):=p5
   have p6:W.cell? ⟨w.heap.size,6,none⟩=some (.slice ra rn rc):=p6
   have p7:W.cell? ⟨w.heap.size,7,none⟩=some (.slice la ln lc):=p7
   have p8:W.cell? ⟨w.heap.size,8,none⟩=some (.slice (some ⟨g,0,none⟩) (v.2.2.2.2.2.2.2.2.length+1) capn):=p8
   clear hE
   go_region_held3 (fun W=>W.cell? ⟨w.heap.size,0,none⟩=some (.string (bs v.1))/\W.cell? ⟨w.heap.size,1,none⟩=some (.string (bs v.2.1))/\W.cell? ⟨w.heap.size,2,none⟩=some (.int .i64 v.2.2.1)/\W.cell? ⟨w.heap.size,3,none⟩=some (.int .i64 v.2.2.2.1)/\W.cell? ⟨w.heap.size,4,none⟩=some (.int .i64 v.2.2.2.2.1)/\W.cell? ⟨w.heap.size,5,none⟩=some (.bool v.2.2.2.2.2.1)/\W.cell? ⟨w.heap.size,6,none⟩=some (.slice ra rn rc)/\W.cell? ⟨w.heap.size,7,none⟩=some (.slice la ln lc)/\W.cell? ⟨w.heap.size,8,none⟩=some (.slice (some ⟨g,0,none⟩) (v.2.2.2.2.2.2.2.2.length+1) capn)/\W.cell? ⟨bw,1,none⟩=some (.bool ok)) (refine⟨?_, ?_, ?_, ?_, ?_, ?_, ?_, ?_, ?_, ?_⟩<;>(repeat (first | with_reducible assumption | with_reducible refine aQ ?_ | with_reducible refine dA n1 ?_ | with_reducible refine dA n2 ?_))) (fail)
   go_wp2
   obtain⟨s1,s2,s3,s4,s5⟩:=iZ (.string (bs v.1)) (.string (bs v.2.1)) (.int .i64 v.2.2.1) (.int .i64 v.2.2.2.1) (.int .i64 v.2.2.2.2.1) (.bool v.2.2.2.2.2.1) (.slice ra rn rc) (.slice la ln lc) (.slice (some ⟨g,0,none⟩) (v.2.2.2.2.2.2.2.2.length+1) capn) HE.out.b1
   refine bodyPost_ret (iO (p:=6) (q:=7) (ty:=26) (b:=w.heap.size+1) (v:= .agg (iJ (fX v (e4,d1,x2)) (.slice ra rn rc) (.slice la ln lc) (.slice (some ⟨g,0,none⟩) (v.2.2.2.2.2.2.2.2.length+1) capn)).toArray) (by kernel_rfl) _ _ _ (by rfl) (mz s1)) rfl ?_
   exact kO HE.out (by rfl) (by rw[<- hokf,HBARE.out];try rfl) s2 s3 s4 s5
 ·go_simp
  refine hK.out _ _ ?_ (fun hHeld=> ?_)
  ·(try dsimp only);((refine⟨?_, ?_⟩<;>(repeat (first | with_reducible assumption | with_reducible refine aQ ?_ | with_reducible refine aM ?_))))
  clear hK K
  try simp only[Act.put,aaK,aaM,aaL]
  refine cc (i:=0) rfl (by kernel_rfl) (fun K hK=> ?_)
  go_simp
  (go_at_fn 51;refine Calls.mono (wZ (G:=G2) (i:=1) (n:=nW) (cap:=cap) (b:=b) (off:=off) (by exact HAA.out) hT2 (by exact HRA.out.box) (by omega) hWl (by exact HCA.out 1 x1 hx1) hd1) ?_;rintro e X1 ⟨rfl,hwd⟩;have hwd1:Wd bw (.slice (some ⟨b,off,none⟩) nW cap) _ (X0.alloc (.cells #[.bool false,.int .i64 0,.int .i64 0,.string ⟨#[]⟩] 53)) X1:=⟨hwd.size,hwd.os,hwd.output,hwd.keep,hwd.box⟩;clear hwd;have hR1:=HRA.out.wd hwd1;have u1:=(eG hR1.box).1.1;have c1:=hwd1.cell hbb (HCA.out 2 x2 hx2);have HR1:Aside _:=hR1;have HW1:Aside _:=hwd1;clear hR1 hwd1)
  refine hK.out _ _ ?_ (fun hHeld=> ?_)
  ·(try dsimp only);((refine⟨?_, ?_⟩<;>(repeat (first | with_reducible assumption | with_reducible refine aQ ?_ | with_reducible refine aM ?_))))
  clear hK K
  try simp only[Act.put,aaK,aaM,aaL]
  refine tk 9 ?_
  refine wpAnyH_done (by kernel_rfl) ?_ _
  refine mS (fun K hK=> ?_)
  have hy1:=(HW1.out.keep X0.heap.size (by show _<(X0.heap.push _).size;rw[YU];omega) (abq hltX)).trans HNA.out.1
  obtain⟨⟨m0,m1,m2,m3⟩,mf⟩:=Ab hy1
  have mf0:=mf 0;have mf1:=mf 1;have mf2:=mf 2;have mf3:=mf 3
  go_simp
  refine hK.out _ _ (NoPanic.normal ?_)
  clear hK K
  obtain⟨s1,s2,s3⟩:=YF (.bool e4) (.int .i64 d1.1) (.int .i64 d1.2) (.string (bs x2)) hy1
  obtain⟨s4,s5⟩:=Yw (.bool e4) (.int .i64 d1.1) (.int .i64 d1.2) (.string (bs x2)) hy1
  have hX:RX w ((((X1.setCell ⟨X0.heap.size,0,none⟩ (.bool e4)).setCell ⟨X0.heap.size,1,none⟩ (.int .i64 d1.1)).setCell ⟨X0.heap.size,2,none⟩ (.int .i64 d1.2)).setCell ⟨X0.heap.size,3,none⟩ (.string (bs x2))) v (.slice ra rn rc) (.slice la ln lc) (.slice xa xn xc) bw (.slice (some ⟨b,off,none⟩) nW cap) (true&&f1==0) X0.heap.size (e4,d1,x2):=⟨HR1.out.far s2 s3 s4 s5 (by have h1:=HR1.out.lt;omega) (abq hltX),s1,by have h1:=HR1.out.lt;omega,abq hltX⟩
  generalize (((X1.setCell ⟨X0.heap.size,0,none⟩ (.bool e4)).setCell ⟨X0.heap.size,1,none⟩ (.int .i64 d1.1)).setCell ⟨X0.heap.size,2,none⟩ (.int .i64 d1.2)).setCell ⟨X0.heap.size,3,none⟩ (.string (bs x2))=Wz at hX ⊢
  clear hy1 m0 m1 m2 m3 mf mf0 mf1 mf2 mf3 s1 s2 s3 s4 s5 hltX
  generalize X0.heap.size=y at hX ⊢
  have HX:Aside _:=hX
  clear hX u1 c1 u0 c2_0 ua ca HR0 HC0 HA0 HRA HCA HAA HNA HR1 HW1
  obtain⟨xs,hxs⟩:∃ xs:List Value,xs=v.2.2.2.2.2.2.2.2.flatMap qw:=⟨_,rfl⟩
  have HXS:Aside _:=hxs
  have hown:∀ {W:World} {o:Obj},Kept w W->(W.alloc o).ownsRow 0 53 4 (.slice xa xn xc) v.2.2.2.2.2.2.2.2.length xs:=fun {W o} hk=>by
   rw[hxs]
   exact bV HV.out.ext fun g hg=>(heap_alloc_old _ _ (abh (bT HV.out.ext hg) hk.size)).trans (hk.block g (bT HV.out.ext hg))
  have hoX:∀ b,(Value.slice xa xn xc).ownBlock=some b->b∈aK (.slice ra rn rc) (.slice la ln lc) (.slice xa xn xc) L:=fun b hb=>bC.2 (.inr (.inl hb))
  have hvx:some w.heap.size≠(Value.slice xa xn xc).ownBlock:=fun e=>by have:=hltV _ (hoX _ e.symm);omega
  obtain⟨i0,hi0,hz0,hz1,hz2⟩:=info_parts FX
  have h63:v.2.2.2.2.2.2.2.2.length+1<=maxLen:=by simp only[maxLen];omega
  have hbytes:(v.2.2.2.2.2.2.2.2.length+1)*40<=140737488355328:=by omega
  clear hxs
  have hyw:y≠w.heap.size:=by have:=HX.out.ylt;omega
  have hyw2:w.heap.size≠y:=Ne.symm hyw
  have r0:=(ak HX.out.rw0.b0).1.2.2.2.2.2.2.2.2
  obtain⟨⟨y0,y1,y2,y3⟩,yf⟩:=Ab HX.out.ext
  have yf3:=yf 3
  by_cases h45:x2=[45]
  ·subst h45
   have hz:((bs ([45]:List UInt8)).toList==([45]:List UInt8))=true:=by rw[fY];rfl
   have HXS2:=Vu HX.out
   have HX2:Aside _:=HXS2
   clear HXS2
   have hgy:=(Ab HX2.out.ext).1
   obtain⟨gy0,gy1,gy2,gy3⟩:=hgy
   have gr0:=(ak HX2.out.rw0.b0).1.2.2.2.2.2.2.2.2
   have hnb:((Wz.setCell ⟨y,3,none⟩ (.string (bs []))).alloc (.cells #[.bool e4,.int .i64 d1.1,.int .i64 d1.2,.string (bs [])] 53)).heap[Wz.heap.size]? =some (.cells #[.bool e4,.int .i64 d1.1,.int .i64 d1.2,.string (bs [])] 53 (0,0)):=by
    rw[<- aO Wz y 3 (.string (bs []))]
    exact heap_alloc_new _ _
   have HNB:Aside _:=hnb
   clear hnb
   go_wp2_with (at_builtin;refine wpList_append_lies _ rfl _ _ _ rfl 0 53 i0 _ 4 40 t24 hi0 hz0 hz1 hz2 rfl (by decide) (.slice xa xn xc) v.2.2.2.2.2.2.2.2.length xs rfl (hown HX2.out.rw0.kept) ⟨Wz.heap.size,0,none⟩ 1 1 [.bool e4,.int .i64 d1.1,.int .i64 d1.2,.string (bs [])] rfl rfl (World.news_of_block (cs:= #[.bool e4,.int .i64 d1.1,.int .i64 d1.2,.string (bs [])]) (t:=53) (fr:=(0,0)) (by exact HNB.out)) (wO (e4,d1,[])) (by decide) h63 hbytes (abw _) _ rfl ?_;intro g capn W8 hown8 hgr8 hat8 hlt8;have hb8:=kL hgr8 hvx HX2.out.rw0.b0;have p3:=(ak hb8).1.2.2.2.2.2.2.2.2;have pf:=(ak hb8).2 8)
   have hP:=RV.CE (w:=(Wz.setCell ⟨y,3,none⟩ (.string (bs []))).alloc (.cells #[.bool e4,.int .i64 d1.1,.int .i64 d1.2,.string (bs [])] 53)) (w':=W8) (HV.out.keep fun b hb=>(heap_alloc_old _ _ (abh (hltV b hb) HX2.out.rw0.kept.size)).trans (HX2.out.rw0.kept.block b (hltV b hb))) (x:=(e4,d1,[])) (g:=g) (cap:=capn) (by rw[HXS.out] at hown8;exact hown8) hgr8 (hat8.imp id fun e=>abb e.symm)
   obtain⟨hP1,hP2⟩:=hP
   have hRE:=HH HX2.out.rw0 hltV hgr8 hoX (fun k hk=>aB W8 w.heap.size 8 k (.slice (some ⟨g,0,none⟩) (v.2.2.2.2.2.2.2.2.length+1) capn) hk) (aO _ _ _ _) rfl rfl (v':=fX v (e4,d1,[])) (aN W8 w.heap.size 8 _ _ _ _ hb8) hP1 hP2
   have HRE:Aside _:=hRE
   clear hRE hP1 hP2 p3 pf hb8 hown8 hgr8 hat8 hlt8
   refine jd (fun W=>RE w W (fX v (e4,d1,[])) (.slice ra rn rc) (.slice la ln lc) (.slice (some ⟨g,0,none⟩) (v.2.2.2.2.2.2.2.2.length+1) capn) L (aK (.slice ra rn rc) (.slice la ln lc) (.slice xa xn xc) L) bw (.slice (some ⟨b,off,none⟩) nW cap) (true&&f1==0)) HRE.out ?_
   generalize hokf:(true&&f1==0)=ok at*
   clear HRE
   intro W hE
   obtain⟨⟨p0,p1,p2,p3,p4,p5,p6,p7,p8⟩,_⟩:=ak hE.b0
   obtain⟨⟨q0,q1,q2,q3,q4,q5,q6,q7,q8⟩,qf⟩:=ak hE.b1
   have f0:=qf 0;have f1:=qf 1;have f2:=qf 2;have f3:=qf 3;have f4:=qf 4;have f5:=qf 5;have f6:=qf 6;have f7:=qf 7;have f8:=qf 8
   have o1:=(eG hE.box).1.2
   have n1:w.heap.size≠w.heap.size+1:=by omega
   have n2:bw≠w.heap.size+1:=by have:=hE.lt;omega
   have HE:Aside _:=hE
   have p0:W.cell? ⟨w.heap.size,0,none⟩=some (.string (bs v.1)):=p0
   have p1:W.cell? ⟨w.heap.size,1,none⟩=some (.string (bs v.2.1)):=p1
   have p2:W.cell? ⟨w.heap.size,2,none⟩=some (.int .i64 v.2.2.1):=p2
   have p3:W.cell? ⟨w.heap.size,3,none⟩=some (.int .i64 v.2.2.2.1):=p3
   have p4:W.cell? ⟨w.heap.size,4,none⟩=some (.int .i64 v.2.2.2.2.1):=p4
   have p5:W.cell? ⟨w.heap.size,5,none⟩=some (.bool v.2.2.2.2.2.1):=p5
   have p6:W.cell? ⟨w.heap.size,6,none⟩=some (.slice ra rn rc):=p6
   have p7:W.cell? ⟨w.heap.size,7,none⟩=some (.slice la ln lc):=p7
   have p8:W.cell? ⟨w.heap.size,8,none⟩=some (.slice (some ⟨g,0,none⟩) (v.2.2.2.2.2.2.2.2.length+1) capn):=p8
   clear hE
   go_region_held3 (fun W=>W.cell? ⟨w.heap.size,0,none⟩=some (.string (bs v.1))/\W.cell? ⟨w.heap.size,1,none⟩=some (.string (bs v.2.1))/\W.cell? ⟨w.heap.size,2,none⟩=some (.int .i64 v.2.2.1)/\W.cell? ⟨w.heap.size,3,none⟩=some (.int .i64 v.2.2.2.1)/\W.cell? ⟨w.heap.size,4,none⟩=some (.int .i64 v.2.2.2.2.1)/\W.cell? ⟨w.heap.size,5,none⟩=some (.bool v.2.2.2.2.2.1)/\W.cell? ⟨w.heap.size,6,none⟩=some (.slice ra rn rc)/\W.cell? ⟨w.heap.size,7,none⟩=some (.slice la ln lc)/\W.cell? ⟨w.heap.size,8,none⟩=some (.slice (some ⟨g,0,none⟩) (v.2.2.2.2.2.2.2.2.length+1) capn)/\W.cell? ⟨bw,1,none⟩=some (.bool ok)) (refine⟨?_, ?_, ?_, ?_, ?_, ?_, ?_, ?_, ?_, ?_⟩<;>(repeat (first | with_reducible assumption | with_reducible refine aQ ?_ | with_reducible refine dA n1 ?_ | with_reducible refine dA n2 ?_))) (fail)
   go_wp2
   obtain⟨s1,s2,s3,s4,s5⟩:=iZ (.string (bs v.1)) (.string (bs v.2.1)) (.int .i64 v.2.2.1) (.int .i64 v.2.2.2.1) (.int .i64 v.2.2.2.2.1) (.bool v.2.2.2.2.2.1) (.slice ra rn rc) (.slice la ln lc) (.slice (some ⟨g,0,none⟩) (v.2.2.2.2.2.2.2.2.length+1) capn) HE.out.b1
   refine bodyPost_ret (iO (p:=6) (q:=7) (ty:=26) (b:=w.heap.size+1) (v:= .agg (iJ (fX v (e4,d1,[])) (.slice ra rn rc) (.slice la ln lc) (.slice (some ⟨g,0,none⟩) (v.2.2.2.2.2.2.2.2.length+1) capn)).toArray) (by kernel_rfl) _ _ _ (by rfl) (mz s1)) rfl ?_
   exact kO HE.out (by rfl) (by rw[<- hokf];try rfl) s2 s3 s4 s5
  ·have hz:((bs x2).toList==([45]:List UInt8))=false:=by rw[fY];exact abH h45
   have hbare:zo x2=x2:=by unfold zo;rw[show (x2==[45])=false from abH h45];rfl
   have HBARE:Aside _:=hbare
   clear hbare
   have hnb:(Wz.alloc (.cells #[.bool e4,.int .i64 d1.1,.int .i64 d1.2,.string (bs x2)] 53)).heap[Wz.heap.size]? =some (.cells #[.bool e4,.int .i64 d1.1,.int .i64 d1.2,.string (bs x2)] 53 (0,0)):=heap_alloc_new _ _
   have HNB:Aside _:=hnb
   clear hnb
   go_wp2_with (at_builtin;refine wpList_append_lies _ rfl _ _ _ rfl 0 53 i0 _ 4 40 t24 hi0 hz0 hz1 hz2 rfl (by decide) (.slice xa xn xc) v.2.2.2.2.2.2.2.2.length xs rfl (hown HX.out.rw0.kept) ⟨Wz.heap.size,0,none⟩ 1 1 [.bool e4,.int .i64 d1.1,.int .i64 d1.2,.string (bs x2)] rfl rfl (World.news_of_block (cs:= #[.bool e4,.int .i64 d1.1,.int .i64 d1.2,.string (bs x2)]) (t:=53) (fr:=(0,0)) (by exact HNB.out)) (wO (e4,d1,x2)) (by decide) h63 hbytes (abw _) _ rfl ?_;intro g capn W8 hown8 hgr8 hat8 hlt8;have hb8:=kL hgr8 hvx HX.out.rw0.b0;have p3:=(ak hb8).1.2.2.2.2.2.2.2.2;have pf:=(ak hb8).2 8)
   have hP:=RV.CE (w:=(Wz).alloc (.cells #[.bool e4,.int .i64 d1.1,.int .i64 d1.2,.string (bs x2)] 53)) (w':=W8) (HV.out.keep fun b hb=>(heap_alloc_old _ _ (abh (hltV b hb) HX.out.rw0.kept.size)).trans (HX.out.rw0.kept.block b (hltV b hb))) (x:=(e4,d1,x2)) (g:=g) (cap:=capn) (by rw[HXS.out] at hown8;exact hown8) hgr8 (hat8.imp id fun e=>abb e.symm)
   obtain⟨hP1,hP2⟩:=hP
   have hRE:=HH HX.out.rw0 hltV hgr8 hoX (fun k hk=>aB W8 w.heap.size 8 k (.slice (some ⟨g,0,none⟩) (v.2.2.2.2.2.2.2.2.length+1) capn) hk) (aO _ _ _ _) rfl rfl (v':=fX v (e4,d1,x2)) (aN W8 w.heap.size 8 _ _ _ _ hb8) hP1 hP2
   have HRE:Aside _:=hRE
   clear hRE hP1 hP2 p3 pf hb8 hown8 hgr8 hat8 hlt8
   refine jd (fun W=>RE w W (fX v (e4,d1,x2)) (.slice ra rn rc) (.slice la ln lc) (.slice (some ⟨g,0,none⟩) (v.2.2.2.2.2.2.2.2.length+1) capn) L (aK (.slice ra rn rc) (.slice la ln lc) (.slice xa xn xc) L) bw (.slice (some ⟨b,off,none⟩) nW cap) (true&&f1==0)) HRE.out ?_
   generalize hokf:(true&&f1==0)=ok at*
   clear HRE
   intro W hE
   obtain⟨⟨p0,p1,p2,p3,p4,p5,p6,p7,p8⟩,_⟩:=ak hE.b0
   obtain⟨⟨q0,q1,q2,q3,q4,q5,q6,q7,q8⟩,qf⟩:=ak hE.b1
   have f0:=qf 0;have f1:=qf 1;have f2:=qf 2;have f3:=qf 3;have f4:=qf 4;have f5:=qf 5;have f6:=qf 6;have f7:=qf 7;have f8:=qf 8
   have o1:=(eG hE.box).1.2
   have n1:w.heap.size≠w.heap.size+1:=by omega
   have n2:bw≠w.heap.size+1:=by have:=hE.lt;omega
   have HE:Aside _:=hE
   have p0:W.cell? ⟨w.heap.size,0,none⟩=some (.string (bs v.1)):=p0
   have p1:W.cell? ⟨w.heap.size,1,none⟩=some (.string (bs v.2.1)):=p1
   have p2:W.cell? ⟨w.heap.size,2,none⟩=some (.int .i64 v.2.2.1):=p2
   have p3:W.cell? ⟨w.heap.size,3,none⟩=some (.int .i64 v.2.2.2.1):=p3
   have p4:W.cell? ⟨w.heap.size,4,none⟩=some (.int .i64 v.2.2.2.2.1):=p4
   have p5:W.cell? ⟨w.heap.size,5,none⟩=some (.bool v.2.2.2.2.2.1):=p5
   have p6:W.cell? ⟨w.heap.size,6,none⟩=some (.slice ra rn rc):=p6
   have p7:W.cell? ⟨w.heap.size,7,none⟩=some (.slice la ln lc):=p7
   have p8:W.cell? ⟨w.heap.size,8,none⟩=some (.slice (some ⟨g,0,none⟩) (v.2.2.2.2.2.2.2.2.length+1) capn):=p8
   clear hE
   go_region_held3 (fun W=>W.cell? ⟨w.heap.size,0,none⟩=some (.string (bs v.1))/\W.cell? ⟨w.heap.size,1,none⟩=some (.string (bs v.2.1))/\W.cell? ⟨w.heap.size,2,none⟩=some (.int .i64 v.2.2.1)/\W.cell? ⟨w.heap.size,3,none⟩=some (.int .i64 v.2.2.2.1)/\W.cell? ⟨w.heap.size,4,none⟩=some (.int .i64 v.2.2.2.2.1)/\W.cell? ⟨w.heap.size,5,none⟩=some (.bool v.2.2.2.2.2.1)/\W.cell? ⟨w.heap.size,6,none⟩=some (.slice ra rn rc)/\W.cell? ⟨w.heap.size,7,none⟩=some (.slice la ln lc)/\W.cell? ⟨w.heap.size,8,none⟩=some (.slice (some ⟨g,0,none⟩) (v.2.2.2.2.2.2.2.2.length+1) capn)/\W.cell? ⟨bw,1,none⟩=some (.bool ok)) (refine⟨?_, ?_, ?_, ?_, ?_, ?_, ?_, ?_, ?_, ?_⟩<;>(repeat (first | with_reducible assumption | with_reducible refine aQ ?_ | with_reducible refine dA n1 ?_ | with_reducible refine dA n2 ?_))) (fail)
   go_wp2
   obtain⟨s1,s2,s3,s4,s5⟩:=iZ (.string (bs v.1)) (.string (bs v.2.1)) (.int .i64 v.2.2.1) (.int .i64 v.2.2.2.1) (.int .i64 v.2.2.2.2.1) (.bool v.2.2.2.2.2.1) (.slice ra rn rc) (.slice la ln lc) (.slice (some ⟨g,0,none⟩) (v.2.2.2.2.2.2.2.2.length+1) capn) HE.out.b1
   refine bodyPost_ret (iO (p:=6) (q:=7) (ty:=26) (b:=w.heap.size+1) (v:= .agg (iJ (fX v (e4,d1,x2)) (.slice ra rn rc) (.slice la ln lc) (.slice (some ⟨g,0,none⟩) (v.2.2.2.2.2.2.2.2.length+1) capn)).toArray) (by kernel_rfl) _ _ _ (by rfl) (mz s1)) rfl ?_
   exact kO HE.out (by rfl) (by rw[<- hokf,HBARE.out];try rfl) s2 s3 s4 s5
end Go.Proofs.SeatU
set_option maxRecDepth 100000
namespace Go.Proofs.SeatU
open Go.Dn Go.Md Go.Proofs Go.RowKit Go.Shelf Go.Lib
attribute [local go_sem ↓] Go.wp_at_zero Go.wp_at_succ
theorem XV {w Wc W8:World} {v v':aa} {vr vl ve u c:Value} {L L':List (ai×Value)} {bw go j:Nat} {ok:Bool} {o:Obj} {ow:Option Nat} (hRW:RW w Wc v vr vl ve bw u ok) (hlt:∀ b∈aK vr vl ve L,b<w.heap.size) (hgr:(Wc.alloc o).grownBy W8 ow) (how:∀ b,ow=some b->b∈aK vr vl ve L) (hgo:go∈aK vr vl ve L) (hv:v'.1=v.1/\v'.2.1=v.2.1/\v'.2.2.1=v.2.2.1/\v'.2.2.2.1=v.2.2.2.1/\v'.2.2.2.2.1=v.2.2.2.2.1/\v'.2.2.2.2.2.1=v.2.2.2.2.2.1) (hP1:RV (W8.setCell ⟨go,j,none⟩ c) v' vr vl ve L') (hP2:∀ b∈aK vr vl ve L',b∈aK vr vl ve L\/(Wc.alloc o).heap.size<=b):RE w (W8.setCell ⟨go,j,none⟩ c) v' vr vl ve L' (aK vr vl ve L) bw u ok:=by
 have hs:(Wc.alloc o).heap.size=Wc.heap.size+1:=YU _
 have hbwl:=aj hRW.box
 have h1:=hRW.lt
 have hk:∀ b,b<Wc.heap.size->b∉aK vr vl ve L->(W8.setCell ⟨go,j,none⟩ c).heap[b]? =Wc.heap[b]? :=fun b hb hn=>by
  have hne:b≠go:=fun e=>hn (e ▸ hgo)
  rw[aB _ _ _ _ _ hne,hgr.block b (by omega) (fun e=>hn (how b e.symm))]
  exact heap_alloc_old _ _ hb
 have hnb:∀ b,w.heap.size<=b->b∉aK vr vl ve L:=fun b hb hm=>by have:=hlt b hm;omega
 have hkw:=hRW.kept.size
 refine⟨?_,(hk _ (by omega) (hnb _ (by omega))).trans hRW.b1,(hk bw hbwl (hnb _ (by omega))).trans hRW.box,h1,⟨?_,hgr.os.trans hRW.kept.os,hgr.output.trans hRW.kept.output,fun b hb hn=>(hk b (by omega) hn).trans (hRW.kept.block b hb)⟩,hP1,fun b hb=> ?_⟩
 ·obtain⟨v1,v2,v3,v4,v5,v6⟩:=hv
  rw[v1,v2,v3,v4,v5,v6]
  exact (hk _ (by omega) (hnb _ (by omega))).trans hRW.b0
 ·have:=hgr.size
  rw[aO];omega
 ·rcases hP2 b hb with h | h
  ·have:=hlt b h
   exact⟨.inl h,by omega⟩
  ·exact⟨.inr (by omega),by omega⟩
set_option maxHeartbeats 8000000 in
theorem Wk (G:Gh) (w:World) (s:List UInt8) (Ws:List (List UInt8)) (v:aa) (ra:Option Addr) (rn rc go n0 capo:Nat) (xa:Option Addr) (xn xc:Nat) (L0:List (ai×Value)) (p:ai) (h:Value) (hG:Agr G w) (hT:bF Tryz.prog G) (hne:Ws≠[]) (nW:Nat) (hnW:Ws.length=nW) (hWl:nW<=1000000) (hm:strings_Split s [32]=some (Ws,())) (hc:bn Ws []=some (false,())) (hV:RV w v (.slice ra rn rc) (.slice (some ⟨go,0,none⟩) (n0+1) capo) (.slice xa xn xc) (L0++[(p,h)])) (hn0:L0.length=n0) (hL0:n0<=1000000) (hgb:∀ b∈aK (.slice ra rn rc) (.slice (some ⟨go,0,none⟩) (n0+1) capo) (.slice xa xn xc) (L0++[(p,h)]),G b=none) (hn:p.2.2.2.2.2.2.2.1.length<=1000000) (hi1:isW [114,97,116,101] 3 [] Ws=false) (hi2:isW [108,105,110,101] 9 [] Ws=false) (hi3:isW [101,120,116,114,97] 2 [112,101,114,99,101,110,116] Ws=true) (hx0:((xn:Int)==0)=true) (x1:List UInt8) (hx1:Ws[1]? =some x1) {d1:ah} {f1:Int} (hd1:gF x1=some (d1,f1,())) (e3:Bool) (h3:((nW:Int)==3)=e3): Calls Tryz.prog 15 #[.agg #[.string (bs v.1),.string (bs v.2.1),.int .i64 v.2.2.1,.int .i64 v.2.2.2.1,.int .i64 v.2.2.2.2.1,.bool v.2.2.2.2.2.1,.slice ra rn rc,.slice (some ⟨go,0,none⟩) (n0+1) capo,.slice xa xn xc],.string (bs s),.bool false] w fun e w'=>uc w w' (aK (.slice ra rn rc) (.slice (some ⟨go,0,none⟩) (n0+1) capo) (.slice xa xn xc) (L0++[(p,h)])) e (bif (true&&f1==0) then some (qi v (e3,d1,[])) else none):=by
 have e32:∀ args w,(callFunc 32 args).run Tryz.prog w= .ok (.enter 32 args) w:=enters_of Tryz.func32 (by kernel_rfl) rfl
 have e48:∀ args w,(callFunc 48 args).run Tryz.prog w= .ok (.enter 48 args) w:=enters_of Tryz.func48 (by kernel_rfl) rfl
 have e49:∀ args w,(callFunc 49 args).run Tryz.prog w= .ok (.enter 49 args) w:=enters_of Tryz.func49 (by kernel_rfl) rfl
 have e50:∀ args w,(callFunc 50 args).run Tryz.prog w= .ok (.enter 50 args) w:=enters_of Tryz.func50 (by kernel_rfl) rfl
 have e51:∀ args w,(callFunc 51 args).run Tryz.prog w= .ok (.enter 51 args) w:=enters_of Tryz.func51 (by kernel_rfl) rfl
 have mixed:Tryz.prog.follows .mixedOrders=true:=by kernel_rfl
 have late:Tryz.prog.follows .lateStores=true:=by kernel_rfl
 have t3:=Tryz.underlying3;have t4:=Tryz.underlying4;have t9:=Tryz.underlying9;have t26:=Tryz.underlying26;have a26:=Tryz.isAgg26;have z26:=Tryz.sizeOf26;have v26:=Tryz.zeroValue26;have t36:=Tryz.underlying36;have t100:=Tryz.underlying100;have a100:=Tryz.isAgg100;have z100:=Tryz.sizeOf100;have v100:=Tryz.zeroValue100;have t22:=Tryz.underlying22;have t23:=Tryz.underlying23;have t24:=Tryz.underlying24
 obtain⟨k1,k2,k3⟩:=kK w (.cells #[.string (bs v.1),.string (bs v.2.1),.int .i64 v.2.2.1,.int .i64 v.2.2.2.1,.int .i64 v.2.2.2.2.1,.bool v.2.2.2.2.2.1,.slice ra rn rc,.slice (some ⟨go,0,none⟩) (n0+1) capo,.slice xa xn xc] 26) (.cells #[.string ⟨#[]⟩,.string ⟨#[]⟩,.int .i64 0,.int .i64 0,.int .i64 0,.bool false,.slice none 0 0,.slice none 0 0,.slice none 0 0] 26)
 have hA0:Agr G ((w.alloc (.cells #[.string (bs v.1),.string (bs v.2.1),.int .i64 v.2.2.1,.int .i64 v.2.2.2.1,.int .i64 v.2.2.2.2.1,.bool v.2.2.2.2.2.1,.slice ra rn rc,.slice (some ⟨go,0,none⟩) (n0+1) capo,.slice xa xn xc] 26)).alloc (.cells #[.string ⟨#[]⟩,.string ⟨#[]⟩,.int .i64 0,.int .i64 0,.int .i64 0,.bool false,.slice none 0 0,.slice none 0 0,.slice none 0 0] 26)):=dy (dy hG _) _
 have a48:=Tryz.isAgg48;have z48:=Tryz.sizeOf48;have a53:=Tryz.isAgg53;have z53:=Tryz.sizeOf53;have t53:=Tryz.underlying53;have t52:=Tryz.underlying52;have a50:=Tryz.isAgg50;have z50:=Tryz.sizeOf50;have t49:=Tryz.underlying49;have t50:=Tryz.underlying50;have t93:=Tryz.underlying93
 have hsp:=kT s Ws hA0 hT hm
 have hmx:1<nW:=by rw[<- hnW];exact (Z9.1 hx1).1
 have j1:(1:Int)<(nW:Int):=by omega
 have jj:(nW:Int)<=1000000:=by omega
 have hn1:(0:Int)<=(n0:Int):=by omega
 have hn2:(n0:Int)<=1000000:=by omega
 have hn3:(n0:Int)<(n0:Int)+1:=by omega
 have hn4:(0:Int)<(n0:Int)+1:=by omega
 have hwr:IntKind.i64.wrap (n0:Int)=(n0:Int):=by rw[IntKind.wrap_i64];omega
 have hwr1:IntKind.i64.wrap ((n0:Int)+1 - 1)=(n0:Int):=by rw[IntKind.wrap_i64];omega
 have hltV:=hV.lt
 have HV:Aside _:=hV
 have HN0:Aside _:=hn0
 clear hn0
 go_enter Tryz.func15,Tryz.ntmps15
 go_wp2_with (first | (go_at_fn 32;refine hsp.mono ?_;rintro e W2 ⟨G2,u,rfl,hlv,hu⟩;obtain⟨b,off,cap,rfl,hcap,kC,hfz,hcell⟩:=eS hu hlv.agr hne;obtain⟨hRW,hct⟩:=yx (ok:=false) hlv k1 k2 k3 hT hu hc;rw[hnW] at hRW hct) | (go_at_fn 48;refine hct.mono ?_;rintro e W3 ⟨rfl,hk3⟩;have hR3:=hRW.keep hk3;have hc3:∀ i x,Ws[i]? =some x->W3.cell? ⟨b,off+i,none⟩=some (.string (bs x)):=fun i x hx=>cB hk3 (aM (hcell i x hx));obtain⟨⟨p0,p1,p2,p3,p4,p5,p6,p7,p8⟩,_⟩:=ak hR3.b0) | (go_at_fn 49;first | (have hi:=ris (ok:=true) [101,120,116,114,97] [112,101,114,99,101,110,116] 2 (by rw[hnW];exact hR5.box) hne (by rw[hnW];exact hWl) (by decide) hc5;rw[hi3] at hi;refine hi.mono ?_;rintro e W6 ⟨rfl,hk6⟩;have hR6:=hR5.keep hk6;have hc6:=fun i x hx=>cB hk6 (hc5 i x hx);obtain⟨⟨cc0,cc1,cc2,cc3,cc4,cc5,cc6,cc7,cc8⟩,_⟩:=ak hR6.b0) | (have hi:=ris (ok:=true) [108,105,110,101] [] 9 (by rw[hnW];exact hR4.box) hne (by rw[hnW];exact hWl) (by decide) hc4;rw[hi2] at hi;refine hi.mono ?_;rintro e W5 ⟨rfl,hk5⟩;have hR5:=hR4.keep hk5;have hc5:=fun i x hx=>cB hk5 (hc4 i x hx);obtain⟨⟨bb0,bb1,bb2,bb3,bb4,bb5,bb6,bb7,bb8⟩,_⟩:=ak hR5.b0) | (have hi:=ris (ok:=true) [114,97,116,101] [] 3 (by rw[hnW];exact hR3.box) hne (by rw[hnW];exact hWl) (by decide) hc3;rw[hi1] at hi;refine hi.mono ?_;rintro e W4 ⟨rfl,hk4⟩;have hR4:=hR3.keep hk4;have hc4:=fun i x hx=>cB hk4 (hc3 i x hx);obtain⟨⟨aa0,aa1,aa2,aa3,aa4,aa5,aa6,aa7,aa8⟩,_⟩:=ak hR4.b0)))
 have hbb:b≠W2.heap.size:=by
  obtain⟨o,ho⟩:=hfz
  exact abr (aj (hlv.agr b o ho))
 have hgbw:G2 W2.heap.size=none:=by
  cases hg:G2 W2.heap.size with
  | none=>rfl
  | some o=>exact absurd (aj (hlv.agr _ o hg)) (abg _)
 have hT2:=hT.mono hlv.le
 have hAK:Agr G2 W6:=fun b o hb=>(((((((bH W2 _).2).trans hk3).trans hk4).trans hk5).trans hk6).block b (aj (hlv.agr b o hb))).trans (hlv.agr b o hb)
 refine jd (fun W=>RW w W v (.slice ra rn rc) (.slice (some ⟨go,0,none⟩) (n0+1) capo) (.slice xa xn xc) W2.heap.size (.slice (some ⟨b,off,none⟩) nW cap) true/\(∀ i x,Ws[i]? =some x->W.cell? ⟨b,off+i,none⟩=some (.string (bs x)))/\Agr G2 W) ⟨hR6,hc6,hAK⟩ ?_
 clear hAK hR3 hc3 hk3 hR4 hc4 hk4 hR5 hc5 hk5 hR6 hc6 hk6
 intro X0 ⟨hR0,hc0,hA0'⟩
 generalize hbw:W2.heap.size=bw at*
 have u0:=(eG hR0.box).1.1
 have r0:=(ak hR0.b0).1.2.2.2.2.2.2.2.1
 obtain⟨go',capo',hv2,_,hlc,hlf⟩:=Bi hV.nst
 have ego:go'=go:=by
  simp only[Value.slice.injEq,Option.some.injEq,Addr.mk.injEq] at hv2
  exact hv2.1.1.symm
 rw[ego,HN0.out] at hlc
 rw[ego] at hlf
 have hgoX:go∈aK (.slice ra rn rc) (.slice (some ⟨go,0,none⟩) (n0+1) capo) (.slice xa xn xc) (L0++[(p,h)]):=bC.2 (.inr (.inr (aav.2 (.inl (by simp[Value.ownBlock])))))
 have hgol:=hltV go hgoX
 have cw0:w.cell? ⟨go,n0*11+9,none⟩=some h:=hlc 9 h rfl
 have g0:X0.cell? ⟨go,n0*11+9,none⟩=some h:=cB hR0.kept cw0
 have fw0:w.frozen? ⟨go,n0*11+9,none⟩=false:=hlf _
 have HFW:Aside _:=fw0
 have HCW:Aside _:=cw0
 have HR0:Aside _:=hR0
 have HC0:Aside _:=hc0
 have HA0:Aside _:=hA0'
 obtain⟨xs,hxs⟩:∃ xs:List Value,xs=p.2.2.2.2.2.2.2.1.flatMap qw:=⟨_,rfl⟩
 obtain⟨m0,hm0⟩:∃ m0,m0=p.2.2.2.2.2.2.2.1.length:=⟨_,rfl⟩
 have HXS:Aside _:=hxs
 have HM0:Aside _:=hm0
 have hrow:w.ownsRow 0 53 4 h m0 xs:=by
  rw[hxs,hm0]
  exact hV.nst.inn (p,h) (by simp)
 have HRO:Aside _:=hrow
 have hown:∀ {W:World} {o:Obj},Kept w W->(W.alloc o).ownsRow 0 53 4 h m0 xs:=fun {W o} hk=>bV HRO.out fun g hg=>(heap_alloc_old _ _ (abh (bT HRO.out hg) hk.size)).trans (hk.block g (bT HRO.out hg))
 have hhm:∀ g,h.ownBlock=some g->g∈fy (.slice (some ⟨go,0,none⟩) (n0+1) capo) (L0++[(p,h)]):=fun g hg=>aav.2 (.inr (by rw[ZR];exact aav.2 (.inr (by simp[hg]))))
 have hoX:∀ b,h.ownBlock=some b->b∈aK (.slice ra rn rc) (.slice (some ⟨go,0,none⟩) (n0+1) capo) (.slice xa xn xc) (L0++[(p,h)]):=fun b hb=>bC.2 (.inr (.inr (hhm b hb)))
 have hvx:some w.heap.size≠h.ownBlock:=fun e=>by have:=hltV _ (hoX _ e.symm);omega
 have hvg:some go≠h.ownBlock:=fun e=>by
  have hdis:=hV.nst.dis
  unfold fy at hdis
  rw[ZR] at hdis
  have h2:=(aaG.1 hdis).2.2 go (by simp[Value.ownBlock]) go (aav.2 (.inr (by simp[<- e])))
  exact h2 rfl
 have HVW:Aside (some bw≠h.ownBlock):=fun e=>by
  have h1:=hltV _ (hoX _ e.symm)
  have h2:=HR0.out.lt
  omega
 have hgbw2:go≠bw:=by have:=HR0.out.lt;omega
 obtain⟨i0,hi0,hz0,hz1,hz2⟩:=info_parts FX
 have h63:m0+1<=maxLen:=by rw[hm0];simp only[maxLen];omega
 have hbytes:(m0+1)*40<=140737488355328:=by rw[hm0];omega
 clear hRW hct hu hsp hA0 hlv hcell k1 k2 k3 hfz hG hV hR0 hc0 hA0' hm hc hi1 hi2 hi3 hgb hxs hm0 hrow hlc hlf hv2 ego cw0 fw0 hhm
 refine wp_region_noPanic ?_
 refine fU (n:=21) (S:=(fun W=>W.cell? ⟨w.heap.size,7,none⟩=some (.slice (some ⟨go,0,none⟩) (n0+1) capo)/\W.cell? ⟨bw,0,none⟩=some (.slice (some ⟨b,off,none⟩) nW cap)/\W.cell? ⟨go,n0*11+9,none⟩=some h)) mixed (by (simp only[aaR,aaT];try rfl)) rfl rfl (by kernel_rfl) ?_ (fun hHeld=> ?_)
 ·(try dsimp only);((refine⟨?_, ?_, ?_⟩<;>(repeat (first | with_reducible assumption | with_reducible refine aM ?_ | with_reducible refine aQ ?_ | with_reducible refine ay hgr8 ?_ hvx | with_reducible refine ay hgr8 ?_ hvg | with_reducible refine ay hgr8 ?_ hvw))))
 refine tk 0 ?_
 refine tk 1 ?_
 refine tk 2 ?_
 refine tk 3 ?_
 refine tk 4 ?_
 refine tk 5 ?_
 refine tk 6 ?_
 refine tk 7 ?_
 refine tk 8 ?_
 refine tk 9 ?_
 refine tk 10 ?_
 refine tk 12 ?_
 refine tk 13 ?_
 refine tk 14 ?_
 refine tk 15 ?_
 refine cc (i:=11) rfl (by kernel_rfl) (fun K hK=> ?_)
 go_simp
 (go_at_fn 51;refine Calls.mono (wZ (G:=G2) (i:=1) (n:=nW) (cap:=cap) (b:=b) (off:=off) (by exact HA0.out) hT2 (by exact HR0.out.box) (by omega) hWl (by exact HC0.out 1 x1 hx1) hd1) ?_;rintro e X1 ⟨rfl,hwd⟩;have hwd1:Wd bw (.slice (some ⟨b,off,none⟩) nW cap) _ X0 X1:=⟨hwd.size,hwd.os,hwd.output,hwd.keep,hwd.box⟩;clear hwd;have hR1:=HR0.out.wd hwd1;have u1:=(eG hR1.box).1.1;have r1:=(ak hR1.b0).1.2.2.2.2.2.2.2.1;have g1:=hwd1.cell hgbw2 g0;have HR1:Aside _:=hR1;clear hR1 hwd1)
 refine hK.out _ _ ?_ (fun hHeld=> ?_)
 ·(try dsimp only);((refine⟨?_, ?_, ?_⟩<;>(repeat (first | with_reducible assumption | with_reducible refine aM ?_ | with_reducible refine aQ ?_ | with_reducible refine ay hgr8 ?_ hvx | with_reducible refine ay hgr8 ?_ hvg | with_reducible refine ay hgr8 ?_ hvw))))
 clear hK K
 try simp only[Act.put,aaK,aaM,aaL]
 refine tk 16 ?_
 refine cc (i:=17) rfl (by kernel_rfl) (fun K hK=> ?_)
 go_simp
 refine hK.out _ _ ?_ (fun hHeld=> ?_)
 ·(try dsimp only);((refine⟨?_, ?_, ?_⟩<;>(repeat (first | with_reducible assumption | with_reducible refine aM ?_ | with_reducible refine aQ ?_ | with_reducible refine ay hgr8 ?_ hvx | with_reducible refine ay hgr8 ?_ hvg | with_reducible refine ay hgr8 ?_ hvw))))
 clear hK K
 try simp only[Act.put,aaK,aaM,aaL]
 refine cc (i:=18) rfl (by kernel_rfl) (fun K hK=> ?_)
 (have hvw:some bw≠h.ownBlock:=HVW.out;refine step_append_lies _ (by rfl) _ _ _ (by rfl) 0 53 i0 _ 4 40 t24 hi0 hz0 hz1 hz2 rfl (by omega) h m0 xs (by rfl) (hown HR1.out.kept) ⟨X1.heap.size,0,none⟩ 1 1 [.bool e3,.int .i64 d1.1,.int .i64 d1.2,.string (bs [])] (by rfl) (by rfl) (World.news_of_block (cs:= #[.bool e3,.int .i64 d1.1,.int .i64 d1.2,.string (bs [])]) (t:=53) (fr:=(0,0)) (heap_alloc_new X1 _)) (wO (e3,d1,[])) (by omega) h63 hbytes (abw _) (X1.heap.size+1) (by simp) ?_;intro g capn W8 hown8 hgr8 hat8 hlt8;have hgl:go<X1.heap.size:=abh hgol HR1.out.kept.size;have hb8:W8.heap[go]? =w.heap[go]? :=((hgr8.block go (abh hgl (bH X1 _).2.size) hvg).trans (heap_alloc_old _ _ hgl)).trans (HR1.out.kept.block go hgol);have p3:W8.cell? ⟨go,n0*11+9,none⟩=some h:=(World.cell?_of_block (a:=⟨go,n0*11+9,none⟩) hb8).trans HCW.out;have pf:W8.frozen? ⟨go,n0*11+9,none⟩=false:=(World.frozen?_of_block (a:=⟨go,n0*11+9,none⟩) hb8).trans HFW.out)
 refine hK.out _ _ ?_ (fun hHeld=> ?_)
 ·(try dsimp only);((refine⟨?_, ?_, ?_⟩<;>(repeat (first | with_reducible assumption | with_reducible refine aM ?_ | with_reducible refine aQ ?_ | with_reducible refine ay hgr8 ?_ hvx | with_reducible refine ay hgr8 ?_ hvg | with_reducible refine ay hgr8 ?_ hvw))))
 clear hK K
 try simp only[Act.put,aaK,aaM,aaL]
 refine tk 19 ?_
 refine tk 20 ?_
 refine wpAnyH_done (by kernel_rfl) ?_ _
 refine mS (fun K hK=> ?_)
 go_simp
 refine hK.out _ _ (NoPanic.normal ?_)
 clear hK K
 have hP:=RV.Se (w:=X1.alloc (.cells #[.bool e3,.int .i64 d1.1,.int .i64 d1.2,.string (bs [])] 53)) (w1:=W8) (HV.out.keep fun b hb=>(heap_alloc_old _ _ (abh (hltV b hb) HR1.out.kept.size)).trans (HR1.out.kept.block b (hltV b hb))) (x:=(e3,d1,[])) (go:=go) (capo:=capo) (g:=g) (cap:=capn) (by rw[HN0.out]) (by rw[HXS.out,HM0.out] at hown8;exact hown8) hgr8 (hat8.imp id fun e=>by rw[e];exact (YU _).symm)
 rw[HN0.out, <- HM0.out] at hP
 obtain⟨hP1,hP2⟩:=hP
 have hRE:=XV HR1.out hltV hgr8 hoX hgoX (v':=qi v (e3,d1,[])) ⟨rfl,rfl,rfl,rfl,rfl,rfl⟩ hP1 hP2
 have HRE:Aside _:=hRE
 clear hRE hP1 hP2 p3 pf hb8 hown8 hgr8 hat8 hlt8 u0 r0 g0 u1 r1 g1
 go_wp2
 refine jd (fun W=>RE w W (qi v (e3,d1,[])) (.slice ra rn rc) (.slice (some ⟨go,0,none⟩) (n0+1) capo) (.slice xa xn xc) (L0++[(DI p (e3,d1,[]),.slice (some ⟨g,0,none⟩) (m0+1) capn)]) (aK (.slice ra rn rc) (.slice (some ⟨go,0,none⟩) (n0+1) capo) (.slice xa xn xc) (L0++[(p,h)])) bw (.slice (some ⟨b,off,none⟩) nW cap) (true&&f1==0)) HRE.out ?_
 generalize hokf:(true&&f1==0)=ok at*
 clear HRE
 intro W hE
 obtain⟨⟨p0,p1,p2,p3,p4,p5,p6,p7,p8⟩,_⟩:=ak hE.b0
 obtain⟨⟨q0,q1,q2,q3,q4,q5,q6,q7,q8⟩,qf⟩:=ak hE.b1
 have f0:=qf 0;have f1:=qf 1;have f2:=qf 2;have f3:=qf 3;have f4:=qf 4;have f5:=qf 5;have f6:=qf 6;have f7:=qf 7;have f8:=qf 8
 have o1:=(eG hE.box).1.2
 have n1:w.heap.size≠w.heap.size+1:=by omega
 have n2:bw≠w.heap.size+1:=by have:=hE.lt;omega
 have HE:Aside _:=hE
 have p0:W.cell? ⟨w.heap.size,0,none⟩=some (.string (bs v.1)):=p0
 have p1:W.cell? ⟨w.heap.size,1,none⟩=some (.string (bs v.2.1)):=p1
 have p2:W.cell? ⟨w.heap.size,2,none⟩=some (.int .i64 v.2.2.1):=p2
 have p3:W.cell? ⟨w.heap.size,3,none⟩=some (.int .i64 v.2.2.2.1):=p3
 have p4:W.cell? ⟨w.heap.size,4,none⟩=some (.int .i64 v.2.2.2.2.1):=p4
 have p5:W.cell? ⟨w.heap.size,5,none⟩=some (.bool v.2.2.2.2.2.1):=p5
 have p6:W.cell? ⟨w.heap.size,6,none⟩=some (.slice ra rn rc):=p6
 have p7:W.cell? ⟨w.heap.size,7,none⟩=some (.slice (some ⟨go,0,none⟩) (n0+1) capo):=p7
 have p8:W.cell? ⟨w.heap.size,8,none⟩=some (.slice xa xn xc):=p8
 clear hE
 go_region_held3 (fun W=>W.cell? ⟨w.heap.size,0,none⟩=some (.string (bs v.1))/\W.cell? ⟨w.heap.size,1,none⟩=some (.string (bs v.2.1))/\W.cell? ⟨w.heap.size,2,none⟩=some (.int .i64 v.2.2.1)/\W.cell? ⟨w.heap.size,3,none⟩=some (.int .i64 v.2.2.2.1)/\W.cell? ⟨w.heap.size,4,none⟩=some (.int .i64 v.2.2.2.2.1)/\W.cell? ⟨w.heap.size,5,none⟩=some (.bool v.2.2.2.2.2.1)/\W.cell? ⟨w.heap.size,6,none⟩=some (.slice ra rn rc)/\W.cell? ⟨w.heap.size,7,none⟩=some (.slice (some ⟨go,0,none⟩) (n0+1) capo)/\W.cell? ⟨w.heap.size,8,none⟩=some (.slice xa xn xc)/\W.cell? ⟨bw,1,none⟩=some (.bool ok)) (refine⟨?_, ?_, ?_, ?_, ?_, ?_, ?_, ?_, ?_, ?_⟩<;>(repeat (first | with_reducible assumption | with_reducible refine aQ ?_ | with_reducible refine dA n1 ?_ | with_reducible refine dA n2 ?_))) (fail)
 go_wp2
 obtain⟨s1,s2,s3,s4,s5⟩:=iZ (.string (bs v.1)) (.string (bs v.2.1)) (.int .i64 v.2.2.1) (.int .i64 v.2.2.2.1) (.int .i64 v.2.2.2.2.1) (.bool v.2.2.2.2.2.1) (.slice ra rn rc) (.slice (some ⟨go,0,none⟩) (n0+1) capo) (.slice xa xn xc) HE.out.b1
 refine bodyPost_ret (iO (p:=6) (q:=7) (ty:=26) (b:=w.heap.size+1) (v:= .agg (iJ (qi v (e3,d1,[])) (.slice ra rn rc) (.slice (some ⟨go,0,none⟩) (n0+1) capo) (.slice xa xn xc)).toArray) (by kernel_rfl) _ _ _ (by rfl) (mz s1)) rfl ?_
 exact kO HE.out (by rfl) (by rw[<- hokf]) s2 s3 s4 s5
end Go.Proofs.SeatU
set_option maxRecDepth 100000
namespace Go.Proofs.SeatU
open Go.Dn Go.Md Go.Proofs Go.RowKit Go.Shelf Go.Lib
theorem rM (word:List UInt8) (many:Nat) (W:List (List UInt8)):isW word many [] W=(W.headD []==word&&W.length==many):=by
 unfold isW
 simp
theorem k9 (word:List UInt8) (many:Nat) (more:List UInt8) (W:List (List UInt8)) (h:(more==[])=false):isW word many more W=(W.headD []==word&&(W.length==many||(W.length==many+1&&W.getD many []==more))):=by
 unfold isW
 rw[h]
 by_cases e:W.length=many+1
 ·rw[e,show many+1 - 1=many by omega]
  simp
 ·rw[show (W.length==many+1)=false from abH e]
  simp
theorem Vm (v:aa) (W:List (List UInt8)):rdV v true W=bif isW [105,110,118,111,105,99,101] 6 [112,101,114,108,105,110,101] W then F7 W else none:=by
 rw[k9 _ _ _ _ rfl]
 unfold rdV F7
 rw[abL]
 cases (W.headD []==[105,110,118,111,105,99,101]) with
 | false=>rfl
 | true=>
  rw[abL,Zh]
  cases (W.length==6||(W.length==6+1&&W.getD 6 []==[112,101,114,108,105,110,101]))<;>rfl
theorem Wg (v:aa) (W:List (List UInt8)):rdV v false W=bif isW [114,97,116,101] 3 [] W&&(v.2.2.2.2.2.2.2.1.isEmpty&&v.2.2.2.2.2.2.2.2.isEmpty) then (GD W).map (kU v) else bif isW [108,105,110,101] 9 [] W&&v.2.2.2.2.2.2.2.2.isEmpty then (DH W).map (addLine v) else bif isW [101,120,116,114,97] 2 [112,101,114,99,101,110,116] W&&(!v.2.2.2.2.2.2.2.1.isEmpty&&v.2.2.2.2.2.2.2.2.isEmpty) then (FI W).map (qi v) else bif isW [97,108,108] 3 [112,101,114,99,101,110,116] W then (EW W).map (fX v) else none:=by
 rw[rM,rM,k9 _ _ _ _ rfl,k9 _ _ _ _ rfl]
 unfold rdV
 rw[abK]
 cases hr:(W.headD []==[114,97,116,101]) with
 | true=>
  have e1:(W.headD []==[108,105,110,101])=false:=eA hr (by decide)
  have e2:(W.headD []==[101,120,116,114,97])=false:=eA hr (by decide)
  have e3:(W.headD []==[97,108,108])=false:=eA hr (by decide)
  rw[e1,e2,e3]
  simp only[Zh,Y6,abK]
  cases (v.2.2.2.2.2.2.2.1.isEmpty&&v.2.2.2.2.2.2.2.2.isEmpty) with
  | false=>simp
  | true=>
   unfold GD
   cases (W.length==3)<;>rfl
 | false=>
  simp only[Y6,abK]
  cases hl:(W.headD []==[108,105,110,101]) with
  | true=>
   have e2:(W.headD []==[101,120,116,114,97])=false:=eA hl (by decide)
   have e3:(W.headD []==[97,108,108])=false:=eA hl (by decide)
   rw[e2,e3]
   simp only[Zh,Y6,abK]
   cases v.2.2.2.2.2.2.2.2.isEmpty with
   | false=>simp
   | true=>
    unfold DH
    cases (W.length==9)<;>rfl
  | false=>
   simp only[Y6,abK]
   cases he:(W.headD []==[101,120,116,114,97]) with
   | true=>
    have e3:(W.headD []==[97,108,108])=false:=eA he (by decide)
    rw[e3]
    simp only[Zh,Y6,abK]
    cases (!v.2.2.2.2.2.2.2.1.isEmpty&&v.2.2.2.2.2.2.2.2.isEmpty) with
    | false=>simp
    | true=>
     unfold FI
     cases (W.length==2||(W.length==2+1&&W.getD 2 []==[112,101,114,99,101,110,116]))<;>rfl
   | false=>
    simp only[Y6,abK]
    cases (W.headD []==[97,108,108]) with
    | false=>rfl
    | true=>
     rw[abL,Zh]
     unfold EW
     cases (W.length==3||(W.length==3+1&&W.getD 3 []==[112,101,114,99,101,110,116]))<;>rfl
theorem jc {W:List (List UInt8)} {i:Nat} (h:i<W.length):W[i]? =some (W.getD i []):=by
 rw[ZV,Z7 h]
 rfl
theorem Sa {α:Type} (l:List α):(((l.length:Nat):Int)==0)=l.isEmpty:=by
 cases l with
 | nil=>rfl
 | cons x r=>exact abH (by simp only[aal];omega)
theorem Sx {w:World} {base:Nat} {e:TypeId} {sz n:Nat} {a:Option Addr} {m c:Nat} {xs:List Value} (h:w.ownsRow base e sz (.slice a m c) n xs):m=n:=by
 rcases h.2 with ⟨e,h0⟩ | ⟨g,cap,cur,e,_⟩
 ·obtain⟨_,h1,_⟩:=Value.slice.inj e
  rw[h1,h0]
 ·exact (Value.slice.inj e).2.1
theorem contains_eq (W:List (List UInt8)) (hW:W.length<1000000000):bn W []=some (!pU W,()):=by
 rw[zF W [] hW]
 unfold pU
 congr 2
 induction W with
 | nil=>rfl
 | cons x r ih=>rw[List.any_cons,Zx,ih (by simp at hW;omega)];cases (x==[])<;>rfl
theorem RJ (G:Gh) (w:World) (first:Bool) (s:List UInt8) (v:aa) (ra:Option Addr) (rn rc:Nat) (la:Option Addr) (ln lc:Nat) (xa:Option Addr) (xn xc:Nat) (L:List (ai×Value)) (hG:Agr G w) (hT:bF Tryz.prog G) (hs:s.length<=900000) (hV:RV w v (.slice ra rn rc) (.slice la ln lc) (.slice xa xn xc) L) (hgb:∀ b∈aK (.slice ra rn rc) (.slice la ln lc) (.slice xa xn xc) L,G b=none) (b1:v.2.2.2.2.2.2.1.length<=1000000) (b2:v.2.2.2.2.2.2.2.1.length<=1000000) (b3:v.2.2.2.2.2.2.2.2.length<=1000000) (b4:∀ l∈v.2.2.2.2.2.2.2.1,l.2.2.2.2.2.2.2.1.length<=1000000): Calls Tryz.prog 15 #[.agg #[.string (bs v.1),.string (bs v.2.1),.int .i64 v.2.2.1,.int .i64 v.2.2.2.1,.int .i64 v.2.2.2.2.1,.bool v.2.2.2.2.2.1,.slice ra rn rc,.slice la ln lc,.slice xa xn xc],.string (bs s),.bool first] w fun e w'=>uc w w' (aK (.slice ra rn rc) (.slice la ln lc) (.slice xa xn xc) L) e (rdI v first s):=by
 have hm:=oN s 32 (by omega)
 have hwl:=nQ 32 s
 have hne:=BW 32 s
 have hcn:=contains_eq (bp 32 s) (by have:=hwl.1;omega)
 unfold rdI
 cases hf:pU (bp 32 s) with
 | false=>
  rw[hf] at hcn
  exact Xp G w first s _ v ra rn rc la ln lc xa xn xc _ hG hT hne hm hcn
 | true=>
  rw[hf] at hcn
  simp only[abL,Ze] at hcn ⊢
  have hWl:(bp 32 s).length<=1000000:=by have:=hwl.1;omega
  have hwl:=hwl.2
  generalize bp 32 s=W at hm hf hwl hne hcn hWl
  have hle:∀ i,(W.getD i []).length<=1000000:=fun i=>by
   rw[ZV]
   cases hi:W[i]? with
   | none=>exact abw _
   | some x=>exact abf (hwl x (aaC hi)) (by omega)
  have hrt:=fun i=>MJ (W.getD i []) (hle i)
  have hln:ln=v.2.2.2.2.2.2.2.1.length:=by rw[<- hV.map,aan];exact Sx hV.nst.row
  have hxn:xn=v.2.2.2.2.2.2.2.2.length:=Sx hV.ext
  have hLl:L.length<=1000000:=by rw[<- aan (f:=(·.1)),hV.map];exact b2
  have hl0:((ln:Int)==0)=v.2.2.2.2.2.2.2.1.isEmpty:=by rw[hln];exact Sa _
  have hx0:((xn:Int)==0)=v.2.2.2.2.2.2.2.2.isEmpty:=by rw[hxn];exact Sa _
  have hlp:decide ((0:Int)<(ln:Int))= !v.2.2.2.2.2.2.2.1.isEmpty:=by
   rw[hln]
   cases v.2.2.2.2.2.2.2.1 with
   | nil=>rfl
   | cons x r=>exact abO (by simp only[aal];omega)
  cases first with
  | true=>
   rw[Vm]
   cases hi0:isW [105,110,118,111,105,99,101] 6 [112,101,114,108,105,110,101] W with
   | false=>
    rw[abK]
    exact Wn G w s W v ra rn rc la ln lc xa xn xc _ hG hT hne hWl hm hcn hi0
   | true=>
    rw[abL]
    have hl:=hi0
    rw[k9 _ _ _ _ rfl,YX] at hl
    have h6:W.length=6\/(W.length=7/\W.getD 6 []=[112,101,114,108,105,110,101]):=by
     rcases (Zg _ _).mp hl.2 with h | h
     ·exact .inl (eq_of_beq h)
     ·rw[YX] at h
      exact .inr ⟨eq_of_beq h.1,eq_of_beq h.2⟩
    have hlen:5<W.length:=by omega
    have h7:((W.length:Int)==7)=(W.length==7):=by
     by_cases e:W.length=7
     ·rw[e];rfl
     ·rw[abH e,abH (by omega)]
    have:=TU G w s W v ra rn rc la ln lc xa xn xc (aK (.slice ra rn rc) (.slice la ln lc) (.slice xa xn xc) L) hG hT hne _ rfl hWl hm hcn hi0 _ _ _ _ _ (jc (i:=1) (by omega)) (jc (i:=2) (by omega)) (jc (i:=3) (by omega)) (jc (i:=4) (by omega)) (jc (i:=5) (by omega)) _ h7
    have hw:F7 W=bif (true&&cD (W.getD 3 [])&&cD (W.getD 4 [])&&cD (W.getD 5 [])) then some (W.getD 1 [],W.getD 2 [],bL (W.getD 3 []),bL (W.getD 4 []),bL (W.getD 5 []),W.length==7,[],[],[]) else none:=by
     unfold F7
     have hc:(W.length==6||(W.length==7&&W.getD 6 []==[112,101,114,108,105,110,101]))=true:=by
      rcases h6 with h | ⟨h,h'⟩
      ·rw[h];rfl
      ·rw[h,h'];rfl
     rw[hc,Zh,Zh,YW]
    rw[hw]
    exact this
  | false=>
   rw[Wg]
   have hff:=fun (r1 r2 r3 r4:Bool) i1 i2 i3 i4 h=>Wm G w s W v ra rn rc la ln lc xa xn xc (aK (.slice ra rn rc) (.slice la ln lc) (.slice xa xn xc) L) hG hT hne hWl hm hcn r1 r2 r3 r4 _ _ i1 i2 i3 i4 hl0 hlp hx0 h
   cases i1:isW [114,97,116,101] 3 [] W with
   | true=>
    have n2:isW [108,105,110,101] 9 [] W=false:=by
     rw[rM] at i1 ⊢
     rw[eA ((YX _ _).mp i1).1 (by decide)];rfl
    have n3:isW [101,120,116,114,97] 2 [112,101,114,99,101,110,116] W=false:=by
     rw[rM] at i1
     rw[k9 _ _ _ _ rfl,eA ((YX _ _).mp i1).1 (by decide)];rfl
    have n4:isW [97,108,108] 3 [112,101,114,99,101,110,116] W=false:=by
     rw[rM] at i1
     rw[k9 _ _ _ _ rfl,eA ((YX _ _).mp i1).1 (by decide)];rfl
    rw[n2,n3,n4]
    simp only[Y6,Zh,abK]
    cases e1:v.2.2.2.2.2.2.2.1.isEmpty with
    | false=>
     simp only[Y6,abK]
     exact hff _ _ _ _ i1 n2 n3 n4 (.inr (.inl ⟨rfl,rfl,rfl,rfl,e1⟩))
    | true=>
     cases e2:v.2.2.2.2.2.2.2.2.isEmpty with
     | false=>
      simp only[YY,abK]
      exact hff _ _ _ _ i1 n2 n3 n4 (.inr (.inr (.inl ⟨rfl,rfl,rfl,rfl,e1,e2⟩)))
     | true=>
      simp only[YZ,abL]
      have hl3:W.length=3:=by
       rw[rM] at i1
       exact eq_of_beq ((YX _ _).mp i1).2
      have:=Xq G w s W v ra rn rc la ln lc xa xn xc L hG hT hne _ rfl hWl hm hcn hV hgb b1 i1 (by rw[hl0,e1]) (by rw[hx0,e2]) _ _ (jc (i:=1) (by omega)) (jc (i:=2) (by omega)) (hrt 2)
      have hw:(GD W).map (kU v)=bif (true&&(fm (W.getD 2 [])).2==0) then some (kU v (W.getD 1 [],(fm (W.getD 2 [])).1)) else none:=by
       unfold GD
       rw[hl3,uN]
       rfl
      rw[hw]
      exact this
   | false=>
    simp only[Y6,abK]
    cases i2:isW [108,105,110,101] 9 [] W with
    | true=>
     have n3:isW [101,120,116,114,97] 2 [112,101,114,99,101,110,116] W=false:=by
      rw[rM] at i2
      rw[k9 _ _ _ _ rfl,eA ((YX _ _).mp i2).1 (by decide)];rfl
     have n4:isW [97,108,108] 3 [112,101,114,99,101,110,116] W=false:=by
      rw[rM] at i2
      rw[k9 _ _ _ _ rfl,eA ((YX _ _).mp i2).1 (by decide)];rfl
     rw[n3,n4]
     simp only[Y6,Zh,abK]
     cases e2:v.2.2.2.2.2.2.2.2.isEmpty with
     | false=>exact hff _ _ _ _ i1 i2 n3 n4 (.inr (.inr (.inr (.inl ⟨rfl,rfl,rfl,rfl,e2⟩))))
     | true=>
      rw[abL]
      have hl9:W.length=9:=by
       rw[rM] at i2
       exact eq_of_beq ((YX _ _).mp i2).2
      have:=Xo G w s W v ra rn rc la ln lc xa xn xc L hG hT hne _ rfl hWl hm hcn hV hgb hLl i1 i2 (by rw[hx0,e2]) _ _ _ _ _ _ _ _ (jc (i:=1) (by omega)) (jc (i:=2) (by omega)) (jc (i:=3) (by omega)) (jc (i:=4) (by omega)) (jc (i:=5) (by omega)) (jc (i:=6) (by omega)) (jc (i:=7) (by omega)) (jc (i:=8) (by omega)) (hrt 4) (hrt 6)
      have hw:(DH W).map (addLine v)=bif (((((true&&cD (W.getD 1 []))&&cD (W.getD 2 []))&&(fm (W.getD 4 [])).2==0)&&(fm (W.getD 6 [])).2==0)&&cD (W.getD 7 [])) then some (addLine v (bL (W.getD 1 []),bL (W.getD 2 []),W.getD 3 [],(fm (W.getD 4 [])).1,W.getD 5 [],(fm (W.getD 6 [])).1,bL (W.getD 7 []),[],W.getD 8 [])) else none:=by
       unfold DH
       rw[hl9,uN]
       simp only[YW,Zh,abI]
      rw[hw]
      exact this
    | false=>
     simp only[Y6,abK]
     cases i3:isW [101,120,116,114,97] 2 [112,101,114,99,101,110,116] W with
     | true=>
      have hi3:=i3
      rw[k9 _ _ _ _ rfl,YX] at hi3
      have n4:isW [97,108,108] 3 [112,101,114,99,101,110,116] W=false:=by
       rw[k9 _ _ _ _ rfl,eA hi3.1 (by decide)];rfl
      rw[n4]
      simp only[Zh,abK]
      cases e1:v.2.2.2.2.2.2.2.1.isEmpty with
      | true=>
       simp only[Ze,Y6,abK]
       exact hff _ _ _ _ i1 i2 i3 n4 (.inr (.inr (.inr (.inr (.inl ⟨rfl,rfl,rfl,rfl,e1⟩)))))
      | false=>
       cases e2:v.2.2.2.2.2.2.2.2.isEmpty with
       | false=>
        simp only[YY,abK]
        exact hff _ _ _ _ i1 i2 i3 n4 (.inr (.inr (.inr (.inr (.inr ⟨rfl,rfl,rfl,rfl,e1,e2⟩)))))
       | true=>
        simp only[Zd,YZ,abL]
        have h2:W.length=2\/(W.length=3/\W.getD 2 []=[112,101,114,99,101,110,116]):=by
         rcases (Zg _ _).mp hi3.2 with h | h
         ·exact .inl (eq_of_beq h)
         ·rw[YX] at h
          exact .inr ⟨eq_of_beq h.1,eq_of_beq h.2⟩
        have h3:((W.length:Int)==3)=(W.length==3):=by
         by_cases e:W.length=3
         ·rw[e];rfl
         ·rw[abH e,abH (by omega)]
        have hw:(FI W).map (qi v)=bif (true&&(fm (W.getD 1 [])).2==0) then some (qi v (W.length==3,(fm (W.getD 1 [])).1,[])) else none:=by
         unfold FI
         have hc:(W.length==2||(W.length==3&&W.getD 2 []==[112,101,114,99,101,110,116]))=true:=by
          rcases h2 with h | ⟨h,h'⟩
          ·rw[h];rfl
          ·rw[h,h'];rfl
         rw[hc,uN]
        rw[hw]
        rcases List.eq_nil_or_concat L with e | ⟨L0,q,e⟩
        ·exfalso
         subst e
         rw[<- hV.map] at e1;cases e1
        ·obtain⟨p,h⟩:=q
         rw[List.concat_eq_append] at e
         subst e
         obtain⟨go,capo,hv,_,_,_⟩:=Bi hV.nst
         obtain⟨rfl,rfl,rfl⟩:=Value.slice.inj hv
         exact Wk G w s W v ra rn rc go L0.length lc xa xn xc L0 p h hG hT hne _ rfl hWl hm hcn hV rfl (by simp at hLl;omega) hgb (b4 p (by rw[<- hV.map];simp)) i1 i2 i3 (by rw[hx0,e2]) _ (jc (i:=1) (by omega)) (hrt 1) _ h3
     | false=>
      simp only[Y6,abK]
      cases i4:isW [97,108,108] 3 [112,101,114,99,101,110,116] W with
      | false=>
       rw[abK]
       exact hff _ _ _ _ i1 i2 i3 i4 (.inl ⟨rfl,rfl,rfl,rfl⟩)
      | true=>
       rw[abL]
       have hi4:=i4
       rw[k9 _ _ _ _ rfl,YX] at hi4
       have h3:W.length=3\/(W.length=4/\W.getD 3 []=[112,101,114,99,101,110,116]):=by
        rcases (Zg _ _).mp hi4.2 with h | h
        ·exact .inl (eq_of_beq h)
        ·rw[YX] at h
         exact .inr ⟨eq_of_beq h.1,eq_of_beq h.2⟩
       have h4:((W.length:Int)==4)=(W.length==4):=by
        by_cases e:W.length=4
        ·rw[e];rfl
        ·rw[abH e,abH (by omega)]
       have hw:(EW W).map (fX v)=bif (true&&(fm (W.getD 1 [])).2==0) then some (fX v (W.length==4,(fm (W.getD 1 [])).1,zo (W.getD 2 []))) else none:=by
        unfold EW
        have hc:(W.length==3||(W.length==4&&W.getD 3 []==[112,101,114,99,101,110,116]))=true:=by
         rcases h3 with h | ⟨h,h'⟩
         ·rw[h];rfl
         ·rw[h,h'];rfl
        rw[hc,uN]
       rw[hw]
       exact XY G w s W v ra rn rc la ln lc xa xn xc L hG hT hne _ rfl hWl hm hcn hV hgb b3 i1 i2 i3 i4 _ _ (jc (i:=1) (by omega)) (jc (i:=2) (by omega)) (hrt 1) _ h4 (by omega)
end Go.Proofs.SeatU
