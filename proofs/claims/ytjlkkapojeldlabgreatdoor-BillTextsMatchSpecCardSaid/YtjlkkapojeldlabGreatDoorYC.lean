/-
  reader.line by a walk, third part. No condition.
-/
import Derived.Test.YtjlkkapojeldlabGreatDoorYB
set_option maxRecDepth 100000
namespace Go.Proofs.SeatU
open Go.Dn Go.Md Go.Proofs Go.RowKit Go.Shelf Go.Lib
attribute [local go_sem ↓] Go.wp_at_zero Go.wp_at_succ
set_option maxHeartbeats 4000000 in
theorem abA (G:Gh) (w:World) (bx:Nat) (s:List UInt8) (w0:List UInt8) (r:List (List UInt8)) (v:ai) (vr vl ve:Value) (L:List (aa×Value)) (k:Int) (hG:Agr G w) (hT:bZ Tryz.prog G) (hm:iR s=some (w0::r,true,())) (hR:RI w bx v k vr vl ve L) (hgb:∀ b∈bx::bH vr vl ve L,G b=none) (hn:L.length<=1000000) (hi:((bs w0).toList==[105,110,118,111,105,99,101])=false) (hr:((bs w0).toList==[114,97,116,101])=false) (hl:((bs w0).toList==[108,105,110,101])=true) (hk:k=1\/k=2) {s1 s2 s3:List UInt8} {n1 n2 n3:Int} {d1 d2:ah} {ok:Bool} {q1 q2 q3 q4 q5 q6 q7 q8 q9:List (List UInt8)×Bool×Unit} (hm1:bI (r,false,())=some (n1,q1,())) (hm2:bI q1=some (n2,q2,())) (hm3:bC q2=some (s1,q3,())) (hm4:bU q3=some (d1,q4,())) (hm5:bC q4=some (s2,q5,())) (hm6:bU q5=some (d2,q6,())) (hm7:bI q6=some (n3,q7,())) (hm8:bC q7=some (s3,q8,())) (hm9:cm q8=some (ok,q9,())): Calls Tryz.prog 12 #[.pointer (some ⟨bx,0,none⟩),.string (bs s)] w fun e w'=>e= .returned (.bool ok)/\Fin w.heap.size bx (bH vr vl ve L) w w' (addLine v (n1,n2,s1,d1,s2,d2,n3,[],s3)) 2:=by
 have e33:∀ args w,(callFunc 33 args).run Tryz.prog w= .ok (.enter 33 args) w:=enters_of Tryz.func33 (by kernel_rfl) rfl
 have e34:∀ args w,(callFunc 34 args).run Tryz.prog w= .ok (.enter 34 args) w:=enters_of Tryz.func34 (by kernel_rfl) rfl
 have e35:∀ args w,(callFunc 35 args).run Tryz.prog w= .ok (.enter 35 args) w:=enters_of Tryz.func35 (by kernel_rfl) rfl
 have e37:∀ args w,(callFunc 37 args).run Tryz.prog w= .ok (.enter 37 args) w:=enters_of Tryz.func37 (by kernel_rfl) rfl
 have e39:∀ args w,(callFunc 39 args).run Tryz.prog w= .ok (.enter 39 args) w:=enters_of Tryz.func39 (by kernel_rfl) rfl
 have mixed:Tryz.prog.follows .mixedOrders=true:=by kernel_rfl
 have late:Tryz.prog.follows .lateStores=true:=by kernel_rfl
 have t3:=Tryz.underlying3;have t4:=Tryz.underlying4;have t9:=Tryz.underlying9;have t36:=Tryz.underlying36;have t41:=Tryz.underlying41;have t91:=Tryz.underlying91;have t26:=Tryz.underlying26;have a91:=Tryz.isAgg91;have z91:=Tryz.sizeOf91;have v91:=Tryz.zeroValue91;have a48:=Tryz.isAgg48;have z48:=Tryz.sizeOf48
 have t23:=Tryz.underlying23;have a50:=Tryz.isAgg50;have z50:=Tryz.sizeOf50;have t49:=Tryz.underlying49;have t50:=Tryz.underlying50
 have hw:=nr s _ _ hG hT hm
 go_enter Tryz.func12,Tryz.ntmps12
 rcases hk with rfl | rfl
 all_goals
  go_wp2_with (go_at_fn 33;refine hw.mono ?_;rintro e w2 ⟨G2,u,rfl,hlv,hu⟩;obtain⟨b,off,cap,rfl,hcap,qJ,hfz,hcell⟩:=o9 hu hlv.agr (adW _ _);have c0:w2.cell? ⟨b,off,none⟩=some (.string (bs w0)):=hcell 0 w0 rfl;have c0':=fun o=>bf (o:=o) c0;have hR2:RI w2 bx v _ vr vl ve L:=hR.keep fun b hb=>hlv.kept.block b (hR.lt b hb);have cb2:=(bO hR2.box).1.2.2.2.2.2.2.2.2.2;have cb2':=fun o=>bf (o:=o) cb2;have hb2':=fun o=>(heap_alloc_old w2 o (hR2.lt bx (by simp))).trans hR2.box;have f9':=fun o=>(bO (hb2' o)).2 9;have hcap':r.length+1<=cap:=hcap;obtain⟨A,hA⟩:∃ A,(if cap=1 then some (⟨b,off,none⟩:Addr) else some ⟨b,off+1,none⟩)=A:=⟨_,rfl⟩;have ht1:=uq hcap' hu;rw[hA] at ht1;clear hcell)
  refine tU (fun W=>Beg w2 W bx v 2 vr vl ve L (.slice A r.length (cap - 1))) (Vk hR2) ?_
  intro W5 hB
  have hg2:∀ b∈bx::bH vr vl ve L,G2 b=none:=fun b hb=>(hlv.old b (hR.lt b hb)).trans (hgb b hb)
  have hmid0:=hB.mid hlv hT (hg2 bx (by simp)) ht1
  have hxbw:bx≠w2.heap.size:=afD (hB.lt bx (by simp))
  have x0:W5.cell? ⟨bx,7,none⟩=some vl:=(bO hB.ri.box).1.2.2.2.2.2.2.2.1
  have HM0:Aside _:=hmid0
  obtain⟨xs,hxs⟩:∃ xs:List Value,xs=L.flatMap fun q=>wC q.1 q.2:=⟨_,rfl⟩
  have HXS:Aside _:=hxs
  have hown:∀ {G7 W7 q o},Mid w2.heap.size G2 W5 G7 W7 q->(W7.alloc o).ownsRow 0 50 11 vl L.length xs:=fun {G7 W7 q o} hM=>by
   rw[hxs]
   exact cg (hB.rm hM).rows.nst.row fun g hg=>heap_alloc_old _ _ (dw (hB.rm hM).rows.nst.row hg)
  have hvx:some bx≠vl.ownBlock:=fun e=>hB.ri.out (bW.2 (.inr (.inr (aeN.2 (.inl (by rw[e.symm];simp))))))
  obtain⟨i0,hi0,hz0,hz1,hz2⟩:=info_parts abW
  have h63:L.length+1<=maxLen:=by simp only[maxLen];omega
  have hbytes:(L.length+1)*128<=140737488355328:=by omega
  have HB:Aside _:=hB
  have HG2:Aside _:=hg2
  have HLV:Aside _:=hlv
  clear hxs hu hw hR hG hT hg2 hgb hlv hmid0 hB hR2 c0 c0' cb2 cb2' hb2' f9' ht1 hfz hcap
  refine wp_region_noPanic ?_
  refine sQ (n:=28) (S:=(fun W=>W.cell? ⟨bx,7,none⟩=some vl)) mixed (by (simp only[afe,afg];try rfl)) rfl rfl (by kernel_rfl) ?_ (fun hHeld=> ?_)
  ·(try dsimp only);(repeat (first | with_reducible assumption | with_reducible refine bf ?_ | with_reducible refine bD ?_ | with_reducible refine bK hgr8 ?_ hvx))
  refine tk 0 ?_
  refine tk 1 ?_
  refine tk 2 ?_
  refine tk 3 ?_
  refine tk 4 ?_
  refine tk 5 ?_
  refine tk 6 ?_
  refine tk 8 ?_
  refine tk 10 ?_
  refine tk 12 ?_
  refine tk 14 ?_
  refine tk 16 ?_
  refine tk 18 ?_
  refine tk 20 ?_
  refine dI (i:=7) rfl (by kernel_rfl) (fun K hK=> ?_)
  go_simp
  (go_at_fn 35;refine Calls.mono (sD (Mid.same HM0.out (by rfl) (by rfl) (by rfl)) hm1) ?_;rintro e Wc1 ⟨rfl,Gc1,hmid1⟩;have x1:Wc1.cell? ⟨bx,7,none⟩=some vl:=hmid1.cell hxbw x0;have HM1:Aside _:=hmid1;clear hmid1)
  refine hK.out _ _ ?_ (fun hHeld=> ?_)
  ·(try dsimp only);(repeat (first | with_reducible assumption | with_reducible refine bf ?_ | with_reducible refine bD ?_ | with_reducible refine bK hgr8 ?_ hvx))
  clear hK K
  try simp only[Act.put,ae5,ae7,ae6]
  refine dI (i:=9) rfl (by kernel_rfl) (fun K hK=> ?_)
  go_simp
  (go_at_fn 35;refine Calls.mono (sD (Mid.same HM1.out (by rfl) (by rfl) (by rfl)) hm2) ?_;rintro e Wc2 ⟨rfl,Gc2,hmid2⟩;have x2:Wc2.cell? ⟨bx,7,none⟩=some vl:=hmid2.cell hxbw x0;have HM2:Aside _:=hmid2;clear hmid2)
  refine hK.out _ _ ?_ (fun hHeld=> ?_)
  ·(try dsimp only);(repeat (first | with_reducible assumption | with_reducible refine bf ?_ | with_reducible refine bD ?_ | with_reducible refine bK hgr8 ?_ hvx))
  clear hK K
  try simp only[Act.put,ae5,ae7,ae6]
  refine dI (i:=11) rfl (by kernel_rfl) (fun K hK=> ?_)
  go_simp
  (go_at_fn 34;refine Calls.mono (uX (Mid.same HM2.out (by rfl) (by rfl) (by rfl)) hm3) ?_;rintro e Wc3 ⟨rfl,Gc3,hmid3⟩;have x3:Wc3.cell? ⟨bx,7,none⟩=some vl:=hmid3.cell hxbw x0;have HM3:Aside _:=hmid3;clear hmid3)
  refine hK.out _ _ ?_ (fun hHeld=> ?_)
  ·(try dsimp only);(repeat (first | with_reducible assumption | with_reducible refine bf ?_ | with_reducible refine bD ?_ | with_reducible refine bK hgr8 ?_ hvx))
  clear hK K
  try simp only[Act.put,ae5,ae7,ae6]
  refine dI (i:=13) rfl (by kernel_rfl) (fun K hK=> ?_)
  go_simp
  (go_at_fn 37;refine Calls.mono (tW (Mid.same HM3.out (by rfl) (by rfl) (by rfl)) hm4) ?_;rintro e Wc4 ⟨rfl,Gc4,hmid4⟩;have x4:Wc4.cell? ⟨bx,7,none⟩=some vl:=hmid4.cell hxbw x0;have HM4:Aside _:=hmid4;clear hmid4)
  refine hK.out _ _ ?_ (fun hHeld=> ?_)
  ·(try dsimp only);(repeat (first | with_reducible assumption | with_reducible refine bf ?_ | with_reducible refine bD ?_ | with_reducible refine bK hgr8 ?_ hvx))
  clear hK K
  try simp only[Act.put,ae5,ae7,ae6]
  refine dI (i:=15) rfl (by kernel_rfl) (fun K hK=> ?_)
  go_simp
  (go_at_fn 34;refine Calls.mono (uX (Mid.same HM4.out (by rfl) (by rfl) (by rfl)) hm5) ?_;rintro e Wc5 ⟨rfl,Gc5,hmid5⟩;have x5:Wc5.cell? ⟨bx,7,none⟩=some vl:=hmid5.cell hxbw x0;have HM5:Aside _:=hmid5;clear hmid5)
  refine hK.out _ _ ?_ (fun hHeld=> ?_)
  ·(try dsimp only);(repeat (first | with_reducible assumption | with_reducible refine bf ?_ | with_reducible refine bD ?_ | with_reducible refine bK hgr8 ?_ hvx))
  clear hK K
  try simp only[Act.put,ae5,ae7,ae6]
  refine dI (i:=17) rfl (by kernel_rfl) (fun K hK=> ?_)
  go_simp
  (go_at_fn 37;refine Calls.mono (tW (Mid.same HM5.out (by rfl) (by rfl) (by rfl)) hm6) ?_;rintro e Wc6 ⟨rfl,Gc6,hmid6⟩;have x6:Wc6.cell? ⟨bx,7,none⟩=some vl:=hmid6.cell hxbw x0;have HM6:Aside _:=hmid6;clear hmid6)
  refine hK.out _ _ ?_ (fun hHeld=> ?_)
  ·(try dsimp only);(repeat (first | with_reducible assumption | with_reducible refine bf ?_ | with_reducible refine bD ?_ | with_reducible refine bK hgr8 ?_ hvx))
  clear hK K
  try simp only[Act.put,ae5,ae7,ae6]
  refine dI (i:=19) rfl (by kernel_rfl) (fun K hK=> ?_)
  go_simp
  (go_at_fn 35;refine Calls.mono (sD (Mid.same HM6.out (by rfl) (by rfl) (by rfl)) hm7) ?_;rintro e Wc7 ⟨rfl,Gc7,hmid7⟩;have x7:Wc7.cell? ⟨bx,7,none⟩=some vl:=hmid7.cell hxbw x0;have HM7:Aside _:=hmid7;clear hmid7)
  refine hK.out _ _ ?_ (fun hHeld=> ?_)
  ·(try dsimp only);(repeat (first | with_reducible assumption | with_reducible refine bf ?_ | with_reducible refine bD ?_ | with_reducible refine bK hgr8 ?_ hvx))
  clear hK K
  try simp only[Act.put,ae5,ae7,ae6]
  refine dI (i:=21) rfl (by kernel_rfl) (fun K hK=> ?_)
  go_simp
  (go_at_fn 34;refine Calls.mono (uX (Mid.same HM7.out (by rfl) (by rfl) (by rfl)) hm8) ?_;rintro e Wc8 ⟨rfl,Gc8,hmid8⟩;have x8:Wc8.cell? ⟨bx,7,none⟩=some vl:=hmid8.cell hxbw x0;have HM8:Aside _:=hmid8;clear hmid8)
  refine hK.out _ _ ?_ (fun hHeld=> ?_)
  ·(try dsimp only);(repeat (first | with_reducible assumption | with_reducible refine bf ?_ | with_reducible refine bD ?_ | with_reducible refine bK hgr8 ?_ hvx))
  clear hK K
  try simp only[Act.put,ae5,ae7,ae6]
  refine tk 22 ?_
  refine dI (i:=23) rfl (by kernel_rfl) (fun K hK=> ?_)
  go_simp
  refine hK.out _ _ ?_ (fun hHeld=> ?_)
  ·(try dsimp only);(repeat (first | with_reducible assumption | with_reducible refine bf ?_ | with_reducible refine bD ?_ | with_reducible refine bK hgr8 ?_ hvx))
  clear hK K
  try simp only[Act.put,ae5,ae7,ae6]
  refine dI (i:=24) rfl (by kernel_rfl) (fun K hK=> ?_)
  (refine step_append_lies _ (by rfl) _ _ _ (by rfl) 0 50 i0 _ 11 128 t23 hi0 hz0 hz1 hz2 rfl (by omega) vl L.length xs (by rfl) (hown HM8.out) ⟨Wc8.heap.size,0,none⟩ 1 1 [.int .i64 n1,.int .i64 n2,.string (bs s1),.int .i64 d1.1,.int .i64 d1.2,.string (bs s2),.int .i64 d2.1,.int .i64 d2.2,.int .i64 n3,.slice none 0 0,.string (bs s3)] (by rfl) (by rfl) (World.news_of_block (cs:= #[.int .i64 n1,.int .i64 n2,.string (bs s1),.int .i64 d1.1,.int .i64 d1.2,.string (bs s2),.int .i64 d2.1,.int .i64 d2.2,.int .i64 n3,.slice none 0 0,.string (bs s3)]) (t:=50) (fr:=(0,0)) (heap_alloc_new Wc8 _)) (abn (n1,n2,s1,d1,s2,d2,n3,[],s3) none 0 0) (by omega) h63 hbytes (afI _) (Wc8.heap.size+1) (by simp) ?_;intro g capn W8 hown8 hgr8 hat8 hlt8;have hb8:=Cw hgr8 hvx (HB.out.rm HM8.out).box;have p3:=(bO hb8).1.2.2.2.2.2.2.2.1;have pf:=(bO hb8).2 7)
  refine hK.out _ _ ?_ (fun hHeld=> ?_)
  ·(try dsimp only);(repeat (first | with_reducible assumption | with_reducible refine bf ?_ | with_reducible refine bD ?_ | with_reducible refine bK hgr8 ?_ hvx))
  clear hK K
  try simp only[Act.put,ae5,ae7,ae6]
  refine tk 25 ?_
  refine tk 26 ?_
  refine tk 27 ?_
  refine wpAnyH_done (by kernel_rfl) ?_ _
  refine Fw (fun K hK=> ?_)
  go_simp
  refine hK.out _ _ (NoPanic.normal ?_)
  clear hK K
  have hX:∀ b∈bx::bH vr vl ve L,b≠w2.heap.size/\Gc8 b=none:=fun b hb=>⟨afD (HB.out.lt b hb),HB.out.SI HM8.out HG2.out b hb⟩
  have hoX:∀ b,vl.ownBlock=some b->b∈bx::bH vr vl ve L:=fun b hb=>aeP _ (bW.2 (.inr (.inr (aeN.2 (.inl (by rw[hb];simp))))))
  have hmE:=mid_end (y:=bx) (j:=7) (c:= .slice (some ⟨g,0,none⟩) (L.length+1) capn) HM8.out hX hgr8 hoX (by simp)
  go_wp2_with (go_at_fn 39;refine (zC hmE hm9).mono ?_;rintro e W9 ⟨rfl,G9,hmid9⟩)
  go_ret
  refine⟨rfl, ?_⟩
  have hP:=RV.pushLine (w:=Wc8.alloc (.cells #[.int .i64 n1,.int .i64 n2,.string (bs s1),.int .i64 d1.1,.int .i64 d1.2,.string (bs s2),.int .i64 d2.1,.int .i64 d2.2,.int .i64 n3,.slice none 0 0,.string (bs s3)] 50)) (w':=W8) ((HB.out.rm HM8.out).rows.keep fun b hb=>heap_alloc_old _ _ ((HB.out.rm HM8.out).rows.lt b hb)) (l:=(n1,n2,s1,d1,s2,d2,n3,[],s3)) (by rfl) (g:=g) (cap:=capn) (by rw[HXS.out] at hown8;exact hown8) hgr8 (hat8.imp id fun e=>by rw[e];exact Nat.le_of_eq (adg _))
  obtain⟨hP1,hP2⟩:=hP
  have hbxn:bx∉bH vr (.slice (some ⟨g,0,none⟩) (L.length+1) capn) ve (L++[((n1,n2,s1,d1,s2,d2,n3,[],s3),.slice none 0 0)]):=fun hm=>by
   rcases hP2 bx hm with h | h
   ·exact HB.out.ri.out h
   ·have h1:Wc8.heap.size+1<=bx:=by rw[<- show (Wc8.alloc (.cells #[.int .i64 n1,.int .i64 n2,.string (bs s1),.int .i64 d1.1,.int .i64 d1.2,.string (bs s2),.int .i64 d2.1,.int .i64 d2.2,.int .i64 n3,.slice none 0 0,.string (bs s3)] 50)).heap.size=Wc8.heap.size+1 from adg _];exact h
    have h2:=HB.out.lt bx (by simp)
    have h3:=HM8.out.lv.size
    have h4:=HB.out.size
    omega
  have hf:Far w.heap.size (bx::bH vr vl ve L) w (W8.setCell ⟨bx,7,none⟩ (.slice (some ⟨g,0,none⟩) (L.length+1) capn)):=by
   have e1:=HLV.out.kept.size
   have e2:=HB.out.size
   have e3:=HM8.out.lv.size
   exact ((((Far.kept HLV.out.kept (afq _)).trans (HB.out.far e1 (by simp))).trans (Far.lvb HM8.out.lv (by omega) e1)).trans (JB (by omega) hgr8 hoX (by simp)))
  exact JC hf ⟨bz _ bx 7 _ _ _ _ hb8,hP1.keep fun b hb=>aW _ _ _ _ _ fun e=>hbxn (e ▸ hb),hbxn⟩ (fun b hb=>(hP2 b hb).imp id fun h=>by
   have h1:(Wc8.alloc (.cells #[.int .i64 n1,.int .i64 n2,.string (bs s1),.int .i64 d1.1,.int .i64 d1.2,.string (bs s2),.int .i64 d2.1,.int .i64 d2.2,.int .i64 n3,.slice none 0 0,.string (bs s3)] 50)).heap.size=Wc8.heap.size+1:=adg _
   have h3:=HM8.out.lv.size
   have h4:=HB.out.size
   omega) HB.out.lt HLV.out.kept.size hmid9.lv (afq _)
end Go.Proofs.SeatU
set_option maxRecDepth 100000
namespace Go.Proofs.SeatU
open Go.Dn Go.Md Go.Proofs Go.RowKit Go.Shelf Go.Lib
attribute [local go_sem ↓] Go.wp_at_zero Go.wp_at_succ
section
variable {bw:Nat} {G0 G:Gh} {w0 W W':World} {q:List (List UInt8)×Bool×Unit}
theorem Mid.kept (h:Mid bw G0 w0 G W q) (hk:Kept W W'):Mid bw G0 w0 G W' q:=by
 obtain⟨⟨u,T,b1,b2⟩,b3⟩:=h.wat
 exact⟨⟨afs h.lv.size hk.size,hk.os.trans h.lv.os,hk.output.trans h.lv.output,fun b hb hn=>(hk.block b (aft hb h.lv.size)).trans (h.lv.keep b hb hn),h.lv.le,fun b o hb=>(hk.block b (aB (h.lv.agr b o hb))).trans (h.lv.agr b o hb),h.lv.old⟩,⟨⟨u,T,(hk.block bw (aB b1)).trans b1,b2⟩,b3⟩,h.tab⟩
theorem Mid.Zs (h:Mid bw G0 w0 G W q):Mid bw G W G W q:=Mid.refl h.lv.agr h.wat h.tab
end
theorem s7 {w:World} {b:Nat} {a0 a1 a2 a3:Value} {T:TypeId} (h:w.heap[b]? =some (.cells #[a0,a1,a2,a3] T (0,0))): (w.cell? ⟨b,0,none⟩=some a0/\w.cell? ⟨b,1,none⟩=some a1/\w.cell? ⟨b,2,none⟩=some a2/\w.cell? ⟨b,3,none⟩=some a3)/\∀ o,w.frozen? ⟨b,o,none⟩=false:=by
 refine⟨⟨by simp[World.cell?,h],by simp[World.cell?,h],by simp[World.cell?,h],by simp[World.cell?,h]⟩,fun o=>by simp[World.frozen?,h]⟩
structure Ext (N:Nat) (w W:World) (bx bw y:Nat) (v:ai) (k:Int) (vr vl ve:Value) (L:List (aa×Value)) (x:aj) (G:Gh) (q:List (List UInt8)×Bool×Unit):Prop where
 ri:RI W bx v k vr vl ve L
 ext:W.heap[y]? =some (.cells #[.bool x.1,.int .i64 x.2.1.1,.int .i64 x.2.1.2,.string (bs x.2.2)] 53 (0,0))
 mid:Mid bw G W G W q
 far:Far N (bx::bH vr vl ve L) w W
 gh:∀ b∈bx::bH vr vl ve L,b<bw/\G b=none
 bwy:bw<y
 hN:N<=bw
 hw:N<=w.heap.size
theorem Nb {w w':World} {r:Option Nat} (h:w.drew.grownBy w' r):w.grownBy w' r:=⟨h.os,h.tape,h.output,h.size,h.block⟩
theorem Vs {G G2 Gu Gl:Gh} {w w2 W5 Wu Wl:World} {bx:Nat} {v:ai} {k:Int} {vr vl ve u:Value} {L:List (aa×Value)} {q q':List (List UInt8)×Bool×Unit} {c0 pl:Bool} {d:ah} {t:List UInt8} (hlv:Lv G G2 w w2) (hB:Beg w2 W5 bx v k vr vl ve L u) (hMu:Mid w2.heap.size G2 W5 Gu Wu q) (hg2:∀ b∈bx::bH vr vl ve L,G2 b=none) (hM:Mid w2.heap.size Gu (Wu.alloc (.cells #[.bool c0,.int .i64 d.1,.int .i64 d.2,.string (bs t)] 53)) Gl Wl q'):Ext w.heap.size w (Wl.setCell ⟨Wu.heap.size,0,none⟩ (.bool pl)) bx w2.heap.size Wu.heap.size v k vr vl ve L (pl,d,t) Gl q':=by
 have e0:=hlv.kept.size
 have e1:=hB.size
 have e2:=hMu.lv.size
 have e3:(Wu.alloc (.cells #[.bool c0,.int .i64 d.1,.int .i64 d.2,.string (bs t)] 53)).heap.size=Wu.heap.size+1:=adg _
 have e4:=hM.lv.size
 have hlt:∀ b∈bx::bH vr vl ve L,b<w2.heap.size:=hB.lt
 have hnb:=bA Wu (.cells #[.bool c0,.int .i64 d.1,.int .i64 d.2,.string (bs t)] 53)
 have hyl:=(hM.lv.keep Wu.heap.size (by omega) (by omega)).trans hnb.1
 have hGu:Gu Wu.heap.size=none:=by
  cases hg:Gu Wu.heap.size with
  | none=>rfl
  | some o=>exact absurd (aB (hMu.lv.agr _ o hg)) (Nat.lt_irrefl _)
 have hGl:Gl Wu.heap.size=none:=(hM.lv.old _ (by omega) (by omega)).trans hGu
 refine⟨(hB.rm hMu).keep fun b hb=> ?_,bz _ _ 0 _ _ _ (.bool pl) hyl,Pe hM hGl (by omega) (fun c hc=>aW _ _ _ _ _ hc), ?_,fun b hb=>⟨hlt b hb,(hM.lv.old b (by have:=hlt b hb;omega) (afD (hlt b hb))).trans (hB.SI hMu hg2 b hb)⟩,by omega,e0,afq _⟩
 ·have h1:=hlt b hb
  have h2:b≠Wu.heap.size:=by omega
  rw[aW _ _ _ _ _ h2,hM.lv.keep b (by omega) (afD h1)]
  exact heap_alloc_old _ _ (by omega)
 ·have f1:Far w.heap.size (bx::bH vr vl ve L) Wl (Wl.setCell ⟨Wu.heap.size,0,none⟩ (.bool pl)):=⟨by rw[bF];exact afq _,rfl,rfl,fun b hb _=>aW _ _ _ _ _ (by omega)⟩
  exact ((((((Far.kept hlv.kept (afq _)).trans (hB.far e0 (by simp))).trans (Far.lvb hMu.lv (by omega) e0)).trans (Far.kept hnb.2 (by omega))).trans (Far.lvb hM.lv (by omega) e0)).trans f1)
set_option maxHeartbeats 4000000 in
theorem aco (G:Gh) (w:World) (bx:Nat) (s:List UInt8) (w0:List UInt8) (r:List (List UInt8)) (v:ai) (vr vl ve:Value) (L:List (aa×Value)) (k:Int) (hG:Agr G w) (hT:bZ Tryz.prog G) (hm:iR s=some (w0::r,true,())) (hR:RI w bx v k vr vl ve L) (hgb:∀ b∈bx::bH vr vl ve L,G b=none) (hn:v.2.2.2.2.2.2.2.2.length<=1000000) (hi:((bs w0).toList==[105,110,118,111,105,99,101])=false) (hr:((bs w0).toList==[114,97,116,101])=false) (hl:((bs w0).toList==[108,105,110,101])=false) (he:((bs w0).toList==[101,120,116,114,97])=false) (ha:((bs w0).toList==[97,108,108])=true) (hk:(k==0)=false) {s1 t:List UInt8} {d:ah} {pl ok:Bool} {q1 q2 q3 q4:List (List UInt8)×Bool×Unit} (hm1:bU (r,false,())=some (d,q1,())) (hm2:bC q1=some (s1,q2,())) (hund:sC s1=some (t,())) (hm3:dS q2 [112,101,114,99,101,110,116]=some (pl,q3,())) (hm4:cm q3=some (ok,q4,())): Calls Tryz.prog 12 #[.pointer (some ⟨bx,0,none⟩),.string (bs s)] w fun e w'=>e= .returned (.bool ok)/\Fin w.heap.size bx (bH vr vl ve L) w w' (Bj v (pl,d,t)) 3:=by
 have e33:∀ args w,(callFunc 33 args).run Tryz.prog w= .ok (.enter 33 args) w:=enters_of Tryz.func33 (by kernel_rfl) rfl
 have e34:∀ args w,(callFunc 34 args).run Tryz.prog w= .ok (.enter 34 args) w:=enters_of Tryz.func34 (by kernel_rfl) rfl
 have e36:∀ args w,(callFunc 36 args).run Tryz.prog w= .ok (.enter 36 args) w:=enters_of Tryz.func36 (by kernel_rfl) rfl
 have e37:∀ args w,(callFunc 37 args).run Tryz.prog w= .ok (.enter 37 args) w:=enters_of Tryz.func37 (by kernel_rfl) rfl
 have e38:∀ args w,(callFunc 38 args).run Tryz.prog w= .ok (.enter 38 args) w:=enters_of Tryz.func38 (by kernel_rfl) rfl
 have e39:∀ args w,(callFunc 39 args).run Tryz.prog w= .ok (.enter 39 args) w:=enters_of Tryz.func39 (by kernel_rfl) rfl
 have mixed:Tryz.prog.follows .mixedOrders=true:=by kernel_rfl
 have late:Tryz.prog.follows .lateStores=true:=by kernel_rfl
 have t3:=Tryz.underlying3;have t4:=Tryz.underlying4;have t9:=Tryz.underlying9;have t36:=Tryz.underlying36;have t41:=Tryz.underlying41;have t91:=Tryz.underlying91;have t26:=Tryz.underlying26;have a91:=Tryz.isAgg91;have z91:=Tryz.sizeOf91;have v91:=Tryz.zeroValue91;have a48:=Tryz.isAgg48;have z48:=Tryz.sizeOf48
 have t24:=Tryz.underlying24;have a53:=Tryz.isAgg53;have z53:=Tryz.sizeOf53;have v53:=Tryz.zeroValue53;have t53:=Tryz.underlying53;have t52:=Tryz.underlying52
 have hw:=nr s _ _ hG hT hm
 go_enter Tryz.func12,Tryz.ntmps12
 go_wp2_with (go_at_fn 33;refine hw.mono ?_;rintro e w2 ⟨G2,u,rfl,hlv,hu⟩;obtain⟨b,off,cap,rfl,hcap,qJ,hfz,hcell⟩:=o9 hu hlv.agr (adW _ _);have c0:w2.cell? ⟨b,off,none⟩=some (.string (bs w0)):=hcell 0 w0 rfl;have c0':=fun o=>bf (o:=o) c0;have hR2:RI w2 bx v _ vr vl ve L:=hR.keep fun b hb=>hlv.kept.block b (hR.lt b hb);have cb2:=(bO hR2.box).1.2.2.2.2.2.2.2.2.2;have cb2':=fun o=>bf (o:=o) cb2;have hb2':=fun o=>(heap_alloc_old w2 o (hR2.lt bx (by simp))).trans hR2.box;have f9':=fun o=>(bO (hb2' o)).2 9;have hcap':r.length+1<=cap:=hcap;obtain⟨A,hA⟩:∃ A,(if cap=1 then some (⟨b,off,none⟩:Addr) else some ⟨b,off+1,none⟩)=A:=⟨_,rfl⟩;have ht1:=uq hcap' hu;rw[hA] at ht1;clear hcell)
 have hB:=Vk (u:= .slice A r.length (cap - 1)) (k':=3) hR2
 have hg2:∀ b∈bx::bH vr vl ve L,G2 b=none:=fun b hb=>(hlv.old b (hR.lt b hb)).trans (hgb b hb)
 have hmid0:=hB.mid hlv hT (hg2 bx (by simp)) ht1
 refine Calls.mono (tW hmid0 hm1) ?_
 rintro e Wc1 ⟨rfl,Gc1,hmid1⟩
 generalize (w2.alloc (.cells #[.slice A r.length (cap - 1),.bool false] 91)).setCell ⟨bx,9,none⟩ (.int .i64 3)=W5 at hB hmid1
 clear hmid0 c0 c0' cb2 cb2' hb2' f9' hR2 hu hw ht1
 go_wp2_with (first | (go_at_fn 34;refine (uX hmid1 hm2).mono ?_;rintro e Wc2 ⟨rfl,Gc2,hmid2⟩) | (go_at_fn 38;refine (TM s1 t hmid2.lv.agr hmid2.tab hund).mono ?_;rintro e Wu ⟨rfl,hku⟩))
 have hmidY:=((hmid2.kept hku).kept (bA Wu (.cells #[.bool false,.int .i64 d.1,.int .i64 d.2,.string (bs t)] 53)).2).Zs
 refine Calls.mono (LY hmidY hm3) ?_
 rintro e Wl ⟨rfl,Gl,hmidl⟩
 have hEx:=Vs (pl:=pl) hlv hB (hmid2.kept hku) hg2 hmidl
 have hyl:=(hmidl.lv.keep Wu.heap.size (by show _<(Wu.heap.push _).size;rw[adg];omega) (Nat.ne_of_gt hEx.bwy)).trans (bA Wu (.cells #[.bool false,.int .i64 d.1,.int .i64 d.2,.string (bs t)] 53)).1
 have p0:=(s7 hyl).1.1
 have p1:=(s7 hyl).2 0
 have HEX:Aside _:=hEx
 clear hEx hmidl hmidY hmid1 hmid2 hB hlv hku hR hgb hG hT hg2 hyl
 go_wp2
 refine tU (fun W=>Ext w.heap.size w W bx w2.heap.size Wu.heap.size v 3 vr vl ve L (pl,d,t) Gl q3) HEX.out ?_
 intro W hE
 have x0:W.cell? ⟨bx,8,none⟩=some ve:=(bO hE.ri.box).1.2.2.2.2.2.2.2.2.1
 obtain⟨⟨y0,y1,y2,y3⟩,_⟩:=s7 hE.ext
 obtain⟨xs,hxs⟩:∃ xs:List Value,xs=v.2.2.2.2.2.2.2.2.flatMap td:=⟨_,rfl⟩
 have HXS:Aside _:=hxs
 have hown:(W.alloc (.cells #[.bool pl,.int .i64 d.1,.int .i64 d.2,.string (bs t)] 53)).ownsRow 0 53 4 ve v.2.2.2.2.2.2.2.2.length xs:=by
  rw[hxs]
  exact cg hE.ri.rows.ext fun g hg=>heap_alloc_old _ _ (dw hE.ri.rows.ext hg)
 have hvx:some bx≠ve.ownBlock:=fun e=>hE.ri.out (bW.2 (.inr (.inl e.symm)))
 have hoX:∀ b,ve.ownBlock=some b->b∈bx::bH vr vl ve L:=fun b hb=>aeP _ (bW.2 (.inr (.inl hb)))
 have hvy:some Wu.heap.size≠ve.ownBlock:=fun e=>by
  have h1:=(hE.gh _ (hoX _ e.symm)).1
  have h2:=hE.bwy
  omega
 obtain⟨i0,hi0,hz0,hz1,hz2⟩:=info_parts Yx
 have h63:v.2.2.2.2.2.2.2.2.length+1<=maxLen:=by simp only[maxLen];omega
 have hbytes:(v.2.2.2.2.2.2.2.2.length+1)*40<=140737488355328:=by omega
 have HE:Aside _:=hE
 clear hE hxs HEX p0 p1
 refine wp_region_noPanic ?_
 refine sQ (n:=12) (S:=(fun W=>W.cell? ⟨bx,8,none⟩=some ve/\W.cell? ⟨Wu.heap.size,0,none⟩=some (.bool pl)/\W.cell? ⟨Wu.heap.size,1,none⟩=some (.int .i64 d.1)/\W.cell? ⟨Wu.heap.size,2,none⟩=some (.int .i64 d.2)/\W.cell? ⟨Wu.heap.size,3,none⟩=some (.string (bs t)))) mixed (by (simp only[afe,afg];try rfl)) rfl rfl (by kernel_rfl) ?_ (fun hHeld=> ?_)
 ·(try dsimp only);((refine And.intro ?_ (And.intro ?_ (And.intro ?_ (And.intro ?_ ?_)))<;>(repeat (first | with_reducible assumption | with_reducible refine bf ?_ | with_reducible refine bD ?_ | with_reducible refine bK hgr8 ?_ hvx | with_reducible refine bK hgr8 ?_ hvy))))
 refine tk 0 ?_
 refine tk 1 ?_
 refine tk 2 ?_
 refine tk 3 ?_
 refine tk 4 ?_
 refine tk 5 ?_
 refine tk 6 ?_
 refine dI (i:=7) rfl (by kernel_rfl) (fun K hK=> ?_)
 go_simp
 refine hK.out _ _ ?_ (fun hHeld=> ?_)
 ·(try dsimp only);((refine And.intro ?_ (And.intro ?_ (And.intro ?_ (And.intro ?_ ?_)))<;>(repeat (first | with_reducible assumption | with_reducible refine bf ?_ | with_reducible refine bD ?_ | with_reducible refine bK hgr8 ?_ hvx | with_reducible refine bK hgr8 ?_ hvy))))
 clear hK K
 try simp only[Act.put,ae5,ae7,ae6]
 refine dI (i:=8) rfl (by kernel_rfl) (fun K hK=> ?_)
 (refine step_append_lies _ (by rfl) _ _ _ (by rfl) 0 53 i0 _ 4 40 t24 hi0 hz0 hz1 hz2 rfl (by omega) ve v.2.2.2.2.2.2.2.2.length xs (by rfl) hown ⟨W.heap.size,0,none⟩ 1 1 [.bool pl,.int .i64 d.1,.int .i64 d.2,.string (bs t)] (by rfl) (by rfl) (World.news_of_block (cs:= #[.bool pl,.int .i64 d.1,.int .i64 d.2,.string (bs t)]) (t:=53) (fr:=(0,0)) (heap_alloc_new W _)) (VJ (pl,d,t)) (by omega) h63 hbytes (afI _) (W.heap.size+1) (by simp) ?_;intro g capn W8 hown8 hgr8 hat8 hlt8;have hgr9:=Nb hgr8;clear hgr8;have hgr8:=hgr9;clear hgr9;have hb8:=Cw hgr8 hvx HE.out.ri.box;have p3:=(bO hb8).1.2.2.2.2.2.2.2.2.1;have pf:=(bO hb8).2 8)
 refine hK.out _ _ ?_ (fun hHeld=> ?_)
 ·(try dsimp only);((refine And.intro ?_ (And.intro ?_ (And.intro ?_ (And.intro ?_ ?_)))<;>(repeat (first | with_reducible assumption | with_reducible refine bf ?_ | with_reducible refine bD ?_ | with_reducible refine bK hgr8 ?_ hvx | with_reducible refine bK hgr8 ?_ hvy))))
 clear hK K
 try simp only[Act.put,ae5,ae7,ae6]
 refine tk 9 ?_
 refine tk 10 ?_
 refine tk 11 ?_
 refine wpAnyH_done (by kernel_rfl) ?_ _
 refine Fw (fun K hK=> ?_)
 go_simp
 refine hK.out _ _ (NoPanic.normal ?_)
 clear hK K
 have hX:∀ b∈bx::bH vr vl ve L,b≠w2.heap.size/\Gl b=none:=fun b hb=>⟨afD (HE.out.gh b hb).1,(HE.out.gh b hb).2⟩
 have hmE:=mid_end (y:=bx) (j:=8) (c:= .slice (some ⟨g,0,none⟩) (v.2.2.2.2.2.2.2.2.length+1) capn) HE.out.mid hX hgr8 hoX (by simp)
 go_wp2_with (go_at_fn 39;refine (zC hmE hm4).mono ?_;rintro e W9 ⟨rfl,G9,hmid9⟩)
 go_ret
 refine⟨rfl, ?_⟩
 have hWs:(W.alloc (.cells #[.bool pl,.int .i64 d.1,.int .i64 d.2,.string (bs t)] 53)).heap.size=W.heap.size+1:=adg _
 have hP:=RV.abp (w:=W.alloc (.cells #[.bool pl,.int .i64 d.1,.int .i64 d.2,.string (bs t)] 53)) (w':=W8) (HE.out.ri.rows.keep fun b hb=>heap_alloc_old _ _ (HE.out.ri.rows.lt b hb)) (x:=(pl,d,t)) (g:=g) (cap:=capn) (by rw[HXS.out] at hown8;exact hown8) hgr8 (hat8.imp id fun e=>by rw[e];exact Nat.le_of_eq hWs)
 obtain⟨hP1,hP2⟩:=hP
 have hyW:=aB HE.out.ext
 have hby:=HE.out.bwy
 have hbxn:bx∉bH vr vl (.slice (some ⟨g,0,none⟩) (v.2.2.2.2.2.2.2.2.length+1) capn) L:=fun hm=>by
  rcases hP2 bx hm with h | h
  ·exact HE.out.ri.out h
  ·have h2:=(HE.out.gh bx (by simp)).1
   omega
 have hf:Far w.heap.size (bx::bH vr vl ve L) w (W8.setCell ⟨bx,8,none⟩ (.slice (some ⟨g,0,none⟩) (v.2.2.2.2.2.2.2.2.length+1) capn)):=HE.out.far.trans (JB HE.out.far.size hgr8 hoX (by simp))
 exact JC hf ⟨bz _ bx 8 _ _ _ _ hb8,hP1.keep fun b hb=>aW _ _ _ _ _ fun e=>hbxn (e ▸ hb),hbxn⟩ (fun b hb=>(hP2 b hb).imp id fun h=>by omega) (fun b hb=>(HE.out.gh b hb).1) HE.out.hN hmid9.lv (afq _)
end Go.Proofs.SeatU
set_option maxRecDepth 100000
namespace Go.Proofs.SeatU
open Go.Dn Go.Md Go.Proofs Go.RowKit Go.Shelf Go.Lib
attribute [local go_sem ↓] Go.wp_at_zero Go.wp_at_succ
set_option maxHeartbeats 4000000 in
theorem aaC (G:Gh) (w:World) (bx:Nat) (s:List UInt8) (w0:List UInt8) (r:List (List UInt8)) (v:ai) (vr vl ve:Value) (L0:List (aa×Value)) (p:aa) (h:Value) (hG:Agr G w) (hT:bZ Tryz.prog G) (hm:iR s=some (w0::r,true,())) (hR:RI w bx v 2 vr vl ve (L0++[(p,h)])) (hgb:∀ b∈bx::bH vr vl ve (L0++[(p,h)]),G b=none) (hL:L0.length<=1000000) (hn:p.2.2.2.2.2.2.2.1.length<=1000000) (hi:((bs w0).toList==[105,110,118,111,105,99,101])=false) (hr:((bs w0).toList==[114,97,116,101])=false) (hl:((bs w0).toList==[108,105,110,101])=false) (he:((bs w0).toList==[101,120,116,114,97])=true) {d:ah} {pl ok:Bool} {q1 q2 q3:List (List UInt8)×Bool×Unit} (hm1:bU (r,false,())=some (d,q1,())) (hm2:dS q1 [112,101,114,99,101,110,116]=some (pl,q2,())) (hm3:cm q2=some (ok,q3,())): Calls Tryz.prog 12 #[.pointer (some ⟨bx,0,none⟩),.string (bs s)] w fun e w'=>e= .returned (.bool ok)/\Fin w.heap.size bx (bH vr vl ve (L0++[(p,h)])) w w' (Hh v (pl,d,[])) 2:=by
 have e33:∀ args w,(callFunc 33 args).run Tryz.prog w= .ok (.enter 33 args) w:=enters_of Tryz.func33 (by kernel_rfl) rfl
 have e36:∀ args w,(callFunc 36 args).run Tryz.prog w= .ok (.enter 36 args) w:=enters_of Tryz.func36 (by kernel_rfl) rfl
 have e37:∀ args w,(callFunc 37 args).run Tryz.prog w= .ok (.enter 37 args) w:=enters_of Tryz.func37 (by kernel_rfl) rfl
 have e39:∀ args w,(callFunc 39 args).run Tryz.prog w= .ok (.enter 39 args) w:=enters_of Tryz.func39 (by kernel_rfl) rfl
 have mixed:Tryz.prog.follows .mixedOrders=true:=by kernel_rfl
 have late:Tryz.prog.follows .lateStores=true:=by kernel_rfl
 have t3:=Tryz.underlying3;have t4:=Tryz.underlying4;have t9:=Tryz.underlying9;have t36:=Tryz.underlying36;have t41:=Tryz.underlying41;have t91:=Tryz.underlying91;have t26:=Tryz.underlying26;have a91:=Tryz.isAgg91;have z91:=Tryz.sizeOf91;have v91:=Tryz.zeroValue91;have a48:=Tryz.isAgg48;have z48:=Tryz.sizeOf48
 have t24:=Tryz.underlying24;have a53:=Tryz.isAgg53;have z53:=Tryz.sizeOf53;have v53:=Tryz.zeroValue53;have t53:=Tryz.underlying53;have t52:=Tryz.underlying52;have t23:=Tryz.underlying23;have a50:=Tryz.isAgg50;have z50:=Tryz.sizeOf50;have t49:=Tryz.underlying49;have t50:=Tryz.underlying50;have t93:=Tryz.underlying93
 have hw:=nr s _ _ hG hT hm
 obtain⟨n0,hn0⟩:∃ n0,L0.length=n0:=⟨_,rfl⟩
 obtain⟨go,capo,hv,hcapo,hlc,hlf⟩:=Qg hR.rows.nst
 rw[hn0] at hv hcapo
 have HV:Aside _:=hv
 have HN0:Aside _:=hn0
 rw[hn0] at hL
 clear hlc hlf hn0
 have hn1:(0:Int)<=(n0:Int):=by omega
 have hn2:(n0:Int)<=1000000:=by omega
 have hn3:(n0:Int)<(n0:Int)+1:=by omega
 have hwr:IntKind.i64.wrap (n0:Int)=(n0:Int):=by rw[IntKind.wrap_i64];omega
 have hwr1:IntKind.i64.wrap ((n0:Int)+1 - 1)=(n0:Int):=by rw[IntKind.wrap_i64];omega
 go_enter Tryz.func12,Tryz.ntmps12
 go_wp2_with (go_at_fn 33;refine hw.mono ?_;rintro e w2 ⟨G2,u,rfl,hlv,hu⟩;obtain⟨b,off,cap,rfl,hcap,qJ,hfz,hcell⟩:=o9 hu hlv.agr (adW _ _);have c0:w2.cell? ⟨b,off,none⟩=some (.string (bs w0)):=hcell 0 w0 rfl;have c0':=fun o=>bf (o:=o) c0;have hR2:RI w2 bx v _ vr vl ve (L0++[(p,h)]):=hR.keep fun b hb=>hlv.kept.block b (hR.lt b hb);have cb2:=(bO hR2.box).1.2.2.2.2.2.2.2.2.2;have cb2':=fun o=>bf (o:=o) cb2;have hb2':=fun o=>(heap_alloc_old w2 o (hR2.lt bx (by simp))).trans hR2.box;have f9':=fun o=>(bO (hb2' o)).2 9;have hcap':r.length+1<=cap:=hcap;obtain⟨A,hA⟩:∃ A,(if cap=1 then some (⟨b,off,none⟩:Addr) else some ⟨b,off+1,none⟩)=A:=⟨_,rfl⟩;have ht1:=uq hcap' hu;rw[hA] at ht1;clear hcell)
 refine tU (fun W=>Beg w2 W bx v 2 vr vl ve (L0++[(p,h)]) (.slice A r.length (cap - 1))) (PS hR2) ?_
 intro W5 hB
 have hg2:∀ b∈bx::bH vr vl ve (L0++[(p,h)]),G2 b=none:=fun b hb=>(hlv.old b (hR.lt b hb)).trans (hgb b hb)
 have x0:W5.cell? ⟨bx,7,none⟩=some (.slice (some ⟨go,0,none⟩) (n0+1) capo):=by rw[<- HV.out];exact (bO hB.ri.box).1.2.2.2.2.2.2.2.1
 have HB:Aside _:=hB
 have HT1:Aside _:=ht1
 have HG2:Aside _:=hg2
 have HLV:Aside _:=hlv
 clear c0 c0' cb2 cb2' hb2' f9' hR2 hu hw ht1 hB hg2 hlv hv
 go_region_held3 (fun W=>W.cell? ⟨bx,7,none⟩=some (.slice (some ⟨go,0,none⟩) (n0+1) capo)) (exact x0) (fail)
 have hmid0:=HB.out.mid HLV.out hT (HG2.out bx (by simp)) HT1.out
 go_wp2_with (go_at_fn 37;refine Calls.mono (tW (Mid.same hmid0 (by rfl) (by rfl) (by rfl)) hm1) ?_;rintro e Wc1 ⟨rfl,Gc1,hmid1⟩)
 have hmidY:=(hmid1.kept (bA Wc1 (.cells #[.bool false,.int .i64 d.1,.int .i64 d.2,.string (bs [])] 53)).2).Zs
 refine Calls.mono (LY hmidY hm2) ?_
 rintro e Wl ⟨rfl,Gl,hmidl⟩
 have hEx:=Vs (pl:=pl) HLV.out HB.out hmid1 HG2.out hmidl
 have hyl:=(hmidl.lv.keep Wc1.heap.size (by show _<(Wc1.heap.push _).size;rw[adg];omega) (Nat.ne_of_gt hEx.bwy)).trans (bA Wc1 (.cells #[.bool false,.int .i64 d.1,.int .i64 d.2,.string (bs [])] 53)).1
 have p0:=(s7 hyl).1.1
 have p1:=(s7 hyl).2 0
 have HEX:Aside _:=hEx
 clear hEx hmidl hmidY hmid1 hmid0 hR hgb hG hT hyl x0
 go_wp2
 refine tU (fun W=>Ext w.heap.size w W bx w2.heap.size Wc1.heap.size v 2 vr vl ve (L0++[(p,h)]) (pl,d,[]) Gl q2) HEX.out ?_
 intro W hE
 obtain⟨go',capo',hv2,_,hlc,hlf⟩:=Qg hE.ri.rows.nst
 have ego:go'=go:=by
  have:=HV.out.symm.trans hv2
  simp only[Value.slice.injEq,Option.some.injEq,Addr.mk.injEq] at this
  exact this.1.1.symm
 rw[ego,HN0.out] at hlc
 rw[ego] at hlf
 have x0:W.cell? ⟨go,n0*11+9,none⟩=some h:=hlc 9 h rfl
 have xf:W.frozen? ⟨go,n0*11+9,none⟩=false:=hlf _
 obtain⟨⟨y0,y1,y2,y3⟩,_⟩:=s7 hE.ext
 obtain⟨xs,hxs⟩:∃ xs:List Value,xs=p.2.2.2.2.2.2.2.1.flatMap td:=⟨_,rfl⟩
 obtain⟨m0,hm0⟩:∃ m0,m0=p.2.2.2.2.2.2.2.1.length:=⟨_,rfl⟩
 have hrow:W.ownsRow 0 53 4 h m0 xs:=by
  rw[hxs,hm0]
  exact hE.ri.rows.nst.inn (p,h) (by simp)
 have hown:(W.alloc (.cells #[.bool pl,.int .i64 d.1,.int .i64 d.2,.string (bs [])] 53)).ownsRow 0 53 4 h m0 xs:=cg hrow fun g hg=>heap_alloc_old _ _ (dw hrow hg)
 have hhm:∀ g,h.ownBlock=some g->g∈gI vl (L0++[(p,h)]):=fun g hg=>aeN.2 (.inr (by rw[aea];exact aeN.2 (.inr (by simp[hg]))))
 have hoX:∀ b,h.ownBlock=some b->b∈bx::bH vr vl ve (L0++[(p,h)]):=fun b hb=>aeP _ (bW.2 (.inr (.inr (hhm b hb))))
 have hgoX:go∈bx::bH vr vl ve (L0++[(p,h)]):=aeP _ (bW.2 (.inr (.inr (aeN.2 (.inl (by rw[HV.out];simp[Value.ownBlock]))))))
 have hvx:some go≠h.ownBlock:=fun e=>by
  have hdis:=hE.ri.rows.nst.dis
  unfold gI at hdis
  rw[HV.out,aea] at hdis
  have h2:=(ae0.1 hdis).2.2 go (by simp[Value.ownBlock]) go (aeN.2 (.inr (by simp[<- e])))
  exact h2 rfl
 have hvy:some Wc1.heap.size≠h.ownBlock:=fun e=>by
  have h1:=(hE.gh _ (hoX _ e.symm)).1
  have h2:=hE.bwy
  omega
 obtain⟨i0,hi0,hz0,hz1,hz2⟩:=info_parts Yx
 have h63:m0+1<=maxLen:=by rw[hm0];simp only[maxLen];omega
 have hbytes:(m0+1)*40<=140737488355328:=by rw[hm0];omega
 have HE:Aside _:=hE
 have HXS:Aside _:=hxs
 have HM0:Aside _:=hm0
 clear hE hxs hm0 HEX p0 p1 hlc hlf hv2 ego hrow
 refine wp_region_noPanic ?_
 refine sQ (n:=10) (S:=(fun W=>W.cell? ⟨go,n0*11+9,none⟩=some h/\W.cell? ⟨Wc1.heap.size,0,none⟩=some (.bool pl)/\W.cell? ⟨Wc1.heap.size,1,none⟩=some (.int .i64 d.1)/\W.cell? ⟨Wc1.heap.size,2,none⟩=some (.int .i64 d.2)/\W.cell? ⟨Wc1.heap.size,3,none⟩=some (.string (bs [])))) mixed (by (simp only[afe,afg];try rfl)) rfl rfl (by kernel_rfl) ?_ (fun hHeld=> ?_)
 ·(try dsimp only);((refine And.intro ?_ (And.intro ?_ (And.intro ?_ (And.intro ?_ ?_)))<;>(repeat (first | with_reducible assumption | with_reducible refine bf ?_ | with_reducible refine bD ?_ | with_reducible refine bK hgr8 ?_ hvx | with_reducible refine bK hgr8 ?_ hvy))))
 refine tk 0 ?_
 refine tk 1 ?_
 refine tk 2 ?_
 refine tk 3 ?_
 refine tk 4 ?_
 refine tk 5 ?_
 refine dI (i:=6) rfl (by kernel_rfl) (fun K hK=> ?_)
 go_simp
 refine hK.out _ _ ?_ (fun hHeld=> ?_)
 ·(try dsimp only);((refine And.intro ?_ (And.intro ?_ (And.intro ?_ (And.intro ?_ ?_)))<;>(repeat (first | with_reducible assumption | with_reducible refine bf ?_ | with_reducible refine bD ?_ | with_reducible refine bK hgr8 ?_ hvx | with_reducible refine bK hgr8 ?_ hvy))))
 clear hK K
 try simp only[Act.put,ae5,ae7,ae6]
 refine dI (i:=7) rfl (by kernel_rfl) (fun K hK=> ?_)
 (refine step_append_lies _ (by rfl) _ _ _ (by rfl) 0 53 i0 _ 4 40 t24 hi0 hz0 hz1 hz2 rfl (by omega) h m0 xs (by rfl) hown ⟨W.heap.size,0,none⟩ 1 1 [.bool pl,.int .i64 d.1,.int .i64 d.2,.string (bs [])] (by rfl) (by rfl) (World.news_of_block (cs:= #[.bool pl,.int .i64 d.1,.int .i64 d.2,.string (bs [])]) (t:=53) (fr:=(0,0)) (heap_alloc_new W _)) (VJ (pl,d,[])) (by omega) h63 hbytes (afI _) (W.heap.size+1) (by simp) ?_;intro g capn W8 hown8 hgr8 hat8 hlt8;have hgr9:=Nb hgr8;clear hgr8;have hgr8:=hgr9;clear hgr9;have hb8:W8.heap[go]? =W.heap[go]? :=(hgr8.block go (aft (HE.out.ri.lt go hgoX) (bA W _).2.size) hvx).trans (heap_alloc_old _ _ (HE.out.ri.lt go hgoX));have p3:W8.cell? ⟨go,n0*11+9,none⟩=some h:=bK hgr8 (bf x0) hvx;have pf:W8.frozen? ⟨go,n0*11+9,none⟩=false:=(World.frozen?_of_block (a:=⟨go,n0*11+9,none⟩) hb8).trans xf)
 refine hK.out _ _ ?_ (fun hHeld=> ?_)
 ·(try dsimp only);((refine And.intro ?_ (And.intro ?_ (And.intro ?_ (And.intro ?_ ?_)))<;>(repeat (first | with_reducible assumption | with_reducible refine bf ?_ | with_reducible refine bD ?_ | with_reducible refine bK hgr8 ?_ hvx | with_reducible refine bK hgr8 ?_ hvy))))
 clear hK K
 try simp only[Act.put,ae5,ae7,ae6]
 refine tk 8 ?_
 refine tk 9 ?_
 refine wpAnyH_done (by kernel_rfl) ?_ _
 refine Fw (fun K hK=> ?_)
 go_simp
 refine hK.out _ _ (NoPanic.normal ?_)
 clear hK K
 have hX:∀ b∈bx::bH vr vl ve (L0++[(p,h)]),b≠w2.heap.size/\Gl b=none:=fun b hb=>⟨afD (HE.out.gh b hb).1,(HE.out.gh b hb).2⟩
 have hmE:=mid_end (y:=go) (j:=n0*11+9) (c:= .slice (some ⟨g,0,none⟩) (m0+1) capn) HE.out.mid hX hgr8 hoX hgoX
 go_wp2_with (go_at_fn 39;refine (zC hmE hm3).mono ?_;rintro e W9 ⟨rfl,G9,hmid9⟩)
 go_ret
 refine⟨rfl, ?_⟩
 have hWs:(W.alloc (.cells #[.bool pl,.int .i64 d.1,.int .i64 d.2,.string (bs [])] 53)).heap.size=W.heap.size+1:=adg _
 have hP:=RV.aa6 (w:=W.alloc (.cells #[.bool pl,.int .i64 d.1,.int .i64 d.2,.string (bs [])] 53)) (w1:=W8) (HE.out.ri.rows.keep fun b hb=>heap_alloc_old _ _ (HE.out.ri.rows.lt b hb)) (x:=(pl,d,[])) (go:=go) (capo:=capo) (g:=g) (cap:=capn) (by rw[HN0.out];exact HV.out) (by rw[HXS.out,HM0.out] at hown8;exact hown8) hgr8 (hat8.imp id fun e=>by rw[e];exact hWs.symm)
 rw[HN0.out, <- HM0.out] at hP
 obtain⟨hP1,hP2⟩:=hP
 have hyW:=aB HE.out.ext
 have hby:=HE.out.bwy
 have hbg:bx≠go:=fun e=>HE.out.ri.out (by rw[e];exact bW.2 (.inr (.inr (aeN.2 (.inl (by rw[HV.out];simp[Value.ownBlock]))))))
 have hbh:some bx≠h.ownBlock:=fun e=>HE.out.ri.out (bW.2 (.inr (.inr (hhm bx e.symm))))
 have hbxn:bx∉bH vr vl ve (L0++[(JI p (pl,d,[]),.slice (some ⟨g,0,none⟩) (m0+1) capn)]):=fun hm=>by
  rcases hP2 bx hm with h | h
  ·exact HE.out.ri.out h
  ·have h2:=(HE.out.gh bx (by simp)).1
   omega
 have hf:Far w.heap.size (bx::bH vr vl ve (L0++[(p,h)])) w (W8.setCell ⟨go,n0*11+9,none⟩ (.slice (some ⟨g,0,none⟩) (m0+1) capn)):=HE.out.far.trans (JB HE.out.far.size hgr8 hoX hgoX)
 exact JC hf ⟨(aW _ _ _ _ _ hbg).trans (Cw hgr8 hbh HE.out.ri.box),hP1,hbxn⟩ (fun b hb=>(hP2 b hb).imp id fun h=>by omega) (fun b hb=>(HE.out.gh b hb).1) HE.out.hN hmid9.lv (afq _)
end Go.Proofs.SeatU
