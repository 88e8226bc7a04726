/-
  readLine of the reference by a walk, second part. No condition.
-/
import Derived.Test.YtjlkkapojeldlaaGreatDoorYF
import Derived.Test.YtjlkkapojeldlaaGreatDoorYC
set_option maxRecDepth 100000
namespace Go.Proofs.SeatU
open Go.Dn Go.Md Go.Proofs Go.RowKit Go.Shelf Go.Lib
attribute [local go_sem ↓] Go.wp_at_zero Go.wp_at_succ
theorem Qv {w W5 Wp Wz:World} {a':ai} {v v':Value} {L L':List (aa×Value)} {S:Prop} (hk:Kept w W5) (r1:W5.heap.size<=Wp.heap.size) {os':_} (r2:os'=W5.os) {out':_} (r3:out'=W5.output) (r4:∀ b,b<W5.heap.size->b∉w.heap.size::nblk v L->Wp.heap[b]? =W5.heap[b]?) (r5:RS Wp w.heap.size a' v' L')
 (r6:∀ b∈nblk v' L',b∈nblk v L\/W5.heap.size<=b) (s2:∀ k,k≠w.heap.size+1->Wz.heap[k]? =Wp.heap[k]?) (s3:Wz.heap.size=Wp.heap.size) (hlt:∀ b∈nblk v L,b<w.heap.size) (he:S) (h5:w.heap.size+2<=W5.heap.size) (ho:Wz.os=os':=by rfl) (hp:Wz.output=out':=by rfl):
 S/\w.heap.size<=Wz.heap.size/\Wz.os=w.os/\Wz.output=w.output/\(∀ b,b<w.heap.size->b∉nblk v L->Wz.heap[b]? =w.heap[b]?)/\ku Wz v' L'/\∀ b∈nblk v' L',b∈nblk v L\/w.heap.size<=b:=by
 have hk1:=hk.size
 refine⟨he,by rw[s3];omega,ho.trans (r2.trans hk.os),hp.trans (r3.trans hk.output),fun b hb hn=> ?_,r5.nst.keep fun b hb=>s2 b fun e=> ?_,fun b hb=>(r6 b hb).imp id fun h=>by omega⟩
 ·rw[s2 b (by omega),r4 b (by omega) (fun hm=>by
   rcases UX.1 hm with h | h
   ·omega
   ·exact hn h)]
  exact hk.block b hb
 ·rcases r6 b hb with h | h
  ·have:=hlt b h;omega
  ·omega
set_option maxHeartbeats 4000000 in
theorem Qw (G:Gh) (w:World) (s w0 w1 w2 w3:List UInt8) (a:ai) (av:Option Addr) (n c:Nat) (L:List (aa×Value)) (d:ah) (m:Int) (t:List UInt8) (hG:Agr G w) (hT:bJ Tryz.prog G) (hm:strings_Split s [32]=some ([w0,w1,w2,w3],())) (hcn:bA [w0,w1,w2,w3] []=some (false,())) (hN:ku w (.slice av n c) L) (hMap:L.map (·.1)=a.2.2.2) (hgb:∀ b∈nblk (.slice av n c) L,G b=none) (hL:L.length<=1000000) (hp:((bs w0).toList==[112,97,114,99,101,108])=true) (hd:ke w3=some (d,m,())) (hund:tu w2=some (t,())): Calls Tryz.prog 15 #[.agg #[.string (bs a.1),.string (bs a.2.1),.int .i64 a.2.2.1,.slice av n c],.string (bs s),.bool false] w fun e w'=>∃ g cap,e= .returned (.tuple #[.agg #[.string (bs a.1),.string (bs a.2.1),.int .i64 a.2.2.1,.slice (some ⟨g,0,none⟩) (L.length+1) cap],.bool (m==0)])/\ w.heap.size<=w'.heap.size/\w'.os=w.os/\w'.output=w.output/\(∀ b,b<w.heap.size->b∉nblk (.slice av n c) L->w'.heap[b]? =w.heap[b]?)/\ ku w' (.slice (some ⟨g,0,none⟩) (L.length+1) cap) (L++[((w1,t,d,[]),.slice none 0 0)])/\∀ b∈nblk (.slice (some ⟨g,0,none⟩) (L.length+1) cap) (L++[((w1,t,d,([]:List aJ)),Value.slice none 0 0)]),b∈nblk (.slice av n c) L\/w.heap.size<=b:=by
 have e29:∀ args w,(callFunc 29 args).run Tryz.prog w= .ok (.enter 29 args) w:=enters_of Tryz.func29 (by kernel_rfl) rfl
 have e39:∀ args w,(callFunc 39 args).run Tryz.prog w= .ok (.enter 39 args) w:=enters_of Tryz.func39 (by kernel_rfl) rfl
 have e41:∀ args w,(callFunc 41 args).run Tryz.prog w= .ok (.enter 41 args) w:=enters_of Tryz.func41 (by kernel_rfl) rfl
 have e42:∀ args w,(callFunc 42 args).run Tryz.prog w= .ok (.enter 42 args) w:=enters_of Tryz.func42 (by kernel_rfl) rfl
 have mixed:Tryz.prog.follows .mixedOrders=true:=by kernel_rfl
 have late:Tryz.prog.follows .lateStores=true:=by kernel_rfl
 have t3:=Tryz.underlying3;have t4:=Tryz.underlying4;have t9:=Tryz.underlying9;have t22:=Tryz.underlying22;have t34:=Tryz.underlying34;have t24:=Tryz.underlying24;have a24:=Tryz.isAgg24;have z24:=Tryz.sizeOf24;have v24:=Tryz.zeroValue24;have t25:=Tryz.underlying25
 have t57:=Tryz.underlying57;have a57:=Tryz.isAgg57;have z57:=Tryz.sizeOf57;have v57:=Tryz.zeroValue57
 obtain⟨k1,k2,k3⟩:=oM w (.cells #[.string (bs a.1),.string (bs a.2.1),.int .i64 a.2.2.1,.slice av n c] 24) (.cells #[.string ⟨#[]⟩,.string ⟨#[]⟩,.int .i64 0,.slice none 0 0] 24)
 have hA0:Agr G ((w.alloc (.cells #[.string (bs a.1),.string (bs a.2.1),.int .i64 a.2.2.1,.slice av n c] 24)).alloc (.cells #[.string ⟨#[]⟩,.string ⟨#[]⟩,.int .i64 0,.slice none 0 0] 24)):=fh (fh hG _) _
 have hsp:=pP s _ hA0 hT hm
 go_enter Tryz.func15,Tryz.ntmps15
 go_wp2_with (first | (go_at_fn 29;refine hsp.mono ?_;rintro e W2 ⟨G2,u,rfl,hlv,hu⟩;obtain⟨b,off,cap,rfl,hcap,nA,hfz,hcell⟩:=iu hu hlv.agr (T8 _ _);have hct:=kM _ _ false hu hlv.agr (hT.mono hlv.le) hcn) | (go_at_fn 39;refine hct.mono ?_;rintro e W3 ⟨rfl,hk3⟩;have c0:W3.cell? ⟨b,off,none⟩=some (.string (bs w0)):=aO hk3 (hcell 0 w0 rfl);have c3:W3.cell? ⟨b,off+3,none⟩=some (.string (bs w3)):=aO hk3 (hcell 3 w3 rfl);have h1:=(hk3.block _ (aj ((hlv.kept.block _ (aj k1)).trans k1))).trans ((hlv.kept.block _ (aj k1)).trans k1);have h2:=(hk3.block _ (aj ((hlv.kept.block _ (aj k2)).trans k2))).trans ((hlv.kept.block _ (aj k2)).trans k2);obtain⟨⟨q0,q1,q2,q3⟩,_⟩:=aW h1;have hdec:=GY w3 d m (fun b o hb=>(hk3.block b (aj (hlv.agr b o hb))).trans (hlv.agr b o hb)) (hT.mono hlv.le) hd) | (go_at_fn 41;refine hdec.mono ?_;rintro e W4 ⟨rfl,hk4⟩))
 refine Cq (fun W=>W.heap[W4.heap.size]? =some (.cells #[.int .i64 d.1,.int .i64 d.2] 57 (0,0))/\Kept W4 W) ?_ ?_
 ·exact cP _ _
 intro W5 ⟨hd5,hk5⟩
 have hk25:Kept W2 W5:=hk3.trans (hk4.trans hk5)
 have hk05:Kept w W5:=k3.trans (hlv.kept.trans hk25)
 have hk35:Kept W3 W5:=hk4.trans hk5
 have hb1:=(hk35.block _ (aj h1)).trans h1
 have hr1:=(hk35.block _ (aj h2)).trans h2
 have hlt:∀ b∈nblk (.slice av n c) L,b<w.heap.size:=hN.lt
 have hR5:RS W5 w.heap.size a (.slice av n c) L:=⟨hb1,hN.keep fun b hb=>hk05.block b (hlt b hb),hMap,fun hb=>absurd (hlt _ hb) (Nat.lt_irrefl _)⟩
 have hA5:Agr G2 W5:=fun b o hb=>(hk25.block b (aj (hlv.agr b o hb))).trans (hlv.agr b o hb)
 have hT2:=hT.mono hlv.le
 have hw0:((w.alloc (.cells #[.string (bs a.1),.string (bs a.2.1),.int .i64 a.2.2.1,.slice av n c] 24)).alloc (.cells #[.string ⟨#[]⟩,.string ⟨#[]⟩,.int .i64 0,.slice none 0 0] 24)).heap.size=w.heap.size+2:=by
  show ((w.heap.push _).push _).size=_
  rw[Tr,Tr]
 have hg2:∀ b,b<w.heap.size+2->G b=none->G2 b=none:=fun b hb hg=>(hlv.old b (by rw[hw0];exact hb)).trans hg
 have hdom:∀ b,w.heap.size<=b->G b=none:=fun b hb=>by
  cases hg:G b with
  | none=>rfl
  | some o=>exact absurd (aj (hG b o hg)) (by omega)
 obtain⟨⟨q0,q1,q2,q3⟩,qf⟩:=aW hR5.box
 have f3:=qf 3
 have d1:W5.cell? ⟨b,off+1,none⟩=some (.string (bs w1)):=aO hk25 (hcell 1 w1 rfl)
 have d2:W5.cell? ⟨b,off+2,none⟩=some (.string (bs w2)):=aO hk25 (hcell 2 w2 rfl)
 have x0:W5.cell? ⟨W4.heap.size,0,none⟩=some (.int .i64 d.1):=by simp[World.cell?,hd5]
 have x1:W5.cell? ⟨W4.heap.size,1,none⟩=some (.int .i64 d.2):=by simp[World.cell?,hd5]
 have hne:b≠w.heap.size:=s9 hfz (hg2 _ (by omega) (hdom _ (Vu _)))
 have hs4:w.heap.size+2<=W4.heap.size:=by have:=hlv.kept.size;have:=hk3.size;have:=hk4.size;omega
 have hnd:W4.heap.size≠w.heap.size:=by omega
 have hvl:∀ g,(Value.slice av n c).ownBlock=some g->g<w.heap.size/\G g=none:=fun g hg=>by
  have:g∈nblk (.slice av n c) L:=UW.2 (.inl (by rw[hg];simp))
  exact⟨hlt g this,hgb g this⟩
 have hvb:some b≠(Value.slice av n c).ownBlock:=fun e=>by
  obtain⟨o,ho⟩:=hfz
  have h1:=hvl b e.symm
  rw[hg2 b (by omega) h1.2] at ho;cases ho
 have hvd:some W4.heap.size≠(Value.slice av n c).ownBlock:=fun e=>by have:=(hvl _ e.symm).1;omega
 have hvx:some w.heap.size≠(Value.slice av n c).ownBlock:=fun e=>by have:=(hvl _ e.symm).1;omega
 have hvr:some (w.heap.size+1)≠(Value.slice av n c).ownBlock:=fun e=>by have:=(hvl _ e.symm).1;omega
 have hun:∀ W,Kept W5 W->Calls Tryz.prog 42 #[.string (bs w2)] W fun e w'=>e= .returned (.string (bs t))/\Kept W w':=fun W hk=>F1 w2 t (fun b o hb=>(hk.block b (aj (hA5 b o hb))).trans (hA5 b o hb)) hT2 hund
 obtain⟨xs,hxs⟩:∃ xs:List Value,xs=L.flatMap fun q=>vg q.1 q.2:=⟨_,rfl⟩
 have HXS:Aside _:=hxs
 have hown:∀ W6,Kept W5 W6->(W6.alloc (.cells #[.string (bs w1),.string (bs t),.int .i64 d.1,.int .i64 d.2,.slice none 0 0] 60)).ownsRow 0 60 5 (.slice av n c) L.length xs:=fun W6 hk6=>by
  rw[hxs]
  exact ownsRow_same hR5.nst.row fun g hg=>(heap_alloc_old _ _ (Vw (ownsRow_lt hR5.nst.row hg) hk6.size)).trans (hk6.block g (ownsRow_lt hR5.nst.row hg))
 obtain⟨i0,hi0,hz0,hz1,hz2⟩:=info_parts PN
 have h63:L.length+1<=maxLen:=by simp only[maxLen];omega
 have hbytes:(L.length+1)*72<=140737488355328:=by omega
 have HR5:Aside _:=hR5
 have HR1:Aside _:=hr1
 have HS5:Aside (w.heap.size+2<=W5.heap.size):=Vv hs4 hk5.size
 have HK05:Aside _:=hk05
 clear hxs hcell hu hsp hct hdec hR5 hG hT hg2 hgb hk05 hk25 hk35 hA5 hA0 hlv hk3 hk4 hk5 hd5 q0 q1 q2 c0 c3 k1 k2 k3 h1 h2 hb1 hr1 hN hvl hdom hw0
 refine wp_region_noPanic ?_
 refine wp_region_last (n:=14) (S:=(fun W=>W.cell? ⟨b,off+1,none⟩=some (.string (bs w1))/\W.cell? ⟨b,off+2,none⟩=some (.string (bs w2))/\W.cell? ⟨W4.heap.size,0,none⟩=some (.int .i64 d.1)/\W.cell? ⟨W4.heap.size,1,none⟩=some (.int .i64 d.2)/\W.cell? ⟨w.heap.size,3,none⟩=some (.slice av n c))) mixed (by (simp only[Vi,Vk];try rfl)) rfl rfl (by kernel_rfl) ?_ (fun hHeld=> ?_)
 ·(try dsimp only);(refine And.intro ?_ (And.intro ?_ (And.intro ?_ (And.intro ?_ ?_)))<;>(repeat (first | with_reducible exact q3' | with_reducible exact q3 | with_reducible exact d1 | with_reducible exact d2 | with_reducible exact x0 | with_reducible exact x1 | with_reducible exact y0 | with_reducible exact y1 | with_reducible exact g1 | with_reducible exact g2 | with_reducible refine de ?_ | with_reducible refine cX ?_ | with_reducible refine cell_far hne ?_ | with_reducible refine cell_far hnd ?_ | with_reducible refine aI hgr8 ?_ hvb | with_reducible refine aI hgr8 ?_ hvd | with_reducible refine aI hgr8 ?_ hvx)))
 refine take_at (i:=0) (v:= ?_) rfl (by kernel_rfl) (by kernel_rfl) (by kernel_rfl) (fun _ _ _ h=>h) (Or.inl ⟨by rfl, ?_⟩) (by assumption) ?_
 rotate_left
 ·(intro w hSw;(try dsimp only at hSw);go_simp<;>with_reducible rfl)
 try simp only[Act.put,Vb,Vd,Vc]
 refine take_at (i:=1) (v:= ?_) rfl (by kernel_rfl) (by kernel_rfl) (by kernel_rfl) (fun _ _ _ h=>h) (Or.inl ⟨by rfl, ?_⟩) (by assumption) ?_
 rotate_left
 ·(intro w hSw;(try dsimp only at hSw);go_simp<;>with_reducible rfl)
 try simp only[Act.put,Vb,Vd,Vc]
 refine take_at (i:=2) (v:= ?_) rfl (by kernel_rfl) (by kernel_rfl) (by kernel_rfl) (fun _ _ _ h=>h) (Or.inl ⟨by rfl, ?_⟩) (by assumption) ?_
 rotate_left
 ·(intro w hSw;(try dsimp only at hSw);go_simp<;>with_reducible rfl)
 try simp only[Act.put,Vb,Vd,Vc]
 refine take_at (i:=3) (v:= ?_) rfl (by kernel_rfl) (by kernel_rfl) (by kernel_rfl) (fun _ _ _ h=>h) (Or.inl ⟨by rfl, ?_⟩) (by assumption) ?_
 rotate_left
 ·(intro w hSw;(try dsimp only at hSw);go_simp<;>with_reducible rfl)
 try simp only[Act.put,Vb,Vd,Vc]
 refine take_at (i:=4) (v:= ?_) rfl (by kernel_rfl) (by kernel_rfl) (by kernel_rfl) (fun _ _ _ h=>h) (Or.inl ⟨by rfl, ?_⟩) (by assumption) ?_
 rotate_left
 ·(intro w hSw;(try dsimp only at hSw);go_simp<;>with_reducible rfl)
 try simp only[Act.put,Vb,Vd,Vc]
 refine take_at (i:=5) (v:= ?_) rfl (by kernel_rfl) (by kernel_rfl) (by kernel_rfl) (fun _ _ _ h=>h) (Or.inl ⟨by rfl, ?_⟩) (by assumption) ?_
 rotate_left
 ·(intro w hSw;(try dsimp only at hSw);go_simp<;>with_reducible rfl)
 try simp only[Act.put,Vb,Vd,Vc]
 refine take_at (i:=6) (v:= ?_) rfl (by kernel_rfl) (by kernel_rfl) (by kernel_rfl) (fun _ _ _ h=>h) (Or.inl ⟨by rfl, ?_⟩) (by assumption) ?_
 rotate_left
 ·(intro w hSw;(try dsimp only at hSw);go_simp<;>with_reducible rfl)
 try simp only[Act.put,Vb,Vd,Vc]
 refine take_at (i:=7) (v:= ?_) rfl (by kernel_rfl) (by kernel_rfl) (by kernel_rfl) (fun _ _ _ h=>h) (Or.inl ⟨by rfl, ?_⟩) (by assumption) ?_
 rotate_left
 ·(intro w hSw;(try dsimp only at hSw);go_simp<;>with_reducible rfl)
 try simp only[Act.put,Vb,Vd,Vc]
 refine take_at (i:=9) (v:= ?_) rfl (by kernel_rfl) (by kernel_rfl) (by kernel_rfl) (fun _ _ _ h=>h) (Or.inl ⟨by rfl, ?_⟩) (by assumption) ?_
 rotate_left
 ·(intro w hSw;(try dsimp only at hSw);go_simp<;>with_reducible rfl)
 try simp only[Act.put,Vb,Vd,Vc]
 refine step_at (i:=8) rfl (by kernel_rfl) (fun K hK=> ?_)
 go_simp
 (go_at_fn 42;refine (hun _ (by exact⟨Vu _,rfl,rfl,fun _ _=>rfl⟩)).mono ?_;rintro e W6 ⟨rfl,hk6'⟩;have hk6:Kept W5 W6:=⟨hk6'.size,hk6'.os,hk6'.output,hk6'.block⟩;clear hk6';have q3':=aO hk6 q3;have q3n:=World.new_ne W6 _ q3';have q3o:=de (o:= .cells #[.string (bs w1),.string (bs t),.int .i64 d.1,.int .i64 d.2,.slice none 0 0] 60) q3';have y0:=aO hk6 x0;have y1:=aO hk6 x1;have g1:=aO hk6 d1;have g2:=aO hk6 d2)
 refine hK.out _ _ ?_ (fun hHeld=> ?_)
 ·(try dsimp only);(refine And.intro ?_ (And.intro ?_ (And.intro ?_ (And.intro ?_ ?_)))<;>(repeat (first | with_reducible exact q3' | with_reducible exact q3 | with_reducible exact d1 | with_reducible exact d2 | with_reducible exact x0 | with_reducible exact x1 | with_reducible exact y0 | with_reducible exact y1 | with_reducible exact g1 | with_reducible exact g2 | with_reducible refine de ?_ | with_reducible refine cX ?_ | with_reducible refine cell_far hne ?_ | with_reducible refine cell_far hnd ?_ | with_reducible refine aI hgr8 ?_ hvb | with_reducible refine aI hgr8 ?_ hvd | with_reducible refine aI hgr8 ?_ hvx)))
 clear hK K
 try simp only[Act.put,Vb,Vd,Vc]
 refine take_at (i:=10) (v:= ?_) rfl (by kernel_rfl) (by kernel_rfl) (by kernel_rfl) (fun _ _ _ h=>h) (Or.inl ⟨by rfl, ?_⟩) (by assumption) ?_
 rotate_left
 ·(intro w hSw;(try dsimp only at hSw);go_simp<;>with_reducible rfl)
 try simp only[Act.put,Vb,Vd,Vc]
 refine step_at (i:=11) rfl (by kernel_rfl) (fun K hK=> ?_)
 go_simp
 refine hK.out _ _ ?_ (fun hHeld=> ?_)
 ·(try dsimp only);(refine And.intro ?_ (And.intro ?_ (And.intro ?_ (And.intro ?_ ?_)))<;>(repeat (first | with_reducible exact q3' | with_reducible exact q3 | with_reducible exact d1 | with_reducible exact d2 | with_reducible exact x0 | with_reducible exact x1 | with_reducible exact y0 | with_reducible exact y1 | with_reducible exact g1 | with_reducible exact g2 | with_reducible refine de ?_ | with_reducible refine cX ?_ | with_reducible refine cell_far hne ?_ | with_reducible refine cell_far hnd ?_ | with_reducible refine aI hgr8 ?_ hvb | with_reducible refine aI hgr8 ?_ hvd | with_reducible refine aI hgr8 ?_ hvx)))
 clear hK K
 try simp only[Act.put,Vb,Vd,Vc]
 refine step_at (i:=12) rfl (by kernel_rfl) (fun K hK=> ?_)
 (refine step_append_lies _ (by rfl) _ _ _ (by rfl) 0 60 i0 _ 5 72 t22 hi0 hz0 hz1 hz2 rfl (by omega) (.slice av n c) L.length xs (by rfl) (hown W6 hk6) ⟨W6.heap.size,0,none⟩ 1 1 [.string (bs w1),.string (bs t),.int .i64 d.1,.int .i64 d.2,.slice none 0 0] (by rfl) (by rfl) (World.news_of_block (cs:= #[.string (bs w1),.string (bs t),.int .i64 d.1,.int .i64 d.2,.slice none 0 0]) (t:=60) (fr:=(0,0)) (heap_alloc_new W6 _)) (NN (w1,t,d,[]) none 0 0) (by omega) h63 hbytes (VI _) (W6.heap.size+1) (by simp) ?_;intro g capn W8 hown8 hgr8 hat8 hlt8;have hb8:=lg hk6 hgr8 hvx HR5.out.box;have hr8:=lg hk6 hgr8 hvr HR1.out;have p3:=(aW hb8).1.2.2.2;have pf:=(aW hb8).2 3)
 refine hK.out _ _ ?_ (fun hHeld=> ?_)
 ·(try dsimp only);(refine And.intro ?_ (And.intro ?_ (And.intro ?_ (And.intro ?_ ?_)))<;>(repeat (first | with_reducible exact q3' | with_reducible exact q3 | with_reducible exact d1 | with_reducible exact d2 | with_reducible exact x0 | with_reducible exact x1 | with_reducible exact y0 | with_reducible exact y1 | with_reducible exact g1 | with_reducible exact g2 | with_reducible refine de ?_ | with_reducible refine cX ?_ | with_reducible refine cell_far hne ?_ | with_reducible refine cell_far hnd ?_ | with_reducible refine aI hgr8 ?_ hvb | with_reducible refine aI hgr8 ?_ hvd | with_reducible refine aI hgr8 ?_ hvx)))
 clear hK K
 try simp only[Act.put,Vb,Vd,Vc]
 refine take_at (i:=13) (v:= ?_) rfl (by kernel_rfl) (by kernel_rfl) (by kernel_rfl) (fun _ _ _ h=>h) (Or.inl ⟨by rfl, ?_⟩) (by assumption) ?_
 rotate_left
 ·(intro w hSw;(try dsimp only at hSw);go_simp<;>with_reducible rfl)
 try simp only[Act.put,Vb,Vd,Vc]
 refine wpAnyH_done (by kernel_rfl) ?_ _
 refine last_out (fun K hK=> ?_)
 go_simp
 refine hK.out _ _ (NoPanic.normal ?_)
 clear hK K
 all_goals
  obtain⟨r1,r2,r3,r4,r5,r6⟩:=Mb HR5.out hk6 HXS.out hown8 hgr8 hat8
  obtain⟨⟨y4,y5,y6,y7⟩,_⟩:=aW r5.box
  have hr9:=(setCell_far W8 w.heap.size 3 (w.heap.size+1) (.slice (some ⟨g,0,none⟩) (L.length+1) capn) (by omega)).trans hr8
  obtain⟨⟨z4,z5,z6,z7⟩,zf⟩:=aW hr9
  have zf0:=zf 0;have zf1:=zf 1;have zf2:=zf 2;have zf3:=zf 3
 all_goals
  have R4:Aside _:=r4
  have R5':Aside _:=r5
  have R6:Aside _:=r6
  have HR9:Aside _:=hr9
  clear r4 r5 r6 hr9
 all_goals go_wp2
 all_goals
  obtain⟨s1,s2,s3⟩:=qE (.string (bs a.1)) (.string (bs a.2.1)) (.int .i64 a.2.2.1) (.slice (some ⟨g,0,none⟩) (L.length+1) capn) HR9.out
  refine bodyPost_ret (so (p:=6) (q:=7) (ty:=24) (b:=w.heap.size+1) (v:= .agg #[.string (bs a.1),.string (bs a.2.1),.int .i64 a.2.2.1,.slice (some ⟨g,0,none⟩) (L.length+1) capn]) (by kernel_rfl) _ _ _ (by rfl) (jw s1)) rfl ?_
  exact⟨g,capn,Qv HK05.out r1 r2 r3 R4.out R5'.out R6.out s2 s3 hlt (by rfl) HS5.out⟩
end Go.Proofs.SeatU
set_option maxRecDepth 100000
namespace Go.Proofs.SeatU
open Go.Dn Go.Md Go.Proofs Go.RowKit Go.Shelf Go.Lib
attribute [local go_sem ↓] Go.wp_at_zero Go.wp_at_succ
def SL (w:World) (go n0 capo:Nat) (L0:List (aa×Value)) (p:aa) (h:Value) (w1 w2 t:List UInt8) (d:ah) (a:ai) (m:Int) (e:Ending) (w':World):Prop:=∃ h',e= .returned (.tuple #[.agg #[.string (bs a.1),.string (bs a.2.1),.int .i64 a.2.2.1,.slice (some ⟨go,0,none⟩) (n0+1) capo],.bool (m==0)])/\
 w.heap.size<=w'.heap.size/\w'.os=w.os/\w'.output=w.output/\(∀ b,b<w.heap.size->b∉nblk (.slice (some ⟨go,0,none⟩) (n0+1) capo) (L0++[(p,h)])->w'.heap[b]? =w.heap[b]?)/\
 ku w' (.slice (some ⟨go,0,none⟩) (n0+1) capo) (L0++[((p.1,p.2.1,p.2.2.1,p.2.2.2++[(w1,w2,t,d)]),h')])/\∀ b∈nblk (.slice (some ⟨go,0,none⟩) (n0+1) capo) (L0++[((p.1,p.2.1,p.2.2.1,p.2.2.2++[(w1,w2,t,d)]),h')]),b∈nblk (.slice (some ⟨go,0,none⟩) (n0+1) capo) (L0++[(p,h)])\/w.heap.size<=b
set_option maxHeartbeats 4000000 in
theorem O2 (G:Gh) (w:World) (s w0 w1 w2 w3 w4:List UInt8) (a:ai) (go n0 capo:Nat) (L0:List (aa×Value)) (p:aa) (h:Value) (d:ah) (m:Int) (t:List UInt8) (hG:Agr G w) (hT:bJ Tryz.prog G) (hm:strings_Split s [32]=some ([w0,w1,w2,w3,w4],())) (hcn:bA [w0,w1,w2,w3,w4] []=some (false,())) (hN:ku w (.slice (some ⟨go,0,none⟩) (n0+1) capo) (L0++[(p,h)])) (hn0:n0=L0.length) (hMap:(L0++[(p,h)]).map (·.1)=a.2.2.2) (hgb:∀ b∈nblk (.slice (some ⟨go,0,none⟩) (n0+1) capo) (L0++[(p,h)]),G b=none) (hL:L0.length<=1000000) (hK:p.2.2.2.length<=1000000) (hcc:((bs w0).toList==[99,111,110,116,101,110,116])=true) (hd:ke w4=some (d,m,())) (hund:tu w3=some (t,())): Calls Tryz.prog 15 #[.agg #[.string (bs a.1),.string (bs a.2.1),.int .i64 a.2.2.1,.slice (some ⟨go,0,none⟩) (n0+1) capo],.string (bs s),.bool false] w fun e w'=>SL w go n0 capo L0 p h w1 w2 t d a m e w':=by
 have e29:∀ args w,(callFunc 29 args).run Tryz.prog w= .ok (.enter 29 args) w:=enters_of Tryz.func29 (by kernel_rfl) rfl
 have e39:∀ args w,(callFunc 39 args).run Tryz.prog w= .ok (.enter 39 args) w:=enters_of Tryz.func39 (by kernel_rfl) rfl
 have e41:∀ args w,(callFunc 41 args).run Tryz.prog w= .ok (.enter 41 args) w:=enters_of Tryz.func41 (by kernel_rfl) rfl
 have e42:∀ args w,(callFunc 42 args).run Tryz.prog w= .ok (.enter 42 args) w:=enters_of Tryz.func42 (by kernel_rfl) rfl
 have mixed:Tryz.prog.follows .mixedOrders=true:=by kernel_rfl
 have late:Tryz.prog.follows .lateStores=true:=by kernel_rfl
 have t3:=Tryz.underlying3;have t4:=Tryz.underlying4;have t9:=Tryz.underlying9;have t22:=Tryz.underlying22;have t34:=Tryz.underlying34;have t24:=Tryz.underlying24;have a24:=Tryz.isAgg24;have z24:=Tryz.sizeOf24;have v24:=Tryz.zeroValue24;have t25:=Tryz.underlying25
 have t60:=Tryz.underlying60;have z60:=Tryz.sizeOf60;have a60:=Tryz.isAgg60;have t58:=Tryz.underlying58
 have hn1:(0:Int)<=(n0:Int):=by omega
 have hn2:(n0:Int)<=1000000:=by omega
 have hn3:(n0:Int)<(n0:Int)+1:=by omega
 have hwr:IntKind.i64.wrap (n0:Int)=(n0:Int):=by rw[IntKind.wrap_i64];omega
 have hwr1:IntKind.i64.wrap ((n0:Int)+1 - 1)=(n0:Int):=by rw[IntKind.wrap_i64];omega
 have HN0:Aside _:=hn0
 clear hn0
 have t57:=Tryz.underlying57;have a57:=Tryz.isAgg57;have z57:=Tryz.sizeOf57;have v57:=Tryz.zeroValue57
 obtain⟨k1,k2,k3⟩:=oM w (.cells #[.string (bs a.1),.string (bs a.2.1),.int .i64 a.2.2.1,.slice (some ⟨go,0,none⟩) (n0+1) capo] 24) (.cells #[.string ⟨#[]⟩,.string ⟨#[]⟩,.int .i64 0,.slice none 0 0] 24)
 have hA0:Agr G ((w.alloc (.cells #[.string (bs a.1),.string (bs a.2.1),.int .i64 a.2.2.1,.slice (some ⟨go,0,none⟩) (n0+1) capo] 24)).alloc (.cells #[.string ⟨#[]⟩,.string ⟨#[]⟩,.int .i64 0,.slice none 0 0] 24)):=fh (fh hG _) _
 have hsp:=pP s _ hA0 hT hm
 go_enter Tryz.func15,Tryz.ntmps15
 go_wp2_with (first | (go_at_fn 29;refine hsp.mono ?_;rintro e W2 ⟨G2,u,rfl,hlv,hu⟩;obtain⟨b,off,cap,rfl,hcap,nA,hfz,hcell⟩:=iu hu hlv.agr (T8 _ _);have hct:=kM _ _ false hu hlv.agr (hT.mono hlv.le) hcn) | (go_at_fn 39;refine hct.mono ?_;rintro e W3 ⟨rfl,hk3⟩;have c0:W3.cell? ⟨b,off,none⟩=some (.string (bs w0)):=aO hk3 (hcell 0 w0 rfl);have c4:W3.cell? ⟨b,off+4,none⟩=some (.string (bs w4)):=aO hk3 (hcell 4 w4 rfl);have h1:=(hk3.block _ (aj ((hlv.kept.block _ (aj k1)).trans k1))).trans ((hlv.kept.block _ (aj k1)).trans k1);have h2:=(hk3.block _ (aj ((hlv.kept.block _ (aj k2)).trans k2))).trans ((hlv.kept.block _ (aj k2)).trans k2);obtain⟨⟨q0,q1,q2,q3⟩,_⟩:=aW h1;have hdec:=GY w4 d m (fun b o hb=>(hk3.block b (aj (hlv.agr b o hb))).trans (hlv.agr b o hb)) (hT.mono hlv.le) hd) | (go_at_fn 41;refine hdec.mono ?_;rintro e W4 ⟨rfl,hk4⟩))
 refine Cq (fun W=>W.heap[W4.heap.size]? =some (.cells #[.int .i64 d.1,.int .i64 d.2] 57 (0,0))/\Kept W4 W) ?_ ?_
 ·exact cP _ _
 intro W5 ⟨hd5,hk5⟩
 have hk25:Kept W2 W5:=hk3.trans (hk4.trans hk5)
 have hk05:Kept w W5:=k3.trans (hlv.kept.trans hk25)
 have hk35:Kept W3 W5:=hk4.trans hk5
 have hb1:=(hk35.block _ (aj h1)).trans h1
 have hr1:=(hk35.block _ (aj h2)).trans h2
 have hlt:∀ b∈nblk (.slice (some ⟨go,0,none⟩) (n0+1) capo) (L0++[(p,h)]),b<w.heap.size:=hN.lt
 have hR5:RS W5 w.heap.size a (.slice (some ⟨go,0,none⟩) (n0+1) capo) (L0++[(p,h)]):=⟨hb1,hN.keep fun b hb=>hk05.block b (hlt b hb),hMap,fun hb=>absurd (hlt _ hb) (Nat.lt_irrefl _)⟩
 have hA5:Agr G2 W5:=fun b o hb=>(hk25.block b (aj (hlv.agr b o hb))).trans (hlv.agr b o hb)
 have hT2:=hT.mono hlv.le
 have hw0:((w.alloc (.cells #[.string (bs a.1),.string (bs a.2.1),.int .i64 a.2.2.1,.slice (some ⟨go,0,none⟩) (n0+1) capo] 24)).alloc (.cells #[.string ⟨#[]⟩,.string ⟨#[]⟩,.int .i64 0,.slice none 0 0] 24)).heap.size=w.heap.size+2:=by
  show ((w.heap.push _).push _).size=_
  rw[Tr,Tr]
 have hg2:∀ b,b<w.heap.size+2->G b=none->G2 b=none:=fun b hb hg=>(hlv.old b (by rw[hw0];exact hb)).trans hg
 have hdom:∀ b,w.heap.size<=b->G b=none:=fun b hb=>by
  cases hg:G b with
  | none=>rfl
  | some o=>exact absurd (aj (hG b o hg)) (by omega)
 obtain⟨⟨q0,q1,q2,q3⟩,qf⟩:=aW hR5.box
 have f3:=qf 3
 have d1:W5.cell? ⟨b,off+1,none⟩=some (.string (bs w1)):=aO hk25 (hcell 1 w1 rfl)
 have d2:W5.cell? ⟨b,off+2,none⟩=some (.string (bs w2)):=aO hk25 (hcell 2 w2 rfl)
 have x0:W5.cell? ⟨W4.heap.size,0,none⟩=some (.int .i64 d.1):=by simp[World.cell?,hd5]
 have x1:W5.cell? ⟨W4.heap.size,1,none⟩=some (.int .i64 d.2):=by simp[World.cell?,hd5]
 have d3:W5.cell? ⟨b,off+3,none⟩=some (.string (bs w3)):=aO hk25 (hcell 3 w3 rfl)
 have hgom:go∈nblk (.slice (some ⟨go,0,none⟩) (n0+1) capo) (L0++[(p,h)]):=UW.2 (.inl (by simp[Value.ownBlock]))
 have hgol:=hlt go hgom
 have hne:b≠go:=s9 hfz (hg2 _ (by omega) (hgb go hgom))
 have hs4:w.heap.size+2<=W4.heap.size:=by have:=hlv.kept.size;have:=hk3.size;have:=hk4.size;omega
 have hnd:W4.heap.size≠go:=by omega
 have hhm:∀ g,h.ownBlock=some g->g∈nblk (.slice (some ⟨go,0,none⟩) (n0+1) capo) (L0++[(p,h)]):=fun g hg=>UW.2 (.inr (by rw[Uj];exact UW.2 (.inr (by simp[hg]))))
 have hvb:some b≠h.ownBlock:=fun e=>by
  obtain⟨o,ho⟩:=hfz
  have h1:=hhm b e.symm
  have h2:=hlt b h1
  rw[hg2 b (by omega) (hgb b h1)] at ho;cases ho
 have hvd:some W4.heap.size≠h.ownBlock:=fun e=>by have:=hlt _ (hhm _ e.symm);omega
 have hvr:some (w.heap.size+1)≠h.ownBlock:=fun e=>by have:=hlt _ (hhm _ e.symm);omega
 have hvs:some w.heap.size≠h.ownBlock:=fun e=>by have:=hlt _ (hhm _ e.symm);omega
 have hvx:some go≠h.ownBlock:=fun e=>by
  have hdis:=hN.dis
  unfold nblk at hdis
  rw[Uj] at hdis
  have h2:=(U7.1 hdis).2.2 go (by simp[Value.ownBlock]) go (UW.2 (.inr (by simp[<- e])))
  exact h2 rfl
 have hun:∀ W,Kept W5 W->Calls Tryz.prog 42 #[.string (bs w3)] W fun e w'=>e= .returned (.string (bs t))/\Kept W w':=fun W hk=>F1 w3 t (fun b o hb=>(hk.block b (aj (hA5 b o hb))).trans (hA5 b o hb)) hT2 hund
 have hrow:W5.ownsRow 0 64 5 h p.2.2.2.length (p.2.2.2.flatMap rq):=hR5.nst.inn (p,h) (by simp)
 obtain⟨xs,hxs⟩:∃ xs:List Value,xs=p.2.2.2.flatMap rq:=⟨_,rfl⟩
 obtain⟨m0,hm0⟩:∃ m0,m0=p.2.2.2.length:=⟨_,rfl⟩
 rw[<- hxs, <- hm0] at hrow
 have hown:∀ W6,Kept W5 W6->(W6.alloc (.cells #[.string (bs w1),.string (bs w2),.string (bs t),.int .i64 d.1,.int .i64 d.2] 64)).ownsRow 0 64 5 h m0 xs:=fun W6 hk6=>
  ownsRow_same hrow fun g hg=>(heap_alloc_old _ _ (Vw (ownsRow_lt hrow hg) hk6.size)).trans (hk6.block g (ownsRow_lt hrow hg))
 obtain⟨i0,hi0,hz0,hz1,hz2⟩:=info_parts PO
 have h63:m0+1<=maxLen:=by rw[hm0];simp only[maxLen];omega
 have hbytes:(m0+1)*64<=140737488355328:=by rw[hm0];omega
 obtain⟨go',capo',hv2,hlc,hlf⟩:=xP hR5.nst
 have ego:go'=go:=by
  simp only[Value.slice.injEq,Option.some.injEq,Addr.mk.injEq] at hv2
  exact hv2.1.1.symm
 rw[ego, <- HN0.out] at hlc
 rw[ego] at hlf
 have qh:W5.cell? ⟨go,n0*5+4,none⟩=some h:=hlc 4 h rfl
 obtain⟨og,hog⟩:∃ o,W5.heap[go]? =some o:=by
  cases ho:W5.heap[go]? with
  | none=>simp[World.cell?,ho] at qh
  | some o=>exact⟨o,rfl⟩
 have HOG:Aside _:=hog
 have HLF:Aside (W5.frozen? ⟨go,n0*5+4,none⟩=false):=hlf _
 have HXS:Aside _:=hxs
 have HM0:Aside _:=hm0
 have hsx:w.heap.size≠go:=by omega
 have HR5:Aside _:=hR5
 have HR1:Aside _:=hr1
 have HS5:Aside (w.heap.size+2<=W5.heap.size):=Vv hs4 hk5.size
 have HK05:Aside _:=hk05
 clear hlf hlc hv2 ego hrow hxs hm0 hhm hgom hog hcell hu hsp hct hdec hR5 hG hT hg2 hgb hk05 hk25 hk35 hA5 hA0 hlv hk3 hk4 hk5 hd5 q0 q1 q2 c0 c4 k1 k2 k3 h1 h2 hb1 hr1 hN hdom hw0
 refine wp_region_noPanic ?_
 refine wp_region_last (n:=27) (S:=(fun W=>W.cell? ⟨b,off+1,none⟩=some (.string (bs w1))/\W.cell? ⟨b,off+2,none⟩=some (.string (bs w2))/\W.cell? ⟨b,off+3,none⟩=some (.string (bs w3))/\W.cell? ⟨W4.heap.size,0,none⟩=some (.int .i64 d.1)/\W.cell? ⟨W4.heap.size,1,none⟩=some (.int .i64 d.2)/\W.cell? ⟨w.heap.size,3,none⟩=some (.slice (some ⟨go,0,none⟩) (n0+1) capo)/\W.cell? ⟨go,n0*5+4,none⟩=some h)) mixed (by (simp only[Vi,Vk];try rfl)) rfl rfl (by kernel_rfl) ?_ (fun hHeld=> ?_)
 ·(try dsimp only);(refine And.intro ?_ (And.intro ?_ (And.intro ?_ (And.intro ?_ (And.intro ?_ (And.intro ?_ ?_)))))<;>(repeat (first | with_reducible exact qh' | with_reducible exact qh | with_reducible exact d1 | with_reducible exact d2 | with_reducible exact d3 | with_reducible exact x0 | with_reducible exact x1 | with_reducible exact q3 | with_reducible exact y0 | with_reducible exact y1 | with_reducible exact g1 | with_reducible exact g2 | with_reducible exact g3 | with_reducible exact q4 | with_reducible refine de ?_ | with_reducible refine cX ?_ | with_reducible refine cell_far hne ?_ | with_reducible refine cell_far hnd ?_ | with_reducible refine cell_far hsx ?_ | with_reducible refine aI hgr8 ?_ hvb | with_reducible refine aI hgr8 ?_ hvd | with_reducible refine aI hgr8 ?_ hvs | with_reducible refine aI hgr8 ?_ hvx)))
 refine take_at (i:=0) (v:= ?_) rfl (by kernel_rfl) (by kernel_rfl) (by kernel_rfl) (fun _ _ _ h=>h) (Or.inl ⟨by rfl, ?_⟩) (by assumption) ?_
 rotate_left
 ·(intro w hSw;(try dsimp only at hSw);go_simp<;>with_reducible rfl)
 try simp only[Act.put,Vb,Vd,Vc]
 refine take_at (i:=1) (v:= ?_) rfl (by kernel_rfl) (by kernel_rfl) (by kernel_rfl) (fun _ _ _ h=>h) (Or.inl ⟨by rfl, ?_⟩) (by assumption) ?_
 rotate_left
 ·(intro w hSw;(try dsimp only at hSw);go_simp<;>with_reducible rfl)
 try simp only[Act.put,Vb,Vd,Vc]
 refine take_at (i:=2) (v:= ?_) rfl (by kernel_rfl) (by kernel_rfl) (by kernel_rfl) (fun _ _ _ h=>h) (Or.inl ⟨by rfl, ?_⟩) (by assumption) ?_
 rotate_left
 ·(intro w hSw;(try dsimp only at hSw);go_simp<;>with_reducible rfl)
 try simp only[Act.put,Vb,Vd,Vc]
 refine take_at (i:=3) (v:= ?_) rfl (by kernel_rfl) (by kernel_rfl) (by kernel_rfl) (fun _ _ _ h=>h) (Or.inl ⟨by rfl, ?_⟩) (by assumption) ?_
 rotate_left
 ·(intro w hSw;(try dsimp only at hSw);go_simp<;>with_reducible rfl)
 try simp only[Act.put,Vb,Vd,Vc]
 refine take_at (i:=4) (v:= ?_) rfl (by kernel_rfl) (by kernel_rfl) (by kernel_rfl) (fun _ _ _ h=>h) (Or.inl ⟨by rfl, ?_⟩) (by assumption) ?_
 rotate_left
 ·(intro w hSw;(try dsimp only at hSw);go_simp<;>with_reducible rfl)
 try simp only[Act.put,Vb,Vd,Vc]
 refine take_at (i:=5) (v:= ?_) rfl (by kernel_rfl) (by kernel_rfl) (by kernel_rfl) (fun _ _ _ h=>h) (Or.inl ⟨by rfl, ?_⟩) (by assumption) ?_
 rotate_left
 ·(intro w hSw;(try dsimp only at hSw);go_simp<;>with_reducible rfl)
 try simp only[Act.put,Vb,Vd,Vc]
 refine take_at (i:=6) (v:= ?_) rfl (by kernel_rfl) (by kernel_rfl) (by kernel_rfl) (fun _ _ _ h=>h) (Or.inl ⟨by rfl, ?_⟩) (by assumption) ?_
 rotate_left
 ·(intro w hSw;(try dsimp only at hSw);go_simp<;>with_reducible rfl)
 try simp only[Act.put,Vb,Vd,Vc]
 refine take_at (i:=7) (v:= ?_) rfl (by kernel_rfl) (by kernel_rfl) (by kernel_rfl) (fun _ _ _ h=>h) (Or.inl ⟨by rfl, ?_⟩) (by assumption) ?_
 rotate_left
 ·(intro w hSw;(try dsimp only at hSw);go_simp<;>with_reducible rfl)
 try simp only[Act.put,Vb,Vd,Vc]
 refine take_at (i:=8) (v:= ?_) rfl (by kernel_rfl) (by kernel_rfl) (by kernel_rfl) (fun _ _ _ h=>h) (Or.inl ⟨by rfl, ?_⟩) (by assumption) ?_
 rotate_left
 ·(intro w hSw;(try dsimp only at hSw);go_simp<;>with_reducible rfl)
 try simp only[Act.put,Vb,Vd,Vc]
 refine take_at (i:=9) (v:= ?_) rfl (by kernel_rfl) (by kernel_rfl) (by kernel_rfl) (fun _ _ _ h=>h) (Or.inl ⟨by rfl, ?_⟩) (by assumption) ?_
 rotate_left
 ·(intro w hSw;(try dsimp only at hSw);go_simp<;>with_reducible rfl)
 try simp only[Act.put,Vb,Vd,Vc]
 refine take_at (i:=10) (v:= ?_) rfl (by kernel_rfl) (by kernel_rfl) (by kernel_rfl) (fun _ _ _ h=>h) (Or.inl ⟨by rfl, ?_⟩) (by assumption) ?_
 rotate_left
 ·(intro w hSw;(try dsimp only at hSw);go_simp<;>with_reducible rfl)
 try simp only[Act.put,Vb,Vd,Vc]
 refine take_at (i:=11) (v:= ?_) rfl (by kernel_rfl) (by kernel_rfl) (by kernel_rfl) (fun _ _ _ h=>h) (Or.inl ⟨by rfl, ?_⟩) (by assumption) ?_
 rotate_left
 ·(intro w hSw;(try dsimp only at hSw);go_simp<;>with_reducible rfl)
 try simp only[Act.put,Vb,Vd,Vc]
 refine take_at (i:=12) (v:= ?_) rfl (by kernel_rfl) (by kernel_rfl) (by kernel_rfl) (fun _ _ _ h=>h) (Or.inl ⟨by rfl, ?_⟩) (by assumption) ?_
 rotate_left
 ·(intro w hSw;(try dsimp only at hSw);go_simp<;>with_reducible rfl)
 try simp only[Act.put,Vb,Vd,Vc]
 refine take_at (i:=13) (v:= ?_) rfl (by kernel_rfl) (by kernel_rfl) (by kernel_rfl) (fun _ _ _ h=>h) (Or.inl ⟨by rfl, ?_⟩) (by assumption) ?_
 rotate_left
 ·(intro w hSw;(try dsimp only at hSw);go_simp<;>with_reducible rfl)
 try simp only[Act.put,Vb,Vd,Vc]
 refine take_at (i:=14) (v:= ?_) rfl (by kernel_rfl) (by kernel_rfl) (by kernel_rfl) (fun _ _ _ h=>h) (Or.inl ⟨by rfl, ?_⟩) (by assumption) ?_
 rotate_left
 ·(intro w hSw;(try dsimp only at hSw);go_simp<;>with_reducible rfl)
 try simp only[Act.put,Vb,Vd,Vc]
 refine take_at (i:=15) (v:= ?_) rfl (by kernel_rfl) (by kernel_rfl) (by kernel_rfl) (fun _ _ _ h=>h) (Or.inl ⟨by rfl, ?_⟩) (by assumption) ?_
 rotate_left
 ·(intro w hSw;(try dsimp only at hSw);go_simp<;>with_reducible rfl)
 try simp only[Act.put,Vb,Vd,Vc]
 refine take_at (i:=16) (v:= ?_) rfl (by kernel_rfl) (by kernel_rfl) (by kernel_rfl) (fun _ _ _ h=>h) (Or.inl ⟨by rfl, ?_⟩) (by assumption) ?_
 rotate_left
 ·(intro w hSw;(try dsimp only at hSw);go_simp<;>with_reducible rfl)
 try simp only[Act.put,Vb,Vd,Vc]
 refine take_at (i:=17) (v:= ?_) rfl (by kernel_rfl) (by kernel_rfl) (by kernel_rfl) (fun _ _ _ h=>h) (Or.inl ⟨by rfl, ?_⟩) (by assumption) ?_
 rotate_left
 ·(intro w hSw;(try dsimp only at hSw);go_simp<;>with_reducible rfl)
 try simp only[Act.put,Vb,Vd,Vc]
 refine take_at (i:=18) (v:= ?_) rfl (by kernel_rfl) (by kernel_rfl) (by kernel_rfl) (fun _ _ _ h=>h) (Or.inl ⟨by rfl, ?_⟩) (by assumption) ?_
 rotate_left
 ·(intro w hSw;(try dsimp only at hSw);go_simp<;>with_reducible rfl)
 try simp only[Act.put,Vb,Vd,Vc]
 refine take_at (i:=19) (v:= ?_) rfl (by kernel_rfl) (by kernel_rfl) (by kernel_rfl) (fun _ _ _ h=>h) (Or.inl ⟨by rfl, ?_⟩) (by assumption) ?_
 rotate_left
 ·(intro w hSw;(try dsimp only at hSw);go_simp<;>with_reducible rfl)
 try simp only[Act.put,Vb,Vd,Vc]
 refine take_at (i:=21) (v:= ?_) rfl (by kernel_rfl) (by kernel_rfl) (by kernel_rfl) (fun _ _ _ h=>h) (Or.inl ⟨by rfl, ?_⟩) (by assumption) ?_
 rotate_left
 ·(intro w hSw;(try dsimp only at hSw);go_simp<;>with_reducible rfl)
 try simp only[Act.put,Vb,Vd,Vc]
 refine step_at (i:=20) rfl (by kernel_rfl) (fun K hK=> ?_)
 go_simp
 (go_at_fn 42;refine (hun _ (by exact⟨Vu _,rfl,rfl,fun _ _=>rfl⟩)).mono ?_;rintro e W6 ⟨rfl,hk6'⟩;have hk6:Kept W5 W6:=⟨hk6'.size,hk6'.os,hk6'.output,hk6'.block⟩;clear hk6';have qh':=aO hk6 qh;have qhn:=World.new_ne W6 _ qh';have qho:=de (o:= .cells #[.string (bs w1),.string (bs w2),.string (bs t),.int .i64 d.1,.int .i64 d.2] 64) qh';have y0:=aO hk6 x0;have y1:=aO hk6 x1;have g1:=aO hk6 d1;have g2:=aO hk6 d2;have g3:=aO hk6 d3;have q4:=aO hk6 q3)
 refine hK.out _ _ ?_ (fun hHeld=> ?_)
 ·(try dsimp only);(refine And.intro ?_ (And.intro ?_ (And.intro ?_ (And.intro ?_ (And.intro ?_ (And.intro ?_ ?_)))))<;>(repeat (first | with_reducible exact qh' | with_reducible exact qh | with_reducible exact d1 | with_reducible exact d2 | with_reducible exact d3 | with_reducible exact x0 | with_reducible exact x1 | with_reducible exact q3 | with_reducible exact y0 | with_reducible exact y1 | with_reducible exact g1 | with_reducible exact g2 | with_reducible exact g3 | with_reducible exact q4 | with_reducible refine de ?_ | with_reducible refine cX ?_ | with_reducible refine cell_far hne ?_ | with_reducible refine cell_far hnd ?_ | with_reducible refine cell_far hsx ?_ | with_reducible refine aI hgr8 ?_ hvb | with_reducible refine aI hgr8 ?_ hvd | with_reducible refine aI hgr8 ?_ hvs | with_reducible refine aI hgr8 ?_ hvx)))
 clear hK K
 try simp only[Act.put,Vb,Vd,Vc]
 refine take_at (i:=22) (v:= ?_) rfl (by kernel_rfl) (by kernel_rfl) (by kernel_rfl) (fun _ _ _ h=>h) (Or.inl ⟨by rfl, ?_⟩) (by assumption) ?_
 rotate_left
 ·(intro w hSw;(try dsimp only at hSw);go_simp<;>with_reducible rfl)
 try simp only[Act.put,Vb,Vd,Vc]
 refine step_at (i:=23) rfl (by kernel_rfl) (fun K hK=> ?_)
 go_simp
 refine hK.out _ _ ?_ (fun hHeld=> ?_)
 ·(try dsimp only);(refine And.intro ?_ (And.intro ?_ (And.intro ?_ (And.intro ?_ (And.intro ?_ (And.intro ?_ ?_)))))<;>(repeat (first | with_reducible exact qh' | with_reducible exact qh | with_reducible exact d1 | with_reducible exact d2 | with_reducible exact d3 | with_reducible exact x0 | with_reducible exact x1 | with_reducible exact q3 | with_reducible exact y0 | with_reducible exact y1 | with_reducible exact g1 | with_reducible exact g2 | with_reducible exact g3 | with_reducible exact q4 | with_reducible refine de ?_ | with_reducible refine cX ?_ | with_reducible refine cell_far hne ?_ | with_reducible refine cell_far hnd ?_ | with_reducible refine cell_far hsx ?_ | with_reducible refine aI hgr8 ?_ hvb | with_reducible refine aI hgr8 ?_ hvd | with_reducible refine aI hgr8 ?_ hvs | with_reducible refine aI hgr8 ?_ hvx)))
 clear hK K
 try simp only[Act.put,Vb,Vd,Vc]
 refine step_at (i:=24) rfl (by kernel_rfl) (fun K hK=> ?_)
 (refine step_append_lies _ (by rfl) _ _ _ (by rfl) 0 64 i0 _ 5 64 t58 hi0 hz0 hz1 hz2 rfl (by omega) h m0 xs (by rfl) (hown W6 hk6) ⟨W6.heap.size,0,none⟩ 1 1 [.string (bs w1),.string (bs w2),.string (bs t),.int .i64 d.1,.int .i64 d.2] (by rfl) (by rfl) (World.news_of_block (cs:= #[.string (bs w1),.string (bs w2),.string (bs t),.int .i64 d.1,.int .i64 d.2]) (t:=64) (fr:=(0,0)) (heap_alloc_new W6 _)) (NM (w1,w2,t,d)) (by omega) h63 hbytes (VI _) (W6.heap.size+1) (by simp) ?_;intro g capn W8 hown8 hgr8 hat8 hlt8;have hb8:=lg hk6 hgr8 hvx HOG.out;have hr8:=lg hk6 hgr8 hvr HR1.out;have p3:=Ad hb8 HOG.out qh;have pf:=BV hb8 HOG.out HLF.out)
 refine hK.out _ _ ?_ (fun hHeld=> ?_)
 ·(try dsimp only);(refine And.intro ?_ (And.intro ?_ (And.intro ?_ (And.intro ?_ (And.intro ?_ (And.intro ?_ ?_)))))<;>(repeat (first | with_reducible exact qh' | with_reducible exact qh | with_reducible exact d1 | with_reducible exact d2 | with_reducible exact d3 | with_reducible exact x0 | with_reducible exact x1 | with_reducible exact q3 | with_reducible exact y0 | with_reducible exact y1 | with_reducible exact g1 | with_reducible exact g2 | with_reducible exact g3 | with_reducible exact q4 | with_reducible refine de ?_ | with_reducible refine cX ?_ | with_reducible refine cell_far hne ?_ | with_reducible refine cell_far hnd ?_ | with_reducible refine cell_far hsx ?_ | with_reducible refine aI hgr8 ?_ hvb | with_reducible refine aI hgr8 ?_ hvd | with_reducible refine aI hgr8 ?_ hvs | with_reducible refine aI hgr8 ?_ hvx)))
 clear hK K
 try simp only[Act.put,Vb,Vd,Vc]
 refine take_at (i:=25) (v:= ?_) rfl (by kernel_rfl) (by kernel_rfl) (by kernel_rfl) (fun _ _ _ h=>h) (Or.inl ⟨by rfl, ?_⟩) (by assumption) ?_
 rotate_left
 ·(intro w hSw;(try dsimp only at hSw);go_simp<;>with_reducible rfl)
 try simp only[Act.put,Vb,Vd,Vc]
 refine take_at (i:=26) (v:= ?_) rfl (by kernel_rfl) (by kernel_rfl) (by kernel_rfl) (fun _ _ _ h=>h) (Or.inl ⟨by rfl, ?_⟩) (by assumption) ?_
 rotate_left
 ·(intro w hSw;(try dsimp only at hSw);go_simp<;>with_reducible rfl)
 try simp only[Act.put,Vb,Vd,Vc]
 refine wpAnyH_done (by kernel_rfl) ?_ _
 refine last_out (fun K hK=> ?_)
 go_simp
 refine hK.out _ _ (NoPanic.normal ?_)
 clear hK K
 all_goals
  obtain⟨r1,r2,r3,r4,r5,r6⟩:=LC (go:=go) (capo:=capo) HR5.out (by rw[HN0.out]) hk6 HXS.out (by rw[<- HM0.out];exact hown8) hgr8 hat8
  rw[<- HN0.out] at r1 r4 r5
  rw[<- HM0.out] at r1 r4 r5 r6
  obtain⟨⟨y4,y5,y6,y7⟩,_⟩:=aW r5.box
  have hr9:=(setCell_far W8 go (n0*5+4) (w.heap.size+1) (.slice (some ⟨g,0,none⟩) (m0+1) capn) (by omega)).trans hr8
  obtain⟨⟨z4,z5,z6,z7⟩,zf⟩:=aW hr9
  have zf0:=zf 0;have zf1:=zf 1;have zf2:=zf 2;have zf3:=zf 3
 all_goals
  have R4:Aside _:=r4
  have R5':Aside _:=r5
  have R6:Aside _:=r6
  have HR9:Aside _:=hr9
  clear r4 r5 r6 hr9
 all_goals go_wp2
 all_goals
  obtain⟨s1,s2,s3⟩:=qE (.string (bs a.1)) (.string (bs a.2.1)) (.int .i64 a.2.2.1) (.slice (some ⟨go,0,none⟩) (n0+1) capo) HR9.out
  refine bodyPost_ret (so (p:=6) (q:=7) (ty:=24) (b:=w.heap.size+1) (v:= .agg #[.string (bs a.1),.string (bs a.2.1),.int .i64 a.2.2.1,.slice (some ⟨go,0,none⟩) (n0+1) capo]) (by kernel_rfl) _ _ _ (by rfl) (jw s1)) rfl ?_
  exact Exists.intro (Value.slice (some ⟨g,0,none⟩) (m0+1) capn) (Qv HK05.out r1 r2 r3 R4.out R5'.out R6.out s2 s3 hlt (by rfl) HS5.out)
end Go.Proofs.SeatU
