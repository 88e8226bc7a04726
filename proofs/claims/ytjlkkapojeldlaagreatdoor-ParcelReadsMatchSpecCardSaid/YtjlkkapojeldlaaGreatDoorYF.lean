/-
  readLine of the reference by a walk, first part. No condition.
-/
import Derived.Test.YtjlkkapojeldlaaGreatDoorYE
set_option linter.all false
set_option maxRecDepth 100000
namespace Go.Proofs.SeatU
open Go.Dn Go.Md Go.Proofs Go.RowKit Go.Shelf Go.Lib
theorem pP {G:Gh} {w:World} (s:List UInt8) (W:List (List UInt8)) (hG:Agr G w) (hT:bJ Tryz.prog G) (hm:strings_Split s [32]=some (W,())): Calls Tryz.prog 29 #[.string (bs s),.string (bs [32])] w fun e w'=>∃ G' u,e= .returned u/\Lv G G' w w'/\bZ G' Ty.str.size (ay G' .str) W u:=by
 refine (CJ G w (fun _=>none) [.string (bs s),.string (bs [32])] (s,[32],()) (W,()) hG (fun b i h=>by cases h) ⟨_,_,fun _=>rfl,fun h=>Bool.noConfusion h,rfl,_,[],fun _=>rfl,fun h=>Bool.noConfusion h,rfl,rfl⟩ hm hT).mono ?_
 rintro e w' ⟨G',ow',vs,g⟩
 obtain⟨u,us,rfl,⟨u0,e0,hu⟩,h3,_⟩:=g.out
 cases e0
 have e3:us=[]:=h3
 subst e3
 exact⟨G',u,g.ret,⟨⟨g.size,g.os,g.output,fun b hb=>(g.old b hb rfl).1⟩,g.le,g.agr,fun b hb=>(g.old b hb rfl).2⟩,hu⟩
theorem kM {G:Gh} {w:World} (W:List (List UInt8)) (u:Value) (ok:Bool) (hu:bZ G Ty.str.size (ay G .str) W u) (hG:Agr G w) (hT:bJ Tryz.prog G) (hm:bA W []=some (ok,())): Calls Tryz.prog 39 #[u,.string (bs [])] w fun e w'=>e= .returned (.bool ok)/\Kept w w':=by
 refine (vO G w (fun _=>none) [u,.string (bs [])] (W,[],()) (ok,()) hG (fun b i h=>by cases h) ⟨_,_,fun _=>rfl,fun h=>Bool.noConfusion h,⟨_,rfl,hu⟩,_,[],fun _=>rfl,fun h=>Bool.noConfusion h,rfl,rfl⟩ hm hT).mono ?_
 rintro e w' ⟨G',ow',vs,g⟩
 obtain⟨u,us,rfl,hu,h3,_⟩:=g.out
 have e1:[u]=[Value.bool ok]:=hu
 have e3:us=[]:=h3
 cases e1;subst e3
 exact⟨g.ret,⟨g.size,g.os,g.output,fun b hb=>(g.old b hb rfl).1⟩⟩
theorem O1 {G:Gh} {w:World} (s:List UInt8) (n:Int) (ok:Bool) (hG:Agr G w) (hT:bJ Tryz.prog G) (hm:rV s=some (n,ok,())): Calls Tryz.prog 40 #[.string (bs s)] w fun e w'=>e= .returned (.tuple #[.int .i64 n,.bool ok])/\Kept w w':=by
 refine (Kl G w (fun _=>none) [.string (bs s)] (s,()) (n,ok,()) hG (fun b i h=>by cases h) ⟨_,[],fun _=>rfl,fun h=>Bool.noConfusion h,rfl,rfl⟩ hm hT).mono ?_
 rintro e w' ⟨G',ow',vs,g⟩
 obtain⟨u,us,rfl,hu,u2,us2,rfl,hb,h3,_⟩:=g.out
 have e1:[u]=[Value.int .i64 n]:=hu
 have e2:[u2]=[Value.bool ok]:=hb
 have e3:us2=[]:=h3
 cases e1;cases e2;subst e3
 exact⟨g.ret,⟨g.size,g.os,g.output,fun b hb=>(g.old b hb rfl).1⟩⟩
theorem GY {G:Gh} {w:World} (s:List UInt8) (d:ah) (n:Int) (hG:Agr G w) (hT:bJ Tryz.prog G) (hm:ke s=some (d,n,())): Calls Tryz.prog 41 #[.string (bs s)] w fun e w'=>e= .returned (.tuple #[.agg #[.int .i64 d.1,.int .i64 d.2],.int .i64 n])/\Kept w w':=by
 refine (II G w (fun _=>none) [.string (bs s)] (s,()) (d,n,()) hG (fun b i h=>by cases h) ⟨_,[],fun _=>rfl,fun h=>Bool.noConfusion h,rfl,rfl⟩ hm hT).mono ?_
 rintro e w' ⟨G',ow',vs,g⟩
 obtain⟨u,us,rfl,hu,u2,us2,rfl,hb,h3,_⟩:=g.out
 obtain⟨cs,rfl,c1,c2,rfl,h1,h2⟩:=hu
 have e1:c1=[Value.int .i64 d.1]:=h1
 have e1':c2=[Value.int .i64 d.2]:=h2
 have e2:[u2]=[Value.int .i64 n]:=hb
 have e3:us2=[]:=h3
 subst e1;subst e1';cases e2;subst e3
 exact⟨g.ret,⟨g.size,g.os,g.output,fun b hb=>(g.old b hb rfl).1⟩⟩
theorem F1 {G:Gh} {w:World} (s t:List UInt8) (hG:Agr G w) (hT:bJ Tryz.prog G) (hm:tu s=some (t,())): Calls Tryz.prog 42 #[.string (bs s)] w fun e w'=>e= .returned (.string (bs t))/\Kept w w':=by
 refine (M8 G w (fun _=>none) [.string (bs s)] (s,()) (t,()) hG (fun b i h=>by cases h) ⟨_,[],fun _=>rfl,fun h=>Bool.noConfusion h,rfl,rfl⟩ hm hT).mono ?_
 rintro e w' ⟨G',ow',vs,g⟩
 obtain⟨u,us,rfl,hu,h3,_⟩:=g.out
 have e1:[u]=[Value.string (bs t)]:=hu
 have e3:us=[]:=h3
 cases e1;subst e3
 exact⟨g.ret,⟨g.size,g.os,g.output,fun b hb=>(g.old b hb rfl).1⟩⟩
theorem Pz {G:Gh} {w:World} (s x y:List UInt8) (ok:Bool) (hG:Agr G w) (hT:bJ Tryz.prog G) (hm:mN s [10]=some (x,y,ok,())): Calls Tryz.prog 14 #[.string (bs s),.string (bs [10])] w fun e w'=>e= .returned (.tuple #[.string (bs x),.string (bs y),.bool ok])/\Kept w w':=by
 refine (IK G w (fun _=>none) [.string (bs s),.string (bs [10])] (s,[10],()) (x,y,ok,()) hG (fun b i h=>by cases h) ⟨_,_,fun _=>rfl,fun h=>Bool.noConfusion h,rfl,_,[],fun _=>rfl,fun h=>Bool.noConfusion h,rfl,rfl⟩ hm hT).mono ?_
 rintro e w' ⟨G',ow',vs,g⟩
 obtain⟨u,us,rfl,hu,u2,us2,rfl,hb,u3,us3,rfl,hc,h3,_⟩:=g.out
 have e1:[u]=[Value.string (bs x)]:=hu
 have e2:[u2]=[Value.string (bs y)]:=hb
 have e3:[u3]=[Value.bool ok]:=hc
 have e4:us3=[]:=h3
 cases e1;cases e2;cases e3;subst e4
 exact⟨g.ret,⟨g.size,g.os,g.output,fun b hb=>(g.old b hb rfl).1⟩⟩
theorem Mj {G:Gh} {w:World} (a:ai) (v:Value) (n:Int) (hv:bZ G aK.size (ay G aK) a.2.2.2 v) (hG:Agr G w) (hT:bJ Tryz.prog G) (hm:fO a=some (n,())): Calls Tryz.prog 16 #[.agg (nq a v).toArray] w fun e w'=>e= .returned (.int .i64 n)/\Kept w w':=by
 refine (CI G w (fun _=>none) [.agg (nq a v).toArray] (a,()) (n,()) hG (fun b i h=>by cases h) ⟨_,[],fun _=>rfl,fun h=>Bool.noConfusion h,⟨_,rfl,[.string (bs a.1)],_,rfl,rfl,[.string (bs a.2.1)],_,rfl,rfl,[.int .i64 a.2.2.1],_,rfl,rfl,_,rfl,hv⟩,rfl⟩ hm hT).mono ?_
 rintro e w' ⟨G',ow',vs,g⟩
 obtain⟨u,us,rfl,hu,h3,_⟩:=g.out
 have e1:[u]=[Value.int .i64 n]:=hu
 have e3:us=[]:=h3
 cases e1;subst e3
 exact⟨g.ret,⟨g.size,g.os,g.output,fun b hb=>(g.old b hb rfl).1⟩⟩
def ET (w w':World) (nb:List Nat) (e:Ending) (o:Option ai):Prop:=
 w.heap.size<=w'.heap.size/\w'.os=w.os/\w'.output=w.output/\(∀ b,b<w.heap.size->b∉nb->w'.heap[b]? =w.heap[b]?)/\
  ((o=none/\∃ (x:ai) (av:Option Addr) (n c:Nat),e= .returned (.tuple #[.agg (nq x (.slice av n c)).toArray,.bool false]))\/
    ∃ a',o=some a'/\∃ av n c L',e= .returned (.tuple #[.agg (nq a' (.slice av n c)).toArray,.bool true])/\ku w' (.slice av n c) L'/\L'.map (·.1)=a'.2.2.2/\∀ b∈nblk (.slice av n c) L',b∈nb\/w.heap.size<=b)
theorem so {fn:Func} {p q:Tmp} {ty:TypeId} (h:fn.results= #[.cell p ty,.tmp q]) (tmps:Array Value) (P:Program) (w:World) {b:Nat} {v:Value} (hp:tmps.getD p undef= .pointer (some ⟨b,0,none⟩)) (hl:(loadVar ty ⟨b,0,none⟩).run P w= .ok v w): (results fn tmps).run P w= .ok (.tuple #[v,tmps.getD q undef]) w:=by
 have hp':tmps[p]?.getD undef= .pointer (some ⟨b,0,none⟩):=by simpa using hp
 simp[results,h,hp',asAddr,Sem.run_bind,Result.andThen,hl]
theorem oM (w:World) (o1 o2:Obj):((w.alloc o1).alloc o2).heap[w.heap.size]? =some o1/\((w.alloc o1).alloc o2).heap[w.heap.size+1]? =some o2/\Kept w ((w.alloc o1).alloc o2):=by
 have h1:=cP w o1
 have h2:=cP (w.alloc o1) o2
 have hs:(w.alloc o1).heap.size=w.heap.size+1:=Tr _
 rw[hs] at h2
 exact⟨(h2.2.block _ (by omega)).trans h1.1,h2.1,h1.2.trans h2.2⟩
end Go.Proofs.SeatU
set_option maxRecDepth 100000
namespace Go.Proofs.SeatU
open Go.Dn Go.Md Go.Proofs Go.RowKit Go.Shelf Go.Lib
attribute [local go_sem ↓] Go.wp_at_zero Go.wp_at_succ
theorem Cv {w W:World} {b:Nat} (h:Kept w W) {Wz:World} (hb:w.heap.size<=b) (s2:∀ k,k≠b->Wz.heap[k]? =W.heap[k]?) (s3:Wz.heap.size=W.heap.size) (ho:Wz.os=W.os:=by rfl) (hp:Wz.output=W.output:=by rfl):Kept w Wz:=
 ⟨by rw[s3];exact h.size,ho.trans h.os,hp.trans h.output,fun k hk=>(s2 k (by omega)).trans (h.block k hk)⟩
theorem N3 {w w':World} {nb:List Nat} {e:Ending} {x:ai} {av:Option Addr} {n c:Nat} (he:e= .returned (.tuple #[.agg (nq x (.slice av n c)).toArray,.bool false])) (h:Kept w w'):ET w w' nb e none:=
 ⟨h.size,h.os,h.output,fun b hb _=>h.block b hb,.inl ⟨rfl,x,av,n,c,he⟩⟩
set_option maxHeartbeats 1000000 in
theorem R7 (G:Gh) (w:World) (first:Bool) (s:List UInt8) (W:List (List UInt8)) (a:ai) (av:Option Addr) (n c:Nat) (nb:List Nat) (hG:Agr G w) (hT:bJ Tryz.prog G) (hm:strings_Split s [32]=some (W,())) (hc:bA W []=some (true,())): Calls Tryz.prog 15 #[.agg #[.string (bs a.1),.string (bs a.2.1),.int .i64 a.2.2.1,.slice av n c],.string (bs s),.bool first] w fun e w'=>ET w w' nb e none:=by
 have e29:∀ args w,(callFunc 29 args).run Tryz.prog w= .ok (.enter 29 args) w:=enters_of Tryz.func29 (by kernel_rfl) rfl
 have e39:∀ args w,(callFunc 39 args).run Tryz.prog w= .ok (.enter 39 args) w:=enters_of Tryz.func39 (by kernel_rfl) rfl
 have mixed:Tryz.prog.follows .mixedOrders=true:=by kernel_rfl
 have late:Tryz.prog.follows .lateStores=true:=by kernel_rfl
 have t3:=Tryz.underlying3;have t4:=Tryz.underlying4;have t9:=Tryz.underlying9;have t22:=Tryz.underlying22;have t34:=Tryz.underlying34;have t24:=Tryz.underlying24;have a24:=Tryz.isAgg24;have z24:=Tryz.sizeOf24;have v24:=Tryz.zeroValue24
 obtain⟨k1,k2,k3⟩:=oM w (.cells #[.string (bs a.1),.string (bs a.2.1),.int .i64 a.2.2.1,.slice av n c] 24) (.cells #[.string ⟨#[]⟩,.string ⟨#[]⟩,.int .i64 0,.slice none 0 0] 24)
 have hA0:Agr G ((w.alloc (.cells #[.string (bs a.1),.string (bs a.2.1),.int .i64 a.2.2.1,.slice av n c] 24)).alloc (.cells #[.string ⟨#[]⟩,.string ⟨#[]⟩,.int .i64 0,.slice none 0 0] 24)):=fh (fh hG _) _
 have hsp:=pP s W hA0 hT hm
 go_enter Tryz.func15,Tryz.ntmps15
 go_wp2_with (first | (go_at_fn 29;refine hsp.mono ?_;rintro e W2 ⟨G2,u,rfl,hlv,hu⟩;obtain⟨au,cu,rfl,hcu,hmu,hu2⟩:=id hu;have hct:=kM W _ true hu hlv.agr (hT.mono hlv.le) hc) | (go_at_fn 39;refine hct.mono ?_;rintro e W3 ⟨rfl,hk3⟩;have h1:=(hk3.block _ (aj ((hlv.kept.block _ (aj k1)).trans k1))).trans ((hlv.kept.block _ (aj k1)).trans k1);have h2:=(hk3.block _ (aj ((hlv.kept.block _ (aj k2)).trans k2))).trans ((hlv.kept.block _ (aj k2)).trans k2);obtain⟨⟨q0,q1,q2,q3⟩,_⟩:=aW h1;obtain⟨⟨p0,p1,p2,p3⟩,qf⟩:=aW h2;have f0:=qf 0;have f1:=qf 1;have f2:=qf 2;have f3:=qf 3))
 obtain⟨s1,s2,s3⟩:=qE (.string (bs a.1)) (.string (bs a.2.1)) (.int .i64 a.2.2.1) (.slice av n c) h2
 refine bodyPost_ret (so (p:=6) (q:=7) (ty:=24) (b:=w.heap.size+1) (v:= .agg (nq a (.slice av n c)).toArray) (by kernel_rfl) _ _ _ (by rfl) (jw s1)) rfl ?_
 exact N3 (by rfl) (Cv (k3.trans (hlv.kept.trans hk3)) (by omega) s2 s3)
set_option maxHeartbeats 4000000 in
theorem Rj (G:Gh) (w:World) (first:Bool) (s w0:List UInt8) (r:List (List UInt8)) (a:ai) (av:Option Addr) (n c:Nat) (nb:List Nat) (hG:Agr G w) (hT:bJ Tryz.prog G) (hm:strings_Split s [32]=some (w0::r,())) (hc:bA (w0::r) []=some (false,())) (ea ep ec l4 l5:Bool) (ha:((bs w0).toList==[97,100,118,105,99,101])=ea) (hp:((bs w0).toList==[112,97,114,99,101,108])=ep) (hcc:((bs w0).toList==[99,111,110,116,101,110,116])=ec) (h4:((r.length:Int)+1==4)=l4) (h5:((r.length:Int)+1==5)=l5) (hno:(first=true/\l4=false)\/(first=true/\l4=true/\ea=false)\/(first=false/\l4=true/\ep=false/\l5=false)\/(first=false/\l4=false/\l5=false)\/(first=false/\l4=false/\l5=true/\ec=false)\/(first=false/\l4=false/\l5=true/\ec=true/\n=0)): Calls Tryz.prog 15 #[.agg #[.string (bs a.1),.string (bs a.2.1),.int .i64 a.2.2.1,.slice av n c],.string (bs s),.bool first] w fun e w'=>ET w w' nb e none:=by
 have e29:∀ args w,(callFunc 29 args).run Tryz.prog w= .ok (.enter 29 args) w:=enters_of Tryz.func29 (by kernel_rfl) rfl
 have e39:∀ args w,(callFunc 39 args).run Tryz.prog w= .ok (.enter 39 args) w:=enters_of Tryz.func39 (by kernel_rfl) rfl
 have mixed:Tryz.prog.follows .mixedOrders=true:=by kernel_rfl
 have late:Tryz.prog.follows .lateStores=true:=by kernel_rfl
 have t3:=Tryz.underlying3;have t4:=Tryz.underlying4;have t9:=Tryz.underlying9;have t22:=Tryz.underlying22;have t34:=Tryz.underlying34;have t24:=Tryz.underlying24;have a24:=Tryz.isAgg24;have z24:=Tryz.sizeOf24;have v24:=Tryz.zeroValue24
 obtain⟨k1,k2,k3⟩:=oM w (.cells #[.string (bs a.1),.string (bs a.2.1),.int .i64 a.2.2.1,.slice av n c] 24) (.cells #[.string ⟨#[]⟩,.string ⟨#[]⟩,.int .i64 0,.slice none 0 0] 24)
 have hA0:Agr G ((w.alloc (.cells #[.string (bs a.1),.string (bs a.2.1),.int .i64 a.2.2.1,.slice av n c] 24)).alloc (.cells #[.string ⟨#[]⟩,.string ⟨#[]⟩,.int .i64 0,.slice none 0 0] 24)):=fh (fh hG _) _
 have hsp:=pP s _ hA0 hT hm
 go_enter Tryz.func15,Tryz.ntmps15
 rcases hno with ⟨rfl,rfl⟩ | ⟨rfl,rfl,rfl⟩ | ⟨rfl,rfl,rfl,rfl⟩ | ⟨rfl,rfl,rfl⟩ | ⟨rfl,rfl,rfl,rfl⟩ | ⟨rfl,rfl,rfl,rfl,rfl⟩
 all_goals (first | (have h4f:¬ ((r.length:Int)+1=4):=VR.1 h4) | (have h4t:(r.length:Int)+1=4:=eq_of_beq h4) | skip)
 all_goals go_wp2_with (first | (go_at_fn 29;refine hsp.mono ?_;rintro e W2 ⟨G2,u,rfl,hlv,hu⟩;obtain⟨b,off,cap,rfl,hcap,nA,hfz,hcell⟩:=iu hu hlv.agr (T8 _ _);have hct:=kM _ _ false hu hlv.agr (hT.mono hlv.le) hc) | (go_at_fn 39;refine hct.mono ?_;rintro e W3 ⟨rfl,hk3⟩;have h1:=(hk3.block _ (aj ((hlv.kept.block _ (aj k1)).trans k1))).trans ((hlv.kept.block _ (aj k1)).trans k1);have h2:=(hk3.block _ (aj ((hlv.kept.block _ (aj k2)).trans k2))).trans ((hlv.kept.block _ (aj k2)).trans k2);have c0:W3.cell? ⟨b,off,none⟩=some (.string (bs w0)):=aO hk3 (hcell 0 w0 rfl);clear hcell;obtain⟨⟨q0,q1,q2,q3⟩,_⟩:=aW h1;obtain⟨⟨p0,p1,p2,p3⟩,qf⟩:=aW h2;have f0:=qf 0;have f1:=qf 1;have f2:=qf 2;have f3:=qf 3))
 all_goals
  obtain⟨s1,s2,s3⟩:=qE (.string (bs a.1)) (.string (bs a.2.1)) (.int .i64 a.2.2.1) (.slice av _ c) h2
  refine bodyPost_ret (so (p:=6) (q:=7) (ty:=24) (b:=w.heap.size+1) (v:= .agg (nq a (.slice av _ c)).toArray) (by kernel_rfl) _ _ _ (by rfl) (jw s1)) rfl ?_
  exact N3 (by rfl) (Cv (k3.trans (hlv.kept.trans hk3)) (by omega) s2 s3)
end Go.Proofs.SeatU
set_option maxRecDepth 100000
namespace Go.Proofs.SeatU
open Go.Dn Go.Md Go.Proofs Go.RowKit Go.Shelf Go.Lib
attribute [local go_sem ↓] Go.wp_at_zero Go.wp_at_succ
set_option maxHeartbeats 4000000 in
theorem Qu (G:Gh) (w:World) (s w0 w1 w2 w3:List UInt8) (a:ai) (av:Option Addr) (n c:Nat) (m:Int) (ok:Bool) (hG:Agr G w) (hT:bJ Tryz.prog G) (hm:strings_Split s [32]=some ([w0,w1,w2,w3],())) (hc:bA [w0,w1,w2,w3] []=some (false,())) (ha:((bs w0).toList==[97,100,118,105,99,101])=true) (hn:rV w3=some (m,ok,())): Calls Tryz.prog 15 #[.agg #[.string (bs a.1),.string (bs a.2.1),.int .i64 a.2.2.1,.slice av n c],.string (bs s),.bool true] w fun e w'=>e= .returned (.tuple #[.agg #[.string (bs w1),.string (bs w2),.int .i64 m,.slice none 0 0],.bool ok])/\Kept w w':=by
 have e29:∀ args w,(callFunc 29 args).run Tryz.prog w= .ok (.enter 29 args) w:=enters_of Tryz.func29 (by kernel_rfl) rfl
 have e39:∀ args w,(callFunc 39 args).run Tryz.prog w= .ok (.enter 39 args) w:=enters_of Tryz.func39 (by kernel_rfl) rfl
 have e40:∀ args w,(callFunc 40 args).run Tryz.prog w= .ok (.enter 40 args) w:=enters_of Tryz.func40 (by kernel_rfl) rfl
 have mixed:Tryz.prog.follows .mixedOrders=true:=by kernel_rfl
 have late:Tryz.prog.follows .lateStores=true:=by kernel_rfl
 have t3:=Tryz.underlying3;have t4:=Tryz.underlying4;have t9:=Tryz.underlying9;have t22:=Tryz.underlying22;have t34:=Tryz.underlying34;have t24:=Tryz.underlying24;have a24:=Tryz.isAgg24;have z24:=Tryz.sizeOf24;have v24:=Tryz.zeroValue24
 obtain⟨k1,k2,k3⟩:=oM w (.cells #[.string (bs a.1),.string (bs a.2.1),.int .i64 a.2.2.1,.slice av n c] 24) (.cells #[.string ⟨#[]⟩,.string ⟨#[]⟩,.int .i64 0,.slice none 0 0] 24)
 have hA0:Agr G ((w.alloc (.cells #[.string (bs a.1),.string (bs a.2.1),.int .i64 a.2.2.1,.slice av n c] 24)).alloc (.cells #[.string ⟨#[]⟩,.string ⟨#[]⟩,.int .i64 0,.slice none 0 0] 24)):=fh (fh hG _) _
 have hsp:=pP s _ hA0 hT hm
 go_enter Tryz.func15,Tryz.ntmps15
 go_wp2_with (first | (go_at_fn 29;refine hsp.mono ?_;rintro e W2 ⟨G2,u,rfl,hlv,hu⟩;obtain⟨b,off,cap,rfl,hcap,nA,hfz,hcell⟩:=iu hu hlv.agr (T8 _ _);have hct:=kM _ _ false hu hlv.agr (hT.mono hlv.le) hc) | (go_at_fn 39;refine hct.mono ?_;rintro e W3 ⟨rfl,hk3⟩;have c0:W3.cell? ⟨b,off,none⟩=some (.string (bs w0)):=aO hk3 (hcell 0 w0 rfl);have c3:W3.cell? ⟨b,off+3,none⟩=some (.string (bs w3)):=aO hk3 (hcell 3 w3 rfl);have h1:=(hk3.block _ (aj ((hlv.kept.block _ (aj k1)).trans k1))).trans ((hlv.kept.block _ (aj k1)).trans k1);have h2:=(hk3.block _ (aj ((hlv.kept.block _ (aj k2)).trans k2))).trans ((hlv.kept.block _ (aj k2)).trans k2);obtain⟨⟨q0,q1,q2,q3⟩,_⟩:=aW h1;have hnum:=O1 w3 m ok (fun b o hb=>(hk3.block b (aj (hlv.agr b o hb))).trans (hlv.agr b o hb)) (hT.mono hlv.le) hn) | (go_at_fn 40;refine hnum.mono ?_;rintro e W4 ⟨rfl,hk4⟩))
 have h4:=(hk4.block _ (aj h2)).trans h2
 obtain⟨⟨p0,p1,p2,p3⟩,qf⟩:=aW h4
 have f0:=qf 0;have f1:=qf 1;have f2:=qf 2;have f3:=qf 3
 have d1:W4.cell? ⟨b,off+1,none⟩=some (.string (bs w1)):=aO hk4 (aO hk3 (hcell 1 w1 rfl))
 have d2:W4.cell? ⟨b,off+2,none⟩=some (.string (bs w2)):=aO hk4 (aO hk3 (hcell 2 w2 rfl))
 have hgr:G2 (w.heap.size+1)=none:=by
  rw[hlv.old _ (aj k2)]
  cases hg:G (w.heap.size+1) with
  | none=>rfl
  | some o=>exact absurd (aj (hG _ o hg)) (by omega)
 have hne:b≠w.heap.size+1:=s9 hfz hgr
 have HK:Aside (Kept w W4):=k3.trans (hlv.kept.trans (hk3.trans hk4))
 clear hcell hu hsp hct hnum k1 k2 k3 hA0 hG h1 h2 hfz hgr hlv hk3 hk4
 go_region_held3 (fun W=>W.cell? ⟨b,off+1,none⟩=some (.string (bs w1))/\W.cell? ⟨b,off+2,none⟩=some (.string (bs w2))) (refine And.intro ?_ ?_<;>(repeat (first | with_reducible exact d1 | with_reducible exact d2 | with_reducible refine cX ?_ | with_reducible refine cell_far hne ?_))) (fail)
 go_wp2
 obtain⟨s1,s2,s3⟩:=qE (.string (bs w1)) (.string (bs w2)) (.int .i64 m) (.slice none 0 0) h4
 refine bodyPost_ret (so (p:=6) (q:=7) (ty:=24) (b:=w.heap.size+1) (v:= .agg #[.string (bs w1),.string (bs w2),.int .i64 m,.slice none 0 0]) (by kernel_rfl) _ _ _ (by rfl) (jw s1)) rfl ?_
 exact⟨by rfl,Cv HK.out (by omega) s2 s3⟩
end Go.Proofs.SeatU
