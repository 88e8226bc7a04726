/-
  reader.line by a walk, second part. No condition.
-/
import Derived.Test.YtjlkkapojeldlabGreatDoorYA
set_option linter.all false
set_option maxRecDepth 100000
namespace Go.Proofs.SeatU
open Go.Dn Go.Md Go.Proofs Go.RowKit Go.Shelf Go.Lib
attribute [local go_sem ↓] Go.wp_at_zero Go.wp_at_succ
structure Mid (bw:Nat) (G0:Gh) (w0:World) (G:Gh) (W:World) (q:List (List UInt8)×Bool×Unit):Prop where
 lv:LvB bw G0 G w0 W
 wat:WAt G W bw q
 tab:bZ Tryz.prog G
section
variable {bw:Nat} {G0 G:Gh} {w0 W:World} {q q':List (List UInt8)×Bool×Unit}
theorem Mid.refl (hA:Agr G W) (hW:WAt G W bw q) (hT:bZ Tryz.prog G):Mid bw G W G W q:=
 ⟨⟨afq _,rfl,rfl,fun _ _ _=>rfl,⟨fun _ _ h=>h,fun _ _ h=>h⟩,hA,fun _ _ _=>rfl⟩,hW,hT⟩
theorem Mid.same (h:Mid bw G0 w0 G W q) {W':World} (h1:W'.heap=W.heap) (h2:W'.os=W.os) (h3:W'.output=W.output):Mid bw G0 w0 G W' q:=by
 obtain⟨⟨a1,a2,a3,a4,a5,a6,a7⟩,⟨⟨u,T,b1,b2⟩,b3⟩,c⟩:=h
 exact⟨⟨by rw[h1];exact a1,h2.trans a2,h3.trans a3,fun b hb hn=>by rw[h1];exact a4 b hb hn,a5,fun b o hb=>by rw[h1];exact a6 b o hb,a7⟩,⟨⟨u,T,by rw[h1];exact b1,b2⟩,b3⟩,c⟩
theorem Mid.cell (h:Mid bw G0 w0 G W q) {b o:Nat} {u:Value} (hn:b≠bw) (hc:w0.cell? ⟨b,o,none⟩=some u):W.cell? ⟨b,o,none⟩=some u:=by
 simp only[World.cell?] at hc ⊢
 cases hb:w0.heap[b]? with
 | none=>rw[hb] at hc;cases hc
 | some o'=>rw[h.lv.keep b (aB hb) hn,hb];rw[hb] at hc;exact hc
theorem Mid.step {e:Ending} {w':World} {P:Prop} {G':Gh} (h:Mid bw G0 w0 G W q) (k:LvB bw G G' W w') (hw:WAt G' w' bw q'):Mid bw G0 w0 G' w' q':=⟨h.lv.trans k,hw,h.tab.mono k.le⟩
theorem uX (h:Mid bw G0 w0 G W q) {s:List UInt8} (hm:bC q=some (s,q',())): Calls Tryz.prog 34 #[.pointer (some ⟨bw,0,none⟩)] W fun e w'=>e= .returned (.string (bs s))/\∃ G',Mid bw G0 w0 G' w' q':=
 (Xe h.lv.agr h.tab h.wat hm).mono fun _ _ ⟨h1,G',h2,h3⟩=>⟨h1,G',h.lv.trans h2,h3,h.tab.mono h2.le⟩
theorem sD (h:Mid bw G0 w0 G W q) {n:Int} (hm:bI q=some (n,q',())): Calls Tryz.prog 35 #[.pointer (some ⟨bw,0,none⟩)] W fun e w'=>e= .returned (.int .i64 n)/\∃ G',Mid bw G0 w0 G' w' q':=
 (Rg h.lv.agr h.tab h.wat hm).mono fun _ _ ⟨h1,G',h2,h3⟩=>⟨h1,G',h.lv.trans h2,h3,h.tab.mono h2.le⟩
theorem tW (h:Mid bw G0 w0 G W q) {d:ah} (hm:bU q=some (d,q',())): Calls Tryz.prog 37 #[.pointer (some ⟨bw,0,none⟩)] W fun e w'=>e= .returned (.agg #[.int .i64 d.1,.int .i64 d.2])/\∃ G',Mid bw G0 w0 G' w' q':=
 (Q7 h.lv.agr h.tab h.wat hm).mono fun _ _ ⟨h1,G',h2,h3⟩=>⟨h1,G',h.lv.trans h2,h3,h.tab.mono h2.le⟩
theorem LY (h:Mid bw G0 w0 G W q) {s:List UInt8} {b:Bool} (hm:dS q s=some (b,q',())): Calls Tryz.prog 36 #[.pointer (some ⟨bw,0,none⟩),.string (bs s)] W fun e w'=>e= .returned (.bool b)/\∃ G',Mid bw G0 w0 G' w' q':=
 (WW h.lv.agr h.tab h.wat hm).mono fun _ _ ⟨h1,G',h2,h3⟩=>⟨h1,G',h.lv.trans h2,h3,h.tab.mono h2.le⟩
theorem zC (h:Mid bw G0 w0 G W q) {b:Bool} (hm:cm q=some (b,q',())): Calls Tryz.prog 39 #[.pointer (some ⟨bw,0,none⟩)] W fun e w'=>e= .returned (.bool b)/\∃ G',Mid bw G0 w0 G' w' q':=
 (Um h.lv.agr h.tab h.wat hm).mono fun _ _ ⟨h1,G',h2,h3⟩=>⟨h1,G',h.lv.trans h2,h3,h.tab.mono h2.le⟩
end
theorem XQ {G:Gh} {x:List UInt8} {r:List (List UInt8)} {b off cap:Nat} (h:bJ G Ty.str.size (ax G .str) (x::r) (.slice (some ⟨b,off,none⟩) (x::r).length cap)):bJ G Ty.str.size (ax G .str) r (.slice (some ⟨b,off+1,none⟩) r.length (cap - 1)):=by
 obtain⟨a,cap',e,hcap,qJ,hrow⟩:=h
 obtain⟨rfl, -,rfl⟩:=Value.slice.inj e
 have e1:Ty.str.size=1:=rfl
 rcases hrow with hr | ⟨b',off',c,T,fz,e2,hg,hin,hrep⟩
 ·cases hr
 obtain⟨rfl,rfl⟩:b=b'/\off=off':=by cases e2;exact⟨rfl,rfl⟩
 have hcap:r.length+1<=cap:=hcap
 have hin:off+(r.length+1)*Ty.str.size<=c.size:=hin
 have hrep:bQ (ax G .str) (x::r) ((c.toList.drop off).take ((r.length+1)*Ty.str.size)):=hrep
 have hc2:r.length<=cap - 1:=by omega
 refine⟨_,_,rfl,hc2,by omega,.inr ⟨b,off+1,c,T,fz,rfl,hg,(show off+1+r.length*1<=c.size by rw[e1] at hin;omega), ?_⟩⟩
 obtain⟨p,t,hpt,hp,ht⟩:=hrep
 have hp':p=[.string (bs x)]:=hp
 subst hp'
 have:(c.toList.drop (off+1)).take (r.length*Ty.str.size)=t:=by
  have h2:=congrArg (List.drop 1) hpt
  rw[e1] at h2 ⊢
  rw[ad5,ad0] at h2
  simpa using h2
 exact this.symm ▸ ht
end Go.Proofs.SeatU
set_option maxRecDepth 100000
namespace Go.Proofs.SeatU
open Go.Dn Go.Md Go.Proofs Go.RowKit Go.Shelf Go.Lib
attribute [local go_sem ↓] Go.wp_at_zero Go.wp_at_succ
theorem Vi {G:Gh} {x:List UInt8} {r:List (List UInt8)} {b off:Nat} (h:(x::r).length<=1):bJ G Ty.str.size (ax G .str) r (.slice (some ⟨b,off,none⟩) r.length 0):=by
 have:r.length+1<=1:=h
 have e:r=[]:=List.length_eq_zero_iff.1 (by omega)
 subst e
 exact⟨_,_,rfl,afq _,afI _,.inl rfl⟩
theorem uq {G:Gh} {x:List UInt8} {r:List (List UInt8)} {b off cap:Nat} (hc:r.length+1<=cap) (h:bJ G Ty.str.size (ax G .str) (x::r) (.slice (some ⟨b,off,none⟩) (x::r).length cap)):bJ G Ty.str.size (ax G .str) r (.slice (if cap=1 then some ⟨b,off,none⟩ else some ⟨b,off+1,none⟩) r.length (cap - 1)):=by
 by_cases e:cap=1
 ·subst e
  rw[af9 rfl]
  exact Vi (x:=x) hc
 ·rw[af8 e]
  exact XQ h
theorem abk {G G2:Gh} {w w2:World} {bx:Nat} {r:List (List UInt8)} {u:Value} {k:Int} (hlv:Lv G G2 w w2) (hT:bZ Tryz.prog G) (hgb:G2 bx=none) (hx:w2.heap.size≠bx) (hu:bJ G2 Ty.str.size (ax G2 .str) r u): Mid w2.heap.size G2 ((w2.alloc (.cells #[u,.bool false] 91)).setCell ⟨bx,9,none⟩ (.int .i64 k)) G2 ((w2.alloc (.cells #[u,.bool false] 91)).setCell ⟨bx,9,none⟩ (.int .i64 k)) (r,false,()):=by
 have hlt:∀ b o,G2 b=some o->b<w2.heap.size:=fun b o hb=>aB (hlv.agr b o hb)
 refine Mid.refl (fun b o hb=> ?_) ⟨⟨_,91, ?_,hu⟩, ?_⟩ (hT.mono hlv.le)
 ·have hn:b≠bx:=fun e=>by rw[e,hgb] at hb;cases hb
  rw[aW _ _ _ _ _ hn,heap_alloc_old _ _ (hlt b o hb)]
  exact hlv.agr b o hb
 ·rw[aW _ _ _ _ _ hx]
  exact heap_alloc_new _ _
 ·cases hg:G2 w2.heap.size with
  | none=>rfl
  | some o=>exact absurd (hlt _ o hg) (Nat.lt_irrefl _)
theorem Pe {bw bx:Nat} {G0 G:Gh} {w0 W W':World} {q:List (List UInt8)×Bool×Unit} (h:Mid bw G0 w0 G W q) (hg:G bx=none) (hn:bw≠bx) (s2:∀ k,k≠bx->W'.heap[k]? =W.heap[k]?):Mid bw G W' G W' q:=by
 obtain⟨⟨u,T,b1,b2⟩,b3⟩:=h.wat
 exact Mid.refl (fun b o hb=>(s2 b fun e=>by rw[e,hg] at hb;cases hb).trans (h.lv.agr b o hb)) ⟨⟨u,T,(s2 bw hn).trans b1,b2⟩,b3⟩ h.tab
theorem NQ (W:World) (a:Addr) (v:Value):(W.setCell a v).os=W.os:=rfl
theorem EB (W:World) (a:Addr) (v:Value):(W.setCell a v).output=W.output:=rfl
theorem ac0 {W:World} {b:Nat} {a0 a1 a2 a3 a4 a5 a6 a7 a8 a9:Value} {T:TypeId} (c0 c1 c2 c3 c4 c5 c6 c7 c8:Value) (h:W.heap[b]? =some (.cells #[a0,a1,a2,a3,a4,a5,a6,a7,a8,a9] T (0,0))): (((((((((W.setCell ⟨b,0,none⟩ c0).setCell ⟨b,1,none⟩ c1).setCell ⟨b,2,none⟩ c2).setCell ⟨b,3,none⟩ c3).setCell ⟨b,4,none⟩ c4).setCell ⟨b,5,none⟩ c5).setCell ⟨b,6,none⟩ c6).setCell ⟨b,7,none⟩ c7).setCell ⟨b,8,none⟩ c8).heap[b]? =some (.cells #[c0,c1,c2,c3,c4,c5,c6,c7,c8,a9] T (0,0))/\(∀ k,k≠b->(((((((((W.setCell ⟨b,0,none⟩ c0).setCell ⟨b,1,none⟩ c1).setCell ⟨b,2,none⟩ c2).setCell ⟨b,3,none⟩ c3).setCell ⟨b,4,none⟩ c4).setCell ⟨b,5,none⟩ c5).setCell ⟨b,6,none⟩ c6).setCell ⟨b,7,none⟩ c7).setCell ⟨b,8,none⟩ c8).heap[k]? =W.heap[k]?)/\(((((((((W.setCell ⟨b,0,none⟩ c0).setCell ⟨b,1,none⟩ c1).setCell ⟨b,2,none⟩ c2).setCell ⟨b,3,none⟩ c3).setCell ⟨b,4,none⟩ c4).setCell ⟨b,5,none⟩ c5).setCell ⟨b,6,none⟩ c6).setCell ⟨b,7,none⟩ c7).setCell ⟨b,8,none⟩ c8).heap.size=W.heap.size/\(((((((((W.setCell ⟨b,0,none⟩ c0).setCell ⟨b,1,none⟩ c1).setCell ⟨b,2,none⟩ c2).setCell ⟨b,3,none⟩ c3).setCell ⟨b,4,none⟩ c4).setCell ⟨b,5,none⟩ c5).setCell ⟨b,6,none⟩ c6).setCell ⟨b,7,none⟩ c7).setCell ⟨b,8,none⟩ c8).os=W.os/\(((((((((W.setCell ⟨b,0,none⟩ c0).setCell ⟨b,1,none⟩ c1).setCell ⟨b,2,none⟩ c2).setCell ⟨b,3,none⟩ c3).setCell ⟨b,4,none⟩ c4).setCell ⟨b,5,none⟩ c5).setCell ⟨b,6,none⟩ c6).setCell ⟨b,7,none⟩ c7).setCell ⟨b,8,none⟩ c8).output=W.output:=by
 have h0:(W.setCell ⟨b,0,none⟩ c0).heap[b]? =some (.cells #[c0,a1,a2,a3,a4,a5,a6,a7,a8,a9] T (0,0)):=bz W b 0 _ _ _ c0 h
 have h1:((W.setCell ⟨b,0,none⟩ c0).setCell ⟨b,1,none⟩ c1).heap[b]? =some (.cells #[c0,c1,a2,a3,a4,a5,a6,a7,a8,a9] T (0,0)):=bz (W.setCell ⟨b,0,none⟩ c0) b 1 _ _ _ c1 h0
 have h2:(((W.setCell ⟨b,0,none⟩ c0).setCell ⟨b,1,none⟩ c1).setCell ⟨b,2,none⟩ c2).heap[b]? =some (.cells #[c0,c1,c2,a3,a4,a5,a6,a7,a8,a9] T (0,0)):=bz ((W.setCell ⟨b,0,none⟩ c0).setCell ⟨b,1,none⟩ c1) b 2 _ _ _ c2 h1
 have h3:((((W.setCell ⟨b,0,none⟩ c0).setCell ⟨b,1,none⟩ c1).setCell ⟨b,2,none⟩ c2).setCell ⟨b,3,none⟩ c3).heap[b]? =some (.cells #[c0,c1,c2,c3,a4,a5,a6,a7,a8,a9] T (0,0)):=bz (((W.setCell ⟨b,0,none⟩ c0).setCell ⟨b,1,none⟩ c1).setCell ⟨b,2,none⟩ c2) b 3 _ _ _ c3 h2
 have h4:(((((W.setCell ⟨b,0,none⟩ c0).setCell ⟨b,1,none⟩ c1).setCell ⟨b,2,none⟩ c2).setCell ⟨b,3,none⟩ c3).setCell ⟨b,4,none⟩ c4).heap[b]? =some (.cells #[c0,c1,c2,c3,c4,a5,a6,a7,a8,a9] T (0,0)):=bz ((((W.setCell ⟨b,0,none⟩ c0).setCell ⟨b,1,none⟩ c1).setCell ⟨b,2,none⟩ c2).setCell ⟨b,3,none⟩ c3) b 4 _ _ _ c4 h3
 have h5:((((((W.setCell ⟨b,0,none⟩ c0).setCell ⟨b,1,none⟩ c1).setCell ⟨b,2,none⟩ c2).setCell ⟨b,3,none⟩ c3).setCell ⟨b,4,none⟩ c4).setCell ⟨b,5,none⟩ c5).heap[b]? =some (.cells #[c0,c1,c2,c3,c4,c5,a6,a7,a8,a9] T (0,0)):=bz (((((W.setCell ⟨b,0,none⟩ c0).setCell ⟨b,1,none⟩ c1).setCell ⟨b,2,none⟩ c2).setCell ⟨b,3,none⟩ c3).setCell ⟨b,4,none⟩ c4) b 5 _ _ _ c5 h4
 have h6:(((((((W.setCell ⟨b,0,none⟩ c0).setCell ⟨b,1,none⟩ c1).setCell ⟨b,2,none⟩ c2).setCell ⟨b,3,none⟩ c3).setCell ⟨b,4,none⟩ c4).setCell ⟨b,5,none⟩ c5).setCell ⟨b,6,none⟩ c6).heap[b]? =some (.cells #[c0,c1,c2,c3,c4,c5,c6,a7,a8,a9] T (0,0)):=bz ((((((W.setCell ⟨b,0,none⟩ c0).setCell ⟨b,1,none⟩ c1).setCell ⟨b,2,none⟩ c2).setCell ⟨b,3,none⟩ c3).setCell ⟨b,4,none⟩ c4).setCell ⟨b,5,none⟩ c5) b 6 _ _ _ c6 h5
 have h7:((((((((W.setCell ⟨b,0,none⟩ c0).setCell ⟨b,1,none⟩ c1).setCell ⟨b,2,none⟩ c2).setCell ⟨b,3,none⟩ c3).setCell ⟨b,4,none⟩ c4).setCell ⟨b,5,none⟩ c5).setCell ⟨b,6,none⟩ c6).setCell ⟨b,7,none⟩ c7).heap[b]? =some (.cells #[c0,c1,c2,c3,c4,c5,c6,c7,a8,a9] T (0,0)):=bz (((((((W.setCell ⟨b,0,none⟩ c0).setCell ⟨b,1,none⟩ c1).setCell ⟨b,2,none⟩ c2).setCell ⟨b,3,none⟩ c3).setCell ⟨b,4,none⟩ c4).setCell ⟨b,5,none⟩ c5).setCell ⟨b,6,none⟩ c6) b 7 _ _ _ c7 h6
 have h8:(((((((((W.setCell ⟨b,0,none⟩ c0).setCell ⟨b,1,none⟩ c1).setCell ⟨b,2,none⟩ c2).setCell ⟨b,3,none⟩ c3).setCell ⟨b,4,none⟩ c4).setCell ⟨b,5,none⟩ c5).setCell ⟨b,6,none⟩ c6).setCell ⟨b,7,none⟩ c7).setCell ⟨b,8,none⟩ c8).heap[b]? =some (.cells #[c0,c1,c2,c3,c4,c5,c6,c7,c8,a9] T (0,0)):=bz ((((((((W.setCell ⟨b,0,none⟩ c0).setCell ⟨b,1,none⟩ c1).setCell ⟨b,2,none⟩ c2).setCell ⟨b,3,none⟩ c3).setCell ⟨b,4,none⟩ c4).setCell ⟨b,5,none⟩ c5).setCell ⟨b,6,none⟩ c6).setCell ⟨b,7,none⟩ c7) b 8 _ _ _ c8 h7
 refine⟨h8,fun k hk=> ?_, ?_, ?_, ?_⟩
 ·rw[aW _ _ _ _ _ hk,aW _ _ _ _ _ hk,aW _ _ _ _ _ hk,aW _ _ _ _ _ hk,aW _ _ _ _ _ hk,aW _ _ _ _ _ hk,aW _ _ _ _ _ hk,aW _ _ _ _ _ hk,aW _ _ _ _ _ hk]
 ·rw[bF,bF,bF,bF,bF,bF,bF,bF,bF]
 ·simp only[NQ]
 ·simp only[EB]
set_option maxHeartbeats 600000 in
theorem XC (G:Gh) (w:World) (bx:Nat) (s:List UInt8) (w0:List UInt8) (r:List (List UInt8)) (a0 a1 a2 a3 a4 a5 a6 a7 a8:Value) (hG:Agr G w) (hT:bZ Tryz.prog G) (hm:iR s=some (w0::r,true,())) (hb:w.heap[bx]? =some (.cells #[a0,a1,a2,a3,a4,a5,a6,a7,a8,.int .i64 0] 41 (0,0))) (hgb:G bx=none) (hi:((bs w0).toList==[105,110,118,111,105,99,101])=true) {s1 s2:List UInt8} {n1 n2 n3:Int} {pl ok:Bool} {q1 q2 q3 q4 q5 q6 q7:List (List UInt8)×Bool×Unit} (hm1:bC (r,false,())=some (s1,q1,())) (hm2:bC q1=some (s2,q2,())) (hm3:bI q2=some (n1,q3,())) (hm4:bI q3=some (n2,q4,())) (hm5:bI q4=some (n3,q5,())) (hm6:dS q5 [112,101,114,108,105,110,101]=some (pl,q6,())) (hm7:cm q6=some (ok,q7,())): Calls Tryz.prog 12 #[.pointer (some ⟨bx,0,none⟩),.string (bs s)] w fun e w'=>e= .returned (.bool ok)/\w.heap.size<=w'.heap.size/\w'.os=w.os/\w'.output=w.output/\(∀ b,b<w.heap.size->b≠bx->w'.heap[b]? =w.heap[b]?)/\ w'.heap[bx]? =some (.cells #[.string (bs s1),.string (bs s2),.int .i64 n1,.int .i64 n2,.int .i64 n3,.bool pl,.slice none 0 0,.slice none 0 0,.slice none 0 0,.int .i64 1] 41 (0,0)):=by
 have e33:∀ args w,(callFunc 33 args).run Tryz.prog w= .ok (.enter 33 args) w:=enters_of Tryz.func33 (by kernel_rfl) rfl
 have e34:∀ args w,(callFunc 34 args).run Tryz.prog w= .ok (.enter 34 args) w:=enters_of Tryz.func34 (by kernel_rfl) rfl
 have e35:∀ args w,(callFunc 35 args).run Tryz.prog w= .ok (.enter 35 args) w:=enters_of Tryz.func35 (by kernel_rfl) rfl
 have e36:∀ args w,(callFunc 36 args).run Tryz.prog w= .ok (.enter 36 args) w:=enters_of Tryz.func36 (by kernel_rfl) rfl
 have e39:∀ args w,(callFunc 39 args).run Tryz.prog w= .ok (.enter 39 args) w:=enters_of Tryz.func39 (by kernel_rfl) rfl
 have mixed:Tryz.prog.follows .mixedOrders=true:=by kernel_rfl
 have late:Tryz.prog.follows .lateStores=true:=by kernel_rfl
 have t3:=Tryz.underlying3;have t4:=Tryz.underlying4;have t9:=Tryz.underlying9;have t36:=Tryz.underlying36;have t41:=Tryz.underlying41;have t91:=Tryz.underlying91;have t26:=Tryz.underlying26;have a91:=Tryz.isAgg91;have z91:=Tryz.sizeOf91;have v91:=Tryz.zeroValue91;have a26:=Tryz.isAgg26;have z26:=Tryz.sizeOf26;have v26:=Tryz.zeroValue26
 have hw:=nr s _ _ hG hT hm
 go_enter Tryz.func12,Tryz.ntmps12
 go_wp2_with (first
  | (go_at_fn 33;refine hw.mono ?_;rintro e w2 ⟨G2,u,rfl,hlv,hu⟩;obtain⟨b,off,cap,rfl,hcap,qJ,hfz,hcell⟩:=o9 hu hlv.agr (adW _ _);have c0:w2.cell? ⟨b,off,none⟩=some (.string (bs w0)):=hcell 0 w0 rfl;have c0':=fun o=>bf (o:=o) c0;have hb2:=(hlv.kept.block bx (aB hb)).trans hb;obtain⟨⟨_,_,_,_,_,_,_,_,_,cb2⟩,qf⟩:=bO hb2;have cb2':=fun o=>bf (o:=o) cb2;have hb2':=fun o=>(heap_alloc_old w2 o (aB hb2)).trans hb2;have f9':=fun o=>(bO (hb2' o)).2 9;have hgb2:G2 bx=none:=(hlv.old bx (aB hb)).trans hgb;have hx2:w2.heap.size≠bx:=Nat.ne_of_gt (aB hb2);have hmn:=fun u k=>abk (u:=u) (k:=k) hlv hT hgb2 hx2 (r:=r);have hcap':r.length+1<=cap:=hcap;have ht1:=uq hcap' hu;clear hcell)
  | (go_at_fn 34;first | (refine (uX hmid1 hm2).mono ?_;rintro e W4 ⟨rfl,G4,hmid2⟩) | (have hmid0:=hmn _ 1 ht1;refine (uX hmid0 hm1).mono ?_;rintro e W3 ⟨rfl,G3,hmid1⟩))
  | (go_at_fn 35;first | (refine (sD hmid4 hm5).mono ?_;rintro e W7 ⟨rfl,G7,hmid5⟩;have hb7:=(hmid5.lv.keep bx (aB (bz _ bx 9 _ _ _ (.int .i64 1) ((heap_alloc_old _ _ (aB hb2)).trans hb2))) (Ne.symm hx2)).trans (bz _ bx 9 _ _ _ (.int .i64 1) ((heap_alloc_old _ _ (aB hb2)).trans hb2));obtain⟨⟨q0,q1,q2,q3,q4,q5,q6,q7,q8,q9⟩,qf7⟩:=bO hb7;have g0:=qf7 0;have g1:=qf7 1;have g2:=qf7 2;have g3:=qf7 3;have g4:=qf7 4;have g5:=qf7 5;have g6:=qf7 6;have g7:=qf7 7;have g8:=qf7 8;) | (refine (sD hmid3 hm4).mono ?_;rintro e W6 ⟨rfl,G6,hmid4⟩) | (refine (sD hmid2 hm3).mono ?_;rintro e W5 ⟨rfl,G5,hmid3⟩)))
 all_goals
  have hg7:G7 bx=none:=(hmid5.lv.old bx (aB (bz _ bx 9 _ _ _ (.int .i64 1) (hb2' _))) (Ne.symm hx2)).trans hgb2
  obtain⟨y1,y2,y3,y4,y5⟩:=ac0 (.string (bs s1)) (.string (bs s2)) (.int .i64 n1) (.int .i64 n2) (.int .i64 n3) (.bool false) (.slice none 0 0) (.slice none 0 0) (.slice none 0 0) hb7
  have hmid6:=Pe hmid5 hg7 hx2 y2
  refine (LY hmid6 hm6).mono ?_
  rintro e W8 ⟨rfl,G8,hmid7⟩
  have hb8:=(hmid7.lv.keep bx (aB y1) (Ne.symm hx2)).trans y1
  have hg8:G8 bx=none:=(hmid7.lv.old bx (aB y1) (Ne.symm hx2)).trans hg7
  have k8:w.heap.size<=W8.heap.size/\W8.os=w.os/\W8.output=w.output/\∀ k,k<w.heap.size->k≠bx->W8.heap[k]? =w.heap[k]? :=by
   have e0:=hlv.kept.size
   have e1:=hmid5.lv.size
   have e2:=hmid7.lv.size
   rw[y3] at e2
   rw[bF] at e1
   refine⟨?_,hmid7.lv.os.trans (y4.trans (hmid5.lv.os.trans hlv.kept.os)),hmid7.lv.output.trans (y5.trans (hmid5.lv.output.trans hlv.kept.output)),fun k hk hn=> ?_⟩
   ·have e3:∀ o,(w2.alloc o).heap.size=w2.heap.size+1:=fun o=>adg _
    rw[e3] at e1
    omega
   ·have hk2:k<w2.heap.size:=aft hk e0
    have e3:∀ o,(w2.alloc o).heap.size=w2.heap.size+1:=fun o=>adg _
    rw[hmid7.lv.keep k (by rw[y3];rw[e3] at e1;omega) (afD hk2),y2 k hn,hmid5.lv.keep k (by rw[bF,e3];omega) (afD hk2),aW _ _ _ _ _ hn,heap_alloc_old _ _ hk2]
    exact hlv.kept.block k hk
  clear hmid6 y1 y2 y3 y4 y5 hmid5 hmid4 hmid3 hmid2 hmid1 hmid0 hb7 q0 q1 q2 q3 q4 q5 q6 q7 q8 q9 qf7 g0 g1 g2 g3 g4 g5 g6 g7 g8 hw c0 c0' cb2' f9' hb2' ht1 hmn hu hfz
  have p5:=(bO hb8).1.2.2.2.2.2.1
  have pf:=(bO hb8).2 5
  have hmid8:=Pe hmid7 hg8 hx2 (fun k hk=>aW W8 bx 5 k (.bool pl) hk)
  go_wp2_with (go_at_fn 39;refine (zC hmid8 hm7).mono ?_;rintro e W9 ⟨rfl,G9,hmid9⟩)
  go_ret
  have z1:=bz W8 bx 5 _ _ _ (.bool pl) hb8
  have z2:=(hmid9.lv.keep bx (aB z1) (Ne.symm hx2)).trans z1
  have e1:=hmid9.lv.size
  rw[bF] at e1
  refine⟨rfl,afs k8.1 e1,hmid9.lv.os.trans k8.2.1,hmid9.lv.output.trans k8.2.2.1,fun k hk hn=> ?_,z2⟩
  rw[hmid9.lv.keep k (by rw[bF];exact aft hk k8.1) (afD (aft hk hlv.kept.size)),aW _ _ _ _ _ hn]
  exact k8.2.2.2 k hk hn
end Go.Proofs.SeatU
set_option maxRecDepth 100000
namespace Go.Proofs.SeatU
open Go.Dn Go.Md Go.Proofs Go.RowKit Go.Shelf Go.Lib
structure Far (N:Nat) (X:List Nat) (w w':World):Prop where
 size:w.heap.size<=w'.heap.size
 os:w'.os=w.os
 output:w'.output=w.output
 keep:∀ b,b<N->b∉X->w'.heap[b]? =w.heap[b]?
section
variable {N:Nat} {X:List Nat} {w w' w'':World}
theorem Far.trans (h:Far N X w w') (k:Far N X w' w''):Far N X w w'':=⟨afs h.size k.size,k.os.trans h.os,k.output.trans h.output,fun b hb hn=>(k.keep b hb hn).trans (h.keep b hb hn)⟩
theorem Far.kept (h:Kept w w') (hN:N<=w.heap.size):Far N X w w':=⟨h.size,h.os,h.output,fun b hb _=>h.block b (aft hb hN)⟩
theorem Far.lvb {bw:Nat} {G G':Gh} (h:LvB bw G G' w w') (hN:N<=w.heap.size) (hb:N<=bw):Far N X w w':=⟨h.size,h.os,h.output,fun b hbN _=>h.keep b (aft hbN hN) (afD (aft hbN hb))⟩
theorem Far.grown {r:Option Nat} (h:w.grownBy w' r) (hN:N<=w.heap.size) (hr:∀ b,r=some b->b∈X):Far N X w w':=⟨h.size,h.os,h.output,fun b hb hn=>h.block b (aft hb hN) fun e=>hn (hr b e.symm)⟩
theorem Far.set {b k:Nat} {v:Value} (hb:b∈X):Far N X w (w.setCell ⟨b,k,none⟩ v):=⟨by rw[bF];exact afq _,rfl,rfl,fun c _ hn=>aW _ _ _ _ _ fun e=>hn (e ▸ hb)⟩
end
theorem RI.keep {w w':World} {bx:Nat} {v:ai} {k:Int} {vr vl ve:Value} {L:List (aa×Value)} (h:RI w bx v k vr vl ve L) (hk:∀ b∈bx::bH vr vl ve L,w'.heap[b]? =w.heap[b]?):RI w' bx v k vr vl ve L:=
 ⟨(hk bx (by simp)).trans h.box,h.rows.keep fun b hb=>hk b (by simp[hb]),h.out⟩
theorem RI.lt {w:World} {bx:Nat} {v:ai} {k:Int} {vr vl ve:Value} {L:List (aa×Value)} (h:RI w bx v k vr vl ve L):∀ b∈bx::bH vr vl ve L,b<w.heap.size:=by
 intro b hb
 rcases aeO.1 hb with rfl | hb
 ·exact aB h.box
 ·exact h.rows.lt b hb
structure Beg (w2 W5:World) (bx:Nat) (v:ai) (k:Int) (vr vl ve:Value) (L:List (aa×Value)) (u:Value):Prop where
 ri:RI W5 bx v k vr vl ve L
 box:W5.heap[w2.heap.size]? =some (.cells #[u,.bool false] 91 (0,0))
 size:W5.heap.size=w2.heap.size+1
 os:W5.os=w2.os
 output:W5.output=w2.output
 keep:∀ b,b<w2.heap.size->b≠bx->W5.heap[b]? =w2.heap[b]?
 lt:∀ b∈bx::bH vr vl ve L,b<w2.heap.size
section
variable {w w2 W5 W7 W8:World} {bx:Nat} {v:ai} {k:Int} {vr vl ve u:Value} {L:List (aa×Value)} {G G2 G7:Gh} {r:List (List UInt8)} {q:List (List UInt8)×Bool×Unit}
theorem PS (h:RI w2 bx v k vr vl ve L):Beg w2 (w2.alloc (.cells #[u,.bool false] 91)) bx v k vr vl ve L u:=
 ⟨h.keep fun b hb=>heap_alloc_old _ _ (h.lt b hb),heap_alloc_new _ _,adg _,rfl,rfl,fun b hb _=>heap_alloc_old _ _ hb,h.lt⟩
theorem Vk {k':Int} (h:RI w2 bx v k vr vl ve L):Beg w2 ((w2.alloc (.cells #[u,.bool false] 91)).setCell ⟨bx,9,none⟩ (.int .i64 k')) bx v k' vr vl ve L u:=by
 have hl:=h.lt bx (by simp)
 refine⟨⟨?_,h.rows.keep fun b hb=> ?_,h.out⟩, ?_, ?_,rfl,rfl,fun b hb hn=> ?_,h.lt⟩
 ·exact bz _ bx 9 _ _ _ (.int .i64 k') ((heap_alloc_old _ _ hl).trans h.box)
 ·have hne:b≠bx:=fun e=>h.out (e ▸ hb)
  rw[aW _ _ _ _ _ hne]
  exact heap_alloc_old _ _ (h.rows.lt b hb)
 ·rw[aW _ _ _ _ _ (Nat.ne_of_gt hl)]
  exact heap_alloc_new _ _
 ·rw[bF];exact adg _
 ·rw[aW _ _ _ _ _ hn]
  exact heap_alloc_old _ _ hb
theorem Beg.mid (h:Beg w2 W5 bx v k vr vl ve L u) (hlv:Lv G G2 w w2) (hT:bZ Tryz.prog G) (hgb:G2 bx=none) (hu:bJ G2 Ty.str.size (ax G2 .str) r u):Mid w2.heap.size G2 W5 G2 W5 (r,false,()):=by
 have hlt:∀ b o,G2 b=some o->b<w2.heap.size:=fun b o hb=>aB (hlv.agr b o hb)
 refine Mid.refl (fun b o hb=> ?_) ⟨⟨_,91,h.box,hu⟩, ?_⟩ (hT.mono hlv.le)
 ·have hn:b≠bx:=fun e=>by rw[e,hgb] at hb;cases hb
  exact (h.keep b (hlt b o hb) hn).trans (hlv.agr b o hb)
 ·cases hg:G2 w2.heap.size with
  | none=>rfl
  | some o=>exact absurd (hlt _ o hg) (Nat.lt_irrefl _)
theorem Beg.far (h:Beg w2 W5 bx v k vr vl ve L u) {N:Nat} {X:List Nat} (hN:N<=w2.heap.size) (hx:bx∈X):Far N X w2 W5:=
 ⟨by rw[h.size];omega,h.os,h.output,fun b hb hn=>h.keep b (aft hb hN) fun e=>hn (e ▸ hx)⟩
theorem Beg.rm (h:Beg w2 W5 bx v k vr vl ve L u) (hM:Mid w2.heap.size G2 W5 G7 W7 q):RI W7 bx v k vr vl ve L:=
 h.ri.keep fun b hb=>hM.lv.keep b (by rw[h.size];have:=h.lt b hb;omega) (afD (h.lt b hb))
theorem Beg.SI (h:Beg w2 W5 bx v k vr vl ve L u) (hM:Mid w2.heap.size G2 W5 G7 W7 q) (hgb:∀ b∈bx::bH vr vl ve L,G2 b=none):∀ b∈bx::bH vr vl ve L,G7 b=none:=
 fun b hb=>(hM.lv.old b (by rw[h.size];have:=h.lt b hb;omega) (afD (h.lt b hb))).trans (hgb b hb)
theorem mid_end {bw y j:Nat} {c:Value} {X:List Nat} {o:Obj} {ow:Option Nat} {G0:Gh} {w0:World} (hM:Mid bw G0 w0 G7 W7 q) (hX:∀ b∈X,b≠bw/\G7 b=none) (hgr:(W7.alloc o).grownBy W8 ow) (ho:∀ b,ow=some b->b∈X) (hy:y∈X):Mid bw G7 (W8.setCell ⟨y,j,none⟩ c) G7 (W8.setCell ⟨y,j,none⟩ c) q:=by
 obtain⟨⟨u,T,b1,b2⟩,b3⟩:=hM.wat
 have hk:∀ b,b<W7.heap.size->b∉X->(W8.setCell ⟨y,j,none⟩ c).heap[b]? =W7.heap[b]? :=fun b hb hn=>by
  have hne:b≠y:=fun e=>hn (e ▸ hy)
  have hlt:b<(W7.alloc o).heap.size:=by show b<(W7.heap.push _).size;rw[adg];omega
  rw[aW _ _ _ _ _ hne,hgr.block b hlt (fun e=>hn (ho b e.symm))]
  exact heap_alloc_old _ _ hb
 exact Mid.refl (fun b o hb=>(hk b (aB (hM.lv.agr b o hb)) fun hm=>by rw[(hX b hm).2] at hb;cases hb).trans (hM.lv.agr b o hb)) ⟨⟨u,T,(hk bw (aB b1) fun hm=>(hX bw hm).1 rfl).trans b1,b2⟩,b3⟩ hM.tab
theorem JB {N y j:Nat} {c:Value} {X:List Nat} {o:Obj} {ow:Option Nat} (hN:N<=W7.heap.size) (hgr:(W7.alloc o).grownBy W8 ow) (ho:∀ b,ow=some b->b∈X) (hy:y∈X):Far N X W7 (W8.setCell ⟨y,j,none⟩ c):=by
 have e:(W7.alloc o).heap.size=W7.heap.size+1:=adg _
 exact ((Far.kept (bA W7 o).2 hN).trans (Far.grown hgr (by rw[e];omega) ho)).trans (Far.set hy)
def Fin (N bx:Nat) (nb:List Nat) (w w':World) (v:ai) (k:Int):Prop:=
 Far N (bx::nb) w w'/\∃ vr vl ve L,RI w' bx v k vr vl ve L/\∀ b∈bH vr vl ve L,b∈nb\/N<=b
theorem JC {N bw:Nat} {nb:List Nat} {w W9 W10:World} {vr vl ve:Value} {L:List (aa×Value)} {G G9:Gh} (hf:Far N (bx::nb) w W9) (hR:RI W9 bx v k vr vl ve L) (hnb:∀ b∈bH vr vl ve L,b∈nb\/bw<b) (hlt:∀ b∈bx::nb,b<bw) (hbw:N<=bw) (hM:LvB bw G G9 W9 W10) (hw:N<=w.heap.size):Fin N bx nb w W10 v k:=by
 have hne:∀ b∈bx::bH vr vl ve L,b≠bw:=fun b hb=>by
  rcases aeO.1 hb with rfl | hb
  ·exact afD (hlt _ (by simp))
  ·rcases hnb b hb with h | h
   ·exact afD (hlt b (by simp[h]))
   ·exact Nat.ne_of_gt h
 exact⟨hf.trans (Far.lvb hM (afs hw hf.size) hbw),vr,vl,ve,L,hR.keep fun b hb=>hM.keep b (hR.lt b hb) (hne b hb),fun b hb=>(hnb b hb).imp id fun h=>by omega⟩
end
end Go.Proofs.SeatU
set_option maxRecDepth 100000
namespace Go.Proofs.SeatU
open Go.Dn Go.Md Go.Proofs Go.RowKit Go.Shelf Go.Lib
attribute [local go_sem ↓] Go.wp_at_zero Go.wp_at_succ
theorem bD {W:World} {a:Addr} {u:Value} (hc:W.cell? a=some u):W.drew.cell? a=some u:=hc
theorem bK {w w':World} {r:Option Nat} (hg:w.grownBy w' r) {b o:Nat} {u:Value} (h:w.cell? ⟨b,o,none⟩=some u) (hne:some b≠r):w'.cell? ⟨b,o,none⟩=some u:=by
 simp only[World.cell?] at h ⊢
 cases hb:w.heap[b]? with
 | none=>rw[hb] at h;cases h
 | some o'=>rw[hg.block b (aB hb) hne,hb];rw[hb] at h;exact h
theorem tU {P:Program} {c:Code} {Q:Exit->Act->World->Prop} {a:Act} {w:World} (F:World->Prop) (hF:F w) (h:∀ W,F W->Code.wp P c Q a W):Code.wp P c Q a w:=h w hF
theorem Cw {W6 W8:World} {o:Obj} {r:Option Nat} {bx:Nat} {c:Obj} (hg:(W6.alloc o).grownBy W8 r) (hne:some bx≠r) (hb:W6.heap[bx]? =some c):W8.heap[bx]? =some c:=by
 have h7:=(heap_alloc_old W6 o (aB hb)).trans hb
 exact (hg.block bx (aB h7) hne).trans h7
theorem abo (x:ak):∀ u∈BX x,u.oneCell'=true:=by
 intro u hu
 simp only[BX,aeO,ae2,or_false] at hu
 rcases hu with rfl | rfl | rfl<;>rfl
theorem VJ (x:aj):∀ u∈td x,u.oneCell'=true:=by
 intro u hu
 simp only[td,aeO,ae2,or_false] at hu
 rcases hu with rfl | rfl | rfl | rfl<;>rfl
theorem abn (x:aa) (a:Option Addr) (n c:Nat):∀ u∈wC x (.slice a n c),u.oneCell'=true:=by
 intro u hu
 simp only[wC,aeO,ae2,or_false] at hu
 rcases hu with rfl | rfl | rfl | rfl | rfl | rfl | rfl | rfl | rfl | rfl | rfl<;>rfl
theorem abX:(Tryz.prog.info? 56).map (fun i=>(i.zero,i.size,i.bytes))=some (some (.agg #[.string ⟨#[]⟩,.int .i64 0,.int .i64 0]),3,32):=by kernel_rfl
theorem Yx:(Tryz.prog.info? 53).map (fun i=>(i.zero,i.size,i.bytes))=some (some (.agg #[.bool false,.int .i64 0,.int .i64 0,.string ⟨#[]⟩]),4,40):=by kernel_rfl
theorem abW:(Tryz.prog.info? 50).map (fun i=>(i.zero,i.size,i.bytes))=some (some (.agg #[.int .i64 0,.int .i64 0,.string ⟨#[]⟩,.int .i64 0,.int .i64 0,.string ⟨#[]⟩,.int .i64 0,.int .i64 0,.int .i64 0,.slice none 0 0,.string ⟨#[]⟩]),11,128):=by kernel_rfl
set_option maxHeartbeats 4000000 in
theorem abC (G:Gh) (w:World) (bx:Nat) (s:List UInt8) (w0:List UInt8) (r:List (List UInt8)) (v:ai) (vr vl ve:Value) (L:List (aa×Value)) (hG:Agr G w) (hT:bZ Tryz.prog G) (hm:iR s=some (w0::r,true,())) (hR:RI w bx v 1 vr vl ve L) (hgb:∀ b∈bx::bH vr vl ve L,G b=none) (hn:v.2.2.2.2.2.2.1.length<=1000000) (hi:((bs w0).toList==[105,110,118,111,105,99,101])=false) (hr:((bs w0).toList==[114,97,116,101])=true) {s1:List UInt8} {d:ah} {ok:Bool} {q1 q2 q3:List (List UInt8)×Bool×Unit} (hm1:bC (r,false,())=some (s1,q1,())) (hm2:bU q1=some (d,q2,())) (hm3:cm q2=some (ok,q3,())): Calls Tryz.prog 12 #[.pointer (some ⟨bx,0,none⟩),.string (bs s)] w fun e w'=>e= .returned (.bool ok)/\Fin w.heap.size bx (bH vr vl ve L) w w' (xE v (s1,d)) 1:=by
 have e33:∀ args w,(callFunc 33 args).run Tryz.prog w= .ok (.enter 33 args) w:=enters_of Tryz.func33 (by kernel_rfl) rfl
 have e34:∀ args w,(callFunc 34 args).run Tryz.prog w= .ok (.enter 34 args) w:=enters_of Tryz.func34 (by kernel_rfl) rfl
 have e37:∀ args w,(callFunc 37 args).run Tryz.prog w= .ok (.enter 37 args) w:=enters_of Tryz.func37 (by kernel_rfl) rfl
 have e39:∀ args w,(callFunc 39 args).run Tryz.prog w= .ok (.enter 39 args) w:=enters_of Tryz.func39 (by kernel_rfl) rfl
 have mixed:Tryz.prog.follows .mixedOrders=true:=by kernel_rfl
 have late:Tryz.prog.follows .lateStores=true:=by kernel_rfl
 have t3:=Tryz.underlying3;have t4:=Tryz.underlying4;have t9:=Tryz.underlying9;have t36:=Tryz.underlying36;have t41:=Tryz.underlying41;have t91:=Tryz.underlying91;have t26:=Tryz.underlying26;have a91:=Tryz.isAgg91;have z91:=Tryz.sizeOf91;have v91:=Tryz.zeroValue91;have a48:=Tryz.isAgg48;have z48:=Tryz.sizeOf48
 have t22:=Tryz.underlying22;have a56:=Tryz.isAgg56;have z56:=Tryz.sizeOf56;have t55:=Tryz.underlying55;have t56:=Tryz.underlying56
 have hw:=nr s _ _ hG hT hm
 go_enter Tryz.func12,Tryz.ntmps12
 go_wp2_with (go_at_fn 33;refine hw.mono ?_;rintro e w2 ⟨G2,u,rfl,hlv,hu⟩;obtain⟨b,off,cap,rfl,hcap,qJ,hfz,hcell⟩:=o9 hu hlv.agr (adW _ _);have c0:w2.cell? ⟨b,off,none⟩=some (.string (bs w0)):=hcell 0 w0 rfl;have c0':=fun o=>bf (o:=o) c0;have hR2:RI w2 bx v _ vr vl ve L:=hR.keep fun b hb=>hlv.kept.block b (hR.lt b hb);have cb2:=(bO hR2.box).1.2.2.2.2.2.2.2.2.2;have cb2':=fun o=>bf (o:=o) cb2;have hb2':=fun o=>(heap_alloc_old w2 o (hR2.lt bx (by simp))).trans hR2.box;have f9':=fun o=>(bO (hb2' o)).2 9;have hcap':r.length+1<=cap:=hcap;obtain⟨A,hA⟩:∃ A,(if cap=1 then some (⟨b,off,none⟩:Addr) else some ⟨b,off+1,none⟩)=A:=⟨_,rfl⟩;have ht1:=uq hcap' hu;rw[hA] at ht1;clear hcell)
 refine tU (fun W=>Beg w2 W bx v 1 vr vl ve L (.slice A r.length (cap - 1))) (PS hR2) ?_
 intro W5 hB
 have hg2:∀ b∈bx::bH vr vl ve L,G2 b=none:=fun b hb=>(hlv.old b (hR.lt b hb)).trans (hgb b hb)
 have hmid0:=hB.mid hlv hT (hg2 bx (by simp)) ht1
 have hxbw:bx≠w2.heap.size:=afD (hB.lt bx (by simp))
 have x0:W5.cell? ⟨bx,6,none⟩=some vr:=(bO hB.ri.box).1.2.2.2.2.2.2.1
 have HM0:Aside _:=hmid0
 obtain⟨xs,hxs⟩:∃ xs:List Value,xs=v.2.2.2.2.2.2.1.flatMap BX:=⟨_,rfl⟩
 have HXS:Aside _:=hxs
 have hown:∀ {G7 W7 q o},Mid w2.heap.size G2 W5 G7 W7 q->(W7.alloc o).ownsRow 0 56 3 vr v.2.2.2.2.2.2.1.length xs:=fun {G7 W7 q o} hM=>by
  rw[hxs]
  exact cg (hB.rm hM).rows.rat fun g hg=>heap_alloc_old _ _ (dw (hB.rm hM).rows.rat hg)
 have hvx:some bx≠vr.ownBlock:=fun e=>hB.ri.out (bW.2 (.inl (e.symm)))
 obtain⟨i0,hi0,hz0,hz1,hz2⟩:=info_parts abX
 have h63:v.2.2.2.2.2.2.1.length+1<=maxLen:=by simp only[maxLen];omega
 have hbytes:(v.2.2.2.2.2.2.1.length+1)*32<=140737488355328:=by omega
 have HB:Aside _:=hB
 have HG2:Aside _:=hg2
 have HLV:Aside _:=hlv
 clear hxs hu hw hR hG hT hg2 hgb hlv hmid0 hB hR2 c0 c0' cb2 cb2' hb2' f9' ht1 hfz hcap
 refine wp_region_noPanic ?_
 refine sQ (n:=16) (S:=(fun W=>W.cell? ⟨bx,6,none⟩=some vr)) mixed (by (simp only[afe,afg];try rfl)) rfl rfl (by kernel_rfl) ?_ (fun hHeld=> ?_)
 ·(try dsimp only);(repeat (first | with_reducible assumption | with_reducible refine bf ?_ | with_reducible refine bD ?_ | with_reducible refine bK hgr8 ?_ hvx))
 refine tk 0 ?_
 refine tk 1 ?_
 refine tk 2 ?_
 refine tk 3 ?_
 refine tk 4 ?_
 refine tk 5 ?_
 refine tk 6 ?_
 refine tk 8 ?_
 refine dI (i:=7) rfl (by kernel_rfl) (fun K hK=> ?_)
 go_simp
 (go_at_fn 34;refine Calls.mono (uX (Mid.same HM0.out (by rfl) (by rfl) (by rfl)) hm1) ?_;rintro e Wc1 ⟨rfl,Gc1,hmid1⟩;have x1:Wc1.cell? ⟨bx,6,none⟩=some vr:=hmid1.cell hxbw x0;have HM1:Aside _:=hmid1;clear hmid1)
 refine hK.out _ _ ?_ (fun hHeld=> ?_)
 ·(try dsimp only);(repeat (first | with_reducible assumption | with_reducible refine bf ?_ | with_reducible refine bD ?_ | with_reducible refine bK hgr8 ?_ hvx))
 clear hK K
 try simp only[Act.put,ae5,ae7,ae6]
 refine dI (i:=9) rfl (by kernel_rfl) (fun K hK=> ?_)
 go_simp
 (go_at_fn 37;refine Calls.mono (tW (Mid.same HM1.out (by rfl) (by rfl) (by rfl)) hm2) ?_;rintro e Wc2 ⟨rfl,Gc2,hmid2⟩;have x2:Wc2.cell? ⟨bx,6,none⟩=some vr:=hmid2.cell hxbw x0;have HM2:Aside _:=hmid2;clear hmid2)
 refine hK.out _ _ ?_ (fun hHeld=> ?_)
 ·(try dsimp only);(repeat (first | with_reducible assumption | with_reducible refine bf ?_ | with_reducible refine bD ?_ | with_reducible refine bK hgr8 ?_ hvx))
 clear hK K
 try simp only[Act.put,ae5,ae7,ae6]
 refine tk 10 ?_
 refine dI (i:=11) rfl (by kernel_rfl) (fun K hK=> ?_)
 go_simp
 refine hK.out _ _ ?_ (fun hHeld=> ?_)
 ·(try dsimp only);(repeat (first | with_reducible assumption | with_reducible refine bf ?_ | with_reducible refine bD ?_ | with_reducible refine bK hgr8 ?_ hvx))
 clear hK K
 try simp only[Act.put,ae5,ae7,ae6]
 refine dI (i:=12) rfl (by kernel_rfl) (fun K hK=> ?_)
 (refine step_append_lies _ (by rfl) _ _ _ (by rfl) 0 56 i0 _ 3 32 t22 hi0 hz0 hz1 hz2 rfl (by omega) vr v.2.2.2.2.2.2.1.length xs (by rfl) (hown HM2.out) ⟨Wc2.heap.size,0,none⟩ 1 1 [.string (bs s1),.int .i64 d.1,.int .i64 d.2] (by rfl) (by rfl) (World.news_of_block (cs:= #[.string (bs s1),.int .i64 d.1,.int .i64 d.2]) (t:=56) (fr:=(0,0)) (heap_alloc_new Wc2 _)) (abo (s1,d)) (by omega) h63 hbytes (afI _) (Wc2.heap.size+1) (by simp) ?_;intro g capn W8 hown8 hgr8 hat8 hlt8;have hb8:=Cw hgr8 hvx (HB.out.rm HM2.out).box;have p3:=(bO hb8).1.2.2.2.2.2.2.1;have pf:=(bO hb8).2 6)
 refine hK.out _ _ ?_ (fun hHeld=> ?_)
 ·(try dsimp only);(repeat (first | with_reducible assumption | with_reducible refine bf ?_ | with_reducible refine bD ?_ | with_reducible refine bK hgr8 ?_ hvx))
 clear hK K
 try simp only[Act.put,ae5,ae7,ae6]
 refine tk 13 ?_
 refine tk 14 ?_
 refine tk 15 ?_
 refine wpAnyH_done (by kernel_rfl) ?_ _
 refine Fw (fun K hK=> ?_)
 go_simp
 refine hK.out _ _ (NoPanic.normal ?_)
 clear hK K
 have hX:∀ b∈bx::bH vr vl ve L,b≠w2.heap.size/\Gc2 b=none:=fun b hb=>⟨afD (HB.out.lt b hb),HB.out.SI HM2.out HG2.out b hb⟩
 have hoX:∀ b,vr.ownBlock=some b->b∈bx::bH vr vl ve L:=fun b hb=>aeP _ (bW.2 (.inl (hb)))
 have hmE:=mid_end (y:=bx) (j:=6) (c:= .slice (some ⟨g,0,none⟩) (v.2.2.2.2.2.2.1.length+1) capn) HM2.out hX hgr8 hoX (by simp)
 go_wp2_with (go_at_fn 39;refine (zC hmE hm3).mono ?_;rintro e W9 ⟨rfl,G9,hmid9⟩)
 go_ret
 refine⟨rfl, ?_⟩
 have hP:=RV.aaz (w:=Wc2.alloc (.cells #[.string (bs s1),.int .i64 d.1,.int .i64 d.2] 56)) (w':=W8) ((HB.out.rm HM2.out).rows.keep fun b hb=>heap_alloc_old _ _ ((HB.out.rm HM2.out).rows.lt b hb)) (r:=(s1,d)) (g:=g) (cap:=capn) (by rw[HXS.out] at hown8;exact hown8) hgr8 (hat8.imp id fun e=>by rw[e];exact Nat.le_of_eq (adg _))
 obtain⟨hP1,hP2⟩:=hP
 have hbxn:bx∉bH (.slice (some ⟨g,0,none⟩) (v.2.2.2.2.2.2.1.length+1) capn) vl ve L:=fun hm=>by
  rcases hP2 bx hm with h | h
  ·exact HB.out.ri.out h
  ·have h1:Wc2.heap.size+1<=bx:=by rw[<- show (Wc2.alloc (.cells #[.string (bs s1),.int .i64 d.1,.int .i64 d.2] 56)).heap.size=Wc2.heap.size+1 from adg _];exact h
   have h2:=HB.out.lt bx (by simp)
   have h3:=HM2.out.lv.size
   have h4:=HB.out.size
   omega
 have hf:Far w.heap.size (bx::bH vr vl ve L) w (W8.setCell ⟨bx,6,none⟩ (.slice (some ⟨g,0,none⟩) (v.2.2.2.2.2.2.1.length+1) capn)):=by
  have e1:=HLV.out.kept.size
  have e2:=HB.out.size
  have e3:=HM2.out.lv.size
  exact ((((Far.kept HLV.out.kept (afq _)).trans (HB.out.far e1 (by simp))).trans (Far.lvb HM2.out.lv (by omega) e1)).trans (JB (by omega) hgr8 hoX (by simp)))
 exact JC hf ⟨bz _ bx 6 _ _ _ _ hb8,hP1.keep fun b hb=>aW _ _ _ _ _ fun e=>hbxn (e ▸ hb),hbxn⟩ (fun b hb=>(hP2 b hb).imp id fun h=>by
  have h1:(Wc2.alloc (.cells #[.string (bs s1),.int .i64 d.1,.int .i64 d.2] 56)).heap.size=Wc2.heap.size+1:=adg _
  have h3:=HM2.out.lv.size
  have h4:=HB.out.size
  omega) HB.out.lt HLV.out.kept.size hmid9.lv (afq _)
end Go.Proofs.SeatU
