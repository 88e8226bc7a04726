/-
  The law itself is as its plain model says. No condition.
-/
import Derived.Test.YtjlkkapojeldlaaGreatDoorYj
import Derived.Test.YtjlkkapojeldlaaGreatDoorYE
import Derived.Test.YtjlkkapojeldlaaGreatDoorYk
import Derived.Shelf.Strings.BuilderF
import Derived.Shelf.Strings.BuilderK
import Derived.Deep.RegionHeld3
import Derived.Deep.DrawnRows
import Derived.Test.YtjlkkapojeldlaaGreatDoorYH
set_option linter.all false
set_option maxRecDepth 100000
noncomputable section
namespace Go.Proofs.SeatU
open Go.Dn Go.Md Go.Proofs Go.RowKit Go.Shelf Go.Lib
structure KB (B:Nat) (w w':World):Prop where
 size:w.heap.size<=w'.heap.size
 os:w'.os=w.os
 output:w'.output=w.output
 block:∀ k,k<B->w'.heap[k]? =w.heap[k]?
theorem KB.refl (B:Nat) (w:World):KB B w w:=⟨Yc _,rfl,rfl,fun _ _=>rfl⟩
theorem KB.trans {B:Nat} {a b c:World} (h:KB B a b) (k:KB B b c):KB B a c:=⟨Yd h.size k.size,k.os.trans h.os,k.output.trans h.output,fun i hi=>(k.block i hi).trans (h.block i hi)⟩
theorem KB.of {B:Nat} {a b:World} (h:Kept a b) (hB:B<=a.heap.size):KB B a b:=⟨h.size,h.os,h.output,fun i hi=>h.block i (by omega)⟩
theorem KB.agr {G:Gh} {B:Nat} {w w':World} (h:KB B w w') (hG:Agr G w) (hB:∀ b o,G b=some o->b<B):Agr G w':=fun b o hb=>by rw[h.block b (hB b o hb)];exact hG b o hb
theorem SN {w w':World} {base:Nat} {e:TypeId} {size:Nat} {v:Value} {n:Nat} {xs:List Value} (h:w.ownsRowF base e size v n xs) (hk:∀ b,b<w.heap.size->w'.heap[b]? =w.heap[b]?):w'.ownsRowF base e size v n xs:=by
 refine⟨h.1, ?_⟩
 rcases h.2 with hn | ⟨g,cap,cur,fz,hv,hb,hg,rest⟩
 ·exact .inl hn
 ·exact .inr ⟨g,cap,cur,fz,hv,hb,(hk g (aG hg)).trans hg,rest⟩
theorem C1 {T e:TypeId} {B b:Nat} {p:Value} {bs:List Value} {w w':World} (h:Lib.BuilderAtF T e B b p bs w) (hk:∀ b,b<w.heap.size->w'.heap[b]? =w.heap[b]?):Lib.BuilderAtF T e B b p bs w':=by
 obtain⟨hB,v,hb,hown,hne⟩:=h
 exact⟨hB,v,(hk b (aG hb)).trans hb,SN hown hk,hne⟩
theorem ld {T e:TypeId} {B b:Nat} {bs:List Value} {w w':World} (h:Lib.IsBuilderF T e B b bs w) (hk:∀ b,b<w.heap.size->w'.heap[b]? =w.heap[b]?):Lib.IsBuilderF T e B b bs w':=
 h.elim (fun h=> .inl (C1 h hk)) (fun h=> .inr (C1 h hk))
theorem HA {G:Gh} {w:World} (s t:List UInt8) (hG:Agr G w) (hT:cq Tryz.prog G) (hm:kG s=some (t,())): Calls Tryz.prog 22 #[.string (bs s)] w fun e w'=>e= .returned (.string (bs t))/\Kept w w':=by
 refine (O1 G w (fun _=>none) [.string (bs s)] (s,()) (t,()) hG (fun b i h=>by cases h) ⟨_,[],fun _=>rfl,fun h=>Bool.noConfusion h,rfl,rfl⟩ hm hT).mono ?_
 rintro e w' ⟨G',ow',vs,g⟩
 obtain⟨u,us,rfl,hu,h3,_⟩:=g.out
 have e1:[u]=[Value.string (bs t)]:=hu
 have e3:us=[]:=h3
 cases e1;subst e3
 exact⟨g.ret,⟨g.size,g.os,g.output,fun b hb=>(g.old b hb rfl).1⟩⟩
theorem I2 {G:Gh} {w:World} (d:ah) (t:List UInt8) (hG:Agr G w) (hT:cq Tryz.prog G) (hm:fA d=some (t,())): Calls Tryz.prog 23 #[.agg #[.int .i64 d.1,.int .i64 d.2]] w fun e w'=>e= .returned (.string (bs t))/\Kept w w':=by
 refine (Ka G w (fun _=>none) [.agg #[.int .i64 d.1,.int .i64 d.2]] (d,()) (t,()) hG (fun b i h=>by cases h) ⟨_,[],fun _=>rfl,fun h=>Bool.noConfusion h,⟨_,rfl,[.int .i64 d.1],_,rfl,rfl,rfl⟩,rfl⟩ hm hT).mono ?_
 rintro e w' ⟨G',ow',vs,g⟩
 obtain⟨u,us,rfl,hu,h3,_⟩:=g.out
 have e1:[u]=[Value.string (bs t)]:=hu
 have e3:us=[]:=h3
 cases e1;subst e3
 exact⟨g.ret,⟨g.size,g.os,g.output,fun b hb=>(g.old b hb rfl).1⟩⟩
theorem QB {G:Gh} {w:World} (n:Int) (t:List UInt8) (hG:Agr G w) (hT:cq Tryz.prog G) (hm:strconv_Itoa n=some (t,())): Calls Tryz.prog 21 #[.int .i64 n] w fun e w'=>e= .returned (.string (bs t))/\Kept w w':=by
 refine (jN G w (fun _=>none) [.int .i64 n] (n,()) (t,()) hG (fun b i h=>by cases h) ⟨_,[],fun _=>rfl,fun h=>Bool.noConfusion h,rfl,rfl⟩ hm hT).mono ?_
 rintro e w' ⟨G',ow',vs,g⟩
 obtain⟨u,us,rfl,hu,h3,_⟩:=g.out
 have e1:[u]=[Value.string (bs t)]:=hu
 have e3:us=[]:=h3
 cases e1;subst e3
 exact⟨g.ret,⟨g.size,g.os,g.output,fun b hb=>(g.old b hb rfl).1⟩⟩
theorem Bt {G:Gh} {w:World} (b:Nat) (l:List (List UInt8)) (t:List UInt8) (hG:Agr G w) (hT:cq Tryz.prog G) (hb:w.heap[b]? =some (.cells (l.map fun s=>Value.string (bs s)).toArray 9 (0,0))) (hl:l.length<=1000) (hm:gv l=some (t,())): Calls Tryz.prog 20 #[.slice (some ⟨b,0,none⟩) l.length l.length] w fun e w'=>e= .returned (.string (bs t))/\Kept w w':=by
 let G1:Gh:=⟨fun x=>if x=b then w.heap[b]? else G x,G.hnd⟩
 have hA:Agr G1 w:=fun x o hx=>by
  by_cases e:x=b
  ·subst e;simpa [G1] using hx
  ·exact hG x o (by simpa [G1,e] using hx)
 have hle:G.le G1:=⟨fun x o hx=>by
  by_cases e:x=b
  ·subst e;simp only[G1,YR rfl];exact hG x o hx
  ·simp only[G1,YQ e];exact hx,fun _ _ h=>h⟩
 have hrep:bN G1 Ty.str.size (ax G1 .str) l (.slice (some ⟨b,0,none⟩) l.length l.length):=by
  refine⟨some ⟨b,0,none⟩,l.length,rfl,Yc _,by simp only[maxLen];omega,.inr ⟨b,0,_,9,(0,0),rfl,by simp only[G1,YR rfl];exact hb,Nat.le_of_eq (by rw[show Ty.str.size=1 from rfl,Yr,Yn,XW,Xo];rfl), ?_⟩⟩
  have e1:((l.map fun s=>Value.string (bs s)).toArray.toList.drop 0).take (l.length*Ty.str.size)=l.map fun s=>Value.string (bs s):=by
   rw[WJ,show Ty.str.size=1 from rfl,Yn]
   exact X0 (by simp)
  have key:∀ l:List (List UInt8),bA (ax G1 .str) l (l.map fun s=>Value.string (bs s)):=by
   intro l
   induction l with
   | nil=>rfl
   | cons x r ih=>exact⟨[.string (bs x)],_,rfl,rfl,ih⟩
  exact (congrArg (bA (ax G1 .str) l) e1).mpr (key l)
 refine (O2 G1 w (fun _=>none) [.slice (some ⟨b,0,none⟩) l.length l.length] (l,()) (t,()) hA (fun b i h=>by cases h) ⟨_,[],fun _=>rfl,fun h=>Bool.noConfusion h,⟨_,rfl,hrep⟩,rfl⟩ hm (hT.mono hle)).mono ?_
 rintro e w' ⟨G',ow',vs,g⟩
 obtain⟨u,us,rfl,hu,h3,_⟩:=g.out
 have e1:[u]=[Value.string (bs t)]:=hu
 have e3:us=[]:=h3
 cases e1;subst e3
 exact⟨g.ret,⟨g.size,g.os,g.output,fun b hb=>(g.old b hb rfl).1⟩⟩
theorem R4 (b B:Nat) (bs:List Value) (w:World) (h:Lib.IsBuilderF 49 5 B b bs w):Calls Tryz.prog 24 #[.pointer (some ⟨b,0,none⟩)] w fun e w'=>e= .returned (.int .i64 bs.length)/\w'=w:=
 Any.Builder_Len_f Tryz.Uo B b bs w h
theorem Oa (b B:Nat) (l:List UInt8) (w:World) (h:Lib.IsBuilderF 49 5 B b (Lib.byteCells l) w) (hB:B<=w.heap.size):Calls Tryz.prog 25 #[.pointer (some ⟨b,0,none⟩)] w fun e w'=>e= .returned (.string (bs l))/\RowKit.Below B w w':=
 (Any.Builder_String_any_f (ρ:=Tryz.uM) { Tryz.J2 with } Tryz.pE B b l w h hB).mono fun e w' ⟨h1,h2⟩=>⟨h1,h2.2⟩
theorem zH (b B:Nat) (l s:List UInt8) (w:World) (h:Lib.IsBuilderF 49 5 B b (Lib.byteCells l) w) (hl:l.length+s.length<=140737488355328) (hB:B<=w.heap.size): Calls Tryz.prog 19 #[.pointer (some ⟨b,0,none⟩),.string (bs s)] w fun e w'=>e= .returned (.tuple #[.int .i64 s.length,.nilIface])/\Lib.IsBuilderF 49 5 B b (Lib.byteCells (l++s)) w'/\RowKit.Below B w w'/\Lib.OthersKept 5 (some b) w w':=by
 have hs:(bs s).size=s.length:=XW
 refine (Any.Builder_WriteString_k (ρ:=Tryz.uM) { Tryz.J2 with } Tryz.pE B b (Lib.byteCells l) (bs s) w h (by rw[Lib.byteCells_length,hs];exact hl) hB).mono ?_
 rintro e w' ⟨h1,h2,h3,h4⟩
 rw[hs] at h1
 refine⟨h1,.inr ?_,h3,h4⟩
 have e1:Lib.byteCells (l++s)=Lib.byteCells l++Lib.strCells (bs s):=by
  simp[Lib.byteCells,Lib.strCells,bs]
 rw[e1]
 exact h2
theorem TT (G:Gh) (w:World) (a:ai) (av:Option Addr) (n c:Nat) (q:Int) (hv:bN G az.size (ax G az) a.2.2.2 (.slice av n c)) (hG:Agr G w) (hT:cq Tryz.prog G) (hm:cg a=some (q,())) (hq:q≠0): Calls Tryz.prog 9 #[.agg #[.string (bs a.1),.string (bs a.2.1),.int .i64 a.2.2.1,.slice av n c]] w fun e w'=>e= .returned (.tuple #[.string (bs []),.int .i64 q])/\Kept w w':=by
 have e13:∀ args w,(callFunc 13 args).run Tryz.prog w= .ok (.enter 13 args) w:=enters_of Tryz.func13 (by kernel_rfl) rfl
 have mixed:Tryz.prog.follows .mixedOrders=true:=by kernel_rfl
 have late:Tryz.prog.follows .lateStores=true:=by kernel_rfl
 have t3:=Tryz.underlying3;have t4:=Tryz.underlying4;have t9:=Tryz.underlying9;have t22:=Tryz.underlying22;have t24:=Tryz.underlying24;have a24:=Tryz.isAgg24;have z24:=Tryz.sizeOf24;have v24:=Tryz.zeroValue24;have t25:=Tryz.underlying25
 have hb:=dx w (.cells #[.string (bs a.1),.string (bs a.2.1),.int .i64 a.2.2.1,.slice av n c] 24)
 have hc:=yX a (.slice av n c) q hv (ve hG (.cells #[.string (bs a.1),.string (bs a.2.1),.int .i64 a.2.2.1,.slice av n c] 24)) hT hm
 unfold yS at hc
 obtain⟨⟨q0,q1,q2,q3⟩,_⟩:=dh hb.1
 have hqb:(q==0)=false:=YC hq
 go_enter Tryz.func9,Tryz.ntmps9
 go_wp2_with (go_at_fn 13;refine hc.mono ?_;rintro e w' ⟨rfl,hk⟩)
 go_ret2
 exact⟨rfl,hb.2.trans hk⟩
end Go.Proofs.SeatU
set_option maxRecDepth 100000
namespace Go.Proofs.SeatU
open Go.Dn Go.Md Go.Proofs Go.RowKit Go.Shelf Go.Lib
attribute [local go_sem ↓] Go.wp_at_zero Go.wp_at_succ
theorem U3 {G:Gh} {p:aa} {cs:List Value} (h:ax G az p cs):∃ av n c,cs=iW p (.slice av n c)/\bN G bh.size (ax G bh) p.2.2.2 (.slice av n c):=by
 obtain⟨a1,a2,⟨a3,a4⟩,a5⟩:=p
 obtain⟨c1,r1,rfl,h1,c2,r2,rfl,h2,c3,r3,rfl,⟨c3a,c3b,rfl,h3a,h3b⟩,v,rfl,h4⟩:=h
 have e1:c1=[.string (bs a1)]:=h1
 have e2:c2=[.string (bs a2)]:=h2
 have e3:c3a=[.int .i64 a3]:=h3a
 have e4:c3b=[.int .i64 a4]:=h3b
 subst e1;subst e2;subst e3;subst e4
 obtain⟨av,cap,rfl,hh⟩:=id h4
 exact⟨av,_,cap,rfl,h4⟩
theorem UQ {G:Gh} {c:ay} {cs:List Value} (h:ax G bh c cs):cs=gW c:=by
 obtain⟨a1,a2,a3,⟨a4,a5⟩⟩:=c
 obtain⟨c1,r1,rfl,h1,c2,r2,rfl,h2,c3,r3,rfl,h3,c4a,c4b,rfl,h4a,h4b⟩:=h
 have e1:c1=[.string (bs a1)]:=h1
 have e2:c2=[.string (bs a2)]:=h2
 have e3:c3=[.string (bs a3)]:=h3
 have e4:c4a=[.int .i64 a4]:=h4a
 have e5:c4b=[.int .i64 a5]:=h4b
 subst e1;subst e2;subst e3;subst e4;subst e5
 rfl
theorem xj {w:World} {b o:Nat} {cs:Array Value} {T:TypeId} {fz:Nat×Nat} {xs:List Value} (hg:w.heap[b]? =some (.cells cs T fz)) (hx:(cs.toList.drop o).take xs.length=xs) (j:Nat) (u:Value) (hj:xs[j]? =some u):w.cell? ⟨b,o+j,none⟩=some u:=by
 have hlt:=(Xa.1 hj).1
 have h:=congrArg (fun l:List Value=>l[j]?) hx
 rw[Xh hlt,WY,hj] at h
 simp[World.cell?,hg]
 simpa using h
theorem U2 {G:Gh} {w:World} {l:List aa} {v:Value} (h:bN G az.size (ax G az) l v) (hG:Agr G w) {i:Nat} {p:aa} (hi:l[i]? =some p): ∃ b off cap av n c,v= .slice (some ⟨b,off,none⟩) l.length cap/\bN G bh.size (ax G bh) p.2.2.2 (.slice av n c)/\∀ j u,(iW p (.slice av n c))[j]? =some u->w.cell? ⟨b,off+i*5+j,none⟩=some u:=by
 obtain⟨b,off,c,T,fz,cap,hv,hb,_,hr⟩:=h.at hi
 obtain⟨av,n,c',e,hs⟩:=U3 hr
 exact⟨b,off,cap,av,n,c',hv,hs,xj (hG b _ hb) e⟩
theorem UP {G:Gh} {w:World} {l:List ay} {v:Value} (h:bN G bh.size (ax G bh) l v) (hG:Agr G w) {i:Nat} {p:ay} (hi:l[i]? =some p): ∃ b off cap,v= .slice (some ⟨b,off,none⟩) l.length cap/\∀ j u,(gW p)[j]? =some u->w.cell? ⟨b,off+i*5+j,none⟩=some u:=by
 obtain⟨b,off,c,T,fz,cap,hv,hb,_,hr⟩:=h.at hi
 exact⟨b,off,cap,hv,xj (hG b _ hb) (UQ hr)⟩
theorem dJ {β:Type} {c:Bool} {x:Option β} {y:β} (h:chk c x=some y):c=true/\x=some y:=by
 cases c with
 | false=>cases h
 | true=>exact⟨rfl,h⟩
theorem L4 {p:aa} {s:List UInt8} (h:uj p=some s):∃ dd dt dj ct,kG p.2.1=some (dd,())/\fA p.2.2.1=some (dt,())/\gv [[112,97,114,99,101,108],p.1,dd,dt]=some (dj,())/\contTexts p.2.2.2=some ct/\s=dj++ct:=by
 unfold uj at h
 cases h1:kG p.2.1 with
 | none=>rw[h1] at h;cases h
 | some x=>
  rw[h1,Yt] at h
  cases h2:fA p.2.2.1 with
  | none=>rw[h2] at h;cases h
  | some y=>
   rw[h2,Yt] at h
   cases h3:gv [[112,97,114,99,101,108],p.1,x.1,y.1] with
   | none=>rw[h3] at h;cases h
   | some z=>
    rw[h3,Yt] at h
    cases h4:contTexts p.2.2.2 with
    | none=>rw[h4] at h;cases h
    | some q=>
     rw[h4,Yt] at h
     exact⟨x.1,y.1,z.1,q,rfl,rfl,h3,rfl,(Option.some.inj h).symm⟩
theorem LI {c:ay} {r:List ay} {s:List UInt8} (h:contTexts (c::r)=some s):∃ dd dt dj ct,kG c.2.2.1=some (dd,())/\fA c.2.2.2=some (dt,())/\gv [[99,111,110,116,101,110,116],c.1,c.2.1,dd,dt]=some (dj,())/\contTexts r=some ct/\s=dj++ct:=by
 unfold contTexts at h
 cases h1:kG c.2.2.1 with
 | none=>rw[h1] at h;cases h
 | some x=>
  rw[h1,Yt] at h
  cases h2:fA c.2.2.2 with
  | none=>rw[h2] at h;cases h
  | some y=>
   rw[h2,Yt] at h
   cases h3:gv [[99,111,110,116,101,110,116],c.1,c.2.1,x.1,y.1] with
   | none=>rw[h3] at h;cases h
   | some z=>
    rw[h3,Yt] at h
    cases h4:contTexts r with
    | none=>rw[h4] at h;cases h
    | some q=>
     rw[h4,Yt] at h
     exact⟨x.1,y.1,z.1,q,rfl,rfl,h3,rfl,(Option.some.inj h).symm⟩
theorem vU {W5 W6 W7:World} {o:Obj} (h6:Kept W5 W6) (hs:(W6.alloc o).heap.size<=W7.heap.size) (ho:W7.os=(W6.alloc o).os) (hp:W7.output=(W6.alloc o).output) (hb:∀ k,k<(W6.alloc o).heap.size->W7.heap[k]? =(W6.alloc o).heap[k]?):Kept W5 W7:=by
 have hn:=dx W6 o
 exact h6.trans (hn.2.trans ⟨hs,ho,hp,hb⟩)
theorem AZ {B:Nat} {W7 W8:World} (hs:W7.heap.size<=W8.heap.size) (ho:W8.os=W7.os) (hp:W8.output=W7.output) (hb:∀ k,k<B->W8.heap[k]? =W7.heap[k]?):KB B W7 W8:=⟨hs,ho,hp,hb⟩
set_option maxHeartbeats 4000000 in
theorem SX (G:Gh) (w:World) (a:ai) (l:List aa) (hla:l=a.2.2.2) (av:Option Addr) (n c:Nat) (hnl:n=l.length) (nt s0:List UInt8) (r:Option (List UInt8)) (hv:bN G az.size (ax G az) a.2.2.2 (.slice av n c)) (hG:Agr G w) (hT:cq Tryz.prog G) (hm:cg a=some (0,())) (hn:strconv_Itoa a.2.2.1=some (nt,())) (hj:gv [[97,100,118,105,99,101],a.1,a.2.1,nt]=some (s0,())) (hl0:s0.length<=140737488355328) (hr:parcTextsC s0 l=some r): Calls Tryz.prog 9 #[.agg #[.string (bs a.1),.string (bs a.2.1),.int .i64 a.2.2.1,.slice av n c]] w fun e w'=>e= .returned (.tuple #[.string (bs (r.getD [])),.int .i64 (bif r.isSome then 0 else 2)])/\Kept w w':=by
 have e13:∀ args w,(callFunc 13 args).run Tryz.prog w= .ok (.enter 13 args) w:=enters_of Tryz.func13 (by kernel_rfl) rfl
 have e19:∀ args w,(callFunc 19 args).run Tryz.prog w= .ok (.enter 19 args) w:=enters_of Tryz.func19 (by kernel_rfl) rfl
 have e20:∀ args w,(callFunc 20 args).run Tryz.prog w= .ok (.enter 20 args) w:=enters_of Tryz.func20 (by kernel_rfl) rfl
 have e21:∀ args w,(callFunc 21 args).run Tryz.prog w= .ok (.enter 21 args) w:=enters_of Tryz.func21 (by kernel_rfl) rfl
 have e22:∀ args w,(callFunc 22 args).run Tryz.prog w= .ok (.enter 22 args) w:=enters_of Tryz.func22 (by kernel_rfl) rfl
 have e23:∀ args w,(callFunc 23 args).run Tryz.prog w= .ok (.enter 23 args) w:=enters_of Tryz.func23 (by kernel_rfl) rfl
 have e24:∀ args w,(callFunc 24 args).run Tryz.prog w= .ok (.enter 24 args) w:=enters_of Tryz.func24 (by kernel_rfl) rfl
 have e25:∀ args w,(callFunc 25 args).run Tryz.prog w= .ok (.enter 25 args) w:=enters_of Tryz.func25 (by kernel_rfl) rfl
 have mixed:Tryz.prog.follows .mixedOrders=true:=by kernel_rfl
 have late:Tryz.prog.follows .lateStores=true:=by kernel_rfl
 have t3:=Tryz.underlying3;have t4:=Tryz.underlying4;have t9:=Tryz.underlying9;have t22:=Tryz.underlying22;have t24:=Tryz.underlying24;have a24:=Tryz.isAgg24;have z24:=Tryz.sizeOf24;have v24:=Tryz.zeroValue24;have t25:=Tryz.underlying25
 have t60:=Tryz.underlying60;have z60:=Tryz.sizeOf60;have a60:=Tryz.isAgg60;have v60:=Tryz.zeroValue60;have t64:=Tryz.underlying64;have z64:=Tryz.sizeOf64;have a64:=Tryz.isAgg64;have v64:=Tryz.zeroValue64;have t57:=Tryz.underlying57;have z57:=Tryz.sizeOf57;have a57:=Tryz.isAgg57;have t58:=Tryz.underlying58
 have t49:=Tryz.underlying49;have z49:=Tryz.sizeOf49;have a49:=Tryz.isAgg49;have v49:=Tryz.zeroValue49;have t34:=Tryz.underlying34
 have HV:Aside _:=hv
 have HNL:Aside _:=hnl
 have HLA:Aside _:=hla
 have hnm:n<=9223372036854775807:=by
  obtain⟨_,_,e,h1,h2,_⟩:=hv
  cases e
  exact Yd h1 h2
 clear hnl hla
 have hb:=dx w (.cells #[.string (bs a.1),.string (bs a.2.1),.int .i64 a.2.2.1,.slice av n c] 24)
 have hA0:=ve hG (.cells #[.string (bs a.1),.string (bs a.2.1),.int .i64 a.2.2.1,.slice av n c] 24)
 have hc:=yX a (.slice av n c) 0 hv hA0 hT hm
 unfold yS at hc
 obtain⟨⟨q0,q1,q2,q3⟩,_⟩:=dh hb.1
 go_enter Tryz.func9,Tryz.ntmps9
 go_wp2_with (go_at_fn 13;refine hc.mono ?_;rintro e W1 ⟨rfl,hk⟩)
 refine Ae (fun W=>Lib.IsBuilderF 49 5 W1.heap.size W1.heap.size (Lib.byteCells []) W/\Kept W1 W/\W1.heap.size<W.heap.size) ⟨Lib.IsBuilderF.of (Lib.fresh_isBuilder 49 5 W1),(dx W1 _).2,by show W1.heap.size<(W1.heap.push _).size;rw[VW];omega⟩ ?_
 intro W5 ⟨hB5,hk15,hs5⟩
 have hk05:Kept w W5:=hb.2.trans (hk.trans hk15)
 have hk1:Kept w W1:=hb.2.trans hk
 have hA5:∀ W,(∀ k,k<W5.heap.size->W.heap[k]? =W5.heap[k]?)->Agr G W:=fun W hW b o hg=>by
  have h1:=aG (hG b o hg)
  exact (hW b (Ye h1 hk05.size)).trans ((hk05.block b h1).trans (hG b o hg))
 have hbx5:=(hk15.block _ (aG ((hk.block _ (aG hb.1)).trans hb.1))).trans ((hk.block _ (aG hb.1)).trans hb.1)
 have hbxl:w.heap.size<W1.heap.size:=aG ((hk.block _ (aG hb.1)).trans hb.1)
 obtain⟨⟨q0,q1,q2,q3⟩,_⟩:=dh hbx5
 have hit:∀ W,Kept W5 W->Calls Tryz.prog 21 #[.int .i64 a.2.2.1] W fun e w'=>e= .returned (.string (bs nt))/\Kept W w':=fun W hW=>QB a.2.2.1 nt (hA5 W hW.block) hT hn
 have hjo:∀ (W:World) (b:Nat),(∀ k,k<W5.heap.size->W.heap[k]? =W5.heap[k]?)->W.heap[b]? =some (.cells #[.string ⟨#[97,100,118,105,99,101]⟩,.string (bs a.1),.string (bs a.2.1),.string (bs nt)] 9 (0,0))->Calls Tryz.prog 20 #[.slice (some ⟨b,0,none⟩) 4 4] W fun e w'=>e= .returned (.string (bs s0))/\Kept W w':=fun W b hW hb=>Bt b [[97,100,118,105,99,101],a.1,a.2.1,nt] s0 (hA5 W hW) hT hb (by simp) hj
 have hwr:∀ W,Kept W5 W->Calls Tryz.prog 19 #[.pointer (some ⟨W1.heap.size,0,none⟩),.string (bs s0)] W fun e w'=>e= .returned (.tuple #[.int .i64 s0.length,.nilIface])/\Lib.IsBuilderF 49 5 W1.heap.size W1.heap.size (Lib.byteCells ([]++s0)) w'/\RowKit.Below W1.heap.size W w'/\Lib.OthersKept 5 (some W1.heap.size) W w':=fun W hW=>zH _ _ [] s0 W (ld hB5 hW.block) (by simpa using hl0) (by have:=hW.size;omega)
 have HA5:Aside _:=hA5
 have HB5:Aside _:=hB5
 have HK1:Aside _:=hk1
 have HK5:Aside (KB W1.heap.size W1 W5):=KB.of hk15 (Yc _)
 clear hA5 hB5 hc hA0 hb hk hk15 hk05 hk1 hv
 go_region_held3 (fun W=>W.cell? ⟨w.heap.size,0,none⟩=some (.string (bs a.1))/\W.cell? ⟨w.heap.size,1,none⟩=some (.string (bs a.2.1))/\W.cell? ⟨w.heap.size,2,none⟩=some (.int .i64 a.2.2.1))
  (refine And.intro ?_ (And.intro ?_ ?_)<;>(repeat (first | with_reducible exact q0 | with_reducible exact q1 | with_reducible exact q2 | with_reducible exact y0 | with_reducible exact y1 | with_reducible exact y2 | with_reducible exact z0 | with_reducible exact z1 | with_reducible exact z2 | with_reducible exact x0 | with_reducible exact x1 | with_reducible exact x2 | with_reducible refine gu ?_ | with_reducible refine fT ?_)))
  (first
    | (go_at_fn 21;refine (hit _ (by exact⟨Yc _,rfl,rfl,fun _ _=>rfl⟩)).mono ?_;rintro e W6 ⟨rfl,hk6'⟩;have hk6:Kept W5 W6:=⟨hk6'.size,hk6'.os,hk6'.output,hk6'.block⟩;clear hk6';have y0:=aL hk6 q0;have y1:=aL hk6 q1;have y2:=aL hk6 q2)
    | (go_at_fn 20;refine (hjo _ W6.heap.size (by exact fun k hk=>(heap_alloc_old W6 _ (Ye hk hk6.size)).trans (hk6.block k hk)) (by exact heap_alloc_new W6 _)).mono ?_;rintro e W7 ⟨rfl,hk7'⟩;have hk7:Kept W5 W7:=vU hk6 hk7'.size hk7'.os hk7'.output hk7'.block;clear hk7';have z0:=aL hk7 q0;have z1:=aL hk7 q1;have z2:=aL hk7 q2)
    | (go_at_fn 19;refine (hwr _ (by exact⟨hk7.size,hk7.os,hk7.output,hk7.block⟩)).mono ?_;rintro e W8 ⟨rfl,hB8,hbel,hoth⟩;have hbel8:=AZ hbel.size hbel.os hbel.output hbel.block;have hbx8:=(hbel8.block _ hbxl).trans ((hk7.block _ (aG hbx5)).trans hbx5);obtain⟨⟨x0,x1,x2,x3⟩,_⟩:=dh hbx8))
 go_wp2
 have HGl:Aside (∀ b o,G b=some o->b<W1.heap.size):=fun b o hg=>Ye (aG (hG b o hg)) HK1.out.size
 have HG1:Aside (Agr G W1):=fun b o hg=>(HK1.out.block b (aG (hG b o hg))).trans (hG b o hg)
 have HR0:Aside _:=hr
 go_loopg [28] n (fun g s28 wr=>∃ (i:Nat) (acc:List UInt8),s28= .int .i64 (i:Int)/\i<=n/\n - i<=g/\Aside (parcTextsC acc (l.drop i)=some r)/\Aside (Lib.IsBuilderF 49 5 W1.heap.size W1.heap.size (Lib.byteCells acc) wr)/\Aside (KB W1.heap.size W1 wr)/\Aside (W1.heap.size<wr.heap.size)/\Aside (acc.length<=140737488355328))
 case atStart=>
  have hk8:=HK5.out.trans ((KB.of hk7 (Yb hs5)).trans hbel8)
  exact⟨0,s0,rfl,Ys _,Yc _,HR0.out,hB8,hk8,Ye hs5 (Yd hk7.size hbel8.size),hl0⟩
 case round=>
  obtain⟨i,acc,rfl,hi,hg,HP,HB,HK,HS,HAL⟩:=hrel
  have hGr:∀ W,KB W1.heap.size W1 W->Agr G W:=fun W hW=>hW.agr HG1.out HGl.out
  clear q0 q1 q2 q3 x0 x1 x2 x3 y0 y1 y2 z0 z1 z2 hit hjo hwr hB8 hoth hbel8 hbx8 hbx5 hbel hk6 hk7 hr
  by_cases hlt:i<n
  ·have hltz:(i:Int)<(n:Int):=by omega
   have hi0:(0:Int)<=(i:Int):=by omega
   obtain⟨p,hp⟩:∃ p,l[i]? =some p:=⟨_,WZ (by rw[<- HNL.out];exact hlt)⟩
   have hvl:bN G az.size (ax G az) l (.slice av n c):=by rw[HLA.out];exact HV.out
   obtain⟨pb0,off,cap0,avc,nc,cc,hve,hvc,hcell⟩:=U2 hvl (hGr wr HK.out) hp
   have eav:av=some ⟨pb0,off,none⟩:=by cases hve;rfl
   subst eav
   have hd2:l.drop i=p::l.drop (i+1):=by
    have hil:i<l.length:=by rw[<- HNL.out];exact hlt
    rw[WG hil]
    congr 1
    exact (Xa.1 hp).2
   have hP:=HP.out
   rw[hd2,parcTextsC] at hP
   cases hps:uj p with
   | none=>rw[hps] at hP;cases hP
   | some s=>
    rw[hps,Yt] at hP
    obtain⟨hch,hP⟩:=dJ hP
    have hch:(acc++s).length<=140737488355328:=YW hch
    obtain⟨dd,dt,dj,ct,h1,h2,h3,h4,hs⟩:=L4 hps
    have c0:wr.cell? ⟨pb0,off+i*5,none⟩=some (.string (bs p.1)):=hcell 0 _ rfl
    have c1:wr.cell? ⟨pb0,off+i*5+1,none⟩=some (.string (bs p.2.1)):=hcell 1 _ rfl
    have c2:wr.cell? ⟨pb0,off+i*5+2,none⟩=some (.int .i64 p.2.2.1.1):=hcell 2 _ rfl
    have c3:wr.cell? ⟨pb0,off+i*5+3,none⟩=some (.int .i64 p.2.2.1.2):=hcell 3 _ rfl
    have c4:wr.cell? ⟨pb0,off+i*5+4,none⟩=some (.slice avc nc cc):=hcell 4 _ rfl
    have HPG:Aside _:=hP
    have HD2:Aside _:=hd2
    have HP':Aside _:=hp
    have HCH:Aside _:=hch
    have HVC:Aside _:=hvc
    have HGR:Aside _:=hGr
    have hda:∀ W,KB W1.heap.size W1 W->Calls Tryz.prog 22 #[.string (bs p.2.1)] W fun e w'=>e= .returned (.string (bs dd))/\Kept W w':=fun W hW=>HA p.2.1 dd (hGr W hW) hT h1
    have hto:∀ W,KB W1.heap.size W1 W->Calls Tryz.prog 23 #[.agg #[.int .i64 p.2.2.1.1,.int .i64 p.2.2.1.2]] W fun e w'=>e= .returned (.string (bs dt))/\Kept W w':=fun W hW=>I2 p.2.2.1 dt (hGr W hW) hT h2
    have hjo:∀ (W:World) (b:Nat),KB W1.heap.size W1 W->W.heap[b]? =some (.cells #[.string ⟨#[112,97,114,99,101,108]⟩,.string (bs p.1),.string (bs dd),.string (bs dt)] 9 (0,0))->Calls Tryz.prog 20 #[.slice (some ⟨b,0,none⟩) 4 4] W fun e w'=>e= .returned (.string (bs dj))/\Kept W w':=fun W b hW hb=>Bt b [[112,97,114,99,101,108],p.1,dd,dt] dj (hGr W hW) hT hb (by simp) h3
    have hal1:acc.length+dj.length<=140737488355328:=by rw[hs] at hch;simp only[Xl] at hch;omega
    have hwr:∀ W,Kept wr W->Calls Tryz.prog 19 #[.pointer (some ⟨W1.heap.size,0,none⟩),.string (bs dj)] W fun e w'=>e= .returned (.tuple #[.int .i64 dj.length,.nilIface])/\Lib.IsBuilderF 49 5 W1.heap.size W1.heap.size (Lib.byteCells (acc++dj)) w'/\RowKit.Below W1.heap.size W w'/\Lib.OthersKept 5 (some W1.heap.size) W w':=fun W hW=>zH _ _ acc dj W (ld HB.out hW.block) hal1 (by have:=hW.size;have:=HS.out;omega)
    clear hP hcell hvl hvc hps hch hp hd2 h1 h2 h3 hGr hlt hve
    go_wp2
    refine Ae (fun W=>W.heap[wr.heap.size]? =some (.cells (iW p (.slice avc nc cc)).toArray 60 (0,0))/\Kept wr W/\wr.heap.size<W.heap.size) ⟨(dx wr _).1,(dx wr _).2,by show wr.heap.size<(wr.heap.push _).size;rw[VW];omega⟩ ?_
    intro W5 ⟨hp5,hk5,hs5'⟩
    have q0:W5.cell? ⟨wr.heap.size,0,none⟩=some (.string (bs p.1)):=by simp[World.cell?,hp5,iW]
    have q1:W5.cell? ⟨wr.heap.size,1,none⟩=some (.string (bs p.2.1)):=by simp[World.cell?,hp5,iW]
    have q2:W5.cell? ⟨wr.heap.size,2,none⟩=some (.int .i64 p.2.2.1.1):=by simp[World.cell?,hp5,iW]
    have q3:W5.cell? ⟨wr.heap.size,3,none⟩=some (.int .i64 p.2.2.1.2):=by simp[World.cell?,hp5,iW]
    have hkb:∀ W,Kept W5 W->KB W1.heap.size W1 W:=fun W hW=>HK.out.trans (KB.of (hk5.trans hW) (Yb HS.out))
    have hda5:∀ W,Kept W5 W->Calls Tryz.prog 22 #[.string (bs p.2.1)] W fun e w'=>e= .returned (.string (bs dd))/\Kept W w':=fun W hW=>hda W (hkb W hW)
    have hto5:∀ W,Kept W5 W->Calls Tryz.prog 23 #[.agg #[.int .i64 p.2.2.1.1,.int .i64 p.2.2.1.2]] W fun e w'=>e= .returned (.string (bs dt))/\Kept W w':=fun W hW=>hto W (hkb W hW)
    have hjo5:∀ (W:World) (b:Nat),Kept W5 W->W.heap[b]? =some (.cells #[.string ⟨#[112,97,114,99,101,108]⟩,.string (bs p.1),.string (bs dd),.string (bs dt)] 9 (0,0))->Calls Tryz.prog 20 #[.slice (some ⟨b,0,none⟩) 4 4] W fun e w'=>e= .returned (.string (bs dj))/\Kept W w':=fun W b hW hb=>hjo W b (hkb W hW) hb
    have hwr5:∀ W,Kept W5 W->Calls Tryz.prog 19 #[.pointer (some ⟨W1.heap.size,0,none⟩),.string (bs dj)] W fun e w'=>e= .returned (.tuple #[.int .i64 dj.length,.nilIface])/\Lib.IsBuilderF 49 5 W1.heap.size W1.heap.size (Lib.byteCells (acc++dj)) w'/\RowKit.Below W1.heap.size W w'/\Lib.OthersKept 5 (some W1.heap.size) W w':=fun W hW=>hwr W (hk5.trans hW)
    have hpbn:some wr.heap.size≠some W1.heap.size:=fun e=>by have:=Option.some.inj e;have:=HS.out;omega
    have HKB:Aside _:=hkb
    clear hda hto hjo hwr hkb c0 c1 c2 c3 c4
    go_region_held3 (fun W=>W.cell? ⟨wr.heap.size,0,none⟩=some (.string (bs p.1))/\W.cell? ⟨wr.heap.size,1,none⟩=some (.string (bs p.2.1))/\W.cell? ⟨wr.heap.size,2,none⟩=some (.int .i64 p.2.2.1.1)/\W.cell? ⟨wr.heap.size,3,none⟩=some (.int .i64 p.2.2.1.2))
     (refine And.intro ?_ (And.intro ?_ (And.intro ?_ ?_))<;>(repeat (first | with_reducible exact q0 | with_reducible exact q1 | with_reducible exact q2 | with_reducible exact q3 | with_reducible exact y0 | with_reducible exact y1 | with_reducible exact y2 | with_reducible exact y3 | with_reducible exact u0 | with_reducible exact u1 | with_reducible exact u2 | with_reducible exact u3 | with_reducible exact z0 | with_reducible exact z1 | with_reducible exact z2 | with_reducible exact z3 | with_reducible exact x0 | with_reducible exact x1 | with_reducible exact x2 | with_reducible exact x3 | with_reducible refine gu ?_ | with_reducible refine fT ?_)))
     (first
       | (go_at_fn 22;refine (hda5 _ (by exact⟨Yc _,rfl,rfl,fun _ _=>rfl⟩)).mono ?_;rintro e W6 ⟨rfl,hk6'⟩;have hk6:Kept W5 W6:=⟨hk6'.size,hk6'.os,hk6'.output,hk6'.block⟩;clear hk6';have y0:=aL hk6 q0;have y1:=aL hk6 q1;have y2:=aL hk6 q2;have y3:=aL hk6 q3)
       | (go_at_fn 23;refine (hto5 _ (by exact hk6)).mono ?_;rintro e W7 ⟨rfl,hk7'⟩;have hk7:Kept W5 W7:=hk6.trans ⟨hk7'.size,hk7'.os,hk7'.output,hk7'.block⟩;clear hk7';have u0:=aL hk7 q0;have u1:=aL hk7 q1;have u2:=aL hk7 q2;have u3:=aL hk7 q3)
       | (go_at_fn 20;refine (hjo5 _ W7.heap.size (by exact hk7.trans (dx W7 _).2) (by exact heap_alloc_new W7 _)).mono ?_;rintro e W8 ⟨rfl,hk8'⟩;have hk8:Kept W5 W8:=vU hk7 hk8'.size hk8'.os hk8'.output hk8'.block;clear hk8';have z0:=aL hk8 q0;have z1:=aL hk8 q1;have z2:=aL hk8 q2;have z3:=aL hk8 q3)
       | (go_at_fn 19;refine (hwr5 _ (by exact⟨hk8.size,hk8.os,hk8.output,hk8.block⟩)).mono ?_;rintro e W9 ⟨rfl,hB9,hbel,hoth⟩;have hbel9:=AZ hbel.size hbel.os hbel.output hbel.block;have hp9:=hoth _ _ ((hk8.block _ (aG hp5)).trans hp5) hpbn (by intro c fz e;cases e);have x0:W9.cell? ⟨wr.heap.size,0,none⟩=some (.string (bs p.1)):=(by simp[World.cell?,hp9,iW]);have x1:W9.cell? ⟨wr.heap.size,1,none⟩=some (.string (bs p.2.1)):=(by simp[World.cell?,hp9,iW]);have x2:W9.cell? ⟨wr.heap.size,2,none⟩=some (.int .i64 p.2.2.1.1):=(by simp[World.cell?,hp9,iW]);have x3:W9.cell? ⟨wr.heap.size,3,none⟩=some (.int .i64 p.2.2.1.2):=(by simp[World.cell?,hp9,iW])))
    have x4:W9.cell? ⟨wr.heap.size,4,none⟩=some (.slice avc nc cc):=by simp[World.cell?,hp9,iW]
    obtain⟨hcn,hcm⟩:nc=p.2.2.2.length/\nc<=9223372036854775807:=by
     obtain⟨_,_,e,g1,g2,_⟩:=HVC.out
     cases e
     exact⟨rfl,Yd g1 g2⟩
    have HCN:Aside _:=hcn
    have HH4:Aside _:=h4
    have HSS:Aside _:=hs
    have hk59:KB W1.heap.size W5 W9:=(KB.of hk8 (by have:=HS.out;omega)).trans hbel9
    have HK9:Aside (KB W1.heap.size W1 W9):=(HKB.out W5 ⟨Yc _,rfl,rfl,fun _ _=>rfl⟩).trans hk59
    have HS9:Aside (W1.heap.size<W9.heap.size):=Ye HS.out (Yd (Yb hs5') hk59.size)
    have HB9:Aside _:=hB9
    clear hcn h4 hs hk59 hB9 hoth hbel hbel9 hp9 hda5 hto5 hjo5 hwr5 q0 q1 q2 q3 x0 x1 x2 x3 y0 y1 y2 y3 u0 u1 u2 u3 z0 z1 z2 z3 hk6 hk7 hk8 hk5 hp5
    go_wp2
    go_loopg [46] nc (fun g s46 wr=>∃ (j:Nat) (acj rest:List UInt8),s46= .int .i64 (j:Int)/\j<=nc/\nc - j<=g/\Aside (contTexts (p.2.2.2.drop j)=some rest)/\Aside (acj++rest=acc++s)/\Aside (Lib.IsBuilderF 49 5 W1.heap.size W1.heap.size (Lib.byteCells acj) wr)/\Aside (KB W1.heap.size W1 wr)/\Aside (W1.heap.size<wr.heap.size))
    case atStart=>
     exact⟨0,acc++dj,ct,rfl,Ys _,Yc _,HH4.out,(by rw[HSS.out,Wy]:acc++dj++ct=acc++s),HB9.out,HK9.out,HS9.out⟩
    case round=>
     obtain⟨j,acj,rest,rfl,hj,hgj,HJP,HJA,HJB,HJK,HJS⟩:=hrel
     by_cases hjt:j<nc
     ·have hjz:(j:Int)<(nc:Int):=by omega
      have hj0:(0:Int)<=(j:Int):=by omega
      obtain⟨k,hk⟩:∃ k,p.2.2.2[j]? =some k:=⟨_,WZ (by rw[<- HCN.out];exact hjt)⟩
      obtain⟨cb0,coff,ccap,hce,hcell⟩:=UP HVC.out (HGR.out wr HJK.out) hk
      have eac:avc=some ⟨cb0,coff,none⟩:=by cases hce;rfl
      subst eac
      have hjd:p.2.2.2.drop j=k::p.2.2.2.drop (j+1):=by
       have hil:j<p.2.2.2.length:=by rw[<- HCN.out];exact hjt
       rw[WG hil]
       congr 1
       exact (Xa.1 hk).2
      have hJP:=HJP.out
      rw[hjd] at hJP
      obtain⟨ed,et,ej,er,g1,g2,g3,g4,gs⟩:=LI hJP
      have c0:wr.cell? ⟨cb0,coff+j*5,none⟩=some (.string (bs k.1)):=hcell 0 _ rfl
      have c1:wr.cell? ⟨cb0,coff+j*5+1,none⟩=some (.string (bs k.2.1)):=hcell 1 _ rfl
      have c2:wr.cell? ⟨cb0,coff+j*5+2,none⟩=some (.string (bs k.2.2.1)):=hcell 2 _ rfl
      have c3:wr.cell? ⟨cb0,coff+j*5+3,none⟩=some (.int .i64 k.2.2.2.1):=hcell 3 _ rfl
      have c4:wr.cell? ⟨cb0,coff+j*5+4,none⟩=some (.int .i64 k.2.2.2.2):=hcell 4 _ rfl
      have HG4:Aside _:=g4
      have HGS:Aside _:=gs
      have hal2:acj.length+ej.length<=140737488355328:=by
       have:=congrArg List.length HJA.out
       have:=HCH.out
       rw[gs] at*
       simp only[Xl] at*
       omega
      have hda:∀ W,KB W1.heap.size W1 W->Calls Tryz.prog 22 #[.string (bs k.2.2.1)] W fun e w'=>e= .returned (.string (bs ed))/\Kept W w':=fun W hW=>HA k.2.2.1 ed (HGR.out W hW) hT g1
      have hto:∀ W,KB W1.heap.size W1 W->Calls Tryz.prog 23 #[.agg #[.int .i64 k.2.2.2.1,.int .i64 k.2.2.2.2]] W fun e w'=>e= .returned (.string (bs et))/\Kept W w':=fun W hW=>I2 k.2.2.2 et (HGR.out W hW) hT g2
      have hjo:∀ (W:World) (b:Nat),KB W1.heap.size W1 W->W.heap[b]? =some (.cells #[.string ⟨#[99,111,110,116,101,110,116]⟩,.string (bs k.1),.string (bs k.2.1),.string (bs ed),.string (bs et)] 9 (0,0))->Calls Tryz.prog 20 #[.slice (some ⟨b,0,none⟩) 5 5] W fun e w'=>e= .returned (.string (bs ej))/\Kept W w':=fun W b hW hb=>Bt b [[99,111,110,116,101,110,116],k.1,k.2.1,ed,et] ej (HGR.out W hW) hT hb (by simp) g3
      have hwr:∀ W,Kept wr W->Calls Tryz.prog 19 #[.pointer (some ⟨W1.heap.size,0,none⟩),.string (bs ej)] W fun e w'=>e= .returned (.tuple #[.int .i64 ej.length,.nilIface])/\Lib.IsBuilderF 49 5 W1.heap.size W1.heap.size (Lib.byteCells (acj++ej)) w'/\RowKit.Below W1.heap.size W w'/\Lib.OthersKept 5 (some W1.heap.size) W w':=fun W hW=>zH _ _ acj ej W (ld HJB.out hW.block) hal2 (by have:=hW.size;have:=HJS.out;omega)
      have HJD:Aside _:=hjd
      clear hJP hcell hk hjd g1 g2 g3 g4 gs hjt hce
      go_wp2
      refine Ae (fun W=>W.heap[wr.heap.size]? =some (.cells (gW k).toArray 64 (0,0))/\Kept wr W/\wr.heap.size<W.heap.size) ⟨(dx wr _).1,(dx wr _).2,by show wr.heap.size<(wr.heap.push _).size;rw[VW];omega⟩ ?_
      intro V5 ⟨hp5,hk5,hs6'⟩
      have q0:V5.cell? ⟨wr.heap.size,0,none⟩=some (.string (bs k.1)):=by simp[World.cell?,hp5,gW]
      have q1:V5.cell? ⟨wr.heap.size,1,none⟩=some (.string (bs k.2.1)):=by simp[World.cell?,hp5,gW]
      have q2:V5.cell? ⟨wr.heap.size,2,none⟩=some (.string (bs k.2.2.1)):=by simp[World.cell?,hp5,gW]
      have q3:V5.cell? ⟨wr.heap.size,3,none⟩=some (.int .i64 k.2.2.2.1):=by simp[World.cell?,hp5,gW]
      have q4:V5.cell? ⟨wr.heap.size,4,none⟩=some (.int .i64 k.2.2.2.2):=by simp[World.cell?,hp5,gW]
      have hkb:∀ W,Kept V5 W->KB W1.heap.size W1 W:=fun W hW=>HJK.out.trans (KB.of (hk5.trans hW) (Yb HJS.out))
      have hda5:∀ W,Kept V5 W->Calls Tryz.prog 22 #[.string (bs k.2.2.1)] W fun e w'=>e= .returned (.string (bs ed))/\Kept W w':=fun W hW=>hda W (hkb W hW)
      have hto5:∀ W,Kept V5 W->Calls Tryz.prog 23 #[.agg #[.int .i64 k.2.2.2.1,.int .i64 k.2.2.2.2]] W fun e w'=>e= .returned (.string (bs et))/\Kept W w':=fun W hW=>hto W (hkb W hW)
      have hjo5:∀ (W:World) (b:Nat),Kept V5 W->W.heap[b]? =some (.cells #[.string ⟨#[99,111,110,116,101,110,116]⟩,.string (bs k.1),.string (bs k.2.1),.string (bs ed),.string (bs et)] 9 (0,0))->Calls Tryz.prog 20 #[.slice (some ⟨b,0,none⟩) 5 5] W fun e w'=>e= .returned (.string (bs ej))/\Kept W w':=fun W b hW hb=>hjo W b (hkb W hW) hb
      have hwr5:∀ W,Kept V5 W->Calls Tryz.prog 19 #[.pointer (some ⟨W1.heap.size,0,none⟩),.string (bs ej)] W fun e w'=>e= .returned (.tuple #[.int .i64 ej.length,.nilIface])/\Lib.IsBuilderF 49 5 W1.heap.size W1.heap.size (Lib.byteCells (acj++ej)) w'/\RowKit.Below W1.heap.size W w'/\Lib.OthersKept 5 (some W1.heap.size) W w':=fun W hW=>hwr W (hk5.trans hW)
      have hpbn:some wr.heap.size≠some W1.heap.size:=fun e=>by have:=Option.some.inj e;have:=HJS.out;omega
      have HKB:Aside _:=hkb
      clear hda hto hjo hwr hkb c0 c1 c2 c3 c4
      go_region_held3 (fun W=>W.cell? ⟨wr.heap.size,0,none⟩=some (.string (bs k.1))/\W.cell? ⟨wr.heap.size,1,none⟩=some (.string (bs k.2.1))/\W.cell? ⟨wr.heap.size,2,none⟩=some (.string (bs k.2.2.1))/\W.cell? ⟨wr.heap.size,3,none⟩=some (.int .i64 k.2.2.2.1)/\W.cell? ⟨wr.heap.size,4,none⟩=some (.int .i64 k.2.2.2.2))
       (refine And.intro ?_ (And.intro ?_ (And.intro ?_ (And.intro ?_ ?_)))<;>(repeat (first | with_reducible exact q0 | with_reducible exact q1 | with_reducible exact q2 | with_reducible exact q3 | with_reducible exact q4 | with_reducible exact y0 | with_reducible exact y1 | with_reducible exact y2 | with_reducible exact y3 | with_reducible exact y4 | with_reducible exact u0 | with_reducible exact u1 | with_reducible exact u2 | with_reducible exact u3 | with_reducible exact u4 | with_reducible exact z0 | with_reducible exact z1 | with_reducible exact z2 | with_reducible exact z3 | with_reducible exact z4 | with_reducible exact x0 | with_reducible exact x1 | with_reducible exact x2 | with_reducible exact x3 | with_reducible exact x4 | with_reducible refine gu ?_ | with_reducible refine fT ?_)))
       (first
         | (go_at_fn 22;refine (hda5 _ (by exact⟨Yc _,rfl,rfl,fun _ _=>rfl⟩)).mono ?_;rintro e W6 ⟨rfl,hk6'⟩;have hk6:Kept V5 W6:=⟨hk6'.size,hk6'.os,hk6'.output,hk6'.block⟩;clear hk6';have y0:=aL hk6 q0;have y1:=aL hk6 q1;have y2:=aL hk6 q2;have y3:=aL hk6 q3;have y4:=aL hk6 q4)
         | (go_at_fn 23;refine (hto5 _ (by exact hk6)).mono ?_;rintro e W7 ⟨rfl,hk7'⟩;have hk7:Kept V5 W7:=hk6.trans ⟨hk7'.size,hk7'.os,hk7'.output,hk7'.block⟩;clear hk7';have u0:=aL hk7 q0;have u1:=aL hk7 q1;have u2:=aL hk7 q2;have u3:=aL hk7 q3;have u4:=aL hk7 q4)
         | (go_at_fn 20;refine (hjo5 _ W7.heap.size (by exact hk7.trans (dx W7 _).2) (by exact heap_alloc_new W7 _)).mono ?_;rintro e W8 ⟨rfl,hk8'⟩;have hk8:Kept V5 W8:=vU hk7 hk8'.size hk8'.os hk8'.output hk8'.block;clear hk8';have z0:=aL hk8 q0;have z1:=aL hk8 q1;have z2:=aL hk8 q2;have z3:=aL hk8 q3;have z4:=aL hk8 q4)
         | (go_at_fn 19;refine (hwr5 _ (by exact⟨hk8.size,hk8.os,hk8.output,hk8.block⟩)).mono ?_;rintro e V9 ⟨rfl,hB9,hbel,hoth⟩;have hbel9:=AZ hbel.size hbel.os hbel.output hbel.block;have hp9:=hoth _ _ ((hk8.block _ (aG hp5)).trans hp5) hpbn (by intro c fz e;cases e);have x0:V9.cell? ⟨wr.heap.size,0,none⟩=some (.string (bs k.1)):=(by simp[World.cell?,hp9,gW]);have x1:V9.cell? ⟨wr.heap.size,1,none⟩=some (.string (bs k.2.1)):=(by simp[World.cell?,hp9,gW]);have x2:V9.cell? ⟨wr.heap.size,2,none⟩=some (.string (bs k.2.2.1)):=(by simp[World.cell?,hp9,gW]);have x3:V9.cell? ⟨wr.heap.size,3,none⟩=some (.int .i64 k.2.2.2.1):=(by simp[World.cell?,hp9,gW]);have x4:V9.cell? ⟨wr.heap.size,4,none⟩=some (.int .i64 k.2.2.2.2):=(by simp[World.cell?,hp9,gW])))
      have hk59:KB W1.heap.size V5 V9:=(KB.of hk8 (by have:=HJS.out;omega)).trans hbel9
      have HK9':Aside (KB W1.heap.size W1 V9):=(HKB.out V5 ⟨Yc _,rfl,rfl,fun _ _=>rfl⟩).trans hk59
      have HS9':Aside (W1.heap.size<V9.heap.size):=Ye HJS.out (Yd (Yb hs6') hk59.size)
      have HB9':Aside _:=hB9
      clear hk59 hB9 hoth hbel hbel9 hp9 hda5 hto5 hjo5 hwr5 q0 q1 q2 q3 q4 x0 x1 x2 x3 x4 y0 y1 y2 y3 y4 u0 u1 u2 u3 u4 z0 z1 z2 z3 z4 hk6 hk7 hk8 hk5 hp5
      go_wp2
      go_roundg (nc - (j+1))
      case measure=>omega
      case rel=>
       exact⟨j+1,acj++ej,er,by go_num,by omega,Yc _,HG4.out,(by have h:=HJA.out;rw[HGS.out, <- Wy] at h;exact h:acj++ej++er=acc++s),HB9'.out,HK9'.out,HS9'.out⟩
     ·have hjz:¬ (j:Int)<(nc:Int):=by omega
      have hrest:rest=[]:=by
       have hJP:=HJP.out
       rw[List.drop_eq_nil_of_le (by rw[<- HCN.out];omega)] at hJP
       exact (Option.some.inj hJP).symm
      have hacc:acj=acc++s:=by
       have h:=HJA.out
       rw[hrest,WA] at h
       exact h
      have hP:=HPG.out
      rw[<- hacc] at hP
      have hla:acj.length<=140737488355328:=by rw[hacc];exact HCH.out
      have hlc:∀ W,Kept wr W->Calls Tryz.prog 24 #[.pointer (some ⟨W1.heap.size,0,none⟩)] W fun e w'=>e= .returned (.int .i64 acj.length)/\w'=W:=fun W hW=>by
       have h:=R4 _ _ _ W (ld HJB.out hW.block)
       rw[Lib.byteCells_length] at h
       exact h
      have hkw:Aside (Kept w wr):=HK1.out.trans ⟨HJK.out.size,HJK.out.os,HJK.out.output,HJK.out.block⟩
      by_cases hbig:(acj.length:Int)>300000
      ·have hb1:(300000:Int)<(acj.length:Int):=hbig
       rw[YJ hbig,YG] at hP
       have hr0:r=none:=(Option.some.inj hP).symm
       have HR9:Aside _:=hr0
       clear hP hr0 hacc hrest hbig
       go_wp2_with (go_at_fn 24;refine (hlc _ (by exact⟨Yc _,rfl,rfl,fun _ _=>rfl⟩)).mono ?_;rintro e W10 ⟨rfl,rfl⟩)
       go_ret2
       rw[HR9.out]
       exact⟨rfl,hkw.out⟩
      ·have hb1:¬ (300000:Int)<(acj.length:Int):=hbig
       rw[YI hbig,YF] at hP
       have HP9:Aside _:=hP
       clear hP hacc hrest hbig
       go_wp2_with (go_at_fn 24;refine (hlc _ (by exact⟨Yc _,rfl,rfl,fun _ _=>rfl⟩)).mono ?_;rintro e W10 ⟨rfl,rfl⟩)
       go_roundg (n - (i+1))
       case measure=>omega
       case rel=>
        exact⟨i+1,acj,by go_num,by omega,Yc _,HP9.out,HJB.out,HJK.out,HJS.out,hla⟩
  ·have hltz:¬ (i:Int)<(n:Int):=by omega
   have hP:=HP.out
   rw[List.drop_eq_nil_of_le (by rw[<- HNL.out];omega),parcTextsC] at hP
   have hr0:r=some acc:=(Option.some.inj hP).symm
   have HR9:Aside _:=hr0
   have hst:∀ W,Kept wr W->Calls Tryz.prog 25 #[.pointer (some ⟨W1.heap.size,0,none⟩)] W fun e w'=>e= .returned (.string (bs acc))/\RowKit.Below W1.heap.size W w':=fun W hW=>Oa _ _ acc W (ld HB.out hW.block) (by have:=hW.size;have:=HS.out;omega)
   have hkw:Aside (Kept w wr):=HK1.out.trans ⟨HK.out.size,HK.out.os,HK.out.output,HK.out.block⟩
   clear hP hr0 hlt
   go_wp2_with (go_at_fn 25;refine (hst _ (by exact⟨Yc _,rfl,rfl,fun _ _=>rfl⟩)).mono ?_;rintro e W10 ⟨rfl,hbel⟩)
   go_ret2
   rw[HR9.out]
   exact⟨rfl,Yd hkw.out.size hbel.size,hbel.os.trans hkw.out.os,hbel.output.trans hkw.out.output,fun k hk=>(hbel.block k (Yj hk hbxl)).trans (hkw.out.block k hk)⟩
end Go.Proofs.SeatU
set_option maxRecDepth 100000
namespace Go.Proofs.SeatU
open Go.Dn Go.Md Go.Proofs Go.RowKit Go.Shelf Go.Lib
theorem Re {G:Gh} {w:World} (a:ai) (v:Value) (t:List UInt8) (q:Int) (hv:bN G az.size (ax G az) a.2.2.2 v) (hG:Agr G w) (hT:cq Tryz.prog G) (hm:lA a=some (t,q,())): Calls Tryz.prog 9 #[.agg (yS a v).toArray] w fun e w'=>e= .returned (.tuple #[.string (bs t),.int .i64 q])/\Kept w w':=by
 unfold lA at hm
 obtain⟨av,c,rfl,hh⟩:=id hv
 cases h1:cg a with
 | none=>rw[h1] at hm;cases hm
 | some x=>
  obtain⟨q1,u⟩:=x
  rw[h1,Yt] at hm
  dsimp only at hm
  by_cases hq:q1=0
  ·subst hq
   rw[show ((0:Int) != 0)=false from rfl,YF] at hm
   cases h2:strconv_Itoa a.2.2.1 with
   | none=>rw[h2] at hm;cases hm
   | some y=>
    obtain⟨nt,u2⟩:=y
    rw[h2,Yt] at hm
    dsimp only at hm
    cases h3:gv [[97,100,118,105,99,101],a.1,a.2.1,nt] with
    | none=>rw[h3] at hm;cases hm
    | some z=>
     obtain⟨s0,u3⟩:=z
     rw[h3,Yt] at hm
     obtain⟨h4,hm⟩:=dJ hm
     have h4:s0.length<=140737488355328:=YW h4
     dsimp only at hm
     cases h5:parcTextsC s0 a.2.2.2 with
     | none=>rw[h5] at hm;cases hm
     | some r=>
      rw[h5,Yt] at hm
      cases hm
      exact SX G w a a.2.2.2 rfl av _ c rfl nt s0 r hv hG hT h1 h2 h3 h4 h5
  ·have hb:(q1 != 0)=true:=by simpa using hq
   rw[hb,YG] at hm
   cases hm
   exact TT G w a av _ c _ hv hG hT h1 hq
def AB:ak:=⟨[.val cH],[.val .str,.val tI],fun x=>lA x.1⟩
theorem JW:cm tpr 9:=cX Tryz.func9 rfl (by decide)
theorem Ke:bQ tpr 9 AB:=by
 intro G w ow args x y hG how ha hm hT
 obtain⟨a,u⟩:=x
 obtain⟨t,q,u'⟩:=y
 obtain⟨v,us,h1,_,hv,h3⟩:=ha
 have e1:=h1 rfl
 have e3:us=[]:=h3
 subst e1;subst e3
 obtain⟨cs,hvv,c1,r1,rfl,e1,c2,r2,rfl,e2,c3,r3,rfl,e3,v',e4,hr⟩:=hv
 have e1:c1=[.string (bs a.1)]:=e1
 have e2:c2=[.string (bs a.2.1)]:=e2
 have e3:c3=[.int .i64 a.2.2.1]:=e3
 subst e1;subst e2;subst e3;subst e4
 cases hvv
 refine (Re a v' t q hr hG hT hm).mono ?_
 rintro e w' ⟨he,hk⟩
 refine⟨frz w.heap.size G w',fun _=>none,[.string (bs t),.int .i64 q], ?_⟩
 exact {
  ret:=he
  le:=Nn hG (Yc _)
  agr:=JT fun b hb o ho=>(hk.block b hb).trans (hG b o ho)
  size:=hk.size
  os:=hk.os
  output:=hk.output
  old:=fun i hlt _=>⟨hk.block i hlt,by simp only[frz,YR hlt]⟩
  own:=fun i j hij=>by cases hij
  out:=⟨_,_,rfl,rfl,_,_,rfl,rfl,rfl,trivial⟩
  hnd:=fun _=>rfl }
end Go.Proofs.SeatU
set_option maxRecDepth 100000
namespace Go.Proofs.SeatU
open Go.Dn Go.Md Go.Proofs
def tu:List (Nat×Ann):=[(300008,⟨[(2,.val .bool)],[],[],fun _=>0⟩)]
def lV:ak:=⟨[.val cH],[.val .bool],fun x=>fy x.1⟩
noncomputable def vi:Cx:=⟨tpr,[(5,AA),(7,FT),(8,Ea),(9,AB),(10,FU)],[]⟩
theorem tT:rS vi tu none Tryz.f4 lV:=by intro x;kernel_rfl
theorem vA:bQ tpr 4 lV:=mH tT (.cons Kc JV (cz OH (cz Nc (.cons Ke JW (cz OI (.nil _)))))) p8 Tryz.func4
end Go.Proofs.SeatU
end
