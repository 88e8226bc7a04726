/-
  bill.Text by a walk; it is as its model says. No condition.
-/
import Derived.Test.YtjlkkapojeldlabGreatDoorYj
import Derived.Test.YtjlkkapojeldlabGreatDoorYE
import Derived.Test.YtjlkkapojeldlabGreatDoorYf
import Derived.Shelf.Strings.BuilderF
import Derived.Shelf.Strings.BuilderK
import Derived.Deep.Cut
import Derived.Test.YtjlkkapojeldlabGreatDoorYA
set_option linter.all false
set_option maxRecDepth 100000
namespace Go.Proofs.SeatU
open Go.Dn Go.Md Go.Proofs Go.RowKit Go.Shelf Go.Lib
structure KB (B:Nat) (w w':World):Prop where
 size:w.heap.size<=w'.heap.size
 os:w'.os=w.os
 output:w'.output=w.output
 block:∀ k,k<B->w'.heap[k]? =w.heap[k]?
theorem KB.refl (B:Nat) (w:World):KB B w w:=⟨afq _,rfl,rfl,fun _ _=>rfl⟩
theorem KB.trans {B:Nat} {a b c:World} (h:KB B a b) (k:KB B b c):KB B a c:=⟨afs h.size k.size,k.os.trans h.os,k.output.trans h.output,fun i hi=>(k.block i hi).trans (h.block i hi)⟩
theorem KB.of {B:Nat} {a b:World} (h:Kept a b) (hB:B<=a.heap.size):KB B a b:=⟨h.size,h.os,h.output,fun i hi=>h.block i (by omega)⟩
theorem KB.below {B:Nat} {a b:World} (h:RowKit.Below B a b):KB B a b:=⟨h.size,h.os,h.output,h.block⟩
theorem KB.agr {G:Gh} {B:Nat} {w w':World} (h:KB B w w') (hG:Agr G w) (hB:∀ b o,G b=some o->b<B):Agr G w':=fun b o hb=>by rw[h.block b (hB b o hb)];exact hG b o hb
theorem Zy {w w':World} {base:Nat} {e:TypeId} {size:Nat} {v:Value} {n:Nat} {xs:List Value} (h:w.ownsRowF base e size v n xs) (hk:∀ b,b<w.heap.size->w'.heap[b]? =w.heap[b]?):w'.ownsRowF base e size v n xs:=by
 refine⟨h.1, ?_⟩
 rcases h.2 with hn | ⟨g,cap,cur,fz,hv,hb,hg,rest⟩
 ·exact .inl hn
 ·exact .inr ⟨g,cap,cur,fz,hv,hb,(hk g (aB hg)).trans hg,rest⟩
theorem HD {T e:TypeId} {B b:Nat} {p:Value} {bs:List Value} {w w':World} (h:Lib.BuilderAtF T e B b p bs w) (hk:∀ b,b<w.heap.size->w'.heap[b]? =w.heap[b]?):Lib.BuilderAtF T e B b p bs w':=by
 obtain⟨hB,v,hb,hown,hne⟩:=h
 exact⟨hB,v,(hk b (aB hb)).trans hb,Zy hown hk,hne⟩
theorem O6 {T e:TypeId} {B b:Nat} {bs:List Value} {w w':World} (h:Lib.IsBuilderF T e B b bs w) (hk:∀ b,b<w.heap.size->w'.heap[b]? =w.heap[b]?):Lib.IsBuilderF T e B b bs w':=
 h.elim (fun h=> .inl (HD h hk)) (fun h=> .inr (HD h hk))
theorem Wx {G:Gh} {w:World} (s t:List UInt8) (hG:Agr G w) (hT:bZ Tryz.prog G) (hm:uW s=some (t,())): Calls Tryz.prog 25 #[.string (bs s)] w fun e w'=>e= .returned (.string (bs t))/\Kept w w':=by
 refine (UM G w (fun _=>none) [.string (bs s)] (s,()) (t,()) hG (fun b i h=>by cases h) ⟨_,[],fun _=>rfl,fun h=>Bool.noConfusion h,rfl,rfl⟩ hm hT).mono ?_
 rintro e w' ⟨G',ow',vs,g⟩
 obtain⟨u,us,rfl,hu,h3,_⟩:=g.out
 have e1:[u]=[Value.string (bs t)]:=hu
 have e3:us=[]:=h3
 cases e1;subst e3
 exact⟨g.ret,⟨g.size,g.os,g.output,fun b hb=>(g.old b hb rfl).1⟩⟩
theorem xd {G:Gh} {w:World} (d:ah) (t:List UInt8) (hG:Agr G w) (hT:bZ Tryz.prog G) (hm:cR d=some (t,())): Calls Tryz.prog 23 #[.agg #[.int .i64 d.1,.int .i64 d.2]] w fun e w'=>e= .returned (.string (bs t))/\Kept w w':=by
 refine (Pg G w (fun _=>none) [.agg #[.int .i64 d.1,.int .i64 d.2]] (d,()) (t,()) hG (fun b i h=>by cases h) ⟨_,[],fun _=>rfl,fun h=>Bool.noConfusion h,⟨_,rfl,[.int .i64 d.1],_,rfl,rfl,rfl⟩,rfl⟩ hm hT).mono ?_
 rintro e w' ⟨G',ow',vs,g⟩
 obtain⟨u,us,rfl,hu,h3,_⟩:=g.out
 have e1:[u]=[Value.string (bs t)]:=hu
 have e3:us=[]:=h3
 cases e1;subst e3
 exact⟨g.ret,⟨g.size,g.os,g.output,fun b hb=>(g.old b hb rfl).1⟩⟩
theorem sA {G:Gh} {w:World} (n:Int) (t:List UInt8) (hG:Agr G w) (hT:bZ Tryz.prog G) (hm:strconv_Itoa n=some (t,())): Calls Tryz.prog 20 #[.int .i64 n] w fun e w'=>e= .returned (.string (bs t))/\Kept w w':=by
 refine (wI G w (fun _=>none) [.int .i64 n] (n,()) (t,()) hG (fun b i h=>by cases h) ⟨_,[],fun _=>rfl,fun h=>Bool.noConfusion h,rfl,rfl⟩ hm hT).mono ?_
 rintro e w' ⟨G',ow',vs,g⟩
 obtain⟨u,us,rfl,hu,h3,_⟩:=g.out
 have e1:[u]=[Value.string (bs t)]:=hu
 have e3:us=[]:=h3
 cases e1;subst e3
 exact⟨g.ret,⟨g.size,g.os,g.output,fun b hb=>(g.old b hb rfl).1⟩⟩
theorem VC {G:Gh} {w:World} (b cap:Nat) (cs:Array Value) (l:List (List UInt8)) (t:List UInt8) (hG:Agr G w) (hT:bZ Tryz.prog G) (hb:w.heap[b]? =some (.cells cs 9 (0,0))) (hc:cs.toList.take l.length=l.map fun s=>Value.string (bs s)) (hl:l.length<=cap) (hcap:cap<=maxLen) (hsz:l.length<=cs.size) (hm:cC l=some (t,())): Calls Tryz.prog 22 #[.slice (some ⟨b,0,none⟩) l.length cap] w fun e w'=>e= .returned (.string (bs t))/\Kept w w':=by
 let G1:Gh:=⟨fun x=>if x=b then w.heap[b]? else G x,G.hnd⟩
 have hA:Agr G1 w:=fun x o hx=>by
  by_cases e:x=b
  ·subst e;simpa [G1] using hx
  ·exact hG x o (by simpa [G1,e] using hx)
 have hle:G.le G1:=⟨fun x o hx=>by
  by_cases e:x=b
  ·subst e;simp only[G1,af9 rfl];exact hG x o hx
  ·simp only[G1,af8 e];exact hx,fun _ _ h=>h⟩
 have hrep:bJ G1 Ty.str.size (ax G1 .str) l (.slice (some ⟨b,0,none⟩) l.length cap):=by
  refine⟨some ⟨b,0,none⟩,cap,rfl,hl,hcap,.inr ⟨b,0,cs,9,(0,0),rfl,by simp only[G1,af9 rfl];exact hb,by rw[show Ty.str.size=1 from rfl,afH,afC];exact hsz, ?_⟩⟩
  have e1:(cs.toList.drop 0).take (l.length*Ty.str.size)=l.map fun s=>Value.string (bs s):=by
   rw[ad6,show Ty.str.size=1 from rfl,afC]
   exact hc
  have key:∀ l:List (List UInt8),bQ (ax G1 .str) l (l.map fun s=>Value.string (bs s)):=by
   intro l
   induction l with
   | nil=>rfl
   | cons x r ih=>exact⟨[.string (bs x)],_,rfl,rfl,ih⟩
  exact (congrArg (bQ (ax G1 .str) l) e1).mpr (key l)
 refine (UN G1 w (fun _=>none) [.slice (some ⟨b,0,none⟩) l.length cap] (l,()) (t,()) hA (fun b i h=>by cases h) ⟨_,[],fun _=>rfl,fun h=>Bool.noConfusion h,⟨_,rfl,hrep⟩,rfl⟩ hm (hT.mono hle)).mono ?_
 rintro e w' ⟨G',ow',vs,g⟩
 obtain⟨u,us,rfl,hu,h3,_⟩:=g.out
 have e1:[u]=[Value.string (bs t)]:=hu
 have e3:us=[]:=h3
 cases e1;subst e3
 exact⟨g.ret,⟨g.size,g.os,g.output,fun b hb=>(g.old b hb rfl).1⟩⟩
theorem Nk {G:Gh} {w:World} (b:Nat) (l:List (List UInt8)) (t:List UInt8) (hG:Agr G w) (hT:bZ Tryz.prog G) (hb:w.heap[b]? =some (.cells (l.map fun s=>Value.string (bs s)).toArray 9 (0,0))) (hl:l.length<=1000) (hm:cC l=some (t,())): Calls Tryz.prog 22 #[.slice (some ⟨b,0,none⟩) l.length l.length] w fun e w'=>e= .returned (.string (bs t))/\Kept w w':=
 VC b l.length _ l t hG hT hb (afd (by simp)) (afq _) (by simp only[maxLen];omega) (Nat.le_of_eq (by rw[ae9,aeB])) hm
theorem LV {G:Gh} {w:World} (v:Value) (n:Nat) (l:List (List UInt8)) (t:List UInt8) (hG:Agr G w) (hT:bZ Tryz.prog G) (h:w.ownsRow 0 9 1 v n (l.map fun s=>Value.string (bs s))) (hn:0<n) (hm:cC l=some (t,())): Calls Tryz.prog 22 #[v] w fun e w'=>e= .returned (.string (bs t))/\Kept w w':=by
 obtain⟨h1,h2⟩:=h
 have hln:l.length=n:=by simpa using h1
 subst hln
 rcases h2 with ⟨_,h2⟩ | ⟨g,cap,cur,rfl,_,hg,h3,h4,h5,h6⟩
 ·omega
 ·exact VC g cap cur l t hG hT hg (by simpa using h6) h3 h4 (by omega) hm
theorem Zz {w:World} {b:Nat} (l:List (List UInt8)) (hb:w.heap[b]? =some (.cells (l.map fun s=>Value.string (bs s)).toArray 9 (0,0))) (hl:l.length<=1000):w.ownsRow 0 9 1 (.slice (some ⟨b,0,none⟩) l.length l.length) l.length (l.map fun s=>Value.string (bs s)):=
 ⟨by simp,.inr ⟨b,l.length,_,rfl,afI _,hb,afq _,by simp only[maxLen];omega,by simp,afd (by simp)⟩⟩
theorem dX {β:Type} {c:Bool} {x:Option β} {y:β} (h:chk c x=some y):c=true/\x=some y:=by
 cases c with
 | false=>cases h
 | true=>exact⟨rfl,h⟩
theorem Gx {W5 W6 W7:World} {o:Obj} (h6:Kept W5 W6) (hs:(W6.alloc o).heap.size<=W7.heap.size) (ho:W7.os=(W6.alloc o).os) (hp:W7.output=(W6.alloc o).output) (hb:∀ k,k<(W6.alloc o).heap.size->W7.heap[k]? =(W6.alloc o).heap[k]?):Kept W5 W7:=by
 have hn:=bA W6 o
 exact h6.trans (hn.2.trans ⟨hs,ho,hp,hb⟩)
theorem aaU:(Tryz.prog.info? 9).map (fun i=>(i.zero,i.size,i.bytes))=some (some (.string ⟨#[]⟩),1,16):=by kernel_rfl
theorem YL (b B:Nat) (bs:List Value) (w:World) (h:Lib.IsBuilderF 72 5 B b bs w):Calls Tryz.prog 26 #[.pointer (some ⟨b,0,none⟩)] w fun e w'=>e= .returned (.int .i64 bs.length)/\w'=w:=
 Any.Builder_Len_f Tryz.abg B b bs w h
theorem TI (b B:Nat) (l:List UInt8) (w:World) (h:Lib.IsBuilderF 72 5 B b (Lib.byteCells l) w) (hB:B<=w.heap.size):Calls Tryz.prog 27 #[.pointer (some ⟨b,0,none⟩)] w fun e w'=>e= .returned (.string (bs l))/\RowKit.Below B w w':=
 (Any.Builder_String_any_f (ρ:=Tryz.yJ) { Tryz.O8 with } Tryz.sS B b l w h hB).mono fun e w' ⟨h1,h2⟩=>⟨h1,h2.2⟩
theorem Vj (b B:Nat) (l s:List UInt8) (w:World) (h:Lib.IsBuilderF 72 5 B b (Lib.byteCells l) w) (hl:l.length+s.length<=140737488355328) (hB:B<=w.heap.size): Calls Tryz.prog 21 #[.pointer (some ⟨b,0,none⟩),.string (bs s)] w fun e w'=>e= .returned (.tuple #[.int .i64 s.length,.nilIface])/\Lib.IsBuilderF 72 5 B b (Lib.byteCells (l++s)) w'/\RowKit.Below B w w'/\Lib.OthersKept 5 (some b) w w':=by
 have hs:(bs s).size=s.length:=ae9
 refine (Any.Builder_WriteString_k (ρ:=Tryz.yJ) { Tryz.O8 with } Tryz.sS B b (Lib.byteCells l) (bs s) w h (by rw[Lib.byteCells_length,hs];exact hl) hB).mono ?_
 rintro e w' ⟨h1,h2,h3,h4⟩
 rw[hs] at h1
 refine⟨h1,.inr ?_,h3,h4⟩
 have e1:Lib.byteCells (l++s)=Lib.byteCells l++Lib.strCells (bs s):=by
  simp[Lib.byteCells,Lib.strCells,bs]
 rw[e1]
 exact h2
set_option maxHeartbeats 4000000 in
theorem KG (G:Gh) (w:World) (p:Bool) (d1 d2:Int) (s:List UInt8) (b:Nat) (l:List (List UInt8)) (t:List UInt8) (n:Nat) (hln:l.length=n) (hG:Agr G w) (hT:bZ Tryz.prog G) (hgb:∀ k o,G k=some o->k<b) (hb:w.heap[b]? =some (.cells (l.map fun s=>Value.string (bs s)).toArray 9 (0,0))) (hn0:0<n) (hn:n<=100) (hm:cC (l++tj p)=some (t,())): Calls Tryz.prog 24 #[.agg #[.bool p,.int .i64 d1,.int .i64 d2,.string (bs s)],.slice (some ⟨b,0,none⟩) n n] w fun e w'=>e= .returned (.string (bs t))/\KB b w w':=by
 have e22:∀ args w,(callFunc 22 args).run Tryz.prog w= .ok (.enter 22 args) w:=enters_of Tryz.func22 (by kernel_rfl) rfl
 have mixed:Tryz.prog.follows .mixedOrders=true:=by kernel_rfl
 have late:Tryz.prog.follows .lateStores=true:=by kernel_rfl
 have t4:=Tryz.underlying4;have t9:=Tryz.underlying9;have t36:=Tryz.underlying36;have t53:=Tryz.underlying53;have a53:=Tryz.isAgg53;have z53:=Tryz.sizeOf53;have v53:=Tryz.zeroValue53
 have hbl:=aB hb
 have hb1:=bA w (.cells #[.bool p,.int .i64 d1,.int .i64 d2,.string (bs s)] 53)
 have hr:=Zz l hb (by omega)
 rw[hln] at hr
 have hr0:(w.alloc (.cells #[.bool p,.int .i64 d1,.int .i64 d2,.string (bs s)] 53)).ownsRow 0 9 1 (.slice (some ⟨b,0,none⟩) n n) n (l.map fun s=>Value.string (bs s)):=cg hr fun g hg=>by
  cases hg
  exact hb1.2.block b hbl
 have hA1:Agr G (w.alloc (.cells #[.bool p,.int .i64 d1,.int .i64 d2,.string (bs s)] 53)):=vu hG _
 obtain⟨⟨q0,q1,q2,q3⟩,_⟩:=s7 hb1.1
 obtain⟨i0,hi0,hz0,hz1,hz2⟩:=info_parts aaU
 cases p with
 | false=>
  have hj:=LV (.slice (some ⟨b,0,none⟩) n n) n l t hA1 hT hr0 hn0 (by simpa [tj] using hm)
  clear hr hr0
  go_enter Tryz.func24,Tryz.ntmps24
  go_wp2_with (go_at_fn 22;refine hj.mono ?_;rintro e W1 ⟨rfl,hk⟩)
  go_ret
  exact⟨rfl,KB.of (hb1.2.trans hk) (afp hbl)⟩
 | true=>
  have h63:n+1<=maxLen:=by simp only[maxLen];omega
  have hbytes:(n+1)*16<=140737488355328:=by omega
  have hm':cC (l++[[112,101,114,99,101,110,116]])=some (t,()):=hm
  have hnb:=bA (w.alloc (.cells #[.bool true,.int .i64 d1,.int .i64 d2,.string (bs s)] 53)) (.cells #[.string ⟨#[112,101,114,99,101,110,116]⟩] 9)
  have hr1:((w.alloc (.cells #[.bool true,.int .i64 d1,.int .i64 d2,.string (bs s)] 53)).alloc (.cells #[.string ⟨#[112,101,114,99,101,110,116]⟩] 9)).ownsRow 0 9 1 (.slice (some ⟨b,0,none⟩) n n) n (l.map fun s=>Value.string (bs s)):=cg hr0 fun g hg=>by
   cases hg
   exact hnb.2.block b (aft hbl hb1.2.size)
  have hkb:∀ W8,World.grownBy ((w.alloc (.cells #[.bool true,.int .i64 d1,.int .i64 d2,.string (bs s)] 53)).alloc (.cells #[.string ⟨#[112,101,114,99,101,110,116]⟩] 9)) W8 (some b)->KB b w W8:=fun W8 hg=>by
   have hk:=hb1.2.trans hnb.2
   exact⟨afs hk.size hg.size,hg.os.trans hk.os,hg.output.trans hk.output,fun k hlt=>(hg.block k (aft (afy hlt hbl) hk.size) (fun e=>by cases e;omega)).trans (hk.block k (afy hlt hbl))⟩
  have hA8:∀ W8,World.grownBy ((w.alloc (.cells #[.bool true,.int .i64 d1,.int .i64 d2,.string (bs s)] 53)).alloc (.cells #[.string ⟨#[112,101,114,99,101,110,116]⟩] 9)) W8 (some b)->Agr G W8:=fun W8 hg=>(hkb W8 hg).agr hG fun k o hk=>hgb k o hk
  have hR8:∀ (W8:World) (v:Value) (m:Nat),W8.ownsRow 0 9 1 v m ((l.map fun s=>Value.string (bs s))++[.string ⟨#[112,101,114,99,101,110,116]⟩])->W8.ownsRow 0 9 1 v m ((l++[[112,101,114,99,101,110,116]]).map fun s=>Value.string (bs s)):=fun W8 v m h=>by
   rw[aeI]
   exact h
  have hsz:(w.alloc (.cells #[.bool true,.int .i64 d1,.int .i64 d2,.string (bs s)] 53)).heap.size=w.heap.size+1:=adg _
  have hnew:=hnb.1
  rw[hsz] at hnew
  clear hr hr0
  go_enter Tryz.func24,Tryz.ntmps24
  go_wp2_with (first
   | (at_builtin;refine wpList_append_lies _ rfl _ _ _ rfl 0 9 i0 _ 1 16 t36 hi0 hz0 hz1 hz2 rfl (by decide) (.slice (some ⟨b,0,none⟩) n n) n (l.map fun s=>Value.string (bs s)) rfl hr1 ⟨w.heap.size+1,0,none⟩ 1 1 [.string ⟨#[112,101,114,99,101,110,116]⟩] rfl rfl (World.news_of_block (cs:= #[.string ⟨#[112,101,114,99,101,110,116]⟩]) (t:=9) (fr:=(0,0)) (by exact hnew)) (by intro u hu;rw[aeY.1 hu];rfl) (by decide) h63 hbytes (afI _) _ rfl ?_;intro g capn W8 hown8 hgr8 hat8 hlt8)
   | (go_at_fn 22;refine (LV (G:=G) _ (n+1) (l++[[112,101,114,99,101,110,116]]) t (by exact hA8 _ hgr8) hT (by exact hR8 _ _ _ hown8) (by omega) hm').mono ?_;rintro e W9 ⟨rfl,hk9⟩))
  go_ret
  exact⟨rfl,(hkb _ hgr8).trans (KB.of hk9 (afs (afp hbl) (hkb _ hgr8).size))⟩
end Go.Proofs.SeatU
set_option maxRecDepth 100000
namespace Go.Proofs.SeatU
open Go.Dn Go.Md Go.Proofs Go.RowKit Go.Shelf Go.Lib
attribute [local go_sem ↓] Go.wp_at_zero Go.wp_at_succ
theorem ach {G:Gh} {c:ak} {cs:List Value} (h:ax G bL c cs):cs=BX c:=by
 obtain⟨a1,⟨a4,a5⟩⟩:=c
 obtain⟨c1,r1,rfl,h1,c4a,c4b,rfl,h4a,h4b⟩:=h
 have e1:c1=[.string (bs a1)]:=h1
 have e4:c4a=[.int .i64 a4]:=h4a
 have e5:c4b=[.int .i64 a5]:=h4b
 subst e1;subst e4;subst e5
 rfl
theorem abV {G:Gh} {c:aj} {cs:List Value} (h:ax G aY c cs):cs=td c:=by
 obtain⟨a1,⟨a4,a5⟩,a6⟩:=c
 obtain⟨c1,r1,rfl,h1,c2,r2,rfl,⟨c4a,c4b,rfl,h4a,h4b⟩,h6⟩:=h
 have e1:c1=[.bool a1]:=h1
 have e4:c4a=[.int .i64 a4]:=h4a
 have e5:c4b=[.int .i64 a5]:=h4b
 have e6:r2=[.string (bs a6)]:=h6
 subst e1;subst e4;subst e5;subst e6
 rfl
theorem YM {G:Gh} {c:aa} {cs:List Value} (h:ax G b9 c cs):∃ av n k,cs=wC c (.slice av n k)/\bJ G aY.size (ax G aY) c.2.2.2.2.2.2.2.1 (.slice av n k):=by
 obtain⟨a1,a2,a3,⟨a4,a5⟩,a6,⟨a7,a8⟩,a9,a10,a11⟩:=c
 obtain⟨c1,r1,rfl,h1,c2,r2,rfl,h2,c3,r3,rfl,h3,c4,r4,rfl,⟨c4a,c4b,rfl,h4a,h4b⟩,c6,r6,rfl,h6,c7,r7,rfl,⟨c7a,c7b,rfl,h7a,h7b⟩,c9,r9,rfl,h9,c10,r10,rfl,⟨v,rfl,h10⟩,h11⟩:=h
 have e1:c1=[.int .i64 a1]:=h1
 have e2:c2=[.int .i64 a2]:=h2
 have e3:c3=[.string (bs a3)]:=h3
 have e4:c4a=[.int .i64 a4]:=h4a
 have e5:c4b=[.int .i64 a5]:=h4b
 have e6:c6=[.string (bs a6)]:=h6
 have e7:c7a=[.int .i64 a7]:=h7a
 have e8:c7b=[.int .i64 a8]:=h7b
 have e9:c9=[.int .i64 a9]:=h9
 have e11:r10=[.string (bs a11)]:=h11
 subst e1;subst e2;subst e3;subst e4;subst e5;subst e6;subst e7;subst e8;subst e9;subst e11
 obtain⟨av,cap,rfl,hh⟩:=id h10
 exact⟨av,_,cap,rfl,h10⟩
theorem xI {w:World} {b o:Nat} {cs:Array Value} {T:TypeId} {fz:Nat×Nat} {xs:List Value} (hg:w.heap[b]? =some (.cells cs T fz)) (hx:(cs.toList.drop o).take xs.length=xs) (j:Nat) (u:Value) (hj:xs[j]? =some u):w.cell? ⟨b,o+j,none⟩=some u:=by
 have hlt:=(aen.1 hj).1
 have h:=congrArg (fun l:List Value=>l[j]?) hx
 rw[aeu hlt,aek,hj] at h
 simp[World.cell?,hg]
 simpa using h
theorem acg {G:Gh} {w:World} {l:List ak} {v:Value} (h:bJ G bL.size (ax G bL) l v) (hG:Agr G w) {i:Nat} {p:ak} (hi:l[i]? =some p): ∃ b off cap,v= .slice (some ⟨b,off,none⟩) l.length cap/\∀ j u,(BX p)[j]? =some u->w.cell? ⟨b,off+i*3+j,none⟩=some u:=by
 obtain⟨b,off,c,T,fz,cap,hv,hb,_,hr⟩:=h.at hi
 exact⟨b,off,cap,hv,xI (hG b _ hb) (ach hr)⟩
theorem Yo {G:Gh} {w:World} {l:List aj} {v:Value} (h:bJ G aY.size (ax G aY) l v) (hG:Agr G w) {i:Nat} {p:aj} (hi:l[i]? =some p): ∃ b off cap,v= .slice (some ⟨b,off,none⟩) l.length cap/\∀ j u,(td p)[j]? =some u->w.cell? ⟨b,off+i*4+j,none⟩=some u:=by
 obtain⟨b,off,c,T,fz,cap,hv,hb,_,hr⟩:=h.at hi
 exact⟨b,off,cap,hv,xI (hG b _ hb) (abV hr)⟩
theorem ab2 {G:Gh} {w:World} {l:List aa} {v:Value} (h:bJ G b9.size (ax G b9) l v) (hG:Agr G w) {i:Nat} {p:aa} (hi:l[i]? =some p): ∃ b off cap av n k,v= .slice (some ⟨b,off,none⟩) l.length cap/\bJ G aY.size (ax G aY) p.2.2.2.2.2.2.2.1 (.slice av n k)/\∀ j u,(wC p (.slice av n k))[j]? =some u->w.cell? ⟨b,off+i*11+j,none⟩=some u:=by
 obtain⟨b,off,c,T,fz,cap,hv,hb,_,hr⟩:=h.at hi
 obtain⟨av,n,k,e,hs⟩:=YM hr
 exact⟨b,off,cap,av,n,k,hv,hs,xI (hG b _ hb) e⟩
theorem NS {G:Gh} {t:Ty} {l:List t.den} {av:Option Addr} {n c:Nat} (h:bJ G t.size (ax G t) l (.slice av n c)):n=l.length/\n<=9223372036854775807:=by
 obtain⟨_,_,e,h1,h2,_⟩:=h
 cases e
 exact⟨rfl,afs h1 h2⟩
theorem Wn {w:World} {b:Nat} {a0 a1 a2:Value} {T:TypeId} (h:w.heap[b]? =some (.cells #[a0,a1,a2] T (0,0))):w.cell? ⟨b,0,none⟩=some a0/\w.cell? ⟨b,1,none⟩=some a1/\w.cell? ⟨b,2,none⟩=some a2:=by
 refine⟨?_, ?_, ?_⟩<;>simp[World.cell?,h]
theorem Cv {w:World} {b:Nat} {a0 a1 a2 a3 a4 a5 a6 a7 a8 a9 a10:Value} {T:TypeId} (h:w.heap[b]? =some (.cells #[a0,a1,a2,a3,a4,a5,a6,a7,a8,a9,a10] T (0,0))): w.cell? ⟨b,0,none⟩=some a0/\w.cell? ⟨b,1,none⟩=some a1/\w.cell? ⟨b,2,none⟩=some a2/\w.cell? ⟨b,3,none⟩=some a3/\w.cell? ⟨b,4,none⟩=some a4/\w.cell? ⟨b,5,none⟩=some a5/\w.cell? ⟨b,6,none⟩=some a6/\w.cell? ⟨b,7,none⟩=some a7/\w.cell? ⟨b,8,none⟩=some a8/\w.cell? ⟨b,9,none⟩=some a9/\w.cell? ⟨b,10,none⟩=some a10:=by
 refine⟨?_, ?_, ?_, ?_, ?_, ?_, ?_, ?_, ?_, ?_, ?_⟩<;>simp[World.cell?,h]
theorem drop_at {α:Type} {l:List α} {i n:Nat} (hn:n=l.length) (hlt:i<n):∃ p,l[i]? =some p/\l.drop i=p::l.drop (i+1):=by
 have hil:i<l.length:=by omega
 exact⟨l[i],ael hil,ad1 hil⟩
structure TxS (B:Nat) (W1:World) (acc:List UInt8) (W:World):Prop where
 bld:Lib.IsBuilderF 72 5 B B (Lib.byteCells acc) W
 kb:KB B W1 W
 lt:B<W.heap.size
theorem TxS.keep {B:Nat} {W1 W W':World} {acc:List UInt8} (h:TxS B W1 acc W) (hk:Kept W W'):TxS B W1 acc W':=
 ⟨O6 h.bld hk.block,h.kb.trans (KB.of hk (afp h.lt)),aft h.lt hk.size⟩
theorem TxS.agr {G:Gh} {B:Nat} {W1 W:World} {acc:List UInt8} (h:TxS B W1 acc W) (hG:Agr G W1) (hl:∀ b o,G b=some o->b<B):Agr G W:=h.kb.agr hG hl
theorem TxS.write {B:Nat} {W1 W:World} {acc:List UInt8} (h:TxS B W1 acc W) (s:List UInt8) (hl:(acc++s).length<=140737488355328): Calls Tryz.prog 21 #[.pointer (some ⟨B,0,none⟩),.string (bs s)] W fun e w'=>e= .returned (.tuple #[.int .i64 s.length,.nilIface])/\TxS B W1 (acc++s) w'/\∀ k cs T,W.heap[k]? =some (.cells cs T (0,0))->k≠B->T≠5->w'.heap[k]? =some (.cells cs T (0,0)):=by
 refine (Vj B B acc s W h.bld (by simpa using hl) (afp h.lt)).mono ?_
 rintro e w' ⟨he,hb,hbel,hoth⟩
 exact⟨he,⟨hb,h.kb.trans (KB.below hbel),aft h.lt hbel.size⟩,fun k cs T hk hn hT=>hoth k _ hk (fun e=>hn (Option.some.inj e)) (by intro c fz e;cases e;exact hT rfl)⟩
theorem Vb {b o:List UInt8} {x:ak} {r:List ak} (h:pK b (x::r)=some o):∃ t s,cR x.2=some (t,())/\cC [[114,97,116,101],x.1,t]=some (s,())/\(b++s).length<=140737488355328/\pK (b++s) r=some o:=by
 rw[pK] at h
 cases h1:cR x.2 with
 | none=>rw[h1] at h;cases h
 | some y=>
  rw[h1,afJ] at h
  cases h2:cC [[114,97,116,101],x.1,y.1] with
  | none=>rw[h2] at h;cases h
  | some z=>
   rw[h2,afJ] at h
   obtain⟨h3,h⟩:=dX h
   exact⟨y.1,z.1,rfl,h2,age h3,h⟩
theorem WD {b o:List UInt8} {x:aj} {r:List aj} (h:uy b (x::r)=some o):∃ t s,cR x.2.1=some (t,())/\cC ([[101,120,116,114,97],t]++tj x.1)=some (s,())/\(b++s).length<=140737488355328/\uy (b++s) r=some o:=by
 rw[uy] at h
 cases h1:cR x.2.1 with
 | none=>rw[h1] at h;cases h
 | some y=>
  rw[h1,afJ] at h
  cases h2:cC ([[101,120,116,114,97],y.1]++tj x.1) with
  | none=>rw[h2] at h;cases h
  | some z=>
   rw[h2,afJ] at h
   obtain⟨h3,h⟩:=dX h
   exact⟨y.1,z.1,rfl,h2,age h3,h⟩
theorem Wg {b o:List UInt8} {x:aj} {r:List aj} (h:ur b (x::r)=some o):∃ t d s,cR x.2.1=some (t,())/\uW x.2.2=some (d,())/\cC ([[97,108,108],t,d]++tj x.1)=some (s,())/\(b++s).length<=140737488355328/\ur (b++s) r=some o:=by
 rw[ur] at h
 cases h1:cR x.2.1 with
 | none=>rw[h1] at h;cases h
 | some y=>
  rw[h1,afJ] at h
  cases h4:uW x.2.2 with
  | none=>rw[h4] at h;cases h
  | some q=>
   rw[h4,afJ] at h
   cases h2:cC ([[97,108,108],y.1,q.1]++tj x.1) with
   | none=>rw[h2] at h;cases h
   | some z=>
    rw[h2,afJ] at h
    obtain⟨h3,h⟩:=dX h
    exact⟨y.1,q.1,z.1,rfl,rfl,h2,age h3,h⟩
theorem UK {b o:List UInt8} {l:aa} {r:List aa} (h:pF b (l::r)=some o):∃ n1 n2 d1 d2 n3 s b2,strconv_Itoa l.1=some (n1,())/\strconv_Itoa l.2.1=some (n2,())/\cR l.2.2.2.1=some (d1,())/\cR l.2.2.2.2.2.1=some (d2,())/\strconv_Itoa l.2.2.2.2.2.2.1=some (n3,())/\ cC [[108,105,110,101],n1,n2,l.2.2.1,d1,l.2.2.2.2.1,d2,n3,l.2.2.2.2.2.2.2.2]=some (s,())/\(b++s).length<=140737488355328/\uy (b++s) l.2.2.2.2.2.2.2.1=some b2/\pF b2 r=some o:=by
 rw[pF] at h
 cases h1:strconv_Itoa l.1 with
 | none=>rw[h1] at h;cases h
 | some y1=>
 rw[h1,afJ] at h
 cases h2:strconv_Itoa l.2.1 with
 | none=>rw[h2] at h;cases h
 | some y2=>
 rw[h2,afJ] at h
 cases h3:cR l.2.2.2.1 with
 | none=>rw[h3] at h;cases h
 | some y3=>
 rw[h3,afJ] at h
 cases h4:cR l.2.2.2.2.2.1 with
 | none=>rw[h4] at h;cases h
 | some y4=>
 rw[h4,afJ] at h
 cases h5:strconv_Itoa l.2.2.2.2.2.2.1 with
 | none=>rw[h5] at h;cases h
 | some y5=>
 rw[h5,afJ] at h
 cases h6:cC [[108,105,110,101],y1.1,y2.1,l.2.2.1,y3.1,l.2.2.2.2.1,y4.1,y5.1,l.2.2.2.2.2.2.2.2] with
 | none=>rw[h6] at h;cases h
 | some z=>
 rw[h6,afJ] at h
 obtain⟨h7,h⟩:=dX h
 cases h8:uy (b++z.1) l.2.2.2.2.2.2.2.1 with
 | none=>rw[h8] at h;cases h
 | some b2=>
 rw[h8,afJ] at h
 exact⟨y1.1,y2.1,y3.1,y4.1,y5.1,z.1,b2,rfl,rfl,rfl,rfl,rfl,h6,age h7,h8,h⟩
theorem Nl {V5 W6 W7:World} {o:Obj} (h6:Kept V5 W6) (hs:(W6.alloc o).heap.size<=W7.heap.size) (ho:W7.os=(W6.alloc o).os) (hp:W7.output=(W6.alloc o).output) (hb:∀ k,k<W6.heap.size->W7.heap[k]? =(W6.alloc o).heap[k]?):Kept V5 W7:=by
 have hn:=(bA W6 o).2
 exact⟨afs h6.size (afs hn.size hs),ho.trans (hn.os.trans h6.os),hp.trans (hn.output.trans h6.output),fun k hk=>(hb k (aft hk h6.size)).trans ((hn.block k (aft hk h6.size)).trans (h6.block k hk))⟩
theorem Of {P:Program} {id n:Nat} {l:List Oper} {Q:Exit->Act->World->Prop} {S:World->Prop} {a:Act} {w:World} (hm:P.follows .mixedOrders=true) (hn:l.length=n) (hS:S w.drew) (h:S w.drew->wpAnyH P .any l.toArray Q S n (Array.replicate n false) a w.drew):(Code.region id l.toArray true).wp P Q a w:=by
 subst hn
 exact wp_region_held hm (h hS)
theorem WU {W5 W8 W9 W10:World} {o:Obj} {r:Nat} (h8:Kept W5 W8) (h9:Kept W8 W9) (hg:World.grownBy (W9.alloc o) W10 (some r)) (hr:W5.heap.size<=r):Kept W5 W10:=by
 have hk:=(h8.trans h9).trans (bA W9 o).2
 exact⟨afs hk.size hg.size,hg.os.trans hk.os,hg.output.trans hk.output,fun k hlt=>(hg.block k (aft hlt hk.size) (fun e=>by cases e;omega)).trans (hk.block k hlt)⟩
theorem aa5 {K:Exit->Act->World->Prop} {e:Exit} {a:Act} {w:World} (F:World->Prop) (hF:F w) (h:∀ W,F W->K e a W):K e a w:=h w hF
set_option maxHeartbeats 16000000 in
theorem ZH (G:Gh) (w:World) (a b:List UInt8) (dy pl wy:Int) (pr:Bool) (R:List ak) (L:List aa) (X:List aj) (ra:Option Addr) (rn rc:Nat) (la:Option Addr) (ln lc:Nat) (xa:Option Addr) (xn xc:Nat) (n1 n2 n3 s0 b1 b2 b3:List UInt8) (hR:bJ G bL.size (ax G bL) R (.slice ra rn rc)) (hL:bJ G b9.size (ax G b9) L (.slice la ln lc)) (hX:bJ G aY.size (ax G aY) X (.slice xa xn xc)) (hG:Agr G w) (hT:bZ Tryz.prog G) (hm:dh (a,b,dy,pl,wy,pr,R,L,X)=some (0,())) (h1:strconv_Itoa dy=some (n1,())) (h2:strconv_Itoa pl=some (n2,())) (h3:strconv_Itoa wy=some (n3,())) (hj:cC ([[105,110,118,111,105,99,101],a,b,n1,n2,n3]++oM pr)=some (s0,())) (hl0:s0.length<=140737488355328) (hr1:pK s0 R=some b1) (hr2:pF b1 L=some b2) (hr3:ur b2 X=some b3): Calls Tryz.prog 9 #[.agg #[.string (bs a),.string (bs b),.int .i64 dy,.int .i64 pl,.int .i64 wy,.bool pr,.slice ra rn rc,.slice la ln lc,.slice xa xn xc]] w fun e w'=>e= .returned (bif decide ((b3.length:Int)>300000) then .tuple #[.string (bs []),.int .i64 2] else .tuple #[.string (bs b3),.int .i64 0])/\Kept w w':=by
 have e13:∀ args w,(callFunc 13 args).run Tryz.prog w= .ok (.enter 13 args) w:=enters_of Tryz.func13 (by kernel_rfl) rfl
 have e20:∀ args w,(callFunc 20 args).run Tryz.prog w= .ok (.enter 20 args) w:=enters_of Tryz.func20 (by kernel_rfl) rfl
 have e21:∀ args w,(callFunc 21 args).run Tryz.prog w= .ok (.enter 21 args) w:=enters_of Tryz.func21 (by kernel_rfl) rfl
 have e22:∀ args w,(callFunc 22 args).run Tryz.prog w= .ok (.enter 22 args) w:=enters_of Tryz.func22 (by kernel_rfl) rfl
 have e23:∀ args w,(callFunc 23 args).run Tryz.prog w= .ok (.enter 23 args) w:=enters_of Tryz.func23 (by kernel_rfl) rfl
 have e24:∀ args w,(callFunc 24 args).run Tryz.prog w= .ok (.enter 24 args) w:=enters_of Tryz.func24 (by kernel_rfl) rfl
 have e25:∀ args w,(callFunc 25 args).run Tryz.prog w= .ok (.enter 25 args) w:=enters_of Tryz.func25 (by kernel_rfl) rfl
 have e26:∀ args w,(callFunc 26 args).run Tryz.prog w= .ok (.enter 26 args) w:=enters_of Tryz.func26 (by kernel_rfl) rfl
 have e27:∀ args w,(callFunc 27 args).run Tryz.prog w= .ok (.enter 27 args) w:=enters_of Tryz.func27 (by kernel_rfl) rfl
 have mixed:Tryz.prog.follows .mixedOrders=true:=by kernel_rfl
 have late:Tryz.prog.follows .lateStores=true:=by kernel_rfl
 have t3:=Tryz.underlying3;have t4:=Tryz.underlying4;have t9:=Tryz.underlying9;have t22:=Tryz.underlying22;have t23:=Tryz.underlying23;have t24:=Tryz.underlying24;have t26:=Tryz.underlying26;have t27:=Tryz.underlying27;have t36:=Tryz.underlying36;have t48:=Tryz.underlying48;have t50:=Tryz.underlying50;have t53:=Tryz.underlying53;have t56:=Tryz.underlying56;have t72:=Tryz.underlying72;have a26:=Tryz.isAgg26;have z26:=Tryz.sizeOf26;have v26:=Tryz.zeroValue26;have a48:=Tryz.isAgg48;have z48:=Tryz.sizeOf48;have v48:=Tryz.zeroValue48;have a50:=Tryz.isAgg50;have z50:=Tryz.sizeOf50;have v50:=Tryz.zeroValue50;have a53:=Tryz.isAgg53;have z53:=Tryz.sizeOf53;have v53:=Tryz.zeroValue53;have a56:=Tryz.isAgg56;have z56:=Tryz.sizeOf56;have v56:=Tryz.zeroValue56;have a72:=Tryz.isAgg72;have z72:=Tryz.sizeOf72;have v72:=Tryz.zeroValue72
 have HR:Aside _:=hR
 have HL:Aside _:=hL
 have HX:Aside _:=hX
 obtain⟨hnR,hmR⟩:=NS hR
 obtain⟨hnL,hmL⟩:=NS hL
 obtain⟨hnX,hmX⟩:=NS hX
 have HNR:Aside (rn=R.length):=hnR
 have HNL:Aside (ln=L.length):=hnL
 have HNX:Aside (xn=X.length):=hnX
 have hb:=bA w (.cells #[.string (bs a),.string (bs b),.int .i64 dy,.int .i64 pl,.int .i64 wy,.bool pr,.slice ra rn rc,.slice la ln lc,.slice xa xn xc] 26)
 have hA0:=vu hG (.cells #[.string (bs a),.string (bs b),.int .i64 dy,.int .i64 pl,.int .i64 wy,.bool pr,.slice ra rn rc,.slice la ln lc,.slice xa xn xc] 26)
 have hc:=De (a,b,dy,pl,wy,pr,R,L,X) (.slice ra rn rc) (.slice la ln lc) (.slice xa xn xc) 0 ⟨hR,hL,hX⟩ hA0 hT hm
 unfold Ai at hc
 dsimp only at hc
 obtain⟨⟨q0,q1,q2,q3,q4,q5,q6,q7,q8⟩,_⟩:=ez hb.1
 clear hnR hnL hnX
 go_enter Tryz.func9,Tryz.ntmps9
 go_wp2_with (go_at_fn 13;refine hc.mono ?_;rintro e W1 ⟨rfl,hk⟩)
 refine tU (fun W=>TxS W1.heap.size W1 [] W/\Kept W1 W) ⟨⟨Lib.IsBuilderF.of (Lib.fresh_isBuilder 72 5 W1),KB.of (bA W1 _).2 (afq _),by show W1.heap.size<(W1.heap.push _).size;rw[adg];omega⟩,(bA W1 _).2⟩ ?_
 intro W5 ⟨hT5,hk15⟩
 have hk1:Kept w W1:=hb.2.trans hk
 have hbx1:=(hk.block _ (aB hb.1)).trans hb.1
 have hNB:w.heap.size<W1.heap.size:=aB hbx1
 have hG1:Agr G W1:=fun b o hg=>(hk1.block b (aB (hG b o hg))).trans (hG b o hg)
 have hGl:∀ b o,G b=some o->b<W1.heap.size:=fun b o hg=>aft (aB (hG b o hg)) hk1.size
 have HBOX:Aside (∀ acc W,TxS W1.heap.size W1 acc W->W.heap[w.heap.size]? =some (.cells #[.string (bs a),.string (bs b),.int .i64 dy,.int .i64 pl,.int .i64 wy,.bool pr,.slice ra rn rc,.slice la ln lc,.slice xa xn xc] 26 (0,0))):=fun acc W h=>(h.kb.block _ hNB).trans hbx1
 have HAG:Aside (∀ acc W,TxS W1.heap.size W1 acc W->Agr G W):=fun acc W h=>h.agr hG1 hGl
 have HKW:Aside (∀ acc W,TxS W1.heap.size W1 acc W->Kept w W):=fun acc W h=>⟨afs hk1.size h.kb.size,h.kb.os.trans hk1.os,h.kb.output.trans hk1.output,fun k hk=>(h.kb.block k (aft hk hk1.size)).trans (hk1.block k hk)⟩
 have HGL:Aside _:=hGl
 have hbx5:=HBOX.out _ _ hT5
 obtain⟨⟨q0,q1,q2,q3,q4,q5,q6,q7,q8⟩,_⟩:=ez hbx5
 have H5:Aside _:=hT5
 have hit1:∀ W,Kept W5 W->Calls Tryz.prog 20 #[.int .i64 dy] W fun e w'=>e= .returned (.string (bs n1))/\Kept W w':=fun W hW=>sA dy n1 (HAG.out _ _ (H5.out.keep hW)) hT h1
 have hit2:∀ W,Kept W5 W->Calls Tryz.prog 20 #[.int .i64 pl] W fun e w'=>e= .returned (.string (bs n2))/\Kept W w':=fun W hW=>sA pl n2 (HAG.out _ _ (H5.out.keep hW)) hT h2
 have hit3:∀ W,Kept W5 W->Calls Tryz.prog 20 #[.int .i64 wy] W fun e w'=>e= .returned (.string (bs n3))/\Kept W w':=fun W hW=>sA wy n3 (HAG.out _ _ (H5.out.keep hW)) hT h3
 clear hb hA0 hc hk hk15 hG1 hGl hT5 hbx1 hk1 hR hL hX
 go_region_held3 (fun W=>W.cell? ⟨w.heap.size,0,none⟩=some (.string (bs a))/\W.cell? ⟨w.heap.size,1,none⟩=some (.string (bs b))/\W.cell? ⟨w.heap.size,2,none⟩=some (.int .i64 dy)/\W.cell? ⟨w.heap.size,3,none⟩=some (.int .i64 pl)/\W.cell? ⟨w.heap.size,4,none⟩=some (.int .i64 wy))
  ((refine And.intro ?_ (And.intro ?_ (And.intro ?_ (And.intro ?_ ?_))))<;>(repeat (first | with_reducible assumption | with_reducible refine bf ?_ | with_reducible refine bD ?_)))
  (first
    | (go_at_fn 20;refine (hit1 _ (by exact⟨afq _,rfl,rfl,fun _ _=>rfl⟩)).mono ?_;rintro e W6 ⟨rfl,hk6'⟩;have hk6:Kept W5 W6:=⟨hk6'.size,hk6'.os,hk6'.output,hk6'.block⟩;clear hk6';obtain⟨⟨y0,y1,y2,y3,y4,_,_,_,_⟩,_⟩:=ez ((hk6.block _ (aB hbx5)).trans hbx5))
    | (go_at_fn 20;refine (hit2 _ (by exact hk6)).mono ?_;rintro e W7 ⟨rfl,hk7'⟩;have hk7:Kept W5 W7:=hk6.trans ⟨hk7'.size,hk7'.os,hk7'.output,hk7'.block⟩;clear hk7';obtain⟨⟨u0,u1,u2,u3,u4,_,_,_,_⟩,_⟩:=ez ((hk7.block _ (aB hbx5)).trans hbx5))
    | (go_at_fn 20;refine (hit3 _ (by exact hk7)).mono ?_;rintro e W8 ⟨rfl,hk8'⟩;have hk8:Kept W5 W8:=hk7.trans ⟨hk8'.size,hk8'.os,hk8'.output,hk8'.block⟩;clear hk8';obtain⟨⟨z0,z1,z2,z3,z4,_,_,_,_⟩,_⟩:=ez ((hk8.block _ (aB hbx5)).trans hbx5)))
 refine aa5 (fun W=>Kept W8 W/\W.heap[W8.heap.size]? =some (.cells (([[105,110,118,111,105,99,101],a,b,n1,n2,n3]:List (List UInt8)).map fun s=>Value.string (bs s)).toArray 9 (0,0))) ⟨by exact (bA W8 _).2,by exact (bA W8 _).1⟩ ?_
 clear q0 q1 q2 q3 q4 q5 q6 q7 q8 y0 y1 y2 y3 y4 u0 u1 u2 u3 u4 z0 z1 z2 z3 z4 hit1 hit2 hit3 hk6 hk7
 intro W9 ⟨hk9,hb9⟩
 have hrow:=Zz [[105,110,118,111,105,99,101],a,b,n1,n2,n3] hb9 (by simp)
 have HROW:Aside (W9.ownsRow 0 9 1 (.slice (some ⟨W8.heap.size,0,none⟩) 6 6) 6 (([[105,110,118,111,105,99,101],a,b,n1,n2,n3]:List (List UInt8)).map fun s=>Value.string (bs s))):=hrow
 have HK8:Aside _:=hk8
 have HK9:Aside _:=hk9
 have hbx9:=HBOX.out _ _ (H5.out.keep (hk8.trans hk9))
 obtain⟨⟨_,_,_,_,_,q5,_,_,_⟩,_⟩:=ez hbx9
 clear hrow hb9 hk8 hk9 hbx9 hbx5
 go_upto_if 35 with fail
 go_cut [6] from 36 (fun s6 wc=>∃ n,0<n/\Aside (wc.ownsRow 0 9 1 s6 n (([[105,110,118,111,105,99,101],a,b,n1,n2,n3]++oM pr).map fun s=>Value.string (bs s)))/\Aside (TxS W1.heap.size W1 [] wc))
 case first=>
  cases pr with
  | false=>
   go_wp2
   go_meet
   case rel=>exact⟨6,by decide,HROW.out,H5.out.keep (HK8.out.trans HK9.out)⟩
  | true=>
   have hnb:=bA W9 (.cells #[.string ⟨#[112,101,114,108,105,110,101]⟩] 9)
   have hr1:(W9.alloc (.cells #[.string ⟨#[112,101,114,108,105,110,101]⟩] 9)).ownsRow 0 9 1 (.slice (some ⟨W8.heap.size,0,none⟩) 6 6) 6 (([[105,110,118,111,105,99,101],a,b,n1,n2,n3]:List (List UInt8)).map fun s=>Value.string (bs s)):=cg HROW.out fun g hg=>hnb.2.block g (by have:=dw HROW.out hg;exact this)
   have hnew:=hnb.1
   have hkb:∀ W10,World.grownBy (W9.alloc (.cells #[.string ⟨#[112,101,114,108,105,110,101]⟩] 9)) W10 (some W8.heap.size)->Kept W5 W10:=fun W10 hg=>WU HK8.out HK9.out hg HK8.out.size
   obtain⟨i0,hi0,hz0,hz1,hz2⟩:=info_parts aaU
   clear hnb
   go_wp2_with (at_builtin;refine wpList_append_lies _ rfl _ _ _ rfl 0 9 i0 _ 1 16 t36 hi0 hz0 hz1 hz2 rfl (by decide) (.slice (some ⟨W8.heap.size,0,none⟩) 6 6) 6 (([[105,110,118,111,105,99,101],a,b,n1,n2,n3]:List (List UInt8)).map fun s=>Value.string (bs s)) rfl hr1 ⟨W9.heap.size,0,none⟩ 1 1 [.string ⟨#[112,101,114,108,105,110,101]⟩] rfl rfl (World.news_of_block (cs:= #[.string ⟨#[112,101,114,108,105,110,101]⟩]) (t:=9) (fr:=(0,0)) (by exact hnew)) (by intro u hu;rw[aeY.1 hu];rfl) (by decide) (by decide) (by decide) (afI _) _ rfl ?_;intro g capn W10 hown10 hgr10 hat10 hlt10)
   go_meet
   case rel=>exact⟨7,by decide,hown10,H5.out.keep (hkb _ hgr10)⟩
 case rest=>
  obtain⟨n,hn0,HRW,HTX⟩:=hcut
  have hjr:∀ W,Kept wc W->Calls Tryz.prog 22 #[u6] W fun e w'=>e= .returned (.string (bs s0))/\Kept W w':=fun W hW=>LV u6 n _ s0 (HAG.out _ _ (HTX.out.keep hW)) hT (cg HRW.out fun g hg=>hW.block g (dw HRW.out hg)) hn0 hj
  have hwr:∀ W,Kept wc W->Calls Tryz.prog 21 #[.pointer (some ⟨W1.heap.size,0,none⟩),.string (bs s0)] W fun e w'=>e= .returned (.tuple #[.int .i64 s0.length,.nilIface])/\TxS W1.heap.size W1 ([]++s0) w'/\∀ k cs T,W.heap[k]? =some (.cells cs T (0,0))->k≠W1.heap.size->T≠5->w'.heap[k]? =some (.cells cs T (0,0)):=fun W hW=>(HTX.out.keep hW).write s0 (by simpa using hl0)
  go_wp2_with (first | (go_at_fn 22;refine (hjr _ (by exact⟨afq _,rfl,rfl,fun _ _=>rfl⟩)).mono ?_;rintro e W11 ⟨rfl,hk11⟩) | (go_at_fn 21;refine (hwr _ (by exact hk11)).mono ?_;rintro e W12 ⟨rfl,hT12,_⟩;obtain⟨⟨_,_,_,_,_,_,p6,_,_⟩,_⟩:=ez (HBOX.out _ _ hT12)))
  have HT12:Aside _:=hT12
  have HR1:Aside _:=hr1
  have HR2:Aside _:=hr2
  have HR3:Aside _:=hr3
  clear hT12 hjr hwr hk11 hr1 hr2 hr3 hm h1 h2 h3 hj hl0 hG
  go_loopg [45] rn (fun g s wr=>∃ (i:Nat) (acc:List UInt8),s= .int .i64 (i:Int)/\i<=rn/\rn - i<=g/\Aside (pK acc (R.drop i)=some b1)/\Aside (TxS W1.heap.size W1 acc wr))
  case atStart=>exact⟨0,s0,rfl,afI _,afq _,HR1.out,HT12.out⟩
  case round=>
   obtain⟨i,acc,rfl,hii,hgi,HPi,HBi⟩:=hrel
   clear p6
   by_cases hlt:i<rn
   ·skip
    have hltz:(i:Int)<(rn:Int):=by omega
    have hi0:(0:Int)<=(i:Int):=by omega
    obtain⟨p,hp,hd2⟩:=drop_at HNR.out hlt
    obtain⟨pb,off,cap0,hve,hcell⟩:=acg HR.out (HAG.out _ _ HBi.out) hp
    have eav:ra=some ⟨pb,off,none⟩:=by cases hve;rfl
    subst eav
    obtain⟨nm,d1,d2⟩:=p
    have hP:=HPi.out
    rw[hd2] at hP
    obtain⟨t,s,g1,g2,g3,g4⟩:=Vb hP
    dsimp only at g1 g2
    have c0:wr.cell? ⟨pb,off+i*3,none⟩=some (.string (bs nm)):=hcell 0 _ rfl
    have c1:wr.cell? ⟨pb,off+i*3+1,none⟩=some (.int .i64 d1):=hcell 1 _ rfl
    have c2:wr.cell? ⟨pb,off+i*3+2,none⟩=some (.int .i64 d2):=hcell 2 _ rfl
    have HG4:Aside _:=g4
    have HD2:Aside _:=hd2
    clear hP hcell hp hd2 hve hlt g4
    go_wp2
    refine tU (fun W=>W.heap[wr.heap.size]? =some (.cells #[.string (bs nm),.int .i64 d1,.int .i64 d2] 56 (0,0))/\Kept wr W) ⟨(bA wr _).1,(bA wr _).2⟩ ?_
    intro V5 ⟨hp5,hk5⟩
    have HT5:Aside (TxS W1.heap.size W1 acc V5):=HBi.out.keep hk5
    have hVB:wr.heap.size≠W1.heap.size:=by have:=HBi.out.lt;omega
    have HV1:Aside (W1.heap.size<=V5.heap.size):=afp HT5.out.lt
    have hto:∀ W,Kept V5 W->Calls Tryz.prog 23 #[.agg #[.int .i64 d1,.int .i64 d2]] W fun e w'=>e= .returned (.string (bs t))/\Kept W w':=fun W hW=>xd (d1,d2) t (HAG.out _ _ (HT5.out.keep hW)) hT g1
    have hjo:∀ (W:World) (b:Nat),Kept V5 W->W.heap[b]? =some (.cells #[.string ⟨#[114,97,116,101]⟩,.string (bs nm),.string (bs t)] 9 (0,0))->Calls Tryz.prog 22 #[.slice (some ⟨b,0,none⟩) 3 3] W fun e w'=>e= .returned (.string (bs s))/\Kept W w':=fun W b hW hb=>Nk b [[114,97,116,101],nm,t] s (HAG.out _ _ (HT5.out.keep hW)) hT hb (by simp) g2
    have hwr:∀ W,Kept V5 W->Calls Tryz.prog 21 #[.pointer (some ⟨W1.heap.size,0,none⟩),.string (bs s)] W fun e w'=>e= .returned (.tuple #[.int .i64 s.length,.nilIface])/\TxS W1.heap.size W1 (acc++s) w'/\∀ k cs T,W.heap[k]? =some (.cells cs T (0,0))->k≠W1.heap.size->T≠5->w'.heap[k]? =some (.cells cs T (0,0)):=fun W hW=>(HT5.out.keep hW).write s g3
    obtain⟨k0,k1,k2⟩:=Wn hp5
    clear c0 c1 c2 g1 g2 g3
    go_region_held3 (fun W=>W.cell? ⟨wr.heap.size,0,none⟩=some (.string (bs nm))/\W.cell? ⟨wr.heap.size,1,none⟩=some (.int .i64 d1)/\W.cell? ⟨wr.heap.size,2,none⟩=some (.int .i64 d2))
     ((refine And.intro ?_ (And.intro ?_ ?_))<;>(repeat (first | with_reducible assumption | with_reducible refine bf ?_ | with_reducible refine bD ?_)))
     (first
       | (go_at_fn 23;refine (hto _ (by exact⟨afq _,rfl,rfl,fun _ _=>rfl⟩)).mono ?_;rintro e W6 ⟨rfl,hk6'⟩;have hk6:Kept V5 W6:=⟨hk6'.size,hk6'.os,hk6'.output,hk6'.block⟩;clear hk6';obtain⟨y0,y1,y2⟩:=Wn ((hk6.block _ (aB hp5)).trans hp5))
       | (go_at_fn 22;refine (hjo _ W6.heap.size (by exact hk6.trans (bA W6 _).2) (by exact heap_alloc_new W6 _)).mono ?_;rintro e W7 ⟨rfl,hk7'⟩;have hk7:Kept V5 W7:=Gx hk6 hk7'.size hk7'.os hk7'.output hk7'.block;clear hk7';obtain⟨u0,u1,u2⟩:=Wn ((hk7.block _ (aB hp5)).trans hp5))
       | (go_at_fn 21;refine (hwr _ (by exact⟨hk7.size,hk7.os,hk7.output,hk7.block⟩)).mono ?_;rintro e W8 ⟨rfl,hT8,hst⟩;have hx8:=hst _ _ _ ((hk7.block _ (aB hp5)).trans hp5) hVB (by decide);obtain⟨z0,z1,z2⟩:=Wn hx8))
    have HT8:Aside _:=hT8
    clear hT8 hst hx8 hto hjo hwr k0 k1 k2 y0 y1 y2 u0 u1 u2 z0 z1 z2 hk5 hk6 hk7 hp5
    go_wp2
    go_roundg (rn - (i+1))
    case measure=>omega
    case rel=>exact⟨i+1,acc++s,by go_num,by omega,afq _,HG4.out,HT8.out⟩
   ·skip
    have hltz:¬ (i:Int)<(rn:Int):=by omega
    have hP:=HPi.out
    rw[ad2 (by rw[<- HNR.out];omega),pK] at hP
    have hout:acc=b1:=Option.some.inj hP
    subst hout
    clear hP hlt
    obtain⟨⟨_,_,_,_,_,_,_,p7,_⟩,_⟩:=ez (HBOX.out _ _ HBi.out)
    go_wp2
    go_loopg [61] ln (fun g s wr=>∃ (j:Nat) (acd:List UInt8),s= .int .i64 (j:Int)/\j<=ln/\ln - j<=g/\Aside (pF acd (L.drop j)=some b2)/\Aside (TxS W1.heap.size W1 acd wr))
    case atStart=>exact⟨0,acc,rfl,afI _,afq _,HR2.out,HBi.out⟩
    case round=>
     obtain⟨j,acd,rfl,hij,hgj,HPj,HBj⟩:=hrel
     clear p7
     by_cases hlt:j<ln
     ·skip
      have hltz:(j:Int)<(ln:Int):=by omega
      have hi0:(0:Int)<=(j:Int):=by omega
      obtain⟨p,hp,hd2⟩:=drop_at HNL.out hlt
      obtain⟨pb,off,cap0,xav,xnn,xkk,hve,hvx,hcell⟩:=ab2 HL.out (HAG.out _ _ HBj.out) hp
      have eav:la=some ⟨pb,off,none⟩:=by cases hve;rfl
      subst eav
      obtain⟨no,lno,art,⟨d1,d2⟩,un,⟨d3,d4⟩,per,ex,rt⟩:=p
      have hP:=HPj.out
      rw[hd2] at hP
      obtain⟨m1,m2,f1,f2,m3,s,bx,g1,g2,g3,g4,g5,g6,g7,g8,g9⟩:=UK hP
      dsimp only at g1 g2 g3 g4 g5 g6 g8
      have c0:wr.cell? ⟨pb,off+j*11,none⟩=some (.int .i64 no):=hcell 0 _ rfl
      have c1:wr.cell? ⟨pb,off+j*11+1,none⟩=some (.int .i64 lno):=hcell 1 _ rfl
      have c2:wr.cell? ⟨pb,off+j*11+2,none⟩=some (.string (bs art)):=hcell 2 _ rfl
      have c3:wr.cell? ⟨pb,off+j*11+3,none⟩=some (.int .i64 d1):=hcell 3 _ rfl
      have c4:wr.cell? ⟨pb,off+j*11+4,none⟩=some (.int .i64 d2):=hcell 4 _ rfl
      have c5:wr.cell? ⟨pb,off+j*11+5,none⟩=some (.string (bs un)):=hcell 5 _ rfl
      have c6:wr.cell? ⟨pb,off+j*11+6,none⟩=some (.int .i64 d3):=hcell 6 _ rfl
      have c7:wr.cell? ⟨pb,off+j*11+7,none⟩=some (.int .i64 d4):=hcell 7 _ rfl
      have c8:wr.cell? ⟨pb,off+j*11+8,none⟩=some (.int .i64 per):=hcell 8 _ rfl
      have c9:wr.cell? ⟨pb,off+j*11+9,none⟩=some (.slice xav xnn xkk):=hcell 9 _ rfl
      have c10:wr.cell? ⟨pb,off+j*11+10,none⟩=some (.string (bs rt)):=hcell 10 _ rfl
      have HG8:Aside _:=g8
      have HG9:Aside _:=g9
      have HVX:Aside (bJ G aY.size (ax G aY) ex (.slice xav xnn xkk)):=hvx
      clear hP hcell hp hd2 hve hlt g8 g9 hvx
      go_wp2
      refine tU (fun W=>W.heap[wr.heap.size]? =some (.cells #[.int .i64 no,.int .i64 lno,.string (bs art),.int .i64 d1,.int .i64 d2,.string (bs un),.int .i64 d3,.int .i64 d4,.int .i64 per,.slice xav xnn xkk,.string (bs rt)] 50 (0,0))/\Kept wr W) ⟨(bA wr _).1,(bA wr _).2⟩ ?_
      intro V5 ⟨hp5,hk5⟩
      have HT5:Aside (TxS W1.heap.size W1 acd V5):=HBj.out.keep hk5
      have hVB:wr.heap.size≠W1.heap.size:=by have:=HBj.out.lt;omega
      have HV1:Aside (W1.heap.size<=V5.heap.size):=afp HT5.out.lt
      have hi1:∀ W,Kept V5 W->Calls Tryz.prog 20 #[.int .i64 no] W fun e w'=>e= .returned (.string (bs m1))/\Kept W w':=fun W hW=>sA no m1 (HAG.out _ _ (HT5.out.keep hW)) hT g1
      have hi2:∀ W,Kept V5 W->Calls Tryz.prog 20 #[.int .i64 lno] W fun e w'=>e= .returned (.string (bs m2))/\Kept W w':=fun W hW=>sA lno m2 (HAG.out _ _ (HT5.out.keep hW)) hT g2
      have hi3:∀ W,Kept V5 W->Calls Tryz.prog 20 #[.int .i64 per] W fun e w'=>e= .returned (.string (bs m3))/\Kept W w':=fun W hW=>sA per m3 (HAG.out _ _ (HT5.out.keep hW)) hT g5
      have hd1:∀ W,Kept V5 W->Calls Tryz.prog 23 #[.agg #[.int .i64 d1,.int .i64 d2]] W fun e w'=>e= .returned (.string (bs f1))/\Kept W w':=fun W hW=>xd (d1,d2) f1 (HAG.out _ _ (HT5.out.keep hW)) hT g3
      have hd2:∀ W,Kept V5 W->Calls Tryz.prog 23 #[.agg #[.int .i64 d3,.int .i64 d4]] W fun e w'=>e= .returned (.string (bs f2))/\Kept W w':=fun W hW=>xd (d3,d4) f2 (HAG.out _ _ (HT5.out.keep hW)) hT g4
      have hjo:∀ (W:World) (b:Nat),Kept V5 W->W.heap[b]? =some (.cells #[.string ⟨#[108,105,110,101]⟩,.string (bs m1),.string (bs m2),.string (bs art),.string (bs f1),.string (bs un),.string (bs f2),.string (bs m3),.string (bs rt)] 9 (0,0))->Calls Tryz.prog 22 #[.slice (some ⟨b,0,none⟩) 9 9] W fun e w'=>e= .returned (.string (bs s))/\Kept W w':=fun W b hW hb=>Nk b [[108,105,110,101],m1,m2,art,f1,un,f2,m3,rt] s (HAG.out _ _ (HT5.out.keep hW)) hT hb (by simp) g6
      have hwr:∀ W,Kept V5 W->Calls Tryz.prog 21 #[.pointer (some ⟨W1.heap.size,0,none⟩),.string (bs s)] W fun e w'=>e= .returned (.tuple #[.int .i64 s.length,.nilIface])/\TxS W1.heap.size W1 (acd++s) w'/\∀ k cs T,W.heap[k]? =some (.cells cs T (0,0))->k≠W1.heap.size->T≠5->w'.heap[k]? =some (.cells cs T (0,0)):=fun W hW=>(HT5.out.keep hW).write s g7
      obtain⟨k0,k1,k2,k3,k4,k5,k6,k7,k8,_,k10⟩:=Cv hp5
      clear c0 c1 c2 c3 c4 c5 c6 c7 c8 c9 c10 g1 g2 g3 g4 g5 g6 g7
      refine wp_region_noPanic ?_
      refine Of (n:=24) (S:=fun W=>W.cell? ⟨wr.heap.size,0,none⟩=some (.int .i64 no)/\W.cell? ⟨wr.heap.size,1,none⟩=some (.int .i64 lno)/\W.cell? ⟨wr.heap.size,2,none⟩=some (.string (bs art))/\W.cell? ⟨wr.heap.size,3,none⟩=some (.int .i64 d1)/\W.cell? ⟨wr.heap.size,4,none⟩=some (.int .i64 d2)/\W.cell? ⟨wr.heap.size,5,none⟩=some (.string (bs un))/\W.cell? ⟨wr.heap.size,6,none⟩=some (.int .i64 d3)/\W.cell? ⟨wr.heap.size,7,none⟩=some (.int .i64 d4)/\W.cell? ⟨wr.heap.size,8,none⟩=some (.int .i64 per)/\W.cell? ⟨wr.heap.size,10,none⟩=some (.string (bs rt))) mixed rfl ?_ (fun hHeld=> ?_)
      ·(try dsimp only);((refine And.intro ?_ (And.intro ?_ (And.intro ?_ (And.intro ?_ (And.intro ?_ (And.intro ?_ (And.intro ?_ (And.intro ?_ (And.intro ?_ ?_)))))))))<;>(repeat (first | with_reducible assumption | with_reducible refine bf ?_ | with_reducible refine bD ?_)))
      refine tk 0 ?_
      refine tk 1 ?_
      refine tk 3 ?_
      refine tk 4 ?_
      refine tk 6 ?_
      refine tk 7 ?_
      refine tk 8 ?_
      refine tk 9 ?_
      refine tk 11 ?_
      refine tk 12 ?_
      refine tk 13 ?_
      refine tk 14 ?_
      refine tk 16 ?_
      refine tk 17 ?_
      refine tk 19 ?_
      refine tk 20 ?_
      refine dI (i:=2) rfl (by kernel_rfl) (fun K hK=> ?_)
      go_simp
      (go_at_fn 20;refine (hi1 _ (by exact⟨afq _,rfl,rfl,fun _ _=>rfl⟩)).mono ?_;rintro e W6 ⟨rfl,hk6'⟩;have hk6:Kept V5 W6:=⟨hk6'.size,hk6'.os,hk6'.output,hk6'.block⟩;clear hk6';obtain⟨y0,y1,y2,y3,y4,y5,y6,y7,y8,_,y10⟩:=Cv ((hk6.block _ (aB hp5)).trans hp5))
      refine hK.out _ _ ?_ (fun hHeld=> ?_)
      ·(try dsimp only);((refine And.intro ?_ (And.intro ?_ (And.intro ?_ (And.intro ?_ (And.intro ?_ (And.intro ?_ (And.intro ?_ (And.intro ?_ (And.intro ?_ ?_)))))))))<;>(repeat (first | with_reducible assumption | with_reducible refine bf ?_ | with_reducible refine bD ?_)))
      clear hK K
      try simp only[Act.put,ae5,ae7,ae6]
      refine dI (i:=5) rfl (by kernel_rfl) (fun K hK=> ?_)
      go_simp
      (go_at_fn 20;refine (hi2 _ (by exact hk6)).mono ?_;rintro e W7 ⟨rfl,hk7'⟩;have hk7:Kept V5 W7:=hk6.trans ⟨hk7'.size,hk7'.os,hk7'.output,hk7'.block⟩;clear hk7';obtain⟨u0,u1,u2,u3,u4,u5,u6,u7,u8,_,u10⟩:=Cv ((hk7.block _ (aB hp5)).trans hp5))
      refine hK.out _ _ ?_ (fun hHeld=> ?_)
      ·(try dsimp only);((refine And.intro ?_ (And.intro ?_ (And.intro ?_ (And.intro ?_ (And.intro ?_ (And.intro ?_ (And.intro ?_ (And.intro ?_ (And.intro ?_ ?_)))))))))<;>(repeat (first | with_reducible assumption | with_reducible refine bf ?_ | with_reducible refine bD ?_)))
      clear hK K
      try simp only[Act.put,ae5,ae7,ae6]
      refine dI (i:=10) rfl (by kernel_rfl) (fun K hK=> ?_)
      go_simp
      (go_at_fn 23;refine (hd1 _ (by exact hk7)).mono ?_;rintro e W8 ⟨rfl,hk8'⟩;have hk8:Kept V5 W8:=hk7.trans ⟨hk8'.size,hk8'.os,hk8'.output,hk8'.block⟩;clear hk8';obtain⟨v0,v1,v2,v3,v4,v5,v6,v7,v8,_,v10⟩:=Cv ((hk8.block _ (aB hp5)).trans hp5))
      refine hK.out _ _ ?_ (fun hHeld=> ?_)
      ·(try dsimp only);((refine And.intro ?_ (And.intro ?_ (And.intro ?_ (And.intro ?_ (And.intro ?_ (And.intro ?_ (And.intro ?_ (And.intro ?_ (And.intro ?_ ?_)))))))))<;>(repeat (first | with_reducible assumption | with_reducible refine bf ?_ | with_reducible refine bD ?_)))
      clear hK K
      try simp only[Act.put,ae5,ae7,ae6]
      refine dI (i:=15) rfl (by kernel_rfl) (fun K hK=> ?_)
      go_simp
      (go_at_fn 23;refine (hd2 _ (by exact hk8)).mono ?_;rintro e W9' ⟨rfl,hk9'⟩;have hk9:Kept V5 W9':=hk8.trans ⟨hk9'.size,hk9'.os,hk9'.output,hk9'.block⟩;clear hk9';obtain⟨r0,r1,r2,r3,r4,r5,r6,r7,r8,_,r10⟩:=Cv ((hk9.block _ (aB hp5)).trans hp5))
      refine hK.out _ _ ?_ (fun hHeld=> ?_)
      ·(try dsimp only);((refine And.intro ?_ (And.intro ?_ (And.intro ?_ (And.intro ?_ (And.intro ?_ (And.intro ?_ (And.intro ?_ (And.intro ?_ (And.intro ?_ ?_)))))))))<;>(repeat (first | with_reducible assumption | with_reducible refine bf ?_ | with_reducible refine bD ?_)))
      clear hK K
      try simp only[Act.put,ae5,ae7,ae6]
      refine dI (i:=18) rfl (by kernel_rfl) (fun K hK=> ?_)
      go_simp
      (go_at_fn 20;refine (hi3 _ (by exact hk9)).mono ?_;rintro e W10 ⟨rfl,hk10'⟩;have hk10:Kept V5 W10:=hk9.trans ⟨hk10'.size,hk10'.os,hk10'.output,hk10'.block⟩;clear hk10';obtain⟨t0,t1,t2,t3,t4,t5,t6,t7,t8,_,t10⟩:=Cv ((hk10.block _ (aB hp5)).trans hp5))
      refine hK.out _ _ ?_ (fun hHeld=> ?_)
      ·(try dsimp only);((refine And.intro ?_ (And.intro ?_ (And.intro ?_ (And.intro ?_ (And.intro ?_ (And.intro ?_ (And.intro ?_ (And.intro ?_ (And.intro ?_ ?_)))))))))<;>(repeat (first | with_reducible assumption | with_reducible refine bf ?_ | with_reducible refine bD ?_)))
      clear hK K
      try simp only[Act.put,ae5,ae7,ae6]
      refine dI (i:=21) rfl (by kernel_rfl) (fun K hK=> ?_)
      go_simp
      refine hK.out _ _ ?_ (fun hHeld=> ?_)
      ·(try dsimp only);((refine And.intro ?_ (And.intro ?_ (And.intro ?_ (And.intro ?_ (And.intro ?_ (And.intro ?_ (And.intro ?_ (And.intro ?_ (And.intro ?_ ?_)))))))))<;>(repeat (first | with_reducible assumption | with_reducible refine bf ?_ | with_reducible refine bD ?_)))
      clear hK K
      try simp only[Act.put,ae5,ae7,ae6]
      refine dI (i:=22) rfl (by kernel_rfl) (fun K hK=> ?_)
      go_simp
      (go_at_fn 22;refine (hjo _ W10.heap.size (by exact hk10.trans (bA W10 _).2) (by exact heap_alloc_new W10 _)).mono ?_;rintro e W11' ⟨rfl,hk11'⟩;have hk11:Kept V5 W11':=Gx hk10 hk11'.size hk11'.os hk11'.output hk11'.block;clear hk11';obtain⟨o0,o1,o2,o3,o4,o5,o6,o7,o8,_,o10⟩:=Cv ((hk11.block _ (aB hp5)).trans hp5))
      refine hK.out _ _ ?_ (fun hHeld=> ?_)
      ·(try dsimp only);((refine And.intro ?_ (And.intro ?_ (And.intro ?_ (And.intro ?_ (And.intro ?_ (And.intro ?_ (And.intro ?_ (And.intro ?_ (And.intro ?_ ?_)))))))))<;>(repeat (first | with_reducible assumption | with_reducible refine bf ?_ | with_reducible refine bD ?_)))
      clear hK K
      try simp only[Act.put,ae5,ae7,ae6]
      refine dI (i:=23) rfl (by kernel_rfl) (fun K hK=> ?_)
      go_simp
      (go_at_fn 21;refine (hwr _ (by exact⟨hk11.size,hk11.os,hk11.output,hk11.block⟩)).mono ?_;rintro e W13 ⟨rfl,hT13,hst⟩;have hx8:=hst _ _ _ ((hk11.block _ (aB hp5)).trans hp5) hVB (by decide);obtain⟨z0,z1,z2,z3,z4,z5,z6,z7,z8,z9,z10⟩:=Cv hx8)
      refine hK.out _ _ ?_ (fun hHeld=> ?_)
      ·(try dsimp only);((refine And.intro ?_ (And.intro ?_ (And.intro ?_ (And.intro ?_ (And.intro ?_ (And.intro ?_ (And.intro ?_ (And.intro ?_ (And.intro ?_ ?_)))))))))<;>(repeat (first | with_reducible assumption | with_reducible refine bf ?_ | with_reducible refine bD ?_)))
      clear hK K
      try simp only[Act.put,ae5,ae7,ae6]
      refine wpAnyH_done (by kernel_rfl) (NoPanic.normal ?_) _
      obtain⟨hnx,hmx⟩:=NS (t:=aY) HVX.out
      have HNE:Aside (xnn=ex.length):=hnx
      have HT13:Aside _:=hT13
      clear hT13 hst hx8 hi1 hi2 hi3 hd1 hd2 hjo hwr hk5 hk6 hk7 hk8 hk9 hk10 hk11 hp5 hnx hHeld k0 k1 k2 k3 k4 k5 k6 k7 k8 k10 y0 y1 y2 y3 y4 y5 y6 y7 y8 y10 u0 u1 u2 u3 u4 u5 u6 u7 u8 u10 v0 v1 v2 v3 v4 v5 v6 v7 v8 v10 r0 r1 r2 r3 r4 r5 r6 r7 r8 r10 t0 t1 t2 t3 t4 t5 t6 t7 t8 t10 o0 o1 o2 o3 o4 o5 o6 o7 o8 o10 z0 z1 z2 z3 z4 z5 z6 z7 z8 z10
      go_wp2
      go_loopg [92] xnn (fun g s wr=>∃ (q:Nat) (ace:List UInt8),s= .int .i64 (q:Int)/\q<=xnn/\xnn - q<=g/\Aside (uy ace (ex.drop q)=some bx)/\Aside (TxS W1.heap.size W1 ace wr))
      case atStart=>exact⟨0,acd++s,rfl,afI _,afq _,HG8.out,HT13.out⟩
      case round=>
       obtain⟨q,ace,rfl,hiq,hgq,HPq,HBq⟩:=hrel
       by_cases hlt:q<xnn
       ·skip
        have hltz:(q:Int)<(xnn:Int):=by omega
        have hi0:(0:Int)<=(q:Int):=by omega
        obtain⟨p,hp,hd2⟩:=drop_at HNE.out hlt
        obtain⟨pb,off,cap0,hve,hcell⟩:=Yo HVX.out (HAG.out _ _ HBq.out) hp
        have eav:xav=some ⟨pb,off,none⟩:=by cases hve;rfl
        subst eav
        obtain⟨pe,⟨d5,d6⟩,rx⟩:=p
        have hP:=HPq.out
        rw[hd2] at hP
        obtain⟨t,s',h1,h2,h3,h4⟩:=WD hP
        dsimp only at h1 h2
        have c0:wr.cell? ⟨pb,off+q*4,none⟩=some (.bool pe):=hcell 0 _ rfl
        have c1:wr.cell? ⟨pb,off+q*4+1,none⟩=some (.int .i64 d5):=hcell 1 _ rfl
        have c2:wr.cell? ⟨pb,off+q*4+2,none⟩=some (.int .i64 d6):=hcell 2 _ rfl
        have c3:wr.cell? ⟨pb,off+q*4+3,none⟩=some (.string (bs rx)):=hcell 3 _ rfl
        have HG4:Aside _:=h4
        clear hP hcell hp hd2 hve hlt h4
        go_wp2
        refine tU (fun W=>W.heap[wr.heap.size]? =some (.cells #[.bool pe,.int .i64 d5,.int .i64 d6,.string (bs rx)] 53 (0,0))/\Kept wr W) ⟨(bA wr _).1,(bA wr _).2⟩ ?_
        intro V5 ⟨hp5,hk5⟩
        have HT5:Aside (TxS W1.heap.size W1 ace V5):=HBq.out.keep hk5
        have hVB:wr.heap.size≠W1.heap.size:=by have:=HBq.out.lt;omega
        have HV1:Aside (W1.heap.size<=V5.heap.size):=afp HT5.out.lt
        have hto:∀ W,Kept V5 W->Calls Tryz.prog 23 #[.agg #[.int .i64 d5,.int .i64 d6]] W fun e w'=>e= .returned (.string (bs t))/\Kept W w':=fun W hW=>xd (d5,d6) t (HAG.out _ _ (HT5.out.keep hW)) hT h1
        have hxt:∀ (W:World) (b:Nat),Kept V5 W->W1.heap.size<=b->W.heap[b]? =some (.cells #[.string ⟨#[101,120,116,114,97]⟩,.string (bs t)] 9 (0,0))->Calls Tryz.prog 24 #[.agg #[.bool pe,.int .i64 d5,.int .i64 d6,.string (bs rx)],.slice (some ⟨b,0,none⟩) 2 2] W fun e w'=>e= .returned (.string (bs s'))/\KB b W w':=fun W b hW hB hb=>KG G W pe d5 d6 rx b [[101,120,116,114,97],t] s' 2 rfl (HAG.out _ _ (HT5.out.keep hW)) hT (fun k o hk=>aft (HGL.out k o hk) hB) hb (by decide) (by decide) h2
        have hwr:∀ W,Kept V5 W->Calls Tryz.prog 21 #[.pointer (some ⟨W1.heap.size,0,none⟩),.string (bs s')] W fun e w'=>e= .returned (.tuple #[.int .i64 s'.length,.nilIface])/\TxS W1.heap.size W1 (ace++s') w'/\∀ k cs T,W.heap[k]? =some (.cells cs T (0,0))->k≠W1.heap.size->T≠5->w'.heap[k]? =some (.cells cs T (0,0)):=fun W hW=>(HT5.out.keep hW).write s' h3
        obtain⟨⟨k0,k1,k2,k3⟩,_⟩:=s7 hp5
        clear c0 c1 c2 c3 h1 h2 h3
        go_region_held3 (fun W=>W.cell? ⟨wr.heap.size,0,none⟩=some (.bool pe)/\W.cell? ⟨wr.heap.size,1,none⟩=some (.int .i64 d5)/\W.cell? ⟨wr.heap.size,2,none⟩=some (.int .i64 d6)/\W.cell? ⟨wr.heap.size,3,none⟩=some (.string (bs rx)))
         ((refine And.intro ?_ (And.intro ?_ (And.intro ?_ ?_)))<;>(repeat (first | with_reducible assumption | with_reducible refine bf ?_ | with_reducible refine bD ?_)))
         (first
           | (go_at_fn 23;refine (hto _ (by exact⟨afq _,rfl,rfl,fun _ _=>rfl⟩)).mono ?_;rintro e W6 ⟨rfl,hk6'⟩;have hk6:Kept V5 W6:=⟨hk6'.size,hk6'.os,hk6'.output,hk6'.block⟩;clear hk6';obtain⟨⟨y0,y1,y2,y3⟩,_⟩:=s7 ((hk6.block _ (aB hp5)).trans hp5))
           | (go_at_fn 24;refine (hxt _ W6.heap.size (by exact hk6.trans (bA W6 _).2) (afs HV1.out hk6.size) (by exact heap_alloc_new W6 _)).mono ?_;rintro e W14 ⟨rfl,hk14'⟩;have hk14:Kept V5 W14:=Nl hk6 hk14'.size hk14'.os hk14'.output hk14'.block;clear hk14';obtain⟨⟨u0,u1,u2,u3⟩,_⟩:=s7 ((hk14.block _ (aB hp5)).trans hp5))
           | (go_at_fn 21;refine (hwr _ (by exact⟨hk14.size,hk14.os,hk14.output,hk14.block⟩)).mono ?_;rintro e W15 ⟨rfl,hT15,hst⟩;have hx8:=hst _ _ _ ((hk14.block _ (aB hp5)).trans hp5) hVB (by decide);obtain⟨⟨z0,z1,z2,z3⟩,_⟩:=s7 hx8))
        have HT15:Aside _:=hT15
        clear hT15 hst hx8 hto hxt hwr hk5 hk6 hk14 hp5 k0 k1 k2 k3 y0 y1 y2 y3 u0 u1 u2 u3 z0 z1 z2 z3
        go_wp2
        go_roundg (xnn - (q+1))
        case measure=>omega
        case rel=>exact⟨q+1,ace++s',by go_num,by omega,afq _,HG4.out,HT15.out⟩
       ·skip
        have hltz:¬ (q:Int)<(xnn:Int):=by omega
        have hP:=HPq.out
        rw[ad2 (by rw[<- HNE.out];omega),uy] at hP
        have hout:ace=bx:=Option.some.inj hP
        subst hout
        clear hP hlt
        go_wp2
        go_roundg (ln - (j+1))
        case measure=>omega
        case rel=>exact⟨j+1,ace,by go_num,by omega,afq _,HG9.out,HBq.out⟩
     ·skip
      have hltz:¬ (j:Int)<(ln:Int):=by omega
      have hP:=HPj.out
      rw[ad2 (by rw[<- HNL.out];omega),pF] at hP
      have hout:acd=b2:=Option.some.inj hP
      subst hout
      clear hP hlt
      obtain⟨⟨_,_,_,_,_,_,_,_,p8⟩,_⟩:=ez (HBOX.out _ _ HBj.out)
      go_wp2
      go_loopg [108] xn (fun g s wr=>∃ (m:Nat) (acf:List UInt8),s= .int .i64 (m:Int)/\m<=xn/\xn - m<=g/\Aside (ur acf (X.drop m)=some b3)/\Aside (TxS W1.heap.size W1 acf wr))
      case atStart=>exact⟨0,acd,rfl,afI _,afq _,HR3.out,HBj.out⟩
      case round=>
       obtain⟨m,acf,rfl,him,hgm,HPm,HBm⟩:=hrel
       clear p8
       by_cases hlt:m<xn
       ·skip
        have hltz:(m:Int)<(xn:Int):=by omega
        have hi0:(0:Int)<=(m:Int):=by omega
        obtain⟨p,hp,hd2⟩:=drop_at HNX.out hlt
        obtain⟨pb,off,cap0,hve,hcell⟩:=Yo HX.out (HAG.out _ _ HBm.out) hp
        have eav:xa=some ⟨pb,off,none⟩:=by cases hve;rfl
        subst eav
        obtain⟨pe,⟨d5,d6⟩,rx⟩:=p
        have hP:=HPm.out
        rw[hd2] at hP
        obtain⟨t,dx,s',h1,h2,h3,h4,h5⟩:=Wg hP
        dsimp only at h1 h2 h3
        have c0:wr.cell? ⟨pb,off+m*4,none⟩=some (.bool pe):=hcell 0 _ rfl
        have c1:wr.cell? ⟨pb,off+m*4+1,none⟩=some (.int .i64 d5):=hcell 1 _ rfl
        have c2:wr.cell? ⟨pb,off+m*4+2,none⟩=some (.int .i64 d6):=hcell 2 _ rfl
        have c3:wr.cell? ⟨pb,off+m*4+3,none⟩=some (.string (bs rx)):=hcell 3 _ rfl
        have HG4:Aside _:=h5
        clear hP hcell hp hd2 hve hlt h5
        go_wp2
        refine tU (fun W=>W.heap[wr.heap.size]? =some (.cells #[.bool pe,.int .i64 d5,.int .i64 d6,.string (bs rx)] 53 (0,0))/\Kept wr W) ⟨(bA wr _).1,(bA wr _).2⟩ ?_
        intro V5 ⟨hp5,hk5⟩
        have HT5:Aside (TxS W1.heap.size W1 acf V5):=HBm.out.keep hk5
        have hVB:wr.heap.size≠W1.heap.size:=by have:=HBm.out.lt;omega
        have HV1:Aside (W1.heap.size<=V5.heap.size):=afp HT5.out.lt
        have hto:∀ W,Kept V5 W->Calls Tryz.prog 23 #[.agg #[.int .i64 d5,.int .i64 d6]] W fun e w'=>e= .returned (.string (bs t))/\Kept W w':=fun W hW=>xd (d5,d6) t (HAG.out _ _ (HT5.out.keep hW)) hT h1
        have hda:∀ W,Kept V5 W->Calls Tryz.prog 25 #[.string (bs rx)] W fun e w'=>e= .returned (.string (bs dx))/\Kept W w':=fun W hW=>Wx rx dx (HAG.out _ _ (HT5.out.keep hW)) hT h2
        have hxt:∀ (W:World) (b:Nat),Kept V5 W->W1.heap.size<=b->W.heap[b]? =some (.cells #[.string ⟨#[97,108,108]⟩,.string (bs t),.string (bs dx)] 9 (0,0))->Calls Tryz.prog 24 #[.agg #[.bool pe,.int .i64 d5,.int .i64 d6,.string (bs rx)],.slice (some ⟨b,0,none⟩) 3 3] W fun e w'=>e= .returned (.string (bs s'))/\KB b W w':=fun W b hW hB hb=>KG G W pe d5 d6 rx b [[97,108,108],t,dx] s' 3 rfl (HAG.out _ _ (HT5.out.keep hW)) hT (fun k o hk=>aft (HGL.out k o hk) hB) hb (by decide) (by decide) h3
        have hwr:∀ W,Kept V5 W->Calls Tryz.prog 21 #[.pointer (some ⟨W1.heap.size,0,none⟩),.string (bs s')] W fun e w'=>e= .returned (.tuple #[.int .i64 s'.length,.nilIface])/\TxS W1.heap.size W1 (acf++s') w'/\∀ k cs T,W.heap[k]? =some (.cells cs T (0,0))->k≠W1.heap.size->T≠5->w'.heap[k]? =some (.cells cs T (0,0)):=fun W hW=>(HT5.out.keep hW).write s' h4
        obtain⟨⟨k0,k1,k2,k3⟩,_⟩:=s7 hp5
        clear c0 c1 c2 c3 h1 h2 h3 h4
        go_region_held3 (fun W=>W.cell? ⟨wr.heap.size,0,none⟩=some (.bool pe)/\W.cell? ⟨wr.heap.size,1,none⟩=some (.int .i64 d5)/\W.cell? ⟨wr.heap.size,2,none⟩=some (.int .i64 d6)/\W.cell? ⟨wr.heap.size,3,none⟩=some (.string (bs rx)))
         ((refine And.intro ?_ (And.intro ?_ (And.intro ?_ ?_)))<;>(repeat (first | with_reducible assumption | with_reducible refine bf ?_ | with_reducible refine bD ?_)))
         (first
           | (go_at_fn 23;refine (hto _ (by exact⟨afq _,rfl,rfl,fun _ _=>rfl⟩)).mono ?_;rintro e W6 ⟨rfl,hk6'⟩;have hk6:Kept V5 W6:=⟨hk6'.size,hk6'.os,hk6'.output,hk6'.block⟩;clear hk6';obtain⟨⟨y0,y1,y2,y3⟩,_⟩:=s7 ((hk6.block _ (aB hp5)).trans hp5))
           | (go_at_fn 25;refine (hda _ (by exact hk6)).mono ?_;rintro e W7 ⟨rfl,hk7'⟩;have hk7:Kept V5 W7:=hk6.trans ⟨hk7'.size,hk7'.os,hk7'.output,hk7'.block⟩;clear hk7';obtain⟨⟨v0,v1,v2,v3⟩,_⟩:=s7 ((hk7.block _ (aB hp5)).trans hp5))
           | (go_at_fn 24;refine (hxt _ W7.heap.size (by exact hk7.trans (bA W7 _).2) (afs HV1.out hk7.size) (by exact heap_alloc_new W7 _)).mono ?_;rintro e W14 ⟨rfl,hk14'⟩;have hk14:Kept V5 W14:=Nl hk7 hk14'.size hk14'.os hk14'.output hk14'.block;clear hk14';obtain⟨⟨u0,u1,u2,u3⟩,_⟩:=s7 ((hk14.block _ (aB hp5)).trans hp5))
           | (go_at_fn 21;refine (hwr _ (by exact⟨hk14.size,hk14.os,hk14.output,hk14.block⟩)).mono ?_;rintro e W15 ⟨rfl,hT15,hst⟩;have hx8:=hst _ _ _ ((hk14.block _ (aB hp5)).trans hp5) hVB (by decide);obtain⟨⟨z0,z1,z2,z3⟩,_⟩:=s7 hx8))
        have HT15:Aside _:=hT15
        clear hT15 hst hx8 hto hxt hwr hk5 hk6 hk14 hp5 k0 k1 k2 k3 y0 y1 y2 y3 u0 u1 u2 u3 z0 z1 z2 z3 v0 v1 v2 v3 hda hk7
        go_wp2
        go_roundg (xn - (m+1))
        case measure=>omega
        case rel=>exact⟨m+1,acf++s',by go_num,by omega,afq _,HG4.out,HT15.out⟩
       ·skip
        have hltz:¬ (m:Int)<(xn:Int):=by omega
        have hP:=HPm.out
        rw[ad2 (by rw[<- HNX.out];omega),ur] at hP
        have hout:acf=b3:=Option.some.inj hP
        subst hout
        clear hP hlt
        have hlc:∀ W,Kept wr W->Calls Tryz.prog 26 #[.pointer (some ⟨W1.heap.size,0,none⟩)] W fun e w'=>e= .returned (.int .i64 acf.length)/\w'=W:=fun W hW=>by
         have h:=YL _ _ _ W (HBm.out.keep hW).bld
         rw[Lib.byteCells_length] at h
         exact h
        have hst:∀ W,Kept wr W->Calls Tryz.prog 27 #[.pointer (some ⟨W1.heap.size,0,none⟩)] W fun e w'=>e= .returned (.string (bs acf))/\RowKit.Below W1.heap.size W w':=fun W hW=>TI _ _ acf W (HBm.out.keep hW).bld (afp (HBm.out.keep hW).lt)
        have hkw:=HKW.out _ _ HBm.out
        have HKWM:Aside _:=hkw
        have HW1:Aside (w.heap.size<=W1.heap.size):=afp hNB
        clear hkw
        by_cases hbig:(acf.length:Int)>300000
        ·have hb1:(300000:Int)<(acf.length:Int):=hbig
         go_wp2_with (go_at_fn 26;refine (hlc _ (by exact⟨afq _,rfl,rfl,fun _ _=>rfl⟩)).mono ?_;rintro e W10 ⟨rfl,rfl⟩)
         go_ret2
         exact⟨by rw[af0 hbig,afX];rfl,HKWM.out⟩
        ·have hb1:¬ (300000:Int)<(acf.length:Int):=hbig
         have HBG:Aside (¬ (acf.length:Int)>300000):=hbig
         clear hbig
         go_wp2_with (first | (go_at_fn 26;refine (hlc _ (by exact⟨afq _,rfl,rfl,fun _ _=>rfl⟩)).mono ?_;rintro e W10 ⟨rfl,rfl⟩) | (go_at_fn 27;refine (hst _ (by exact⟨afq _,rfl,rfl,fun _ _=>rfl⟩)).mono ?_;rintro e W11 ⟨rfl,hbel⟩))
         go_ret2
         exact⟨by rw[afZ (by have:=HBG.out;omega),afW];rfl,afs HKWM.out.size hbel.size,hbel.os.trans HKWM.out.os,hbel.output.trans HKWM.out.output,fun k hk=>(hbel.block k (aft hk HW1.out)).trans (HKWM.out.block k hk)⟩
end Go.Proofs.SeatU
set_option maxRecDepth 100000
namespace Go.Proofs.SeatU
open Go.Dn Go.Md Go.Proofs Go.RowKit Go.Shelf Go.Lib
def Wc (G:Gh) (w:World) (a:ai) (n f:Int) (e:Ending) (w':World):Prop:=
 ∃ vr vl ve,e= .returned (.tuple #[.agg (Ai a vr vl ve).toArray,.int .i64 n,.int .i64 f])/\Kept w w'/\Bi (frz w.heap.size G w') a vr vl ve
theorem FK {G:Gh} {w w':World} {n f:Int} {e:Ending} (he:e= .returned (.tuple #[.agg jH,.int .i64 n,.int .i64 f])) (hk:Kept w w'):Wc G w zI n f e w':=
 ⟨.slice none 0 0,.slice none 0 0,.slice none 0 0,he,hk,⟨none,0,rfl,afq _,by decide,.inl rfl⟩,⟨none,0,rfl,afq _,by decide,.inl rfl⟩,⟨none,0,rfl,afq _,by decide,.inl rfl⟩⟩
theorem UR {G:Gh} {w:World} (t:List UInt8) (a:ai) (n f:Int) (hG:Agr G w) (hT:bZ Tryz.prog G) (hm:vw t=some (a,n,f,())):Calls Tryz.prog 5 #[.string (bs t)] w fun e w'=>Wc G w a n f e w':=by
 unfold vw at hm
 by_cases hl:(300000:Int)<(t.length:Int)
 ·rw[af0 hl,afX] at hm
  cases hm
  exact (Xz w t hl).mono fun e w' ⟨h1,h2⟩=>FK h1 h2
 ·rw[afZ hl,afW] at hm
  obtain⟨Ls,e0,hL,_,_,h1,h2,_⟩:=Iz t (by omega)
  rw[hL,afJ] at hm
  dsimp only at hm
  cases hLs:Ls.isEmpty with
  | true=>
   have:Ls=[]:=by simpa using hLs
   subst this
   rw[hLs,afX] at hm
   cases hm
   exact (Zr G w t e0 hG hT hl hL).mono fun e w' ⟨h1,h2⟩=>FK h1 h2
  | false=>
   rw[hLs,afW] at hm
   have hne:Ls≠[]:=fun h=>by rw[h] at hLs;cases hLs
   obtain⟨o,ho⟩:∃ o,mY e0 Ls 0 zI=o:=⟨_,rfl⟩
   rw[ho] at hm
   cases o with
   | inr k=>
    dsimp only at hm
    cases hm
    refine (Qs G w t Ls e0 0 hG hT hl hL hne (by omega) h2 (fun a ha=>by rw[ho] at ha;cases ha)).mono ?_
    rintro e w' ⟨hk,⟨k',hk',he⟩ | ⟨a,ha,_⟩⟩
    ·rw[ho] at hk';cases hk'
     exact FK he hk
    ·rw[ho] at ha;cases ha
   | inl b=>
    dsimp only at hm
    cases hq:dh b with
    | none=>rw[hq] at hm;cases hm
    | some q=>
     obtain⟨q,u⟩:=q
     rw[hq,afJ] at hm
     dsimp only at hm
     refine (Qs G w t Ls e0 q hG hT hl hL hne (by omega) h2 (fun a ha=>by rw[ho] at ha;cases ha;exact hq)).mono ?_
     rintro e w' ⟨hk,⟨k',hk',he⟩ | ⟨a',ha,hh⟩⟩
     ·rw[ho] at hk';cases hk'
     ·rw[ho] at ha;cases ha
      rcases hh with ⟨hq0,he⟩ | ⟨hq0,vr,vl,ve,he,hv⟩
      ·have hb:(q != 0)=true:=by simpa using hq0
       rw[hb,afX] at hm
       cases hm
       exact FK he hk
      ·subst hq0
       have hm:some (b,(0:Int),(0:Int),())=some (a,n,f,()):=hm
       cases hm
       exact⟨vr,vl,ve,he,hk,hv⟩
theorem UB {P:Program} {f:FuncId} {m:List UInt8->Option (ai×Int×Int×Unit)} (h:∀ {G:Gh} {w:World} (t:List UInt8) (a:ai) (n k:Int),Agr G w->bZ P G->m t=some (a,n,k,())->Calls P f #[.string (bs t)] w fun e w'=>Wc G w a n k e w'): cM P f ⟨[.val .str],[.val b7,.val tI,.val tI],fun x=>m x.1⟩:=by
 intro G w ow args x y hG how ha hm hT
 obtain⟨t,u⟩:=x
 obtain⟨a,n,k,u'⟩:=y
 obtain⟨v,us,h1,_,hv,h3⟩:=ha
 have e1:=h1 rfl
 have e3:us=[]:=h3
 subst e1;subst e3
 have e0:[v]=[Value.string (bs t)]:=hv
 cases e0
 refine (h t a n k hG hT hm).mono ?_
 rintro e w' ⟨vr,vl,ve,he,hk,hr⟩
 refine⟨frz w.heap.size G w',fun _=>none,[.agg (Ai a vr vl ve).toArray,.int .i64 n,.int .i64 k], ?_⟩
 exact {
  ret:=he
  le:=SF hG (afq _)
  agr:=OU fun b hb o ho=>(hk.block b hb).trans (hG b o ho)
  size:=hk.size
  os:=hk.os
  output:=hk.output
  old:=fun i hlt _=>⟨hk.block i hlt,by simp only[frz,af9 hlt]⟩
  own:=fun i j hij=>by cases hij
  out:=⟨_,_,rfl,SQ hr,_,_,rfl,rfl,_,_,rfl,rfl,rfl,trivial⟩
  hnd:=fun _=>rfl }
noncomputable def I9:an:=⟨[.val .str],[.val b7,.val tI,.val tI],fun x=>vw x.1⟩
theorem SM:dZ Tryz.prog 5:=iA (fn:=Tryz.f5) (by kernel_rfl) rfl (by decide)
theorem Tk:cM Tryz.prog 5 I9:=UB fun t a n k hG hT hm=>UR t a n k hG hT hm
end Go.Proofs.SeatU
set_option maxRecDepth 100000
namespace Go.Proofs.SeatU
open Go.Dn Go.Md Go.Proofs Go.RowKit Go.Shelf Go.Lib
theorem aaN (G:Gh) (w:World) (a b:List UInt8) (dy pl wy:Int) (pr:Bool) (R:List ak) (L:List aa) (X:List aj) (ra:Option Addr) (rn rc:Nat) (la:Option Addr) (ln lc:Nat) (xa:Option Addr) (xn xc:Nat) (q:Int) (hR:bJ G bL.size (ax G bL) R (.slice ra rn rc)) (hL:bJ G b9.size (ax G b9) L (.slice la ln lc)) (hX:bJ G aY.size (ax G aY) X (.slice xa xn xc)) (hG:Agr G w) (hT:bZ Tryz.prog G) (hm:dh (a,b,dy,pl,wy,pr,R,L,X)=some (q,())) (hq:q≠0): Calls Tryz.prog 9 #[.agg #[.string (bs a),.string (bs b),.int .i64 dy,.int .i64 pl,.int .i64 wy,.bool pr,.slice ra rn rc,.slice la ln lc,.slice xa xn xc]] w fun e w'=>e= .returned (.tuple #[.string (bs []),.int .i64 q])/\Kept w w':=by
 have e13:∀ args w,(callFunc 13 args).run Tryz.prog w= .ok (.enter 13 args) w:=enters_of Tryz.func13 (by kernel_rfl) rfl
 have mixed:Tryz.prog.follows .mixedOrders=true:=by kernel_rfl
 have late:Tryz.prog.follows .lateStores=true:=by kernel_rfl
 have t3:=Tryz.underlying3;have t4:=Tryz.underlying4;have t9:=Tryz.underlying9;have t22:=Tryz.underlying22;have t23:=Tryz.underlying23;have t24:=Tryz.underlying24;have t26:=Tryz.underlying26;have a26:=Tryz.isAgg26;have z26:=Tryz.sizeOf26;have v26:=Tryz.zeroValue26;have t27:=Tryz.underlying27
 have hb:=bA w (.cells #[.string (bs a),.string (bs b),.int .i64 dy,.int .i64 pl,.int .i64 wy,.bool pr,.slice ra rn rc,.slice la ln lc,.slice xa xn xc] 26)
 have hc:=De (a,b,dy,pl,wy,pr,R,L,X) (.slice ra rn rc) (.slice la ln lc) (.slice xa xn xc) q ⟨hR,hL,hX⟩ (vu hG (.cells #[.string (bs a),.string (bs b),.int .i64 dy,.int .i64 pl,.int .i64 wy,.bool pr,.slice ra rn rc,.slice la ln lc,.slice xa xn xc] 26)) hT hm
 unfold Ai at hc
 dsimp only at hc
 obtain⟨⟨q0,q1,q2,q3,q4,q5,q6,q7,q8⟩,_⟩:=ez hb.1
 have hqb:(q==0)=false:=afT hq
 go_enter Tryz.func9,Tryz.ntmps9
 go_wp2_with (go_at_fn 13;refine hc.mono ?_;rintro e w' ⟨rfl,hk⟩)
 go_ret2
 exact⟨rfl,hb.2.trans hk⟩
theorem XN {G:Gh} {w:World} (v:ai) (vr vl ve:Value) (t:List UInt8) (q:Int) (hv:Bi G v vr vl ve) (hG:Agr G w) (hT:bZ Tryz.prog G) (hm:vz v=some (t,q,())): Calls Tryz.prog 9 #[.agg (Ai v vr vl ve).toArray] w fun e w'=>e= .returned (.tuple #[.string (bs t),.int .i64 q])/\Kept w w':=by
 obtain⟨a,b,dy,pl,wy,pr,R,L,X⟩:=v
 obtain⟨hR,hL,hX⟩:=hv
 obtain⟨ra,rc,rfl,hhR⟩:=id hR
 obtain⟨la,lc,rfl,hhL⟩:=id hL
 obtain⟨xa,xc,rfl,hhX⟩:=id hX
 unfold vz at hm
 cases h1:dh (a,b,dy,pl,wy,pr,R,L,X) with
 | none=>rw[h1] at hm;cases hm
 | some x=>
 obtain⟨q1,u⟩:=x
 rw[h1,afJ] at hm
 dsimp only at hm
 by_cases hq:q1=0
 ·subst hq
  rw[show ((0:Int) != 0)=false from rfl,afW] at hm
  cases g1:strconv_Itoa dy with
  | none=>rw[g1] at hm;cases hm
  | some y1=>
  rw[g1,afJ] at hm
  cases g2:strconv_Itoa pl with
  | none=>rw[g2] at hm;cases hm
  | some y2=>
  rw[g2,afJ] at hm
  cases g3:strconv_Itoa wy with
  | none=>rw[g3] at hm;cases hm
  | some y3=>
  rw[g3,afJ] at hm
  cases g4:cC ([[105,110,118,111,105,99,101],a,b,y1.1,y2.1,y3.1]++oM pr) with
  | none=>rw[g4] at hm;cases hm
  | some z=>
  rw[g4,afJ] at hm
  obtain⟨g5,hm⟩:=dX hm
  have g5:z.1.length<=140737488355328:=age g5
  cases g6:pK z.1 R with
  | none=>rw[g6] at hm;cases hm
  | some b1=>
  rw[g6,afJ] at hm
  cases g7:pF b1 L with
  | none=>rw[g7] at hm;cases hm
  | some b2=>
  rw[g7,afJ] at hm
  cases g8:ur b2 X with
  | none=>rw[g8] at hm;cases hm
  | some b3=>
  rw[g8,afJ] at hm
  refine (ZH G w a b dy pl wy pr R L X ra _ rc la _ lc xa _ xc y1.1 y2.1 y3.1 z.1 b1 b2 b3 hR hL hX hG hT h1 g1 g2 g3 g4 g5 g6 g7 g8).mono ?_
  rintro e w' ⟨he,hk⟩
  refine⟨he.trans ?_,hk⟩
  cases hb:decide ((b3.length:Int)>300000) with
  | true=>rw[hb,afX] at hm;cases hm;rfl
  | false=>rw[hb,afW] at hm;cases hm;rfl
 ·have hb:(q1 != 0)=true:=by simpa using hq
  rw[hb,afX] at hm
  cases hm
  exact aaN G w a b dy pl wy pr R L X ra _ rc la _ lc xa _ xc _ hR hL hX hG hT h1 hq
theorem YA {G:Gh} {a:ai} {v:Value} (h:bT G b7 a v):∃ vr vl ve,v= .agg (Ai a vr vl ve).toArray/\Bi G a vr vl ve:=by
 obtain⟨cs,hvv,c1,r1,rfl,e1,c2,r2,rfl,e2,c3,r3,rfl,e3,c4,r4,rfl,e4,c5,r5,rfl,e5,c6,r6,rfl,e6,c7,r7,rfl,⟨vr,e7,hr⟩,c8,r8,rfl,⟨vl,e8,hl⟩,ve,e9,hx⟩:=h
 have e1:c1=[.string (bs a.1)]:=e1
 have e2:c2=[.string (bs a.2.1)]:=e2
 have e3:c3=[.int .i64 a.2.2.1]:=e3
 have e4:c4=[.int .i64 a.2.2.2.1]:=e4
 have e5:c5=[.int .i64 a.2.2.2.2.1]:=e5
 have e6:c6=[.bool a.2.2.2.2.2.1]:=e6
 subst e1;subst e2;subst e3;subst e4;subst e5;subst e6;subst e7;subst e8;subst e9
 exact⟨vr,vl,ve,hvv,hr,hl,hx⟩
noncomputable def Ja:an:=⟨[.val b7],[.val .str,.val tI],fun x=>vz x.1⟩
theorem SN:dZ Tryz.prog 9:=iA (fn:=Tryz.f9) (by kernel_rfl) rfl (by decide)
theorem Tl:cM Tryz.prog 9 Ja:=by
 intro G w ow args x y hG how ha hm hT
 obtain⟨a,u⟩:=x
 obtain⟨t,q,u'⟩:=y
 obtain⟨v,us,h1,_,hv,h3⟩:=ha
 have e1:=h1 rfl
 have e3:us=[]:=h3
 subst e1;subst e3
 obtain⟨vr,vl,ve,rfl,hr⟩:=YA hv
 refine (XN a vr vl ve t q hr hG hT hm).mono ?_
 rintro e w' ⟨he,hk⟩
 refine⟨frz w.heap.size G w',fun _=>none,[.string (bs t),.int .i64 q], ?_⟩
 exact {
  ret:=he
  le:=SF hG (afq _)
  agr:=OU fun b hb o ho=>(hk.block b hb).trans (hG b o ho)
  size:=hk.size
  os:=hk.os
  output:=hk.output
  old:=fun i hlt _=>⟨hk.block i hlt,by simp only[frz,af9 hlt]⟩
  own:=fun i j hij=>by cases hij
  out:=⟨_,_,rfl,rfl,_,_,rfl,rfl,rfl,trivial⟩
  hnd:=fun _=>rfl }
end Go.Proofs.SeatU
