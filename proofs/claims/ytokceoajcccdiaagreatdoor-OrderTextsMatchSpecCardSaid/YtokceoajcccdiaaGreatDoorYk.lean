/-
  order.Text by a walk. No condition.
-/
import Derived.Test.YtokceoajcccdiaaGreatDoorYj
import Derived.Shelf.Strings.BuilderF
import Derived.Deep.LoopGhost
import Derived.WalkKit
import Derived.Test.YtokceoajcccdiaaGreatDoorYs
set_option linter.all false
set_option maxRecDepth 100000
namespace Go.Proofs.SeatU
open Go.Dn Go.Md Go.Proofs Go.RowKit Go.Shelf Go.Lib
def sW (d:aa):List Value:=[.int .i64 d.1,.int .i64 d.2.1,.int .i64 d.2.2.1,.int .i64 d.2.2.2.1,.int .i64 d.2.2.2.2.1,.string (bs d.2.2.2.2.2.1),.int .i64 d.2.2.2.2.2.2.1.1,.int .i64 d.2.2.2.2.2.2.1.2,.string (bs d.2.2.2.2.2.2.2.1),.int .i64 d.2.2.2.2.2.2.2.2.1.1,.int .i64 d.2.2.2.2.2.2.2.2.1.2,.int .i64 d.2.2.2.2.2.2.2.2.2.1,.int .i64 d.2.2.2.2.2.2.2.2.2.2]
theorem FJ {G:Gh} {d:aa} {cs:List Value} (h:an G aH d cs):cs=sW d:=by
 obtain⟨a1,a2,a3,a4,a5,a6,⟨a7,a8⟩,a9,⟨a10,a11⟩,a12,a13⟩:=d
 obtain⟨c1,r1,rfl,h1,c2,r2,rfl,h2,c3,r3,rfl,h3,c4,r4,rfl,h4,c5,r5,rfl,h5,c6,r6,rfl,h6,c7,r7,rfl,⟨c7a,c7b,rfl,h7a,h7b⟩,c8,r8,rfl,h8,c9,r9,rfl,⟨c9a,c9b,rfl,h9a,h9b⟩,c10,r10,rfl,h10,h11⟩:=h
 have e1:c1=[.int .i64 a1]:=h1
 have e2:c2=[.int .i64 a2]:=h2
 have e3:c3=[.int .i64 a3]:=h3
 have e4:c4=[.int .i64 a4]:=h4
 have e5:c5=[.int .i64 a5]:=h5
 have e6:c6=[.string (bs a6)]:=h6
 have e7:c7a=[.int .i64 a7]:=h7a
 have e8:c7b=[.int .i64 a8]:=h7b
 have e9:c8=[.string (bs a9)]:=h8
 have e10:c9a=[.int .i64 a10]:=h9a
 have e11:c9b=[.int .i64 a11]:=h9b
 have e12:c10=[.int .i64 a12]:=h10
 have e13:r10=[.int .i64 a13]:=h11
 subst e1;subst e2;subst e3;subst e4;subst e5;subst e6;subst e7;subst e8;subst e9;subst e10;subst e11;subst e12;subst e13
 rfl
theorem Qw (G:Gh) (d:aa):an G aH d (sW d):=by
 obtain⟨a1,a2,a3,a4,a5,a6,⟨a7,a8⟩,a9,⟨a10,a11⟩,a12,a13⟩:=d
 exact⟨[.int .i64 a1],_,rfl,rfl,[.int .i64 a2],_,rfl,rfl,[.int .i64 a3],_,rfl,rfl,[.int .i64 a4],_,rfl,rfl,[.int .i64 a5],_,rfl,rfl,[.string (bs a6)],_,rfl,rfl,
  [.int .i64 a7,.int .i64 a8],_,rfl,⟨[.int .i64 a7],_,rfl,rfl,rfl⟩,[.string (bs a9)],_,rfl,rfl,[.int .i64 a10,.int .i64 a11],_,rfl,⟨[.int .i64 a10],_,rfl,rfl,rfl⟩,[.int .i64 a12],_,rfl,rfl,rfl⟩
theorem KH {G:Gh}:∀ (l:List aa) (xs:List Value),bF (an G aH) l xs->∀ (i:Nat) (d:aa),l[i]? =some d->∀ (j:Nat) (v:Value),(sW d)[j]? =some v->xs[i*13+j]? =some v
 | [],xs,h,i,d,hi,j,v,hv=>by simp at hi
 | x::r,xs,h,0,d,hi,j,v,hv=>by
  obtain⟨a,b,rfl,h1,h2⟩:=h
  have:=FJ h1
  subst this
  simp only[Up,Option.some.injEq] at hi
  subst hi
  rw[Nat.zero_mul,VH,Um (Ut.1 hv).1]
  exact hv
 | x::r,xs,h,i+1,d,hi,j,v,hv=>by
  obtain⟨a,b,rfl,h1,h2⟩:=h
  have:=FJ h1
  subst this
  have hl:(sW x).length=13:=rfl
  rw[Un (by rw[hl];omega),hl,show (i+1)*13+j - 13=i*13+j by omega]
  exact KH r b h2 i d hi j v hv
theorem NJ {G:Gh} {w:World} (d:aa) (s:List UInt8) (hG:Agr G w) (hT:fR Tryz.prog G) (hm:gI d=some (s,())): Calls Tryz.prog 11 #[.agg (sW d).toArray] w fun e w'=>e= .returned (.string (bs s))/\Kept w w':=by
 have h:=DN G w (fun _=>none) [.agg (sW d).toArray] (d,()) (s,()) hG (fun _ _ h=>nomatch h) ⟨_,[],fun _=>rfl,fun h=>(Bool.noConfusion h),⟨_,rfl,Qw G d⟩,rfl⟩ hm hT
 refine h.mono ?_
 rintro e w' ⟨G',ow',vs,g⟩
 obtain⟨v,us,hv,hr,h2,_⟩:=g.out
 have e2:us=[]:=h2
 have e1:[v]=[Value.string (bs s)]:=hr
 cases e1
 subst e2;subst hv
 exact⟨g.ret,g.size,g.os,g.output,fun b hb=>(g.old b hb rfl).1⟩
theorem DW {G:Gh} {w:World} (l:List aa) (v:Value) (n:Int) (hv:cW G aH.size (an G aH) l v) (hG:Agr G w) (hT:fR Tryz.prog G) (hm:eH l=some (n,())): Calls Tryz.prog 9 #[v] w fun e w'=>e= .returned (.int .i64 n)/\Kept w w':=by
 have h:=A9 G w (fun _=>none) [v] (l,()) (n,()) hG (fun _ _ h=>nomatch h) ⟨_,[],fun _=>rfl,fun h=>(Bool.noConfusion h),⟨_,rfl,hv⟩,rfl⟩ hm hT
 refine h.mono ?_
 rintro e w' ⟨G',ow',vs,g⟩
 obtain⟨v,us,hv,hr,h2,_⟩:=g.out
 have e2:us=[]:=h2
 have e1:[v]=[Value.int .i64 n]:=hr
 cases e1
 subst e2;subst hv
 exact⟨g.ret,g.size,g.os,g.output,fun b hb=>(g.old b hb rfl).1⟩
structure KB (B:Nat) (w w':World):Prop where
 size:w.heap.size<=w'.heap.size
 os:w'.os=w.os
 output:w'.output=w.output
 block:∀ k,k<B->w'.heap[k]? =w.heap[k]?
theorem KB.refl (B:Nat) (w:World):KB B w w:=⟨Vu _,rfl,rfl,fun _ _=>rfl⟩
theorem KB.trans {B:Nat} {a b c:World} (h:KB B a b) (k:KB B b c):KB B a c:=⟨Vv h.size k.size,k.os.trans h.os,k.output.trans h.output,fun i hi=>(k.block i hi).trans (h.block i hi)⟩
theorem KB.of {B:Nat} {a b:World} (h:Kept a b) (hB:B<=a.heap.size):KB B a b:=⟨h.size,h.os,h.output,fun i hi=>h.block i (by omega)⟩
theorem KB.below {B:Nat} {a b:World} (h:RowKit.Below B a b):KB B a b:=⟨h.size,h.os,h.output,h.block⟩
theorem KB.agr {G:Gh} {B:Nat} {w w':World} (h:KB B w w') (hG:Agr G w) (hB:∀ b o,G b=some o->b<B):Agr G w':=fun b o hb=>by rw[h.block b (hB b o hb)];exact hG b o hb
theorem P4 {w w':World} {base:Nat} {e:TypeId} {size:Nat} {v:Value} {n:Nat} {xs:List Value} (h:w.ownsRowF base e size v n xs) (hk:∀ b,b<w.heap.size->w'.heap[b]? =w.heap[b]?):w'.ownsRowF base e size v n xs:=by
 refine⟨h.1, ?_⟩
 rcases h.2 with hn | ⟨g,cap,cur,fz,hv,hb,hg,rest⟩
 ·exact .inl hn
 ·exact .inr ⟨g,cap,cur,fz,hv,hb,(hk g (bJ hg)).trans hg,rest⟩
theorem Bt {T e:TypeId} {B b:Nat} {p:Value} {bs:List Value} {w w':World} (h:Lib.BuilderAtF T e B b p bs w) (hk:∀ b,b<w.heap.size->w'.heap[b]? =w.heap[b]?):Lib.BuilderAtF T e B b p bs w':=by
 obtain⟨hB,v,hb,hown,hne⟩:=h
 exact⟨hB,v,(hk b (bJ hb)).trans hb,P4 hown hk,hne⟩
theorem yG {T e:TypeId} {B b:Nat} {bs:List Value} {w w':World} (h:Lib.IsBuilderF T e B b bs w) (hk:∀ b,b<w.heap.size->w'.heap[b]? =w.heap[b]?):Lib.IsBuilderF T e B b bs w':=
 h.elim (fun h=> .inl (Bt h hk)) (fun h=> .inr (Bt h hk))
theorem Rd (G:Gh) (w:World) (l:List aa) (v:Value) (n:Int) (hv:cW G aH.size (an G aH) l v) (hG:Agr G w) (hT:fR Tryz.prog G) (hm:eH l=some (n,())) (hn:n≠0): Calls Tryz.prog 4 #[v] w fun e w'=>e= .returned (.tuple #[.string (bs []),.int .i64 n])/\Kept w w':=by
 have e9:∀ args w,(callFunc 9 args).run Tryz.prog w= .ok (.enter 9 args) w:=enters_of Tryz.func9 (by kernel_rfl) rfl
 have mixed:Tryz.prog.follows .mixedOrders=true:=by kernel_rfl
 have late:Tryz.prog.follows .lateStores=true:=by kernel_rfl
 have t3:=Tryz.underlying3;have t4:=Tryz.underlying4;have t9:=Tryz.underlying9;have t22:=Tryz.underlying22;have t23:=Tryz.underlying23
 have hc:=DW l v n hv hG hT hm
 go_enter Tryz.func4,Tryz.ntmps4
 go_wp2_with (go_at_fn 9;refine hc.mono ?_;rintro e w' ⟨rfl,hk⟩)
 go_ret2
 exact⟨rfl,hk⟩
end Go.Proofs.SeatU
set_option maxRecDepth 100000
namespace Go.Proofs.SeatU
open Go.Dn Go.Md Go.Proofs Go.RowKit Go.Shelf Go.Lib
theorem OR {G:Gh} {w:World} {l:List aa} {b off:Nat} {cs:Array Value} {T:TypeId} {fz:Nat×Nat} (hg:w.heap[b]? =some (.cells cs T fz)) (hrep:bF (an G aH) l ((cs.toList.drop off).take (l.length*13))) {i:Nat} {d:aa} (hi:l[i]? =some d) (j:Nat) (v:Value) (hv:(sW d)[j]? =some v): w.cell? ⟨b,off+i*13+j,none⟩=some v:=by
 have h:=KH l _ hrep i d hi j v hv
 have hil:=(Ut.1 hi).1
 have hj:j<13:=(Ut.1 hv).1
 rw[UA (by omega),Uq] at h
 simp[World.cell?,hg]
 simpa [Vl] using h
theorem Pk (b B:Nat) (bs:List Value) (w:World) (h:Lib.IsBuilderF 39 5 B b bs w):Calls Tryz.prog 12 #[.pointer (some ⟨b,0,none⟩)] w fun e w'=>e= .returned (.int .i64 bs.length)/\w'=w:=
 Any.Builder_Len_f Tryz.RE B b bs w h
theorem LD (b B:Nat) (l:List UInt8) (w:World) (h:Lib.IsBuilderF 39 5 B b (Lib.byteCells l) w) (hB:B<=w.heap.size):Calls Tryz.prog 13 #[.pointer (some ⟨b,0,none⟩)] w fun e w'=>e= .returned (.string (bs l))/\RowKit.Below B w w':=
 (Any.Builder_String_any_f (ρ:=Tryz.s5) { Tryz.H6 with } Tryz.ot B b l w h hB).mono fun e w' ⟨h1,h2⟩=>⟨h1,h2.2⟩
theorem MQ (b B:Nat) (l s:List UInt8) (w:World) (h:Lib.IsBuilderF 39 5 B b (Lib.byteCells l) w) (hl:l.length+s.length<=140737488355328) (hB:B<=w.heap.size): Calls Tryz.prog 10 #[.pointer (some ⟨b,0,none⟩),.string (bs s)] w fun e w'=>e= .returned (.tuple #[.int .i64 s.length,.nilIface])/\Lib.IsBuilderF 39 5 B b (Lib.byteCells (l++s)) w'/\RowKit.Below B w w':=by
 have hs:(bs s).size=s.length:=Vc
 refine (Any.Builder_WriteString_f (ρ:=Tryz.s5) { Tryz.H6 with } Tryz.ot B b (Lib.byteCells l) (bs s) w h (by rw[Lib.byteCells_length,hs];exact hl) hB).mono ?_
 rintro e w' ⟨h1,h2,h3⟩
 rw[hs] at h1
 refine⟨h1,.inr ?_,h3⟩
 have e1:Lib.byteCells (l++s)=Lib.byteCells l++Lib.strCells (bs s):=by
  simp[Lib.byteCells,Lib.strCells,bs]
 rw[e1]
 exact h2
theorem yT (b:Nat):∀ (vs:List Value) (o:Nat) (w:World),(w.setCells b o vs).heap.size=w.heap.size
 | [],_,_=>rfl
 | v::r,o,w=>by rw[World.setCells,yT b r];exact Array.size_modify
theorem w8 (b:Nat):∀ (vs:List Value) (o:Nat) (w:World),(w.setCells b o vs).os=w.os/\(w.setCells b o vs).output=w.output/\∀ i,i≠b->(w.setCells b o vs).heap[i]? =w.heap[i]?
 | [],_,_=>⟨rfl,rfl,fun _ _=>rfl⟩
 | v::r,o,w=>by
  obtain⟨h1,h2,h3⟩:=w8 b r (o+1) (w.setCell ⟨b,o,none⟩ v)
  refine⟨h1,h2,fun i hi=>(h3 i hi).trans ?_⟩
  simp only[World.setCell,Array.getElem?_modify]
  rw[V6 (fun e=>hi e.symm)]
theorem Py (W:World) (z:Array Value) (cs:List Value) (T:TypeId) (hz:z.size=cs.length) (h1:∀ v∈cs,v.oneCell'=true): (storeCells ⟨W.heap.size,0,none⟩ cs 0).run Tryz.prog (W.alloc (.cells z T))= .ok () ((W.alloc (.cells z T)).setCells W.heap.size 0 cs)/\ ((W.alloc (.cells z T)).setCells W.heap.size 0 cs).heap[W.heap.size]? =some (.cells cs.toArray T (0,0))/\Kept W ((W.alloc (.cells z T)).setCells W.heap.size 0 cs)/\W.heap.size<((W.alloc (.cells z T)).setCells W.heap.size 0 cs).heap.size:=by
 have hb:=heap_alloc_new W (.cells z T)
 have hs:(W.alloc (.cells z T)).heap.size=W.heap.size+1:=Array.size_push _
 obtain⟨cur',h2,h3⟩:=AM W.heap.size T cs 0 (W.alloc (.cells z T)) z hb (by omega)
 have hsz2:((W.alloc (.cells z T)).setCells W.heap.size 0 cs).heap.size=W.heap.size+1:=by
  rw[yT,hs]
 refine⟨?_, ?_,⟨by rw[hsz2];omega,(w8 _ _ _ _).1,(w8 _ _ _ _).2.1,fun b hb=> ?_⟩,by rw[hsz2];omega⟩
 ·have:=run_storeCells_cells (P:=Tryz.prog) W.heap.size 0 cs 0 (W.alloc (.cells z T)) (fun j hj=>by
   simp only[World.cell?,hb,VH]
   rw[Ti (by omega)];rfl) (fun j hj=>by unfold World.frozen?;rw[hb];rfl) h1
  exact this
 ·rw[h2]
  have:cur'=cs.toArray:=by
   apply Array.toList_inj.1
   rw[h3]
   simp[hz]
  rw[this]
 ·rw[(w8 _ _ _ _).2.2 b (by omega),heap_alloc_old W _ hb]
set_option maxHeartbeats 1000000 in
theorem Qa (k:Nat) (zE:∀ w,(Go.sizeOf 33).run Tryz.prog w= .ok k w) (hk13:k=13) (G:Gh) (w:World) (l:List aa) (v:Value) (t:List UInt8) (hv:cW G aH.size (an G aH) l v) (hG:Agr G w) (hT:fR Tryz.prog G) (hm:eH l=some (0,())) (ht:iI l=some t) (hlen:t.length<=140737488355328): Calls Tryz.prog 4 #[v] w fun e w'=>e= .returned (.tuple #[.string (bs (if 200000<t.length then [] else t)),.int .i64 (if 200000<t.length then 2 else 0)])/\Kept w w':=by
 have e9:∀ args w,(callFunc 9 args).run Tryz.prog w= .ok (.enter 9 args) w:=enters_of Tryz.func9 (by kernel_rfl) rfl
 have e10:∀ args w,(callFunc 10 args).run Tryz.prog w= .ok (.enter 10 args) w:=enters_of Tryz.func10 (by kernel_rfl) rfl
 have e11:∀ args w,(callFunc 11 args).run Tryz.prog w= .ok (.enter 11 args) w:=enters_of Tryz.func11 (by kernel_rfl) rfl
 have e12:∀ args w,(callFunc 12 args).run Tryz.prog w= .ok (.enter 12 args) w:=enters_of Tryz.func12 (by kernel_rfl) rfl
 have e13:∀ args w,(callFunc 13 args).run Tryz.prog w= .ok (.enter 13 args) w:=enters_of Tryz.func13 (by kernel_rfl) rfl
 have mixed:Tryz.prog.follows .mixedOrders=true:=by kernel_rfl
 have late:Tryz.prog.follows .lateStores=true:=by kernel_rfl
 have t3:=Tryz.underlying3;have t4:=Tryz.underlying4;have t9:=Tryz.underlying9;have t22:=Tryz.underlying22;have t23:=Tryz.underlying23
 have t33:=Tryz.underlying33;have a33:=Tryz.isAgg33;have v33:=Tryz.zeroValue33
 have t39:=Tryz.underlying39;have z39:=Tryz.sizeOf39;have a39:=Tryz.isAgg39;have v39:=Tryz.zeroValue39
 have hc:=DW l v 0 hv hG hT hm
 obtain⟨a,cap,rfl,hcap,sr,hrow⟩:=hv
 have HR:Aside (l=[]\/∃ (b off:Nat) (c:Array Value) (T:TypeId) (fz:Nat×Nat),a=some ⟨b,off,none⟩/\G b=some (.cells c T fz)/\off+l.length*13<=c.size/\bF (an G aH) l ((c.toList.drop off).take (l.length*13))):=hrow
 have HG:Aside _:=hG
 have HT:Aside _:=hT
 have HD:Aside _:=ht
 have HL:Aside _:=hlen
 have HK13:Aside _:=hk13
 have hmx:l.length<=9223372036854775807:=Vv hcap sr
 clear hrow hG hT hm ht hlen
 go_enter Tryz.func4,Tryz.ntmps4
 go_wp2_with (go_at_fn 9;refine hc.mono ?_;rintro e w1 ⟨rfl,hk⟩)
 have HK:Aside _:=hk
 clear hk hc
 go_loopg [15] l.length (fun g s15 wr=>∃ (i:Nat) (acc rest:List UInt8),s15= .int .i64 (i:Int)/\i<=l.length/\l.length - i<=g/\Aside (iI (l.drop i)=some rest)/\Aside (t=acc++rest)/\Aside (Lib.IsBuilderF 39 5 w1.heap.size w1.heap.size (Lib.byteCells acc) wr)/\Aside (KB w1.heap.size w1 wr)/\Aside (w1.heap.size<wr.heap.size))
 case atStart=>
  exact⟨0,[],t,rfl,VI _,Vu _,HD,(rfl:t=[]++t),Lib.IsBuilderF.of (Lib.fresh_isBuilder 39 5 w1),⟨by rw[World.alloc];simp,rfl,rfl,fun k hk=>by exact heap_alloc_old w1 _ hk⟩,(by show w1.heap.size<(w1.alloc _).heap.size;rw[World.alloc];simp:w1.heap.size<(w1.alloc _).heap.size)⟩
 case round=>
  obtain⟨i,acc,rest,rfl,hi,hg,HD1,HE,HB,HKB,HS⟩:=hrel
  by_cases hlt:i<l.length
  ·have hltz:(i:Int)<(l.length:Int):=by omega
   obtain⟨d,hd⟩:∃ d,l[i]? =some d:=⟨_,Ur hlt⟩
   have hr:=HR.out
   rcases hr with hr | ⟨b,off,cs,T,fz,ha,hgb,hin,hrep⟩
   ·rw[hr] at hlt;simp at hlt
   subst ha
   have hgw:∀ b o,G b=some o->b<w1.heap.size:=fun b o hb=>Vw (bJ (HG.out b o hb)) HK.out.size
   have hG1:Agr G w1:=fun b o hb=>(HK.out.block b (bJ (HG.out b o hb))).trans (HG.out b o hb)
   have hGr:Aside (Agr G wr):=HKB.out.agr hG1 hgw
   have hcell:=OR (hGr.out b _ hgb) hrep hd
   obtain⟨cD,hcD⟩:∃ c,c=sW d:=⟨_,rfl⟩
   have hcl:cD.length=k:=by rw[hcD,hk13];rfl
   have lj:Sem.run Tryz.prog (loadCellsFrom ⟨b,off+i*k,none⟩ 0 k #[]) wr= .ok cD.toArray wr:=by
    have:=run_loadCells_list (P:=Tryz.prog) wr ⟨b,off+i*k,none⟩ cD (fun j v hj=>by rw[Addr.add_lit];rw[hk13];exact hcell j v (by rw[<- hcD];exact hj))
    rw[hcl] at this
    exact this
   have HGW:Aside (∀ b o,G b=some o->b<w1.heap.size):=hgw
   have HCD:Aside (cD=sW d):=hcD
   clear hgw hG1 hcell hgb hin hrep hcD hk13
   have hz0:∃ W2,Sem.run Tryz.prog (storeCells ⟨wr.heap.size,0,none⟩ cD) (wr.alloc (.cells #[.int .i64 0,.int .i64 0,.int .i64 0,.int .i64 0,.int .i64 0,.string ⟨#[]⟩,.int .i64 0,.int .i64 0,.string ⟨#[]⟩,.int .i64 0,.int .i64 0,.int .i64 0,.int .i64 0] 33))= .ok () W2/\
    Sem.run Tryz.prog (loadCellsFrom ⟨wr.heap.size,0,none⟩ 0 k #[]) W2= .ok cD.toArray W2/\Aside (Kept wr W2)/\Aside (wr.heap.size<W2.heap.size):=by
    obtain⟨n1,n2,n3,n4⟩:=Py wr #[.int .i64 0,.int .i64 0,.int .i64 0,.int .i64 0,.int .i64 0,.string ⟨#[]⟩,.int .i64 0,.int .i64 0,.string ⟨#[]⟩,.int .i64 0,.int .i64 0,.int .i64 0,.int .i64 0] cD 33 (by rw[HCD.out];rfl) (by
     intro v hv
     rw[HCD.out] at hv
     simp only[sW,UX,List.not_mem_nil,or_false] at hv
     rcases hv with h | h | h | h | h | h | h | h | h | h | h | h | h<;>subst h<;>rfl)
    refine⟨(wr.alloc (.cells #[.int .i64 0,.int .i64 0,.int .i64 0,.int .i64 0,.int .i64 0,.string ⟨#[]⟩,.int .i64 0,.int .i64 0,.string ⟨#[]⟩,.int .i64 0,.int .i64 0,.int .i64 0,.int .i64 0] 33)).setCells wr.heap.size 0 cD,n1, ?_,n3,n4⟩
    have:=run_loadCells_list (P:=Tryz.prog) ((wr.alloc (.cells #[.int .i64 0,.int .i64 0,.int .i64 0,.int .i64 0,.int .i64 0,.string ⟨#[]⟩,.int .i64 0,.int .i64 0,.string ⟨#[]⟩,.int .i64 0,.int .i64 0,.int .i64 0,.int .i64 0] 33)).setCells wr.heap.size 0 cD) ⟨wr.heap.size,0,none⟩ cD (fun j v hj=>by
     rw[Addr.add_lit]
     simp only[World.cell?,n2,VH]
     simpa using hj)
    rw[hcl] at this
    exact this
   obtain⟨W2,s1,lj2,HK2,HS2⟩:=hz0
   have hi1:Aside (i+1<=l.length):=hlt
   have hG2:Agr G W2:=fun b o hb=>(HK2.out.block b (bJ (hGr.out b o hb))).trans (hGr.out b o hb)
   have hdt:∃ s rest',gI d=some (s,())/\iI (l.drop (i+1))=some rest'/\rest=s++rest':=by
    have h:=HD1.out
    have hd2:l.drop i=d::l.drop (i+1):=by
     rw[Ub hlt]
     congr 1
     have:=(Ut.1 hd).2
     exact this
    rw[hd2,iI] at h
    cases h1:gI d with
    | none=>rw[h1] at h;cases h
    | some s=>
     obtain⟨s,u⟩:=s
     rw[h1,VJ] at h
     cases h2:iI (l.drop (i+1)) with
     | none=>rw[h2] at h;cases h
     | some r'=>rw[h2] at h;exact⟨s,r',rfl,rfl,(Option.some.inj h).symm⟩
   obtain⟨s,rest',hds,hdr,hre⟩:=hdt
   have hdc:=NJ d s hG2 HT.out hds
   rw[<- HCD.out] at hdc
   have HDR:Aside _:=hdr
   have HRE:Aside _:=hre
   clear hG2 hds hdr hre
   go_wp2_with (first | (go_at_fn 11;refine hdc.mono ?_;rintro e W3 ⟨rfl,hk3⟩) )
   have hB3:Lib.IsBuilderF 39 5 w1.heap.size w1.heap.size (Lib.byteCells acc) W3:=yG (yG HB.out HK2.out.block) hk3.block
   have hsz3:w1.heap.size<=W3.heap.size:=by have:=HS.out;have:=HK2.out.size;have:=hk3.size;omega
   have hle:acc.length+s.length<=140737488355328:=by
    have h1:=HL.out
    rw[HE.out,HRE.out,UG,UG] at h1
    omega
   refine (MQ _ _ acc s W3 hB3 hle hsz3).mono ?_
   rintro e W4 ⟨rfl,hB4,hbel⟩
   go_wp2
   go_roundg (l.length - (i+1))
   case measure=>omega
   case rel=>
    refine⟨i+1,acc++s,rest',by go_num,hi1.out,Vu _,HDR, ?_,hB4, ?_, ?_⟩
    ·show t=acc++s++rest'
     rw[HE.out,HRE.out,T4]
    ·exact HKB.out.trans ((KB.of HK2.out (by have:=HS.out;omega)).trans ((KB.of hk3 (by have:=HS.out;have:=HK2.out.size;omega)).trans (KB.below hbel)))
    ·show w1.heap.size<W4.heap.size
     have:=HS.out;have:=HK2.out.size;have:=hk3.size;have:=hbel.size;omega
  ·have hltz:¬ (i:Int)<(l.length:Int):=by omega
   have hi2:i=l.length:=by omega
   have hrest:rest=[]:=by
    have h:=HD1.out
    rw[hi2,Ud] at h
    exact (Option.some.inj h).symm
   have hacc:acc=t:=by rw[HE.out,hrest,T6]
   have hl2:=Pk _ _ _ wr HB.out
   have hs2:=LD _ _ _ wr HB.out (Vt HS.out)
   rw[hacc] at hl2 hs2
   rw[Lib.byteCells_length] at hl2
   have HKw:Aside (KB w1.heap.size w1 wr):=HKB
   clear hi2 hrest hacc
   by_cases hbig:200000<t.length
   ·have hbz:(200000:Int)<(t.length:Int):=by omega
    go_wp2_with (go_at_fn 12;refine hl2.mono ?_;rintro e w' ⟨rfl,rfl⟩)
    go_ret2
    exact⟨rfl,HK.out.trans ⟨HKw.out.size,HKw.out.os,HKw.out.output,HKw.out.block⟩⟩
   ·have hbz:¬ (200000:Int)<(t.length:Int):=by omega
    go_wp2_with (first | (go_at_fn 12;refine hl2.mono ?_;rintro e w' ⟨rfl,rfl⟩) | (go_at_fn 13;refine hs2.mono ?_;rintro e w'' ⟨rfl,hbel⟩))
    go_ret2
    have h2:=HKw.out.trans (KB.below hbel)
    exact⟨rfl,HK.out.trans ⟨h2.size,h2.os,h2.output,h2.block⟩⟩
noncomputable def AP:aq:=⟨[.val (.slice aH)],[.val .str,.val tI],fun x=>jF x.1⟩
theorem JF:dW Tryz.prog 4:=iR (fn:=Tryz.f4) (by kernel_rfl) rfl (by decide)
theorem Ox {G:Gh} {w:World} (l:List aa) (v:Value) (s:List UInt8) (n:Int) (hv:cW G aH.size (an G aH) l v) (hG:Agr G w) (hT:fR Tryz.prog G) (hm:jF l=some (s,n,())): Calls Tryz.prog 4 #[v] w fun e w'=>e= .returned (.tuple #[.string (bs s),.int .i64 n])/\Kept w w':=by
 unfold jF at hm
 rw[fe,VJ] at hm
 dsimp only at hm
 cases h0:(fS l != 0) with
 | true=>
  rw[h0,VW] at hm
  simp only[Option.some.injEq,Prod.mk.injEq,VR] at hm
  obtain⟨rfl,rfl⟩:=hm
  exact Rd G w l v _ hv hG hT (fe l) (by simpa using h0)
 | false=>
  rw[h0,VV] at hm
  have hz:fS l=0:=by simpa using h0
  cases ht:iI l with
  | none=>rw[ht] at hm;cases hm
  | some t=>
   rw[ht,VJ] at hm
   by_cases hlen:t.length<=140737488355328
   rotate_left
   ·rw[VY hlen] at hm;cases hm
   rw[VZ hlen] at hm
   have hm:(bif decide ((List.length t:Int)>200000) then some (([]:List UInt8),(2:Int),()) else some (t,0,()))=some (s,n,()):=hm
   refine (Qa 13 Tryz.sizeOf33 rfl G w l v t hv hG hT (by rw[fe,hz]) ht hlen).mono ?_
   rintro e w' ⟨he,hk⟩
   refine⟨?_,hk⟩
   by_cases hb:200000<t.length
   ·rw[VZ (show ((t.length:Nat):Int)>200000 by omega),VW] at hm
    simp only[Option.some.injEq,Prod.mk.injEq,VR] at hm
    obtain⟨rfl,rfl⟩:=hm
    rw[V7 hb,V7 hb] at he
    exact he
   ·rw[VY (show ¬ ((t.length:Nat):Int)>200000 by omega),VV] at hm
    simp only[Option.some.injEq,Prod.mk.injEq,VR] at hm
    obtain⟨rfl,rfl⟩:=hm
    rw[V6 hb,V6 hb] at he
    exact he
theorem JL:eC Tryz.prog 4 AP:=by
 intro G w ow args x y hG how ha hm hT
 obtain⟨l,u⟩:=x
 obtain⟨s,n,u'⟩:=y
 obtain⟨v,us,h1,_,hv,h3⟩:=ha
 have e1:=h1 rfl
 have e3:us=[]:=h3
 subst e1;subst e3
 obtain⟨v0,e0,hv0⟩:∃ v0,[v]=[v0]/\cW G aH.size (an G aH) l v0:=hv
 cases e0
 refine (Ox l v s n hv0 hG hT hm).mono ?_
 rintro e w' ⟨he,hk⟩
 refine⟨G,fun _=>none,[.string (bs s),.int .i64 n], ?_⟩
 exact {
  ret:=he
  le:=Gh.le_refl G
  agr:=fun i o hio=>by
   have hw:=hG i o hio
   rw[hk.block i (bJ hw)];exact hw
  size:=hk.size
  os:=hk.os
  output:=hk.output
  old:=fun i hlt _=>⟨hk.block i hlt,rfl⟩
  own:=fun i j hij=>by cases hij
  out:=⟨_,_,rfl,rfl,_,_,rfl,rfl,rfl,trivial⟩
  hnd:=fun _=>rfl }
end Go.Proofs.SeatU
