/-
  order.Changed: its calls; the keys of a map, sorted. No condition.
-/
import Derived.Test.YtgmbmgfhpkoajacGreatDoorYw
import Derived.Deep.LoopGhost
import Derived.Maps.RangeRun
import Derived.Test.YtgmbmgfhpkoajacGreatDoorYs
import Derived.WalkKit
import Derived.Test.YtgmbmgfhpkoajacGreatDoorYv
import Derived.Test.YtgmbmgfhpkoajacGreatDoorYd
import Derived.Test.YtgmbmgfhpkoajacGreatDoorYt
import Derived.Shelf.SlIterI.Sorted
import Derived.LoopN
set_option linter.all false
set_option maxRecDepth 100000
namespace Go.Proofs.SeatA
open Go.Dn Go.Md Go.Proofs Go.RowKit Go.Shelf Go.Lib
theorem mQ {a b:World} (h:Kept a b) (o:Obj):Kept a (b.alloc o):=⟨Wk h.size (by show b.heap.size<=(b.heap.push o).size;rw[Ub];omega),h.os,h.output,fun i hi=>(heap_alloc_old b o (Wm hi h.size)).trans (h.block i hi)⟩
structure KB (B:Nat) (w w':World):Prop where
 size:w.heap.size<=w'.heap.size
 os:w'.os=w.os
 output:w'.output=w.output
 block:∀ k,k<B->w'.heap[k]? =w.heap[k]?
theorem KB.refl (B:Nat) (w:World):KB B w w:=⟨Wj _,rfl,rfl,fun _ _=>rfl⟩
theorem KB.trans {B:Nat} {a b c:World} (h:KB B a b) (k:KB B b c):KB B a c:=⟨Wk h.size k.size,k.os.trans h.os,k.output.trans h.output,fun i hi=>(k.block i hi).trans (h.block i hi)⟩
theorem KB.of {B:Nat} {a b:World} (h:Kept a b) (hB:B<=a.heap.size):KB B a b:=⟨h.size,h.os,h.output,fun i hi=>h.block i (by omega)⟩
theorem KB.agr {G:Gh} {B:Nat} {w w':World} (h:KB B w w') (hG:Agr G w) (hB:∀ b o,G b=some o->b<B):Agr G w':=fun b o hb=>by rw[h.block b (hB b o hb)];exact hG b o hb
theorem Kept.agr {G:Gh} {w w':World} (h:Kept w w') (hG:Agr G w):Agr G w':=fun b o hb=>(h.block b (aW (hG b o hb))).trans (hG b o hb)
theorem AF (b:Nat):∀ (vs:List Value) (o:Nat) (w:World),(w.setCells b o vs).heap.size=w.heap.size
 | [],_,_=>rfl
 | v::r,o,w=>by rw[World.setCells,AF b r];exact Array.size_modify
theorem yT (b:Nat):∀ (vs:List Value) (o:Nat) (w:World),(w.setCells b o vs).os=w.os/\(w.setCells b o vs).output=w.output/\∀ i,i≠b->(w.setCells b o vs).heap[i]? =w.heap[i]?
 | [],_,_=>⟨rfl,rfl,fun _ _=>rfl⟩
 | v::r,o,w=>by
  obtain⟨h1,h2,h3⟩:=yT b r (o+1) (w.setCell ⟨b,o,none⟩ v)
  refine⟨h1,h2,fun i hi=>(h3 i hi).trans ?_⟩
  simp only[World.setCell,T4]
  rw[Xd (fun e=>hi e.symm)]
theorem oP (W:World) (z:Array Value) (cs:List Value) (T:TypeId) (hz:z.size=cs.length) (h1:∀ v∈cs,v.oneCell'=true): ∃ W2,(storeCells ⟨W.heap.size,0,none⟩ cs 0).run Tryz.prog (W.alloc (.cells z T))= .ok () W2/\W2.heap[W.heap.size]? =some (.cells cs.toArray T (0,0))/\Kept W W2/\W.heap.size<W2.heap.size:=by
 refine⟨(W.alloc (.cells z T)).setCells W.heap.size 0 cs, ?_⟩
 have hb:=heap_alloc_new W (.cells z T)
 have hs:(W.alloc (.cells z T)).heap.size=W.heap.size+1:=Ub _
 obtain⟨cur',h2,h3⟩:=B5 W.heap.size T cs 0 (W.alloc (.cells z T)) z hb (by omega)
 have hsz2:((W.alloc (.cells z T)).setCells W.heap.size 0 cs).heap.size=W.heap.size+1:=by
  rw[AF,hs]
 refine⟨?_, ?_,⟨by rw[hsz2];omega,(yT _ _ _ _).1,(yT _ _ _ _).2.1,fun b hb=> ?_⟩,by rw[hsz2];omega⟩
 ·have:=run_storeCells_cells (P:=Tryz.prog) W.heap.size 0 cs 0 (W.alloc (.cells z T)) (fun j hj=>by
   simp only[World.cell?,hb,Wz]
   rw[T0 (by omega)];rfl) (fun j hj=>by unfold World.frozen?;rw[hb];rfl) h1
  exact this
 ·rw[h2]
  have:cur'=cs.toArray:=by
   apply Array.toList_inj.1
   rw[h3]
   simp[hz]
  rw[this]
 ·rw[(yT _ _ _ _).2.2 b (by omega),heap_alloc_old W _ hb]
theorem jb {W:World} {b k:Nat} {cs:List Value} {T:TypeId} {fz:Nat×Nat} (hk:cs.length=k) (h:W.heap[b]? =some (.cells cs.toArray T fz)):Sem.run Tryz.prog (loadCellsFrom ⟨b,0,none⟩ 0 k #[]) W= .ok cs.toArray W:=by
 have:=run_loadCells_list (P:=Tryz.prog) W ⟨b,0,none⟩ cs (fun j v hj=>by
  rw[Addr.add_lit]
  simp only[World.cell?,h,Wz]
  simpa using hj)
 rw[hk] at this
 exact this
theorem Ox {W:World} {b:Nat} {cs:List Value} {T:TypeId} {fz:Nat×Nat} (h:W.heap[b]? =some (.cells cs.toArray T fz)) {j:Nat} {v:Value} (hj:cs[j]? =some v):W.cell? ⟨b,j,none⟩=some v:=by
 simp only[World.cell?,h]
 simpa using hj
theorem L8 {W:World} {b k m:Nat} {cs row:List Value} {T:TypeId} {fz:Nat×Nat} (hk:cs.length=k) (h:W.heap[b]? =some (.cells row.toArray T fz)) (hr:∀ (j:Nat) (v:Value),cs[j]? =some v->row[m+j]? =some v):Sem.run Tryz.prog (loadCellsFrom ⟨b,m,none⟩ 0 k #[]) W= .ok cs.toArray W:=by
 have:=run_loadCells_list (P:=Tryz.prog) W ⟨b,m,none⟩ cs (fun j v hj=>by
  rw[Addr.add_lit]
  simp only[World.cell?,h]
  simpa using hr j v hj)
 rw[hk] at this
 exact this
def s6 (o:aj) (s:Value):List Value:=[.string (bs o.1),.string (bs o.2.1),.string (bs o.2.2.1),.int .i64 o.2.2.2.1,.int .i64 o.2.2.2.2.1,s]
theorem JR {G:Gh} {o:aj} {cs:List Value} (h:av G aY o cs):∃ s,cs=s6 o s/\cG G aT.size (av G aT) o.2.2.2.2.2 s:=by
 obtain⟨a1,a2,a3,a4,a5,a6⟩:=o
 obtain⟨c1,r1,rfl,h1,c2,r2,rfl,h2,c3,r3,rfl,h3,c4,r4,rfl,h4,c5,r5,rfl,h5,s,hs,h6⟩:=h
 have e1:c1=[.string (bs a1)]:=h1
 have e2:c2=[.string (bs a2)]:=h2
 have e3:c3=[.string (bs a3)]:=h3
 have e4:c4=[.int .i64 a4]:=h4
 have e5:c5=[.int .i64 a5]:=h5
 subst e1;subst e2;subst e3;subst e4;subst e5;subst hs
 exact⟨s,rfl,h6⟩
theorem NW {G:Gh} {o:aj} {s:Value} (h:cG G aT.size (av G aT) o.2.2.2.2.2 s):av G aY o (s6 o s):=by
 obtain⟨a1,a2,a3,a4,a5,a6⟩:=o
 exact⟨[.string (bs a1)],_,rfl,rfl,[.string (bs a2)],_,rfl,rfl,[.string (bs a3)],_,rfl,rfl,[.int .i64 a4],_,rfl,rfl,[.int .i64 a5],_,rfl,rfl,s,rfl,h⟩
def fk (x:ai):List Value:=[.int .i64 x.1,.string (bs x.2.1),.int .i64 x.2.2.1.1,.int .i64 x.2.2.1.2,.string (bs x.2.2.2.1),.int .i64 x.2.2.2.2.1.1,.int .i64 x.2.2.2.2.1.2,.int .i64 x.2.2.2.2.2]
theorem Bl {G:Gh} {x:ai} {cs:List Value} (h:av G aT x cs):cs=fk x:=by
 obtain⟨a1,a2,⟨a3,a4⟩,a5,⟨a6,a7⟩,a8⟩:=x
 obtain⟨c1,r1,rfl,h1,c2,r2,rfl,h2,c3,r3,rfl,⟨c3a,c3b,rfl,h3,h4⟩,c5,r5,rfl,h5,c6,r6,rfl,⟨c6a,c6b,rfl,h6,h7⟩,h8⟩:=h
 have e1:c1=[.int .i64 a1]:=h1
 have e2:c2=[.string (bs a2)]:=h2
 have e3:c3a=[.int .i64 a3]:=h3
 have e4:c3b=[.int .i64 a4]:=h4
 have e5:c5=[.string (bs a5)]:=h5
 have e6:c6a=[.int .i64 a6]:=h6
 have e7:c6b=[.int .i64 a7]:=h7
 have e8:r6=[.int .i64 a8]:=h8
 subst e1;subst e2;subst e3;subst e4;subst e5;subst e6;subst e7;subst e8
 rfl
theorem FQ (G:Gh) (x:ai):av G aT x (fk x):=by
 obtain⟨a1,a2,⟨a3,a4⟩,a5,⟨a6,a7⟩,a8⟩:=x
 exact⟨[.int .i64 a1],_,rfl,rfl,[.string (bs a2)],_,rfl,rfl,[.int .i64 a3,.int .i64 a4],_,rfl,⟨[.int .i64 a3],_,rfl,rfl,rfl⟩,[.string (bs a5)],_,rfl,rfl,[.int .i64 a6,.int .i64 a7],_,rfl,⟨[.int .i64 a6],_,rfl,rfl,rfl⟩,rfl⟩
def dP (d:aa):List Value:=[.int .i64 d.1,.int .i64 d.2.1,.int .i64 d.2.2.1,.int .i64 d.2.2.2.1,.int .i64 d.2.2.2.2.1,.string (bs d.2.2.2.2.2.1),.int .i64 d.2.2.2.2.2.2.1.1,.int .i64 d.2.2.2.2.2.2.1.2,.string (bs d.2.2.2.2.2.2.2.1),.int .i64 d.2.2.2.2.2.2.2.2.1.1,.int .i64 d.2.2.2.2.2.2.2.2.1.2,.int .i64 d.2.2.2.2.2.2.2.2.2.1,.int .i64 d.2.2.2.2.2.2.2.2.2.2]
theorem M1 {G:Gh} {d:aa} {cs:List Value} (h:av G ax d cs):cs=dP d:=by
 obtain⟨a1,a2,a3,a4,a5,a6,⟨a7,a8⟩,a9,⟨a10,a11⟩,a12,a13⟩:=d
 obtain⟨c1,r1,rfl,h1,c2,r2,rfl,h2,c3,r3,rfl,h3,c4,r4,rfl,h4,c5,r5,rfl,h5,c6,r6,rfl,h6,c7,r7,rfl,⟨c7a,c7b,rfl,h7a,h7b⟩,c8,r8,rfl,h8,c9,r9,rfl,⟨c9a,c9b,rfl,h9a,h9b⟩,c10,r10,rfl,h10,h11⟩:=h
 have e1:c1=[.int .i64 a1]:=h1
 have e2:c2=[.int .i64 a2]:=h2
 have e3:c3=[.int .i64 a3]:=h3
 have e4:c4=[.int .i64 a4]:=h4
 have e5:c5=[.int .i64 a5]:=h5
 have e6:c6=[.string (bs a6)]:=h6
 have e7:c7a=[.int .i64 a7]:=h7a
 have e8:c7b=[.int .i64 a8]:=h7b
 have e9:c8=[.string (bs a9)]:=h8
 have e10:c9a=[.int .i64 a10]:=h9a
 have e11:c9b=[.int .i64 a11]:=h9b
 have e12:c10=[.int .i64 a12]:=h10
 have e13:r10=[.int .i64 a13]:=h11
 subst e1;subst e2;subst e3;subst e4;subst e5;subst e6;subst e7;subst e8;subst e9;subst e10;subst e11;subst e12;subst e13
 rfl
theorem Jn (G:Gh) (d:aa):av G ax d (dP d):=by
 obtain⟨a1,a2,a3,a4,a5,a6,⟨a7,a8⟩,a9,⟨a10,a11⟩,a12,a13⟩:=d
 exact⟨[.int .i64 a1],_,rfl,rfl,[.int .i64 a2],_,rfl,rfl,[.int .i64 a3],_,rfl,rfl,[.int .i64 a4],_,rfl,rfl,[.int .i64 a5],_,rfl,rfl,[.string (bs a6)],_,rfl,rfl,
  [.int .i64 a7,.int .i64 a8],_,rfl,⟨[.int .i64 a7],_,rfl,rfl,rfl⟩,[.string (bs a9)],_,rfl,rfl,[.int .i64 a10,.int .i64 a11],_,rfl,⟨[.int .i64 a10],_,rfl,rfl,rfl⟩,[.int .i64 a12],_,rfl,rfl,rfl⟩
theorem NU {o:aj} {s:Value} (hs:s.oneCell'=true):∀ v∈s6 o s,v.oneCell'=true:=by
 intro v hv
 simp only[s6,VH,List.not_mem_nil,or_false] at hv
 rcases hv with h | h | h | h | h | h<;>subst h<;>first | rfl | exact hs
theorem ur (x:ai):∀ v∈fk x,v.oneCell'=true:=by
 intro v hv
 simp only[fk,VH,List.not_mem_nil,or_false] at hv
 rcases hv with h | h | h | h | h | h | h | h<;>subst h<;>rfl
theorem Mg (x:aa):∀ v∈dP x,v.oneCell'=true:=by
 intro v hv
 simp only[dP,VH,List.not_mem_nil,or_false] at hv
 rcases hv with h | h | h | h | h | h | h | h | h | h | h | h | h<;>subst h<;>rfl
theorem JP {G:Gh} {α:Type} {sz:Nat} {R:α->List Value->Prop} {l:List α} {s:Value} (h:cG G sz R l s):s.oneCell'=true:=by
 obtain⟨a,cap,rfl,_⟩:=h;rfl
theorem CD {G:Gh} {w:World} (o:aj) (s:Value) (n:Int) (hs:cG G aT.size (av G aT) o.2.2.2.2.2 s) (hG:Agr G w) (hT:gZ Tryz.prog G) (hm:cV o=some (n,())): Calls Tryz.prog 10 #[.agg (s6 o s).toArray] w fun e w'=>e= .returned (.int .i64 n)/\Kept w w':=by
 have h:=Cl G w (fun _=>none) [.agg (s6 o s).toArray] (o,()) (n,()) hG (fun _ _ h=>nomatch h) ⟨_,[],fun _=>rfl,fun h=>(Bool.noConfusion h),⟨_,rfl,NW hs⟩,rfl⟩ hm hT
 refine h.mono ?_
 rintro e w' ⟨G',ow',vs,g⟩
 obtain⟨v,us,hv,hr,h2,_⟩:=g.out
 have e2:us=[]:=h2
 have e1:[v]=[Value.int .i64 n]:=hr
 cases e1
 subst e2;subst hv
 exact⟨g.ret,g.size,g.os,g.output,fun b hb=>(g.old b hb rfl).1⟩
theorem Lw {G:Gh} {w:World} (l:List aa) (v:Value) (n:Int) (hv:cG G ax.size (av G ax) l v) (hG:Agr G w) (hT:gZ Tryz.prog G) (hm:cU l=some (n,())): Calls Tryz.prog 15 #[v] w fun e w'=>e= .returned (.int .i64 n)/\Kept w w':=by
 have h:=Ck G w (fun _=>none) [v] (l,()) (n,()) hG (fun _ _ h=>nomatch h) ⟨_,[],fun _=>rfl,fun h=>(Bool.noConfusion h),⟨_,rfl,hv⟩,rfl⟩ hm hT
 refine h.mono ?_
 rintro e w' ⟨G',ow',vs,g⟩
 obtain⟨v,us,hv,hr,h2,_⟩:=g.out
 have e2:us=[]:=h2
 have e1:[v]=[Value.int .i64 n]:=hr
 cases e1
 subst e2;subst hv
 exact⟨g.ret,g.size,g.os,g.output,fun b hb=>(g.old b hb rfl).1⟩
structure dn (w:World) (l:List (Int×ai)) (b:Nat) (es:Array MapEntry) (clock:Nat):Prop where
 heap:w.heap[b]? =some (.map es clock)
 ent:es.toList.map (fun e=>(e.key,e.val))=l.map fun p=>(Value.int .i64 p.1,Value.agg (fk p.2).toArray)
 born:∀ (i:Nat) (e:MapEntry),es.toList[i]? =some e->e.born<clock
 incr:es.toList.Pairwise (fun a b=>a.born<b.born)
theorem NH {G:Gh}:∀ (l:List (Int×ai)) (r:List MapEntry),aE (nR G tI aT) l r->r.map (fun e=>(e.key,e.val))=l.map fun p=>(Value.int .i64 p.1,Value.agg (fk p.2).toArray)
 | [],r,h=>by
  have:r=[]:=h
  subst this;rfl
 | p::l,r,h=>by
  obtain⟨e,r',rfl,⟨hk,hv⟩,ht⟩:=h
  rw[VD,VD,NH l r' ht]
  obtain⟨vs,hv1,hv2⟩:=hv
  have hk':[e.key]=[Value.int .i64 p.1]:=hk
  cases Bl hv2
  rw[hv1,(List.cons.inj hk').1]
theorem Ql {G:Gh} {w:World} {l:List (Int×ai)} {b:Nat} (h:lS G w tI aT l b):∃ es clock,dn w l b es clock:=by
 obtain⟨es,clock,h1,h2,h3,h4⟩:=h
 refine⟨es,clock,h1, ?_,h3,h4⟩
 clear h1 h3 h4
 generalize es.toList=r at h2
 exact NH l r h2
theorem Gt {G:Gh} {w:World} (o:aj) (s:Value) (l:List (Int×ai)) (hs:cG G aT.size (av G aT) o.2.2.2.2.2 s) (hG:Agr G w) (hT:gZ Tryz.prog G) (hm:fI o=some (l,())): Calls Tryz.prog 11 #[.agg (s6 o s).toArray] w fun e w'=>∃ b es clock,e= .returned (.map (some b))/\w.heap.size<=b/\dn w' l b es clock/\Kept w w':=by
 have h:=KK G w (fun _=>none) [.agg (s6 o s).toArray] (o,()) (l,()) hG (fun _ _ h=>nomatch h) ⟨_,[],fun _=>rfl,fun h=>(Bool.noConfusion h),⟨_,rfl,NW hs⟩,rfl⟩ hm hT
 refine h.mono ?_
 rintro e w' ⟨G',ow',vs,g⟩
 obtain⟨v,us,hv,hr,h2,_⟩:=g.out
 have e2:us=[]:=h2
 obtain⟨b,hb1,hb2,hb3⟩:∃ b,v= .map (some b)/\ow' b=some (64*(24+0))/\lS G' w' tI aT l b:=hr
 subst e2;subst hv;subst hb1
 obtain⟨es,clock,hL⟩:=Ql hb3
 have ho:=g.own b _ hb2
 refine⟨b,es,clock,g.ret, ?_,hL,g.size,g.os,g.output,fun b hb=>(g.old b hb rfl).1⟩
 rcases ho.2.2 with h | h
 ·exact h
 ·exact absurd rfl h
theorem GR {G:Gh}:∀ (l:List aa) (xs:List Value),bM (av G ax) l xs->xs=l.flatMap dP
 | [],xs,h=>h
 | x::r,xs,h=>by
  obtain⟨a,b,rfl,h1,h2⟩:=h
  rw[M1 h1,GR r b h2];rfl
theorem Jo (G:Gh):∀ (l:List aa),bM (av G ax) l (l.flatMap dP)
 | []=>rfl
 | x::r=>⟨dP x,r.flatMap dP,rfl,Jn G x,Jo G r⟩
theorem Ko {G:Gh} {w:World} (x y:ai) (h1 h2:Bool) (d:aa) (l:List aa) (hG:Agr G w) (hT:gZ Tryz.prog G) (hm:gC x y h1 h2 d=some (l,())): Calls Tryz.prog 14 #[.agg (fk x).toArray,.agg (fk y).toArray,.bool h1,.bool h2,.agg (dP d).toArray] w fun e w'=>∃ v,e= .returned v/\w'.ownsRow w.heap.size 52 13 v l.length (l.flatMap dP)/\Kept w w':=by
 have h:=FW G w (fun _=>none) [.agg (fk x).toArray,.agg (fk y).toArray,.bool h1,.bool h2,.agg (dP d).toArray] (x,y,h1,h2,d,()) (l,()) hG (fun _ _ h=>nomatch h)
  ⟨_,_,fun _=>rfl,fun h=>(Bool.noConfusion h),⟨_,rfl,FQ G x⟩,_,_,fun _=>rfl,fun h=>(Bool.noConfusion h),⟨_,rfl,FQ G y⟩,_,_,fun _=>rfl,fun h=>(Bool.noConfusion h),(rfl:av G .bool h1 [.bool h1]),_,_,fun _=>rfl,fun h=>(Bool.noConfusion h),(rfl:av G .bool h2 [.bool h2]),_,[],fun _=>rfl,fun h=>(Bool.noConfusion h),⟨_,rfl,Jn G d⟩,rfl⟩ hm hT
 refine h.mono ?_
 rintro e w' ⟨G',ow',vs,g⟩
 obtain⟨v,us,hv,hr,h2,_⟩:=g.out
 have e2:us=[]:=h2
 obtain⟨⟨xs,hrow,hrl⟩,hown⟩:kD G' w' 52 ax l v/\∀ b,v.ownBlock=some b->ow' b=some (64*(24+0)):=hr
 subst e2;subst hv
 have:=GR l xs hrl
 subst this
 refine⟨v,g.ret,⟨hrow.1, ?_⟩,g.size,g.os,g.output,fun b hb=>(g.old b hb rfl).1⟩
 rcases hrow.2 with hn | ⟨b,cap,cur,hv,hb0,rest⟩
 ·exact .inl hn
 ·refine .inr ⟨b,cap,cur,hv, ?_,rest⟩
  have ho:=g.own b _ (hown b (by rw[hv];rfl))
  rcases ho.2.2 with h | h
  ·exact h
  ·exact absurd rfl h
theorem Rl {a b:World} (h:Kept a b) (k off:Nat) (v:Value) (hk:a.heap.size<=k):Kept a (b.setCell ⟨k,off,none⟩ v):=
 ⟨by rw[show (b.setCell ⟨k,off,none⟩ v).heap.size=b.heap.size from Array.size_modify];exact h.size,h.os,h.output,fun i hi=>by
   rw[<- h.block i hi]
   simp only[World.setCell,T4]
   rw[Xd (by omega)]⟩
structure St0 (w:World) (v1 v2:List Value) (wr:World):Prop where
 b0:wr.heap[w.heap.size]? =some (.cells v1.toArray 24 (0,0))
 b1:wr.heap[w.heap.size+1]? =some (.cells v2.toArray 24 (0,0))
 b2:wr.heap[w.heap.size+1+1]? =some (.cells (v1++v2).toArray 24 (0,0))
 kept:Kept w wr
 sz:w.heap.size+3<=wr.heap.size
theorem St0.keep {w wr w':World} {v1 v2:List Value} (h:St0 w v1 v2 wr) (k:Kept wr w'):St0 w v1 v2 w':=
 ⟨(k.block _ (aW h.b0)).trans h.b0,(k.block _ (aW h.b1)).trans h.b1,(k.block _ (aW h.b2)).trans h.b2,h.kept.trans k,Wk h.sz k.size⟩
theorem J5 (w:World) (v1 v2 v3:List Value) (h3:v3=v1++v2):St0 w v1 v2 (((w.alloc (.cells v1.toArray 24)).alloc (.cells v2.toArray 24)).alloc (.cells v3.toArray 24)):=by
 subst h3
 have s1:(w.alloc (.cells v1.toArray 24)).heap.size=w.heap.size+1:=Ub _
 have s2:((w.alloc (.cells v1.toArray 24)).alloc (.cells v2.toArray 24)).heap.size=w.heap.size+1+1:=(Ub _).trans (by rw[s1])
 have s3:(((w.alloc (.cells v1.toArray 24)).alloc (.cells v2.toArray 24)).alloc (.cells (v1++v2).toArray 24)).heap.size=w.heap.size+1+1+1:=(Ub _).trans (by rw[s2])
 refine⟨?_, ?_, ?_,mQ (mQ (mQ (Kept.refl w) _) _) _,by omega⟩
 ·rw[heap_alloc_old _ _ (by omega),heap_alloc_old _ _ (by omega)];exact heap_alloc_new w _
 ·rw[heap_alloc_old _ _ (by omega), <- s1];exact heap_alloc_new _ _
 ·rw[<- s2];exact heap_alloc_new _ _
theorem ga {W:World} {b:Nat} {cs:List Value} {T:TypeId} (h:W.heap[b]? =some (.cells cs.toArray T (0,0))) (j:Nat) (v:Value) (hj:cs[j]? =some v):W.cell? ⟨b,j,none⟩=some v:=Ox h hj
def NA (G:Gh) (w:World) (out:List aa) (f:Int) (e:Ending) (w':World):Prop:=
 ∃ v G',e= .returned (.tuple #[v,.int .i64 f])/\Kept w w'/\G.le G'/\G'.hnd=G.hnd/\Agr G' w'/\(∀ b,b<w.heap.size->G' b=G b)/\cG G' ax.size (av G' ax) out v
theorem pT {G:Gh} {w w':World} {f:Int} (hG:Agr G w) (hk:Kept w w'):NA G w [] f (.returned (.tuple #[.slice none 0 0,.int .i64 f])) w':=
 ⟨_,G,rfl,hk,Gh.le_refl G,rfl,hk.agr hG,fun _ _=>rfl,none,0,rfl,Wj _,WD _,.inl rfl⟩
theorem Kn {was is:aj} {out:List aa} {f n1 n2:Int} (h1:cV was=some (n1,())) (h2:cV is=some (n2,())) (h:iR was is=some (out,f,())): (n1≠0/\out=[]/\f=n1)\/(n1=0/\n2≠0/\out=[]/\f=n2)\/(n1=0/\n2=0/\∃ a b,fI was=some (a,())/\fI is=some (b,())/\ ((¬(was.1=is.1/\was.2.1=is.2.1/\was.2.2.1=is.2.2.1)/\out=[]/\f=12)\/((was.1=is.1/\was.2.1=is.2.1/\was.2.2.1=is.2.2.1)/\(a.map (·.1)).Nodup/\(b.map (·.1)).Nodup/\kN a=true/\kN b=true/\ ((gf a b=true/\out=[]/\f=12)\/(gf a b=false/\((is.2.2.2.1<was.2.2.2.1/\out=[]/\f=8)\/(¬ is.2.2.2.1<was.2.2.2.1/\∃ q n3,gH a b is.2.2.2.1 (dO a b) []=some q/\q.length<=1000000/\cU q=some (n3,())/\ ((n3≠0/\out=[]/\f=n3)\/(n3=0/\out=q/\f=0))))))))):=by
 unfold iR at h
 rw[h1,WG] at h
 dsimp only at h
 by_cases e1:n1=0
 rotate_left
 ·rw[show (n1 != 0)=true by simp[e1],WV] at h
  simp only[Option.some.injEq,Prod.mk.injEq,WO] at h
  exact .inl ⟨e1,h.1.symm,h.2.symm⟩
 rw[show (n1 != 0)=false by simp[e1],WU,h2,WG] at h
 dsimp only at h
 by_cases e2:n2=0
 rotate_left
 ·rw[show (n2 != 0)=true by simp[e2],WV] at h
  simp only[Option.some.injEq,Prod.mk.injEq,WO] at h
  exact .inr (.inl ⟨e1,e2,h.1.symm,h.2.symm⟩)
 rw[show (n2 != 0)=false by simp[e2],WU] at h
 refine .inr (.inr ⟨e1,e2, ?_⟩)
 cases ha:fI was with
 | none=>rw[ha] at h;cases h
 | some a=>
  obtain⟨a,⟨⟩⟩:=a
  rw[ha,WG] at h
  cases hb:fI is with
  | none=>rw[hb] at h;cases h
  | some b=>
   obtain⟨b,⟨⟩⟩:=b
   rw[hb,WG] at h
   dsimp only at h
   refine⟨a,b,rfl,rfl, ?_⟩
   by_cases en:was.1=is.1/\was.2.1=is.2.1/\was.2.2.1=is.2.2.1
   rotate_left
   ·have:(!(was.1==is.1)||(!(was.2.1==is.2.1)|| !(was.2.2.1==is.2.2.1)))=true:=by
     cases h5:(!(was.1==is.1)||(!(was.2.1==is.2.1)|| !(was.2.2.1==is.2.2.1))) with
     | true=>rfl
     | false=>
      simp only[Ut,Uo,WR] at h5
      exact absurd h5 en
    rw[this,WV] at h
    simp only[Option.some.injEq,Prod.mk.injEq,WO] at h
    exact .inl ⟨en,h.1.symm,h.2.symm⟩
   rw[show (!(was.1==is.1)||(!(was.2.1==is.2.1)|| !(was.2.2.1==is.2.2.1)))=false by simp[en.1,en.2.1,en.2.2],WU] at h
   obtain⟨hc,h⟩:=eC h
   simp only[Ug] at hc
   refine .inr ⟨en,Xk hc.1.1,Xk hc.1.2,hc.2.1,hc.2.2, ?_⟩
   cases hcl:gf a b with
   | true=>
    rw[hcl,WV] at h
    simp only[Option.some.injEq,Prod.mk.injEq,WO] at h
    exact .inl ⟨rfl,h.1.symm,h.2.symm⟩
   | false=>
    rw[hcl,WU] at h
    refine .inr ⟨rfl, ?_⟩
    by_cases hd:is.2.2.2.1<was.2.2.2.1
    ·rw[WX hd,WV] at h
     simp only[Option.some.injEq,Prod.mk.injEq,WO] at h
     exact .inl ⟨hd,h.1.symm,h.2.symm⟩
    ·rw[WW hd,WU] at h
     refine .inr ⟨hd, ?_⟩
     cases hq:gH a b is.2.2.2.1 (dO a b) [] with
     | none=>rw[hq] at h;cases h
     | some q=>
      rw[hq,WG] at h
      obtain⟨hl,h⟩:=eC h
      cases hn:cU q with
      | none=>rw[hn] at h;cases h
      | some n3=>
       obtain⟨n3,⟨⟩⟩:=n3
       rw[hn,WG] at h
       dsimp only at h
       refine⟨q,n3,rfl,Xk hl,hn, ?_⟩
       by_cases e3:n3=0
       ·rw[show (n3 != 0)=false by simp[e3],WU] at h
        simp only[Option.some.injEq,Prod.mk.injEq,WO] at h
        exact .inr ⟨e3,h.1.symm,h.2.symm⟩
       ·rw[show (n3 != 0)=true by simp[e3],WV] at h
        simp only[Option.some.injEq,Prod.mk.injEq,WO] at h
        exact .inl ⟨e3,h.1.symm,h.2.symm⟩
theorem S3 (W:World) (v1 v2:List Value) (h1:v1.length=6) (h2:v2.length=6): Sem.run Tryz.prog (Instr.buildSlice 35 2 #[(0,.agg v1.toArray),(1,.agg v2.toArray)]) W= .ok (.slice (some ⟨W.heap.size,0,none⟩) 2 2) (W.alloc (.cells (v1++v2).toArray 24)):=by
 match v1,v2,h1,h2 with
 | [a1,a2,a3,a4,a5,a6],[b1,b2,b3,b4,b5,b6],_,_=>
  exact run_buildSlice W 35 24 2 _ _ Tryz.t24 (.agg #[.string ⟨#[]⟩,.string ⟨#[]⟩,.string ⟨#[]⟩,.int .i64 0,.int .i64 0,.slice none 0 0]) Tryz.underlying35 (by kernel_rfl) (by kernel_rfl) (by decide) (by decide) (by kernel_rfl)
end Go.Proofs.SeatA
set_option maxRecDepth 100000
namespace Go.Proofs
open Go.Shelf
def Tryz.JB:Go.Shelf.Ren:=⟨fun | 7=>36 | 10=>62 | n=>n,fun | 23=>88 | 26=>3 | 3=>61 | 28=>48 | 0=>0 | 27=>47 | 33=>71 | 4=>4 | n=>n,fun | n=>n⟩
theorem Tryz.R5:Go.Proofs.SlLaysZI.n7 Tryz.prog Tryz.JB:={
 mixed:=by kernel_rfl
 f7:=⟨Tryz.f36.name,by decide,Tryz.func36.trans (congrArg some (by kernel_rfl))⟩
 f10:=⟨Tryz.f62.name,by decide,Tryz.func62.trans (congrArg some (by kernel_rfl))⟩
 t0:=Tryz.underlying0
 a0:=Tryz.isAgg0
 z0:=Tryz.sizeOf0
 v0:=Tryz.zeroValue0
 t4:=Tryz.underlying4
 a4:=Tryz.isAgg4
 z4:=Tryz.sizeOf4
 v4:=Tryz.zeroValue4
 t23:=Tryz.underlying88
 a23:=Tryz.isAgg88
 z23:=Tryz.sizeOf88
 v23:=Tryz.zeroValue88
 t26:=Tryz.underlying3
 a26:=Tryz.isAgg3
 z26:=Tryz.sizeOf3
 v26:=Tryz.zeroValue3
 t27:=Tryz.underlying47
 a27:=Tryz.isAgg47
 z27:=Tryz.sizeOf47
 v27:=Tryz.zeroValue47
 t28:=Tryz.underlying48
 a28:=Tryz.isAgg48
 z28:=Tryz.sizeOf48
 v28:=Tryz.zeroValue48
 t33:=Tryz.underlying71
 a33:=Tryz.isAgg71
 z33:=Tryz.sizeOf71
 v33:=Tryz.zeroValue71 }
def Tryz.JC:Go.Shelf.Ren:=⟨fun | 7=>13 | 10=>27 | n=>n,fun | 23=>39 | 26=>3 | 3=>4 | 28=>48 | 0=>0 | 27=>47 | 33=>71 | 4=>4 | n=>n,fun | n=>n⟩
theorem Tryz.R6:Go.Proofs.SlLaysZI.n7 Tryz.prog Tryz.JC:={
 mixed:=by kernel_rfl
 f7:=⟨Tryz.f13.name,by decide,Tryz.func13.trans (congrArg some (by kernel_rfl))⟩
 f10:=⟨Tryz.f27.name,by decide,Tryz.func27.trans (congrArg some (by kernel_rfl))⟩
 t0:=Tryz.underlying0
 a0:=Tryz.isAgg0
 z0:=Tryz.sizeOf0
 v0:=Tryz.zeroValue0
 t4:=Tryz.underlying4
 a4:=Tryz.isAgg4
 z4:=Tryz.sizeOf4
 v4:=Tryz.zeroValue4
 t23:=Tryz.underlying39
 a23:=Tryz.isAgg39
 z23:=Tryz.sizeOf39
 v23:=Tryz.zeroValue39
 t26:=Tryz.underlying3
 a26:=Tryz.isAgg3
 z26:=Tryz.sizeOf3
 v26:=Tryz.zeroValue3
 t27:=Tryz.underlying47
 a27:=Tryz.isAgg47
 z27:=Tryz.sizeOf47
 v27:=Tryz.zeroValue47
 t28:=Tryz.underlying48
 a28:=Tryz.isAgg48
 z28:=Tryz.sizeOf48
 v28:=Tryz.zeroValue48
 t33:=Tryz.underlying71
 a33:=Tryz.isAgg71
 z33:=Tryz.sizeOf71
 v33:=Tryz.zeroValue71 }
def Tryz.E6:Go.Shelf.Ren:=⟨fun | 6=>12 | 8=>25 | 9=>26 | 11=>45 | 13=>47 | 12=>46 | 23=>89 | 24=>90 | 14=>80 | 15=>81 | 16=>82 | 17=>83 | 18=>84 | 19=>85 | 20=>86 | 21=>87 | 22=>88 | 25=>115 | 26=>116 | 27=>117 | 28=>118 | 29=>119 | 30=>120 | 31=>139 | n=>n,fun | 26=>3 | 28=>48 | 24=>45 | 0=>0 | 3=>3 | 37=>106 | 48=>154 | 50=>156 | 4=>4 | 40=>146 | 39=>145 | 45=>151 | 5=>5 | 9=>9 | 51=>174 | 55=>178 | 57=>195 | 58=>196 | 33=>71 | n=>n,fun | n=>n⟩
theorem Tryz.Ob:Go.Proofs.SlLaysZI.n6 Tryz.prog Tryz.E6:={
 mixed:=by kernel_rfl
 f6:=⟨Tryz.f12.name,by decide,Tryz.func12.trans (congrArg some (by kernel_rfl))⟩
 f8:=⟨Tryz.f25.name,by decide,Tryz.func25.trans (congrArg some (by kernel_rfl))⟩
 f11:=⟨Tryz.f45.name,by decide,Tryz.func45.trans (congrArg some (by kernel_rfl))⟩
 t0:=Tryz.underlying0
 a0:=Tryz.isAgg0
 z0:=Tryz.sizeOf0
 v0:=Tryz.zeroValue0
 t24:=Tryz.underlying45
 a24:=Tryz.isAgg45
 z24:=Tryz.sizeOf45
 v24:=Tryz.zeroValue45
 t26:=Tryz.underlying3
 a26:=Tryz.isAgg3
 z26:=Tryz.sizeOf3
 v26:=Tryz.zeroValue3
 t28:=Tryz.underlying48
 a28:=Tryz.isAgg48
 z28:=Tryz.sizeOf48
 v28:=Tryz.zeroValue48
 i26:=by kernel_rfl }
def Tryz.QU:Go.Shelf.Ren:=⟨fun | 5=>26 | 8=>47 | 7=>46 | 19=>89 | 20=>90 | 10=>80 | 11=>81 | 12=>82 | 13=>83 | 14=>84 | 15=>85 | 16=>86 | 17=>87 | 18=>88 | 30=>115 | 31=>116 | 32=>117 | 33=>118 | 34=>119 | 35=>120 | 40=>139 | n=>n,fun | 23=>45 | 25=>3 | 3=>3 | 32=>106 | 22=>45 | 0=>0 | 44=>154 | 46=>156 | 4=>4 | 36=>146 | 35=>145 | 41=>151 | 5=>5 | 9=>9 | 53=>174 | 57=>178 | 63=>195 | 64=>196 | n=>n,fun | n=>n⟩
theorem Tryz.R7:Go.Proofs.SlLaysM.n5 Tryz.prog Tryz.QU:={
 mixed:=by kernel_rfl
 f5:=⟨Tryz.f26.name,by decide,Tryz.func26.trans (congrArg some (by kernel_rfl))⟩
 f7:=⟨Tryz.f46.name,by decide,Tryz.func46.trans (congrArg some (by kernel_rfl))⟩
 f8:=Tryz.func47.trans (congrArg some (by kernel_rfl))
 f10:=⟨Tryz.f80.name,by decide,Tryz.func80.trans (congrArg some (by kernel_rfl))⟩
 f11:=⟨Tryz.f81.name,by decide,Tryz.func81.trans (congrArg some (by kernel_rfl))⟩
 f12:=⟨Tryz.f82.name,by decide,Tryz.func82.trans (congrArg some (by kernel_rfl))⟩
 f13:=⟨Tryz.f83.name,by decide,Tryz.func83.trans (congrArg some (by kernel_rfl))⟩
 f14:=⟨Tryz.f84.name,by decide,Tryz.func84.trans (congrArg some (by kernel_rfl))⟩
 f15:=⟨Tryz.f85.name,by decide,Tryz.func85.trans (congrArg some (by kernel_rfl))⟩
 f16:=⟨Tryz.f86.name,by decide,Tryz.func86.trans (congrArg some (by kernel_rfl))⟩
 f17:=⟨Tryz.f87.name,by decide,Tryz.func87.trans (congrArg some (by kernel_rfl))⟩
 f18:=⟨Tryz.f88.name,by decide,Tryz.func88.trans (congrArg some (by kernel_rfl))⟩
 f19:=Tryz.func89.trans (congrArg some (by kernel_rfl))
 f20:=Tryz.func90.trans (congrArg some (by kernel_rfl))
 f30:=⟨Tryz.f115.name,by decide,Tryz.func115.trans (congrArg some (by kernel_rfl))⟩
 f31:=Tryz.func116.trans (congrArg some (by kernel_rfl))
 f32:=Tryz.func117.trans (congrArg some (by kernel_rfl))
 f33:=⟨Tryz.f118.name,by decide,Tryz.func118.trans (congrArg some (by kernel_rfl))⟩
 f34:=⟨Tryz.f119.name,by decide,Tryz.func119.trans (congrArg some (by kernel_rfl))⟩
 f35:=⟨Tryz.f120.name,by decide,Tryz.func120.trans (congrArg some (by kernel_rfl))⟩
 f40:=⟨Tryz.f139.name,by decide,Tryz.func139.trans (congrArg some (by kernel_rfl))⟩
 t0:=Tryz.underlying0
 a0:=Tryz.isAgg0
 z0:=Tryz.sizeOf0
 v0:=Tryz.zeroValue0
 t3:=Tryz.underlying3
 a3:=Tryz.isAgg3
 z3:=Tryz.sizeOf3
 v3:=Tryz.zeroValue3
 t4:=Tryz.underlying4
 a4:=Tryz.isAgg4
 z4:=Tryz.sizeOf4
 v4:=Tryz.zeroValue4
 t5:=Tryz.underlying5
 a5:=Tryz.isAgg5
 z5:=Tryz.sizeOf5
 v5:=Tryz.zeroValue5
 t9:=Tryz.underlying9
 a9:=Tryz.isAgg9
 z9:=Tryz.sizeOf9
 v9:=Tryz.zeroValue9
 t22:=Tryz.underlying45
 a22:=Tryz.isAgg45
 z22:=Tryz.sizeOf45
 v22:=Tryz.zeroValue45
 t23:=Tryz.underlying45
 a23:=Tryz.isAgg45
 z23:=Tryz.sizeOf45
 v23:=Tryz.zeroValue45
 t25:=Tryz.underlying3
 a25:=Tryz.isAgg3
 z25:=Tryz.sizeOf3
 v25:=Tryz.zeroValue3
 t32:=Tryz.underlying106
 a32:=Tryz.isAgg106
 z32:=Tryz.sizeOf106
 v32:=Tryz.zeroValue106
 t35:=Tryz.underlying145
 a35:=Tryz.isAgg145
 z35:=Tryz.sizeOf145
 v35:=Tryz.zeroValue145
 t36:=Tryz.underlying146
 a36:=Tryz.isAgg146
 z36:=Tryz.sizeOf146
 v36:=Tryz.zeroValue146
 t41:=Tryz.underlying151
 a41:=Tryz.isAgg151
 z41:=Tryz.sizeOf151
 v41:=Tryz.zeroValue151
 t44:=Tryz.underlying154
 a44:=Tryz.isAgg154
 z44:=Tryz.sizeOf154
 v44:=Tryz.zeroValue154
 t46:=Tryz.underlying156
 a46:=Tryz.isAgg156
 z46:=Tryz.sizeOf156
 v46:=Tryz.zeroValue156
 t53:=Tryz.underlying174
 a53:=Tryz.isAgg174
 z53:=Tryz.sizeOf174
 v53:=Tryz.zeroValue174
 t57:=Tryz.underlying178
 a57:=Tryz.isAgg178
 z57:=Tryz.sizeOf178
 v57:=Tryz.zeroValue178
 t63:=Tryz.underlying195
 a63:=Tryz.isAgg195
 z63:=Tryz.sizeOf195
 v63:=Tryz.zeroValue195
 t64:=Tryz.underlying196
 a64:=Tryz.isAgg196
 z64:=Tryz.sizeOf196
 v64:=Tryz.zeroValue196 }
end Go.Proofs
namespace Go.Proofs.SeatA
open Go.Dn Go.Md Go.Proofs Go.RowKit Go.Shelf Go.Lib Go.Sort
theorem QV (m:Nat):AnyZI.SortsIn Tryz.prog Tryz.E6 Fence.wide m:=
 ⟨fun blk off cap ss W hH hblk hsz=>callsIn_wide.2 (AnyM.slices_Sort_int Tryz.R7 blk off cap ss W hH hblk hsz),
  fun p cap W=>callsIn_wide.2 (AnyM.slices_Sort_int_none Tryz.R7 p cap W)⟩
def Qg:sI:= .mk 62
theorem Ta:eP Tryz.prog 36:=lC (fn:=Tryz.f36) (by kernel_rfl) rfl (by decide)
theorem Td:DY Tryz.prog 36 Qg:=
 ⟨88,fun mb W=>callsIn_wide.1 (AnyZI.keys_in Tryz.R5 Fence.wide 5 trivial rfl mb W)⟩
def Qf:sI:= .srt 62 3 3
theorem S9:eP Tryz.prog 12:=lC (fn:=Tryz.f12) (by kernel_rfl) rfl (by decide)
theorem Tb:DY Tryz.prog 12 Qf:=by
 refine⟨Tryz.underlying3,fun Bm b nn D0 w hB hc hown vW hbytes=> ?_⟩
 have hseq:SeqGives Fence.wide 2 Tryz.prog 62 #[.pointer (some ⟨Bm,0,none⟩)] encZ (fun ss=>ss.Perm (intKeys D0)) (Maps.size D0) w:=
  AnyZI.keys_gives (ρ:=Tryz.JB) { Tryz.R5 with } Fence.wide _ trivial rfl (by omega) Bm b nn D0 _ hB hc hown
 have cS:=AnyZI.sorted_in Tryz.Ob Fence.wide 5 trivial trivial trivial trivial rfl (by omega) (QV _) (enters_of Tryz.func26 (by kernel_rfl) rfl) 62 #[.pointer (some ⟨Bm,0,none⟩)] trivial (enters_of Tryz.func62 (by kernel_rfl) rfl) _ _ vW hbytes _ hseq
 change CallsIn _ _ Tryz.prog 12 _ _ _ at cS
 refine (callsIn_wide.1 cS).mono ?_
 rintro e w' ⟨v,ss,he,hS,hrow,_,hb⟩
 exact⟨v,ss,he,hS,hrow,hb⟩
def S8:sI:= .mk 27
theorem Tc:DY Tryz.prog 13 S8:=
 ⟨39,fun mb W=>callsIn_wide.1 (AnyZI.keys_in Tryz.R6 Fence.wide 5 trivial rfl mb W)⟩
def Su:sI:= .srt 27 3 3
theorem Sv:DY Tryz.prog 12 Su:=by
 refine⟨Tryz.underlying3,fun Bm b nn D0 w hB hc hown vW hbytes=> ?_⟩
 have hseq:SeqGives Fence.wide 2 Tryz.prog 27 #[.pointer (some ⟨Bm,0,none⟩)] encZ (fun ss=>ss.Perm (intKeys D0)) (Maps.size D0) w:=
  AnyZI.keys_gives (ρ:=Tryz.JC) { Tryz.R6 with } Fence.wide _ trivial rfl (by omega) Bm b nn D0 _ hB hc hown
 have cS:=AnyZI.sorted_in Tryz.Ob Fence.wide 5 trivial trivial trivial trivial rfl (by omega) (QV _) (enters_of Tryz.func26 (by kernel_rfl) rfl) 27 #[.pointer (some ⟨Bm,0,none⟩)] trivial (enters_of Tryz.func27 (by kernel_rfl) rfl) _ _ vW hbytes _ hseq
 change CallsIn _ _ Tryz.prog 12 _ _ _ at cS
 refine (callsIn_wide.1 cS).mono ?_
 rintro e w' ⟨v,ss,he,hS,hrow,_,hb⟩
 exact⟨v,ss,he,hS,hrow,hb⟩
end Go.Proofs.SeatA
