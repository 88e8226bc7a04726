/-
  order.Changed: its calls; the keys of a map, sorted. No condition.
-/
import Derived.Test.YtekilbogbgmbbaaGreatDoorYw
import Derived.Deep.LoopGhost
import Derived.Maps.RangeRun
import Derived.Test.YtekilbogbgmbbaaGreatDoorYs
import Derived.WalkKit
import Derived.Test.YtekilbogbgmbbaaGreatDoorYv
import Derived.Test.YtekilbogbgmbbaaGreatDoorYd
import Derived.Test.YtekilbogbgmbbaaGreatDoorYt
import Derived.Shelf.SlIterI.Sorted
import Derived.LoopN
set_option linter.all false
set_option maxRecDepth 100000
namespace Go.Proofs.SeatA
open Go.Dn Go.Md Go.Proofs Go.RowKit Go.Shelf Go.Lib
theorem oZ {a b:World} (h:Kept a b) (o:Obj):Kept a (b.alloc o):=⟨afu h.size (by show b.heap.size<=(b.heap.push o).size;rw[ac8];omega),h.os,h.output,fun i hi=>(heap_alloc_old b o (afx hi h.size)).trans (h.block i hi)⟩
structure KB (B:Nat) (w w':World):Prop where
 size:w.heap.size<=w'.heap.size
 os:w'.os=w.os
 output:w'.output=w.output
 block:∀ k,k<B->w'.heap[k]? =w.heap[k]?
theorem KB.refl (B:Nat) (w:World):KB B w w:=⟨aft _,rfl,rfl,fun _ _=>rfl⟩
theorem KB.trans {B:Nat} {a b c:World} (h:KB B a b) (k:KB B b c):KB B a c:=⟨afu h.size k.size,k.os.trans h.os,k.output.trans h.output,fun i hi=>(k.block i hi).trans (h.block i hi)⟩
theorem KB.of {B:Nat} {a b:World} (h:Kept a b) (hB:B<=a.heap.size):KB B a b:=⟨h.size,h.os,h.output,fun i hi=>h.block i (by omega)⟩
theorem KB.agr {G:Gh} {B:Nat} {w w':World} (h:KB B w w') (hG:Agr G w) (hB:∀ b o,G b=some o->b<B):Agr G w':=fun b o hb=>by rw[h.block b (hB b o hb)];exact hG b o hb
theorem Kept.agr {G:Gh} {w w':World} (h:Kept w w') (hG:Agr G w):Agr G w':=fun b o hb=>(h.block b (bf (hG b o hb))).trans (hG b o hb)
theorem EU (b:Nat):∀ (vs:List Value) (o:Nat) (w:World),(w.setCells b o vs).heap.size=w.heap.size
 | [],_,_=>rfl
 | v::r,o,w=>by rw[World.setCells,EU b r];exact Array.size_modify
theorem CY (b:Nat):∀ (vs:List Value) (o:Nat) (w:World),(w.setCells b o vs).os=w.os/\(w.setCells b o vs).output=w.output/\∀ i,i≠b->(w.setCells b o vs).heap[i]? =w.heap[i]?
 | [],_,_=>⟨rfl,rfl,fun _ _=>rfl⟩
 | v::r,o,w=>by
  obtain⟨h1,h2,h3⟩:=CY b r (o+1) (w.setCell ⟨b,o,none⟩ v)
  refine⟨h1,h2,fun i hi=>(h3 i hi).trans ?_⟩
  simp only[World.setCell,ac2]
  rw[agd (fun e=>hi e.symm)]
theorem rC (W:World) (z:Array Value) (cs:List Value) (T:TypeId) (hz:z.size=cs.length) (h1:∀ v∈cs,v.oneCell'=true): ∃ W2,(storeCells ⟨W.heap.size,0,none⟩ cs 0).run Tryz.prog (W.alloc (.cells z T))= .ok () W2/\W2.heap[W.heap.size]? =some (.cells cs.toArray T (0,0))/\Kept W W2/\W.heap.size<W2.heap.size:=by
 refine⟨(W.alloc (.cells z T)).setCells W.heap.size 0 cs, ?_⟩
 have hb:=heap_alloc_new W (.cells z T)
 have hs:(W.alloc (.cells z T)).heap.size=W.heap.size+1:=ac8 _
 obtain⟨cur',h2,h3⟩:=ke W.heap.size T cs 0 (W.alloc (.cells z T)) z hb (by omega)
 have hsz2:((W.alloc (.cells z T)).setCells W.heap.size 0 cs).heap.size=W.heap.size+1:=by
  rw[EU,hs]
 refine⟨?_, ?_,⟨by rw[hsz2];omega,(CY _ _ _ _).1,(CY _ _ _ _).2.1,fun b hb=> ?_⟩,by rw[hsz2];omega⟩
 ·have:=run_storeCells_cells (P:=Tryz.prog) W.heap.size 0 cs 0 (W.alloc (.cells z T)) (fun j hj=>by
   simp only[World.cell?,hb,afM]
   rw[ac0 (by omega)];rfl) (fun j hj=>by unfold World.frozen?;rw[hb];rfl) h1
  exact this
 ·rw[h2]
  have:cur'=cs.toArray:=by
   apply Array.toList_inj.1
   rw[h3]
   simp[hz]
  rw[this]
 ·rw[(CY _ _ _ _).2.2 b (by omega),heap_alloc_old W _ hb]
theorem kJ {W:World} {b k:Nat} {cs:List Value} {T:TypeId} {fz:Nat×Nat} (hk:cs.length=k) (h:W.heap[b]? =some (.cells cs.toArray T fz)):Sem.run Tryz.prog (loadCellsFrom ⟨b,0,none⟩ 0 k #[]) W= .ok cs.toArray W:=by
 have:=run_loadCells_list (P:=Tryz.prog) W ⟨b,0,none⟩ cs (fun j v hj=>by
  rw[Addr.add_lit]
  simp only[World.cell?,h,afM]
  simpa using hj)
 rw[hk] at this
 exact this
theorem Wy {W:World} {b:Nat} {cs:List Value} {T:TypeId} {fz:Nat×Nat} (h:W.heap[b]? =some (.cells cs.toArray T fz)) {j:Nat} {v:Value} (hj:cs[j]? =some v):W.cell? ⟨b,j,none⟩=some v:=by
 simp only[World.cell?,h]
 simpa using hj
theorem TK {W:World} {b k m:Nat} {cs row:List Value} {T:TypeId} {fz:Nat×Nat} (hk:cs.length=k) (h:W.heap[b]? =some (.cells row.toArray T fz)) (hr:∀ (j:Nat) (v:Value),cs[j]? =some v->row[m+j]? =some v):Sem.run Tryz.prog (loadCellsFrom ⟨b,m,none⟩ 0 k #[]) W= .ok cs.toArray W:=by
 have:=run_loadCells_list (P:=Tryz.prog) W ⟨b,m,none⟩ cs (fun j v hj=>by
  rw[Addr.add_lit]
  simp only[World.cell?,h]
  simpa using hr j v hj)
 rw[hk] at this
 exact this
def wA (o:aj) (s:Value):List Value:=[.string (bs o.1),.string (bs o.2.1),.string (bs o.2.2.1),.int .i64 o.2.2.2.1,.int .i64 o.2.2.2.2.1,s]
theorem QI {G:Gh} {o:aj} {cs:List Value} (h:aB G aH o cs):∃ s,cs=wA o s/\de G aJ.size (aB G aJ) o.2.2.2.2.2 s:=by
 obtain⟨a1,a2,a3,a4,a5,a6⟩:=o
 obtain⟨c1,r1,rfl,h1,c2,r2,rfl,h2,c3,r3,rfl,h3,c4,r4,rfl,h4,c5,r5,rfl,h5,s,hs,h6⟩:=h
 have e1:c1=[.string (bs a1)]:=h1
 have e2:c2=[.string (bs a2)]:=h2
 have e3:c3=[.string (bs a3)]:=h3
 have e4:c4=[.int .i64 a4]:=h4
 have e5:c5=[.int .i64 a5]:=h5
 subst e1;subst e2;subst e3;subst e4;subst e5;subst hs
 exact⟨s,rfl,h6⟩
theorem VU {G:Gh} {o:aj} {s:Value} (h:de G aJ.size (aB G aJ) o.2.2.2.2.2 s):aB G aH o (wA o s):=by
 obtain⟨a1,a2,a3,a4,a5,a6⟩:=o
 exact⟨[.string (bs a1)],_,rfl,rfl,[.string (bs a2)],_,rfl,rfl,[.string (bs a3)],_,rfl,rfl,[.int .i64 a4],_,rfl,rfl,[.int .i64 a5],_,rfl,rfl,s,rfl,h⟩
def gi (x:ai):List Value:=[.int .i64 x.1,.string (bs x.2.1),.int .i64 x.2.2.1.1,.int .i64 x.2.2.1.2,.string (bs x.2.2.2.1),.int .i64 x.2.2.2.2.1.1,.int .i64 x.2.2.2.2.1.2,.int .i64 x.2.2.2.2.2]
theorem FW {G:Gh} {x:ai} {cs:List Value} (h:aB G aJ x cs):cs=gi x:=by
 obtain⟨a1,a2,⟨a3,a4⟩,a5,⟨a6,a7⟩,a8⟩:=x
 obtain⟨c1,r1,rfl,h1,c2,r2,rfl,h2,c3,r3,rfl,⟨c3a,c3b,rfl,h3,h4⟩,c5,r5,rfl,h5,c6,r6,rfl,⟨c6a,c6b,rfl,h6,h7⟩,h8⟩:=h
 have e1:c1=[.int .i64 a1]:=h1
 have e2:c2=[.string (bs a2)]:=h2
 have e3:c3a=[.int .i64 a3]:=h3
 have e4:c3b=[.int .i64 a4]:=h4
 have e5:c5=[.string (bs a5)]:=h5
 have e6:c6a=[.int .i64 a6]:=h6
 have e7:c6b=[.int .i64 a7]:=h7
 have e8:r6=[.int .i64 a8]:=h8
 subst e1;subst e2;subst e3;subst e4;subst e5;subst e6;subst e7;subst e8
 rfl
theorem Mf (G:Gh) (x:ai):aB G aJ x (gi x):=by
 obtain⟨a1,a2,⟨a3,a4⟩,a5,⟨a6,a7⟩,a8⟩:=x
 exact⟨[.int .i64 a1],_,rfl,rfl,[.string (bs a2)],_,rfl,rfl,[.int .i64 a3,.int .i64 a4],_,rfl,⟨[.int .i64 a3],_,rfl,rfl,rfl⟩,[.string (bs a5)],_,rfl,rfl,[.int .i64 a6,.int .i64 a7],_,rfl,⟨[.int .i64 a6],_,rfl,rfl,rfl⟩,rfl⟩
def eN (d:aa):List Value:=[.int .i64 d.1,.int .i64 d.2.1,.int .i64 d.2.2.1,.int .i64 d.2.2.2.1,.int .i64 d.2.2.2.2.1,.string (bs d.2.2.2.2.2.1),.int .i64 d.2.2.2.2.2.2.1.1,.int .i64 d.2.2.2.2.2.2.1.2,.string (bs d.2.2.2.2.2.2.2.1),.int .i64 d.2.2.2.2.2.2.2.2.1.1,.int .i64 d.2.2.2.2.2.2.2.2.1.2,.int .i64 d.2.2.2.2.2.2.2.2.2.1,.int .i64 d.2.2.2.2.2.2.2.2.2.2]
theorem UR {G:Gh} {d:aa} {cs:List Value} (h:aB G aq d cs):cs=eN d:=by
 obtain⟨a1,a2,a3,a4,a5,a6,⟨a7,a8⟩,a9,⟨a10,a11⟩,a12,a13⟩:=d
 obtain⟨c1,r1,rfl,h1,c2,r2,rfl,h2,c3,r3,rfl,h3,c4,r4,rfl,h4,c5,r5,rfl,h5,c6,r6,rfl,h6,c7,r7,rfl,⟨c7a,c7b,rfl,h7a,h7b⟩,c8,r8,rfl,h8,c9,r9,rfl,⟨c9a,c9b,rfl,h9a,h9b⟩,c10,r10,rfl,h10,h11⟩:=h
 have e1:c1=[.int .i64 a1]:=h1
 have e2:c2=[.int .i64 a2]:=h2
 have e3:c3=[.int .i64 a3]:=h3
 have e4:c4=[.int .i64 a4]:=h4
 have e5:c5=[.int .i64 a5]:=h5
 have e6:c6=[.string (bs a6)]:=h6
 have e7:c7a=[.int .i64 a7]:=h7a
 have e8:c7b=[.int .i64 a8]:=h7b
 have e9:c8=[.string (bs a9)]:=h8
 have e10:c9a=[.int .i64 a10]:=h9a
 have e11:c9b=[.int .i64 a11]:=h9b
 have e12:c10=[.int .i64 a12]:=h10
 have e13:r10=[.int .i64 a13]:=h11
 subst e1;subst e2;subst e3;subst e4;subst e5;subst e6;subst e7;subst e8;subst e9;subst e10;subst e11;subst e12;subst e13
 rfl
theorem Qh (G:Gh) (d:aa):aB G aq d (eN d):=by
 obtain⟨a1,a2,a3,a4,a5,a6,⟨a7,a8⟩,a9,⟨a10,a11⟩,a12,a13⟩:=d
 exact⟨[.int .i64 a1],_,rfl,rfl,[.int .i64 a2],_,rfl,rfl,[.int .i64 a3],_,rfl,rfl,[.int .i64 a4],_,rfl,rfl,[.int .i64 a5],_,rfl,rfl,[.string (bs a6)],_,rfl,rfl,
  [.int .i64 a7,.int .i64 a8],_,rfl,⟨[.int .i64 a7],_,rfl,rfl,rfl⟩,[.string (bs a9)],_,rfl,rfl,[.int .i64 a10,.int .i64 a11],_,rfl,⟨[.int .i64 a10],_,rfl,rfl,rfl⟩,[.int .i64 a12],_,rfl,rfl,rfl⟩
theorem VT {o:aj} {s:Value} (hs:s.oneCell'=true):∀ v∈wA o s,v.oneCell'=true:=by
 intro v hv
 simp only[wA,aeP,List.not_mem_nil,or_false] at hv
 rcases hv with h | h | h | h | h | h<;>subst h<;>first | rfl | exact hs
theorem Ga (x:ai):∀ v∈gi x,v.oneCell'=true:=by
 intro v hv
 simp only[gi,aeP,List.not_mem_nil,or_false] at hv
 rcases hv with h | h | h | h | h | h | h | h<;>subst h<;>rfl
theorem TT (x:aa):∀ v∈eN x,v.oneCell'=true:=by
 intro v hv
 simp only[eN,aeP,List.not_mem_nil,or_false] at hv
 rcases hv with h | h | h | h | h | h | h | h | h | h | h | h | h<;>subst h<;>rfl
theorem QH {G:Gh} {α:Type} {sz:Nat} {R:α->List Value->Prop} {l:List α} {s:Value} (h:de G sz R l s):s.oneCell'=true:=by
 obtain⟨a,cap,rfl,_⟩:=h;rfl
theorem HL {G:Gh} {w:World} (o:aj) (s:Value) (n:Int) (hs:de G aJ.size (aB G aJ) o.2.2.2.2.2 s) (hG:Agr G w) (hT:jf Tryz.prog G) (hm:dM o=some (n,())): Calls Tryz.prog 14 #[.agg (wA o s).toArray] w fun e w'=>e= .returned (.int .i64 n)/\Kept w w':=by
 have h:=Hp G w (fun _=>none) [.agg (wA o s).toArray] (o,()) (n,()) hG (fun _ _ h=>nomatch h) ⟨_,[],fun _=>rfl,fun h=>(Bool.noConfusion h),⟨_,rfl,VU hs⟩,rfl⟩ hm hT
 refine h.mono ?_
 rintro e w' ⟨G',ow',vs,g⟩
 obtain⟨v,us,hv,hr,h2,_⟩:=g.out
 have e2:us=[]:=h2
 have e1:[v]=[Value.int .i64 n]:=hr
 cases e1
 subst e2;subst hv
 exact⟨g.ret,g.size,g.os,g.output,fun b hb=>(g.old b hb rfl).1⟩
theorem SO {G:Gh} {w:World} (l:List aa) (v:Value) (n:Int) (hv:de G aq.size (aB G aq) l v) (hG:Agr G w) (hT:jf Tryz.prog G) (hm:dL l=some (n,())): Calls Tryz.prog 19 #[v] w fun e w'=>e= .returned (.int .i64 n)/\Kept w w':=by
 have h:=Ho G w (fun _=>none) [v] (l,()) (n,()) hG (fun _ _ h=>nomatch h) ⟨_,[],fun _=>rfl,fun h=>(Bool.noConfusion h),⟨_,rfl,hv⟩,rfl⟩ hm hT
 refine h.mono ?_
 rintro e w' ⟨G',ow',vs,g⟩
 obtain⟨v,us,hv,hr,h2,_⟩:=g.out
 have e2:us=[]:=h2
 have e1:[v]=[Value.int .i64 n]:=hr
 cases e1
 subst e2;subst hv
 exact⟨g.ret,g.size,g.os,g.output,fun b hb=>(g.old b hb rfl).1⟩
structure dZ (w:World) (l:List (Int×ai)) (b:Nat) (es:Array MapEntry) (clock:Nat):Prop where
 heap:w.heap[b]? =some (.map es clock)
 ent:es.toList.map (fun e=>(e.key,e.val))=l.map fun p=>(Value.int .i64 p.1,Value.agg (gi p.2).toArray)
 born:∀ (i:Nat) (e:MapEntry),es.toList[i]? =some e->e.born<clock
 incr:es.toList.Pairwise (fun a b=>a.born<b.born)
theorem VC {G:Gh}:∀ (l:List (Int×ai)) (r:List MapEntry),aF (qp G tI aJ) l r->r.map (fun e=>(e.key,e.val))=l.map fun p=>(Value.int .i64 p.1,Value.agg (gi p.2).toArray)
 | [],r,h=>by
  have:r=[]:=h
  subst this;rfl
 | p::l,r,h=>by
  obtain⟨e,r',rfl,⟨hk,hv⟩,ht⟩:=h
  rw[aeK,aeK,VC l r' ht]
  obtain⟨vs,hv1,hv2⟩:=hv
  have hk':[e.key]=[Value.int .i64 p.1]:=hk
  cases FW hv2
  rw[hv1,(List.cons.inj hk').1]
theorem YS {G:Gh} {w:World} {l:List (Int×ai)} {b:Nat} (h:nE G w tI aJ l b):∃ es clock,dZ w l b es clock:=by
 obtain⟨es,clock,h1,h2,h3,h4⟩:=h
 refine⟨es,clock,h1, ?_,h3,h4⟩
 clear h1 h3 h4
 generalize es.toList=r at h2
 exact VC l r h2
theorem MS {G:Gh} {w:World} (o:aj) (s:Value) (l:List (Int×ai)) (hs:de G aJ.size (aB G aJ) o.2.2.2.2.2 s) (hG:Agr G w) (hT:jf Tryz.prog G) (hm:gF o=some (l,())): Calls Tryz.prog 15 #[.agg (wA o s).toArray] w fun e w'=>∃ b es clock,e= .returned (.map (some b))/\w.heap.size<=b/\dZ w' l b es clock/\Kept w w':=by
 have h:=RS G w (fun _=>none) [.agg (wA o s).toArray] (o,()) (l,()) hG (fun _ _ h=>nomatch h) ⟨_,[],fun _=>rfl,fun h=>(Bool.noConfusion h),⟨_,rfl,VU hs⟩,rfl⟩ hm hT
 refine h.mono ?_
 rintro e w' ⟨G',ow',vs,g⟩
 obtain⟨v,us,hv,hr,h2,_⟩:=g.out
 have e2:us=[]:=h2
 obtain⟨b,hb1,hb2,hb3⟩:∃ b,v= .map (some b)/\ow' b=some (64*(24+0))/\nE G' w' tI aJ l b:=hr
 subst e2;subst hv;subst hb1
 obtain⟨es,clock,hL⟩:=YS hb3
 have ho:=g.own b _ hb2
 refine⟨b,es,clock,g.ret, ?_,hL,g.size,g.os,g.output,fun b hb=>(g.old b hb rfl).1⟩
 rcases ho.2.2 with h | h
 ·exact h
 ·exact absurd rfl h
theorem Nl {G:Gh}:∀ (l:List aa) (xs:List Value),bN (aB G aq) l xs->xs=l.flatMap eN
 | [],xs,h=>h
 | x::r,xs,h=>by
  obtain⟨a,b,rfl,h1,h2⟩:=h
  rw[UR h1,Nl r b h2];rfl
theorem Qi (G:Gh):∀ (l:List aa),bN (aB G aq) l (l.flatMap eN)
 | []=>rfl
 | x::r=>⟨eN x,r.flatMap eN,rfl,Qh G x,Qi G r⟩
theorem Rp {G:Gh} {w:World} (x y:ai) (h1 h2:Bool) (d:aa) (l:List aa) (hG:Agr G w) (hT:jf Tryz.prog G) (hm:iM x y h1 h2 d=some (l,())): Calls Tryz.prog 18 #[.agg (gi x).toArray,.agg (gi y).toArray,.bool h1,.bool h2,.agg (eN d).toArray] w fun e w'=>∃ v,e= .returned v/\w'.ownsRow w.heap.size 33 13 v l.length (l.flatMap eN)/\Kept w w':=by
 have h:=Mi G w (fun _=>none) [.agg (gi x).toArray,.agg (gi y).toArray,.bool h1,.bool h2,.agg (eN d).toArray] (x,y,h1,h2,d,()) (l,()) hG (fun _ _ h=>nomatch h)
  ⟨_,_,fun _=>rfl,fun h=>(Bool.noConfusion h),⟨_,rfl,Mf G x⟩,_,_,fun _=>rfl,fun h=>(Bool.noConfusion h),⟨_,rfl,Mf G y⟩,_,_,fun _=>rfl,fun h=>(Bool.noConfusion h),(rfl:aB G .bool h1 [.bool h1]),_,_,fun _=>rfl,fun h=>(Bool.noConfusion h),(rfl:aB G .bool h2 [.bool h2]),_,[],fun _=>rfl,fun h=>(Bool.noConfusion h),⟨_,rfl,Qh G d⟩,rfl⟩ hm hT
 refine h.mono ?_
 rintro e w' ⟨G',ow',vs,g⟩
 obtain⟨v,us,hv,hr,h2,_⟩:=g.out
 have e2:us=[]:=h2
 obtain⟨⟨xs,hrow,hrl⟩,hown⟩:mB G' w' 33 aq l v/\∀ b,v.ownBlock=some b->ow' b=some (64*(24+0)):=hr
 subst e2;subst hv
 have:=Nl l xs hrl
 subst this
 refine⟨v,g.ret,⟨hrow.1, ?_⟩,g.size,g.os,g.output,fun b hb=>(g.old b hb rfl).1⟩
 rcases hrow.2 with hn | ⟨b,cap,cur,hv,hb0,rest⟩
 ·exact .inl hn
 ·refine .inr ⟨b,cap,cur,hv, ?_,rest⟩
  have ho:=g.own b _ (hown b (by rw[hv];rfl))
  rcases ho.2.2 with h | h
  ·exact h
  ·exact absurd rfl h
theorem aab {a b:World} (h:Kept a b) (k off:Nat) (v:Value) (hk:a.heap.size<=k):Kept a (b.setCell ⟨k,off,none⟩ v):=
 ⟨by rw[show (b.setCell ⟨k,off,none⟩ v).heap.size=b.heap.size from Array.size_modify];exact h.size,h.os,h.output,fun i hi=>by
   rw[<- h.block i hi]
   simp only[World.setCell,ac2]
   rw[agd (by omega)]⟩
structure St0 (w:World) (v1 v2:List Value) (wr:World):Prop where
 b0:wr.heap[w.heap.size]? =some (.cells v1.toArray 24 (0,0))
 b1:wr.heap[w.heap.size+1]? =some (.cells v2.toArray 24 (0,0))
 b2:wr.heap[w.heap.size+1+1]? =some (.cells (v1++v2).toArray 24 (0,0))
 kept:Kept w wr
 sz:w.heap.size+3<=wr.heap.size
theorem St0.keep {w wr w':World} {v1 v2:List Value} (h:St0 w v1 v2 wr) (k:Kept wr w'):St0 w v1 v2 w':=
 ⟨(k.block _ (bf h.b0)).trans h.b0,(k.block _ (bf h.b1)).trans h.b1,(k.block _ (bf h.b2)).trans h.b2,h.kept.trans k,afu h.sz k.size⟩
theorem Q7 (w:World) (v1 v2 v3:List Value) (h3:v3=v1++v2):St0 w v1 v2 (((w.alloc (.cells v1.toArray 24)).alloc (.cells v2.toArray 24)).alloc (.cells v3.toArray 24)):=by
 subst h3
 have s1:(w.alloc (.cells v1.toArray 24)).heap.size=w.heap.size+1:=ac8 _
 have s2:((w.alloc (.cells v1.toArray 24)).alloc (.cells v2.toArray 24)).heap.size=w.heap.size+1+1:=(ac8 _).trans (by rw[s1])
 have s3:(((w.alloc (.cells v1.toArray 24)).alloc (.cells v2.toArray 24)).alloc (.cells (v1++v2).toArray 24)).heap.size=w.heap.size+1+1+1:=(ac8 _).trans (by rw[s2])
 refine⟨?_, ?_, ?_,oZ (oZ (oZ (Kept.refl w) _) _) _,by omega⟩
 ·rw[heap_alloc_old _ _ (by omega),heap_alloc_old _ _ (by omega)];exact heap_alloc_new w _
 ·rw[heap_alloc_old _ _ (by omega), <- s1];exact heap_alloc_new _ _
 ·rw[<- s2];exact heap_alloc_new _ _
theorem ij {W:World} {b:Nat} {cs:List Value} {T:TypeId} (h:W.heap[b]? =some (.cells cs.toArray T (0,0))) (j:Nat) (v:Value) (hj:cs[j]? =some v):W.cell? ⟨b,j,none⟩=some v:=Wy h hj
def Vv (G:Gh) (w:World) (out:List aa) (f:Int) (e:Ending) (w':World):Prop:=
 ∃ v G',e= .returned (.tuple #[v,.int .i64 f])/\Kept w w'/\G.le G'/\G'.hnd=G.hnd/\Agr G' w'/\(∀ b,b<w.heap.size->G' b=G b)/\de G' aq.size (aB G' aq) out v
theorem sH {G:Gh} {w w':World} {f:Int} (hG:Agr G w) (hk:Kept w w'):Vv G w [] f (.returned (.tuple #[.slice none 0 0,.int .i64 f])) w':=
 ⟨_,G,rfl,hk,Gh.le_refl G,rfl,hk.agr hG,fun _ _=>rfl,none,0,rfl,aft _,afN _,.inl rfl⟩
theorem Ro {was is:aj} {out:List aa} {f n1 n2:Int} (h1:dM was=some (n1,())) (h2:dM is=some (n2,())) (h:jZ was is=some (out,f,())): (n1≠0/\out=[]/\f=n1)\/(n1=0/\n2≠0/\out=[]/\f=n2)\/(n1=0/\n2=0/\∃ a b,gF was=some (a,())/\gF is=some (b,())/\ ((¬(was.1=is.1/\was.2.1=is.2.1/\was.2.2.1=is.2.2.1)/\out=[]/\f=12)\/((was.1=is.1/\was.2.1=is.2.1/\was.2.2.1=is.2.2.1)/\(a.map (·.1)).Nodup/\(b.map (·.1)).Nodup/\mK a=true/\mK b=true/\ ((iq a b=true/\out=[]/\f=12)\/(iq a b=false/\((is.2.2.2.1<was.2.2.2.1/\out=[]/\f=8)\/(¬ is.2.2.2.1<was.2.2.2.1/\∃ q n3,iR a b is.2.2.2.1 (dS a b) []=some q/\q.length<=1000000/\dL q=some (n3,())/\ ((n3≠0/\out=[]/\f=n3)\/(n3=0/\out=q/\f=0))))))))):=by
 unfold jZ at h
 rw[h1,afO] at h
 dsimp only at h
 by_cases e1:n1=0
 rotate_left
 ·rw[show (n1 != 0)=true by simp[e1],af2] at h
  simp only[Option.some.injEq,Prod.mk.injEq,afW] at h
  exact .inl ⟨e1,h.1.symm,h.2.symm⟩
 rw[show (n1 != 0)=false by simp[e1],af1,h2,afO] at h
 dsimp only at h
 by_cases e2:n2=0
 rotate_left
 ·rw[show (n2 != 0)=true by simp[e2],af2] at h
  simp only[Option.some.injEq,Prod.mk.injEq,afW] at h
  exact .inr (.inl ⟨e1,e2,h.1.symm,h.2.symm⟩)
 rw[show (n2 != 0)=false by simp[e2],af1] at h
 refine .inr (.inr ⟨e1,e2, ?_⟩)
 cases ha:gF was with
 | none=>rw[ha] at h;cases h
 | some a=>
  obtain⟨a,⟨⟩⟩:=a
  rw[ha,afO] at h
  cases hb:gF is with
  | none=>rw[hb] at h;cases h
  | some b=>
   obtain⟨b,⟨⟩⟩:=b
   rw[hb,afO] at h
   dsimp only at h
   refine⟨a,b,rfl,rfl, ?_⟩
   by_cases en:was.1=is.1/\was.2.1=is.2.1/\was.2.2.1=is.2.2.1
   rotate_left
   ·have:(!(was.1==is.1)||(!(was.2.1==is.2.1)|| !(was.2.2.1==is.2.2.1)))=true:=by
     cases h5:(!(was.1==is.1)||(!(was.2.1==is.2.1)|| !(was.2.2.1==is.2.2.1))) with
     | true=>rfl
     | false=>
      simp only[adt,ado,afY] at h5
      exact absurd h5 en
    rw[this,af2] at h
    simp only[Option.some.injEq,Prod.mk.injEq,afW] at h
    exact .inl ⟨en,h.1.symm,h.2.symm⟩
   rw[show (!(was.1==is.1)||(!(was.2.1==is.2.1)|| !(was.2.2.1==is.2.2.1)))=false by simp[en.1,en.2.1,en.2.2],af1] at h
   obtain⟨hc,h⟩:=fF h
   simp only[adf] at hc
   refine .inr ⟨en,agl hc.1.1,agl hc.1.2,hc.2.1,hc.2.2, ?_⟩
   cases hcl:iq a b with
   | true=>
    rw[hcl,af2] at h
    simp only[Option.some.injEq,Prod.mk.injEq,afW] at h
    exact .inl ⟨rfl,h.1.symm,h.2.symm⟩
   | false=>
    rw[hcl,af1] at h
    refine .inr ⟨rfl, ?_⟩
    by_cases hd:is.2.2.2.1<was.2.2.2.1
    ·rw[af6 hd,af2] at h
     simp only[Option.some.injEq,Prod.mk.injEq,afW] at h
     exact .inl ⟨hd,h.1.symm,h.2.symm⟩
    ·rw[af4 hd,af1] at h
     refine .inr ⟨hd, ?_⟩
     cases hq:iR a b is.2.2.2.1 (dS a b) [] with
     | none=>rw[hq] at h;cases h
     | some q=>
      rw[hq,afO] at h
      obtain⟨hl,h⟩:=fF h
      cases hn:dL q with
      | none=>rw[hn] at h;cases h
      | some n3=>
       obtain⟨n3,⟨⟩⟩:=n3
       rw[hn,afO] at h
       dsimp only at h
       refine⟨q,n3,rfl,agl hl,hn, ?_⟩
       by_cases e3:n3=0
       ·rw[show (n3 != 0)=false by simp[e3],af1] at h
        simp only[Option.some.injEq,Prod.mk.injEq,afW] at h
        exact .inr ⟨e3,h.1.symm,h.2.symm⟩
       ·rw[show (n3 != 0)=true by simp[e3],af2] at h
        simp only[Option.some.injEq,Prod.mk.injEq,afW] at h
        exact .inl ⟨e3,h.1.symm,h.2.symm⟩
theorem abS (W:World) (v1 v2:List Value) (h1:v1.length=6) (h2:v2.length=6): Sem.run Tryz.prog (Instr.buildSlice 47 2 #[(0,.agg v1.toArray),(1,.agg v2.toArray)]) W= .ok (.slice (some ⟨W.heap.size,0,none⟩) 2 2) (W.alloc (.cells (v1++v2).toArray 24)):=by
 match v1,v2,h1,h2 with
 | [a1,a2,a3,a4,a5,a6],[b1,b2,b3,b4,b5,b6],_,_=>
  exact run_buildSlice W 47 24 2 _ _ Tryz.t24 (.agg #[.string ⟨#[]⟩,.string ⟨#[]⟩,.string ⟨#[]⟩,.int .i64 0,.int .i64 0,.slice none 0 0]) Tryz.underlying47 (by kernel_rfl) (by kernel_rfl) (by decide) (by decide) (by kernel_rfl)
end Go.Proofs.SeatA
set_option maxRecDepth 100000
namespace Go.Proofs
open Go.Shelf
def Tryz.Qv:Go.Shelf.Ren:=⟨fun | 7=>56 | 10=>83 | n=>n,fun | 23=>83 | 26=>3 | 3=>69 | 28=>58 | 0=>0 | 27=>57 | 33=>97 | 4=>4 | n=>n,fun | n=>n⟩
theorem Tryz.aaV:Go.Proofs.SlLaysZI.n7 Tryz.prog Tryz.Qv:={
 mixed:=by kernel_rfl
 f7:=⟨Tryz.f56.name,by decide,Tryz.func56.trans (congrArg some (by kernel_rfl))⟩
 f10:=⟨Tryz.f83.name,by decide,Tryz.func83.trans (congrArg some (by kernel_rfl))⟩
 t0:=Tryz.underlying0
 a0:=Tryz.isAgg0
 z0:=Tryz.sizeOf0
 v0:=Tryz.zeroValue0
 t4:=Tryz.underlying4
 a4:=Tryz.isAgg4
 z4:=Tryz.sizeOf4
 v4:=Tryz.zeroValue4
 t23:=Tryz.underlying83
 a23:=Tryz.isAgg83
 z23:=Tryz.sizeOf83
 v23:=Tryz.zeroValue83
 t26:=Tryz.underlying3
 a26:=Tryz.isAgg3
 z26:=Tryz.sizeOf3
 v26:=Tryz.zeroValue3
 t27:=Tryz.underlying57
 a27:=Tryz.isAgg57
 z27:=Tryz.sizeOf57
 v27:=Tryz.zeroValue57
 t28:=Tryz.underlying58
 a28:=Tryz.isAgg58
 z28:=Tryz.sizeOf58
 v28:=Tryz.zeroValue58
 t33:=Tryz.underlying97
 a33:=Tryz.isAgg97
 z33:=Tryz.sizeOf97
 v33:=Tryz.zeroValue97 }
def Tryz.Qw:Go.Shelf.Ren:=⟨fun | 7=>17 | 10=>43 | n=>n,fun | 23=>51 | 26=>3 | 3=>4 | 28=>58 | 0=>0 | 27=>57 | 33=>97 | 4=>4 | n=>n,fun | n=>n⟩
theorem Tryz.aaW:Go.Proofs.SlLaysZI.n7 Tryz.prog Tryz.Qw:={
 mixed:=by kernel_rfl
 f7:=⟨Tryz.f17.name,by decide,Tryz.func17.trans (congrArg some (by kernel_rfl))⟩
 f10:=⟨Tryz.f43.name,by decide,Tryz.func43.trans (congrArg some (by kernel_rfl))⟩
 t0:=Tryz.underlying0
 a0:=Tryz.isAgg0
 z0:=Tryz.sizeOf0
 v0:=Tryz.zeroValue0
 t4:=Tryz.underlying4
 a4:=Tryz.isAgg4
 z4:=Tryz.sizeOf4
 v4:=Tryz.zeroValue4
 t23:=Tryz.underlying51
 a23:=Tryz.isAgg51
 z23:=Tryz.sizeOf51
 v23:=Tryz.zeroValue51
 t26:=Tryz.underlying3
 a26:=Tryz.isAgg3
 z26:=Tryz.sizeOf3
 v26:=Tryz.zeroValue3
 t27:=Tryz.underlying57
 a27:=Tryz.isAgg57
 z27:=Tryz.sizeOf57
 v27:=Tryz.zeroValue57
 t28:=Tryz.underlying58
 a28:=Tryz.isAgg58
 z28:=Tryz.sizeOf58
 v28:=Tryz.zeroValue58
 t33:=Tryz.underlying97
 a33:=Tryz.isAgg97
 z33:=Tryz.sizeOf97
 v33:=Tryz.zeroValue97 }
def Tryz.K9:Go.Shelf.Ren:=⟨fun | 6=>16 | 8=>41 | 9=>42 | 11=>71 | 13=>73 | 12=>72 | 23=>129 | 24=>130 | 14=>120 | 15=>121 | 16=>122 | 17=>123 | 18=>124 | 19=>125 | 20=>126 | 21=>127 | 22=>128 | 25=>156 | 26=>157 | 27=>158 | 28=>159 | 29=>160 | 30=>161 | 31=>184 | n=>n,fun | 26=>3 | 28=>58 | 24=>55 | 0=>0 | 3=>3 | 37=>127 | 48=>181 | 50=>183 | 4=>4 | 40=>173 | 39=>172 | 45=>178 | 5=>5 | 9=>9 | 51=>202 | 55=>206 | 57=>225 | 58=>226 | 33=>97 | n=>n,fun | n=>n⟩
theorem Tryz.Wh:Go.Proofs.SlLaysZI.n6 Tryz.prog Tryz.K9:={
 mixed:=by kernel_rfl
 f6:=⟨Tryz.f16.name,by decide,Tryz.func16.trans (congrArg some (by kernel_rfl))⟩
 f8:=⟨Tryz.f41.name,by decide,Tryz.func41.trans (congrArg some (by kernel_rfl))⟩
 f11:=⟨Tryz.f71.name,by decide,Tryz.func71.trans (congrArg some (by kernel_rfl))⟩
 t0:=Tryz.underlying0
 a0:=Tryz.isAgg0
 z0:=Tryz.sizeOf0
 v0:=Tryz.zeroValue0
 t24:=Tryz.underlying55
 a24:=Tryz.isAgg55
 z24:=Tryz.sizeOf55
 v24:=Tryz.zeroValue55
 t26:=Tryz.underlying3
 a26:=Tryz.isAgg3
 z26:=Tryz.sizeOf3
 v26:=Tryz.zeroValue3
 t28:=Tryz.underlying58
 a28:=Tryz.isAgg58
 z28:=Tryz.sizeOf58
 v28:=Tryz.zeroValue58
 i26:=by kernel_rfl }
def Tryz.Zw:Go.Shelf.Ren:=⟨fun | 5=>42 | 8=>73 | 7=>72 | 19=>129 | 20=>130 | 10=>120 | 11=>121 | 12=>122 | 13=>123 | 14=>124 | 15=>125 | 16=>126 | 17=>127 | 18=>128 | 30=>156 | 31=>157 | 32=>158 | 33=>159 | 34=>160 | 35=>161 | 40=>184 | n=>n,fun | 23=>55 | 25=>3 | 3=>3 | 32=>127 | 22=>55 | 0=>0 | 44=>181 | 46=>183 | 4=>4 | 36=>173 | 35=>172 | 41=>178 | 5=>5 | 9=>9 | 53=>202 | 57=>206 | 63=>225 | 64=>226 | n=>n,fun | n=>n⟩
theorem Tryz.aaX:Go.Proofs.SlLaysM.n5 Tryz.prog Tryz.Zw:={
 mixed:=by kernel_rfl
 f5:=⟨Tryz.f42.name,by decide,Tryz.func42.trans (congrArg some (by kernel_rfl))⟩
 f7:=⟨Tryz.f72.name,by decide,Tryz.func72.trans (congrArg some (by kernel_rfl))⟩
 f8:=Tryz.func73.trans (congrArg some (by kernel_rfl))
 f10:=⟨Tryz.f120.name,by decide,Tryz.func120.trans (congrArg some (by kernel_rfl))⟩
 f11:=⟨Tryz.f121.name,by decide,Tryz.func121.trans (congrArg some (by kernel_rfl))⟩
 f12:=⟨Tryz.f122.name,by decide,Tryz.func122.trans (congrArg some (by kernel_rfl))⟩
 f13:=⟨Tryz.f123.name,by decide,Tryz.func123.trans (congrArg some (by kernel_rfl))⟩
 f14:=⟨Tryz.f124.name,by decide,Tryz.func124.trans (congrArg some (by kernel_rfl))⟩
 f15:=⟨Tryz.f125.name,by decide,Tryz.func125.trans (congrArg some (by kernel_rfl))⟩
 f16:=⟨Tryz.f126.name,by decide,Tryz.func126.trans (congrArg some (by kernel_rfl))⟩
 f17:=⟨Tryz.f127.name,by decide,Tryz.func127.trans (congrArg some (by kernel_rfl))⟩
 f18:=⟨Tryz.f128.name,by decide,Tryz.func128.trans (congrArg some (by kernel_rfl))⟩
 f19:=Tryz.func129.trans (congrArg some (by kernel_rfl))
 f20:=Tryz.func130.trans (congrArg some (by kernel_rfl))
 f30:=⟨Tryz.f156.name,by decide,Tryz.func156.trans (congrArg some (by kernel_rfl))⟩
 f31:=Tryz.func157.trans (congrArg some (by kernel_rfl))
 f32:=Tryz.func158.trans (congrArg some (by kernel_rfl))
 f33:=⟨Tryz.f159.name,by decide,Tryz.func159.trans (congrArg some (by kernel_rfl))⟩
 f34:=⟨Tryz.f160.name,by decide,Tryz.func160.trans (congrArg some (by kernel_rfl))⟩
 f35:=⟨Tryz.f161.name,by decide,Tryz.func161.trans (congrArg some (by kernel_rfl))⟩
 f40:=⟨Tryz.f184.name,by decide,Tryz.func184.trans (congrArg some (by kernel_rfl))⟩
 t0:=Tryz.underlying0
 a0:=Tryz.isAgg0
 z0:=Tryz.sizeOf0
 v0:=Tryz.zeroValue0
 t3:=Tryz.underlying3
 a3:=Tryz.isAgg3
 z3:=Tryz.sizeOf3
 v3:=Tryz.zeroValue3
 t4:=Tryz.underlying4
 a4:=Tryz.isAgg4
 z4:=Tryz.sizeOf4
 v4:=Tryz.zeroValue4
 t5:=Tryz.underlying5
 a5:=Tryz.isAgg5
 z5:=Tryz.sizeOf5
 v5:=Tryz.zeroValue5
 t9:=Tryz.underlying9
 a9:=Tryz.isAgg9
 z9:=Tryz.sizeOf9
 v9:=Tryz.zeroValue9
 t22:=Tryz.underlying55
 a22:=Tryz.isAgg55
 z22:=Tryz.sizeOf55
 v22:=Tryz.zeroValue55
 t23:=Tryz.underlying55
 a23:=Tryz.isAgg55
 z23:=Tryz.sizeOf55
 v23:=Tryz.zeroValue55
 t25:=Tryz.underlying3
 a25:=Tryz.isAgg3
 z25:=Tryz.sizeOf3
 v25:=Tryz.zeroValue3
 t32:=Tryz.underlying127
 a32:=Tryz.isAgg127
 z32:=Tryz.sizeOf127
 v32:=Tryz.zeroValue127
 t35:=Tryz.underlying172
 a35:=Tryz.isAgg172
 z35:=Tryz.sizeOf172
 v35:=Tryz.zeroValue172
 t36:=Tryz.underlying173
 a36:=Tryz.isAgg173
 z36:=Tryz.sizeOf173
 v36:=Tryz.zeroValue173
 t41:=Tryz.underlying178
 a41:=Tryz.isAgg178
 z41:=Tryz.sizeOf178
 v41:=Tryz.zeroValue178
 t44:=Tryz.underlying181
 a44:=Tryz.isAgg181
 z44:=Tryz.sizeOf181
 v44:=Tryz.zeroValue181
 t46:=Tryz.underlying183
 a46:=Tryz.isAgg183
 z46:=Tryz.sizeOf183
 v46:=Tryz.zeroValue183
 t53:=Tryz.underlying202
 a53:=Tryz.isAgg202
 z53:=Tryz.sizeOf202
 v53:=Tryz.zeroValue202
 t57:=Tryz.underlying206
 a57:=Tryz.isAgg206
 z57:=Tryz.sizeOf206
 v57:=Tryz.zeroValue206
 t63:=Tryz.underlying225
 a63:=Tryz.isAgg225
 z63:=Tryz.sizeOf225
 v63:=Tryz.zeroValue225
 t64:=Tryz.underlying226
 a64:=Tryz.isAgg226
 z64:=Tryz.sizeOf226
 v64:=Tryz.zeroValue226 }
end Go.Proofs
namespace Go.Proofs.SeatA
open Go.Dn Go.Md Go.Proofs Go.RowKit Go.Shelf Go.Lib Go.Sort
theorem Zx (m:Nat):AnyZI.SortsIn Tryz.prog Tryz.K9 Fence.wide m:=
 ⟨fun blk off cap ss W hH hblk hsz=>callsIn_wide.2 (AnyM.slices_Sort_int Tryz.aaX blk off cap ss W hH hblk hsz),
  fun p cap W=>callsIn_wide.2 (AnyM.slices_Sort_int_none Tryz.aaX p cap W)⟩
def YK:tg:= .mk 83
theorem ab1:fe Tryz.prog 56:=jW (fn:=Tryz.f56) (by kernel_rfl) rfl (by decide)
theorem ab5:Cs Tryz.prog 56 YK:=
 ⟨83,fun mb W=>callsIn_wide.1 (AnyZI.keys_in Tryz.aaV Fence.wide 5 trivial rfl mb W)⟩
def YJ:tg:= .srt 83 3 3
theorem ab0:fe Tryz.prog 16:=jW (fn:=Tryz.f16) (by kernel_rfl) rfl (by decide)
theorem ab3:Cs Tryz.prog 16 YJ:=by
 refine⟨Tryz.underlying3,fun Bm b nn D0 w hB hc hown lZ hbytes=> ?_⟩
 have hseq:SeqGives Fence.wide 2 Tryz.prog 83 #[.pointer (some ⟨Bm,0,none⟩)] encZ (fun ss=>ss.Perm (intKeys D0)) (Maps.size D0) w:=
  AnyZI.keys_gives (ρ:=Tryz.Qv) { Tryz.aaV with } Fence.wide _ trivial rfl (by omega) Bm b nn D0 _ hB hc hown
 have cS:=AnyZI.sorted_in Tryz.Wh Fence.wide 5 trivial trivial trivial trivial rfl (by omega) (Zx _) (enters_of Tryz.func42 (by kernel_rfl) rfl) 83 #[.pointer (some ⟨Bm,0,none⟩)] trivial (enters_of Tryz.func83 (by kernel_rfl) rfl) _ _ lZ hbytes _ hseq
 change CallsIn _ _ Tryz.prog 16 _ _ _ at cS
 refine (callsIn_wide.1 cS).mono ?_
 rintro e w' ⟨v,ss,he,hS,hrow,_,hb⟩
 exact⟨v,ss,he,hS,hrow,hb⟩
def abZ:tg:= .mk 43
theorem ab4:Cs Tryz.prog 17 abZ:=
 ⟨51,fun mb W=>callsIn_wide.1 (AnyZI.keys_in Tryz.aaW Fence.wide 5 trivial rfl mb W)⟩
def abm:tg:= .srt 43 3 3
theorem abn:Cs Tryz.prog 16 abm:=by
 refine⟨Tryz.underlying3,fun Bm b nn D0 w hB hc hown lZ hbytes=> ?_⟩
 have hseq:SeqGives Fence.wide 2 Tryz.prog 43 #[.pointer (some ⟨Bm,0,none⟩)] encZ (fun ss=>ss.Perm (intKeys D0)) (Maps.size D0) w:=
  AnyZI.keys_gives (ρ:=Tryz.Qw) { Tryz.aaW with } Fence.wide _ trivial rfl (by omega) Bm b nn D0 _ hB hc hown
 have cS:=AnyZI.sorted_in Tryz.Wh Fence.wide 5 trivial trivial trivial trivial rfl (by omega) (Zx _) (enters_of Tryz.func42 (by kernel_rfl) rfl) 43 #[.pointer (some ⟨Bm,0,none⟩)] trivial (enters_of Tryz.func43 (by kernel_rfl) rfl) _ _ lZ hbytes _ hseq
 change CallsIn _ _ Tryz.prog 16 _ _ _ at cS
 refine (callsIn_wide.1 cS).mono ?_
 rintro e w' ⟨v,ss,he,hS,hrow,_,hb⟩
 exact⟨v,ss,he,hS,hrow,hb⟩
end Go.Proofs.SeatA
