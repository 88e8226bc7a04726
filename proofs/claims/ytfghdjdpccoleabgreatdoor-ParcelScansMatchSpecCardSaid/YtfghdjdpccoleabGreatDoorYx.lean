/-
  Sorted keys of maps whose keys are two strings. No condition.
-/
import Derived.Test.YtfghdjdpccoleabGreatDoorYd
import Derived.Test.YtfghdjdpccoleabGreatDoorProg
import Derived.Shelf.SlIter.Collect
import Derived.Shelf.SlIter.Keys
import Derived.WalkKit
import Derived.LoopN
import Derived.Test.YtfghdjdpccoleabGreatDoorYv
import Derived.Test.YtfghdjdpccoleabGreatDoorYk
import Derived.StillTailTactics
set_option linter.all false
set_option maxRecDepth 100000
namespace Go.Proofs.SeatS
open Go.Dn Go.Proofs Go.RowKit Go.Maps Go.Sort Go.Shelf
theorem We (W:World) (a b:Value) (T:TypeId):∀ (j:Nat) (u:Value),([a,b]:List Value)[j]? =some u->(W.alloc (.cells #[a,b] T)).cell? ((⟨W.heap.size,0,none⟩:Addr).add j)=some u:=by
 intro j u hu
 have h:=World.alloc_heap_new W (.cells #[a,b] T)
 match j,hu with
 | 0,hu=>cases hu;show World.cell? _ ⟨W.heap.size,0+0,none⟩=_;unfold World.cell?;simp only[h];rfl
 | 1,hu=>cases hu;show World.cell? _ ⟨W.heap.size,0+1,none⟩=_;unfold World.cell?;simp only[h];rfl
def Jo (f:Func):Code×Code:=match f.body with
 | some (.seq _ (.seq (.seq _ (.block _ (.rangeFunc _ _ a b))) _))=>(a,b)
 | _=>(.skip,.skip)
noncomputable def ja (fn:FuncId) (sv:Value) (Bs D:Nat) (st:LoopState) (pend:Option Code):Loop:=
 { state:=st,pending:=pend,fn,tmps:= #[.slice none 0 0,sv,.pointer (some ⟨Bs,0,none⟩),undef,.slice none 0 0,undef,sv,undef,undef,undef,undef,undef,undef],params:= #[7],assign:=(Jo Tryz.f174).1,body:=(Jo Tryz.f174).2,defers:=D }
set_option maxHeartbeats 1000000 in
theorem ZZ (KT:SF Tryz.prog 84) (n:Nat) (hn:1<=n) (l Bm b nn:Nat) (D0:DataW Unit) (keys:List Two) (J:List Two->World->Prop) (hY:∀ pre x W,J pre W->pre.length<Maps.size D0->YieldAt Fence.wide (n - 1) Tryz.prog l #[jd x] W fun e W'=>e= .returned (.bool true)/\J (pre++[x]) W'/\KeepsWalks W W') (W:World) (hJ:AbidesFrom W.heap.size J) (hm:W.cell? ⟨Bm,0,none⟩=some (.map (some b))) (hown:W.ownsMap Tryz.prog 84 (fun _=>some (.nil,[])) b nn D0) (hnd:keys.Nodup) (hs:∀ p,p∈keys->p.1.length<=9223372036854775807/\p.2.length<=9223372036854775807) (hD:∀ k,has D0 (.string k)=true↔∃ p,p∈keys/\keyOf Tryz.prog 84 (jd p)=some (.string k)) (h0:J [] W): CallsIn Fence.wide n Tryz.prog 135 #[.func (.yield l) #[] #[],.pointer (some ⟨Bm,0,none⟩)] W fun e W'=>(∃ v,e= .returned v)/\∃ xs:List Two,xs.Perm keys/\J xs W':=by
 have mixed:Tryz.prog.follows .mixedOrders=true:=by kernel_rfl
 have tM:=Tryz.underlying81;have aM:=Tryz.isAgg81;have zM:=Tryz.sizeOf81;have vM:=Tryz.zeroValue81
 have tE:=Tryz.underlying84;have aE:=Tryz.isAgg84;have zE:=Tryz.sizeOf84;have vE:=Tryz.zeroValue84
 have t4:=Tryz.underlying4;have a4:=Tryz.isAgg4;have z4:=Tryz.sizeOf4;have v4:=Tryz.zeroValue4
 have t0:=Tryz.underlying0;have a0:=Tryz.isAgg0;have z0:=Tryz.sizeOf0;have v0:=Tryz.zeroValue0
 have uM:=run_underlying tM;have uE:=run_underlying tE;have u4:=run_underlying t4;have u0:=run_underlying t0
 refine callsIn_of_wp Tryz.func135 rfl trivial ?_ rfl
 simp only[Tryz.ntmps135,List.size_toArray,List.length_cons,List.length_nil,Nat.reduceAdd,Nat.reduceSub,Array.replicate_succ,Array.replicate_zero,List.push_toArray,List.append_toArray,List.nil_append,List.cons_append]
 gi_wp2_with (first
  | (gi_at_range;refine wpListIn_range_own _ rfl _ 81 rfl 84 _ (Keyed.of_law KT.law) tM _ b nn _ rfl hown ?_;intro w0 hrg0 hg0 hs0)
  | gi_in)
 go_frame
 gi_loopw [3] (fun _ wr=>∃ (left:Lit->Bool) (cnt:Nat) (ss:List Two),wr.ranges Tryz.prog 84 (fun _=>some (.nil,[])) b W.heap.size nn D0 left cnt/\ss.length+cnt<=Maps.size D0/\EZ Tryz.prog 84 D0 left ss/\J ss wr)
  (fun _ wr=>wr.rangeLeft b W.heap.size)
 case atStart=>
  exact⟨_,_,[],hrg0,by simp,EZ.start _ _ D0,hJ [] W w0 none h0 hg0 (fun r e=>by cases e)⟩
 case round=>
  obtain⟨left,cnt,ss,hrg,hcs,hC,hJs⟩:=hrel
  gi_wp2_with (first
   | (gi_at_next;refine wpListIn_next_ranges _ rfl _ rfl 84 (Keyed.of_law KT.law) (fun _=>some (.nil,[])) (id:Value->Value) (id:Value->Value) (fun key kl hk=>⟨key,rfl⟩) (fun v _ _=>⟨v,rfl⟩) b W.heap.size nn _ _ _ rfl hrg ?_ ?_)
   | gi_in)
  ·-- nothing is left
   intro hc0 hl0
   gi_wp2
   go_end0
   exact⟨⟨_,rfl⟩,ss,hC.perm KT hl0 hnd hs hD,hJs⟩
  ·-- a key has come
   intro x c kl yd yp w2 cnt2 hkey hlk hv1 hv2 hat hrg2 hlt hg2 hs2 hen
   obtain⟨k,rfl⟩:=KT.law.str hkey
   obtain⟨p,hp,hpk⟩:=(hD k).1 (has_true_of_atKey hat)
   obtain rfl:x=jd p:=KT.law.inj hkey hpk
   have hJ2:J ss w2:=hJ ss wr w2 (some W.heap.size) hJs hg2 (fun r e=>by cases e;exact⟨Nat.le_refl _,hrg.iter_walk⟩)
   clear hs2
   obtain⟨W4,hW4⟩:∃ W4,w2.alloc (.cells #[.string (bs p.1),.string (bs p.2)] 84)=W4:=⟨_,rfl⟩
   have hg4:w2.grownBy W4 none:=by rw[<- hW4];exact⟨rfl,rfl,rfl,by simp,fun k hk _=>Below.heap_alloc _ _ k hk⟩
   have hJ4:J ss W4:=hJ ss w2 W4 none hJ2 hg4 (fun r e=>by cases e)
   have hrg4:=hrg2.alloc (.cells #[.string (bs p.1),.string (bs p.2)] 84)
   rw[hW4] at hrg4
   obtain⟨fn,tmps,assign,body,hy,hR⟩:=hY ss p W4 hJ4 (by omega)
   subst hW4
   unfold jd at hen hy ⊢
   gi_wp2
   refine hR.mono ?_
   rintro e W3 ⟨rfl,hJ3,hk3⟩
   gi_wp2
   have hrg3:=hrg4.of_walks hk3
   go_roundw
   case rel=>exact⟨_,cnt2,ss++[p],hrg3,by simp;omega,hC.step hpk hlk hat,hJ3⟩
   case measure=>rw[hrg3.left_eq,hrg.left_eq];exact hlt
structure A2 (w0:World) (fn:FuncId) (sv:Value) (Bs l D:Nat) (ss:List Two) (W:World):Prop where
 box:∃ v,W.heap[Bs]? =some (.cells #[v] 133 (0,0))/\W.ownsRow w0.heap.size 84 2 v ss.length (ss.flatMap yU)/\(v= .slice none 0 0↔ss=[])
 L:W.heap[l]? =some (.loop (ja fn sv Bs D .ready none))
 K:W.heap[D]? =some (.deferred (some []))
 below:Below w0.heap.size w0 W
theorem Hf (w0:World) (fn:FuncId) (sv:Value) (Bs l D B:Nat) (hB:w0.heap.size<=B):AbidesFrom B (A2 w0 fn sv Bs l D):=fun s W W' row h hg hrow=>by
 have hrow':∀ r,row=some r->∃ o:Obj,W.heap[r]? =some o/\o.isWalk=true:=fun r e=>(hrow r e).2
 obtain⟨v,hv,hr,hn⟩:=h.box
 exact⟨⟨v,(grownBy_keeps hg hrow' hv rfl).trans hv,ownsRow_abides_a hr hg hrow',hn⟩,(grownBy_keeps hg hrow' h.L rfl).trans h.L,(grownBy_keeps hg hrow' h.K rfl).trans h.K,
  h.below.grown hg h.below.size (fun k e=>Nat.le_trans hB (hrow k e).1)⟩
set_option maxHeartbeats 2000000 in
theorem Vd (m:Nat) (w0:World) (fn:FuncId) (sv:Value) (Bs l D:Nat) (hBl:Bs≠l) (hDl:D≠l) (hDB:D≠Bs) (h0B:w0.heap.size<=Bs) (h0l:w0.heap.size<=l) (N:Nat) (hN:N<=maxLen) (hNb:N*32<=140737488355328) (ss:List Two) (x:Two) (W:World) (h:A2 w0 fn sv Bs l D ss W) (hlen:ss.length<N): YieldAt Fence.wide m Tryz.prog l #[jd x] W fun e W'=>e= .returned (.bool true)/\A2 w0 fn sv Bs l D (ss++[x]) W'/\KeepsWalks W W':=by
 have mixed:Tryz.prog.follows .mixedOrders=true:=by kernel_rfl
 have tL:=Tryz.underlying133;have aL:=Tryz.isAgg133;have zL:=Tryz.sizeOf133;have vL:=Tryz.zeroValue133
 have tE:=Tryz.underlying84;have aE:=Tryz.isAgg84;have zE:=Tryz.sizeOf84;have vE:=Tryz.zeroValue84
 have t0:=Tryz.underlying0;have a0:=Tryz.isAgg0;have z0:=Tryz.sizeOf0;have v0:=Tryz.zeroValue0
 have hne:(133:TypeId)≠84:=by decide
 have uL:=run_underlying tL;have uE:=run_underlying tE;have u0:=run_underlying t0
 obtain⟨W1,hW1⟩:∃ W1,W.alloc (.cells #[.string (bs x.1),.string (bs x.2)] 84)=W1:=⟨_,rfl⟩
 have hg1:W.grownBy W1 none:=by rw[<- hW1];exact World.grownBy_alloc W _ none
 have hk1:KeepsWalks W W1:=by rw[<- hW1];exact KeepsWalks.alloc _ _
 have h1:=Hf w0 fn sv Bs l D w0.heap.size (Nat.le_refl _) ss W W1 none h hg1 (fun r e=>by cases e)
 have hA1:W1.heap[W.heap.size]? =some (.cells #[.string (bs x.1),.string (bs x.2)] 84 (0,0)):=by rw[<- hW1];exact World.alloc_heap_new W _
 obtain⟨v,hv,hrow,_⟩:=h1.box
 have hlW:l<W.heap.size:=(Array.getElem?_eq_some_iff.1 h.L).1
 refine⟨fn, #[.slice none 0 0,sv,.pointer (some ⟨Bs,0,none⟩),undef,.slice none 0 0,undef,sv,jd x,undef,undef,undef,undef,undef],(Jo Tryz.f174).1,(Jo Tryz.f174).2,by simpa [ja] using run_yield (P:=Tryz.prog) (args:= #[jd x]) h.L rfl,roundIn_of_wpIn trivial ?_⟩
 have hl:l<W1.heap.size:=(Array.getElem?_eq_some_iff.1 h1.L).1
 have hbr:=run_beginRound (P:=Tryz.prog) h1.L rfl
 obtain⟨W2,hW2⟩:∃ W2,W1.putObj l (.loop { ja fn sv Bs D .ready none with state:= .busy })=W2:=⟨_,rfl⟩
 rw[hW2] at hbr
 have hg2:W1.grownBy W2 (some l):=by rw[<- hW2];exact grownBy_putObj_a _ _ _
 have hk2:KeepsWalks W1 W2:=by rw[<- hW2];exact KeepsWalks.putObj _ h1.L rfl
 have hv2:W2.heap[Bs]? =some (.cells #[v] 133 (0,0)):=by rw[<- hW2];exact (World.putObj_heap_other hBl).trans hv
 have hK2:W2.heap[D]? =some (.deferred (some [])):=by rw[<- hW2];exact (World.putObj_heap_other hDl).trans h1.K
 have hL2:W2.heap[l]? =some (.loop { ja fn sv Bs D .ready none with state:= .busy }):=by rw[<- hW2];exact World.putObj_heap_same hl
 have hA2:W2.heap[W.heap.size]? =some (.cells #[.string (bs x.1),.string (bs x.2)] 84 (0,0)):=by rw[<- hW2];exact (World.putObj_heap_other (by omega)).trans hA1
 have hrow2:W2.ownsRow w0.heap.size 84 2 v ss.length (ss.flatMap yU):=hrow.kept hg2 (ownsRow_ne_a hrow h1.L (fun cur e=>by first | cases e | exact hne (Obj.cells.inj e).2.1))
 have hb2:Below w0.heap.size w0 W2:=h1.below.grown hg2 h1.below.size (fun k e=>by cases e;exact h0l)
 obtain⟨hc2,hf2⟩:=cell_of_box_a hv2
 have hca0:W2.cell? ⟨W.heap.size,0,none⟩=some (.string (bs x.1)):=by simp[World.cell?,hA2]
 have hca1:W2.cell? ⟨W.heap.size,1,none⟩=some (.string (bs x.2)):=by simp[World.cell?,hA2]
 have hBlt:Bs<W2.heap.size:=(Array.getElem?_eq_some_iff.1 hv2).1
 have hl2:l<W2.heap.size:=(Array.getElem?_eq_some_iff.1 hL2).1
 have hDlt:D<W2.heap.size:=(Array.getElem?_eq_some_iff.1 hK2).1
 have ne_of:∀ {j:Nat} {o:Obj},W2.heap[j]? =some o->(∀ cur,o≠ .cells cur 84 (0,0))->some j≠v.ownBlock:=fun hj hno=>by
  rcases ownsRow_ne_a hrow2 hj hno with e | e
  ·rw[e];simp
  ·exact fun e'=>e e'.symm
 clear hW2
 unfold Jo Tryz.f174
 dsimp only
 unfold jd at*
 gi_wp2_with (first
  | (gi_at_builtin;refine wpListIn_append_own _ rfl _ _ 133 rfl w0.heap.size 84 Tryz.t84 (.agg #[.string ⟨#[]⟩,.string ⟨#[]⟩]) 2 32 tL (by kernel_rfl) (by kernel_rfl) (by kernel_rfl) (by kernel_rfl) rfl (by decide) _ _ _ rfl (hrow2.alloc _) ⟨W2.heap.size,0,none⟩ 1 1 [.string (bs x.1),.string (bs x.2)] rfl rfl (We _ _ _ _) (by simp[Value.oneCell']) (by omega) (by omega) (by have:=hb2.size;simp;omega) ?_;intro v' w3 hown' hg3 hnil3
     have hv3:w3.heap[Bs]? =some (.cells #[v] 133 (0,0)):=(hg3.block Bs (by simp;omega) (ne_of hv2 (fun cur e=>by first | cases e | exact hne (Obj.cells.inj e).2.1))).trans ((Below.heap_alloc _ _ Bs hBlt).trans hv2)
     obtain⟨hc3,hf3⟩:=cell_of_box_a hv3
     obtain⟨g',cap',cur',rfl,hbase',hgb',hr1,hr2,hr3,hr4⟩:∃ g' cap' cur',v'= .slice (some ⟨g',0,none⟩) (ss.length+1) cap'/\w0.heap.size<=g'/\w3.heap[g']? =some (.cells cur' 84 (0,0))/\ss.length+1<=cap'/\cap'<=maxLen/\cur'.size=cap'*2/\cur'.toList.take ((ss.length+1)*2)=ss.flatMap yU++[.string (bs x.1),.string (bs x.2)]:=by
      rcases hown'.2 with ⟨_,h0⟩ | h'
      ·exact absurd h0 (by omega)
      ·exact h'
     go_frame)
  | gi_round_op_a)
 have hg3':(W2.alloc (.cells #[.string (bs x.1),.string (bs x.2)] 84)).grownBy w3 v.ownBlock:=hg3
 have hL3:w3.heap[l]? =some (.loop { ja fn sv Bs D .ready none with state:= .busy }):=(hg3'.block l (by simp;omega) (ne_of hL2 (fun cur e=>by first | cases e | exact hne (Obj.cells.inj e).2.1))).trans ((Below.heap_alloc _ _ l hl2).trans hL2)
 have hK3:w3.heap[D]? =some (.deferred (some [])):=(hg3'.block D (by simp;omega) (ne_of hK2 (fun cur e=>by first | cases e | exact hne (Obj.cells.inj e).2.1))).trans ((Below.heap_alloc _ _ D hDlt).trans hK2)
 obtain⟨w4,hw4⟩:∃ w4,w3.setCell ⟨Bs,0,none⟩ (.slice (some ⟨g',0,none⟩) (ss.length+1) cap')=w4:=⟨_,rfl⟩
 rw[hw4]
 have hg4:w3.grownBy w4 (some Bs):=by rw[<- hw4];exact grownBy_setCell0_a _ _ _
 have hv4:w4.heap[Bs]? =some (.cells #[.slice (some ⟨g',0,none⟩) (ss.length+1) cap'] 133 (0,0)):=by rw[<- hw4];exact heap_setCell_box_a _ hv3
 have hL4:w4.heap[l]? =some (.loop { ja fn sv Bs D .ready none with state:= .busy }):=(hg4.block l (Array.getElem?_eq_some_iff.1 hL3).1 (fun e=>hBl (by cases e;rfl))).trans hL3
 have hK4:w4.heap[D]? =some (.deferred (some [])):=(hg4.block D (Array.getElem?_eq_some_iff.1 hK3).1 (fun e=>hDB (by cases e;rfl))).trans hK3
 have hrow4:=hown'.kept hg4 (ownsRow_ne_a hown' hv3 (fun cur e=>by first | cases e | exact hne (Obj.cells.inj e).2.1))
 have hl4:l<w4.heap.size:=(Array.getElem?_eq_some_iff.1 hL4).1
 have hb3:Below w0.heap.size w0 w3:=(hb2.alloc hb2.size _).grown hg3' (by have:=hb2.size;simp;omega) (fun k e=>(hrow2.lt k e).1)
 have hb4:Below w0.heap.size w0 w4:=hb3.grown hg4 hb3.size (fun k e=>by cases e;exact h0B)
 have hk4:KeepsWalks W w4:=(((hk1.trans hk2).trans (KeepsWalks.alloc _ _)).trans (KeepsWalks.of_grownBy hg3' (ownsRow_not_walk_a (hrow2.alloc _)))).trans (by rw[<- hw4];exact KeepsWalks.setCell _ _ _)
 clear hw4
 refine⟨_,_,run_endRound none hL4,rfl,⟨⟨_,(World.putObj_heap_other hBl).trans hv4, ?_,by simp⟩,World.putObj_heap_same hl4,(World.putObj_heap_other hDl).trans hK4,hb4.grown (grownBy_putObj_a _ _ _) hb4.size (fun k e=>by cases e;exact h0l)⟩,hk4.trans (KeepsWalks.putObj _ hL4 rfl)⟩
 have:=hrow4.kept (grownBy_putObj_a w4 l (.loop { { ja fn sv Bs D .ready none with state:= .busy } with state:=if (none:Option Code).isNone then .ready else .done,pending:=none })) (ownsRow_ne_a hrow4 hL4 (fun cur e=>by first | cases e | exact hne (Obj.cells.inj e).2.1))
 simpa [yU] using this
set_option maxHeartbeats 2000000 in
theorem Hg (n:Nat) (hn:2<=n) (g:Nat) (lb:Array Value) (eg:∀ args w,(callFunc g args).run Tryz.prog w= .ok (.enter g args) w) (S:List Two->Prop) (N:Nat) (hN:N<=maxLen) (hNb:N*32<=140737488355328) (w:World) (hseq:SeqGives Fence.wide (n - 1) Tryz.prog g lb jd S N w): CallsIn Fence.wide n Tryz.prog 174 #[.slice none 0 0,.func (.func g) #[] lb] w fun e w'=>∃ (v:Value) (ss:List Two),e= .returned v/\S ss/\w'.ownsRow w.heap.size 84 2 v ss.length (ss.flatMap yU)/\Below w.heap.size w w':=by
 have h1:1<=n:=by omega
 have mixed:Tryz.prog.follows .mixedOrders=true:=by kernel_rfl
 have tL:=Tryz.underlying133;have aL:=Tryz.isAgg133;have zL:=Tryz.sizeOf133;have vL:=Tryz.zeroValue133
 have tE:=Tryz.underlying84;have aE:=Tryz.isAgg84;have zE:=Tryz.sizeOf84;have vE:=Tryz.zeroValue84
 have tQ:=Tryz.underlying136;have aQ:=Tryz.isAgg136;have zQ:=Tryz.sizeOf136;have vQ:=Tryz.zeroValue136
 have t0:=Tryz.underlying0;have a0:=Tryz.isAgg0;have z0:=Tryz.sizeOf0;have v0:=Tryz.zeroValue0
 have hne:(133:TypeId)≠84:=by decide
 have uL:=run_underlying tL;have uE:=run_underlying tE;have u0:=run_underlying t0;have uQ:=run_underlying tQ
 refine callsIn_of_wp_marks Tryz.func174 rfl trivial ?_ rfl
 simp only[Tryz.ntmps174,List.size_toArray,List.length_cons,List.length_nil,Nat.reduceAdd,Nat.reduceSub,Array.replicate_succ,Array.replicate_zero,List.push_toArray,List.append_toArray,List.nil_append,List.cons_append]
 gi_wp2
 refine wpIn_rangeFunc ?_
 intro fn hfn
 obtain⟨W0,hW0⟩:∃ W0,w.alloc (.cells #[.slice none 0 0] 133)=W0:=⟨_,rfl⟩
 have hs0:W0.heap.size=w.heap.size+1:=by rw[<- hW0];simp
 have hv0:W0.heap[w.heap.size]? =some (.cells #[.slice none 0 0] 133 (0,0)):=by rw[<- hW0];exact World.alloc_heap_new w _
 have hb0:Below w.heap.size w W0:=by rw[<- hW0];exact (Below.refl _ w).alloc (Nat.le_refl _) _
 rw[hW0]
 obtain⟨W1,hW1⟩:∃ W1,(W0.alloc (.deferred (some []))).alloc (.loop (ja fn (.func (.func g) #[] lb) w.heap.size W0.heap.size .ready none))=W1:=⟨_,rfl⟩
 have hold:∀ k,k<W0.heap.size->W1.heap[k]? =W0.heap[k]? :=fun k hk=>by
  rw[<- hW1];exact (Below.heap_alloc _ _ k (by simp;omega)).trans (Below.heap_alloc _ _ k hk)
 have hb1:Below w.heap.size w W1:=by rw[<- hW1];exact (hb0.alloc hb0.size _).alloc (by have:=hb0.size;simp;omega) _
 have hs1:W1.heap.size=W0.heap.size+2:=by rw[<- hW1];simp
 have hM:A2 w fn (.func (.func g) #[] lb) w.heap.size (W0.heap.size+1) W0.heap.size [] W1:=
  ⟨⟨_,(hold w.heap.size (by omega)).trans hv0,⟨rfl,.inl ⟨rfl,rfl⟩⟩,by simp⟩,
   by rw[<- hW1];have:=World.alloc_heap_new (W0.alloc (.deferred (some []))) (.loop (ja fn (.func (.func g) #[] lb) w.heap.size W0.heap.size .ready none));rwa [World.size_alloc] at this,
   by rw[<- hW1];exact (Below.heap_alloc _ _ _ (by simp)).trans (World.alloc_heap_new W0 _),hb1⟩
 refine⟨W0.heap.size+1,[{ target:= .collected W0.heap.size,args:= #[] }],W1,{ target:= .fn (.func g) lb,args:= #[.func (.yield (W0.heap.size+1)) #[] #[]] },W1,g,
  #[.func (.yield (W0.heap.size+1)) #[] #[]]++lb,W1, ?_, ?_, ?_, ?_,fun _=>h1, ?_⟩
 ·rw[<- hW1];exact run_enterLoop_outer _ _ _ _ _
 ·simp[resolve,go_sem]
 ·intro f' hf';trivial
 ·simp[invoke,go_sem,eg]
 ·refine (hseq (W0.heap.size+1) (A2 w fn (.func (.func g) #[] lb) w.heap.size (W0.heap.size+1) W0.heap.size) W1 hb1 (Hf _ _ _ _ _ _ _ hb1.size)
   (fun pre x W hJ hl=>Vd (n - 1 - 1) w fn _ w.heap.size (W0.heap.size+1) W0.heap.size (by omega) (by omega) (by omega) (Nat.le_refl _) (by omega) N hN hNb pre x W hJ hl) hM).mono ?_
  rintro e W2 ⟨⟨v0,rfl⟩,ss,hS,h2⟩
  obtain⟨v,hv,hrow,hnil⟩:=h2.box
  have hend:=run_endLoop (P:=Tryz.prog) h2.L (by simp[ja])
  obtain⟨W3,hW3⟩:∃ W3,W2.putObj (W0.heap.size+1) (.loop { ja fn (.func (.func g) #[] lb) w.heap.size W0.heap.size .ready none with state:= .exhausted })=W3:=⟨_,rfl⟩
  rw[hW3] at hend
  have hg3:W2.grownBy W3 (some (W0.heap.size+1)):=by rw[<- hW3];exact grownBy_putObj_a _ _ _
  have hv3:W3.heap[w.heap.size]? =some (.cells #[v] 133 (0,0)):=by rw[<- hW3];exact (World.putObj_heap_other (by omega)).trans hv
  have hK3:W3.heap[W0.heap.size]? =some (.deferred (some [])):=by rw[<- hW3];exact (World.putObj_heap_other (by omega)).trans h2.K
  have hrow3:=hrow.kept hg3 (ownsRow_ne_a hrow h2.L (fun cur e=>by first | cases e | exact hne (Obj.cells.inj e).2.1))
  have hb3:Below w.heap.size w W3:=h2.below.grown hg3 h2.below.size (fun k e=>by cases e;omega)
  obtain⟨hc3,hf3⟩:=cell_of_box_a hv3
  clear hW3
  refine⟨none,W3,hend, ?_⟩
  gi_wp2
  rw[<- hs0]
  refine⟨by simp,.inl ⟨_,_,rfl,run_takeDeferred hK3, ?_⟩⟩
  exact⟨_,results_tmp rfl _ _ _,v,ss,rfl,hS,hrow3.kept (grownBy_putObj_a _ _ _) (ownsRow_ne_a hrow3 hK3 (fun cur e=>by first | cases e | exact hne (Obj.cells.inj e).2.1)),hb3.grown (grownBy_putObj_a _ _ _) hb3.size (fun k e=>by cases e;omega)⟩
set_option maxHeartbeats 1000000 in
theorem Vf (n:Nat) (hn:3<=n) (g:Nat) (lb:Array Value) (eg:∀ args w,(callFunc g args).run Tryz.prog w= .ok (.enter g args) w) (S:List Two->Prop) (N:Nat) (hN:N<=maxLen) (hNb:N*32<=140737488355328) (w:World) (hseq:SeqGives Fence.wide (n - 1 - 1) Tryz.prog g lb jd S N w): CallsIn Fence.wide n Tryz.prog 133 #[.func (.func g) #[] lb] w fun e w'=>∃ (v:Value) (ss:List Two),e= .returned v/\S ss/\w'.ownsRow w.heap.size 84 2 v ss.length (ss.flatMap yU)/\Below w.heap.size w w':=by
 have h1:1<=n:=by omega
 have e11:∀ args w,(callFunc 174 args).run Tryz.prog w= .ok (.enter 174 args) w:=enters_of Tryz.func174 (by kernel_rfl) rfl
 have mixed:Tryz.prog.follows .mixedOrders=true:=by kernel_rfl
 have tL:=Tryz.underlying133;have aL:=Tryz.isAgg133;have zL:=Tryz.sizeOf133;have vL:=Tryz.zeroValue133
 have tQ:=Tryz.underlying136;have aQ:=Tryz.isAgg136;have zQ:=Tryz.sizeOf136;have vQ:=Tryz.zeroValue136
 have uL:=run_underlying tL;have uQ:=run_underlying tQ
 refine callsIn_of_wp Tryz.func133 rfl trivial ?_ rfl
 simp only[Tryz.ntmps133,List.size_toArray,List.length_cons,List.length_nil,Nat.reduceAdd,Nat.reduceSub,Array.replicate_succ,Array.replicate_zero,List.push_toArray,List.append_toArray,List.nil_append,List.cons_append]
 gi_wp2_with (gi_at_fn 174;refine (Hg (n - 1) (by omega) g lb eg S N hN hNb _ hseq).mono ?_;rintro e w' ⟨v,ss,rfl,hS,hrow,hb⟩)
 all_goals (try (refine⟨trivial,(Hg (n - 1) (by omega) g lb eg S N hN hNb _ hseq).mono ?_⟩;rintro e w' ⟨v,ss,rfl,hS,hrow,hb⟩))
 all_goals gi_wp2
 go_ret
 exact⟨v,ss,rfl,hS,hrow,hb⟩
theorem Yv (mb:Option Nat) (w:World):Calls Tryz.prog 80 #[.map mb] w fun e w'=>e= .returned (.func (.func 135) #[] #[.pointer (some ⟨w.heap.size,0,none⟩)])/\w'=w.alloc (.cells #[.map mb] 81):=by
 have mixed:Tryz.prog.follows .mixedOrders=true:=by kernel_rfl
 have tM:=Tryz.underlying81;have aM:=Tryz.isAgg81;have zM:=Tryz.sizeOf81;have vM:=Tryz.zeroValue81
 have tQ:=Tryz.underlying136;have aQ:=Tryz.isAgg136;have zQ:=Tryz.sizeOf136;have vQ:=Tryz.zeroValue136
 go_enter Tryz.func80,Tryz.ntmps80
 go_wp2
 go_ret
 exact⟨rfl,rfl⟩
set_option maxHeartbeats 2000000 in
theorem QH (KT:SF Tryz.prog 84) {cf:Two->Two->Int} (hO:SWO (ltOf cf)) (hsort:cQ Tryz.prog 134 (Jt 84 EI 81 (fun _=>true) cf)):QN Tryz.prog 79 (.srt2 135 84 84 81 cf):=by
 intro G vt l Bm b clock es w hG hT hBm hcell hb hes hborn hpw hok
 have hkl:=MW cf l
 simp only[Fu,Bool.and_eq_true,decide_eq_true_eq] at hok
 obtain⟨hlen,hstr,hnd,hpart⟩:=hok
 have hml:(1000000:Nat)<=maxLen:=by decide
 have hstr':∀ p,p∈l->p.1.1.length<=9223372036854775807/\p.1.2.length<=9223372036854775807:=fun p hp=>by
  have:=List.all_eq_true.1 hstr p hp
  simpa only[Bool.and_eq_true,decide_eq_true_eq] using this
 obtain⟨D0,hown,hsz,hD⟩:=Xu KT hb hes hborn hpw (Nat.le_trans hlen hml) hstr' hnd
 have hD':∀ k,has D0 (.string k)=true↔∃ p,p∈l.map (·.1)/\keyOf Tryz.prog 84 (jd p)=some (.string k):=fun k=>by
  rw[hD k]
  constructor
  ·rintro⟨p,hp,h⟩;exact⟨p.1,List.mem_map.2 ⟨p,hp,rfl⟩,h⟩
  ·rintro⟨q,hq,h⟩;obtain⟨p,hp,rfl⟩:=List.mem_map.1 hq;exact⟨p,hp,h⟩
 have hs':∀ p,p∈l.map (·.1)->p.1.length<=9223372036854775807/\p.2.length<=9223372036854775807:=fun p hp=>by
  obtain⟨q,hq,rfl⟩:=List.mem_map.1 hp;exact hstr' q hq
 have hseq:SeqGives Fence.wide 2 Tryz.prog 135 #[.pointer (some ⟨Bm,0,none⟩)] jd (fun ss=>ss.Perm (l.map (·.1))) (Maps.size D0) w:=fun ll J W hW hJ hY h0=>by
  have hown':W.ownsMap Tryz.prog 84 (fun _=>some (.nil,[])) b l.length D0:=by
   have hbl:=hown.lt
   obtain⟨es,clock,hb,Ft,hs,hD⟩:=hown
   exact⟨es,clock,(hW.block b hbl).trans hb,Ft,hs,hD⟩
  exact ZZ KT 2 (by omega) ll Bm b l.length D0 (l.map (·.1)) J hY W hJ ((hW.cell (p:=⟨Bm,0,none⟩) hBm).trans hcell) hown' hnd hs' hD' h0
 have cC:=callsIn_wide.1 (Vf 4 (by omega) 135 #[.pointer (some ⟨Bm,0,none⟩)] (enters_of Tryz.func135 (by kernel_rfl) rfl) _ (Maps.size D0) (by rw[hsz];exact Nat.le_trans hlen hml) (by rw[hsz];omega) w hseq)
 have mixed:Tryz.prog.follows .mixedOrders=true:=by kernel_rfl
 have tL:=Tryz.underlying133;have aL:=Tryz.isAgg133;have zL:=Tryz.sizeOf133;have vL:=Tryz.zeroValue133
 have tQ:=Tryz.underlying136;have aQ:=Tryz.isAgg136;have zQ:=Tryz.sizeOf136;have vQ:=Tryz.zeroValue136
 have uL:=run_underlying tL;have uQ:=run_underlying tQ
 have t0:=Tryz.underlying0;have a0:=Tryz.isAgg0;have z0:=Tryz.sizeOf0;have v0:=Tryz.zeroValue0
 have eC:∀ args w,(callFunc 133 args).run Tryz.prog w= .ok (.enter 133 args) w:=enters_of Tryz.func133 (by kernel_rfl) rfl
 have eF:∀ args w,(callFunc 134 args).run Tryz.prog w= .ok (.enter 134 args) w:=enters_of Tryz.func134 (by kernel_rfl) rfl
 go_enter Tryz.func79,Tryz.ntmps79
 go_wp2_with (go_at_fn 133;refine cC.mono ?_;rintro e w1 ⟨v,ss,rfl,hS,hrow,hb1⟩)
 all_goals
  refine (abT hsort hO hG hT hb1 hrow hS hlen hpart).mono ?_
  rintro e w2 ⟨rfl,xs,h1,h2,h3,h4,h5,h6⟩
  go_wp2
 go_ret
 exact⟨v,xs,rfl,h1,h2,h3,h4,h5,h6⟩
end Go.Proofs.SeatS
set_option maxRecDepth 100000
namespace Go.Proofs
open Go.Shelf
def Tryz.Ju:Go.Shelf.Ren:=⟨fun | 6=>134 | 15=>176 | 14=>175 | 28=>212 | 29=>213 | 20=>204 | 21=>205 | 22=>206 | 23=>207 | 24=>208 | 25=>209 | 26=>210 | 27=>211 | 46=>229 | 47=>230 | 48=>231 | 49=>232 | 50=>233 | 57=>242 | n=>n,fun | 22=>133 | 24=>84 | 25=>138 | 3=>3 | 39=>174 | 0=>0 | 53=>173 | 55=>171 | 4=>4 | 46=>238 | 45=>237 | 50=>100 | 5=>5 | 9=>9 | 66=>259 | 70=>263 | 76=>269 | 77=>270 | n=>n,fun | n=>n⟩
theorem Tryz.OV:Go.Proofs.SlLaysF0.n6 Tryz.prog Tryz.Ju:={
 mixed:=by kernel_rfl
 f6:=⟨Tryz.f134.name,by decide,Tryz.func134.trans (congrArg some (by kernel_rfl))⟩
 f14:=⟨Tryz.f175.name,by decide,Tryz.func175.trans (congrArg some (by kernel_rfl))⟩
 f15:=Tryz.func176.trans (congrArg some (by kernel_rfl))
 f20:=⟨Tryz.f204.name,by decide,Tryz.func204.trans (congrArg some (by kernel_rfl))⟩
 f21:=⟨Tryz.f205.name,by decide,Tryz.func205.trans (congrArg some (by kernel_rfl))⟩
 f22:=⟨Tryz.f206.name,by decide,Tryz.func206.trans (congrArg some (by kernel_rfl))⟩
 f23:=⟨Tryz.f207.name,by decide,Tryz.func207.trans (congrArg some (by kernel_rfl))⟩
 f24:=⟨Tryz.f208.name,by decide,Tryz.func208.trans (congrArg some (by kernel_rfl))⟩
 f25:=⟨Tryz.f209.name,by decide,Tryz.func209.trans (congrArg some (by kernel_rfl))⟩
 f26:=⟨Tryz.f210.name,by decide,Tryz.func210.trans (congrArg some (by kernel_rfl))⟩
 f27:=⟨Tryz.f211.name,by decide,Tryz.func211.trans (congrArg some (by kernel_rfl))⟩
 f28:=Tryz.func212.trans (congrArg some (by kernel_rfl))
 f29:=Tryz.func213.trans (congrArg some (by kernel_rfl))
 f46:=⟨Tryz.f229.name,by decide,Tryz.func229.trans (congrArg some (by kernel_rfl))⟩
 f47:=Tryz.func230.trans (congrArg some (by kernel_rfl))
 f48:=Tryz.func231.trans (congrArg some (by kernel_rfl))
 f49:=⟨Tryz.f232.name,by decide,Tryz.func232.trans (congrArg some (by kernel_rfl))⟩
 f50:=⟨Tryz.f233.name,by decide,Tryz.func233.trans (congrArg some (by kernel_rfl))⟩
 f57:=⟨Tryz.f242.name,by decide,Tryz.func242.trans (congrArg some (by kernel_rfl))⟩
 t0:=Tryz.underlying0
 a0:=Tryz.isAgg0
 z0:=Tryz.sizeOf0
 v0:=Tryz.zeroValue0
 t3:=Tryz.underlying3
 a3:=Tryz.isAgg3
 z3:=Tryz.sizeOf3
 v3:=Tryz.zeroValue3
 t4:=Tryz.underlying4
 a4:=Tryz.isAgg4
 z4:=Tryz.sizeOf4
 v4:=Tryz.zeroValue4
 t5:=Tryz.underlying5
 a5:=Tryz.isAgg5
 z5:=Tryz.sizeOf5
 v5:=Tryz.zeroValue5
 t9:=Tryz.underlying9
 a9:=Tryz.isAgg9
 z9:=Tryz.sizeOf9
 v9:=Tryz.zeroValue9
 t22:=Tryz.underlying133
 a22:=Tryz.isAgg133
 z22:=Tryz.sizeOf133
 v22:=Tryz.zeroValue133
 t25:=Tryz.underlying138
 a25:=Tryz.isAgg138
 z25:=Tryz.sizeOf138
 v25:=Tryz.zeroValue138
 t39:=Tryz.underlying174
 a39:=Tryz.isAgg174
 z39:=Tryz.sizeOf174
 v39:=Tryz.zeroValue174
 t45:=Tryz.underlying237
 a45:=Tryz.isAgg237
 z45:=Tryz.sizeOf237
 v45:=Tryz.zeroValue237
 t46:=Tryz.underlying238
 a46:=Tryz.isAgg238
 z46:=Tryz.sizeOf238
 v46:=Tryz.zeroValue238
 t50:=Tryz.underlying100
 a50:=Tryz.isAgg100
 z50:=Tryz.sizeOf100
 v50:=Tryz.zeroValue100
 t53:=Tryz.underlying173
 a53:=Tryz.isAgg173
 z53:=Tryz.sizeOf173
 v53:=Tryz.zeroValue173
 t55:=Tryz.underlying171
 a55:=Tryz.isAgg171
 z55:=Tryz.sizeOf171
 v55:=Tryz.zeroValue171
 t66:=Tryz.underlying259
 a66:=Tryz.isAgg259
 z66:=Tryz.sizeOf259
 v66:=Tryz.zeroValue259
 t70:=Tryz.underlying263
 a70:=Tryz.isAgg263
 z70:=Tryz.sizeOf263
 v70:=Tryz.zeroValue263
 t76:=Tryz.underlying269
 a76:=Tryz.isAgg269
 z76:=Tryz.sizeOf269
 v76:=Tryz.zeroValue269
 t77:=Tryz.underlying270
 a77:=Tryz.isAgg270
 z77:=Tryz.sizeOf270
 v77:=Tryz.zeroValue270 }
def Tryz.Kq:Go.Shelf.Ren:=⟨fun | 4=>156 | n=>n,fun | 22=>47 | 25=>68 | 3=>3 | 4=>4 | 9=>9 | 20=>20 | 0=>0 | n=>n,fun | n=>n⟩
theorem Tryz.Ql:Go.Proofs.Lays8.n4 Tryz.prog Tryz.Kq:={
 mixed:=by kernel_rfl
 f4:=⟨Tryz.f156.name,by decide,Tryz.func156.trans (congrArg some (by kernel_rfl))⟩
 t0:=Tryz.underlying0
 a0:=Tryz.isAgg0
 z0:=Tryz.sizeOf0
 v0:=Tryz.zeroValue0
 t3:=Tryz.underlying3
 a3:=Tryz.isAgg3
 z3:=Tryz.sizeOf3
 v3:=Tryz.zeroValue3
 t4:=Tryz.underlying4
 a4:=Tryz.isAgg4
 z4:=Tryz.sizeOf4
 v4:=Tryz.zeroValue4
 t9:=Tryz.underlying9
 a9:=Tryz.isAgg9
 z9:=Tryz.sizeOf9
 v9:=Tryz.zeroValue9
 t20:=Tryz.underlying20
 a20:=Tryz.isAgg20
 z20:=Tryz.sizeOf20
 v20:=Tryz.zeroValue20
 t22:=Tryz.underlying47
 a22:=Tryz.isAgg47
 z22:=Tryz.sizeOf47
 v22:=Tryz.zeroValue47 }
end Go.Proofs
namespace Go.Proofs.SeatU
open Go.Dn Go.Md Go.Proofs Go.RowKit Go.Shelf Go.Lib Go.Sort
theorem U5 {G:Gh} {x:Two} {a:List Value} (h:aK G EI x a):a=[.string (bs x.1),.string (bs x.2)]:=by
 obtain⟨c,r,e,h1,h2⟩:=h
 have g1:c=[.string (bs x.1)]:=h1
 have g2:r=[.string (bs x.2)]:=h2
 subst g1;subst g2;exact e
theorem aaR (a1 a2 b1 b2:List UInt8) (w:World): Calls Tryz.prog 81 #[.agg #[.string (bs a1),.string (bs a2)],.agg #[.string (bs b1),.string (bs b2)]] w fun e w'=>e= .returned (.int .i64 (bif Lib.compareBytes a1 b1==0 then Lib.compareBytes a2 b2 else Lib.compareBytes a1 b1))/\∃ q os,w'=grow (w.drewN q) os:=by
 have mixed:Tryz.prog.follows .mixedOrders=true:=by kernel_rfl
 have aP:=Tryz.isAgg84;have zP:=Tryz.sizeOf84
 have t3:=Tryz.underlying3;have t4:=Tryz.underlying4
 have a3:=Tryz.isAgg3;have z3:=Tryz.sizeOf3
 have t9:=Tryz.underlying9;have a9:=Tryz.isAgg9;have z9:=Tryz.sizeOf9;have t30:=Tryz.underlying30;have a30:=Tryz.isAgg30;have z30:=Tryz.sizeOf30
 have eO:∀ args w,(callFunc 21 args).run Tryz.prog w= .ok (.enter 21 args) w:=enters_of Tryz.func21 (by kernel_rfl) rfl
 have t54:=Tryz.underlying84
 have t0:=Tryz.underlying0;have a0:=Tryz.isAgg0;have z0:=Tryz.sizeOf0
 have eC:∀ args w,(callFunc 22 args).run Tryz.prog w= .ok (.enter 22 args) w:=enters_of Tryz.func22 (by kernel_rfl) rfl
 have hcmp:∀ (s c:List UInt8) w,Calls Tryz.prog 22 #[.string (bs s),.string (bs c)] w fun e w'=>e= .returned (.int .i64 (Lib.compareBytes s c))/\w'=w:=fun s c w=>by
  have:=Any.strings_Compare Tryz.TH (bs s) (bs c) w
  change Calls Tryz.prog 22 _ _ _ at this
  simpa [bs] using this
 obtain⟨d1,e1⟩:∃ d,d=Lib.compareBytes a1 b1:=⟨_,rfl⟩
 obtain⟨d2,e2⟩:∃ d,d=Lib.compareBytes a2 b2:=⟨_,rfl⟩
 have hc1:=fun w=>hcmp a1 b1 w
 have hc2:=fun w=>hcmp a2 b2 w
 rw[<- e1] at hc1 ⊢
 rw[<- e2] at hc2 ⊢
 clear hcmp e1 e2
 go_enter Tryz.func81,Tryz.ntmps81
 go_wp2
 refine wp_region_still_tail 10 mixed (by kernel_rfl) ?_
 simp only[List.take_succ_cons,List.take_zero,List.drop_succ_cons,List.drop_zero]
 obtain⟨W,hW⟩:∃ W,W=((w.alloc (Obj.cells #[Value.string (bs a1),Value.string (bs a2)] 84)).alloc (Obj.cells #[Value.string (bs b1),Value.string (bs b2)] 84)).drewN 1:=⟨_,rfl⟩
 have hWe:({ ((w.alloc (Obj.cells #[Value.string (bs a1),Value.string (bs a2)] 84)).alloc (Obj.cells #[Value.string (bs b1),Value.string (bs b2)] 84)) with drawn:=((w.alloc (Obj.cells #[Value.string (bs a1),Value.string (bs a2)] 84)).alloc (Obj.cells #[Value.string (bs b1),Value.string (bs b2)] 84)).drawn+1 }:World)=W:=by rw[hW];rfl
 rw[hWe]
 have hA:W.heap[w.heap.size]? =some (.cells #[Value.string (bs a1),Value.string (bs a2)] 84 (0,0)):=by
  rw[hW];exact (Below.heap_alloc _ _ _ (by simp)).trans (World.alloc_heap_new w _)
 have hB:W.heap[w.heap.size+1]? =some (.cells #[Value.string (bs b1),Value.string (bs b2)] 84 (0,0)):=by
  rw[hW]
  have:=World.alloc_heap_new (w.alloc (Obj.cells #[Value.string (bs a1),Value.string (bs a2)] 84)) (Obj.cells #[Value.string (bs b1),Value.string (bs b2)] 84)
  rw[World.size_alloc] at this
  exact this
 have hA0:W.cell? ⟨w.heap.size,0,none⟩=some (.string (bs a1)):=by simp[World.cell?,hA]
 have hA1:W.cell? ⟨w.heap.size,1,none⟩=some (.string (bs a2)):=by simp[World.cell?,hA]
 have hB0:W.cell? ⟨w.heap.size+1,0,none⟩=some (.string (bs b1)):=by simp[World.cell?,hB]
 have hB1:W.cell? ⟨w.heap.size+1,1,none⟩=some (.string (bs b2)):=by simp[World.cell?,hB]
 clear hWe
 repeat still_step
 still_call (hc1 _)
 repeat still_step
 still_call (hc2 _)
 refine wpStill_nil ?_
 go_wp2
 refine wp_loop_rounds 3 ?_
 repeat any_goals (rw[rounds_succ];go_wp2)
 all_goals go_ret
 all_goals refine⟨?_,1,_,by rw[show ((w.alloc (Obj.cells #[Value.string (bs a1),Value.string (bs a2)] 84)).alloc (Obj.cells #[Value.string (bs b1),Value.string (bs b2)] 84)).drewN 1=((w.drewN 1).alloc (Obj.cells #[Value.string (bs a1),Value.string (bs a2)] 84)).alloc (Obj.cells #[Value.string (bs b1),Value.string (bs b2)] 84) from rfl,alloc_eq_grow,alloc_eq_grow,alloc_eq_grow,grow_grow,grow_grow]⟩
 ·have h1:(d1 != 0)=true:=by assumption
  have h2:(d1==0)=false:=by simpa using h1
  rw[h2];rfl
 ·have h1:(d1 != 0)=false:=by assumption
  have h2:(d1==0)=true:=by simpa using h1
  rw[h2];rfl
 ·have h1:(d1 != 0)=false:=by assumption
  have h2:(d1==0)=true:=by simpa using h1
  have h3:(d2 != 0)=false:=by assumption
  have h4:d2=0:=by simpa using h3
  rw[h2,h4];rfl
theorem aeA:SWO (ltOf fK):=by
 have key:∀ a b:Two,ltOf fK a b=true↔Op.bytesLess a.1 b.1=true\/(a.1=b.1/\Op.bytesLess a.2 b.2=true):=fun a b=>by
  show decide (fK a b<0)=true↔_
  rw[decide_eq_true_iff];exact Ec
 have irr:∀ x,ltOf fK x x=false:=fun x=>by
  rw[Bool.eq_false_iff,Ne,key,dS,dS];simp
 have tr:∀ x y z,ltOf fK x y=true->ltOf fK y z=true->ltOf fK x z=true:=fun x y z h1 h2=>by
  rw[key] at*
  rcases h1 with h1 | ⟨e1,h1⟩
  ·rcases h2 with h2 | ⟨e2,h2⟩
   ·exact .inl (er h1 h2)
   ·exact .inl (e2 ▸ h1)
  ·rcases h2 with h2 | ⟨e2,h2⟩
   ·exact .inl (e1 ▸ h2)
   ·exact .inr ⟨e1.trans e2,er h1 h2⟩
 refine⟨irr,tr,fun x y z h1 h2=> ?_⟩
 cases h:ltOf fK x z with
 | false=>rfl
 | true=>
  rcases AX x y with g | g | g
  ·rw[show ltOf fK x y=true from decide_eq_true g] at h1;cases h1
  ·subst g;rw[h] at h2;cases h2
  ·have:=tr y x z (decide_eq_true g) h;rw[this] at h2;cases h2
theorem ab9:SE Tryz.prog 81 EI (fun _=>true) fK:=by
 intro G x y a b ha hb _ _ w
 rw[U5 ha,U5 hb]
 exact aaR _ _ _ _ w
theorem acH:cQ Tryz.prog 134 (Jt 84 EI 81 (fun _=>true) fK):=acR Tryz.OV (t:=EI) Tryz.isAgg84 Tryz.sizeOf84 aeA ab9 (enters_of Tryz.func81 (by kernel_rfl) rfl)
theorem ae1:SF Tryz.prog 84:=ads (by kernel_rfl) (by decide) (by decide) (by kernel_rfl) Tryz.underlying84 (by kernel_rfl) (by kernel_rfl) (by kernel_rfl) (by kernel_rfl) (by kernel_rfl) rfl rfl (by decide) (by decide)
noncomputable def aba:Ei:= .mk 135
theorem ad9:cH Tryz.prog 80:=dh (fn:=Tryz.f80) (by kernel_rfl) rfl (by decide)
theorem aeb:QN Tryz.prog 80 aba:=⟨81,SeatS.Yv⟩
noncomputable def aa9:Ei:= .srt2 135 84 84 81 fK
theorem ad8:cH Tryz.prog 79:=dh (fn:=Tryz.f79) (by kernel_rfl) rfl (by decide)
theorem aea:QN Tryz.prog 79 aa9:=SeatS.QH ae1 aeA acH
end Go.Proofs.SeatU
namespace Go.Proofs.SeatU
open Go.Dn Go.Md Go.Proofs Go.RowKit Go.Shelf Go.Lib Go.Sort
def Cc:Ren:=⟨fun | 22=>83 | 29=>137 | 30=>138 | n=>n,fun | 24=>47 | 9=>68 | n=>n,fun n=>n⟩
theorem RN:xP Tryz.prog Cc 5 64 (.agg #[.string ⟨#[]⟩,.string ⟨#[]⟩,.string ⟨#[]⟩,.int .i64 0,.int .i64 0]):={
 mixed:=by kernel_rfl
 f22:=⟨_,by decide,Tryz.func83.trans (congrArg some (by kernel_rfl:Tryz.f83={ Body2.n22 Cc with name:= "slices.Insert[[]interchange/api.Content,interchange/api.Content]" }))⟩
 f29:=⟨Tryz.f137,by kernel_rfl,by kernel_rfl,by kernel_rfl,by kernel_rfl,by kernel_rfl⟩
 t0:=Tryz.underlying0
 a0:=Tryz.isAgg0
 z0:=Tryz.sizeOf0
 v0:=Tryz.zeroValue0
 t3:=Tryz.underlying3
 a3:=Tryz.isAgg3
 z3:=Tryz.sizeOf3
 v3:=Tryz.zeroValue3
 t4:=Tryz.underlying4
 a4:=Tryz.isAgg4
 z4:=Tryz.sizeOf4
 v4:=Tryz.zeroValue4
 z9:=Tryz.sizeOf68
 t24:=Tryz.underlying47
 a24:=Tryz.isAgg47
 z24:=Tryz.sizeOf47
 v24:=Tryz.zeroValue47
 i9:=by kernel_rfl
 k0:=by decide
 zc:=rfl }
def sE:aA:=⟨[.row 68 ah,.val tI,.val (.slice ah)],[.row 68 ah],fun x=>gK x.1 x.2.1 x.2.2.1⟩
theorem CA:cH Tryz.prog 83:=dh (fn:=Tryz.f83) (by kernel_rfl) rfl (by decide)
theorem CD:cQ Tryz.prog 83 sE:=Ks (t:=ah) RN
def sO:Ren:=⟨fun | 22=>84 | 29=>139 | 30=>140 | n=>n,fun | 24=>88 | 9=>77 | n=>n,fun n=>n⟩
theorem G6:xP Tryz.prog sO 2 32 (.agg #[.bool false,.slice none 0 0]):={
 mixed:=by kernel_rfl
 f22:=⟨_,by decide,Tryz.func84.trans (congrArg some (by kernel_rfl:Tryz.f84={ Body2.n22 sO with name:= "slices.Insert[[]interchange/interchangeref1.Num,interchange/interchangeref1.Num]" }))⟩
 f29:=⟨Tryz.f139,by kernel_rfl,by kernel_rfl,by kernel_rfl,by kernel_rfl,by kernel_rfl⟩
 t0:=Tryz.underlying0
 a0:=Tryz.isAgg0
 z0:=Tryz.sizeOf0
 v0:=Tryz.zeroValue0
 t3:=Tryz.underlying3
 a3:=Tryz.isAgg3
 z3:=Tryz.sizeOf3
 v3:=Tryz.zeroValue3
 t4:=Tryz.underlying4
 a4:=Tryz.isAgg4
 z4:=Tryz.sizeOf4
 v4:=Tryz.zeroValue4
 z9:=Tryz.sizeOf77
 t24:=Tryz.underlying88
 a24:=Tryz.isAgg88
 z24:=Tryz.sizeOf88
 v24:=Tryz.zeroValue88
 i9:=by kernel_rfl
 k0:=by decide
 zc:=rfl }
def mF:aA:=⟨[.row 77 aC,.val tI,.val (.slice aC)],[.row 77 aC],fun x=>dO x.1 x.2.1 x.2.2.1⟩
theorem wQ:cH Tryz.prog 84:=dh (fn:=Tryz.f84) (by kernel_rfl) rfl (by decide)
theorem wW:cQ Tryz.prog 84 mF:=Ks (t:=aC) G6
def y7:Ren:=⟨fun | 22=>30 | 29=>62 | 30=>63 | n=>n,fun | 24=>26 | 9=>35 | n=>n,fun n=>n⟩
theorem MS:xP Tryz.prog y7 7 88 (.agg #[.int .i64 0,.string ⟨#[]⟩,.string ⟨#[]⟩,.string ⟨#[]⟩,.string ⟨#[]⟩,.int .i64 0,.int .i64 0]):={
 mixed:=by kernel_rfl
 f22:=⟨_,by decide,Tryz.func30.trans (congrArg some (by kernel_rfl:Tryz.f30={ Body2.n22 y7 with name:= "slices.Insert[[]interchange/api.Difference,interchange/api.Difference]" }))⟩
 f29:=⟨Tryz.f62,by kernel_rfl,by kernel_rfl,by kernel_rfl,by kernel_rfl,by kernel_rfl⟩
 t0:=Tryz.underlying0
 a0:=Tryz.isAgg0
 z0:=Tryz.sizeOf0
 v0:=Tryz.zeroValue0
 t3:=Tryz.underlying3
 a3:=Tryz.isAgg3
 z3:=Tryz.sizeOf3
 v3:=Tryz.zeroValue3
 t4:=Tryz.underlying4
 a4:=Tryz.isAgg4
 z4:=Tryz.sizeOf4
 v4:=Tryz.zeroValue4
 z9:=Tryz.sizeOf35
 t24:=Tryz.underlying26
 a24:=Tryz.isAgg26
 z24:=Tryz.sizeOf26
 v24:=Tryz.zeroValue26
 i9:=by kernel_rfl
 k0:=by decide
 zc:=rfl }
def pn:aA:=⟨[.row 35 aq,.val tI,.val (.slice aq)],[.row 35 aq],fun x=>lS x.1 x.2.1 x.2.2.1⟩
theorem AY:cH Tryz.prog 30:=dh (fn:=Tryz.f30) (by kernel_rfl) rfl (by decide)
theorem AZ:cQ Tryz.prog 30 pn:=Ks (t:=aq) MS
def u6:aA:=⟨[.row 68 ah,.val tI],[.row 68 ah],fun x=>pH x.1 x.2.1⟩
theorem Es:cH Tryz.prog 156:=dh (fn:=Tryz.f156) (by kernel_rfl) rfl (by decide)
theorem Eu:cQ Tryz.prog 156 u6:=ado Tryz.Ql (t:=ah) (i0:=Tryz.t68) (z:= .agg #[.string ⟨#[]⟩,.string ⟨#[]⟩,.string ⟨#[]⟩,.int .i64 0,.int .i64 0]) (by kernel_rfl) (by kernel_rfl) (by decide) (by kernel_rfl) (by kernel_rfl)
end Go.Proofs.SeatU
