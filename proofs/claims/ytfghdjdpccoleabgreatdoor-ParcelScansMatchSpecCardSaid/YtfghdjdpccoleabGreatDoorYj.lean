/-
  slices.CompactFunc at contents: the library's text is walked. No condition.
-/
import Derived.Test.YtfghdjdpccoleabGreatDoorYv
import Derived.Test.YtfghdjdpccoleabGreatDoorYt
import Derived.Test.YtfghdjdpccoleabGreatDoorYd
import Derived.WalkKit
import Derived.LoopN
import Derived.StillTailTactics
import Derived.Shelf.SlSortCmp.KitK
import Derived.Lib.SlKept
set_option linter.all false
set_option maxRecDepth 100000
namespace Go.Proofs.SeatU
open Go.Dn Go.Md Go.Proofs Go.RowKit Go.Shelf Go.Lib Go.Sort
theorem Uz (w:World) (o:Obj):(w.alloc o).heap[w.heap.size]? =some o:=by
 show (w.heap.push o)[w.heap.size]? =_
 rw[Array.getElem?_push_size]
theorem aa2 (w:World) (o:Obj) (b:Nat) (h:b<w.heap.size):(w.alloc o).heap[b]? =w.heap[b]? :=by
 show (w.heap.push o)[b]? =_
 rw[Array.getElem?_push_lt h,Array.getElem?_eq_getElem h]
theorem ab7 (x1 x2 x3 y1 y2 y3:List UInt8) (p q u v:Int) (w:World): Calls Tryz.prog 99 #[.agg #[.string (bs x1),.string (bs x2),.string (bs x3),.int .i64 p,.int .i64 q],.agg #[.string (bs y1),.string (bs y2),.string (bs y3),.int .i64 u,.int .i64 v]] w fun e w'=>e= .returned (.int .i64 (bif Lib.compareBytes x1 y1==0 then (bif Lib.compareBytes x2 y2==0 then Lib.compareBytes x3 y3 else Lib.compareBytes x2 y2) else Lib.compareBytes x1 y1))/\∃ q os,w'=grow (w.drewN q) os:=by
 have mixed:Tryz.prog.follows .mixedOrders=true:=by kernel_rfl
 have aP:=Tryz.isAgg68;have zP:=Tryz.sizeOf68
 have t3:=Tryz.underlying3;have t4:=Tryz.underlying4
 have a3:=Tryz.isAgg3;have z3:=Tryz.sizeOf3
 have t9:=Tryz.underlying9;have a9:=Tryz.isAgg9;have z9:=Tryz.sizeOf9;have t30:=Tryz.underlying50;have a30:=Tryz.isAgg50;have z30:=Tryz.sizeOf50
 have eO:∀ args w,(callFunc 21 args).run Tryz.prog w= .ok (.enter 21 args) w:=enters_of Tryz.func21 (by kernel_rfl) rfl
 have t54:=Tryz.underlying68
 have t0:=Tryz.underlying0;have a0:=Tryz.isAgg0;have z0:=Tryz.sizeOf0
 have eC:∀ args w,(callFunc 22 args).run Tryz.prog w= .ok (.enter 22 args) w:=enters_of Tryz.func22 (by kernel_rfl) rfl
 have hcmp:∀ (s c:List UInt8) w,Calls Tryz.prog 22 #[.string (bs s),.string (bs c)] w fun e w'=>e= .returned (.int .i64 (Lib.compareBytes s c))/\w'=w:=fun s c w=>by
  have:=Any.strings_Compare Tryz.TH (bs s) (bs c) w
  change Calls Tryz.prog 22 _ _ _ at this
  simpa [bs] using this
 obtain⟨d1,e1⟩:∃ d,d=Lib.compareBytes x1 y1:=⟨_,rfl⟩
 obtain⟨d2,e2⟩:∃ d,d=Lib.compareBytes x2 y2:=⟨_,rfl⟩
 obtain⟨d3,e3⟩:∃ d,d=Lib.compareBytes x3 y3:=⟨_,rfl⟩
 have hc1:=fun w=>hcmp x1 y1 w
 have hc2:=fun w=>hcmp x2 y2 w
 have hc3:=fun w=>hcmp x3 y3 w
 rw[<- e1] at hc1 ⊢
 rw[<- e2] at hc2 ⊢
 rw[<- e3] at hc3 ⊢
 clear hcmp e1 e2 e3
 obtain⟨A,hA'⟩:∃ A,A=Obj.cells #[Value.string (bs x1),Value.string (bs x2),Value.string (bs x3),Value.int .i64 p,Value.int .i64 q] 68:=⟨_,rfl⟩
 obtain⟨B,hB'⟩:∃ B,B=Obj.cells #[Value.string (bs y1),Value.string (bs y2),Value.string (bs y3),Value.int .i64 u,Value.int .i64 v] 68:=⟨_,rfl⟩
 go_enter Tryz.func99,Tryz.ntmps99
 go_wp2
 refine wp_region_still_tail 15 mixed (by kernel_rfl) ?_
 simp only[List.take_succ_cons,List.take_zero,List.drop_succ_cons,List.drop_zero]
 rw[<- hA', <- hB']
 obtain⟨W,hW⟩:∃ W,W=((w.alloc A).alloc B).drewN 1:=⟨_,rfl⟩
 have hWe:({ ((w.alloc A).alloc B) with drawn:=((w.alloc A).alloc B).drawn+1 }:World)=W:=by rw[hW];rfl
 rw[hWe]
 have hA:W.heap[w.heap.size]? =some (.cells #[Value.string (bs x1),Value.string (bs x2),Value.string (bs x3),Value.int .i64 p,Value.int .i64 q] 68 (0,0)):=by
  rw[hW, <- hA'];exact (aa2 _ _ _ (by simp)).trans (Uz w _)
 have hB:W.heap[w.heap.size+1]? =some (.cells #[Value.string (bs y1),Value.string (bs y2),Value.string (bs y3),Value.int .i64 u,Value.int .i64 v] 68 (0,0)):=by
  rw[hW, <- hB']
  have:=Uz (w.alloc A) B
  rw[World.size_alloc] at this
  exact this
 have hA0:W.cell? ⟨w.heap.size,0,none⟩=some (.string (bs x1)):=by simp[World.cell?,hA]
 have hA1:W.cell? ⟨w.heap.size,1,none⟩=some (.string (bs x2)):=by simp[World.cell?,hA]
 have hA2:W.cell? ⟨w.heap.size,2,none⟩=some (.string (bs x3)):=by simp[World.cell?,hA]
 have hB0:W.cell? ⟨w.heap.size+1,0,none⟩=some (.string (bs y1)):=by simp[World.cell?,hB]
 have hB1:W.cell? ⟨w.heap.size+1,1,none⟩=some (.string (bs y2)):=by simp[World.cell?,hB]
 have hB2:W.cell? ⟨w.heap.size+1,2,none⟩=some (.string (bs y3)):=by simp[World.cell?,hB]
 have HW:Aside (W=((w.alloc A).alloc B).drewN 1):=hW
 clear hWe hA' hB' hA hB hW
 repeat still_step
 still_call (hc1 _)
 repeat still_step
 still_call (hc2 _)
 repeat still_step
 still_call (hc3 _)
 refine wpStill_nil ?_
 go_wp2
 refine wp_loop_rounds 4 ?_
 repeat any_goals (rw[rounds_succ];go_wp2)
 all_goals go_ret
 all_goals refine⟨?_,1,_,by rw[HW.out,show ((w.alloc A).alloc B).drewN 1=((w.drewN 1).alloc A).alloc B from rfl,alloc_eq_grow,alloc_eq_grow,alloc_eq_grow,grow_grow,grow_grow]⟩
 ·have h1:(d1 != 0)=true:=by assumption
  have h2:(d1==0)=false:=by simpa using h1
  rw[h2];rfl
 ·have h1:(d1 != 0)=false:=by assumption
  have h2:(d1==0)=true:=by simpa using h1
  have h3:(d2 != 0)=true:=by assumption
  have h4:(d2==0)=false:=by simpa using h3
  rw[h2,h4];rfl
 ·have h1:(d1 != 0)=false:=by assumption
  have h2:(d1==0)=true:=by simpa using h1
  have h3:(d2 != 0)=false:=by assumption
  have h4:(d2==0)=true:=by simpa using h3
  rw[h2,h4];rfl
 ·have h1:(d1 != 0)=false:=by assumption
  have h2:(d1==0)=true:=by simpa using h1
  have h3:(d2 != 0)=false:=by assumption
  have h4:(d2==0)=true:=by simpa using h3
  have h5:(d3 != 0)=false:=by assumption
  have h6:d3=0:=by simpa using h5
  rw[h2,h4,h6];rfl
theorem aco (x1 x2 x3 y1 y2 y3:List UInt8) (p q u v:Int) (w:World): Calls Tryz.prog 101 #[.agg #[.string (bs x1),.string (bs x2),.string (bs x3),.int .i64 p,.int .i64 q],.agg #[.string (bs y1),.string (bs y2),.string (bs y3),.int .i64 u,.int .i64 v]] w fun e w'=>e= .returned (.bool (decide ((bif Lib.compareBytes x1 y1==0 then (bif Lib.compareBytes x2 y2==0 then Lib.compareBytes x3 y3 else Lib.compareBytes x2 y2) else Lib.compareBytes x1 y1)=0)))/\∃ q os,w'=grow (w.drewN q) os:=by
 have mixed:Tryz.prog.follows .mixedOrders=true:=by kernel_rfl
 have aP:=Tryz.isAgg68;have zP:=Tryz.sizeOf68
 have t3:=Tryz.underlying3;have t4:=Tryz.underlying4
 have a3:=Tryz.isAgg3;have z3:=Tryz.sizeOf3
 have t54:=Tryz.underlying68
 have hc:=fun w=>ab7 x1 x2 x3 y1 y2 y3 p q u v w
 obtain⟨d,hd⟩:∃ d,d=(bif Lib.compareBytes x1 y1==0 then (bif Lib.compareBytes x2 y2==0 then Lib.compareBytes x3 y3 else Lib.compareBytes x2 y2) else Lib.compareBytes x1 y1):=⟨_,rfl⟩
 rw[<- hd] at hc ⊢
 clear hd
 have e99:∀ args w,(callFunc 99 args).run Tryz.prog w= .ok (.enter 99 args) w:=enters_of Tryz.func99 (by kernel_rfl) rfl
 go_enter Tryz.func101,Tryz.ntmps101
 go_wp2_with (go_at_fn 99;refine (hc _).mono ?_;rintro e w' ⟨rfl,qq,os,rfl⟩)
 all_goals (try (refine (hc _).mono ?_;rintro e w' ⟨rfl,qq,os,rfl⟩))
 all_goals go_wp2
 all_goals go_ret
 all_goals refine⟨rfl,qq,_,by show grow (((w.drewN qq).alloc _).alloc _) os=_;rw[alloc_eq_grow,alloc_eq_grow,grow_grow,grow_grow]⟩
theorem ab5 (a b:aa):(bif Lib.compareBytes a.1 b.1==0 then (bif Lib.compareBytes a.2.1 b.2.1==0 then Lib.compareBytes a.2.2.1 b.2.2.1 else Lib.compareBytes a.2.1 b.2.1) else Lib.compareBytes a.1 b.1)=bQ a b:=by
 unfold bQ bV
 by_cases h1:Lib.compareBytes a.1 b.1=0
 ·rw[if_pos h1,show (Lib.compareBytes a.1 b.1==0)=true by simpa using h1,cond_true]
  unfold bV
  by_cases h2:Lib.compareBytes a.2.1 b.2.1=0
  ·rw[if_pos h2,show (Lib.compareBytes a.2.1 b.2.1==0)=true by simpa using h2,cond_true]
   unfold bV
   by_cases h3:Lib.compareBytes a.2.2.1 b.2.2.1=0
   ·rw[if_pos h3,h3];rfl
   ·rw[if_neg h3]
  ·rw[if_neg h2,show (Lib.compareBytes a.2.1 b.2.1==0)=false by simpa using h2,cond_false]
 ·rw[if_neg h1,show (Lib.compareBytes a.1 b.1==0)=false by simpa using h1,cond_false]
theorem K4 {G:Gh} {x:aa} {a:List Value} (h:aK G ah x a):a=[.string (bs x.1),.string (bs x.2.1),.string (bs x.2.2.1),.int .i64 x.2.2.2.1,.int .i64 x.2.2.2.2]:=by
 obtain⟨c1,r1,e1,h1,c2,r2,e2,h2,c3,r3,e3,h3,c4,r4,e4,h4,h5⟩:=h
 have g1:c1=[.string (bs x.1)]:=h1
 have g2:c2=[.string (bs x.2.1)]:=h2
 have g3:c3=[.string (bs x.2.2.1)]:=h3
 have g4:c4=[.int .i64 x.2.2.2.1]:=h4
 have g5:r4=[.int .i64 x.2.2.2.2]:=h5
 subst g1;subst g2;subst g3;subst g4;subst g5;subst e4;subst e3;subst e2;exact e1
def eqC (a b:aa):Bool:=decide (bQ a b=0)
theorem adj {G:Gh} {x y:aa} {a b:List Value} (ha:aK G ah x a) (hb:aK G ah y b) (w:World): Calls Tryz.prog 101 #[.agg a.toArray,.agg b.toArray] w fun e w'=>e= .returned (.bool (eqC x y))/\∃ q os,w'=grow (w.drewN q) os:=by
 rw[K4 ha,K4 hb]
 have:=aco x.1 x.2.1 x.2.2.1 y.1 y.2.1 y.2.2.1 x.2.2.2.1 x.2.2.2.2 y.2.2.2.1 y.2.2.2.2 w
 rw[ab5] at this
 exact this
end Go.Proofs.SeatU
set_option maxRecDepth 1000000
namespace Go.Proofs.SeatU
open Go.Dn Go.Md Go.Proofs Go.RowKit Go.Shelf Go.Lib Go.Sort
section
variable {α:Type} [Inhabited α]
def kpE (eqb:α->α->Bool) (d:Array α) (j:Nat):Bool:=decide (j=0)|| !eqb d[j]! d[j - 1]!
theorem TG {eqb:α->α->Bool} {d:Array α} {j:Nat} (h:eqb d[j+1]! d[j]! =false):kpE eqb d (j+1)=true:=by
 unfold kpE
 rw[show j+1 - 1=j from rfl,h];simp
theorem Xd {eqb:α->α->Bool} {d:Array α} {j:Nat} (h:eqb d[j+1]! d[j]! =true):kpE eqb d (j+1)=false:=by
 unfold kpE
 rw[show j+1 - 1=j from rfl,h];simp
theorem Y9 (eqb:α->α->Bool) (d:Array α):∀ j,j<1->kpE eqb d j=true:=fun j hj=>by
 have:j=0:=by omega
 subst this;rfl
def aeY (enc:α->List Value) (k:Nat) (eqb:α->α->Bool) (blk off size:Nat) (w:World):Prop:=
 ∀ (W:World) (dk:Array α),dk.size=size->SWK enc k w blk off dk W->∀ x y:α,
  Calls Tryz.prog 101 #[.agg (enc x).toArray,.agg (enc y).toArray] W fun e w'=>e= .returned (.bool (eqb x y))/\∃ q os',w'=grow (W.drewN q) os'
theorem YP (enc:α->List Value) (k:Nat) (hk:∀ x,(enc x).length=k) (d:Array α) (i:Nat) (x:α) (hi:i<d.size):setMany (flatK enc k d) (i*k) (enc x)=flatK enc k (d.setIfInBounds i x):=by
 refine ext_get! (by simp) fun t ht=> ?_
 have ht':t<d.size*k:=by simpa using ht
 have k0:0<k:=by
  rcases Nat.eq_zero_or_pos k with h | h
  ·subst h;simp at ht'
  ·exact h
 rw[get_setMany _ _ _ t (by simpa using ht'),get_flatK _ _ _ t ht',get_flatK _ _ _ t (by simpa using ht'),hk]
 have m:t / k=i->t - i*k=t % k:=fun h=>by subst h;rw[Nat.mod_eq_sub_div_mul]
 by_cases c:t / k=i
 ·rw[if_pos ((blk_iff k i t k0).2 c),m c,c,getElem!_set_same d i x hi]
 ·rw[if_neg (fun h=>c ((blk_iff k i t k0).1 h)),getElem!_set_other d i (t / k) x c]
theorem aau {enc:α->List Value} {k:Nat} {w0 W:World} {blk off:Nat} {dk d0:Array α} (h:SWK enc k w0 blk off dk W) (R:RowK enc k w0 blk off d0) (i:Nat) (hi:i<dk.size) (x:α): SWK enc k w0 blk off (dk.setIfInBounds i x) (W.setCells blk (off+i*k) (enc x)):=by
 obtain⟨n,os,rfl⟩:=h
 refine⟨n,os, ?_⟩
 unfold sortWorldK
 rw[setCells_grow os blk _ _ _ (by rw[size_putRowK];exact R.hblk)]
 congr 1
 unfold putRowK
 rw[setCells_putRow _ _ _ _ _ _ (by rw[R.hk,size_flatK];exact rowK_bnd dk k i hi),YP enc k R.hk dk i x hi]
set_option maxHeartbeats 4000000 in
theorem Wk (k:Nat) (hk5:k=5) (zE:∀ w,(Go.sizeOf 68).run Tryz.prog w= .ok k w) (enc:α->List Value) (eqb:α->α->Bool) (blk off cap:Nat) (d:Array α) (w:World) (R0:RowK enc k w blk off d) (hcmp:aeY enc k eqb blk off d.size w) (hsz:d.size<=9223372036854775807) (hcap:d.size<=cap) (hc63:cap<=9223372036854775807): Calls Tryz.prog 100 #[.slice (some ⟨blk,off,none⟩) d.size cap,.func (.func 101) #[] #[]] w fun e w'=> e= .returned (.slice (some ⟨blk,off,none⟩) (keptUpTo (kpE eqb d) d d.size).length cap)/\∃ (dk:Array α) (W:World),dk.size=d.size/\SWK enc k w blk off dk W/\(∀ j,j<(keptUpTo (kpE eqb d) d d.size).length->(keptUpTo (kpE eqb d) d d.size)[j]? =some dk[j]!)/\ (w'=W\/∃ n z,(keptUpTo (kpE eqb d) d d.size).length+n=d.size/\w'=W.setCells blk (off+(keptUpTo (kpE eqb d) d d.size).length*k) (Builtin.zeroCells z n).toList/\z.size=k):=by
 have mixed:Tryz.prog.follows .mixedOrders=true:=by kernel_rfl
 have aE:=Tryz.isAgg68
 have t0:=Tryz.underlying0;have a0:=Tryz.isAgg0;have z0:=Tryz.sizeOf0
 have t3:=Tryz.underlying3;have a3:=Tryz.isAgg3;have z3:=Tryz.sizeOf3;have v3:=Tryz.zeroValue3
 have t4:=Tryz.underlying4;have a4:=Tryz.isAgg4;have z4:=Tryz.sizeOf4;have v4:=Tryz.zeroValue4
 have t47:=Tryz.underlying47;have a47:=Tryz.isAgg47;have z47:=Tryz.sizeOf47;have v47:=Tryz.zeroValue47
 have t155:=Tryz.underlying155;have a155:=Tryz.isAgg155;have z155:=Tryz.sizeOf155
 have u47:=run_underlying Tryz.underlying47
 have eg:∀ args w,(callFunc 101 args).run Tryz.prog w= .ok (.enter 101 args) w:=enters_of Tryz.func101 (by kernel_rfl) rfl
 have R:Aside _:=R0
 have HC:Aside _:=hcmp
 have HK5:Aside (k=5):=hk5
 have S0:Aside (SWK enc k w blk off d w):=SWK.start R0.hH
 clear R0 hcmp hk5
 by_cases h2:d.size<2
 ·go_enter Tryz.func100,Tryz.ntmps100
  go_wp2
  go_ret
  have e:keptUpTo (kpE eqb d) d d.size=d.toList:=by rw[keptUpTo_all _ d _ (fun j hj=>Y9 eqb d j (by omega)),range_map_get]
  refine⟨by rw[e];simp,d,w,rfl,S0.out,fun j hj=> ?_,.inl rfl⟩
  rw[e] at hj ⊢
  have hj':j<d.size:=by simpa using hj
  rw[getElem!_pos d j hj'];simp[hj']
 ·go_enter Tryz.func100,Tryz.ntmps100
  go_wp2
  go_loopg [5] d.size (fun g s5 wr=>∃ kp:Nat,kp+1<=d.size/\d.size - (kp+1)<=g/\s5= .int .i64 ((kp:Int)+1)/\Aside (SWK enc k w blk off d wr)/\Aside (∀ j,j<kp+1->kpE eqb d j=true))
  case atStart=>exact⟨0,by omega,by omega,by go_num,S0,Y9 eqb d⟩
  case round=>
   clear S0
   obtain⟨kp,hk1,hg,rfl,S1,HA⟩:=hrel
   by_cases hlt:kp+1<d.size
   ·have hltz:(kp:Int)+1<(d.size:Int):=by omega
    obtain⟨xj,hxj⟩:∃ x,d[kp+1]! =x:=⟨_,rfl⟩
    obtain⟨xp,hxp⟩:∃ x,d[kp]! =x:=⟨_,rfl⟩
    have hwp:IntKind.i64.wrap (kp:Int)=(kp:Int):=by rw[IntKind.wrap_i64];omega
    have hwp1:IntKind.i64.wrap ((kp:Int)+1 - 1)=(kp:Int):=by rw[IntKind.wrap_i64];omega
    have jz1:(kp:Int)<(d.size:Int):=by omega
    have p0:(0:Int)<=(kp:Int)+1:=by omega
    have e0:((kp:Int)+1).toNat=kp+1:=by omega
    have lj:∀ n' os',Sem.run Tryz.prog (loadCellsFrom ⟨blk,off+(kp+1)*k,none⟩ 0 k #[]) (grow (wr.drewN n') os')= .ok (enc xj).toArray (grow (wr.drewN n') os'):=fun n' os'=>by
     rw[<- hxj];exact S1.out.ld R.out rfl _ (kp+1) hlt n' os'
    have lp:∀ n' os',Sem.run Tryz.prog (loadCellsFrom ⟨blk,off+kp*k,none⟩ 0 k #[]) (grow (wr.drewN n') os')= .ok (enc xp).toArray (grow (wr.drewN n') os'):=fun n' os'=>by
     rw[<- hxp];exact S1.out.ld R.out rfl _ kp (by omega) n' os'
    have hcg:∀ n' os',Calls Tryz.prog 101 (#[.agg (enc xj).toArray,.agg (enc xp).toArray]++ #[]) (grow (wr.drewN n') os') fun e w'=>e= .returned (.bool (eqb xj xp))/\∃ q os'',w'=grow ((grow (wr.drewN n') os').drewN q) os'':=fun n' os'=>HC.out _ d rfl (S1.out.grown n' os') xj xp
    cases hlv:eqb xj xp with
    | true=>
     rw[hlv] at hcg
     go_wp2_with fail
     go_quiet_grown (first | (go_at_fn 101;refine Calls.grown_of (hcg _ _)))
     go_wp2
     have S2:Aside (SWK enc k w blk off d (grow (wr.drewN nq) osq)):=S1.out.grown nq osq
     have K0:Aside (KeptInv (kpE eqb d) d (kp+1+1) (kp+1) d):=KeptInv.start HA.out (Xd (by rw[hxj,hxp];exact hlv))
     clear lj lp hcg
     generalize grow (wr.drewN nq) osq=wq at S2 ⊢
     clear hxj hxp hlv e0 p0 jz1 hwp hwp1
     go_loopg [5,7] d.size (fun g s5 s7 wr=>∃ (kk q:Nat) (dk:Array α),s5= .int .i64 kk/\s7= .int .i64 ((q:Int)+1)/\kp+1+(q+1)<=d.size/\d.size - (kp+1+(q+1))<=g/\dk.size=d.size/\Aside (SWK enc k w blk off dk wr)/\Aside (KeptInv (kpE eqb d) d (kp+1+(q+1)) kk dk))
     case atStart=>exact⟨kp+1,0,d,by go_num,by go_num,by omega,by omega,rfl,S2,K0⟩
     case round=>
      clear S2 K0
      obtain⟨kk,q,dk,rfl,rfl,hle,hg2,hds,S3,I3⟩:=hrel
      have hkk:=I3.out.lt
      by_cases hlt2:kp+1+(q+1)<d.size
      ·obtain⟨xu,hxu⟩:∃ x,dk[kp+1+(q+1)]! =x:=⟨_,rfl⟩
       obtain⟨xv,hxv⟩:∃ x,dk[kp+1+q]! =x:=⟨_,rfl⟩
       have hwq:IntKind.i64.wrap (q:Int)=(q:Int):=by rw[IntKind.wrap_i64];omega
       have hwq1:IntKind.i64.wrap ((q:Int)+1 - 1)=(q:Int):=by rw[IntKind.wrap_i64];omega
       have qz:(q:Int)+1<((d.size - (kp+1):Nat):Int):=by omega
       have qz1:(q:Int)<((d.size - (kp+1):Nat):Int):=by omega
       have p0:(0:Int)<=(q:Int)+1:=by omega
       have e0:((q:Int)+1).toNat=q+1:=by omega
       have ea:off+(kp+1)*k+(q+1)*k=off+(kp+1+(q+1))*k:=by rw[Nat.add_assoc, <- Nat.add_mul]
       have eb:off+(kp+1)*k+q*k=off+(kp+1+q)*k:=by rw[Nat.add_assoc, <- Nat.add_mul]
       have lj:∀ n' os',Sem.run Tryz.prog (loadCellsFrom ⟨blk,off+(kp+1)*k+(q+1)*k,none⟩ 0 k #[]) (grow (wr.drewN n') os')= .ok (enc xu).toArray (grow (wr.drewN n') os'):=fun n' os'=>by
        rw[<- hxu,ea];exact S3.out.ld R.out hds _ (kp+1+(q+1)) (by omega) n' os'
       have lp:∀ n' os',Sem.run Tryz.prog (loadCellsFrom ⟨blk,off+(kp+1)*k+q*k,none⟩ 0 k #[]) (grow (wr.drewN n') os')= .ok (enc xv).toArray (grow (wr.drewN n') os'):=fun n' os'=>by
        rw[<- hxv,eb];exact S3.out.ld R.out hds _ (kp+1+q) (by omega) n' os'
       have hcg:∀ n' os',Calls Tryz.prog 101 (#[.agg (enc xu).toArray,.agg (enc xv).toArray]++ #[]) (grow (wr.drewN n') os') fun e w'=>e= .returned (.bool (eqb xu xv))/\∃ q os'',w'=grow ((grow (wr.drewN n') os').drewN q) os'':=fun n' os'=>HC.out _ dk hds (S3.out.grown n' os') xu xv
       have hu:d[kp+1+(q+1)]! =xu:=by rw[<- hxu,I3.out.high _ (by omega)]
       have hv:d[kp+1+q]! =xv:=by rw[<- hxv,I3.out.high _ (by omega)]
       clear ea eb
       have hu:Aside _:=hu
       have hv:Aside _:=hv
       clear hxu hxv
       cases hlv:eqb xu xv with
       | true=>
        rw[hlv] at hcg
        go_wp2_with fail
        go_quiet_grown (first | (go_at_fn 101;refine Calls.grown_of (hcg _ _)))
        go_wp2
        go_roundg (d.size - (kp+1+(q+1+1)))
        case measure=>omega
        case rel=>exact⟨kk,q+1,dk,rfl,by go_num,by omega,Nat.le_refl _,hds,S3.out.grown _ _,I3.out.skip (Xd (j:=kp+1+q) (by rw[show kp+1+q+1=kp+1+(q+1) from rfl,hu.out,hv.out];exact hlv))⟩
       | false=>
        rw[hlv] at hcg
        go_wp2_with fail
        go_quiet_grown (first | (go_at_fn 101;refine Calls.grown_of (hcg _ _)))
        have S4:Aside (SWK enc k w blk off dk (grow (wr.drewN nq) osq)):=S3.out.grown nq osq
        have lj2:Sem.run Tryz.prog (loadCellsFrom ⟨blk,off+(kp+1)*k+(q+1)*k,none⟩ 0 k #[]) (grow (wr.drewN nq) osq)= .ok (enc xu).toArray (grow (wr.drewN nq) osq):=lj nq osq
        have s1:Sem.run Tryz.prog (storeCells ⟨blk,off+kk*k,none⟩ (enc xu) 0) (grow (wr.drewN nq) osq)= .ok () ((grow (wr.drewN nq) osq).setCells blk (off+kk*k) (enc xu)):=
         stores_of_holds _ (S4.out.holds R.out.hblk R.out.hH hds) (kk*k) _ (by rw[R.out.hk,size_flatK];exact rowK_bnd dk k kk (by omega)) (R.out.h1 _)
        have kkz:(kk:Int)<(d.size:Int):=by omega
        have hsU:(enc xu).length=k:=R.out.hk _
        clear lj lp hcg
        generalize grow (wr.drewN nq) osq=wq2 at S4 lj2 s1 ⊢
        obtain⟨cU,hcU⟩:∃ c,c=enc xu:=⟨_,rfl⟩
        rw[<- hcU] at lj2 s1 hsU
        have CC:Aside (cU=enc xu):=hcU
        clear hcU
        go_wp2
        go_roundg (d.size - (kp+1+(q+1+1)))
        case measure=>omega
        case rel=>exact⟨kk+1,q+1,dk.setIfInBounds kk xu,by go_num,by go_num,by omega,Nat.le_refl _,by simp[hds],by rw[CC.out];exact aau S4.out R.out kk (by omega) xu,by
         have:=I3.out.keep hlt2 (TG (j:=kp+1+q) (by rw[show kp+1+q+1=kp+1+(q+1) from rfl,hu.out,hv.out];exact hlv))
         rwa [hu.out] at this⟩
      ·have hend:kp+1+(q+1)=d.size:=by omega
       have qz:¬ (q:Int)+1<((d.size - (kp+1):Nat):Int):=by omega
       have hH:=S3.out.holds R.out.hblk R.out.hH hds
       obtain⟨Z,hZ⟩:∃ Z:Array Value,Z=(Value.agg #[.string ⟨#[]⟩,.string ⟨#[]⟩,.string ⟨#[]⟩,.int .i64 0,.int .i64 0]).cells:=⟨_,rfl⟩
       have hZk:Z.size=k:=by rw[hZ,HK5.out];rfl
       have hin:∀ t,t<(d.size - kk)*k->wr.cell? ⟨blk,off+kk*k+t,none⟩≠none/\wr.frozen? ⟨blk,off+kk*k+t,none⟩=false:=fun t ht=>by
        have hb:kk*k+t<dk.size*k:=by
         have:=Nat.add_mul kk (d.size - kk) k
         rw[show kk+(d.size - kk)=d.size by omega] at this
         rw[hds];omega
        have:=hH (kk*k+t) (by rw[size_flatK];exact hb)
        rw[<- Nat.add_assoc] at this
        exact⟨by rw[this.1];simp,this.2⟩
       have hcl:∀ ty,(Builtin.clear_ #[47] ty #[.slice (some ⟨blk,off+kk*k,none⟩) (d.size - kk) (cap - kk)]).run Tryz.prog wr= .ok (.tuple #[]) (wr.setCells blk (off+kk*k) (Builtin.zeroCells Z (d.size - kk)).toList):=fun ty=>by
        rw[hZ]
        refine QF wr 47 68 ty Tryz.underlying47 Tryz.zeroValue68 (by intro v hv;simp[Value.cells] at hv;rcases hv with h | h<;>subst h<;>rfl) blk _ _ _ (by omega) (fun j hj=> ?_) (fun j hj=> ?_)
        ·rw[<- hZ,hZk] at hj
         exact Option.isSome_iff_ne_none.2 (hin j hj).1
        ·rw[<- hZ,hZk] at hj
         exact (hin j hj).2
       have kkc:kk<=cap:=by omega
       have kkd:kk<=d.size:=by omega
       clear hin hH hZ
       go_wp2
       go_ret
       have hI:=I3.out
       rw[hend] at hI
       exact⟨by rw[hI.len];rfl,dk,hds,wr,S3.out,fun j hj=>hI.low j (by rw[hI.len] at hj;exact hj),.inr ⟨d.size - kk,by rw[hI.len];omega,Z,by rw[hI.len],hZk⟩⟩
    | false=>
     rw[hlv] at hcg
     go_wp2_with fail
     go_quiet_grown (first | (go_at_fn 101;refine Calls.grown_of (hcg _ _)))
     go_wp2
     go_roundg (d.size - (kp+1+1))
     case measure=>omega
     case rel=>exact⟨kp+1,by omega,Nat.le_refl _,by go_num,S1.out.grown _ _,fun j hj=>by
      by_cases e:j=kp+1
      ·subst e;exact TG (by rw[hxj,hxp];exact hlv)
      ·exact HA.out j (by omega)⟩
   ·have hltz:¬ (kp:Int)+1<(d.size:Int):=by omega
    go_wp2
    go_ret
    have e:keptUpTo (kpE eqb d) d d.size=d.toList:=by rw[keptUpTo_all _ d _ (fun j hj=>HA.out j (by omega)),range_map_get]
    refine⟨by rw[e];simp,d,rfl,wr,S1.out,fun j hj=> ?_,.inl rfl⟩
    rw[e] at hj ⊢
    have hj':j<d.size:=by simpa using hj
    rw[getElem!_pos d j hj'];simp[hj']
end
theorem Mk (a:Option Addr) (cap:Nat) (w:World):Calls Tryz.prog 100 #[.slice a 0 cap,.func (.func 101) #[] #[]] w fun e w'=>e= .returned (.slice a 0 cap)/\w'=w:=by
 have mixed:Tryz.prog.follows .mixedOrders=true:=by kernel_rfl
 have t3:=Tryz.underlying3;have a3:=Tryz.isAgg3;have z3:=Tryz.sizeOf3;have v3:=Tryz.zeroValue3
 have t4:=Tryz.underlying4;have a4:=Tryz.isAgg4;have z4:=Tryz.sizeOf4;have v4:=Tryz.zeroValue4
 have t47:=Tryz.underlying47;have a47:=Tryz.isAgg47;have z47:=Tryz.sizeOf47;have v47:=Tryz.zeroValue47
 have t155:=Tryz.underlying155;have a155:=Tryz.isAgg155;have z155:=Tryz.sizeOf155
 go_enter Tryz.func100,Tryz.ntmps100
 go_wp2
 go_ret
 exact⟨rfl,rfl⟩
theorem K2 {α:Type} (eq:α->α->Bool) (x:α):∀ (l:List α) (a:α),dU eq a (l++[x])=dU eq a l++(if eq x ((a::l).getLast (by simp))=true then [] else [x])
 | [],a=>by
  show dU eq a [x]=_
  unfold dU
  cases h:eq x a<;>simp[h,dU]
 | y::r,a=>by
  have ih:=K2 eq x r y
  rw[List.cons_append]
  unfold dU
  have hl:(a::y::r).getLast (by simp)=(y::r).getLast (by simp):=by simp
  rw[hl]
  cases h:eq y a with
  | true=>simp only[if_true];exact ih
  | false=>simp only[Bool.false_eq_true,if_false];rw[ih];rfl
theorem Xa {α:Type} [Inhabited α] (eqb:α->α->Bool) (d:Array α):keptUpTo (kpE eqb d) d d.size=fQ eqb d.toList:=by
 have key:∀ m,m<=d.size->keptUpTo (kpE eqb d) d m=fQ eqb (d.toList.take m):=by
  intro m
  induction m with
  | zero=>intro _;rfl
  | succ m ih=>
   intro hm
   have hlt:m<d.size:=by omega
   rw[keptUpTo_succ,ih (by omega)]
   have ht:d.toList.take (m+1)=d.toList.take m++[d[m]!]:=by
    rw[List.take_succ,getElem!_pos d m hlt]
    simp[hlt]
   rw[ht]
   cases hm0:m with
   | zero=>
    subst hm0
    rfl
   | succ q=>
    subst hm0
    cases hl:d.toList.take (q+1) with
    | nil=>
     have:(d.toList.take (q+1)).length=0:=by rw[hl];rfl
     rw[List.length_take,Array.length_toList] at this;omega
    | cons a r=>
     have hlast:(a::r).getLast (by simp)=d[q]! :=by
      have h1:(a::r).getLast? =some d[q]! :=by
       rw[<- hl,List.getLast?_take]
       rw[getElem!_pos d q (by omega)]
       simp[show q<d.size by omega]
      rw[List.getLast?_eq_some_getLast (by simp)] at h1
      exact Option.some.inj h1
     show a::dU eqb a r++_=a::dU eqb a (r++[d[q+1]!])
     rw[K2,hlast,List.cons_append]
     cases h:eqb d[q+1]! d[q]! with
     | true=>rw[Xd h];simp
     | false=>rw[TG h];simp
 have:=key d.size (Nat.le_refl _)
 rwa [show d.toList.take d.size=d.toList from List.take_of_length_le (by simp)] at this
theorem Wi {α β:Type} (f:α->β) (eq:β->β->Bool):∀ l:List α,fQ eq (l.map f)=(fQ (fun a b=>eq (f a) (f b)) l).map f:=by
 have key:∀ (r:List α) (x:α),dU eq (f x) (r.map f)=(dU (fun a b=>eq (f a) (f b)) x r).map f:=by
  intro r
  induction r with
  | nil=>intro x;rfl
  | cons y r ih=>
   intro x
   rw[List.map_cons]
   unfold dU
   cases h:eq (f y) (f x) with
   | true=>simp only[if_true];exact ih y
   | false=>simp only[Bool.false_eq_true,if_false];rw[ih y];rfl
 intro l
 cases l with
 | nil=>rfl
 | cons x r=>
  show f x::dU eq (f x) (r.map f)=_
  rw[key r x];rfl
def fJ:aA:=⟨[.row 68 ah,.val (.clo 101 .unit)],[.row 68 ah],fun x=>cG x.1 x.2.1⟩
theorem yZ:cH Tryz.prog 100:=dh (fn:=Tryz.f100) (by kernel_rfl) rfl (by decide)
theorem TA {G:Gh} {w:World} {ow:Nat->Option Nat} {b:Nat} {args:List Value} {y:List aa×Unit} {en:Ending} {w':World} {G':Gh} {ow':Nat->Option Nat} {vs:List Value} (h:vO G w ow (MR 68 ah b) args y en w' G' ow' vs):vO G w ow fJ args y en w' G' ow' vs:=
 ⟨h.ret,h.le,h.agr,h.size,h.os,h.output,h.old,h.own,h.out,h.hnd⟩
theorem aaT (l:List aa):cG l ()=some (fQ eqC l,()):=by
 unfold cG
 have:(fun a b:aa=>((bE a b).map fun r=>r.1==0).getD false)=eqC:=by
  funext a b
  rw[eZ]
  rfl
 rw[this]
theorem Wj {G:Gh} {w:World} {ow:Nat->Option Nat} {l r:List ah.den} (hr:fQ eqC (show List aa from l)=r) {s:Value} {xs:List Value} (hG:Agr G w) (how:∀ b i,ow b=some i->G b=none/\b<w.heap.size) (hown:w.ownsRow 0 68 ah.size s l.length xs) (hrep:bO (aK G ah) l xs) (hobl:∀ b,s.ownBlock=some b->ow b=some (64*0)): Calls Tryz.prog 100 #[s,.func (.func 101) #[] #[]] w fun e w'=>∃ G' ow' vs,vO G w ow fJ [s,.func (.func 101) #[] #[]] (r,()) e w' G' ow' vs:=by
 rcases hown.2 with ⟨rfl,hl0⟩ | ⟨b0,cap,cur,rfl,hbase,hb,h1,h2,h3,h4⟩
 ·have hl:l=[]:=List.eq_nil_of_length_eq_zero hl0
  subst hl
  have hr:r=[]:=hr.symm
  subst hr
  refine (Mk none 0 w).mono ?_
  rintro e w' ⟨he,rfl⟩
  refine⟨G,fun _=>none,[.slice none 0 0], ?_⟩
  exact {
   ret:=he
   le:=Gh.le_refl G
   agr:=hG
   size:=Nat.le_refl _
   os:=rfl
   output:=rfl
   old:=fun b _ _=>⟨rfl,rfl⟩
   own:=fun b i hbi=>by cases hbi
   out:=⟨_,[],rfl,⟨⟨[],⟨by rfl,.inl ⟨rfl,rfl⟩⟩,rfl⟩,fun b hb=>by cases hb⟩,rfl,trivial⟩
   hnd:=fun _=>rfl }
 ·have hgs:b0<w.heap.size:=(Array.getElem?_eq_some_iff.1 hb).1
  have hgOw:ow b0=some (64*0):=hobl b0 rfl
  have hgG:=(how b0 _ hgOw).1
  by_cases hl0:l=[]
  ·subst hl0
   have hr:r=[]:=hr.symm
   subst hr
   refine (Mk (some ⟨b0,0,none⟩) cap w).mono ?_
   rintro e w' ⟨rfl,rfl⟩
   obtain⟨G',ow',vs,hg⟩:=tH (t:=ah) (e:=68) (ow:=ow) (b:=0) (args:=[.slice (some ⟨b0,0,none⟩) 0 cap,.func (.func 101) #[] #[]]) (L:=[]) hG hb h1 h2 h3 h4 hown.1 hrep rfl rfl (Nat.le_refl _) (fun _ _ _=>rfl) hgG (.inr (by rw[hgOw];simp))
   exact⟨G',ow',vs,TA hg⟩
  ·obtain⟨d,hd1,hd2⟩:=Qy (ok:=fun _=>true) hrep (fun _ _=>rfl)
   have hdl:d.length=l.length:=by
    have:=congrArg List.length hd1
    rw[List.length_map] at this
    exact this
   obtain⟨p0,hp0⟩:∃ p0,p0∈d:=by
    cases d with
    | nil=>exact absurd hd1.symm hl0
    | cons p d=>exact⟨p,by simp⟩
   haveI:Inhabited (Pr G ah fun _=>true):=⟨p0⟩
   have hk:∀ p:Pr G ah fun _=>true,(p.1.2).length=ah.size:=fun p=>p.2.1.len
   have h1c:∀ p:Pr G ah fun _=>true,∀ v,v∈p.1.2->v.oneCell'=true:=fun p=>p.2.1.one
   have hH:HoldsK (fun p:Pr G ah fun _=>true=>p.1.2) ah.size w b0 0 d.toArray:=UA hk hb (by
    rw[List.size_toArray,hdl];simpa [hd2] using h4)
   have R:RowK (fun p:Pr G ah fun _=>true=>p.1.2) ah.size w b0 0 d.toArray:=⟨hk,h1c,hH,hgs⟩
   have hcz:l.length*ah.size<=cap*ah.size:=Nat.mul_le_mul_right _ h1
   have h5:ah.size=5:=rfl
   have hmx:maxLen=9223372036854775807:=rfl
   have hlen5:l.length<=9223372036854775807:=by omega
   have hS:=Wk ah.size rfl Tryz.sizeOf68 (fun p:Pr G ah fun _=>true=>p.1.2) (fun p q=>eqC p.1.1 q.1.1) b0 0 cap d.toArray w R (fun W dk _ _ x y=>adj x.2.1 y.2.1 W) (by rw[List.size_toArray,hdl];exact hlen5) (by rw[List.size_toArray,hdl];exact h1) (by omega)
   rw[Xa,List.size_toArray,hdl] at hS
   refine hS.mono ?_
   obtain⟨K,hK⟩:∃ K,K=fQ (fun p q:Pr G ah fun _=>true=>eqC p.1.1 q.1.1) d:=⟨_,rfl⟩
   have hKl:r=K.map fun p=>p.1.1:=by
    rw[hK]
    exact hr.symm.trans <| (congrArg (fQ eqC) hd1.symm).trans (Wi (fun p:Pr G ah fun _=>true=>(show aa from p.1.1)) eqC d)
   have hKlen:r.length=K.length:=by rw[hKl,List.length_map]
   rintro e w' ⟨rfl,dk,W,hds,⟨n,os,hW⟩,hlow,hw'⟩
   have hKlow:∀ j,j<K.length->K[j]? =some dk[j]! :=by rw[hK];exact hlow
   have e1:(fQ (fun p q:Pr G ah fun _=>true=>eqC p.1.1 q.1.1) d.toArray.toList)=K:=hK.symm
   rw[e1] at hw' ⊢
   rw[hKlen.symm] at hw' ⊢
   unfold sortWorldK putRowK at hW
   have hF:(flatK (fun p:Pr G ah fun _=>true=>p.1.2) ah.size dk).size=l.length*ah.size:=by rw[size_flatK,hds]
   have hb':=MP (n:=n) (os:=os) (flatK (fun p:Pr G ah fun _=>true=>p.1.2) ah.size dk) hb
   have hold:=fun k hk hne=>Pd (n:=n) (os:=os) (w:=w) (g:=b0) (flatK (fun p:Pr G ah fun _=>true=>p.1.2) ah.size dk) (k:=k) hk hne
   have hszW:w.heap.size<=(grow (putRow id (Sort.ahead w n) b0 0 (flatK (fun p:Pr G ah fun _=>true=>p.1.2) ah.size dk)) os).heap.size:=by simp
   have hosW:(grow (putRow id (Sort.ahead w n) b0 0 (flatK (fun p:Pr G ah fun _=>true=>p.1.2) ah.size dk)) os).os=w.os:=rfl
   have houW:(grow (putRow id (Sort.ahead w n) b0 0 (flatK (fun p:Pr G ah fun _=>true=>p.1.2) ah.size dk)) os).output=w.output:=rfl
   rw[<- hW] at hb' hold hszW hosW houW
   obtain⟨c1,hc1⟩:∃ c1,c1=putCells id 0 (flatK (fun p:Pr G ah fun _=>true=>p.1.2) ah.size dk) cur:=⟨_,rfl⟩
   have hc1s:c1.size=cap*ah.size:=by rw[hc1];simp[putCells,h3]
   have hc1t:c1.toList.take (l.length*ah.size)=dk.toList.flatMap fun p=>p.1.2:=by
    rw[hc1, <- hF,JL _ _ (by rw[hF,h3];exact hcz),Ko hk]
   rw[<- hc1] at hb'
   have hKle:K.length<=l.length:=by
    have key:∀ (r:List (Pr G ah fun _=>true)) (x:Pr G ah fun _=>true),(dU (fun p q:Pr G ah fun _=>true=>eqC p.1.1 q.1.1) x r).length<=r.length:=by
     intro r
     induction r with
     | nil=>intro x;exact Nat.le_refl _
     | cons y r ih=>
      intro x
      unfold dU
      have:=ih y
      split
      ·simp;omega
      ·simp;omega
    rw[hK, <- hdl]
    cases d with
    | nil=>exact Nat.le_refl _
    | cons x r=>have:=key r x;unfold fQ;simp;omega
   have hdkl:dk.size=l.length:=hds
   have hKd:K=dk.toList.take K.length:=by
    apply List.ext_getElem?
    intro j
    by_cases hj:j<K.length
    ·rw[List.getElem?_take_of_lt hj,hKlow j hj,getElem!_pos dk j (by omega)]
     simp[show j<dk.size by omega]
    ·rw[List.getElem?_eq_none (by omega),List.getElem?_take_eq_none (by omega)]
   have hKz:K.length*ah.size<=l.length*ah.size:=Nat.mul_le_mul_right _ hKle
   have htake:c1.toList.take (K.length*ah.size)=K.flatMap fun p=>p.1.2:=by
    have e2:c1.toList.take (K.length*ah.size)=(c1.toList.take (l.length*ah.size)).take (K.length*ah.size):=by rw[List.take_take,Nat.min_eq_left hKz]
    rw[e2,hc1t]
    have e3:dk.toList.flatMap (fun p=>p.1.2)=(K.flatMap fun p=>p.1.2)++(dk.toList.drop K.length).flatMap fun p=>p.1.2:=by
     rw[<- List.flatMap_append]
     congr 1
     conv=>lhs;rw[<- List.take_append_drop K.length dk.toList]
     rw[<- hKd]
    rw[e3, <- FY hk K,List.take_left]
   have hrepK:bO (aK G ah) r (K.flatMap fun p=>p.1.2):=by rw[hKl];exact Nq K
   have hxl:(K.flatMap fun p:Pr G ah fun _=>true=>p.1.2).length=r.length*ah.size:=by rw[FY hk,hKlen]
   rcases hw' with rfl | ⟨nz,Z,hnz,rfl,hZ⟩
   ·obtain⟨G',ow',vs,hg⟩:=tH (t:=ah) (e:=68) (ow:=ow) (b:=0) (args:=[.slice (some ⟨b0,0,none⟩) l.length cap,.func (.func 101) #[] #[]]) (L:=r) (w':=w') hG hb' (by omega) h2 hc1s (by rw[hKlen];exact htake) hxl hrepK hosW houW hszW hold hgG (.inr (by rw[hgOw];simp))
    exact⟨G',ow',vs,TA hg⟩
   ·rw[Nat.zero_add]
    have hzl:(Builtin.zeroCells Z nz).toList.length=nz*ah.size:=by rw[Array.length_toList,qQ,hZ]
    have hfit:r.length*ah.size+nz*ah.size<=cap*ah.size:=by
     rw[<- Nat.add_mul,hnz];exact hcz
    obtain⟨c2,k1,k2⟩:=mX b0 68 (Builtin.zeroCells Z nz).toList (r.length*ah.size) W c1 hb' (by omega)
    obtain⟨r1,r2,r3,r4⟩:=mY b0 (Builtin.zeroCells Z nz).toList (r.length*ah.size) W
    have hc2s:c2.size=cap*ah.size:=by
     have:=congrArg List.length k2
     simp only[Array.length_toList,List.length_append,List.length_take,List.length_drop,hzl] at this
     omega
    have h9:c1.toList.length=cap*ah.size:=by rw[<- hc1s];rfl
    obtain⟨G',ow',vs,hg⟩:=tH (t:=ah) (e:=68) (ow:=ow) (b:=0) (args:=[.slice (some ⟨b0,0,none⟩) l.length cap,.func (.func 101) #[] #[]]) (L:=r) (xs:=K.flatMap fun p=>p.1.2) hG k1 (by omega) h2 hc2s (by
     rw[k2,List.take_append_of_le_length (by rw[List.length_take,h9];omega),List.take_take,Nat.min_self,hKlen]
     exact htake) hxl hrepK (r1.trans hosW) (r2.trans houW) (by rw[r3];exact hszW) (fun q hq hne=>(r4 q hne).trans (hold q hq hne)) hgG (.inr (by rw[hgOw];simp))
    exact⟨G',ow',vs,TA hg⟩
theorem y8:cQ Tryz.prog 100 fJ:=by
 intro G w ow args x y hG how ha hm _
 obtain⟨l,c,u⟩:=x
 obtain⟨r,u'⟩:=y
 obtain⟨s,us,a1,_,⟨⟨xs,hown,hrep⟩,hobl⟩,iv,us2,a2,_,hiv,a4⟩:=ha
 have e1:=a1 rfl
 have e2:=a2 rfl
 have e4:us2=[]:=a4
 obtain⟨caps,e5',e6⟩:=(show aK G (.clo 101 .unit) c [iv] from hiv)
 have e5:iv= .func (.func 101) #[] caps.toArray:=(List.cons.inj e5').1
 have e7:caps=[]:=e6
 have e8:cG l c=some (r,u'):=hm
 have e9:some (fQ eqC (show List aa from l),())=some ((show List aa from r),u'):=(aaT l).symm.trans e8
 have e10:=(Prod.mk.inj (Option.some.inj e9)).1
 subst e1;subst e2;subst e4;subst e7;subst e5
 exact Wj e10 hG how hown hrep hobl
end Go.Proofs.SeatU
