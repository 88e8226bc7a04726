/-
  readLine of the reference by a walk, first part. No condition.
-/
import Derived.Test.YtjlkkapojeldlabGreatDoorYE
set_option linter.all false
set_option maxRecDepth 100000
namespace Go.Proofs.SeatU
open Go.Dn Go.Md Go.Proofs Go.RowKit Go.Shelf Go.Lib
attribute [local go_sem ↓] Go.wp_at_zero Go.wp_at_succ
structure Wd (bw:Nat) (u:Value) (ok:Bool) (w w':World):Prop where
 size:w.heap.size<=w'.heap.size
 os:w'.os=w.os
 output:w'.output=w.output
 keep:∀ b,b<w.heap.size->b≠bw->w'.heap[b]? =w.heap[b]?
 box:w'.heap[bw]? =some (.cells #[u,.bool ok] 100 (0,0))
theorem eG {w:World} {b:Nat} {a0 a1:Value} {T:TypeId} (h:w.heap[b]? =some (.cells #[a0,a1] T (0,0))):(w.cell? ⟨b,0,none⟩=some a0/\w.cell? ⟨b,1,none⟩=some a1)/\∀ o,w.frozen? ⟨b,o,none⟩=false:=
 ⟨⟨by simp[World.cell?,h],by simp[World.cell?,h]⟩,fun o=>by simp[World.frozen?,h]⟩
theorem LI {bw:Nat} {u:Value} {ok ok':Bool} {w w':World} (h:w.heap[bw]? =some (.cells #[u,.bool ok] 100 (0,0))) (hk:Kept w w'):Wd bw u ok' w (w'.setCell ⟨bw,1,none⟩ (.bool ok')):=
 ⟨by rw[aO];exact hk.size,hk.os,hk.output,fun b hb hn=>(aB _ _ _ _ _ hn).trans (hk.block b hb),aN _ bw 1 _ _ _ (.bool ok') ((hk.block bw (aj h)).trans h)⟩
theorem Xy {bw:Nat} {u:Value} {ok:Bool} {w w':World} (h:w.heap[bw]? =some (.cells #[u,.bool ok] 100 (0,0))) (hk:Kept w w'):Wd bw u ok w w':=
 ⟨hk.size,hk.os,hk.output,fun b hb _=>hk.block b hb,(hk.block bw (aj h)).trans h⟩
section
variable (w:World) (bw b off n cap i:Nat) (ok:Bool) (x:List UInt8)
theorem WI (hb:w.heap[bw]? =some (.cells #[.slice (some ⟨b,off,none⟩) n cap,.bool ok] 100 (0,0))) (hi:i<n) (hn:n<=1000000) (hx:w.cell? ⟨b,off+i,none⟩=some (.string (bs x))) (h:x=[]\/(x≠[]/\(16:Int)<(x.length:Int))): Calls Tryz.prog 50 #[.pointer (some ⟨bw,0,none⟩),.int .i64 (i:Int)] w fun e w'=>e= .returned (.int .i64 0)/\Wd bw (.slice (some ⟨b,off,none⟩) n cap) false w w':=by
 have mixed:Tryz.prog.follows .mixedOrders=true:=by kernel_rfl
 have t3:=Tryz.underlying3;have t4:=Tryz.underlying4;have t5:=Tryz.underlying5;have t9:=Tryz.underlying9;have t36:=Tryz.underlying36;have t100:=Tryz.underlying100;have t128:=Tryz.underlying128
 have hsz:(bs x).size=x.length:=aaN
 obtain⟨⟨c0,c1⟩,cf⟩:=eG hb
 have f1:=cf 1
 have i1:(0:Int)<=(i:Int):=by omega
 have i2:(i:Int)<(n:Int):=by omega
 have i3:(i:Int)<=1000000:=by omega
 have hw:=LI (ok':=false) hb ⟨abd _,rfl,rfl,fun _ _=>rfl⟩
 rcases h with rfl | ⟨h0,h16⟩
 ·have hz:((bs ([]:List UInt8)).toList==([]:List UInt8))=true:=by rw[fY];rfl
  go_enter Tryz.func50,Tryz.ntmps50
  go_wp2
  go_ret
  exact⟨rfl,hw⟩
 ·have hz:((bs x).toList==([]:List UInt8))=false:=by rw[fY];exact abH h0
  go_enter Tryz.func50,Tryz.ntmps50
  go_wp2
  go_ret
  exact⟨rfl,hw⟩
theorem Yr (hb:w.heap[bw]? =some (.cells #[.slice (some ⟨b,off,none⟩) n cap,.bool ok] 100 (0,0))) (hi:i<n) (hn:n<=1000000) (hx:w.cell? ⟨b,off+i,none⟩=some (.string (bs x))) (h1:(1:Int)<(x.length:Int)) (h16:¬ (16:Int)<(x.length:Int)) (h48:(bs x)[0]? =some 48): Calls Tryz.prog 50 #[.pointer (some ⟨bw,0,none⟩),.int .i64 (i:Int)] w fun e w'=>e= .returned (.int .i64 0)/\Wd bw (.slice (some ⟨b,off,none⟩) n cap) false w w':=by
 have mixed:Tryz.prog.follows .mixedOrders=true:=by kernel_rfl
 have t3:=Tryz.underlying3;have t4:=Tryz.underlying4;have t5:=Tryz.underlying5;have t9:=Tryz.underlying9;have t36:=Tryz.underlying36;have t100:=Tryz.underlying100;have t128:=Tryz.underlying128
 have hsz:(bs x).size=x.length:=aaN
 obtain⟨⟨c0,c1⟩,cf⟩:=eG hb
 have f1:=cf 1
 have i1:(0:Int)<=(i:Int):=by omega
 have i2:(i:Int)<(n:Int):=by omega
 have i3:(i:Int)<=1000000:=by omega
 have hw:=LI (ok':=false) hb ⟨abd _,rfl,rfl,fun _ _=>rfl⟩
 have h3':∀ h:0<(bs x).size,(bs x)[0]'h=48:=fun h=>by rw[abV (bs x) 0 h] at h48;exact Option.some.inj h48
 have hz:((bs x).toList==([]:List UInt8))=false:=by rw[fY];exact abH fun e=>by rw[e] at h1;simp at h1
 go_enter Tryz.func50,Tryz.ntmps50
 go_wp2
 all_goals first | (go_ret;exact⟨rfl,hw⟩) | (exfalso;simp_all)
theorem Up (x:List UInt8) (k:Nat) (y:UInt8) (h:x[k]? =some y):(bs x)[k]? =some y:=by
 obtain⟨h1,h2⟩:=Z9.1 h
 have h3:k<(bs x).size:=by rw[show (bs x).size=x.length from aaN];exact h1
 rw[abV (bs x) k h3]
 have h4:(bs x)[k]'h3=x.toArray[k]'(by simpa using h1):=rfl
 rw[h4,List.getElem_toArray,h2]
theorem Ys (hb:w.heap[bw]? =some (.cells #[.slice (some ⟨b,off,none⟩) n cap,.bool ok] 100 (0,0))) (hi:i<n) (hn:n<=1000000) (hx:w.cell? ⟨b,off+i,none⟩=some (.string (bs x))) (h0:x≠[]) (h16:¬ (16:Int)<(x.length:Int)) (c:UInt8) (hc:(bs x)[0]? =some c) (h48:¬ (1:Int)<(x.length:Int)\/¬ ((c.toNat:Int)=48)): Calls Tryz.prog 50 #[.pointer (some ⟨bw,0,none⟩),.int .i64 (i:Int)] w fun e w'=>e= .returned (.int .i64 (bif x.all ck then (cU x:Int) else 0))/\Wd bw (.slice (some ⟨b,off,none⟩) n cap) (ok&&x.all ck) w w':=by
 have mixed:Tryz.prog.follows .mixedOrders=true:=by kernel_rfl
 have t3:=Tryz.underlying3;have t4:=Tryz.underlying4;have t5:=Tryz.underlying5;have t9:=Tryz.underlying9;have t36:=Tryz.underlying36;have t100:=Tryz.underlying100;have t128:=Tryz.underlying128
 have hsz:(bs x).size=x.length:=aaN
 obtain⟨⟨c0,c1⟩,cf⟩:=eG hb
 have f1:=cf 1
 have i1:(0:Int)<=(i:Int):=by omega
 have i2:(i:Int)<(n:Int):=by omega
 have i3:(i:Int)<=1000000:=by omega
 have hw:=LI (ok':=false) hb ⟨abd _,rfl,rfl,fun _ _=>rfl⟩
 have hw2:=Xy hb ⟨abd _,rfl,rfl,fun _ _=>rfl⟩
 have HW:Aside _:=hw
 have HW2:Aside _:=hw2
 clear hw hw2
 have h3':∀ h:0<(bs x).size,(bs x)[0]'h=c:=fun h=>by rw[abV (bs x) 0 h] at hc;exact Option.some.inj hc
 have hz:((bs x).toList==([]:List UInt8))=false:=by rw[fY];exact abH h0
 have hl0:(0:Int)<(x.length:Int):=by
  cases x with
  | nil=>exact absurd rfl h0
  | cons _ _=>simp only[aal];omega
 rcases h48 with h1 | h1
 all_goals
  go_enter Tryz.func50,Tryz.ntmps50
  go_wp2
 all_goals
  go_loopg [6,37] x.length (fun g s6 s37 wr=>∃ k:Nat,s6= .int .i64 (cU (x.take k):Int)/\s37= .int .i64 (k:Int)/\k<=x.length/\x.length - k<=g/\Aside ((x.take k).all ck=true)/\wr=w)
  case atStart=>exact⟨0,by rw[aaT];rfl,rfl,abw _,abd _,by rw[aaT];rfl,rfl⟩
  case round=>
   obtain⟨k,rfl,rfl,hk,hg,HA,rfl⟩:=hrel
   by_cases hlt:k<x.length
   ·have hltz:(k:Int)<(x.length:Int):=by omega
    have hk0:(0:Int)<=(k:Int):=by omega
    obtain⟨y,hy⟩:∃ y,x[k]? =some y:=⟨_,Z7 hlt⟩
    have hym:y∈x:=aaC hy
    have hyb:∀ h:k<(bs x).size,(bs x)[k]'h=y:=fun h=>by
     have e:=Up x k y hy
     rw[abV (bs x) k h] at e;exact Option.some.inj e
    have hb16:=Dp (n:=16) HA.out (by simp;omega)
    cases hd:ck y with
    | true=>
     obtain⟨d1,d2⟩:=oz.1 hd
     have e1:¬ (y.toNat:Int)<48:=by omega
     have e2:¬ (57:Int)<(y.toNat:Int):=by omega
     clear hb hc hx hym HW HW2 h3' hz
     go_wp2
     go_roundg (x.length - (k+1))
     case measure=>omega
     case rel=>
      refine⟨k+1, ?_,by go_num,hlt,abd _, ?_,rfl⟩
      ·rw[eX hy,FG]
       congr 1
       omega
      ·show (x.take (k+1)).all ck=true
       rw[eX hy]
       simp[HA.out,hd]
    | false=>
     have hall:x.all ck=false:=by
      rw[Zy]
      exact⟨y,hym,by simp[hd]⟩
     have hno:(y.toNat:Int)<48\/(¬ (y.toNat:Int)<48/\(57:Int)<(y.toNat:Int)):=by
      by_cases e1:(y.toNat:Int)<48
      ·exact .inl e1
      ·refine .inr ⟨e1, ?_⟩
       by_cases e2:(57:Int)<(y.toNat:Int)
       ·exact e2
       ·have h7:ck y=true:=oz.2 ⟨by omega,by omega⟩
        rw[hd] at h7;cases h7
     have HALL:Aside _:=hall
     clear hb hc hx hym h3' hz hd HA hall
     rcases hno with e1 | ⟨e1,e2⟩
     all_goals
      go_wp2
      go_ret
      rw[HALL.out,abK,YY]
      exact⟨rfl,HW.out⟩
   ·have hltz:¬ (k:Int)<(x.length:Int):=by omega
    have hall:x.all ck=true:=by
     have:=HA.out
     rw[aaQ (by omega)] at this
     exact this
    have hdec:cU (x.take k)=cU x:=by rw[aaQ (by omega)]
    rw[hdec]
    have HALL:Aside _:=hall
    clear hb hc hx h3' hz HA hall hdec
    go_wp2
    go_ret
    rw[HALL.out,abL,Y5]
    exact⟨rfl,HW2.out⟩
end
end Go.Proofs.SeatU
set_option maxRecDepth 100000
namespace Go.Proofs.SeatU
open Go.Dn Go.Md Go.Proofs Go.RowKit Go.Shelf Go.Lib
attribute [local go_sem ↓] Go.wp_at_zero Go.wp_at_succ
theorem zT {w:World} {bw b off n cap i:Nat} {ok:Bool} {x:List UInt8} (hb:w.heap[bw]? =some (.cells #[.slice (some ⟨b,off,none⟩) n cap,.bool ok] 100 (0,0))) (hi:i<n) (hn:n<=1000000) (hx:w.cell? ⟨b,off+i,none⟩=some (.string (bs x))): Calls Tryz.prog 50 #[.pointer (some ⟨bw,0,none⟩),.int .i64 (i:Int)] w fun e w'=>e= .returned (.int .i64 (bL x))/\Wd bw (.slice (some ⟨b,off,none⟩) n cap) (ok&&cD x) w w':=by
 by_cases h0:x=[]
 ·subst h0
  have:=WI w bw b off n cap i ok [] hb hi hn hx (.inl rfl)
  rw[show bL []=0 from rfl,show cD []=false from rfl,YY]
  exact this
 ·have e0:(x==[])=false:=abH h0
  by_cases h16:(16:Int)<(x.length:Int)
  ·have hno:cD x=false:=by unfold cD;rw[abN (show ¬ x.length<=16 by omega)];simp
   have:=WI w bw b off n cap i ok x hb hi hn hx (.inr ⟨h0,h16⟩)
   unfold bL
   rw[hno,abK,YY]
   exact this
  ·obtain⟨c,r,rfl⟩:∃ c r,x=c::r:=by cases x with | nil=>exact absurd rfl h0 | cons c r=>exact⟨c,r,rfl⟩
   have hc:=Up (c::r) 0 c rfl
   by_cases h48:(1:Int)<((c::r).length:Int)/\c=48
   ·obtain⟨h1,rfl⟩:=h48
    have hno:cD ((48:UInt8)::r)=false:=by
     unfold cD
     rw[abO (show 1<((48:UInt8)::r).length by omega)]
     simp
    have:=Yr w bw b off n cap i ok _ hb hi hn hx h1 h16 hc
    unfold bL
    rw[hno,abK,YY]
    exact this
   ·have h49:¬ (1:Int)<((c::r).length:Int)\/¬ ((c.toNat:Int)=48):=by
     by_cases h1:(1:Int)<((c::r).length:Int)
     ·right
      intro e
      exact h48 ⟨h1,abF.1 (show c.toNat=(48:UInt8).toNat by show c.toNat=48;omega)⟩
     ·exact .inl h1
    have hno:cD (c::r)=(c::r).all ck:=by
     have e1:(decide (1<(c::r).length)&&(c::r).head? ==some 48)=false:=by
      rw[Bool.and_eq_false_iff]
      by_cases h1:1<(c::r).length
      ·right
       refine abG.2 fun e=>h48 ⟨by omega, ?_⟩
       exact Option.some.inj e
      ·exact .inl (abN h1)
     unfold cD
     rw[e0,e1,abO (show (c::r).length<=16 by omega)]
     rfl
    have:=Ys w bw b off n cap i ok _ hb hi hn hx h0 h16 c hc h49
    unfold bL
    rw[hno]
    exact this
theorem RO {G:Gh} {w:World} (s:List UInt8) (d:ah) (n:Int) (hG:Agr G w) (hT:bF Tryz.prog G) (hm:gF s=some (d,n,())): Calls Tryz.prog 77 #[.string (bs s)] w fun e w'=>e= .returned (.tuple #[.agg #[.int .i64 d.1,.int .i64 d.2],.int .i64 n])/\Kept w w':=by
 refine (MC G w (fun _=>none) [.string (bs s)] (s,()) (d,n,()) hG (fun b i h=>by cases h) ⟨_,[],fun _=>rfl,fun h=>Bool.noConfusion h,rfl,rfl⟩ hm hT).mono ?_
 rintro e w' ⟨G',ow',vs,g⟩
 obtain⟨u,us,rfl,hu,u2,us2,rfl,hb,h3,_⟩:=g.out
 obtain⟨cs,rfl,c1,c2,rfl,h1,h2⟩:=hu
 have e1:c1=[Value.int .i64 d.1]:=h1
 have e1':c2=[Value.int .i64 d.2]:=h2
 have e2:[u2]=[Value.int .i64 n]:=hb
 have e3:us2=[]:=h3
 subst e1;subst e1';cases e2;subst e3
 exact⟨g.ret,⟨g.size,g.os,g.output,fun b hb=>(g.old b hb rfl).1⟩⟩
theorem Uw {w0 W1:World} {bw:Nat} {d:ah} {a0 a1:Value} {N:Nat} (hk1:Kept w0 W1) (hN:w0.heap[N]? =some (.cells #[a0,a1] 48 (0,0))) (hbw:bw<N): (∀ v,((W1.alloc (.cells #[.int .i64 d.1,.int .i64 d.2] 48)).setCell ⟨bw,1,none⟩ v).cell? ⟨W1.heap.size,0,none⟩=some (.int .i64 d.1))/\(∀ v,((W1.alloc (.cells #[.int .i64 d.1,.int .i64 d.2] 48)).setCell ⟨bw,1,none⟩ v).cell? ⟨W1.heap.size,1,none⟩=some (.int .i64 d.2))/\ (∀ v,((W1.alloc (.cells #[.int .i64 d.1,.int .i64 d.2] 48)).setCell ⟨bw,1,none⟩ v).cell? ⟨N,0,none⟩=some a0)/\(∀ v,((W1.alloc (.cells #[.int .i64 d.1,.int .i64 d.2] 48)).setCell ⟨bw,1,none⟩ v).cell? ⟨N,1,none⟩=some a1)/\ (∀ v,((W1.alloc (.cells #[.int .i64 d.1,.int .i64 d.2] 48)).setCell ⟨bw,1,none⟩ v).frozen? ⟨N,0,none⟩=false)/\(∀ v,((W1.alloc (.cells #[.int .i64 d.1,.int .i64 d.2] 48)).setCell ⟨bw,1,none⟩ v).frozen? ⟨N,1,none⟩=false):=by
 have hr0:=(hk1.block _ (aj hN)).trans hN
 have hn1:=bH W1 (.cells #[.int .i64 d.1,.int .i64 d.2] 48)
 have hr1:=(hn1.2.block _ (aj hr0)).trans hr0
 have h1:N<W1.heap.size:=aj hr0
 have hne1:W1.heap.size≠bw:=by omega
 have hne:N≠bw:=by omega
 have A:=fun v:Value=>(aB (W1.alloc (.cells #[.int .i64 d.1,.int .i64 d.2] 48)) bw 1 W1.heap.size v hne1).trans hn1.1
 have B:=fun v:Value=>(aB (W1.alloc (.cells #[.int .i64 d.1,.int .i64 d.2] 48)) bw 1 N v hne).trans hr1
 exact⟨fun v=>(eG (A v)).1.1,fun v=>(eG (A v)).1.2,fun v=>(eG (B v)).1.1,fun v=>(eG (B v)).1.2,fun v=>(eG (B v)).2 0,fun v=>(eG (B v)).2 1⟩
theorem WN {w W1:World} {bw:Nat} {d:ah} {a0 a1 u:Value} {ok:Bool} {o:Obj} (hk1:Kept (w.alloc o) W1) (hn0:(w.alloc o).heap[w.heap.size]? =some (.cells #[a0,a1] 48 (0,0))/\Kept w (w.alloc o)) (hbw:bw<w.heap.size) (hb:w.heap[bw]? =some (.cells #[u,.bool ok] 100 (0,0))): (∀ v:Value,((((W1.alloc (.cells #[.int .i64 d.1,.int .i64 d.2] 48)).setCell ⟨bw,1,none⟩ v).setCell ⟨w.heap.size,0,none⟩ (.int .i64 d.1)).setCell ⟨w.heap.size,1,none⟩ (.int .i64 d.2)).heap[w.heap.size]? =some (.cells #[.int .i64 d.1,.int .i64 d.2] 48 (0,0)))/\ ∀ v:Bool,Wd bw u v w ((((W1.alloc (.cells #[.int .i64 d.1,.int .i64 d.2] 48)).setCell ⟨bw,1,none⟩ (.bool v)).setCell ⟨w.heap.size,0,none⟩ (.int .i64 d.1)).setCell ⟨w.heap.size,1,none⟩ (.int .i64 d.2)):=by
 have hn1:=bH W1 (.cells #[.int .i64 d.1,.int .i64 d.2] 48)
 have hk:=(hn0.2.trans hk1).trans hn1.2
 have hr0:=(hk1.block _ (aj hn0.1)).trans hn0.1
 have hr1:=(hn1.2.block _ (aj hr0)).trans hr0
 have hne:w.heap.size≠bw:=abq hbw
 refine⟨fun v=> ?_,fun v=> ?_⟩
 ·have h1:=(aB (W1.alloc (.cells #[.int .i64 d.1,.int .i64 d.2] 48)) bw 1 w.heap.size v hne).trans hr1
  have h2:=aN _ w.heap.size 0 _ _ _ (.int .i64 d.1) h1
  exact aN _ w.heap.size 1 _ _ _ (.int .i64 d.2) h2
 ·obtain⟨k1,k2,k3,k4,k5⟩:=LI (ok':=v) hb hk
  refine⟨?_,k2,k3,fun b hb hn=> ?_, ?_⟩
  ·rw[aO,aO];exact k1
  ·have h1:b≠w.heap.size:=abr hb
   rw[aB _ _ _ _ _ h1,aB _ _ _ _ _ h1]
   exact k4 b hb hn
  ·rw[aB _ _ _ _ _ hne.symm,aB _ _ _ _ _ hne.symm]
   exact k5
theorem TS {fn:Func} {p:Tmp} {ty:TypeId} (h:fn.results= #[.cell p ty]) (tmps:Array Value) (P:Program) (w:World) {b:Nat} {v:Value} (hp:tmps.getD p undef= .pointer (some ⟨b,0,none⟩)) (hl:(loadVar ty ⟨b,0,none⟩).run P w= .ok v w): (results fn tmps).run P w= .ok v w:=by
 have hp':tmps[p]?.getD undef= .pointer (some ⟨b,0,none⟩):=by simpa using hp
 simp[results,h,hp',asAddr,Sem.run_bind,Result.andThen,hl]
theorem Yq {w:World} {b:Nat} {a0 a1:Value} (h:w.heap[b]? =some (.cells #[a0,a1] 48 (0,0))):(loadVar 48 ⟨b,0,none⟩).run Tryz.prog w= .ok (.agg #[a0,a1]) w:=by
 have aA:=Tryz.isAgg48;have zA:=Tryz.sizeOf48
 obtain⟨⟨c0,c1⟩,_⟩:=eG h
 have hl:=run_loadCells_list (P:=Tryz.prog) w ⟨b,0,none⟩ [a0,a1] (fun j v hj=>by
  match j,hj with
  | 0,hj=>cases hj;exact c0
  | 1,hj=>cases hj;exact c1
  | j+2,hj=>simp at hj)
 simp only[aal,aao,Nat.reduceAdd] at hl
 simp[loadVar,aA,zA,Result.andThen]
 rw[hl]
set_option maxHeartbeats 1000000 in
theorem wZ {G:Gh} {w:World} {bw b off n cap i:Nat} {ok:Bool} {x:List UInt8} (hG:Agr G w) (hT:bF Tryz.prog G) (hb:w.heap[bw]? =some (.cells #[.slice (some ⟨b,off,none⟩) n cap,.bool ok] 100 (0,0))) (hi:i<n) (hn:n<=1000000) (hx:w.cell? ⟨b,off+i,none⟩=some (.string (bs x))) {d:ah} {f:Int} (hm:gF x=some (d,f,())): Calls Tryz.prog 51 #[.pointer (some ⟨bw,0,none⟩),.int .i64 (i:Int)] w fun e w'=>e= .returned (.agg #[.int .i64 d.1,.int .i64 d.2])/\Wd bw (.slice (some ⟨b,off,none⟩) n cap) (ok&&f==0) w w':=by
 have e77:∀ args w,(callFunc 77 args).run Tryz.prog w= .ok (.enter 77 args) w:=enters_of Tryz.func77 (by kernel_rfl) rfl
 have mixed:Tryz.prog.follows .mixedOrders=true:=by kernel_rfl
 have late:Tryz.prog.follows .lateStores=true:=by kernel_rfl
 have t3:=Tryz.underlying3;have t4:=Tryz.underlying4;have t5:=Tryz.underlying5;have t9:=Tryz.underlying9;have t36:=Tryz.underlying36;have t100:=Tryz.underlying100;have t128:=Tryz.underlying128;have t27:=Tryz.underlying27
 have t48:=Tryz.underlying48;have a48:=Tryz.isAgg48;have z48:=Tryz.sizeOf48;have v48:=Tryz.zeroValue48
 obtain⟨⟨c0,c1⟩,cf⟩:=eG hb
 have i1:(0:Int)<=(i:Int):=by omega
 have i2:(i:Int)<(n:Int):=by omega
 have i3:(i:Int)<=1000000:=by omega
 have hn0:=bH w (.cells #[.int .i64 0,.int .i64 0] 48)
 have hc:=RO x d f (dy hG (.cells #[.int .i64 0,.int .i64 0] 48)) hT hm
 have c0':=aM (o:= .cells #[.int .i64 0,.int .i64 0] 48) c0
 have hx':=aM (o:= .cells #[.int .i64 0,.int .i64 0] 48) hx
 have hbw:=aj hb
 have hne:w.heap.size≠bw:=abq hbw
 go_enter Tryz.func51,Tryz.ntmps51
 obtain rfl | rfl:ok=true\/ok=false:=by cases ok<;>simp
 all_goals
  go_wp2_with (go_at_fn 77;refine hc.mono ?_;rintro e W1 ⟨rfl,hk1⟩;have hb1':=(hk1.block bw (abh hbw hn0.2.size)).trans ((hn0.2.block bw hbw).trans hb);have hb1:=(heap_alloc_old W1 (.cells #[.int .i64 d.1,.int .i64 d.2] 48) (aj hb1')).trans hb1';have d1:=(eG hb1).1.2;have f1:=(eG hb1).2 1;obtain⟨g0,g1,r0,r1,rf0,rf1⟩:=Uw (d:=d) hk1 hn0.1 hbw;have hn9:W1.heap.size≠bw:=abq (abh (aj ((hn0.2.block bw hbw).trans hb)) hk1.size);have hn8:bw≠W1.heap.size:=hn9.symm;have hn7:bw≠w.heap.size:=hne.symm)
  go_wp2
  obtain⟨z1,z2⟩:=WN (d:=d) hk1 hn0 hbw hb
  refine bodyPost_ret (TS (p:=4) (ty:=48) (b:=w.heap.size) (v:= .agg #[.int .i64 d.1,.int .i64 d.2]) (by kernel_rfl) _ _ _ (by rfl) (Yq (z1 _))) rfl ⟨by rfl,z2 _⟩
end Go.Proofs.SeatU
set_option maxRecDepth 100000
namespace Go.Proofs.SeatU
open Go.Dn Go.Md Go.Proofs Go.RowKit Go.Shelf Go.Lib
attribute [local go_sem ↓] Go.wp_at_zero Go.wp_at_succ
theorem kT {G:Gh} {w:World} (s:List UInt8) (W:List (List UInt8)) (hG:Agr G w) (hT:bF Tryz.prog G) (hm:strings_Split s [32]=some (W,())): Calls Tryz.prog 32 #[.string (bs s),.string (bs [32])] w fun e w'=>∃ G' u,e= .returned u/\Lv G G' w w'/\cw G' Ty.str.size (az G' .str) W u:=by
 refine (Gs G w (fun _=>none) [.string (bs s),.string (bs [32])] (s,[32],()) (W,()) hG (fun b i h=>by cases h) ⟨_,_,fun _=>rfl,fun h=>Bool.noConfusion h,rfl,_,[],fun _=>rfl,fun h=>Bool.noConfusion h,rfl,rfl⟩ hm hT).mono ?_
 rintro e w' ⟨G',ow',vs,g⟩
 obtain⟨u,us,rfl,⟨u0,e0,hu⟩,h3,_⟩:=g.out
 cases e0
 have e3:us=[]:=h3
 subst e3
 exact⟨G',u,g.ret,⟨⟨g.size,g.os,g.output,fun b hb=>(g.old b hb rfl).1⟩,g.le,g.agr,fun b hb=>(g.old b hb rfl).2⟩,hu⟩
theorem LW {G:Gh} {w:World} (W:List (List UInt8)) (u:Value) (ok:Bool) (hu:cw G Ty.str.size (az G .str) W u) (hG:Agr G w) (hT:bF Tryz.prog G) (hm:bn W []=some (ok,())): Calls Tryz.prog 48 #[u,.string (bs [])] w fun e w'=>e= .returned (.bool ok)/\Kept w w':=by
 refine (zB G w (fun _=>none) [u,.string (bs [])] (W,[],()) (ok,()) hG (fun b i h=>by cases h) ⟨_,_,fun _=>rfl,fun h=>Bool.noConfusion h,⟨_,rfl,hu⟩,_,[],fun _=>rfl,fun h=>Bool.noConfusion h,rfl,rfl⟩ hm hT).mono ?_
 rintro e w' ⟨G',ow',vs,g⟩
 obtain⟨u,us,rfl,hu,h3,_⟩:=g.out
 have e1:[u]=[Value.bool ok]:=hu
 have e3:us=[]:=h3
 cases e1;subst e3
 exact⟨g.ret,⟨g.size,g.os,g.output,fun b hb=>(g.old b hb rfl).1⟩⟩
theorem Uu {G:Gh} {w:World} (s x y:List UInt8) (ok:Bool) (hG:Agr G w) (hT:bF Tryz.prog G) (hm:pN s [10]=some (x,y,ok,())): Calls Tryz.prog 14 #[.string (bs s),.string (bs [10])] w fun e w'=>e= .returned (.tuple #[.string (bs x),.string (bs y),.bool ok])/\Kept w w':=by
 refine (MD G w (fun _=>none) [.string (bs s),.string (bs [10])] (s,[10],()) (x,y,ok,()) hG (fun b i h=>by cases h) ⟨_,_,fun _=>rfl,fun h=>Bool.noConfusion h,rfl,_,[],fun _=>rfl,fun h=>Bool.noConfusion h,rfl,rfl⟩ hm hT).mono ?_
 rintro e w' ⟨G',ow',vs,g⟩
 obtain⟨u,us,rfl,hu,u2,us2,rfl,hb,u3,us3,rfl,hc,h3,_⟩:=g.out
 have e1:[u]=[Value.string (bs x)]:=hu
 have e2:[u2]=[Value.string (bs y)]:=hb
 have e3:[u3]=[Value.bool ok]:=hc
 have e4:us3=[]:=h3
 cases e1;cases e2;cases e3;subst e4
 exact⟨g.ret,⟨g.size,g.os,g.output,fun b hb=>(g.old b hb rfl).1⟩⟩
theorem Qn {G:Gh} {w:World} (v:aa) (vr vl ve:Value) (n:Int) (hv:zV G v vr vl ve) (hG:Agr G w) (hT:bF Tryz.prog G) (hm:gX v=some (n,())): Calls Tryz.prog 16 #[.agg (iJ v vr vl ve).toArray] w fun e w'=>e= .returned (.int .i64 n)/\Kept w w':=by
 refine (EO G w (fun _=>none) [.agg (iJ v vr vl ve).toArray] (v,()) (n,()) hG (fun b i h=>by cases h) ⟨_,[],fun _=>rfl,fun h=>Bool.noConfusion h,Jz hv,rfl⟩ hm hT).mono ?_
 rintro e w' ⟨G',ow',vs,g⟩
 obtain⟨u,us,rfl,hu,h3,_⟩:=g.out
 have e1:[u]=[Value.int .i64 n]:=hu
 have e3:us=[]:=h3
 cases e1;subst e3
 exact⟨g.ret,⟨g.size,g.os,g.output,fun b hb=>(g.old b hb rfl).1⟩⟩
theorem iO {fn:Func} {p q:Tmp} {ty:TypeId} (h:fn.results= #[.cell p ty,.tmp q]) (tmps:Array Value) (P:Program) (w:World) {b:Nat} {v:Value} (hp:tmps.getD p undef= .pointer (some ⟨b,0,none⟩)) (hl:(loadVar ty ⟨b,0,none⟩).run P w= .ok v w): (results fn tmps).run P w= .ok (.tuple #[v,tmps.getD q undef]) w:=by
 have hp':tmps[p]?.getD undef= .pointer (some ⟨b,0,none⟩):=by simpa using hp
 simp[results,h,hp',asAddr,Sem.run_bind,Result.andThen,hl]
theorem kK (w:World) (o1 o2:Obj):((w.alloc o1).alloc o2).heap[w.heap.size]? =some o1/\((w.alloc o1).alloc o2).heap[w.heap.size+1]? =some o2/\Kept w ((w.alloc o1).alloc o2):=by
 have h1:=bH w o1
 have h2:=bH (w.alloc o1) o2
 have hs:(w.alloc o1).heap.size=w.heap.size+1:=YU _
 rw[hs] at h2
 exact⟨(h2.2.block _ (by omega)).trans h1.1,h2.1,h1.2.trans h2.2⟩
def isW (word:List UInt8) (many:Nat) (more:List UInt8) (W:List (List UInt8)):Bool:=W.headD []==word&&(W.length==many||(W.length==many+1&&(!(more==[])&&W.getD (W.length - 1) []==more)))
set_option maxHeartbeats 2000000 in
theorem ris {w:World} {bw b off cap:Nat} {ok:Bool} {W:List (List UInt8)} (word more:List UInt8) (many:Nat) (hb:w.heap[bw]? =some (.cells #[.slice (some ⟨b,off,none⟩) W.length cap,.bool ok] 100 (0,0))) (hne:W≠[]) (hn:W.length<=1000000) (hmany:many<=100) (hx:∀ i x,W[i]? =some x->w.cell? ⟨b,off+i,none⟩=some (.string (bs x))): Calls Tryz.prog 49 #[.pointer (some ⟨bw,0,none⟩),.string (bs word),.int .i64 (many:Int),.string (bs more)] w fun e w'=>e= .returned (.bool (isW word many more W))/\Kept w w':=by
 have mixed:Tryz.prog.follows .mixedOrders=true:=by kernel_rfl
 have late:Tryz.prog.follows .lateStores=true:=by kernel_rfl
 have t3:=Tryz.underlying3;have t4:=Tryz.underlying4;have t5:=Tryz.underlying5;have t9:=Tryz.underlying9;have t36:=Tryz.underlying36;have t100:=Tryz.underlying100;have t128:=Tryz.underlying128
 obtain⟨⟨c0,c1⟩,cf⟩:=eG hb
 obtain⟨x0,r,rfl⟩:∃ x0 r,W=x0::r:=by cases W with | nil=>exact absurd rfl hne | cons x r=>exact⟨x,r,rfl⟩
 have h0:w.cell? ⟨b,off,none⟩=some (.string (bs x0)):=hx 0 x0 rfl
 obtain⟨n,hnn⟩:∃ n,(x0::r).length=n:=⟨_,rfl⟩
 have hn1:1<=n:=by rw[<- hnn];simp
 obtain⟨xl,hl⟩:∃ xl,(x0::r)[n - 1]? =some xl:=⟨_,Z7 (by omega)⟩
 have hcl:=hx (n - 1) xl hl
 have hgl:(x0::r).getD (n - 1) []=xl:=by rw[ZV,hl];rfl
 unfold isW
 rw[hnn,hgl,List.headD_cons]
 rw[hnn] at c0 hn
 obtain⟨e0,g0⟩:∃ e0,(x0==word)=e0:=⟨_,rfl⟩
 obtain⟨e1,g1⟩:∃ e1,(n==many)=e1:=⟨_,rfl⟩
 obtain⟨e2,g2⟩:∃ e2,(n==many+1)=e2:=⟨_,rfl⟩
 obtain⟨e3,g3⟩:∃ e3,(more==[])=e3:=⟨_,rfl⟩
 obtain⟨e4,g4⟩:∃ e4,(xl==more)=e4:=⟨_,rfl⟩
 have k0:((bs x0).toList==(bs word).toList)=e0:=by rw[fY,fY];exact g0
 have k1:((n:Int)==(many:Int))=e1:=by
  rw[<- g1]
  by_cases h:n=many
  ·subst h;simp
  ·rw[abH h,abH (by omega)]
 have k2:((n:Int)==(many:Int)+1)=e2:=by
  rw[<- g2]
  by_cases h:n=many+1
  ·subst h;simp
  ·rw[abH h,abH (by omega)]
 have k3:((bs more).toList==([]:List UInt8))=e3:=by rw[fY];exact g3
 have k4:((bs xl).toList==(bs more).toList)=e4:=by rw[fY,fY];exact g4
 rw[g0,g1,g2,g3,g4]
 have i0:(0:Int)<=(n:Int):=by omega
 have i1:(1:Int)<=(n:Int):=by omega
 have i2:(n:Int)<=1000000:=by omega
 have i3:(0:Int)<=(many:Int):=by omega
 have i4:(many:Int)<=100:=by omega
 have i5:(0:Int)<(n:Int):=by omega
 have i6:((n:Int) - 1).toNat=n - 1:=by omega
 have i7:(0:Int)<=(n:Int) - 1:=by omega
 have i8:(n:Int) - 1<(n:Int):=by omega
 have hkk:Kept w w:=⟨abd _,rfl,rfl,fun _ _=>rfl⟩
 clear hx hb hne hl hgl hnn g0 g1 g2 g3 g4 hn hmany
 have HK:Aside _:=hkk
 clear hkk
 go_enter Tryz.func49,Tryz.ntmps49
 cases e0
 ·go_wp2
  go_ret
  exact⟨rfl,HK.out⟩
 ·cases e1
  ·cases e2
   ·go_wp2
    go_ret
    exact⟨rfl,HK.out⟩
   ·cases e3
    ·go_wp2
     go_ret
     exact⟨rfl,HK.out⟩
    ·go_wp2
     go_ret
     exact⟨rfl,HK.out⟩
  ·go_wp2
   go_ret
   exact⟨rfl,HK.out⟩
end Go.Proofs.SeatU
set_option maxRecDepth 100000
namespace Go.Proofs.SeatU
open Go.Dn Go.Md Go.Proofs Go.RowKit Go.Shelf Go.Lib
attribute [local go_sem ↓] Go.wp_at_zero Go.wp_at_succ
structure RW (w W:World) (v:aa) (vr vl ve:Value) (bw:Nat) (u:Value) (ok:Bool):Prop where
 b0:W.heap[w.heap.size]? =some (.cells #[.string (bs v.1),.string (bs v.2.1),.int .i64 v.2.2.1,.int .i64 v.2.2.2.1,.int .i64 v.2.2.2.2.1,.bool v.2.2.2.2.2.1,vr,vl,ve] 26 (0,0))
 b1:W.heap[w.heap.size+1]? =some (.cells #[.string ⟨#[]⟩,.string ⟨#[]⟩,.int .i64 0,.int .i64 0,.int .i64 0,.bool false,.slice none 0 0,.slice none 0 0,.slice none 0 0] 26 (0,0))
 box:W.heap[bw]? =some (.cells #[u,.bool ok] 100 (0,0))
 kept:Kept w W
 lt:w.heap.size+1<bw
theorem RW.keep {w W W':World} {v:aa} {vr vl ve u:Value} {bw:Nat} {ok:Bool} (h:RW w W v vr vl ve bw u ok) (hk:Kept W W'):RW w W' v vr vl ve bw u ok:=
 ⟨(hk.block _ (aj h.b0)).trans h.b0,(hk.block _ (aj h.b1)).trans h.b1,(hk.block _ (aj h.box)).trans h.box,h.kept.trans hk,h.lt⟩
theorem RW.wd {w W W':World} {v:aa} {vr vl ve u:Value} {bw:Nat} {ok ok':Bool} (h:RW w W v vr vl ve bw u ok) (hk:Wd bw u ok' W W'):RW w W' v vr vl ve bw u ok':=
 ⟨(hk.keep _ (aj h.b0) (by have:=h.lt;omega)).trans h.b0,(hk.keep _ (aj h.b1) (by have:=h.lt;omega)).trans h.b1,hk.box,⟨abf h.kept.size hk.size,hk.os.trans h.kept.os,hk.output.trans h.kept.output,fun b hb=>(hk.keep b (abh hb h.kept.size) (by have:=h.lt;omega)).trans (h.kept.block b hb)⟩,h.lt⟩
theorem yx {G G2:Gh} {w w1 W2:World} {v:aa} {vr vl ve u:Value} {W:List (List UInt8)} {ok:Bool} (hlv:Lv G G2 w1 W2) (k1:w1.heap[w.heap.size]? =some (.cells #[.string (bs v.1),.string (bs v.2.1),.int .i64 v.2.2.1,.int .i64 v.2.2.2.1,.int .i64 v.2.2.2.2.1,.bool v.2.2.2.2.2.1,vr,vl,ve] 26 (0,0))) (k2:w1.heap[w.heap.size+1]? =some (.cells #[.string ⟨#[]⟩,.string ⟨#[]⟩,.int .i64 0,.int .i64 0,.int .i64 0,.bool false,.slice none 0 0,.slice none 0 0,.slice none 0 0] 26 (0,0))) (k3:Kept w w1) (hT:bF Tryz.prog G) (hu:cw G2 Ty.str.size (az G2 .str) W u) (hc:bn W []=some (ok,())): RW w (W2.alloc (.cells #[u,.bool true] 100)) v vr vl ve W2.heap.size u true/\Calls Tryz.prog 48 #[u,.string (bs [])] (W2.alloc (.cells #[u,.bool true] 100)) fun e w'=>e= .returned (.bool ok)/\Kept (W2.alloc (.cells #[u,.bool true] 100)) w':=by
 have hn:=bH W2 (.cells #[u,.bool true] 100)
 have hk:=hlv.kept.trans hn.2
 exact⟨⟨(hk.block _ (aj k1)).trans k1,(hk.block _ (aj k2)).trans k2,hn.1,k3.trans hk,abh (aj k2) hlv.kept.size⟩,LW W u ok hu (dy hlv.agr _) (hT.mono hlv.le) hc⟩
def uc (w w':World) (nb:List Nat) (e:Ending) (o:Option aa):Prop:=
 Far w.heap.size nb w w'/\
  ((o=none/\∃ (x:aa) (ra:Option Addr) (rn rc:Nat) (la:Option Addr) (ln lc:Nat) (xa:Option Addr) (xn xc:Nat),e= .returned (.tuple #[.agg (iJ x (.slice ra rn rc) (.slice la ln lc) (.slice xa xn xc)).toArray,.bool false]))\/
    ∃ v',o=some v'/\∃ ra rn rc la ln lc xa xn xc L',e= .returned (.tuple #[.agg (iJ v' (.slice ra rn rc) (.slice la ln lc) (.slice xa xn xc)).toArray,.bool true])/\RV w' v' (.slice ra rn rc) (.slice la ln lc) (.slice xa xn xc) L'/\∀ b∈aK (.slice ra rn rc) (.slice la ln lc) (.slice xa xn xc) L',b∈nb\/w.heap.size<=b)
theorem MN {w w':World} {nb:List Nat} {e:Ending} {x:aa} {ra:Option Addr} {rn rc:Nat} {la:Option Addr} {ln lc:Nat} {xa:Option Addr} {xn xc:Nat} (he:e= .returned (.tuple #[.agg (iJ x (.slice ra rn rc) (.slice la ln lc) (.slice xa xn xc)).toArray,.bool false])) (h:Kept w w'):uc w w' nb e none:=
 ⟨Far.kept h (abd _),.inl ⟨rfl,x,ra,rn,rc,la,ln,lc,xa,xn,xc,he⟩⟩
theorem JD {w W Wz:World} {b:Nat} (h:Kept w W) (hb:w.heap.size<=b) (s2:∀ k,k≠b->Wz.heap[k]? =W.heap[k]?) (s3:Wz.heap.size=W.heap.size) (ho:Wz.os=W.os) (hp:Wz.output=W.output):Kept w Wz:=
 ⟨by rw[s3];exact h.size,ho.trans h.os,hp.trans h.output,fun k hk=>(s2 k (by omega)).trans (h.block k hk)⟩
set_option maxHeartbeats 1000000 in
theorem Xp (G:Gh) (w:World) (first:Bool) (s:List UInt8) (W:List (List UInt8)) (v:aa) (ra:Option Addr) (rn rc:Nat) (la:Option Addr) (ln lc:Nat) (xa:Option Addr) (xn xc:Nat) (nb:List Nat) (hG:Agr G w) (hT:bF Tryz.prog G) (hne:W≠[]) (hm:strings_Split s [32]=some (W,())) (hc:bn W []=some (true,())): Calls Tryz.prog 15 #[.agg #[.string (bs v.1),.string (bs v.2.1),.int .i64 v.2.2.1,.int .i64 v.2.2.2.1,.int .i64 v.2.2.2.2.1,.bool v.2.2.2.2.2.1,.slice ra rn rc,.slice la ln lc,.slice xa xn xc],.string (bs s),.bool first] w fun e w'=>uc w w' nb e none:=by
 have e32:∀ args w,(callFunc 32 args).run Tryz.prog w= .ok (.enter 32 args) w:=enters_of Tryz.func32 (by kernel_rfl) rfl
 have e48:∀ args w,(callFunc 48 args).run Tryz.prog w= .ok (.enter 48 args) w:=enters_of Tryz.func48 (by kernel_rfl) rfl
 have e49:∀ args w,(callFunc 49 args).run Tryz.prog w= .ok (.enter 49 args) w:=enters_of Tryz.func49 (by kernel_rfl) rfl
 have mixed:Tryz.prog.follows .mixedOrders=true:=by kernel_rfl
 have late:Tryz.prog.follows .lateStores=true:=by kernel_rfl
 have t3:=Tryz.underlying3;have t4:=Tryz.underlying4;have t9:=Tryz.underlying9;have t26:=Tryz.underlying26;have a26:=Tryz.isAgg26;have z26:=Tryz.sizeOf26;have v26:=Tryz.zeroValue26;have t36:=Tryz.underlying36;have t100:=Tryz.underlying100;have a100:=Tryz.isAgg100;have z100:=Tryz.sizeOf100;have v100:=Tryz.zeroValue100;have t22:=Tryz.underlying22;have t23:=Tryz.underlying23;have t24:=Tryz.underlying24
 obtain⟨k1,k2,k3⟩:=kK w (.cells #[.string (bs v.1),.string (bs v.2.1),.int .i64 v.2.2.1,.int .i64 v.2.2.2.1,.int .i64 v.2.2.2.2.1,.bool v.2.2.2.2.2.1,.slice ra rn rc,.slice la ln lc,.slice xa xn xc] 26) (.cells #[.string ⟨#[]⟩,.string ⟨#[]⟩,.int .i64 0,.int .i64 0,.int .i64 0,.bool false,.slice none 0 0,.slice none 0 0,.slice none 0 0] 26)
 have hA0:Agr G ((w.alloc (.cells #[.string (bs v.1),.string (bs v.2.1),.int .i64 v.2.2.1,.int .i64 v.2.2.2.1,.int .i64 v.2.2.2.2.1,.bool v.2.2.2.2.2.1,.slice ra rn rc,.slice la ln lc,.slice xa xn xc] 26)).alloc (.cells #[.string ⟨#[]⟩,.string ⟨#[]⟩,.int .i64 0,.int .i64 0,.int .i64 0,.bool false,.slice none 0 0,.slice none 0 0,.slice none 0 0] 26)):=dy (dy hG _) _
 have hsp:=kT s W hA0 hT hm
 go_enter Tryz.func15,Tryz.ntmps15
 go_wp2_with (first | (go_at_fn 32;refine hsp.mono ?_;rintro e W2 ⟨G2,u,rfl,hlv,hu⟩;obtain⟨b,off,cap,rfl,hcap,kC,hfz,hcell⟩:=eS hu hlv.agr hne;obtain⟨hRW,hct⟩:=yx (ok:=true) hlv k1 k2 k3 hT hu hc) | (go_at_fn 48;refine hct.mono ?_;rintro e W3 ⟨rfl,hk3⟩;have hR3:=hRW.keep hk3;obtain⟨⟨p0,p1,p2,p3,p4,p5,p6,p7,p8⟩,_⟩:=ak hR3.b0;obtain⟨⟨q0,q1,q2,q3,q4,q5,q6,q7,q8⟩,qf⟩:=ak hR3.b1;have f0:=qf 0;have f1:=qf 1;have f2:=qf 2;have f3:=qf 3;have f4:=qf 4;have f5:=qf 5;have f6:=qf 6;have f7:=qf 7;have f8:=qf 8))
 obtain⟨s1,s2,s3,s4,s5⟩:=iZ (.string (bs v.1)) (.string (bs v.2.1)) (.int .i64 v.2.2.1) (.int .i64 v.2.2.2.1) (.int .i64 v.2.2.2.2.1) (.bool v.2.2.2.2.2.1) (.slice ra rn rc) (.slice la ln lc) (.slice xa xn xc) hR3.b1
 refine bodyPost_ret (iO (p:=6) (q:=7) (ty:=26) (b:=w.heap.size+1) (v:= .agg (iJ v (.slice ra rn rc) (.slice la ln lc) (.slice xa xn xc)).toArray) (by kernel_rfl) _ _ _ (by rfl) (nk s1)) rfl ?_
 exact MN (by rfl) (JD hR3.kept (by omega) s2 s3 s4 s5)
end Go.Proofs.SeatU
set_option maxRecDepth 100000
namespace Go.Proofs.SeatU
open Go.Dn Go.Md Go.Proofs Go.RowKit Go.Shelf Go.Lib
attribute [local go_sem ↓] Go.wp_at_zero Go.wp_at_succ
set_option maxHeartbeats 4000000 in
theorem Wn (G:Gh) (w:World) (s:List UInt8) (Ws:List (List UInt8)) (v:aa) (ra:Option Addr) (rn rc:Nat) (la:Option Addr) (ln lc:Nat) (xa:Option Addr) (xn xc:Nat) (nb:List Nat) (hG:Agr G w) (hT:bF Tryz.prog G) (hne:Ws≠[]) (hWl:Ws.length<=1000000) (hm:strings_Split s [32]=some (Ws,())) (hc:bn Ws []=some (false,())) (hi0:isW [105,110,118,111,105,99,101] 6 [112,101,114,108,105,110,101] Ws=false): Calls Tryz.prog 15 #[.agg #[.string (bs v.1),.string (bs v.2.1),.int .i64 v.2.2.1,.int .i64 v.2.2.2.1,.int .i64 v.2.2.2.2.1,.bool v.2.2.2.2.2.1,.slice ra rn rc,.slice la ln lc,.slice xa xn xc],.string (bs s),.bool true] w fun e w'=>uc w w' nb e none:=by
 have e32:∀ args w,(callFunc 32 args).run Tryz.prog w= .ok (.enter 32 args) w:=enters_of Tryz.func32 (by kernel_rfl) rfl
 have e48:∀ args w,(callFunc 48 args).run Tryz.prog w= .ok (.enter 48 args) w:=enters_of Tryz.func48 (by kernel_rfl) rfl
 have e49:∀ args w,(callFunc 49 args).run Tryz.prog w= .ok (.enter 49 args) w:=enters_of Tryz.func49 (by kernel_rfl) rfl
 have mixed:Tryz.prog.follows .mixedOrders=true:=by kernel_rfl
 have late:Tryz.prog.follows .lateStores=true:=by kernel_rfl
 have t3:=Tryz.underlying3;have t4:=Tryz.underlying4;have t9:=Tryz.underlying9;have t26:=Tryz.underlying26;have a26:=Tryz.isAgg26;have z26:=Tryz.sizeOf26;have v26:=Tryz.zeroValue26;have t36:=Tryz.underlying36;have t100:=Tryz.underlying100;have a100:=Tryz.isAgg100;have z100:=Tryz.sizeOf100;have v100:=Tryz.zeroValue100;have t22:=Tryz.underlying22;have t23:=Tryz.underlying23;have t24:=Tryz.underlying24
 obtain⟨k1,k2,k3⟩:=kK w (.cells #[.string (bs v.1),.string (bs v.2.1),.int .i64 v.2.2.1,.int .i64 v.2.2.2.1,.int .i64 v.2.2.2.2.1,.bool v.2.2.2.2.2.1,.slice ra rn rc,.slice la ln lc,.slice xa xn xc] 26) (.cells #[.string ⟨#[]⟩,.string ⟨#[]⟩,.int .i64 0,.int .i64 0,.int .i64 0,.bool false,.slice none 0 0,.slice none 0 0,.slice none 0 0] 26)
 have hA0:Agr G ((w.alloc (.cells #[.string (bs v.1),.string (bs v.2.1),.int .i64 v.2.2.1,.int .i64 v.2.2.2.1,.int .i64 v.2.2.2.2.1,.bool v.2.2.2.2.2.1,.slice ra rn rc,.slice la ln lc,.slice xa xn xc] 26)).alloc (.cells #[.string ⟨#[]⟩,.string ⟨#[]⟩,.int .i64 0,.int .i64 0,.int .i64 0,.bool false,.slice none 0 0,.slice none 0 0,.slice none 0 0] 26)):=dy (dy hG _) _
 have hsp:=kT s Ws hA0 hT hm
 go_enter Tryz.func15,Tryz.ntmps15
 go_wp2_with (first | (go_at_fn 32;refine hsp.mono ?_;rintro e W2 ⟨G2,u,rfl,hlv,hu⟩;obtain⟨b,off,cap,rfl,hcap,kC,hfz,hcell⟩:=eS hu hlv.agr hne;obtain⟨hRW,hct⟩:=yx (ok:=false) hlv k1 k2 k3 hT hu hc) | (go_at_fn 48;refine hct.mono ?_;rintro e W3 ⟨rfl,hk3⟩;have hR3:=hRW.keep hk3;have hc3:∀ i x,Ws[i]? =some x->W3.cell? ⟨b,off+i,none⟩=some (.string (bs x)):=fun i x hx=>cB hk3 (aM (hcell i x hx));obtain⟨⟨p0,p1,p2,p3,p4,p5,p6,p7,p8⟩,_⟩:=ak hR3.b0) | (go_at_fn 49;(have hi:=ris (ok:=true) [105,110,118,111,105,99,101] [112,101,114,108,105,110,101] 6 hR3.box hne hWl (by decide) hc3;rw[hi0] at hi;refine hi.mono ?_;rintro e W4 ⟨rfl,hk4⟩;have hR4:=hR3.keep hk4;have hc4:=fun i x hx=>cB hk4 (hc3 i x hx);obtain⟨⟨p0,p1,p2,p3,p4,p5,p6,p7,p8⟩,_⟩:=ak hR4.b0;obtain⟨⟨q0,q1,q2,q3,q4,q5,q6,q7,q8⟩,qf⟩:=ak hR4.b1;have f0:=qf 0;have f1:=qf 1;have f2:=qf 2;have f3:=qf 3;have f4:=qf 4;have f5:=qf 5;have f6:=qf 6;have f7:=qf 7;have f8:=qf 8)))
 obtain⟨s1,s2,s3,s4,s5⟩:=iZ (.string (bs v.1)) (.string (bs v.2.1)) (.int .i64 v.2.2.1) (.int .i64 v.2.2.2.1) (.int .i64 v.2.2.2.2.1) (.bool v.2.2.2.2.2.1) (.slice ra rn rc) (.slice la ln lc) (.slice xa xn xc) hR4.b1
 refine bodyPost_ret (iO (p:=6) (q:=7) (ty:=26) (b:=w.heap.size+1) (v:= .agg (iJ v (.slice ra rn rc) (.slice la ln lc) (.slice xa xn xc)).toArray) (by kernel_rfl) _ _ _ (by rfl) (nk s1)) rfl ?_
 exact MN (by rfl) (JD hR4.kept (by omega) s2 s3 s4 s5)
set_option maxHeartbeats 8000000 in
theorem Wm (G:Gh) (w:World) (s:List UInt8) (Ws:List (List UInt8)) (v:aa) (ra:Option Addr) (rn rc:Nat) (la:Option Addr) (ln lc:Nat) (xa:Option Addr) (xn xc:Nat) (nb:List Nat) (hG:Agr G w) (hT:bF Tryz.prog G) (hne:Ws≠[]) (hWl:Ws.length<=1000000) (hm:strings_Split s [32]=some (Ws,())) (hc:bn Ws []=some (false,())) (r1 r2 r3 r4 l0 x0:Bool) (hi1:isW [114,97,116,101] 3 [] Ws=r1) (hi2:isW [108,105,110,101] 9 [] Ws=r2) (hi3:isW [101,120,116,114,97] 2 [112,101,114,99,101,110,116] Ws=r3) (hi4:isW [97,108,108] 3 [112,101,114,99,101,110,116] Ws=r4) (hl0:((ln:Int)==0)=l0) (hlp:decide ((0:Int)<(ln:Int))= !l0) (hx0:((xn:Int)==0)=x0) (hno:(r1=false/\r2=false/\r3=false/\r4=false)\/(r1=true/\r2=false/\r3=false/\r4=false/\l0=false)\/(r1=true/\r2=false/\r3=false/\r4=false/\l0=true/\x0=false)\/(r1=false/\r2=true/\r3=false/\r4=false/\x0=false)\/(r1=false/\r2=false/\r3=true/\r4=false/\l0=true)\/(r1=false/\r2=false/\r3=true/\r4=false/\l0=false/\x0=false)): Calls Tryz.prog 15 #[.agg #[.string (bs v.1),.string (bs v.2.1),.int .i64 v.2.2.1,.int .i64 v.2.2.2.1,.int .i64 v.2.2.2.2.1,.bool v.2.2.2.2.2.1,.slice ra rn rc,.slice la ln lc,.slice xa xn xc],.string (bs s),.bool false] w fun e w'=>uc w w' nb e none:=by
 have e32:∀ args w,(callFunc 32 args).run Tryz.prog w= .ok (.enter 32 args) w:=enters_of Tryz.func32 (by kernel_rfl) rfl
 have e48:∀ args w,(callFunc 48 args).run Tryz.prog w= .ok (.enter 48 args) w:=enters_of Tryz.func48 (by kernel_rfl) rfl
 have e49:∀ args w,(callFunc 49 args).run Tryz.prog w= .ok (.enter 49 args) w:=enters_of Tryz.func49 (by kernel_rfl) rfl
 have mixed:Tryz.prog.follows .mixedOrders=true:=by kernel_rfl
 have late:Tryz.prog.follows .lateStores=true:=by kernel_rfl
 have t3:=Tryz.underlying3;have t4:=Tryz.underlying4;have t9:=Tryz.underlying9;have t26:=Tryz.underlying26;have a26:=Tryz.isAgg26;have z26:=Tryz.sizeOf26;have v26:=Tryz.zeroValue26;have t36:=Tryz.underlying36;have t100:=Tryz.underlying100;have a100:=Tryz.isAgg100;have z100:=Tryz.sizeOf100;have v100:=Tryz.zeroValue100;have t22:=Tryz.underlying22;have t23:=Tryz.underlying23;have t24:=Tryz.underlying24
 obtain⟨k1,k2,k3⟩:=kK w (.cells #[.string (bs v.1),.string (bs v.2.1),.int .i64 v.2.2.1,.int .i64 v.2.2.2.1,.int .i64 v.2.2.2.2.1,.bool v.2.2.2.2.2.1,.slice ra rn rc,.slice la ln lc,.slice xa xn xc] 26) (.cells #[.string ⟨#[]⟩,.string ⟨#[]⟩,.int .i64 0,.int .i64 0,.int .i64 0,.bool false,.slice none 0 0,.slice none 0 0,.slice none 0 0] 26)
 have hA0:Agr G ((w.alloc (.cells #[.string (bs v.1),.string (bs v.2.1),.int .i64 v.2.2.1,.int .i64 v.2.2.2.1,.int .i64 v.2.2.2.2.1,.bool v.2.2.2.2.2.1,.slice ra rn rc,.slice la ln lc,.slice xa xn xc] 26)).alloc (.cells #[.string ⟨#[]⟩,.string ⟨#[]⟩,.int .i64 0,.int .i64 0,.int .i64 0,.bool false,.slice none 0 0,.slice none 0 0,.slice none 0 0] 26)):=dy (dy hG _) _
 have hsp:=kT s Ws hA0 hT hm
 go_enter Tryz.func15,Tryz.ntmps15
 rcases hno with ⟨rfl,rfl,rfl,rfl⟩ | ⟨rfl,rfl,rfl,rfl,rfl⟩ | ⟨rfl,rfl,rfl,rfl,rfl,rfl⟩ | ⟨rfl,rfl,rfl,rfl,rfl⟩ | ⟨rfl,rfl,rfl,rfl,rfl⟩ | ⟨rfl,rfl,rfl,rfl,rfl,rfl⟩
 all_goals
  first | (have hlq:(0:Int)<(ln:Int):=ab3 hlp) | (have hlq:¬ (0:Int)<(ln:Int):=of_decide_eq_false hlp) | skip
  go_wp2_with (first | (go_at_fn 32;refine hsp.mono ?_;rintro e W2 ⟨G2,u,rfl,hlv,hu⟩;obtain⟨b,off,cap,rfl,hcap,kC,hfz,hcell⟩:=eS hu hlv.agr hne;obtain⟨hRW,hct⟩:=yx (ok:=false) hlv k1 k2 k3 hT hu hc) | (go_at_fn 48;refine hct.mono ?_;rintro e W3 ⟨rfl,hk3⟩;have hR3:=hRW.keep hk3;have hc3:∀ i x,Ws[i]? =some x->W3.cell? ⟨b,off+i,none⟩=some (.string (bs x)):=fun i x hx=>cB hk3 (aM (hcell i x hx));obtain⟨⟨p0,p1,p2,p3,p4,p5,p6,p7,p8⟩,_⟩:=ak hR3.b0) | (go_at_fn 49;first | (have hi:=ris (ok:=true) [97,108,108] [112,101,114,99,101,110,116] 3 hR6.box hne hWl (by decide) hc6;rw[hi4] at hi;refine hi.mono ?_;rintro e W7 ⟨rfl,hk7⟩;have hR7:=hR6.keep hk7;have hc7:=fun i x hx=>cB hk7 (hc6 i x hx);obtain⟨⟨p0,p1,p2,p3,p4,p5,p6,p7,p8⟩,_⟩:=ak hR7.b0;obtain⟨⟨q0,q1,q2,q3,q4,q5,q6,q7,q8⟩,qf⟩:=ak hR7.b1;have f0:=qf 0;have f1:=qf 1;have f2:=qf 2;have f3:=qf 3;have f4:=qf 4;have f5:=qf 5;have f6:=qf 6;have f7:=qf 7;have f8:=qf 8) | (have hi:=ris (ok:=true) [101,120,116,114,97] [112,101,114,99,101,110,116] 2 hR5.box hne hWl (by decide) hc5;rw[hi3] at hi;refine hi.mono ?_;rintro e W6 ⟨rfl,hk6⟩;have hR6:=hR5.keep hk6;have hc6:=fun i x hx=>cB hk6 (hc5 i x hx);obtain⟨⟨c0,c1,c2,c3,c4,c5,c6,c7,c8⟩,_⟩:=ak hR6.b0) | (have hi:=ris (ok:=true) [108,105,110,101] [] 9 hR4.box hne hWl (by decide) hc4;rw[hi2] at hi;refine hi.mono ?_;rintro e W5 ⟨rfl,hk5⟩;have hR5:=hR4.keep hk5;have hc5:=fun i x hx=>cB hk5 (hc4 i x hx);obtain⟨⟨b0,b1,b2,b3,b4,b5,b6,b7,b8⟩,_⟩:=ak hR5.b0) | (have hi:=ris (ok:=true) [114,97,116,101] [] 3 hR3.box hne hWl (by decide) hc3;rw[hi1] at hi;refine hi.mono ?_;rintro e W4 ⟨rfl,hk4⟩;have hR4:=hR3.keep hk4;have hc4:=fun i x hx=>cB hk4 (hc3 i x hx);obtain⟨⟨a0,a1,a2,a3,a4,a5,a6,a7,a8⟩,_⟩:=ak hR4.b0)))
  obtain⟨s1,s2,s3,s4,s5⟩:=iZ (.string (bs v.1)) (.string (bs v.2.1)) (.int .i64 v.2.2.1) (.int .i64 v.2.2.2.1) (.int .i64 v.2.2.2.2.1) (.bool v.2.2.2.2.2.1) (.slice ra rn rc) (.slice la ln lc) (.slice xa xn xc) hR7.b1
  refine bodyPost_ret (iO (p:=6) (q:=7) (ty:=26) (b:=w.heap.size+1) (v:= .agg (iJ v (.slice ra rn rc) (.slice la ln lc) (.slice xa xn xc)).toArray) (by kernel_rfl) _ _ _ (by rfl) (nk s1)) rfl ?_
  exact MN (by rfl) (JD hR7.kept (by omega) s2 s3 s4 s5)
end Go.Proofs.SeatU
