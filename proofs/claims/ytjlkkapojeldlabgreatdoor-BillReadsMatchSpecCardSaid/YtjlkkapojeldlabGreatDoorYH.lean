/-
  Read of the reference by a walk; both as their models say. No condition.
-/
import Derived.Test.YtjlkkapojeldlabGreatDoorYI
set_option linter.all false
set_option maxRecDepth 100000
namespace Go.Proofs.SeatU
open Go.Dn Go.Md Go.Proofs Go.RowKit Go.Shelf Go.Lib
theorem RN (w:World) (t:List UInt8) (h:(300000:Int)<(t.length:Int)): Calls Tryz.prog 6 #[.string (bs t)] w fun e w'=>e= .returned (.tuple #[.agg eF,.int .i64 0,.int .i64 2])/\Kept w w':=by
 have mixed:Tryz.prog.follows .mixedOrders=true:=by kernel_rfl
 have late:Tryz.prog.follows .lateStores=true:=by kernel_rfl
 have t3:=Tryz.underlying3;have t4:=Tryz.underlying4;have t9:=Tryz.underlying9;have t26:=Tryz.underlying26;have a26:=Tryz.isAgg26;have z26:=Tryz.sizeOf26;have v26:=Tryz.zeroValue26;have t27:=Tryz.underlying27
 have hsz:(bs t).size=t.length:=aaN
 go_enter Tryz.func6,Tryz.ntmps6
 go_wp2
 refine bodyPost_ret (gQ (p:=2) (q:=3) (r:=4) (ty:=26) (b:=w.heap.size) (v:= .agg eF) (by kernel_rfl) _ _ _ (by rfl) (nk ?_)) rfl ⟨by rfl, ?_⟩
 ·exact (bH _ _).1
 ·exact (bH _ _).2
theorem TV (w:World): Calls Tryz.prog 6 #[.string (bs [])] w fun e w'=>e= .returned (.tuple #[.agg eF,.int .i64 1,.int .i64 10])/\Kept w w':=by
 have mixed:Tryz.prog.follows .mixedOrders=true:=by kernel_rfl
 have late:Tryz.prog.follows .lateStores=true:=by kernel_rfl
 have t3:=Tryz.underlying3;have t4:=Tryz.underlying4;have t9:=Tryz.underlying9;have t26:=Tryz.underlying26;have a26:=Tryz.isAgg26;have z26:=Tryz.sizeOf26;have v26:=Tryz.zeroValue26;have t27:=Tryz.underlying27
 have hsz:(bs []).size=0:=rfl
 have hb:((bs []).toList==[])=true:=by rw[fY];rfl
 go_enter Tryz.func6,Tryz.ntmps6
 go_wp2
 refine bodyPost_ret (gQ (p:=2) (q:=3) (r:=4) (ty:=26) (b:=w.heap.size) (v:= .agg eF) (by kernel_rfl) _ _ _ (by rfl) (nk ?_)) rfl ⟨by rfl, ?_⟩
 ·exact (bH _ _).1
 ·exact (bH _ _).2
structure RdR (w wr:World) (v:aa) (ra:Option Addr) (rn rc:Nat) (la:Option Addr) (ln lc:Nat) (xa:Option Addr) (xn xc:Nat) (L:List (ai×Value)) (i:Nat):Prop where
 box:wr.heap[w.heap.size+1]? =some (.cells #[.string (bs v.1),.string (bs v.2.1),.int .i64 v.2.2.1,.int .i64 v.2.2.2.1,.int .i64 v.2.2.2.2.1,.bool v.2.2.2.2.2.1,.slice ra rn rc,.slice la ln lc,.slice xa xn xc] 26 (0,0))
 rv:RV wr v (.slice ra rn rc) (.slice la ln lc) (.slice xa xn xc) L
 fr:∀ b∈aK (.slice ra rn rc) (.slice la ln lc) (.slice xa xn xc) L,w.heap.size+1<b
 kb:w.heap.size<=wr.heap.size/\wr.os=w.os/\wr.output=w.output/\∀ b,b<w.heap.size->wr.heap[b]? =w.heap[b]?
 res:wr.heap[w.heap.size]? =some (.cells eF 26 (0,0))
 bnd:SP i v
def Ye (G:Gh) (w:World) (t:List UInt8) (qq:Int) (e:Ending) (w':World):Prop:=
 Kept w w'/\
  ((∃ n,yU t.length t 1 zI= .inr n/\e= .returned (.tuple #[.agg eF,.int .i64 n,.int .i64 10]))\/
   (∃ v,yU t.length t 1 zI= .inl v/\((qq≠0/\e= .returned (.tuple #[.agg eF,.int .i64 0,.int .i64 qq]))\/
     (qq=0/\∃ vr vl ve,e= .returned (.tuple #[.agg (iJ v vr vl ve).toArray,.int .i64 0,.int .i64 0])/\zV (frz w.heap.size G w') v vr vl ve))))
theorem Fa (i:Nat):((i:Int)+1==1)=(i+1==1):=by
 by_cases h:i=0
 ·subst h;rfl
 ·rw[abH (show i+1≠1 by omega),abH (by omega)]
section
variable {w wr W W3 W4 W5 Wz:World} {v v':aa} {ra:Option Addr} {rn rc:Nat} {la:Option Addr} {ln lc:Nat} {xa:Option Addr} {xn xc:Nat} {ra':Option Addr} {rn' rc':Nat} {la':Option Addr} {ln' lc':Nat} {xa':Option Addr} {xn' xc':Nat} {L L':List (ai×Value)} {i:Nat}
theorem RdR.kept (h:RdR w wr v ra rn rc la ln lc xa xn xc L i) (hk:Kept wr W):RdR w W v ra rn rc la ln lc xa xn xc L i:=
 ⟨(hk.block _ (aj h.box)).trans h.box,h.rv.keep fun b hb=>hk.block b (h.rv.lt b hb),h.fr,⟨abf h.kb.1 hk.size,hk.os.trans h.kb.2.1,hk.output.trans h.kb.2.2.1,fun b hb=>(hk.block b (abh hb h.kb.1)).trans (h.kb.2.2.2 b hb)⟩,(hk.block _ (aj h.res)).trans h.res,h.bnd⟩
theorem RdR.agr {G:Gh} (h:RdR w wr v ra rn rc la ln lc xa xn xc L i) (hG:Agr G w):Agr G wr:=fun b o hb=>(h.kb.2.2.2 b (aj (hG b o hb))).trans (hG b o hb)
theorem RdR.fin (h:RdR w wr v ra rn rc la ln lc xa xn xc L i) (hs:wr.heap.size<=W.heap.size) (ho:W.os=wr.os) (hp:W.output=wr.output) (hb:∀ b,b<w.heap.size->W.heap[b]? =wr.heap[b]?) (s2:∀ k,k≠w.heap.size->Wz.heap[k]? =W.heap[k]?) (s3:Wz.heap.size=W.heap.size) (ho2:Wz.os=W.os) (hp2:Wz.output=W.output):Kept w Wz:=
 ⟨by rw[s3];exact abf h.kb.1 hs,ho2.trans (ho.trans h.kb.2.1),hp2.trans (hp.trans h.kb.2.2.1),fun b hb'=>(s2 b (by omega)).trans ((hb b hb').trans (h.kb.2.2.2 b hb'))⟩
theorem RdR.next {f:Bool} {s:List UInt8} (h:RdR w wr v ra rn rc la ln lc xa xn xc L i) (hr:rdI v f s=some v') (hf:Far wr.heap.size (aK (.slice ra rn rc) (.slice la ln lc) (.slice xa xn xc) L) wr W3) (hV:RV W3 v' (.slice ra' rn' rc') (.slice la' ln' lc') (.slice xa' xn' xc') L') (hb:∀ b∈aK (.slice ra' rn' rc') (.slice la' ln' lc') (.slice xa' xn' xc') L',b∈aK (.slice ra rn rc) (.slice la ln lc) (.slice xa xn xc) L\/wr.heap.size<=b) {W9:World} (hk:∀ k,k≠w.heap.size+1->k<W3.heap.size->W9.heap[k]? =W3.heap[k]?) (hbx:W9.heap[w.heap.size+1]? =some (.cells #[.string (bs v'.1),.string (bs v'.2.1),.int .i64 v'.2.2.1,.int .i64 v'.2.2.2.1,.int .i64 v'.2.2.2.2.1,.bool v'.2.2.2.2.2.1,.slice ra' rn' rc',.slice la' ln' lc',.slice xa' xn' xc'] 26 (0,0))) (hs9:W3.heap.size<=W9.heap.size) (ho:W9.os=W3.os) (hp:W9.output=W3.output):RdR w W9 v' ra' rn' rc' la' ln' lc' xa' xn' xc' L' (i+1):=by
 have hx1:w.heap.size+1<wr.heap.size:=aj h.box
 have hfs:=hf.size
 have hfr:∀ b∈aK (.slice ra' rn' rc') (.slice la' ln' lc') (.slice xa' xn' xc') L',w.heap.size+1<b:=fun b hm=>by
  rcases hb b hm with hm | hm
  ·exact h.fr b hm
  ·omega
 refine⟨hbx,hV.keep fun b hm=>hk b (by have:=hfr b hm;omega) (hV.lt b hm),hfr,⟨by have:=h.kb.1;omega,ho.trans (hf.os.trans h.kb.2.1),hp.trans (hf.output.trans h.kb.2.2.1),fun b hbN=> ?_⟩, ?_,SH hr h.bnd⟩
 ·rw[hk b (by omega) (by omega),hf.keep b (by omega) (fun hm=>by have:=h.fr b hm;omega)]
  exact h.kb.2.2.2 b hbN
 ·rw[hk _ (by omega) (by omega),hf.keep _ (by omega) (fun hm=>by have:=h.fr _ hm;omega)]
  exact h.res
theorem Vs {e:Ending} {o:Option aa} (h:RdR w wr v ra rn rc la ln lc xa xn xc L i) (hk:Kept wr W3) (hl:uc W3 W4 (aK (.slice ra rn rc) (.slice la ln lc) (.slice xa xn xc) L) e o) (hn:Kept W4 W5) {b:Nat} (hb:b<w.heap.size):W5.heap[b]? =wr.heap[b]? :=by
 have h1:=h.kb.1
 have h2:=hk.size
 have h3:=hl.1.size
 rw[hn.block b (by omega),hl.1.keep b (by omega) (fun hm=>by have:=h.fr b hm;omega)]
 exact hk.block b (by omega)
end
set_option maxHeartbeats 4000000 in
theorem Lf (G:Gh) (w:World) (t:List UInt8) (qq:Int) (hG:Agr G w) (hT:bF Tryz.prog G) (h:¬ (300000:Int)<(t.length:Int)) (hne:t≠[]) (hq:∀ v,yU t.length t 1 zI= .inl v->gX v=some (qq,())): Calls Tryz.prog 6 #[.string (bs t)] w fun e w'=>Ye G w t qq e w':=by
 have e14:∀ args w,(callFunc 14 args).run Tryz.prog w= .ok (.enter 14 args) w:=enters_of Tryz.func14 (by kernel_rfl) rfl
 have e15:∀ args w,(callFunc 15 args).run Tryz.prog w= .ok (.enter 15 args) w:=enters_of Tryz.func15 (by kernel_rfl) rfl
 have e16:∀ args w,(callFunc 16 args).run Tryz.prog w= .ok (.enter 16 args) w:=enters_of Tryz.func16 (by kernel_rfl) rfl
 have mixed:Tryz.prog.follows .mixedOrders=true:=by kernel_rfl
 have late:Tryz.prog.follows .lateStores=true:=by kernel_rfl
 have t3:=Tryz.underlying3;have t4:=Tryz.underlying4;have t9:=Tryz.underlying9;have t26:=Tryz.underlying26;have a26:=Tryz.isAgg26;have z26:=Tryz.sizeOf26;have v26:=Tryz.zeroValue26;have t27:=Tryz.underlying27
 have hsz:(bs t).size=t.length:=aaN
 have hbt:((bs t).toList==[])=false:=by
  rw[fY]
  cases t with
  | nil=>exact absurd rfl hne
  | cons x y=>rfl
 obtain⟨k1,k2,k3⟩:=kK w (.cells #[.string ⟨#[]⟩,.string ⟨#[]⟩,.int .i64 0,.int .i64 0,.int .i64 0,.bool false,.slice none 0 0,.slice none 0 0,.slice none 0 0] 26) (.cells #[.string ⟨#[]⟩,.string ⟨#[]⟩,.int .i64 0,.int .i64 0,.int .i64 0,.bool false,.slice none 0 0,.slice none 0 0,.slice none 0 0] 26)
 go_enter Tryz.func6,Tryz.ntmps6
 go_wp2
 go_loopg [0,6] t.length (fun g s0 s6 wr=>∃ (i:Nat) (rest:List UInt8) (v:aa) (ra:Option Addr) (rn rc:Nat) (la:Option Addr) (ln lc:Nat) (xa:Option Addr) (xn xc:Nat) (L:List (ai×Value)) (f:Nat),s0= .string (bs rest)/\s6= .int .i64 ((i:Int)+1)/\rest.length<=g/\rest.length<=f/\i+rest.length<=t.length/\Aside (RdR w wr v ra rn rc la ln lc xa xn xc L i)/\Aside (yU t.length t 1 zI=yU f rest (i+1) v))
 case atStart=>
  refine⟨0,t,zI,none,0,0,none,0,0,none,0,0,[],t.length,rfl,rfl,abd _,abd _,by omega, ?_,rfl⟩
  exact⟨k2,RV.zero _ _ rfl rfl rfl,fun b hb=>by simp[aK,fy,Value.ownBlock] at hb,⟨k3.size,k3.os,k3.output,fun b hb=>k3.block b hb⟩,k1,abw _,abw _,abw _,fun p hp=>by cases hp⟩
 case round=>
  obtain⟨i,rest,v,ra,rn,rc,la,ln,lc,xa,xn,xc,L,f,rfl,rfl,hg,hf,hi,HI,HP⟩:=hrel
  have hA:=HI.out.agr hG
  have hbx:=HI.out.box
  have hb4:wr.heap[w.heap.size]? =some (.cells #[.string ⟨#[]⟩,.string ⟨#[]⟩,.int .i64 0,.int .i64 0,.int .i64 0,.bool false,.slice none 0 0,.slice none 0 0,.slice none 0 0] 26 (0,0)):=HI.out.res
  by_cases hre:rest=[]
  ·subst hre
   have hP:yU t.length t 1 zI= .inl v:=by
    rw[HP.out]
    cases f<;>rfl
   have hqa:=hq v hP
   have HPG:Aside _:=hP
   have hbr:((bs ([]:List UInt8)).toList==[])=true:=by rw[fY];rfl
   have hck:=Qn (G:=frz w.heap.size G wr) v (.slice ra rn rc) (.slice la ln lc) (.slice xa xn xc) qq (Lj HI.out.rv (fun b hb=>by have:=HI.out.fr b hb;omega)) (Mp fun b hb o ho=>(HI.out.kb.2.2.2 b hb).trans (hG b o ho)) (hT.mono (PC hG (abd _))) hqa
   obtain⟨⟨c0,c1,c2,c3,c4,c5,c6,c7,c8⟩,_⟩:=ak hbx
   unfold iJ at hck
   clear hP hq hqa k1 k2 k3
   by_cases hqz:qq=0
   ·subst hqz
    go_wp2_with (go_at_fn 16;refine hck.mono ?_;rintro e W4 ⟨rfl,hk4⟩;have hb5:=(hk4.block _ (aj hb4)).trans hb4;obtain⟨⟨q0,q1,q2,q3,q4,q5,q6,q7,q8⟩,qf⟩:=ak hb5;have f0:=qf 0;have f1:=qf 1;have f2:=qf 2;have f3:=qf 3;have f4:=qf 4;have f5:=qf 5;have f6:=qf 6;have f7:=qf 7;have f8:=qf 8;have hbx5:=(hk4.block _ (aj hbx)).trans hbx;obtain⟨⟨d0,d1,d2,d3,d4,d5,d6,d7,d8⟩,_⟩:=ak hbx5)
    obtain⟨s1,s2,s3,s4,s5⟩:=iZ (.string (bs v.1)) (.string (bs v.2.1)) (.int .i64 v.2.2.1) (.int .i64 v.2.2.2.1) (.int .i64 v.2.2.2.2.1) (.bool v.2.2.2.2.2.1) (.slice ra rn rc) (.slice la ln lc) (.slice xa xn xc) hb5
    have hI4:=HI.out.kept hk4
    refine bodyPost_ret (gQ (p:=2) (q:=3) (r:=4) (ty:=26) (b:=w.heap.size) (v:= .agg (iJ v (.slice ra rn rc) (.slice la ln lc) (.slice xa xn xc)).toArray) (by kernel_rfl) _ _ _ (by rfl) (nk s1)) rfl (And.intro (HI.out.fin hk4.size hk4.os hk4.output (fun b hb=>hk4.block b (abh hb HI.out.kb.1)) s2 s3 s4 s5) <| Or.inr <| Exists.intro v <| And.intro HPG.out <| Or.inr <| And.intro rfl <| Exists.intro (.slice ra rn rc) <| Exists.intro (.slice la ln lc) <| Exists.intro (.slice xa xn xc) <| And.intro (by rfl) (Lj (hI4.rv.keep fun b hb=>s2 b (by have:=hI4.fr b hb;omega)) (fun b hb=>by have:=hI4.fr b hb;omega)))
   ·have hqb:(qq==0)=false:=abH hqz
    go_wp2_with (go_at_fn 16;refine hck.mono ?_;rintro e W4 ⟨rfl,hk4⟩;have hb5:=(hk4.block _ (aj hb4)).trans hb4;obtain⟨⟨q0,q1,q2,q3,q4,q5,q6,q7,q8⟩,qf⟩:=ak hb5;have f0:=qf 0;have f1:=qf 1;have f2:=qf 2;have f3:=qf 3;have f4:=qf 4;have f5:=qf 5;have f6:=qf 6;have f7:=qf 7;have f8:=qf 8)
    obtain⟨s1,s2,s3,s4,s5⟩:=iZ (.string ⟨#[]⟩) (.string ⟨#[]⟩) (.int .i64 0) (.int .i64 0) (.int .i64 0) (.bool false) (.slice none 0 0) (.slice none 0 0) (.slice none 0 0) hb5
    refine bodyPost_ret (gQ (p:=2) (q:=3) (r:=4) (ty:=26) (b:=w.heap.size) (v:= .agg eF) (by kernel_rfl) _ _ _ (by rfl) (nk s1)) rfl ⟨HI.out.fin hk4.size hk4.os hk4.output (fun b hb=>hk4.block b (abh hb HI.out.kb.1)) s2 s3 s4 s5,.inr ⟨v,HPG.out,.inl ⟨hqz,by rfl⟩⟩⟩
  ·have hbr:((bs rest).toList==[])=false:=by
    rw[fY]
    cases rest with
    | nil=>exact absurd rfl hre
    | cons x y=>rfl
   have hbr2:(rest==[])=false:=by rw[fY] at hbr;exact hbr
   have hrl:rest.length<=1000000:=by omega
   have hcut:=xd rest 10 hrl
   have hcl:=Jf 10 rest
   have hcs:=(oy 10 rest).1
   obtain⟨f',rfl⟩:∃ f',f=f'+1:=by
    cases f with
    | zero=>exact absurd (aam.1 (by omega)) hre
    | succ f'=>exact⟨f',rfl⟩
   have hP:=HP.out
   rw[yU,hbr2,abK] at hP
   generalize ef 10 rest=cf at hcut hcl hcs hP
   obtain⟨x,y,ok⟩:=cf
   dsimp only at hcut hcl hcs hP
   have hct:=Uu rest x y ok hA hT hcut
   have hxl:x.length<=900000:=by omega
   have hbd:=HI.out.bnd
   have hcall:=fun (W3:World) (hk:Kept wr W3) f=>RJ G W3 f x v ra rn rc la ln lc xa xn xc L ((HI.out.kept hk).agr hG) hT hxl (HI.out.kept hk).rv (fun b hb=>by
    have:=HI.out.fr b hb
    cases hg:G b with
    | none=>rfl
    | some o=>exact absurd (aj (hG b o hg)) (by omega)) (by have:=hbd.1;omega) (by have:=hbd.2.1;omega) (by have:=hbd.2.2.1;omega) (fun l hl=>by have:=hbd.2.2.2 l hl;omega)
   have hNx:w.heap.size∉aK (.slice ra rn rc) (.slice la ln lc) (.slice xa xn xc) L:=fun hm=>by have:=HI.out.fr _ hm;omega
   have hbx1:w.heap.size+1∉aK (.slice ra rn rc) (.slice la ln lc) (.slice xa xn xc) L:=fun hm=>by have:=HI.out.fr _ hm;omega
   obtain⟨o,hr⟩:∃ o,rdI v (i+1==1) x=o:=⟨_,rfl⟩
   rw[hr] at hP
   have hrest:ok=true->y.length+1<=rest.length:=fun he=>by
    rw[he,abL] at hcs
    have:=congrArg List.length hcs
    simp at this
    omega
   cases o with
   | none=>
    have HPG:Aside _:=hP
    have hcall2:∀ W3,Kept wr W3->∀ f:Bool,f=(i+1==1)->Calls Tryz.prog 15 #[.agg #[.string (bs v.1),.string (bs v.2.1),.int .i64 v.2.2.1,.int .i64 v.2.2.2.1,.int .i64 v.2.2.2.2.1,.bool v.2.2.2.2.2.1,.slice ra rn rc,.slice la ln lc,.slice xa xn xc],.string (bs x),.bool f] W3 fun e w'=>(∃ (v':aa) (ra':Option Addr) (rn' rc':Nat) (la':Option Addr) (ln' lc':Nat) (xa':Option Addr) (xn' xc':Nat),e= .returned (.tuple #[.agg #[.string (bs v'.1),.string (bs v'.2.1),.int .i64 v'.2.2.1,.int .i64 v'.2.2.2.1,.int .i64 v'.2.2.2.2.1,.bool v'.2.2.2.2.2.1,.slice ra' rn' rc',.slice la' ln' lc',.slice xa' xn' xc'],.bool false]))/\uc W3 w' (aK (.slice ra rn rc) (.slice la ln lc) (.slice xa xn xc) L) e none:=fun W3 hk f hf=>by
     refine (hcall W3 hk f).mono fun e w' hlin=> ?_
     rw[hf,hr] at hlin
     rcases hlin.2 with ⟨_,v',ra',rn',rc',la',ln',lc',xa',xn',xc',he⟩ | ⟨a',h1,_⟩
     ·exact⟨⟨v',ra',rn',rc',la',ln',lc',xa',xn',xc',he⟩,hlin⟩
     ·cases h1
    clear hP hcall hr hcs hcut k1 k2 k3 hrest hcl hbd
    go_wp2_with (first | (go_at_fn 14;refine hct.mono ?_;rintro e W3 ⟨rfl,hk3⟩;have hbx3:=(hk3.block _ (aj hbx)).trans hbx;obtain⟨⟨c0,c1,c2,c3,c4,c5,c6,c7,c8⟩,_⟩:=ak hbx3;have hb3:=(hk3.block _ (aj hb4)).trans hb4;have hc15:=hcall2 W3 hk3) | (go_at_fn 15;refine (hc15 _ (Fa i)).mono ?_;rintro e W4 ⟨⟨v',ra',rn',rc',la',ln',lc',xa',xn',xc',rfl⟩,hlin⟩;have hb5:=(hlin.1.keep _ (aj hb3) hNx).trans hb3;have hb6:=(heap_alloc_old W4 (.cells #[.string (bs v'.1),.string (bs v'.2.1),.int .i64 v'.2.2.1,.int .i64 v'.2.2.2.1,.int .i64 v'.2.2.2.2.1,.bool v'.2.2.2.2.2.1,.slice ra' rn' rc',.slice la' ln' lc',.slice xa' xn' xc'] 26) (aj hb5)).trans hb5;obtain⟨⟨q0,q1,q2,q3,q4,q5,q6,q7,q8⟩,qf⟩:=ak hb6;have f0:=qf 0;have f1:=qf 1;have f2:=qf 2;have f3:=qf 3;have f4:=qf 4;have f5:=qf 5;have f6:=qf 6;have f7:=qf 7;have f8:=qf 8))
    obtain⟨s1,s2,s3,s4,s5⟩:=iZ (.string ⟨#[]⟩) (.string ⟨#[]⟩) (.int .i64 0) (.int .i64 0) (.int .i64 0) (.bool false) (.slice none 0 0) (.slice none 0 0) (.slice none 0 0) hb6
    have hn:=bH W4 (.cells #[.string (bs v'.1),.string (bs v'.2.1),.int .i64 v'.2.2.1,.int .i64 v'.2.2.2.1,.int .i64 v'.2.2.2.2.1,.bool v'.2.2.2.2.2.1,.slice ra' rn' rc',.slice la' ln' lc',.slice xa' xn' xc'] 26)
    refine bodyPost_ret (gQ (p:=2) (q:=3) (r:=4) (ty:=26) (b:=w.heap.size) (v:= .agg eF) (by kernel_rfl) _ _ _ (by rfl) (nk s1)) rfl ⟨HI.out.fin (abf hk3.size (abf hlin.1.size hn.2.size)) (hn.2.os.trans (hlin.1.os.trans hk3.os)) (hn.2.output.trans (hlin.1.output.trans hk3.output)) (fun b hb=>Vs HI.out hk3 hlin hn.2 hb) s2 s3 s4 s5,.inl ⟨i+1,HPG.out,by rfl⟩⟩
   | some v'=>
    have hcall2:∀ W3,Kept wr W3->∀ f:Bool,f=(i+1==1)->Calls Tryz.prog 15 #[.agg #[.string (bs v.1),.string (bs v.2.1),.int .i64 v.2.2.1,.int .i64 v.2.2.2.1,.int .i64 v.2.2.2.2.1,.bool v.2.2.2.2.2.1,.slice ra rn rc,.slice la ln lc,.slice xa xn xc],.string (bs x),.bool f] W3 fun e w'=>(∃ (ra':Option Addr) (rn' rc':Nat) (la':Option Addr) (ln' lc':Nat) (xa':Option Addr) (xn' xc':Nat) (L':List (ai×Value)),e= .returned (.tuple #[.agg #[.string (bs v'.1),.string (bs v'.2.1),.int .i64 v'.2.2.1,.int .i64 v'.2.2.2.1,.int .i64 v'.2.2.2.2.1,.bool v'.2.2.2.2.2.1,.slice ra' rn' rc',.slice la' ln' lc',.slice xa' xn' xc'],.bool true])/\RV w' v' (.slice ra' rn' rc') (.slice la' ln' lc') (.slice xa' xn' xc') L'/\∀ b∈aK (.slice ra' rn' rc') (.slice la' ln' lc') (.slice xa' xn' xc') L',b∈aK (.slice ra rn rc) (.slice la ln lc) (.slice xa xn xc) L\/W3.heap.size<=b)/\uc W3 w' (aK (.slice ra rn rc) (.slice la ln lc) (.slice xa xn xc) L) e (some v'):=fun W3 hk f hf=>by
     refine (hcall W3 hk f).mono fun e w' hlin=> ?_
     rw[hf,hr] at hlin
     rcases hlin.2 with ⟨h1,_⟩ | ⟨a'',h1,ra',rn',rc',la',ln',lc',xa',xn',xc',L',he,hh⟩
     ·cases h1
     ·cases h1
      exact⟨⟨ra',rn',rc',la',ln',lc',xa',xn',xc',L',he,hh⟩,hlin⟩
    have HR:Aside _:=hr
    clear hcall hr hcs hcut k1 k2 k3 hcl hbd
    cases ok with
    | false=>
     have HPG:Aside _:=hP
     clear hP hrest
     go_wp2_with (first | (go_at_fn 14;refine hct.mono ?_;rintro e W3 ⟨rfl,hk3⟩;have hbx3:=(hk3.block _ (aj hbx)).trans hbx;obtain⟨⟨c0,c1,c2,c3,c4,c5,c6,c7,c8⟩,_⟩:=ak hbx3;have hb3:=(hk3.block _ (aj hb4)).trans hb4;have hc15:=hcall2 W3 hk3) | (go_at_fn 15;refine (hc15 _ (Fa i)).mono ?_;rintro e W4 ⟨⟨ra',rn',rc',la',ln',lc',xa',xn',xc',L',rfl,hV4,hB4⟩,hlin⟩;have hb5:=(hlin.1.keep _ (aj hb3) hNx).trans hb3;have hb6:=(heap_alloc_old W4 (.cells #[.string (bs v'.1),.string (bs v'.2.1),.int .i64 v'.2.2.1,.int .i64 v'.2.2.2.1,.int .i64 v'.2.2.2.2.1,.bool v'.2.2.2.2.2.1,.slice ra' rn' rc',.slice la' ln' lc',.slice xa' xn' xc'] 26) (aj hb5)).trans hb5;obtain⟨⟨q0,q1,q2,q3,q4,q5,q6,q7,q8⟩,qf⟩:=ak hb6;have f0:=qf 0;have f1:=qf 1;have f2:=qf 2;have f3:=qf 3;have f4:=qf 4;have f5:=qf 5;have f6:=qf 6;have f7:=qf 7;have f8:=qf 8))
     obtain⟨s1,s2,s3,s4,s5⟩:=iZ (.string ⟨#[]⟩) (.string ⟨#[]⟩) (.int .i64 0) (.int .i64 0) (.int .i64 0) (.bool false) (.slice none 0 0) (.slice none 0 0) (.slice none 0 0) hb6
     have hn:=bH W4 (.cells #[.string (bs v'.1),.string (bs v'.2.1),.int .i64 v'.2.2.1,.int .i64 v'.2.2.2.1,.int .i64 v'.2.2.2.2.1,.bool v'.2.2.2.2.2.1,.slice ra' rn' rc',.slice la' ln' lc',.slice xa' xn' xc'] 26)
     refine bodyPost_ret (gQ (p:=2) (q:=3) (r:=4) (ty:=26) (b:=w.heap.size) (v:= .agg eF) (by kernel_rfl) _ _ _ (by rfl) (nk s1)) rfl ⟨HI.out.fin (abf hk3.size (abf hlin.1.size hn.2.size)) (hn.2.os.trans (hlin.1.os.trans hk3.os)) (hn.2.output.trans (hlin.1.output.trans hk3.output)) (fun b hb=>Vs HI.out hk3 hlin hn.2 hb) s2 s3 s4 s5,.inl ⟨i+1,HPG.out,by rfl⟩⟩
    | true=>
     have HPG:Aside _:=hP
     have hyl:=hrest rfl
     have HYL:Aside _:=hyl
     clear hP hrest hyl
     go_wp2_with (first | (go_at_fn 14;refine hct.mono ?_;rintro e W3 ⟨rfl,hk3⟩;have hbx3:=(hk3.block _ (aj hbx)).trans hbx;obtain⟨⟨c0,c1,c2,c3,c4,c5,c6,c7,c8⟩,_⟩:=ak hbx3;have hb3:=(hk3.block _ (aj hb4)).trans hb4;have hc15:=hcall2 W3 hk3) | (go_at_fn 15;refine (hc15 _ (Fa i)).mono ?_;rintro e W4 ⟨⟨ra',rn',rc',la',ln',lc',xa',xn',xc',L',rfl,hV4,hB4⟩,hlin⟩;have hb5:=(hlin.1.keep _ (aj hbx3) hbx1).trans hbx3;have hb6:=(heap_alloc_old W4 (.cells #[.string (bs v'.1),.string (bs v'.2.1),.int .i64 v'.2.2.1,.int .i64 v'.2.2.2.1,.int .i64 v'.2.2.2.2.1,.bool v'.2.2.2.2.2.1,.slice ra' rn' rc',.slice la' ln' lc',.slice xa' xn' xc'] 26) (aj hb5)).trans hb5;obtain⟨⟨q0,q1,q2,q3,q4,q5,q6,q7,q8⟩,qf⟩:=ak hb6;have f0:=qf 0;have f1:=qf 1;have f2:=qf 2;have f3:=qf 3;have f4:=qf 4;have f5:=qf 5;have f6:=qf 6;have f7:=qf 7;have f8:=qf 8;have hnw:=(bH W4 (.cells #[.string (bs v'.1),.string (bs v'.2.1),.int .i64 v'.2.2.1,.int .i64 v'.2.2.2.1,.int .i64 v'.2.2.2.2.1,.bool v'.2.2.2.2.2.1,.slice ra' rn' rc',.slice la' ln' lc',.slice xa' xn' xc'] 26)).1;obtain⟨⟨z0,z1,z2,z3,z4,z5,z6,z7,z8⟩,_⟩:=ak hnw))
     obtain⟨s1,s2,s3,s4,s5⟩:=iZ (.string (bs v'.1)) (.string (bs v'.2.1)) (.int .i64 v'.2.2.1) (.int .i64 v'.2.2.2.1) (.int .i64 v'.2.2.2.2.1) (.bool v'.2.2.2.2.2.1) (.slice ra' rn' rc') (.slice la' ln' lc') (.slice xa' xn' xc') hb6
     have hn:=bH W4 (.cells #[.string (bs v'.1),.string (bs v'.2.1),.int .i64 v'.2.2.1,.int .i64 v'.2.2.2.1,.int .i64 v'.2.2.2.2.1,.bool v'.2.2.2.2.2.1,.slice ra' rn' rc',.slice la' ln' lc',.slice xa' xn' xc'] 26)
     have HI3:=HI.out.kept hk3
     have HN9:Aside _:=HI3.next HR.out hlin.1 hV4 hB4 (fun k hk hlt=>(s2 k hk).trans (hn.2.block k hlt)) s1 (by rw[s3];exact hn.2.size) (s4.trans hn.2.os) (s5.trans hn.2.output)
     go_roundg y.length
     case measure=>have:=HYL.out;omega
     case rel=>
      have:=HYL.out
      exact⟨i+1,y,v',ra',rn',rc',la',ln',lc',xa',xn',xc',L',f',by rfl,by go_num,abd _,by omega,by omega,HN9.out,HPG.out⟩
end Go.Proofs.SeatU
set_option maxRecDepth 100000
namespace Go.Proofs.SeatU
open Go.Dn Go.Md Go.Proofs Go.RowKit Go.Shelf Go.Lib
def OD (G:Gh) (w:World) (a:aa) (n f:Int) (e:Ending) (w':World):Prop:=
 ∃ vr vl ve,e= .returned (.tuple #[.agg (iJ a vr vl ve).toArray,.int .i64 n,.int .i64 f])/\Kept w w'/\zV (frz w.heap.size G w') a vr vl ve
theorem qE {G:Gh} {w w':World} {n f:Int} {e:Ending} (he:e= .returned (.tuple #[.agg eF,.int .i64 n,.int .i64 f])) (hk:Kept w w'):OD G w zI n f e w':=
 ⟨.slice none 0 0,.slice none 0 0,.slice none 0 0,he,hk,⟨none,0,rfl,abd _,by decide,.inl rfl⟩,⟨none,0,rfl,abd _,by decide,.inl rfl⟩,⟨none,0,rfl,abd _,by decide,.inl rfl⟩⟩
theorem Rv {G:Gh} {w:World} (t:List UInt8) (a:aa) (n f:Int) (hG:Agr G w) (hT:bF Tryz.prog G) (hm:uE t=some (a,n,f,())):Calls Tryz.prog 5 #[.string (bs t)] w fun e w'=>OD G w a n f e w':=by
 unfold uE at hm
 by_cases hl:(300000:Int)<(t.length:Int)
 ·rw[abO hl,abL] at hm
  cases hm
  exact (TP w t hl).mono fun e w' ⟨h1,h2⟩=>qE h1 h2
 ·rw[abN hl,abK] at hm
  obtain⟨Ls,e0,hL,_,_,h1,h2,_⟩:=F9 t (by omega)
  rw[hL,abx] at hm
  dsimp only at hm
  cases hLs:Ls.isEmpty with
  | true=>
   have:Ls=[]:=by simpa using hLs
   subst this
   rw[hLs,abL] at hm
   cases hm
   exact (Vn G w t e0 hG hT hl hL).mono fun e w' ⟨h1,h2⟩=>qE h1 h2
  | false=>
   rw[hLs,abK] at hm
   have hne:Ls≠[]:=fun h=>by rw[h] at hLs;cases hLs
   obtain⟨o,ho⟩:∃ o,wR e0 Ls 0 zI=o:=⟨_,rfl⟩
   rw[ho] at hm
   cases o with
   | inr k=>
    dsimp only at hm
    cases hm
    refine (NC G w t Ls e0 0 hG hT hl hL hne (by omega) h2 (fun a ha=>by rw[ho] at ha;cases ha)).mono ?_
    rintro e w' ⟨hk,⟨k',hk',he⟩ | ⟨a,ha,_⟩⟩
    ·rw[ho] at hk';cases hk'
     exact qE he hk
    ·rw[ho] at ha;cases ha
   | inl b=>
    dsimp only at hm
    cases hq:gj b with
    | none=>rw[hq] at hm;cases hm
    | some q=>
     obtain⟨q,u⟩:=q
     rw[hq,abx] at hm
     dsimp only at hm
     refine (NC G w t Ls e0 q hG hT hl hL hne (by omega) h2 (fun a ha=>by rw[ho] at ha;cases ha;exact hq)).mono ?_
     rintro e w' ⟨hk,⟨k',hk',he⟩ | ⟨a',ha,hh⟩⟩
     ·rw[ho] at hk';cases hk'
     ·rw[ho] at ha;cases ha
      rcases hh with ⟨hq0,he⟩ | ⟨hq0,vr,vl,ve,he,hv⟩
      ·have hb:(q != 0)=true:=by simpa using hq0
       rw[hb,abL] at hm
       cases hm
       exact qE he hk
      ·subst hq0
       have hm:some (b,(0:Int),(0:Int),())=some (a,n,f,()):=hm
       cases hm
       exact⟨vr,vl,ve,he,hk,hv⟩
theorem RL {G:Gh} {w:World} (t:List UInt8) (a:aa) (n f:Int) (hG:Agr G w) (hT:bF Tryz.prog G) (hm:wU t=some (a,n,f,())):Calls Tryz.prog 6 #[.string (bs t)] w fun e w'=>OD G w a n f e w':=by
 unfold wU at hm
 by_cases hl:(300000:Int)<(t.length:Int)
 ·rw[abO hl,abL] at hm
  cases hm
  exact (RN w t hl).mono fun e w' ⟨h1,h2⟩=>qE h1 h2
 ·rw[abN hl,abK] at hm
  by_cases ht:t=[]
  ·subst ht
   cases hm
   exact (TV w).mono fun e w' ⟨h1,h2⟩=>qE h1 h2
  ·have htb:(t==[])=false:=by
    cases t with
    | nil=>exact absurd rfl ht
    | cons x y=>rfl
   rw[htb,abK] at hm
   obtain⟨o,ho⟩:∃ o,yU t.length t 1 zI=o:=⟨_,rfl⟩
   rw[ho] at hm
   cases o with
   | inr k=>
    dsimp only at hm
    cases hm
    refine (Lf G w t 0 hG hT hl ht (fun a ha=>by rw[ho] at ha;cases ha)).mono ?_
    rintro e w' ⟨hk,⟨k',hk',he⟩ | ⟨a,ha,_⟩⟩
    ·rw[ho] at hk';cases hk'
     exact qE he hk
    ·rw[ho] at ha;cases ha
   | inl b=>
    dsimp only at hm
    cases hq:gX b with
    | none=>rw[hq] at hm;cases hm
    | some q=>
     obtain⟨q,u⟩:=q
     rw[hq,abx] at hm
     dsimp only at hm
     refine (Lf G w t q hG hT hl ht (fun a ha=>by rw[ho] at ha;cases ha;exact hq)).mono ?_
     rintro e w' ⟨hk,⟨k',hk',he⟩ | ⟨a',ha,hh⟩⟩
     ·rw[ho] at hk';cases hk'
     ·rw[ho] at ha;cases ha
      rcases hh with ⟨hq0,he⟩ | ⟨hq0,vr,vl,ve,he,hv⟩
      ·have hb:(q != 0)=true:=by simpa using hq0
       rw[hb,abL] at hm
       cases hm
       exact qE he hk
      ·subst hq0
       have hm:some (b,(0:Int),(0:Int),())=some (a,n,f,()):=hm
       cases hm
       exact⟨vr,vl,ve,he,hk,hv⟩
theorem Iz {P:Program} {f:FuncId} {m:List UInt8->Option (aa×Int×Int×Unit)} (h:∀ {G:Gh} {w:World} (t:List UInt8) (a:aa) (n k:Int),Agr G w->bF P G->m t=some (a,n,k,())->Calls P f #[.string (bs t)] w fun e w'=>OD G w a n k e w'): cZ P f ⟨[.val .str],[.val dH,.val tI,.val tI],fun x=>m x.1⟩:=by
 intro G w ow args x y hG how ha hm hT
 obtain⟨t,u⟩:=x
 obtain⟨a,n,k,u'⟩:=y
 obtain⟨v,us,h1,_,hv,h3⟩:=ha
 have e1:=h1 rfl
 have e3:us=[]:=h3
 subst e1;subst e3
 have e0:[v]=[Value.string (bs t)]:=hv
 cases e0
 refine (h t a n k hG hT hm).mono ?_
 rintro e w' ⟨vr,vl,ve,he,hk,hr⟩
 refine⟨frz w.heap.size G w',fun _=>none,[.agg (iJ a vr vl ve).toArray,.int .i64 n,.int .i64 k], ?_⟩
 exact {
  ret:=he
  le:=PC hG (abd _)
  agr:=Mp fun b hb o ho=>(hk.block b hb).trans (hG b o ho)
  size:=hk.size
  os:=hk.os
  output:=hk.output
  old:=fun i hlt _=>⟨hk.block i hlt,by simp only[frz,abY hlt]⟩
  own:=fun i j hij=>by cases hij
  out:=⟨_,_,rfl,Jz hr,_,_,rfl,rfl,_,_,rfl,rfl,rfl,trivial⟩
  hnd:=fun _=>rfl }
noncomputable def GK:ax:=⟨[.val .str],[.val dH,.val tI,.val tI],fun x=>uE x.1⟩
theorem PG:eY Tryz.prog 5:=kX (fn:=Tryz.f5) (by kernel_rfl) rfl (by decide)
theorem P8:cZ Tryz.prog 5 GK:=Iz fun t a n k hG hT hm=>Rv t a n k hG hT hm
noncomputable def IK:ax:=⟨[.val .str],[.val dH,.val tI,.val tI],fun x=>wU x.1⟩
theorem Rk:eY Tryz.prog 6:=kX (fn:=Tryz.f6) (by kernel_rfl) rfl (by decide)
theorem Rs:cZ Tryz.prog 6 IK:=Iz fun t a n k hG hT hm=>RL t a n k hG hT hm
end Go.Proofs.SeatU
