/-
  whole.trimmed at a row of its own, by a walk. No condition.
-/
import Derived.Test.YtjlkkapojeldlabGreatDoorYw
import Derived.Deep.LoopGhost
import Derived.Test.YtjlkkapojeldlabGreatDoorYp
set_option linter.all false
set_option maxRecDepth 100000
namespace Go.Proofs.SeatU
open Go.Dn Go.Md Go.Proofs Go.RowKit Go.Shelf Go.Lib
theorem TL:∀ l:List Int,(trim l).length<=l.length/\trim l=l.take (trim l).length
 | []=>⟨afq _,rfl⟩
 | d::r=>by
  obtain⟨h1,h2⟩:=TL r
  unfold trim
  split
  ·rename_i he
   by_cases hd:d=0
   ·rw[af9 hd];exact⟨afI _,rfl⟩
   ·rw[af8 hd];exact⟨by simp,by simp⟩
  ·refine⟨by simp only[aez];omega, ?_⟩
   rw[aez,afe, <- h2]
theorem ZK {l:List Int} {n:Nat} (hn:n+1<=l.length) (h:trim (l.take (n+1))=trim l) (h0:l[n]? =some 0):trim (l.take n)=trim l:=by
 rw[<- h,List.take_add_one,h0]
 exact (sN _).symm
theorem TK:∀ {l:List Int} {x:Int},x≠0->trim (l++[x])=l++[x]
 | [],x,h=>by simp[trim,h]
 | d::r,x,h=>by
  rw[adV,trim,TK (l:=r) h]
  cases r<;>rfl
theorem ZJ {l:List Int} {n:Nat} {x:Int} (h:trim (l.take (n+1))=trim l) (h0:l[n]? =some x) (hx:x≠0):trim l=l.take (n+1):=by
 rw[<- h,List.take_add_one,h0]
 exact TK hx
theorem ZI (cap:Nat) (w:World):Calls Tryz.prog 144 #[.slice none 0 cap] w fun e w'=>e= .returned (.slice none 0 cap)/\w'=w:=by
 have mixed:Tryz.prog.follows .mixedOrders=true:=by kernel_rfl
 have t3:=Tryz.underlying3;have t4:=Tryz.underlying4;have t145:=Tryz.underlying145;have t181:=Tryz.underlying181
 have a181:=Tryz.isAgg181;have z181:=Tryz.sizeOf181;have z145:=Tryz.sizeOf145
 go_enter Tryz.func144,Tryz.ntmps144
 go_wp2
 go_loopg [0] 0 (fun g s0 wr=>s0= .slice none 0 cap/\wr=w)
 case atStart=>exact⟨rfl,rfl⟩
 case round=>
  obtain⟨rfl,rfl⟩:=hrel
  go_wp2
  go_ret
  exact⟨rfl,rfl⟩
theorem ZL (b cap:Nat) (l:List Int) (w:World) (hc:∀ (i:Nat) (x:Int),l[i]? =some x->w.cell? ⟨b,i,none⟩=some (.int .u32 x)) (hl:l.length<=cap) (hcap:cap<=9223372036854775807): Calls Tryz.prog 144 #[.slice (some ⟨b,0,none⟩) l.length cap] w fun e w'=>e= .returned (.slice (some ⟨b,0,none⟩) (trim l).length cap)/\w'=w:=by
 have mixed:Tryz.prog.follows .mixedOrders=true:=by kernel_rfl
 have t3:=Tryz.underlying3;have t4:=Tryz.underlying4;have t145:=Tryz.underlying145;have t181:=Tryz.underlying181
 have a181:=Tryz.isAgg181;have z181:=Tryz.sizeOf181;have z145:=Tryz.sizeOf145
 have HC:Aside _:=hc
 clear hc
 go_enter Tryz.func144,Tryz.ntmps144
 go_wp2
 go_loopg [0] l.length (fun g s0 wr=>∃ n:Nat,s0= .slice (some ⟨b,0,none⟩) n cap/\n<=l.length/\n<=g/\Aside (trim (l.take n)=trim l)/\wr=w)
 case atStart=>exact⟨l.length,rfl,afq _,afq _,by rw[afc];trivial,rfl⟩
 case round=>
  obtain⟨n,rfl,hn,hg,HT,rfl⟩:=hrel
  cases n with
  | zero=>
   have he:(trim l).length=0:=by rw[<- HT.out];rfl
   go_wp2
   go_ret
   exact⟨by rw[he];rfl,rfl⟩
  | succ n=>
   have hlt:n<l.length:=by omega
   obtain⟨x,hx⟩:∃ x,l[n]? =some x:=⟨_,ael hlt⟩
   have c0:=HC.out n x hx
   by_cases h0:x=0
   ·subst h0
    go_wp2
    go_roundg n
    case measure=>omega
    case rel=>exact⟨n,by simp,by omega,afq _,ZK (by omega) HT.out hx,rfl⟩
   ·have he:(trim l).length=n+1:=by rw[ZJ HT.out hx h0,aeH];omega
    go_wp2
    go_ret
    exact⟨by rw[he];rfl,rfl⟩
noncomputable def zU:an:=⟨[.row 181 (.int .u32)],[.row 181 (.int .u32)],fun x=>iN x.1⟩
theorem Iu:dZ Tryz.prog 144:=LQ
theorem KO {G:Gh}:∀ (l:List Int) (xs:List Value) (k:Nat),bQ (ax G (.int .u32)) l xs->bQ (ax G (.int .u32)) (l.take k) (xs.take k)
 | [],xs,k,h=>by
  have:xs=[]:=h
  subst this;cases k<;>exact h
 | x::r,xs,0,h=>rfl
 | x::r,xs,k+1,h=>by
  obtain⟨a,b,rfl,h1,h2⟩:=h
  have h1':a=[.int .u32 x]:=h1
  subst h1'
  exact⟨[.int .u32 x],b.take k,rfl,rfl,KO r b k h2⟩
theorem NF {G:Gh}:∀ (l:List Int) (xs:List Value),bQ (ax G (.int .u32)) l xs->xs=l.map (Value.int .u32)
 | [],xs,h=>h
 | x::r,xs,h=>by
  obtain⟨a,b,rfl,h1,h2⟩:=h
  have h1':a=[.int .u32 x]:=h1
  subst h1'
  rw[NF r b h2];rfl
theorem XP {G:Gh} {w:World} {ow:Nat->Option Nat} (l r:List Int) (v:Value) (u':dK [.row 181 (.int .u32)]) (hG:Agr G w) (how:∀ b i,ow b=some i->G b=none/\b<w.heap.size) (hv:l6 G w 181 (.int .u32) l v) (how1:∀ b,v.ownBlock=some b->ow b=some (64*0)) (hm:iN l=some (r,u')): Calls Tryz.prog 144 #[v] w fun e w'=>∃ G' ow' vs,Jt G w ow ⟨[.row 181 (.int .u32)],[.row 181 (.int .u32)],fun x=>iN x.1⟩ [v] (r,u') e w' G' ow' vs:=by
 obtain⟨xs,hold,hrep⟩:=hv
 unfold iN at hm
 by_cases hl:l.length<=1000000
 rotate_left
 ·rw[afZ hl] at hm;cases hm
 rw[af0 hl] at hm
 have hr:trim l=r:=congrArg (fun o=>(Option.getD o ([],())).1) hm
 obtain⟨hk1,hk2⟩:=TL l
 have hxs:=NF l xs hrep
 have hold:w.ownsRow 0 181 1 v l.length xs:=hold
 have hcall:∃ v',(Calls Tryz.prog 144 #[v] w fun e w'=>e= .returned v'/\w'=w)/\w.ownsRow 0 181 1 v' (trim l).length (xs.take (trim l).length)/\(∀ b,v'.ownBlock=some b->v.ownBlock=some b):=by
  obtain⟨hlen,h⟩:=hold
  have hlt:(xs.take (trim l).length).length=(trim l).length*1:=by rw[aeH];omega
  rcases h with ⟨rfl,h0⟩ | ⟨b,cap,cur,rfl,hb0,hb,hcap,qJ,hsz,htk⟩
  ·have hl0:l=[]:=ad8 h0
   subst hl0
   refine⟨_,ZI 0 w,⟨hlt,.inl ⟨rfl,rfl⟩⟩,fun b hb=>hb⟩
  ·refine⟨_,ZL b cap l w (fun i z hi=> ?_) hcap qJ,⟨hlt,.inr ⟨b,cap,cur,rfl,hb0,hb,by omega,qJ,hsz, ?_⟩⟩,fun b hb=>hb⟩
   ·have hil:=(aen.1 hi).1
    have e:=congrArg (fun q:List Value=>q[i]?) htk
    rw[hxs,aeu (by omega),aeo,hi] at e
    simp only[World.cell?,hb]
    simpa using e
   ·rw[<- htk,aff];congr 1;omega
 obtain⟨v',hc,ho,hb'⟩:=hcall
 refine hc.mono ?_
 rintro e w' ⟨rfl,rfl⟩
 refine⟨G,fun b=>if v'.ownBlock=some b then some (64*24) else none,[v'], ?_⟩
 exact {
  ret:=rfl
  le:=Gh.le_refl G
  agr:=hG
  size:=afq _
  os:=rfl
  output:=rfl
  old:=fun b hlt _=>⟨rfl,rfl⟩
  own:=fun b i hb=>by
   have hb:(if v'.ownBlock=some b then some (64*24) else none)=some i:=hb
   by_cases h:v'.ownBlock=some b
   ·have h2:=how1 b (hb' b h)
    exact⟨(how b _ h2).1,(how b _ h2).2,.inr (by rw[h2];simp)⟩
   ·rw[af8 h] at hb;cases hb
  out:=by
   subst hr
   refine⟨v',[],rfl,⟨⟨xs.take (trim l).length,ho, ?_⟩,fun b hb=>af9 hb⟩,rfl,trivial⟩
   have h:=KO l xs (trim l).length hrep
   have h2:∀ m:List Int,l.take (trim l).length=m->bQ (ax G (.int .u32)) m (xs.take (trim l).length):=fun m e=>e ▸ h
   exact h2 _ hk2.symm
  hnd:=fun _=>rfl }
theorem IQ:cM Tryz.prog 144 zU:=by
 intro G w ow args x y hG how ha hm hT
 obtain⟨l,u⟩:=x
 obtain⟨r,u'⟩:=y
 obtain⟨v,us,h1,l1,⟨hv,how1⟩,h3⟩:=ha
 have e1:=h1 rfl
 have e3:us=[]:=h3
 subst e1;subst e3
 exact XP l r v u' hG how hv how1 hm
end Go.Proofs.SeatU
