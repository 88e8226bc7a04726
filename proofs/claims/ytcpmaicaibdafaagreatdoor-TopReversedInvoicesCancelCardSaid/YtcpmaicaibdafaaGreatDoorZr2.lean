/-
  Plain facts: the gross and the net of a line. No condition.
-/
import Derived.Test.YtcpmaicaibdafaaGreatDoorZr
set_option linter.all false
namespace Go.Md
open Go.Dn
abbrev MU:Int:=1000000000000000
def wJ (v:ah) (x:au):Int:=
 rnd v.2.2.2.2.1 (x.2.2.2.1.1*x.2.2.2.2.2.1.1*10 ^ v.2.2.2.1.toNat) (10 ^ (x.2.2.2.1.2+x.2.2.2.2.2.1.2).toNat*x.2.2.2.2.2.2.1.toNat)
theorem Le.dec {d:ai} (h:cA d):Le 15 d.1:=by
 have:=h.1
 unfold Le;omega
theorem Le.i1 {n:Int} (h1: -9223372036854775808≤n) (h2:n≤9223372036854775807):n.natAbs<4294967296 ^ 99:=(Le.int h1 h2).w (by omega)
theorem Ta (k:Nat):((10 ^ k:Nat):Int)=10 ^ k:=by simp
theorem XA {v:ah} {x:au} (hv:ni v) (hx:yf v.2.2.2.1 v.2.2.2.2.2.2.1 x):Le 34 (x.2.2.2.1.1*x.2.2.2.2.2.1.1*10 ^ v.2.2.2.1.toNat):=
 ((Le.dec hx.q).mul (Le.dec hx.p)).mul ((Le.pow v.2.2.2.1.toNat).mono (by have:=hv.pl;omega:_≤4))
theorem Vh {v:ah} {x:au} (hx:yf v.2.2.2.1 v.2.2.2.2.2.2.1 x):0<10 ^ (x.2.2.2.1.2+x.2.2.2.2.2.1.2).toNat*x.2.2.2.2.2.2.1.toNat∧Le 12 ((10 ^ (x.2.2.2.1.2+x.2.2.2.2.2.1.2).toNat*x.2.2.2.2.2.2.1.toNat:Nat):Int):=by
 have h1:=hx.qp;have h2:=hx.pp;have h3:=hx.per
 refine⟨Nat.mul_pos (Nat.pow_pos (by omega)) (by omega), ?_⟩
 have:Le (7+5) (((10 ^ (x.2.2.2.1.2+x.2.2.2.2.2.1.2).toNat:Nat):Int)*((x.2.2.2.2.2.2.1.toNat:Nat):Int)):=Le.mul (by rw[Ta];exact (Le.pow _).mono (by omega)) (Le.nat (by omega))
 rw[← ag4] at this
 exact this
theorem Di {n:Int} (h0:0≤n) (h1:n≤60):qy n=some (W (10 ^ n.toNat),()):=by
 obtain⟨m,rfl⟩:∃ m:Nat,n=m:=⟨n.toNat,by omega⟩
 exact KF m (by omega)
theorem CG (z:Int):kI (W z)=some (decide (z.natAbs≤MU),()):=by
 unfold kI
 rw[wq z _ (by omega) (by omega),ajb]
 by_cases h:(z.natAbs:Int)≤1000000000000000
 ·rw[ajz h,ajr h]
 ·rw[ajy h,ajq h]
theorem VW {v:ah} {x:au} (hv:ni v) (hx:yf v.2.2.2.1 v.2.2.2.2.2.2.1 x):FC v x=some (W (wJ v x),decide ((wJ v x).natAbs≤MU),()):=by
 have hq:=hx.q.1;have hp:=hx.p.1;have hper:=hx.per;have hpl:=hv.pl;have h1:=hx.qp;have h2:=hx.pp;have h3:=hx.q.2.1;have h4:=hx.p.2.1
 have hL:=XA hv hx
 have hD:=Vh hx
 unfold FC
 rw[di _ (by omega) (by omega),ajb,di _ (by omega) (by omega),ajb]
 dsimp only
 rw[dB _ _ ((Le.dec hx.q).w (by omega)) ((Le.dec hx.p).w (by omega)),ajb,Di (by omega) (by omega),ajb]
 dsimp only
 rw[dB _ _ (((Le.dec hx.q).mul (Le.dec hx.p)).w (by omega)) ((Le.pow _).w (by omega)),ajb,aC (by omega) (by omega),Di (by omega) (by omega),ajb,di _ (by omega) (by omega),ajb]
 dsimp only
 rw[dB _ _ ((Le.pow _).w (by omega)) (Le.i1 (by omega) (by omega)),ajb]
 have e:(10:Int) ^ (x.2.2.2.1.2+x.2.2.2.2.2.1.2).toNat*x.2.2.2.2.2.2.1=((10 ^ (x.2.2.2.1.2+x.2.2.2.2.2.1.2).toNat*x.2.2.2.2.2.2.1.toNat:Nat):Int):=by
  rw[ag4,Ta,Int.toNat_of_nonneg (by omega)]
 dsimp only
 rw[e,Fs _ _ _ hD.1 (hL.mono (by omega)) (hD.2.mono (by omega)),ajb]
 dsimp only
 rw[CG,ajb]
 rfl
def sY (way n:Int) (d:ai):Int:=rnd way (n*d.1) (100*10 ^ d.2.toNat)
theorem X9 (d:ai) (h:cA d):0<100*10 ^ d.2.toNat∧Le 11 ((100*10 ^ d.2.toNat:Nat):Int):=by
 refine⟨Nat.mul_pos (by omega) (Nat.pow_pos (by omega)), ?_⟩
 have:=h.2.2
 have h2:Le (2+9) ((100:Int)*((10 ^ d.2.toNat:Nat):Int)):=Le.mul (by unfold Le;decide) (by rw[Ta];exact (Le.pow _).mono (by omega))
 rw[show (100:Int)=((100:Nat):Int) from rfl, ← ag4] at h2
 exact h2
theorem UJ {way n:Int} {d:ai} {k:Nat} (hn:Le k n) (hd:cA d):Le (k+16) (sY way n d):=acX (k:=k+15) (hn.mul (Le.dec hd))
theorem CI (v:ah) (n:Int) (d:ai) (hd:cA d) (hn:Le 300 n):sB v (W n) d=some (W (sY v.2.2.2.2.1 n d),()):=by
 have h1:=hd.1;have h2:=hd.2
 have hD:=X9 d hd
 unfold sB
 rw[di _ (by omega) (by omega),ajb]
 dsimp only
 rw[dB _ _ (hn.w (by omega)) ((Le.dec hd).w (by omega)),ajb,di 100 (by omega) (by omega),ajb,Di (by omega) (by omega),ajb]
 dsimp only
 rw[dB _ _ (Le.i1 (by omega) (by omega)) ((Le.pow _).w (by omega)),ajb]
 dsimp only
 have e:(100:Int)*10 ^ d.2.toNat=((100*10 ^ d.2.toNat:Nat):Int):=by rw[ag4,Ta];rfl
 rw[e,Fs _ _ _ hD.1 ((hn.mul (Le.dec hd)).mono (by omega)) (hD.2.mono (by omega)),ajb]
 rfl
def iK (way pl g:Int) (x:ax):Int:=if x.1=true then sY way g x.2.1 else x.2.1.1*10 ^ (pl - x.2.1.2).toNat
end Go.Md
namespace Go.Md
open Go.Dn
def vO (am:ax→Int):List ax→Int→Option Int
 | [],n=>some n
 | x::r,n=>if (am x).natAbs≤MU∧(n+am x).natAbs≤MU then vO am r (n+am x) else none
def x2 (am:ax→Int) (l:List ax):Int:=(l.map am).sum
theorem Vx {am:ax→Int}:∀ {l:List ax} {n m:Int},vO am l n=some m→m=n+x2 am l
 | [],n,m,h=>by simp only[vO,Option.some.injEq] at h;simp[x2,h]
 | x::r,n,m,h=>by
  simp only[vO] at h
  split at h
  ·have:=Vx h
   simp only[x2,ah2,aiw] at this ⊢
   omega
  ·cases h
theorem Tb {am:ax→Int}:∀ {l:List ax} {n m:Int},n.natAbs≤MU→vO am l n=some m→m.natAbs≤MU
 | [],n,m,hn,h=>by simp only[vO,Option.some.injEq] at h;subst h;exact hn
 | x::r,n,m,hn,h=>by
  simp only[vO] at h
  split at h
  ·rename_i hc;exact Tb hc.2 h
  ·cases h
def Al (v:ah) (x:au):Option Int:=
 if (wJ v x).natAbs≤MU then vO (iK v.2.2.2.2.1 v.2.2.2.1 (wJ v x)) x.2.2.2.2.2.2.2.1 (wJ v x) else none
def adT (v:ah) (x:au):Int:=wJ v x+x2 (iK v.2.2.2.2.1 v.2.2.2.1 (wJ v x)) x.2.2.2.2.2.2.2.1
theorem Vy {v:ah} {x:au} {m:Int} (h:Al v x=some m):m=adT v x∧m.natAbs≤MU:=by
 unfold Al at h
 split at h
 ·rename_i hc;exact⟨Vx h,Tb hc h⟩
 ·cases h
theorem afq {way pl g:Int} {x:ax} {k:Nat} (hk:8≤k) (hpl:0≤pl∧pl≤4) (hx:Fw pl x) (hg:Le k g):Le (k+16) (iK way pl g x):=by
 unfold iK
 split
 ·exact UJ hg hx.dec
 ·have:=hx.dec.2
  exact ((Le.dec hx.dec).mul (Le.pow _)).mono (by omega)
theorem YR {v:ah} {x:au} (hv:ni v) (hx:yf v.2.2.2.1 v.2.2.2.2.2.2.1 x):KN v x=some (W (adT v x),(Al v x).isSome,()):=by
 have hpl:=hv.pl
 obtain⟨hl,hex⟩:=sJ hx.ext
 have hG:Le 35 (wJ v x):=acX (XA hv hx)
 unfold KN
 rw[VW hv hx,ajb]
 dsimp only
 unfold Al adT
 generalize x.2.2.2.2.2.2.2.1=l at*
 generalize wJ v x=g at*
 obtain⟨a,b,c,d,e,f,rt,ln,k⟩:=v
 dsimp only at*
 have key:∀ f',l.length<f'→iter f' ((decide (g.natAbs≤MU),l,(l.length:Int),(0:Int),a,b,c,d,e,f,rt,ln,k,false,([]:List Int),(W g).1,(W g).2,(W g).1,(W g).2,()):AF) Ek=
  some (Sum.inr (decide (g.natAbs≤MU)&&(vO (iK e d g) l g).isSome,false,[],(W (g+x2 (iK e d g) l)).1,(W (g+x2 (iK e d g) l)).2,())):=by
  intro f' hf
  refine bX (Inv:=fun i X=>∃ (ok:Bool) (n:Int),X=((ok,l,(l.length:Int),(i:Int),a,b,c,d,e,f,rt,ln,k,false,([]:List Int),(W g).1,(W g).2,(W n).1,(W n).2,()):AF)∧(ok&&(vO (iK e d g) (l.drop i) n).isSome)=(decide (g.natAbs≤MU)&&(vO (iK e d g) l g).isSome)∧n+x2 (iK e d g) (l.drop i)=g+x2 (iK e d g) l∧Le (52+i) n) l.length
   (fun r=>r=some (Sum.inr (decide (g.natAbs≤MU)&&(vO (iK e d g) l g).isSome,false,[],(W (g+x2 (iK e d g) l)).1,(W (g+x2 (iK e d g) l)).2,()))) ?_ ?_ f' 0 _ ⟨_,g,rfl,by simp,by simp,hG.mono (by omega)⟩ (by omega) (by omega)
  ·rintro i _ again hi ⟨ok,n,rfl,h1,h2,h3⟩ ih
   unfold Ek
   dsimp only
   have hy:l[i]? =some l[i]:=bu hi
   have hym:l[i]∈l:=ahR hi
   have hcons:=Wj hy
   generalize l[i]=y at hy hcons hym
   obtain⟨hyo,_,_⟩:=hex y hym
   have hd1:=hyo.dec.1;have hd2:=hyo.dec.2
   rw[hcons] at h1 h2
   have hA:=afq (way:=e) (by omega) hpl hyo hG
   have hmx:(if y.2.1.2>d then y.2.1.2 else d)=max d y.2.1.2:=by omega
   rw[aP (by omega),bQ,hy,ajb,hmx,vq _ _ (by omega) (by omega) (by omega) (by omega) (by omega),ajb]
   dsimp only
   have hjoin:∀ K,aT (β:=((aa×Bool×Unit) ⊕ (Bool×Bool×(List Int)×Bool×(List Int)×Unit))) (bif y.1 then Option.bind (sB (a,b,c,d,e,f,rt,ln,k) ((W g).1,(W g).2) y.2.1) fun r4=>some (Sum.inr (ok,l,(l.length:Int),(i:Int),a,b,c,d,e,f,rt,ln,k,false,([]:List Int),(W g).1,(W g).2,(W n).1,(W n).2,r4.1.1,r4.1.2,())) else some (Sum.inr (ok,l,(l.length:Int),(i:Int),a,b,c,d,e,f,rt,ln,k,false,([]:List Int),(W g).1,(W g).2,(W n).1,(W n).2,(W (y.2.1.1*10 ^ (max d y.2.1.2 - y.2.1.2).toNat)).1,(W (y.2.1.1*10 ^ (max d y.2.1.2 - y.2.1.2).toNat)).2,()))) K=
    K (ok,l,(l.length:Int),(i:Int),a,b,c,d,e,f,rt,ln,k,false,([]:List Int),(W g).1,(W g).2,(W n).1,(W n).2,(W (iK e d g y)).1,(W (iK e d g y)).2,()):=by
    intro K
    unfold iK
    cases hp:y.1 with
    | true=>
     rw[ajo,show ((W g).1,(W g).2)=W g from rfl,CI _ g _ hyo.dec (hG.mono (by omega)),ajb,aS]
     simp only[ajA]
    | false=>
     have:=hyo.place hp
     rw[ajn,aS,show max d y.2.1.2=d by omega]
     simp only[agG,ajx]
   rw[hjoin]
   dsimp only
   generalize hzd:iK e d g y=z at*
   have hz:Le (52+i) z:=hA.mono (by omega)
   rw[show ((W n).1,(W n).2)=W n from rfl,show ((W z).1,(W z).2)=W z from rfl,cO _ _ (h3.w (by omega)) (hz.w (by omega)),ajb]
   dsimp only
   rw[CG,CG,ajb,ajb,aC (by omega) (by omega)]
   have hs:n+z+x2 (iK e d g) (l.drop (i+1))=g+x2 (iK e d g) l:=by
    rw[← h2]
    simp only[x2,ah2,aiw,hzd]
    omega
   have hn:vO (iK e d g) (y::l.drop (i+1)) n=if z.natAbs≤MU∧(n+z).natAbs≤MU then vO (iK e d g) (l.drop (i+1)) (n+z) else none:=by simp only[vO,hzd]
   rw[hn] at h1
   cases ok with
   | false=>
    rw[ajn]
    exact ih _ ⟨false,n+z,rfl,by simpa using h1,hs,h3.add hz⟩
   | true=>
    rw[ajo]
    by_cases f1:(z.natAbs:Int)≤MU
    ·rw[ajr f1,ajo]
     refine ih _ ⟨_,n+z,rfl, ?_,hs,h3.add hz⟩
     by_cases f2:((n+z).natAbs:Int)≤MU
     ·rw[ajr f2, ← h1,ajz ⟨f1,f2⟩]
     ·rw[ajq f2, ← h1,ajy (fun h=>f2 h.2)];rfl
    ·rw[ajq f1,ajn]
     refine ih _ ⟨false,n+z,rfl, ?_,hs,h3.add hz⟩
     rw[← h1,ajy (fun h=>f1 h.1)];rfl
  ·rintro _ again ⟨ok,n,rfl,h1,h2,h3⟩
   unfold Ek
   dsimp only
   rw[aO (by omega)]
   rw[List.drop_length] at h1 h2
   simp only[vO,ajg,agE,x2,ah4,List.sum_nil,Int.add_zero] at h1 h2
   rw[h1,h2]
   rfl
 rw[key _ (by omega),aS]
 dsimp only
 congr 3
 by_cases hg:(g.natAbs:Int)≤MU
 ·rw[ajr hg,ajz hg,agQ]
 ·rw[ajq hg,ajy hg];rfl
end Go.Md
