/-
  Plain facts: products, powers, rounding; the order of strings; decimals. No condition.
-/
import Derived.Test.YtnamfglkolhhgabGreatDoorYq
import Derived.Test.YtnamfglkolhhgabGreatDoorYn
set_option linter.all false
namespace Go.Md
open Go.Dn
theorem Nd (a b:List Int):Cn a b=G7 a b:=rfl
theorem Ic (x y:Int) (hx:x.natAbs<4294967296 ^ 99) (hy:y.natAbs<4294967296 ^ 99):nD (W x) (W y)=some (W (x+y),()):=by
 have hlx:=zX hx
 have hly:=zX hy
 unfold nD W
 dsimp only
 by_cases hs:decide (x<0)=decide (y<0)
 ·rw[show (decide (x<0)==decide (y<0))=true by simp[hs],abB,Nd]
  obtain⟨s,h1,h2,h3,h4⟩:=RD (cg x.natAbs) (cg y.natAbs) (iD _) (iD _) (by omega) (by omega)
  rw[h1,abo]
  dsimp only
  rw[oW _ _ h2 (by omega),abo,h3,fL,fL]
  simp only[abC] at hs
  show some (W _,())=some (W (x+y),())
  congr 3
  by_cases h:x<0
  ·simp only[h,abI,abP];omega
  ·simp only[h,abH,Zh,abM];omega
 ·rw[show (decide (x<0)==decide (y<0))=false by simp[hs],abA]
  obtain⟨c,h1,h2,h3⟩:=JD x.natAbs y.natAbs (by omega) (by omega)
  rw[h1,abo]
  dsimp only
  simp only[abC] at hs
  have hlen:∀ a b:Nat,b≤a→(cg b).length≤(cg a).length:=fun a b h=>by
   rcases aba (cg a).length (cg b).length with h' | h'
   ·have:=rR h';omega
   ·exact h'
  by_cases hc:c≥0
  ·rw[aB hc,EU _ _ (iD _) (iD _) (by omega) (hlen _ _ (by omega)) (by rw[fL,fL];omega),abo]
   dsimp only
   rw[oW _ _ (iD _) (by have:=hlen x.natAbs (v32 (cg x.natAbs) - v32 (cg y.natAbs)).toNat (by rw[fL,fL];omega);omega),abo]
   rw[fL,fL,fL]
   show some (W _,())=some (W (x+y),())
   congr 3
   by_cases h:x<0
   ·simp only[h,abI,abP];omega
   ·simp only[h,abH,Zh,abM];omega
  ·rw[aF hc,EU _ _ (iD _) (iD _) (by omega) (hlen _ _ (by omega)) (by rw[fL,fL];omega),abo]
   dsimp only
   rw[oW _ _ (iD _) (by have:=hlen y.natAbs (v32 (cg y.natAbs) - v32 (cg x.natAbs)).toNat (by rw[fL,fL];omega);omega),abo]
   rw[fL,fL,fL]
   show some (W _,())=some (W (x+y),())
   congr 3
   by_cases h:y<0
   ·simp only[h,abI,abP];omega
   ·simp only[h,abH,Zh,abM];omega
theorem SU {x y z c:Int} (hx:0≤x∧x<4294967296) (hy:0≤y∧y<4294967296) (hz:0≤z∧z<4294967296) (hc:0≤c∧c<4294967296):0≤x*y∧x*y≤18446744065119617025∧c+(z+x*y)≤18446744073709551615:=by
 have h1:0≤x*y:=Zx hx.1 hy.1
 have h2:x*y≤4294967295*4294967295:=Int.mul_le_mul (by omega) (by omega) (by omega) (by omega)
 omega
theorem Ie (i:Nat) (x:Int) (ga:List Int) (gn gi:Int) (b:List Int) (s1:Bool) (l1:List Int) (s2:Bool) (l2:List Int) (s3:Bool) (l3:List Int) (out:List Int) (hx:0≤x∧x<4294967296) (hb:Dg b) (hbl:b.length<10000) (hil:i<10000) (ho:i+b.length≤out.length) (hol:out.length<100000) (hd:Dg out) (n:Nat) (hn:b.length<n):
 ∃ o c,iter n (((i:Int),x,(0:Int),ga,gn,gi,b,(b.length:Int),(0:Int),s1,l1,s2,l2,s3,l3,out,()):jg) mq=some (Sum.inr ((i:Int),c,ga,gn,gi,s1,l1,s2,l2,s3,l3,o,()))∧
  Dg o∧o.length=out.length∧0≤c∧c<4294967296∧v32 o+4294967296 ^ (i+b.length)*c=v32 out+4294967296 ^ i*x*v32 b∧∀ j,i+b.length≤j→o[j]? =out[j]? :=by
 refine bI (Inv:=fun k X=>∃ o c,X=(((i:Int),x,c,ga,gn,gi,b,(b.length:Int),(k:Int),s1,l1,s2,l2,s3,l3,o,()):jg)∧Dg o∧o.length=out.length∧0≤c∧c<4294967296∧v32 o+4294967296 ^ (i+k)*c=v32 out+4294967296 ^ i*x*v32 (b.take k)∧∀ j,i+k≤j→o[j]? =out[j]?) b.length
  (fun r=>∃ o c,r=some (Sum.inr ((i:Int),c,ga,gn,gi,s1,l1,s2,l2,s3,l3,o,()))∧Dg o∧o.length=out.length∧0≤c∧c<4294967296∧v32 o+4294967296 ^ (i+b.length)*c=v32 out+4294967296 ^ i*x*v32 b∧∀ j,i+b.length≤j→o[j]? =out[j]?) ?_ ?_ n 0 _ ⟨out,0,rfl,hd,rfl,by omega,by omega,by simp[wI],fun _ _=>rfl⟩ (by omega) (by omega)
 ·rintro k _ again hk ⟨o,c,rfl,h1,h2,h3,h4,h5,h6⟩ ih
  unfold mq
  dsimp only
  have hy:b[k]? =some b[k]:=aJ hk
  have hyd:=hb.get hy
  have hts:=fS hy
  have hz:o[i+k]? =some (o[i+k]'(by omega)):=aJ (by omega)
  have hzd:=h1.get hz
  generalize b[k]=y at hy hyd hts
  generalize o[i+k]'(by omega)=z at hz hzd
  obtain⟨m1,m2,m3⟩:=SU hx hyd hzd ⟨h3,h4⟩
  have e1:w64 ((i:Int)+(k:Int))=((i+k:Nat):Int):=by rw[aC (by omega) (by omega)];omega
  rw[aB (by omega),bq,hy,abo,e1,aQ (by simp only[Zd,abG];omega),ZD,hz,abo,aQ (by simp only[Zd,abG];omega),abo,
   cH (n:=x) (by omega) (by omega),cH (n:=y) (by omega) (by omega),cH (n:=z) (by omega) (by omega),cH (n:=x*y) (by omega) (by omega),cH (n:=z+x*y) (by omega) (by omega),cH (n:=c+(z+x*y)) (by omega) (by omega),AZ,Qu,aC (n:=(k:Int)+1) (by omega) (by omega)]
  generalize ht:c+(z+x*y)=t at*
  refine ih _ ⟨_,_,rfl,h1.set (by omega),by rw[aao];exact h2,by omega,by omega, ?_,fun j hj=> ?_⟩
  ·rw[TJ hz,hts]
   have e2:(4294967296:Int) ^ (i+(k+1))=4294967296 ^ i*4294967296 ^ k*4294967296:=by rw[← aaZ,ZA,Zz]
   have e3:(4294967296:Int) ^ (i+k)=4294967296 ^ i*4294967296 ^ k:=Zz ..
   rw[e3] at h5
   rw[e2,e3]
   have e4:=Int.mul_ediv_add_emod t 4294967296
   generalize (4294967296:Int) ^ i=p at*
   generalize (4294967296:Int) ^ k=q at*
   generalize t / 4294967296=d at*
   generalize t % 4294967296=r at*
   grind
  ·rw[aaa (by omega)];exact h6 j (by omega)
 ·rintro _ again ⟨o,c,rfl,h1,h2,h3,h4,h5,h6⟩
  unfold mq
  dsimp only
  rw[aF (by omega)]
  rw[aaX (aa7 _)] at h5
  exact⟨o,c,rfl,h1,h2,h3,h4,h5,h6⟩
theorem Ig (a b:List Int) (ha:Dg a) (hb:Dg b) (hal:a.length<1000) (hbl:b.length<1000) (s1 s2 s3:Bool) (l3:List Int) (n:Nat) (hn:a.length<n):
 ∃ o,iter n ((a,(a.length:Int),(0:Int),s1,a,s2,b,s3,l3,List.replicate (a.length+b.length) 0,()):je) mo=some (Sum.inr (s1,a,s2,b,s3,l3,o,()))∧Dg o∧o.length=a.length+b.length∧v32 o=v32 a*v32 b:=by
 refine bI (Inv:=fun i X=>∃ o,X=((a,(a.length:Int),(i:Int),s1,a,s2,b,s3,l3,o,()):je)∧Dg o∧o.length=a.length+b.length∧v32 o=v32 (a.take i)*v32 b∧∀ j,i+b.length≤j→j<a.length+b.length→o[j]? =some 0) a.length
  (fun r=>∃ o,r=some (Sum.inr (s1,a,s2,b,s3,l3,o,()))∧Dg o∧o.length=a.length+b.length∧v32 o=v32 a*v32 b) ?_ ?_ n 0 _ ⟨_,rfl,fun d hd=>by rw[List.mem_replicate] at hd;omega,by simp,by rw[Pg];simp[wI],fun j _ hj=>by rw[List.getElem?_replicate,abO hj]⟩ (by omega) (by omega)
 ·rintro i _ again hi ⟨o,rfl,h1,h2,h3,h4⟩ ih
  unfold mo
  dsimp only
  have hy:a[i]? =some a[i]:=aJ hi
  have hyd:=ha.get hy
  have hts:=fS hy
  generalize a[i]=x at hy hyd hts
  rw[aB (by omega),bq,hy,abo]
  obtain⟨o',c,k1,k2,k3,k4,k5,k6,k7⟩:=Ie i x a (a.length:Int) (i:Int) b s1 a s2 b s3 l3 o hyd hb (by omega) (by omega) (by omega) (by omega) h1 (Int.natAbs (i:Int)+(Int.natAbs x+(Int.natAbs (0:Int)+(List.length a+(Int.natAbs (a.length:Int)+(Int.natAbs (i:Int)+(List.length b+(Int.natAbs ((List.length b:Int))+(Int.natAbs (0:Int)+(List.length a+(List.length b+(List.length l3+(List.length o+2))))))))))))) (by omega)
  rw[k1,aM]
  dsimp only
  have e1:w64 ((i:Int)+(b.length:Int))=((i+b.length:Nat):Int):=by rw[aC (by omega) (by omega)];omega
  have hz:o'[i+b.length]? =some 0:=by rw[k7 _ (aa7 _)];exact h4 _ (aa7 _) (by omega)
  rw[e1,aQ (by simp only[Zd,abG];omega),ZD,hz,abo,Ng (by omega) (by omega),aC (n:=(i:Int)+1) (by omega) (by omega)]
  refine ih _ ⟨_,rfl,k2.set (by omega),by rw[aao];omega, ?_,fun j hj hj2=> ?_⟩
  ·rw[TJ hz,hts]
   have e3:(4294967296:Int) ^ (i+b.length)=4294967296 ^ i*4294967296 ^ b.length:=Zz ..
   rw[e3] at k6 ⊢
   grind
  ·rw[aaa (by omega),k7 j (by omega)];exact h4 j (by omega) hj2
 ·rintro _ again ⟨o,rfl,h1,h2,h3,h4⟩
  unfold mo
  dsimp only
  rw[aF (by omega)]
  rw[aaX (aa7 _)] at h3
  exact⟨o,rfl,h1,h2,h3⟩
theorem yb (x y:Int) (hx:x.natAbs<4294967296 ^ 99) (hy:y.natAbs<4294967296 ^ 99):mm (W x) (W y)=some (W (x*y),()):=by
 have hlx:=zX hx
 have hly:=zX hy
 unfold mm W
 dsimp only
 have e1:w64 (((cg x.natAbs).length:Int)+((cg y.natAbs).length:Int))=(((cg x.natAbs).length+(cg y.natAbs).length:Nat):Int):=by rw[aC (by omega) (by omega)];omega
 rw[e1,aQ (by simp only[Zd,abG];omega)]
 obtain⟨o,h1,h2,h3,h4⟩:=Ig (cg x.natAbs) (cg y.natAbs) (iD _) (iD _) (by omega) (by omega) (decide (x<0)) (decide (y<0)) false [] (List.length (cg x.natAbs)+(Int.natAbs ((List.length (cg x.natAbs):Int))+(Int.natAbs (0:Int)+(List.length (cg x.natAbs)+(List.length (cg y.natAbs)+(List.length ([]:List Int)+(List.length ((List.replicate (Int.toNat (((cg x.natAbs).length+(cg y.natAbs).length:Nat):Int)) 0):List Int)+2))))))) (by omega)
 rw[ZD] at h1 ⊢
 rw[h1,aM]
 dsimp only
 rw[oW _ _ h2 (by omega),abo,h4,fL,fL]
 show some (W _,())=some (W (x*y),())
 congr 3
 rw[← Int.natCast_mul, ← Int.natAbs_mul]
 by_cases h:x<0<;>by_cases h':y<0
 ·have:=Int.mul_pos_of_neg_of_neg h h'
  simp[h,h'];omega
 ·have:=Zx (show 0≤ -x by omega) (show 0≤y by omega)
  rw[Int.neg_mul] at this
  simp[h,h'];omega
 ·have:=Zx (show 0≤x by omega) (show 0≤ -y by omega)
  rw[Int.mul_neg] at this
  simp[h,h'];omega
 ·have:=Zx (show 0≤x by omega) (show 0≤y by omega)
  simp[h,h'];omega
end Go.Md
namespace Go.Md
open Go.Dn
def Le (k:Nat) (z:Int):Prop:=z.natAbs≤10 ^ k
theorem Le.mul {a b:Nat} {x y:Int} (hx:Le a x) (hy:Le b y):Le (a+b) (x*y):=by
 unfold Le at*
 rw[Int.natAbs_mul,Nat.pow_add]
 exact Nat.mul_le_mul hx hy
theorem Le.mono {a b:Nat} {x:Int} (hx:Le a x) (h:a≤b):Le b x:=aa8 hx (abj (by omega) h)
theorem Le.add {a:Nat} {x y:Int} (hx:Le a x) (hy:Le a y):Le (a+1) (x+y):=by
 unfold Le at*
 rw[Nat.pow_succ]
 omega
theorem Le.neg {a:Nat} {x:Int} (hx:Le a x):Le a (-x):=by unfold Le at *;omega
theorem Le.w {k:Nat} {z:Int} (h:Le k z) (hk:k≤900):z.natAbs<4294967296 ^ 99:=
 Nat.lt_of_le_of_lt (h.mono hk) (by decide +kernel)
theorem Le.n {k:Nat} {z:Int} (h:Le k z) (hk:k≤500):(dg6 z.natAbs).length<90:=by
 have:=S8 (k:=84) (n:=z.natAbs) (Nat.lt_of_le_of_lt (h.mono hk) (by decide +kernel))
 omega
theorem Le.pow (n:Nat):Le n (10 ^ n):=by
 unfold Le
 rw[Int.natAbs_pow];exact aa7 _
theorem Le.int {n:Int} (h1: -9223372036854775808≤n) (h2:n≤9223372036854775807):Le 19 n:=by unfold Le;omega
theorem Le.succ {k n:Nat} (h:Le k (n:Int)):Le (k+1) ((n+1:Nat):Int):=by
 unfold Le at*
 rw[Nat.pow_succ]
 have:1≤10 ^ k:=Nat.pow_pos (by omega)
 omega
theorem Na (n:Nat) (hn:n≤60):xk (n:Int)=some (W (10 ^ n),()):=by
 unfold xk
 rw[Cm 1 (by omega) (by omega),abo]
 dsimp only
 have loop:∀ (f:Nat),n<f→iter f (((n:Int),(0:Int),false,([]:List Int),(W 1).1,(W 1).2,()):nE) rE=some (Sum.inr (false,[],(W (10 ^ n)).1,(W (10 ^ n)).2,())):=by
  intro f hf
  refine bI (Inv:=fun i X=>X=(((n:Int),(i:Int),false,([]:List Int),(W (10 ^ i)).1,(W (10 ^ i)).2,()):nE)) n (fun r=>r=some (Sum.inr (false,[],(W (10 ^ n)).1,(W (10 ^ n)).2,()))) ?_ ?_ f 0 _ rfl (by omega) (by omega)
  ·rintro i _ again hi rfl ih
   unfold rE
   dsimp only
   rw[aB (by omega),Cm 10 (by omega) (by omega),abo]
   dsimp only
   rw[yb (10 ^ i) 10 ((Le.pow i).w (by omega)) ((Le.int (n:=10) (by omega) (by omega)).w (by omega)),abo,aC (by omega) (by omega)]
   refine ih _ ?_
   rw[ZA]
   rfl
  ·rintro _ again rfl
   unfold rE
   dsimp only
   rw[aF (by omega)]
 rw[loop _ (by omega),aM]
theorem zK (d:ai) (p:Int) (h1: -9223372036854775808≤d.1) (h2:d.1≤9223372036854775807) (hp0:0≤p - d.2) (hp:p - d.2≤60) (hd: -1000≤d.2∧d.2≤1000):jt d p=some (W (d.1*10 ^ (p - d.2).toNat),()):=by
 unfold jt
 rw[Cm _ h1 h2,abo,aC (by omega) (by omega)]
 obtain⟨n,hn⟩:∃ n:Nat,p - d.2=n:=⟨(p - d.2).toNat,by omega⟩
 rw[hn,Na n (by omega),abo]
 dsimp only
 rw[yb _ _ ((Le.int h1 h2).w (by omega)) ((Le.pow n).w (by omega)),abo,ZD]
end Go.Md
namespace Go.Md
open Go.Dn
theorem OE {α:Type} {l:List α} {k:Nat} {y:α} (h:l[k]? =some y):l.drop k=y::l.drop (k+1):=by
 obtain⟨hk,rfl⟩:=Z6.1 h
 exact ZP hk
end Go.Md
namespace Go.Md
open Go.Dn
theorem SN (z limit:Int) (h0:0<limit) (h1:limit≤1000000000000000000) (hz:Le 500 z):Ef (N z) limit=some (if z.natAbs≤limit then (z,true,()) else (0,false,())):=by
 unfold Ef
 rw[Aq limit (by omega) (by omega),abo]
 have hl:=hz.n (by omega)
 have hl2:(dg6 limit.natAbs).length<90:=(Le.int (n:=limit) (by omega) (by omega)).n (by omega)
 show Option.bind (wh (dg6 z.natAbs) (dg6 limit.natAbs)) _=_
 obtain⟨c,k1,k2,k3⟩:=Iz z.natAbs limit.natAbs (by omega) (by omega)
 rw[k1,abo]
 dsimp only
 by_cases hc:c>0
 ·rw[aB hc,abN (by omega)]
 ·rw[aF hc,abO (by omega)]
  show aR (iter _ ((0:Int),w64 (((dg6 z.natAbs).length:Int) - 1),decide (z<0),dg6 z.natAbs,()) _) _=_
  have hdig:=mY z.natAbs
  have hval:=s8 z.natAbs
  rw[show (N z).2=dg6 z.natAbs from rfl]
  generalize hd:dg6 z.natAbs=d at*
  rw[aC (n:=(d.length:Int) - 1) (by omega) (by omega)]
  have loop:∀ f,d.length<f→iter f (((0:Int),(d.length:Int) - 1,decide (z<0),d,()):rX) w8=some (Sum.inr ((z.natAbs:Int),decide (z<0),d,())):=by
   intro f hf
   refine bI (Inv:=fun i X=>X=((v6 (d.drop (d.length - i)),(d.length:Int) - i - 1,decide (z<0),d,()):rX)) d.length
    (fun r=>r=some (Sum.inr ((z.natAbs:Int),decide (z<0),d,()))) ?_ ?_ f 0 _ ?_ (by omega) (by omega)
   ·rintro i _ again hi rfl ih
    unfold w8
    dsimp only
    obtain⟨k,hk⟩:∃ k,d.length - i=k+1:=⟨d.length - i - 1,by omega⟩
    have hki:d.length - (i+1)=k:=by omega
    have hy:d[k]? =some (d[k]'(by omega)):=aJ (by omega)
    have hyd:=hdig.get hy
    have hcons:=OE hy
    generalize d[k]'(by omega)=y at hy hyd hcons
    rw[hk]
    rw[hki,hcons,Df] at ih
    have hnn:=kz (hdig.drop (k+1))
    have hle:y+1000000*v6 (d.drop (k+1))≤z.natAbs:=by
     have h1:v6 (d.drop k)*1000000 ^ k+v6 (d.take k)=z.natAbs:=by
      have:=G5 (d.take k) (d.drop k)
      rw[aaU,hval,aaq,abf (by omega)] at this
      rw[this,Int.mul_comm,Int.add_comm]
     have h2:=kz (hdig.take k)
     have h3:(1:Int)≤1000000 ^ k:=D8 (by omega) k
     rw[hcons,Df] at h1
     have h4:0≤(y+1000000*v6 (d.drop (k+1)))*(1000000 ^ k - 1):=Zx (by omega) (by omega)
     rw[Int.mul_sub,Zy] at h4
     omega
    generalize v6 (d.drop (k+1))=V at*
    have hi1:(d.length:Int) - i - 1=((k:Nat):Int):=by omega
    rw[hi1,aB (by omega),bq,hy,abo,aC (n:=V*1000000) (by omega) (by omega),aC (n:=V*1000000+y) (by omega) (by omega),aC (n:=(k:Int) - 1) (by omega) (by omega)]
    refine ih _ ?_
    rw[show V*1000000+y=y+1000000*V by omega,show (k:Int) - 1=(d.length:Int) - ((i+1:Nat):Int) - 1 by omega]
   ·rintro _ again rfl
    unfold w8
    dsimp only
    rw[aF (by omega),abl,ZS,hval]
   ·rw[Nat.sub_zero,List.drop_length,Dh,show ((d.length:Int) - ((0:Nat):Int) - 1)=(d.length:Int) - 1 by omega]
  rw[loop _ (by omega),aM]
  dsimp only
  by_cases hn:z<0
  ·rw[aB hn,aC (by omega) (by omega)]
   congr 2;omega
  ·rw[aF hn]
   congr 2;omega
end Go.Md
namespace Go.Md
open Go.Dn
theorem dD:∀ a:List UInt8,Op.bytesLess a a=false
 | []=>rfl
 | x::a=>by simp[Op.bytesLess,dD a]
theorem gp:∀ {a b:List UInt8},Lib.compareBytes a b=0↔a=b
 | [],[]=>by simp[Lib.compareBytes]
 | [],_::_=>by simp[Lib.compareBytes]
 | _::_,[]=>by simp[Lib.compareBytes]
 | x::a,y::b=>by
  simp only[Lib.compareBytes,List.cons.injEq]
  by_cases h1:x<y
  ·simp only[h1,abP]
   constructor
   ·intro h;omega
   ·rintro⟨rfl,_⟩;exact absurd h1 (UInt8.lt_irrefl x)
  ·by_cases h2:y<x
   ·simp only[h1,h2,abP,abM]
    constructor
    ·intro h;omega
    ·rintro⟨rfl,_⟩;exact absurd h2 (UInt8.lt_irrefl x)
   ·have:x=y:=UInt8.le_antisymm (abv.1 h2) (abv.1 h1)
    subst this
    simp only[h1,abM,true_and]
    exact gp
theorem jx:∀ {a b:List UInt8},Lib.compareBytes a b<0↔Op.bytesLess a b=true
 | [],[]=>by simp[Lib.compareBytes,Op.bytesLess]
 | [],_::_=>by simp[Lib.compareBytes,Op.bytesLess]
 | _::_,[]=>by simp[Lib.compareBytes,Op.bytesLess]
 | x::a,y::b=>by
  have ih:= @jx a b
  simp only[Lib.compareBytes,Op.bytesLess]
  by_cases h1:x<y
  ·simp[h1]
  ·by_cases h2:y<x
   ·have hne:¬ x=y:=fun e=>by subst e;exact absurd h2 (UInt8.lt_irrefl x)
    simp[h1,h2,hne]
   ·have:x=y:=UInt8.le_antisymm (abv.1 h2) (abv.1 h1)
    subst this
    simp[h1,ih]
theorem cQ:∀ {a b c:List UInt8},Op.bytesLess a b=true→Op.bytesLess b c=true→Op.bytesLess a c=true
 | [],[],_,h,_=>by simp[Op.bytesLess] at h
 | [],_::_,[],_,h=>by simp[Op.bytesLess] at h
 | [],_::_,_::_,_,_=>rfl
 | _::_,[],_,h,_=>by simp[Op.bytesLess] at h
 | _::_,_::_,[],_,h=>by simp[Op.bytesLess] at h
 | x::a,y::b,z::c,h,k=>by
  simp only[Op.bytesLess,Zq,Zd,abG,beq_iff_eq] at h k ⊢
  rcases h with h | ⟨rfl,h⟩
  ·rcases k with k | ⟨rfl,k⟩
   ·exact .inl (UInt8.lt_trans h k)
   ·exact .inl h
  ·rcases k with k | ⟨rfl,k⟩
   ·exact .inl k
   ·exact .inr ⟨rfl,cQ h k⟩
theorem Ii {a b:List UInt8} (h:Op.bytesLess a b=true):Op.bytesLess b a=false:=by
 cases hb:Op.bytesLess b a with
 | false=>rfl
 | true=>have:=cQ h hb;rw[dD] at this;cases this
theorem gY (a b:List UInt8):Op.bytesLess a b=true∨a=b∨Op.bytesLess b a=true:=by
 induction a generalizing b with
 | nil=>cases b with
  | nil=>simp
  | cons y b=>simp[Op.bytesLess]
 | cons x a ih=>cases b with
  | nil=>simp[Op.bytesLess]
  | cons y b=>
   simp only[Op.bytesLess,Zq,Zd,abG,beq_iff_eq,List.cons.injEq]
   by_cases h1:x<y
   ·simp[h1]
   ·by_cases h2:y<x
    ·simp[h2]
    ·have:x=y:=UInt8.le_antisymm (abv.1 h2) (abv.1 h1)
     subst this
     rcases ih b with h | h | h<;>simp[h]
def Asc {α:Type} (key:α→List UInt8) (l:List α):Prop:=∀ (i j:Nat) (x y:α),i<j→l[i]? =some x→l[j]? =some y→Op.bytesLess (key x) (key y)=true
def cn {α:Type} (key:α→List UInt8) (t:List UInt8) (l:List α):Option Nat:=l.findIdx? (fun r=>key r==t)
theorem iR {α:Type} {key:α→List UInt8} {t:List UInt8} {l:List α} {k:Nat} (h:cn key t l=some k):∃ x,l[k]? =some x∧key x=t:=by
 unfold cn at h
 rw[List.findIdx?_eq_some_iff_getElem] at h
 obtain⟨h1,h2,_⟩:=h
 exact⟨_,Z4 h1,by simpa using h2⟩
theorem NB {α:Type} {key:α→List UInt8} {t:List UInt8} {l:List α} (h:cn key t l=none):∀ x∈l,key x≠t:=by
 unfold cn at h
 rw[List.findIdx?_eq_none_iff] at h
 intro x hx e
 have:=h x hx
 simp[e] at this
theorem Hr {α:Type} {key:α→List UInt8} {t:List UInt8} {l:List α} (hs:Asc key l) {k:Nat} {x:α} (hk:l[k]? =some x) (hx:key x=t):cn key t l=some k:=by
 cases h:cn key t l with
 | none=>exact absurd hx (NB h x (aaC hk))
 | some j=>
  obtain⟨y,h1,h2⟩:=iR h
  rcases abe j k with hlt | rfl | hlt
  ·have:=hs j k y x hlt h1 hk
   rw[h2,hx,dD] at this;cases this
  ·rfl
  ·have:=hs k j x y hlt hk h1
   rw[h2,hx,dD] at this;cases this
def ixI:Option Nat→Int
 | some k=>(k:Int)
 | none=> -1
theorem Xz (o:Option Nat):decide (ixI o<0)= !o.isSome:=by
 cases o with
 | none=>rfl
 | some k=>exact abD (by simp only[ixI];omega)
end Go.Md
namespace Go.Md
open Go.Dn
instance (d:ai):Decidable (cK d):=by unfold cK;exact inferInstance
def inR (d:ai) (lo hi pl:Int):Bool:=decide (cK d∧d.2≤pl∧lo*10 ^ d.2.toNat≤d.1∧d.1≤hi*10 ^ d.2.toNat)
theorem Wq {d:ai} (h0:0≤d.2) (h1:d.2≤9) (k:Int):k*10 ^ 9=k*10 ^ d.2.toNat*10 ^ (9 - d.2).toNat:=by
 rw[Zv, ← Zz,show d.2.toNat+(9 - d.2).toNat=9 by omega]
theorem Xq {d:ai} (h0:0≤d.2) (h1:d.2≤9) (k:Int):tu d≤k*10 ^ 9↔d.1≤k*10 ^ d.2.toNat:=by
 unfold tu
 rw[Wq h0 h1]
 exact Int.mul_le_mul_right (Bu _)
theorem A1 (d:ai):iA d=some (if cK d then 0 else 1,()):=by
 rw[BL]
 congr 2
 by_cases h:cK d
 ·rw[abO h,abO (by unfold cK at h;omega)]
 ·rw[abN h,abN (by unfold cK at h;omega)]
theorem pJ (d:ai):jq d=some (if cK d then 0 else 1,()):=by
 rw[GH]
 congr 2
 by_cases h:cK d
 ·rw[abO h,abO (by unfold cK at h;omega)]
 ·rw[abN h,abN (by unfold cK at h;omega)]
def YM (pl:Int) (rates:List yN) (line:Bool) (x:rP):Int:=
 if cK x.2.1 then
  (if x.2.1.1=0 then 13
  else if (if x.1=true then inR x.2.1 (-100) 100 9 else inR x.2.1 (-1000000000) 1000000000 pl)=true then
   (if x.2.2=[] then 0 else if line=true then 3 else if (cn (·.1) x.2.2 rates).isSome=true then 0 else 5)
  else 1)
 else 1
def Xf (pl:Int) (rates:List yN) (line:Bool) (l:List rP):Int:=if 20<l.length then 2 else bS (fun _ x=>YM pl rates line x) 0 l
theorem Px {γ:Type} (s:Int) (u:γ):aR (β:=Int×Unit) (γ:=γ) (if s=0 then some (Sum.inr u) else some (Sum.inl (s,()))) (fun _=>some (0,()))=some (s,()):=by
 by_cases h:s=0
 ·rw[abO h,aM,h]
 ·rw[abN h,gu]
theorem fM {X α:Type} {γ:Type} {f:X→(X→Option ((Int×Unit) ⊕ γ))→Option ((Int×Unit) ⊕ γ)} {x0:X} (mk:Nat→X) (l:List α) (g:Nat→α→Int) (u:γ) (h0:x0=mk 0)
 (hstep:∀ i y again,l[i]? =some y→f (mk i) again=if g i y=0 then again (mk (i+1)) else some (Sum.inl (g i y,()))) (hend:∀ again,f (mk l.length) again=some (Sum.inr u)) (n:Nat) (hn:l.length<n):
 iter n x0 f=if bS g 0 l=0 then some (Sum.inr u) else some (Sum.inl (bS g 0 l,())):=by
 rw[h0];exact NA mk l g u hstep hend l 0 n rfl (abn _) hn
end Go.Md
namespace Go.Md
open Go.Dn
theorem MN (n:Int) (h0:0≤n) (h1:n≤18):B7 n=some (10 ^ n.toNat,()):=N9 n h0 h1
end Go.Md
namespace Go.Md
open Go.Dn
theorem Ys {γ:Type} (s:Int) (u:γ) (k:γ→Option (Int×Unit)) (z:Int) (hk:k u=some (z,())):aR (β:=Int×Unit) (γ:=γ) (if s=0 then some (Sum.inr u) else some (Sum.inl (s,()))) k=some (if s≠0 then s else z,()):=by
 by_cases h:s=0
 ·rw[abO h,aM,hk,abN (by simpa using h)]
 ·rw[abN h,gu,abO h]
end Go.Md
namespace Go.Md
open Go.Dn
structure YU (pl:Int) (x:rP):Prop where
 dec:cK x.2.1
 place:x.1=false→x.2.1.2≤pl
 nz:x.2.1.1≠0
structure X2 (pl:Int) (rates:List yN) (x:Co):Prop where
 q:cK x.2.2.2.1
 qp:x.2.2.2.1.2≤3
 qn:x.2.2.2.1.1≠0
 p:cK x.2.2.2.2.2.1
 pp:x.2.2.2.2.2.1.2≤4
 p0:0≤x.2.2.2.2.2.1.1
 per:1≤x.2.2.2.2.2.2.1∧x.2.2.2.2.2.2.1≤100000
 ext:Xf pl rates true x.2.2.2.2.2.2.2.1=0
 rate:(cn (·.1) x.2.2.2.2.2.2.2.2 rates).isSome=true
structure YV (v:N0):Prop where
 pl:0≤v.2.2.2.1∧v.2.2.2.1≤4
 way:1≤v.2.2.2.2.1∧v.2.2.2.2.1≤6
 rn:0<v.2.2.2.2.2.2.1.length∧v.2.2.2.2.2.2.1.length≤20
 asc:Asc (·.1) v.2.2.2.2.2.2.1
 rates:∀ r∈v.2.2.2.2.2.2.1,inR r.2 0 100 9=true
 ln:0<v.2.2.2.2.2.2.2.1.length∧v.2.2.2.2.2.2.2.1.length≤500
 lines:∀ x∈v.2.2.2.2.2.2.2.1,X2 v.2.2.2.1 v.2.2.2.2.2.2.1 x
 ext:Xf v.2.2.2.1 v.2.2.2.2.2.2.1 false v.2.2.2.2.2.2.2.2=0
end Go.Md
namespace Go.Md
open Go.Dn
theorem Le.dec {d:ai} (h:cK d):Le 15 d.1:=by
 have:=h.1
 unfold Le;omega
theorem Le.i1 {n:Int} (h1: -9223372036854775808≤n) (h2:n≤9223372036854775807):n.natAbs<4294967296 ^ 99:=(Le.int h1 h2).w (by omega)
theorem Rs {n:Int} (h0:0≤n) (h1:n≤40):Au n=some (N (10 ^ n.toNat),()):=by
 obtain⟨m,rfl⟩:∃ m:Nat,n=m:=⟨n.toNat,by omega⟩
 exact Iy m (by omega)
theorem NR (d:ai) (p:Int) (hd:cK d) (hp:d.2≤p) (hp2:p≤9):wV d p=some (N (d.1*10 ^ (p - d.2).toNat),()):=by
 have h1:=hd.1;have h2:=hd.2
 have l2:=(Le.dec hd).n (by omega);have l3:=(Le.pow (p - d.2).toNat).n (by omega)
 unfold wV
 rw[Aq _ (by omega) (by omega),abo,aC (by omega) (by omega),Rs (by omega) (by omega),abo]
 dsimp only
 rw[yy _ _ (by omega) (by omega),abo]
end Go.Md
