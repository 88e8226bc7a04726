/-
  Plain facts: products, powers, rounding; the order of strings; decimals. No condition.
-/
import Derived.Test.YtcndcnfjdanbeaaGreatDoorVq
import Derived.Test.YtcndcnfjdanbeaaGreatDoorVn
import Derived.Test.YtcndcnfjdanbeaaGreatDoorVp
set_option linter.all false
namespace Go.Md
open Go.Dn
theorem SS (a b:List Int):HF a b=Ct a b:=rfl
theorem NQ (x y:Int) (hx:x.natAbs<4294967296 ^ 99) (hy:y.natAbs<4294967296 ^ 99):qs (W x) (W y)=some (W (x+y),()):=by
 have hlx:=qL hx
 have hly:=qL hy
 unfold qs W
 dsimp only
 by_cases hs:decide (x<0)=decide (y<0)
 ·rw [show (decide (x<0)==decide (y<0))=true by simp [hs],cond_true,SS]
  obtain ⟨s,h1,h2,h3,h4⟩:=M4 (bq x.natAbs) (bq y.natAbs) (dJ _) (dJ _) (by omega) (by omega)
  rw [h1,Option.bind_some]
  dsimp only
  rw [jh _ _ h2 (by omega),Option.bind_some,h3,dH,dH]
  simp only [afr] at hs
  show some (W _,())=some (W (x+y),())
  congr 3
  by_cases h:x<0
  ·simp only [h,afw,afA];omega
  ·simp only [h,afv,ac6,afz];omega
 ·rw [show (decide (x<0)==decide (y<0))=false by simp [hs],cond_false]
  obtain ⟨c,h1,h2,h3⟩:=Ft x.natAbs y.natAbs (by omega) (by omega)
  rw [h1,Option.bind_some]
  dsimp only
  simp only [afr] at hs
  have hlen:∀ a b:Nat,b≤a→(bq b).length≤(bq a).length:=fun a b h=>by
   rcases ae1 (bq a).length (bq b).length with h' | h'
   ·have:=me h';omega
   ·exact h'
  by_cases hc:c≥0
  ·rw [bE hc,CS _ _ (dJ _) (dJ _) (by omega) (hlen _ _ (by omega)) (by rw [dH,dH];omega),Option.bind_some]
   dsimp only
   rw [jh _ _ (dJ _) (by have:=hlen x.natAbs (v32 (bq x.natAbs) - v32 (bq y.natAbs)).toNat (by rw [dH,dH];omega);omega),Option.bind_some]
   rw [dH,dH,dH]
   show some (W _,())=some (W (x+y),())
   congr 3
   by_cases h:x<0
   ·simp only [h,afw,afA];omega
   ·simp only [h,afv,ac6,afz];omega
  ·rw [bH hc,CS _ _ (dJ _) (dJ _) (by omega) (hlen _ _ (by omega)) (by rw [dH,dH];omega),Option.bind_some]
   dsimp only
   rw [jh _ _ (dJ _) (by have:=hlen y.natAbs (v32 (bq y.natAbs) - v32 (bq x.natAbs)).toNat (by rw [dH,dH];omega);omega),Option.bind_some]
   rw [dH,dH,dH]
   show some (W _,())=some (W (x+y),())
   congr 3
   by_cases h:y<0
   ·simp only [h,afw,afA];omega
   ·simp only [h,afv,ac6,afz];omega
theorem Xh {x y z c:Int} (hx:0≤x∧x<4294967296) (hy:0≤y∧y<4294967296) (hz:0≤z∧z<4294967296) (hc:0≤c∧c<4294967296):0≤x*y∧x*y≤18446744065119617025∧c+(z+x*y)≤18446744073709551615:=by
 have h1:0≤x*y:=ado hx.1 hy.1
 have h2:x*y≤4294967295*4294967295:=Int.mul_le_mul (by omega) (by omega) (by omega) (by omega)
 omega
theorem NR (i:Nat) (x:Int) (ga:List Int) (gn gi:Int) (b:List Int) (s1:Bool) (l1:List Int) (s2:Bool) (l2:List Int) (s3:Bool) (l3:List Int) (out:List Int) (hx:0≤x∧x<4294967296) (hb:Dg b) (hbl:b.length<10000) (hil:i<10000) (ho:i+b.length≤out.length) (hol:out.length<100000) (hd:Dg out) (n:Nat) (hn:b.length<n):
 ∃ o c,iter n (((i:Int),x,(0:Int),ga,gn,gi,b,(b.length:Int),(0:Int),s1,l1,s2,l2,s3,l3,out,()):kE) oM=some (Sum.inr ((i:Int),c,ga,gn,gi,s1,l1,s2,l2,s3,l3,o,()))∧
  Dg o∧o.length=out.length∧0≤c∧c<4294967296∧v32 o+4294967296 ^ (i+b.length)*c=v32 out+4294967296 ^ i*x*v32 b∧∀ j,i+b.length≤j→o[j]? =out[j]? :=by
 refine bQ (Inv:=fun k X=>∃ o c,X=(((i:Int),x,c,ga,gn,gi,b,(b.length:Int),(k:Int),s1,l1,s2,l2,s3,l3,o,()):kE)∧Dg o∧o.length=out.length∧0≤c∧c<4294967296∧v32 o+4294967296 ^ (i+k)*c=v32 out+4294967296 ^ i*x*v32 (b.take k)∧∀ j,i+k≤j→o[j]? =out[j]?) b.length
  (fun r=>∃ o c,r=some (Sum.inr ((i:Int),c,ga,gn,gi,s1,l1,s2,l2,s3,l3,o,()))∧Dg o∧o.length=out.length∧0≤c∧c<4294967296∧v32 o+4294967296 ^ (i+b.length)*c=v32 out+4294967296 ^ i*x*v32 b∧∀ j,i+b.length≤j→o[j]? =out[j]?) ?_ ?_ n 0 _ ⟨out,0,rfl,hd,rfl,by omega,by omega,by simp [A8],fun _ _=>rfl⟩ (by omega) (by omega)
 ·rintro k _ again hk ⟨o,c,rfl,h1,h2,h3,h4,h5,h6⟩ ih
  unfold oM
  dsimp only
  have hy:b[k]? =some b[k]:=bD hk
  have hyd:=hb.get hy
  have hts:=gO hy
  have hz:o[i+k]? =some (o[i+k]'(by omega)):=bD (by omega)
  have hzd:=h1.get hz
  generalize b[k]=y at hy hyd hts
  generalize o[i+k]'(by omega)=z at hz hzd
  obtain ⟨m1,m2,m3⟩:=Xh hx hyd hzd ⟨h3,h4⟩
  have e1:w64 ((i:Int)+(k:Int))=((i+k:Nat):Int):=by rw [aA (by omega) (by omega)];omega
  rw [bE (by omega),fT,hy,Option.bind_some,e1,bV (by simp only [ac1,afu];omega),adA,hz,Option.bind_some,bV (by simp only [ac1,afu];omega),Option.bind_some,
   dM (n:=x) (by omega) (by omega),dM (n:=y) (by omega) (by omega),dM (n:=z) (by omega) (by omega),dM (n:=x*y) (by omega) (by omega),dM (n:=z+x*y) (by omega) (by omega),dM (n:=c+(z+x*y)) (by omega) (by omega),Bf,Vu,aA (n:=(k:Int)+1) (by omega) (by omega)]
  generalize ht:c+(z+x*y)=t at*
  refine ih _ ⟨_,_,rfl,h1.set (by omega),by rw [aeg];exact h2,by omega,by omega, ?_,fun j hj=> ?_⟩
  ·rw [Ns hz,hts]
   have e2:(4294967296:Int) ^ (i+(k+1))=4294967296 ^ i*4294967296 ^ k*4294967296:=by rw [← aeP,adv,adu]
   have e3:(4294967296:Int) ^ (i+k)=4294967296 ^ i*4294967296 ^ k:=adu ..
   rw [e3] at h5
   rw [e2,e3]
   have e4:=Int.mul_ediv_add_emod t 4294967296
   generalize (4294967296:Int) ^ i=p at*
   generalize (4294967296:Int) ^ k=q at*
   generalize t / 4294967296=d at*
   generalize t % 4294967296=r at*
   grind
  ·rw [ad5 (by omega)];exact h6 j (by omega)
 ·rintro _ again ⟨o,c,rfl,h1,h2,h3,h4,h5,h6⟩
  unfold oM
  dsimp only
  rw [bH (by omega)]
  rw [aeN (aeX _)] at h5
  exact ⟨o,c,rfl,h1,h2,h3,h4,h5,h6⟩
theorem NS (a b:List Int) (ha:Dg a) (hb:Dg b) (hal:a.length<1000) (hbl:b.length<1000) (s1 s2 s3:Bool) (l3:List Int) (n:Nat) (hn:a.length<n):
 ∃ o,iter n ((a,(a.length:Int),(0:Int),s1,a,s2,b,s3,l3,List.replicate (a.length+b.length) 0,()):kD) oL=some (Sum.inr (s1,a,s2,b,s3,l3,o,()))∧Dg o∧o.length=a.length+b.length∧v32 o=v32 a*v32 b:=by
 refine bQ (Inv:=fun i X=>∃ o,X=((a,(a.length:Int),(i:Int),s1,a,s2,b,s3,l3,o,()):kD)∧Dg o∧o.length=a.length+b.length∧v32 o=v32 (a.take i)*v32 b∧∀ j,i+b.length≤j→j<a.length+b.length→o[j]? =some 0) a.length
  (fun r=>∃ o,r=some (Sum.inr (s1,a,s2,b,s3,l3,o,()))∧Dg o∧o.length=a.length+b.length∧v32 o=v32 a*v32 b) ?_ ?_ n 0 _ ⟨_,rfl,fun d hd=>by rw [List.mem_replicate] at hd;omega,by simp,by rw [KU];simp [A8],fun j _ hj=>by rw [ad3,if_pos hj]⟩ (by omega) (by omega)
 ·rintro i _ again hi ⟨o,rfl,h1,h2,h3,h4⟩ ih
  unfold oL
  dsimp only
  have hy:a[i]? =some a[i]:=bD hi
  have hyd:=ha.get hy
  have hts:=gO hy
  generalize a[i]=x at hy hyd hts
  rw [bE (by omega),fT,hy,Option.bind_some]
  obtain ⟨o',c,k1,k2,k3,k4,k5,k6,k7⟩:=NR i x a (a.length:Int) (i:Int) b s1 a s2 b s3 l3 o hyd hb (by omega) (by omega) (by omega) (by omega) h1 (Int.natAbs (i:Int)+(Int.natAbs x+(Int.natAbs (0:Int)+(List.length a+(Int.natAbs (a.length:Int)+(Int.natAbs (i:Int)+(List.length b+(Int.natAbs ((List.length b:Int))+(Int.natAbs (0:Int)+(List.length a+(List.length b+(List.length l3+(List.length o+2))))))))))))) (by omega)
  rw [k1,aS]
  dsimp only
  have e1:w64 ((i:Int)+(b.length:Int))=((i+b.length:Nat):Int):=by rw [aA (by omega) (by omega)];omega
  have hz:o'[i+b.length]? =some 0:=by rw [k7 _ (aeX _)];exact h4 _ (aeX _) (by omega)
  rw [e1,bV (by simp only [ac1,afu];omega),adA,hz,Option.bind_some,Be (by omega) (by omega),aA (n:=(i:Int)+1) (by omega) (by omega)]
  refine ih _ ⟨_,rfl,k2.set (by omega),by rw [aeg];omega, ?_,fun j hj hj2=> ?_⟩
  ·rw [Ns hz,hts]
   have e3:(4294967296:Int) ^ (i+b.length)=4294967296 ^ i*4294967296 ^ b.length:=adu ..
   rw [e3] at k6 ⊢
   grind
  ·rw [ad5 (by omega),k7 j (by omega)];exact h4 j (by omega) hj2
 ·rintro _ again ⟨o,rfl,h1,h2,h3,h4⟩
  unfold oL
  dsimp only
  rw [bH (by omega)]
  rw [aeN (aeX _)] at h3
  exact ⟨o,rfl,h1,h2,h3⟩
theorem uL (x y:Int) (hx:x.natAbs<4294967296 ^ 99) (hy:y.natAbs<4294967296 ^ 99):iZ (W x) (W y)=some (W (x*y),()):=by
 have hlx:=qL hx
 have hly:=qL hy
 unfold iZ W
 dsimp only
 have e1:w64 (((bq x.natAbs).length:Int)+((bq y.natAbs).length:Int))=(((bq x.natAbs).length+(bq y.natAbs).length:Nat):Int):=by rw [aA (by omega) (by omega)];omega
 rw [e1,bV (by simp only [ac1,afu];omega)]
 obtain ⟨o,h1,h2,h3,h4⟩:=NS (bq x.natAbs) (bq y.natAbs) (dJ _) (dJ _) (by omega) (by omega) (decide (x<0)) (decide (y<0)) false [] (List.length (bq x.natAbs)+(Int.natAbs ((List.length (bq x.natAbs):Int))+(Int.natAbs (0:Int)+(List.length (bq x.natAbs)+(List.length (bq y.natAbs)+(List.length ([]:List Int)+(List.length ((List.replicate (Int.toNat (((bq x.natAbs).length+(bq y.natAbs).length:Nat):Int)) 0):List Int)+2))))))) (by omega)
 rw [adA] at h1 ⊢
 rw [h1,aS]
 dsimp only
 rw [jh _ _ h2 (by omega),Option.bind_some,h4,dH,dH]
 show some (W _,())=some (W (x*y),())
 congr 3
 rw [← Int.natCast_mul, ← adq]
 by_cases h:x<0<;>by_cases h':y<0
 ·have:=Int.mul_pos_of_neg_of_neg h h'
  simp [h,h'];omega
 ·have:=ado (show 0≤ -x by omega) (show 0≤y by omega)
  rw [Int.neg_mul] at this
  simp [h,h'];omega
 ·have:=ado (show 0≤x by omega) (show 0≤ -y by omega)
  rw [Int.mul_neg] at this
  simp [h,h'];omega
 ·have:=ado (show 0≤x by omega) (show 0≤y by omega)
  simp [h,h'];omega
end Go.Md
namespace Go.Md
open Go.Dn
def Le (k:Nat) (z:Int):Prop:=z.natAbs≤10 ^ k
theorem Le.mul {a b:Nat} {x y:Int} (hx:Le a x) (hy:Le b y):Le (a+b) (x*y):=by
 unfold Le at*
 rw [adq,afc]
 exact Nat.mul_le_mul hx hy
theorem Le.mono {a b:Nat} {x:Int} (hx:Le a x) (h:a≤b):Le b x:=aeY hx (afd (by omega) h)
theorem Le.add {a:Nat} {x y:Int} (hx:Le a x) (hy:Le a y):Le (a+1) (x+y):=by
 unfold Le at*
 rw [afe]
 omega
theorem Le.neg {a:Nat} {x:Int} (hx:Le a x):Le a (-x):=by unfold Le at *;omega
theorem Le.w {k:Nat} {z:Int} (h:Le k z) (hk:k≤900):z.natAbs<4294967296 ^ 99:=
 aeZ (h.mono hk) (by decide +kernel)
theorem Le.n {k:Nat} {z:Int} (h:Le k z) (hk:k≤500):(dg6 z.natAbs).length<90:=by
 have:=Xm (k:=84) (n:=z.natAbs) (aeZ (h.mono hk) (by decide +kernel))
 omega
theorem Le.pow (n:Nat):Le n (10 ^ n):=by
 unfold Le
 rw [ads];exact aeX _
theorem Le.int {n:Int} (h1: -9223372036854775808≤n) (h2:n≤9223372036854775807):Le 19 n:=by unfold Le;omega
theorem Le.succ {k n:Nat} (h:Le k (n:Int)):Le (k+1) ((n+1:Nat):Int):=by
 unfold Le at*
 rw [afe]
 have:1≤10 ^ k:=Nat.pow_pos (by omega)
 omega
theorem SP (n:Nat) (hn:n≤60):w6 (n:Int)=some (W (10 ^ n),()):=by
 unfold w6
 rw [mm 1 (by omega) (by omega),Option.bind_some]
 dsimp only
 have loop:∀ (f:Nat),n<f→iter f (((n:Int),(0:Int),false,([]:List Int),(W 1).1,(W 1).2,()):qu) vn=some (Sum.inr (false,[],(W (10 ^ n)).1,(W (10 ^ n)).2,())):=by
  intro f hf
  refine bQ (Inv:=fun i X=>X=(((n:Int),(i:Int),false,([]:List Int),(W (10 ^ i)).1,(W (10 ^ i)).2,()):qu)) n (fun r=>r=some (Sum.inr (false,[],(W (10 ^ n)).1,(W (10 ^ n)).2,()))) ?_ ?_ f 0 _ rfl (by omega) (by omega)
  ·rintro i _ again hi rfl ih
   unfold vn
   dsimp only
   rw [bE (by omega),mm 10 (by omega) (by omega),Option.bind_some]
   dsimp only
   rw [uL (10 ^ i) 10 ((Le.pow i).w (by omega)) ((Le.int (n:=10) (by omega) (by omega)).w (by omega)),Option.bind_some,aA (by omega) (by omega)]
   refine ih _ ?_
   rw [adv]
   rfl
  ·rintro _ again rfl
   unfold vn
   dsimp only
   rw [bH (by omega)]
 rw [loop _ (by omega),aS]
theorem OP (d:aa) (p:Int) (h1: -9223372036854775808≤d.1) (h2:d.1≤9223372036854775807) (hp0:0≤p - d.2) (hp:p - d.2≤60) (hd: -1000≤d.2∧d.2≤1000):xd d p=some (W (d.1*10 ^ (p - d.2).toNat),()):=by
 unfold xd
 rw [mm _ h1 h2,Option.bind_some,aA (by omega) (by omega)]
 obtain ⟨n,hn⟩:∃ n:Nat,p - d.2=n:=⟨(p - d.2).toNat,by omega⟩
 rw [hn,SP n (by omega),Option.bind_some]
 dsimp only
 rw [uL _ _ ((Le.int h1 h2).w (by omega)) ((Le.pow n).w (by omega)),Option.bind_some,adA]
end Go.Md
namespace Go.Md
open Go.Dn
theorem Ua {α:Type} {l:List α} {k:Nat} {y:α} (h:l[k]? =some y):l.drop k=y::l.drop (k+1):=by
 obtain ⟨hk,rfl⟩:=List.getElem?_eq_some_iff.1 h
 exact adL hk
end Go.Md
namespace Go.Md
open Go.Dn
theorem W9 (z limit:Int) (h0:0<limit) (h1:limit≤1000000000000000000) (hz:Le 500 z):J1 (N z) limit=some (if z.natAbs≤limit then (z,true,()) else (0,false,())):=by
 unfold J1
 rw [uo limit (by omega) (by omega),Option.bind_some]
 have hl:=hz.n (by omega)
 have hl2:(dg6 limit.natAbs).length<90:=(Le.int (n:=limit) (by omega) (by omega)).n (by omega)
 show Option.bind (A2 (dg6 z.natAbs) (dg6 limit.natAbs)) _=_
 obtain ⟨c,k1,k2,k3⟩:=OF z.natAbs limit.natAbs (by omega) (by omega)
 rw [k1,Option.bind_some]
 dsimp only
 by_cases hc:c>0
 ·rw [bE hc,if_neg (by omega)]
 ·rw [bH hc,if_pos (by omega)]
  show aJ (iter _ ((0:Int),w64 (((dg6 z.natAbs).length:Int) - 1),decide (z<0),dg6 z.natAbs,()) _) _=_
  have hdig:=pP z.natAbs
  have hval:=xO z.natAbs
  rw [show (N z).2=dg6 z.natAbs from rfl]
  generalize hd:dg6 z.natAbs=d at*
  rw [aA (n:=(d.length:Int) - 1) (by omega) (by omega)]
  have loop:∀ f,d.length<f→iter f (((0:Int),(d.length:Int) - 1,decide (z<0),d,()):wO) By=some (Sum.inr ((z.natAbs:Int),decide (z<0),d,())):=by
   intro f hf
   refine bQ (Inv:=fun i X=>X=((v6 (d.drop (d.length - i)),(d.length:Int) - i - 1,decide (z<0),d,()):wO)) d.length
    (fun r=>r=some (Sum.inr ((z.natAbs:Int),decide (z<0),d,()))) ?_ ?_ f 0 _ ?_ (by omega) (by omega)
   ·rintro i _ again hi rfl ih
    unfold By
    dsimp only
    obtain ⟨k,hk⟩:∃ k,d.length - i=k+1:=⟨d.length - i - 1,by omega⟩
    have hki:d.length - (i+1)=k:=by omega
    have hy:d[k]? =some (d[k]'(by omega)):=bD (by omega)
    have hyd:=hdig.get hy
    have hcons:=Ua hy
    generalize d[k]'(by omega)=y at hy hyd hcons
    rw [hk]
    rw [hki,hcons,I4] at ih
    have hnn:=mj (hdig.drop (k+1))
    have hle:y+1000000*v6 (d.drop (k+1))≤z.natAbs:=by
     have h1:v6 (d.drop k)*1000000 ^ k+v6 (d.take k)=z.natAbs:=by
      have:=M0 (d.take k) (d.drop k)
      rw [aeJ,hval,aeh,ae5 (by omega)] at this
      rw [this,Int.mul_comm,Int.add_comm]
     have h2:=mj (hdig.take k)
     have h3:(1:Int)≤1000000 ^ k:=J0 (by omega) k
     rw [hcons,I4] at h1
     have h4:0≤(y+1000000*v6 (d.drop (k+1)))*(1000000 ^ k - 1):=ado (by omega) (by omega)
     rw [Int.mul_sub,adp] at h4
     omega
    generalize v6 (d.drop (k+1))=V at*
    have hi1:(d.length:Int) - i - 1=((k:Nat):Int):=by omega
    rw [hi1,bE (by omega),fT,hy,Option.bind_some,aA (n:=V*1000000) (by omega) (by omega),aA (n:=V*1000000+y) (by omega) (by omega),aA (n:=(k:Int) - 1) (by omega) (by omega)]
    refine ih _ ?_
    rw [show V*1000000+y=y+1000000*V by omega,show (k:Int) - 1=(d.length:Int) - ((i+1:Nat):Int) - 1 by omega]
   ·rintro _ again rfl
    unfold By
    dsimp only
    rw [bH (by omega),Nat.sub_self,adO,hval]
   ·rw [Nat.sub_zero,List.drop_length,I5,show ((d.length:Int) - ((0:Nat):Int) - 1)=(d.length:Int) - 1 by omega]
  rw [loop _ (by omega),aS]
  dsimp only
  by_cases hn:z<0
  ·rw [bE hn,aA (by omega) (by omega)]
   congr 2;omega
  ·rw [bH hn]
   congr 2;omega
end Go.Md
namespace Go.Md
open Go.Dn
end Go.Md
namespace Go.Md
open Go.Dn
instance (d:aa):Decidable (cr d):=by unfold cr;exact inferInstance
def inR (d:aa) (lo hi pl:Int):Bool:=decide (cr d∧d.2≤pl∧lo*10 ^ d.2.toNat≤d.1∧d.1≤hi*10 ^ d.2.toNat)
theorem aah {d:aa} (h0:0≤d.2) (h1:d.2≤9) (k:Int):k*10 ^ 9=k*10 ^ d.2.toNat*10 ^ (9 - d.2).toNat:=by
 rw [adm, ← adu,show d.2.toNat+(9 - d.2).toNat=9 by omega]
theorem aa6 {d:aa} (h0:0≤d.2) (h1:d.2≤9) (k:Int):lQ d≤k*10 ^ 9↔d.1≤k*10 ^ d.2.toNat:=by
 unfold lQ
 rw [aah h0 h1]
 exact Int.mul_le_mul_right (Ck _)
theorem nJ (d:aa):eP d=some (if cr d then 0 else 1,()):=by
 rw [GN]
 congr 2
 by_cases h:cr d
 ·rw [if_pos h,if_pos (by unfold cr at h;omega)]
 ·rw [if_neg h,if_neg (by unfold cr at h;omega)]
theorem ju (d:aa):eZ d=some (if cr d then 0 else 1,()):=by
 rw [MQ]
 congr 2
 by_cases h:cr d
 ·rw [if_pos h,if_pos (by unfold cr at h;omega)]
 ·rw [if_neg h,if_neg (by unfold cr at h;omega)]
end Go.Md
namespace Go.Md
open Go.Dn
theorem AV (n:Int) (h0:0≤n) (h1:n≤18):Bp n=some (10 ^ n.toNat,()):=TR n h0 h1
theorem AA (d:aa):mL d=some (if inR d 0 1000000000 4=true then 0 else 1,()):=by
 unfold mL p7
 rw [nJ,Option.bind_some]
 by_cases hd:cr d
 ·have hp:=Ck d.2.toNat
  have hp2:(10:Int) ^ d.2.toNat≤1000000000:=by
   have:=afd (n:=10) (by omega) (show d.2.toNat≤9 by have:=hd.2.2;omega)
   have h2:=Int.ofNat_le.2 this
   simpa using h2
  rw [AV d.2 hd.2.1 (by have:=hd.2.2;omega)]
  dsimp only
  rw [if_pos hd,show ((0:Int) != 0)=false from rfl,cond_false]
  have e:inR d 0 1000000000 4=(decide (d.2≤4)&&(decide (d.1≥0)&&decide (d.1≤1000000000*10 ^ d.2.toNat))):=by
   unfold inR
   rw [← Bool.decide_and, ← Bool.decide_and,afr,Int.zero_mul]
   constructor
   ·rintro ⟨_,h2,h3,h4⟩;exact ⟨h2,h3,h4⟩
   ·rintro ⟨h2,h3,h4⟩;exact ⟨hd,h2,h3,h4⟩
  rw [e,Option.bind_some,aA (n:=1000000000*10 ^ d.2.toNat) (by omega) (by omega)]
  cases decide (d.2≤4)<;>cases decide (d.1≥0)<;>cases decide (d.1≤1000000000*10 ^ d.2.toNat)<;>rfl
 ·have:inR d 0 1000000000 4=false:=by unfold inR;simp [hd]
  simp [hd,this]
end Go.Md
namespace Go.Md
open Go.Dn
theorem Mw:∀ (n:Nat) (l:List Nat),l.Nodup→(∀ x∈l,x<n)→l.length≤n
 | 0,l,_,h=>by
  cases l with
  | nil=>simp
  | cons a r=>exact absurd (h a (by simp)) (afa _)
 | n+1,l,hd,h=>by
  by_cases hm:n∈l
  ·have h1:=Mw n (l.erase n) (hd.erase n) (fun x hx=>by
    have:=(hd.mem_erase_iff).1 hx
    have:=h x this.2
    omega)
   rw [List.length_erase_of_mem hm] at h1
   omega
  ·have:=Mw n l hd (fun x hx=>by
    have h2:=h x hx
    have:x≠n:=fun e=>hm (e ▸ hx)
    omega)
   omega
def itp (par:Nat→Option Nat):Nat→Nat→Option Nat
 | 0,i=>some i
 | j+1,i=>(par i).bind (itp par j)
def Cv (par:Nat→Option Nat) (i k d:Nat):Prop:=itp par (d+1) k=some i∧∀ e,e<d→itp par (e+1) k≠some i
theorem Cv.uniq {par:Nat→Option Nat} {i k d e:Nat} (h:Cv par i k d) (h':Cv par i k e):d=e:=by
 rcases ae4 d e with h1 | h1 | h1
 ·exact absurd h.1 (h'.2 d h1)
 ·exact h1
 ·exact absurd h'.1 (h.2 e h1)
theorem Cv.step {par:Nat→Option Nat} {i k d:Nat} (h:Cv par i k d):∃ k',par k=some k'∧((k'=i∧d=0)∨(k'≠i∧∃ e,d=e+1∧Cv par i k' e)):=by
 obtain ⟨h1,h2⟩:=h
 simp only [itp] at h1
 cases hp:par k with
 | none=>rw [hp] at h1;cases h1
 | some k'=>
  rw [hp] at h1
  refine ⟨k',rfl, ?_⟩
  cases d with
  | zero=>simp only [Option.bind_some,itp,Option.some.injEq] at h1;exact .inl ⟨h1,rfl⟩
  | succ e=>
   right
   refine ⟨fun e1=> ?_,e,rfl,by simpa using h1,fun f hf hx=> ?_⟩
   ·refine h2 0 (by omega) ?_
    simp only [itp,hp,Option.bind_some,e1]
   ·refine h2 (f+1) (by omega) ?_
    rw [show f+1+1=(f+1)+1 from rfl]
    show (par k).bind (itp par (f+1))=some i
    rw [hp];exact hx
theorem Cv.list {par:Nat→Option Nat} {i n:Nat} (hn:∀ k k',par k=some k'→k'<n):∀ {d k:Nat},k<n→Cv par i k d→∃ l:List Nat,l.length=d+1∧l.Nodup∧(∀ x∈l,x<n)∧∀ x∈l,∃ e,e≤d∧Cv par i x e
 | 0,k,hk,h=>⟨[k],rfl,by simp,by simpa using hk,fun x hx=>by simp at hx;subst hx;exact ⟨0,aeX _,h⟩⟩
 | d+1,k,hk,h=>by
  obtain ⟨k',h1,h2⟩:=h.step
  rcases h2 with ⟨_,h2⟩ | ⟨_,e,h2,h3⟩
  ·omega
  ·have:e=d:=by omega
   subst this
   obtain ⟨l,l1,l2,l3,l4⟩:=Cv.list hn (hn _ _ h1) h3
   refine ⟨k::l,by simp [l1],List.nodup_cons.2 ⟨fun hm=> ?_,l2⟩,fun x hx=> ?_,fun x hx=> ?_⟩
   ·obtain ⟨f,f1,f2⟩:=l4 k hm
    have:=f2.uniq h
    omega
   ·rcases aeq.1 hx with rfl | hx
    ·exact hk
    ·exact l3 x hx
   ·rcases aeq.1 hx with rfl | hx
    ·exact ⟨e+1,aeX _,h⟩
    ·obtain ⟨f,f1,f2⟩:=l4 x hx;exact ⟨f,by omega,f2⟩
theorem Cv.le {par:Nat→Option Nat} {i n d k:Nat} (hn:∀ k k',par k=some k'→k'<n) (hk:k<n) (h:Cv par i k d):d+1≤n:=by
 obtain ⟨l,l1,l2,l3,_⟩:=h.list hn hk
 have:=Mw n l l2 l3
 omega
end Go.Md
namespace Go.Md
open Go.Dn
def Et (c:UInt8):Bool:=decide (48≤c.toNat)&&decide (c.toNat≤57)
theorem Vq {c:UInt8}:(decide ((c.toNat:Int)<48)=false∧decide ((c.toNat:Int)>57)=false)↔Et c=true:=by
 simp only [Et,ac1,afu,aft]
 omega
theorem QU (s:List UInt8) (hs:s.length≤9223372036854775807):pT s=some (decide (s≠[])&&s.all Et,()):=by
 unfold pT G9
 by_cases h0:s=[]
 ·subst h0;rfl
 ·rw [show (!(s==[]))=true by cases s<;>simp_all,cond_true,decide_eq_true h0,adh]
  have loop:∀ f,s.length<f→iter f ((s,(48:Int),(57:Int),(s.length:Int),(0:Int),()):pS) u5=(if s.all Et=true then some (Sum.inr ()) else some (Sum.inl (false,()))):=by
   intro f hf
   refine bQ (Inv:=fun i X=>X=((s,(48:Int),(57:Int),(s.length:Int),(i:Int),()):pS)∧(s.take i).all Et=true) s.length
    (fun r=>r=(if s.all Et=true then some (Sum.inr ()) else some (Sum.inl (false,())))) ?_ ?_ f 0 _ ⟨rfl,by simp⟩ (by omega) (by omega)
   ·rintro i _ again hi ⟨rfl,hb⟩ ih
    unfold u5
    dsimp only
    have hy:s[i]? =some s[i]:=bD hi
    have hym:s[i]∈s:=aea hi
    generalize s[i]=y at hy hym
    rw [bE (by omega),PK hy,Option.bind_some,Option.bind_some,aA (by omega) (by omega)]
    cases hd:Et y with
    | true=>
     obtain ⟨h1,h2⟩:=Vq.2 hd
     rw [h1,h2,cond_false,cond_false]
     refine ih _ ⟨rfl, ?_⟩
     rw [rY hy]
     simp [hb,hd]
    | false=>
     have hall:s.all Et=false:=by
      rw [List.all_eq_false]
      exact ⟨y,hym,by simp [hd]⟩
     rw [hall]
     cases h1:decide ((y.toNat:Int)<48) with
     | true=>rfl
     | false=>
      cases h2:decide ((y.toNat:Int)>57) with
      | true=>rfl
      | false=>have:=Vq.1 ⟨h1,h2⟩;rw [hd] at this;cases this
   ·rintro _ again ⟨rfl,hb⟩
    unfold u5
    dsimp only
    rw [bH (by omega)]
    rw [aeN (aeX _)] at hb
    rw [if_pos hb]
  rw [loop _ (by omega)]
  cases s.all Et<;>rfl
def qOk (d:aa) (zero:Bool):Bool:=inR d 0 1000000000 3&&(!(d.1==0)||zero)
theorem Q9 {d:aa} (hd:cr d):p7 d 3 1000000000=some (inR d 0 1000000000 3,()):=by
 unfold p7
 have hp:=Ck d.2.toNat
 have hp2:(10:Int) ^ d.2.toNat≤1000000000:=by
  have:=afd (n:=10) (by omega) (show d.2.toNat≤9 by have:=hd.2.2;omega)
  have h2:=Int.ofNat_le.2 this
  simpa using h2
 rw [AV d.2 hd.2.1 (by have:=hd.2.2;omega)]
 have e:inR d 0 1000000000 3=(decide (d.2≤3)&&(decide (d.1≥0)&&decide (d.1≤1000000000*10 ^ d.2.toNat))):=by
  unfold inR
  rw [← Bool.decide_and, ← Bool.decide_and,afr,Int.zero_mul]
  constructor
  ·rintro ⟨_,h2,h3,h4⟩;exact ⟨h2,h3,h4⟩
  ·rintro ⟨h2,h3,h4⟩;exact ⟨hd,h2,h3,h4⟩
 rw [e,Option.bind_some,aA (n:=1000000000*10 ^ d.2.toNat) (by omega) (by omega)]
 cases decide (d.2≤3)<;>cases decide (d.1≥0)<;>cases decide (d.1≤1000000000*10 ^ d.2.toNat)<;>rfl
theorem wK (d:aa) (z:Bool):jt d z=some (if qOk d z=true then 0 else 1,()):=by
 unfold jt qOk
 rw [nJ,Option.bind_some]
 by_cases hd:cr d
 ·rw [Q9 hd,if_pos hd]
  dsimp only
  rw [show ((0:Int) != 0)=false from rfl,cond_false,Option.bind_some]
  cases inR d 0 1000000000 3<;>cases (d.1==0)<;>cases z<;>rfl
 ·have:inR d 0 1000000000 3=false:=by unfold inR;simp [hd]
  simp [hd,this]
end Go.Md
