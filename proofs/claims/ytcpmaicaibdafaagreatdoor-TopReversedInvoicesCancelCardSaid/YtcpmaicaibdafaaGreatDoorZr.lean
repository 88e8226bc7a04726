/-
  Plain facts: products, powers, rounding; the order of strings; decimals. No condition.
-/
import Derived.Test.YtcpmaicaibdafaaGreatDoorZq
import Derived.Test.YtcpmaicaibdafaaGreatDoorZn
import Derived.Test.YtcpmaicaibdafaaGreatDoorZp
set_option linter.all false
namespace Go.Md
open Go.Dn
theorem zne:((0:Int) != 0)=false:=rfl
theorem OI (v:ah):(v.1,v.2.1,v.2.2.1,v.2.2.2.1,v.2.2.2.2.1,v.2.2.2.2.2.1,v.2.2.2.2.2.2.1,v.2.2.2.2.2.2.2.1,v.2.2.2.2.2.2.2.2)=v:=rfl
theorem U3 (a b:List Int):JG a b=E2 a b:=rfl
theorem cO (x y:Int) (hx:x.natAbs<4294967296 ^ 99) (hy:y.natAbs<4294967296 ^ 99):bf (W x) (W y)=some (W (x+y),()):=by
 have hlx:=vF hx
 have hly:=vF hy
 unfold bf W
 dsimp only
 by_cases hs:decide (x<0)=decide (y<0)
 ·rw[show (decide (x<0)==decide (y<0))=true by simp[hs],ajo,U3]
  obtain⟨s,h1,h2,h3,h4⟩:=OK (bH x.natAbs) (bH y.natAbs) (fI _) (fI _) (by omega) (by omega)
  rw[h1,ajb]
  dsimp only
  rw[kZ _ _ h2 (by omega),ajb,h3,fK,fK]
  simp only[ajp] at hs
  show some (W _,())=some (W (x+y),())
  congr 3
  by_cases h:x<0
  ·simp only[h,aju,ajA];omega
  ·simp only[h,ajt,agG,ajx];omega
 ·rw[show (decide (x<0)==decide (y<0))=false by simp[hs],ajn]
  obtain⟨c,h1,h2,h3⟩:=HJ x.natAbs y.natAbs (by omega) (by omega)
  rw[h1,ajb]
  dsimp only
  simp only[ajp] at hs
  have hlen:∀ a b:Nat,b≤a→(bH b).length≤(bH a).length:=fun a b h=>by
   rcases aiT (bH a).length (bH b).length with h' | h'
   ·have:=qx h';omega
   ·exact h'
  by_cases hc:c≥0
  ·rw[aP hc,Fq _ _ (fI _) (fI _) (by omega) (hlen _ _ (by omega)) (by rw[fK,fK];omega),ajb]
   dsimp only
   rw[kZ _ _ (fI _) (by have:=hlen x.natAbs (v32 (bH x.natAbs) - v32 (bH y.natAbs)).toNat (by rw[fK,fK];omega);omega),ajb]
   rw[fK,fK,fK]
   show some (W _,())=some (W (x+y),())
   congr 3
   by_cases h:x<0
   ·simp only[h,aju,ajA];omega
   ·simp only[h,ajt,agG,ajx];omega
  ·rw[aO hc,Fq _ _ (fI _) (fI _) (by omega) (hlen _ _ (by omega)) (by rw[fK,fK];omega),ajb]
   dsimp only
   rw[kZ _ _ (fI _) (by have:=hlen y.natAbs (v32 (bH y.natAbs) - v32 (bH x.natAbs)).toNat (by rw[fK,fK];omega);omega),ajb]
   rw[fK,fK,fK]
   show some (W _,())=some (W (x+y),())
   congr 3
   by_cases h:y<0
   ·simp only[h,aju,ajA];omega
   ·simp only[h,ajt,agG,ajx];omega
theorem Aw (x y:Int) (hx:x.natAbs<4294967296 ^ 99) (hy:y.natAbs<4294967296 ^ 99):qC (W x) (W y)=some (W (x - y),()):=by
 unfold qC
 rw[zi y hy,ajb]
 dsimp only
 rw[cO x (-y) hx (by omega),ajb,Int.sub_eq_add_neg]
theorem qv (x y:Int) (hx:x.natAbs<4294967296 ^ 99) (hy:y.natAbs<4294967296 ^ 99):kH (W x) (W y)=some ((x - y).sign,()):=by
 unfold kH
 rw[Aw x y hx hy,ajb]
 dsimp only
 rw[iu,ajb]
theorem RJ (z:Int):iw (W z)=some (decide (z.natAbs % 2=1),()):=by
 unfold iw W
 dsimp only
 by_cases hz:z=0
 ·subst hz;rfl
 ·have hp:0<z.natAbs:=by omega
  have e:bH z.natAbs=((z.natAbs % 4294967296:Nat):Int)::bH (z.natAbs / 4294967296):=EB (B:=4294967296) (by omega) hp
  rw[e]
  rw[aP (by simp only[ahT];omega)]
  rw[show (0:Int)=((0:Nat):Int) from rfl,bQ]
  simp only[ahD,ajb]
  have:=ZI (z.natAbs % 4294967296) 0 (by omega)
  simp only[Nat.zero_min,Int.pow_zero] at this
  rw[show Int.fdiv ((z.natAbs % 4294967296:Nat):Int) 1=((z.natAbs % 4294967296:Nat):Int) by rw[agU _ (by omega)];omega] at this
  rw[this]
  congr 2
  simp only[Nat.pow_zero,Nat.div_one]
  by_cases h:z.natAbs % 2=1
  ·rw[ajr h,show z.natAbs % 4294967296 % 2=1 by omega];rfl
  ·rw[ajq h,show z.natAbs % 4294967296 % 2=0 by omega];rfl
theorem ZC {x y z c:Int} (hx:0≤x∧x<4294967296) (hy:0≤y∧y<4294967296) (hz:0≤z∧z<4294967296) (hc:0≤c∧c<4294967296):0≤x*y∧x*y≤18446744065119617025∧c+(z+x*y)≤18446744073709551615:=by
 have h1:0≤x*y:=agZ hx.1 hy.1
 have h2:x*y≤4294967295*4294967295:=Int.mul_le_mul (by omega) (by omega) (by omega) (by omega)
 omega
theorem PW (i:Nat) (x:Int) (ga:List Int) (gn gi:Int) (b:List Int) (s1:Bool) (l1:List Int) (s2:Bool) (l2:List Int) (s3:Bool) (l3:List Int) (out:List Int) (hx:0≤x∧x<4294967296) (hb:Dg b) (hbl:b.length<10000) (hil:i<10000) (ho:i+b.length≤out.length) (hol:out.length<100000) (hd:Dg out) (n:Nat) (hn:b.length<n):
 ∃ o c,iter n (((i:Int),x,(0:Int),ga,gn,gi,b,(b.length:Int),(0:Int),s1,l1,s2,l2,s3,l3,out,()):oK) tj=some (Sum.inr ((i:Int),c,ga,gn,gi,s1,l1,s2,l2,s3,l3,o,()))∧
  Dg o∧o.length=out.length∧0≤c∧c<4294967296∧v32 o+4294967296 ^ (i+b.length)*c=v32 out+4294967296 ^ i*x*v32 b∧∀ j,i+b.length≤j→o[j]? =out[j]? :=by
 refine bX (Inv:=fun k X=>∃ o c,X=(((i:Int),x,c,ga,gn,gi,b,(b.length:Int),(k:Int),s1,l1,s2,l2,s3,l3,o,()):oK)∧Dg o∧o.length=out.length∧0≤c∧c<4294967296∧v32 o+4294967296 ^ (i+k)*c=v32 out+4294967296 ^ i*x*v32 (b.take k)∧∀ j,i+k≤j→o[j]? =out[j]?) b.length
  (fun r=>∃ o c,r=some (Sum.inr ((i:Int),c,ga,gn,gi,s1,l1,s2,l2,s3,l3,o,()))∧Dg o∧o.length=out.length∧0≤c∧c<4294967296∧v32 o+4294967296 ^ (i+b.length)*c=v32 out+4294967296 ^ i*x*v32 b∧∀ j,i+b.length≤j→o[j]? =out[j]?) ?_ ?_ n 0 _ ⟨out,0,rfl,hd,rfl,by omega,by omega,by simp[D6],fun _ _=>rfl⟩ (by omega) (by omega)
 ·rintro k _ again hk ⟨o,c,rfl,h1,h2,h3,h4,h5,h6⟩ ih
  unfold tj
  dsimp only
  have hy:b[k]? =some b[k]:=bu hk
  have hyd:=hb.get hy
  have hts:=kY hy
  have hz:o[i+k]? =some (o[i+k]'(by omega)):=bu (by omega)
  have hzd:=h1.get hz
  generalize b[k]=y at hy hyd hts
  generalize o[i+k]'(by omega)=z at hz hzd
  obtain⟨m1,m2,m3⟩:=ZC hx hyd hzd ⟨h3,h4⟩
  have e1:w64 ((i:Int)+(k:Int))=((i+k:Nat):Int):=by rw[aC (by omega) (by omega)];omega
  rw[aP (by omega),bQ,hy,ajb,e1,aW (by simp only[agC,ajs];omega),ahc,hz,ajb,aW (by simp only[agC,ajs];omega),ajb,
   fh (n:=x) (by omega) (by omega),fh (n:=y) (by omega) (by omega),fh (n:=z) (by omega) (by omega),fh (n:=x*y) (by omega) (by omega),fh (n:=z+x*y) (by omega) (by omega),fh (n:=c+(z+x*y)) (by omega) (by omega),Ec,Xw,aC (n:=(k:Int)+1) (by omega) (by omega)]
  generalize ht:c+(z+x*y)=t at*
  refine ih _ ⟨_,_,rfl,h1.set (by omega),by rw[ahY];exact h2,by omega,by omega, ?_,fun j hj=> ?_⟩
  ·rw[Pg hz,hts]
   have e2:(4294967296:Int) ^ (i+(k+1))=4294967296 ^ i*4294967296 ^ k*4294967296:=by rw[← aiE,ag8,ag7]
   have e3:(4294967296:Int) ^ (i+k)=4294967296 ^ i*4294967296 ^ k:=ag7 ..
   rw[e3] at h5
   rw[e2,e3]
   have e4:=Int.mul_ediv_add_emod t 4294967296
   generalize (4294967296:Int) ^ i=p at*
   generalize (4294967296:Int) ^ k=q at*
   generalize t / 4294967296=d at*
   generalize t % 4294967296=r at*
   grind
  ·rw[ahM (by omega)];exact h6 j (by omega)
 ·rintro _ again ⟨o,c,rfl,h1,h2,h3,h4,h5,h6⟩
  unfold tj
  dsimp only
  rw[aO (by omega)]
  rw[aiC (aiN _)] at h5
  exact⟨o,c,rfl,h1,h2,h3,h4,h5,h6⟩
theorem PX (a b:List Int) (ha:Dg a) (hb:Dg b) (hal:a.length<1000) (hbl:b.length<1000) (s1 s2 s3:Bool) (l3:List Int) (n:Nat) (hn:a.length<n):
 ∃ o,iter n ((a,(a.length:Int),(0:Int),s1,a,s2,b,s3,l3,List.replicate (a.length+b.length) 0,()):oJ) th=some (Sum.inr (s1,a,s2,b,s3,l3,o,()))∧Dg o∧o.length=a.length+b.length∧v32 o=v32 a*v32 b:=by
 refine bX (Inv:=fun i X=>∃ o,X=((a,(a.length:Int),(i:Int),s1,a,s2,b,s3,l3,o,()):oJ)∧Dg o∧o.length=a.length+b.length∧v32 o=v32 (a.take i)*v32 b∧∀ j,i+b.length≤j→j<a.length+b.length→o[j]? =some 0) a.length
  (fun r=>∃ o,r=some (Sum.inr (s1,a,s2,b,s3,l3,o,()))∧Dg o∧o.length=a.length+b.length∧v32 o=v32 a*v32 b) ?_ ?_ n 0 _ ⟨_,rfl,fun d hd=>by rw[List.mem_replicate] at hd;omega,by simp,by rw[Mj];simp[D6],fun j _ hj=>by rw[ahK,ajz hj]⟩ (by omega) (by omega)
 ·rintro i _ again hi ⟨o,rfl,h1,h2,h3,h4⟩ ih
  unfold th
  dsimp only
  have hy:a[i]? =some a[i]:=bu hi
  have hyd:=ha.get hy
  have hts:=kY hy
  generalize a[i]=x at hy hyd hts
  rw[aP (by omega),bQ,hy,ajb]
  obtain⟨o',c,k1,k2,k3,k4,k5,k6,k7⟩:=PW i x a (a.length:Int) (i:Int) b s1 a s2 b s3 l3 o hyd hb (by omega) (by omega) (by omega) (by omega) h1 (Int.natAbs (i:Int)+(Int.natAbs x+(Int.natAbs (0:Int)+(List.length a+(Int.natAbs (a.length:Int)+(Int.natAbs (i:Int)+(List.length b+(Int.natAbs ((List.length b:Int))+(Int.natAbs (0:Int)+(List.length a+(List.length b+(List.length l3+(List.length o+2))))))))))))) (by omega)
  rw[k1,aS]
  dsimp only
  have e1:w64 ((i:Int)+(b.length:Int))=((i+b.length:Nat):Int):=by rw[aC (by omega) (by omega)];omega
  have hz:o'[i+b.length]? =some 0:=by rw[k7 _ (aiN _)];exact h4 _ (aiN _) (by omega)
  rw[e1,aW (by simp only[agC,ajs];omega),ahc,hz,ajb,Eb (by omega) (by omega),aC (n:=(i:Int)+1) (by omega) (by omega)]
  refine ih _ ⟨_,rfl,k2.set (by omega),by rw[ahY];omega, ?_,fun j hj hj2=> ?_⟩
  ·rw[Pg hz,hts]
   have e3:(4294967296:Int) ^ (i+b.length)=4294967296 ^ i*4294967296 ^ b.length:=ag7 ..
   rw[e3] at k6 ⊢
   grind
  ·rw[ahM (by omega),k7 j (by omega)];exact h4 j (by omega) hj2
 ·rintro _ again ⟨o,rfl,h1,h2,h3,h4⟩
  unfold th
  dsimp only
  rw[aO (by omega)]
  rw[aiC (aiN _)] at h3
  exact⟨o,rfl,h1,h2,h3⟩
theorem dB (x y:Int) (hx:x.natAbs<4294967296 ^ 99) (hy:y.natAbs<4294967296 ^ 99):dx (W x) (W y)=some (W (x*y),()):=by
 have hlx:=vF hx
 have hly:=vF hy
 unfold dx W
 dsimp only
 have e1:w64 (((bH x.natAbs).length:Int)+((bH y.natAbs).length:Int))=(((bH x.natAbs).length+(bH y.natAbs).length:Nat):Int):=by rw[aC (by omega) (by omega)];omega
 rw[e1,aW (by simp only[agC,ajs];omega)]
 obtain⟨o,h1,h2,h3,h4⟩:=PX (bH x.natAbs) (bH y.natAbs) (fI _) (fI _) (by omega) (by omega) (decide (x<0)) (decide (y<0)) false [] (List.length (bH x.natAbs)+(Int.natAbs ((List.length (bH x.natAbs):Int))+(Int.natAbs (0:Int)+(List.length (bH x.natAbs)+(List.length (bH y.natAbs)+(List.length ([]:List Int)+(List.length ((List.replicate (Int.toNat (((bH x.natAbs).length+(bH y.natAbs).length:Nat):Int)) 0):List Int)+2))))))) (by omega)
 rw[ahc] at h1 ⊢
 rw[h1,aS]
 dsimp only
 rw[kZ _ _ h2 (by omega),ajb,h4,fK,fK]
 show some (W _,())=some (W (x*y),())
 congr 3
 rw[← ag4, ← ag0]
 by_cases h:x<0<;>by_cases h':y<0
 ·have:=Int.mul_pos_of_neg_of_neg h h'
  simp[h,h'];omega
 ·have:=agZ (show 0≤ -x by omega) (show 0≤y by omega)
  rw[ag6] at this
  simp[h,h'];omega
 ·have:=agZ (show 0≤x by omega) (show 0≤ -y by omega)
  rw[Int.mul_neg] at this
  simp[h,h'];omega
 ·have:=agZ (show 0≤x by omega) (show 0≤y by omega)
  simp[h,h'];omega
end Go.Md
namespace Go.Md
open Go.Dn
def Le (k:Nat) (z:Int):Prop:=z.natAbs≤10 ^ k
theorem Le.mul {a b:Nat} {x y:Int} (hx:Le a x) (hy:Le b y):Le (a+b) (x*y):=by
 unfold Le at*
 rw[ag0,ai4]
 exact ai0 hx hy
theorem Le.mono {a b:Nat} {x:Int} (hx:Le a x) (h:a≤b):Le b x:=aiO hx (ai5 (by omega) h)
theorem Le.add {a:Nat} {x y:Int} (hx:Le a x) (hy:Le a y):Le (a+1) (x+y):=by
 unfold Le at*
 rw[ai6]
 omega
theorem Le.neg {a:Nat} {x:Int} (hx:Le a x):Le a (-x):=by unfold Le at *;omega
theorem Le.w {k:Nat} {z:Int} (h:Le k z) (hk:k≤900):z.natAbs<4294967296 ^ 99:=
 aiR (h.mono hk) (by decide +kernel)
theorem Le.n {k:Nat} {z:Int} (h:Le k z) (hk:k≤500):(dg6 z.natAbs).length<90:=by
 have:=aeI (k:=84) (n:=z.natAbs) (aiR (h.mono hk) (by decide +kernel))
 omega
theorem Le.pow (n:Nat):Le n (10 ^ n):=by
 unfold Le
 rw[ag3];exact aiN _
theorem Le.nat {k n:Nat} (h:n≤10 ^ k):Le k (n:Int):=h
theorem Le.int {n:Int} (h1: -9223372036854775808≤n) (h2:n≤9223372036854775807):Le 19 n:=by unfold Le;omega
theorem Le.succ {k n:Nat} (h:Le k (n:Int)):Le (k+1) ((n+1:Nat):Int):=by
 unfold Le at*
 rw[ai6]
 have:1≤10 ^ k:=Nat.pow_pos (by omega)
 omega
theorem KF (n:Nat) (hn:n≤60):qy (n:Int)=some (W (10 ^ n),()):=by
 unfold qy
 rw[di 1 (by omega) (by omega),ajb]
 dsimp only
 have loop:∀ (f:Nat),n<f→iter f (((n:Int),(0:Int),false,([]:List Int),(W 1).1,(W 1).2,()):vh) zU=some (Sum.inr (false,[],(W (10 ^ n)).1,(W (10 ^ n)).2,())):=by
  intro f hf
  refine bX (Inv:=fun i X=>X=(((n:Int),(i:Int),false,([]:List Int),(W (10 ^ i)).1,(W (10 ^ i)).2,()):vh)) n (fun r=>r=some (Sum.inr (false,[],(W (10 ^ n)).1,(W (10 ^ n)).2,()))) ?_ ?_ f 0 _ rfl (by omega) (by omega)
  ·rintro i _ again hi rfl ih
   unfold zU
   dsimp only
   rw[aP (by omega),di 10 (by omega) (by omega),ajb]
   dsimp only
   rw[dB (10 ^ i) 10 ((Le.pow i).w (by omega)) ((Le.int (n:=10) (by omega) (by omega)).w (by omega)),ajb,aC (by omega) (by omega)]
   refine ih _ ?_
   rw[ag8]
   rfl
  ·rintro _ again rfl
   unfold zU
   dsimp only
   rw[aO (by omega)]
 rw[loop _ (by omega),aS]
theorem vq (d:ai) (p:Int) (h1: -9223372036854775808≤d.1) (h2:d.1≤9223372036854775807) (hp0:0≤p - d.2) (hp:p - d.2≤60) (hd: -1000≤d.2∧d.2≤1000):mQ d p=some (W (d.1*10 ^ (p - d.2).toNat),()):=by
 unfold mQ
 rw[di _ h1 h2,ajb,aC (by omega) (by omega)]
 obtain⟨n,hn⟩:∃ n:Nat,p - d.2=n:=⟨(p - d.2).toNat,by omega⟩
 rw[hn,KF n (by omega),ajb]
 dsimp only
 rw[dB _ _ ((Le.int h1 h2).w (by omega)) ((Le.pow n).w (by omega)),ajb,ahc]
def F5 (way:Int) (neg:Bool) (q r b:Nat):Bool:=
 if way=1 then decide (b≤2*r)
 else if way=2 then decide (b<2*r∨(2*r=b∧q % 2=1))
 else if way=4 then decide (0<r)
 else if way=5 then neg&&decide (0<r)
 else if way=6 then !neg&&decide (0<r)
 else false
def rnd (way a:Int) (b:Nat):Int:=
 let u:Nat:=a.natAbs / b+(if F5 way (decide (a<0)) (a.natAbs / b) (a.natAbs % b) b=true then 1 else 0)
 if a<0 then -(u:Int) else (u:Int)
theorem acX {way a:Int} {b k:Nat} (h:Le k a):Le (k+1) (rnd way a b):=by
 unfold Le at*
 unfold rnd
 have h1:a.natAbs / b≤a.natAbs:=Nat.div_le_self _ _
 have h2:1≤10 ^ k:=Nat.pow_pos (by omega)
 rw[ai6]
 dsimp only
 generalize F5 way (decide (a<0)) (a.natAbs / b) (a.natAbs % b) b=up
 generalize a.natAbs / b=q at*
 split<;>split<;>omega
theorem Fs (a:Int) (b:Nat) (way:Int) (hb:0<b) (ha:Le 800 a) (hb2:Le 800 (b:Int)):uC (W a) (W b) way=some (W (rnd way a b),()):=by
 have e0:(b:Int).natAbs=b:=rfl
 unfold uC
 rw[Dh a b (ha.w (by omega)) (hb2.w (by omega)) (by omega),ajb,e0]
 dsimp only
 have hq:Le 800 ((a.natAbs / b:Nat):Int):=aiO (Nat.div_le_self _ _) ha
 have hr:Le 800 ((a.natAbs % b:Nat):Int):=aiO (Nat.mod_le _ _) ha
 have hrb:=aiY a.natAbs hb
 unfold rnd
 generalize a.natAbs / b=q at*
 generalize a.natAbs % b=r at*
 rw[iu,ajb]
 dsimp only
 have inc:bf (W q) (W 1)=some (W ((q+1:Nat):Int),()):=cO q 1 (hq.w (by omega)) ((Le.int (n:=1) (by omega) (by omega)).w (by omega))
 have one:bJ 1=some (W 1,()):=di 1 (by omega) (by omega)
 have hq1:Le 801 ((q+1:Nat):Int):=hq.succ
 have mi:∀ z:Int,Le 801 z→aI (W z)=some (W (-z),()):=fun z h=>zi z (h.w (by omega))
 have sg:∀ z:Int,aG (W z)=some (z.sign,()):=iu
 have od:iw (W (q:Int))=some (decide (q % 2=1),()):=RJ q
 have an:decide (a.sign<0)=decide (a<0):=by rw[ajp];exact Int.sign_neg_iff
 by_cases h0:r=0
 ·subst h0
  rw[show ((Int.sign ((0:Nat):Int)) != 0)=false from rfl,ajn,sg,ajb]
  dsimp only
  rw[an]
  have hu:F5 way (decide (a<0)) q 0 b=false:=by
   unfold F5
   split
   ·simp;omega
   ·split
    ·simp;omega
    ·simp
  rw[hu]
  by_cases hn:a<0
  ·rw[aP hn,mi _ (hq.mono (by omega)),ajb]
   simp[hn]
  ·rw[aO hn]
   simp[hn]
 ·have hs:((Int.sign (r:Int)) != 0)=true:=by
   rw[aha (by omega)];rfl
  rw[hs,ajo,cO r r (hr.w (by omega)) (hr.w (by omega)),ajb]
  dsimp only
  rw[qv _ _ ((hr.add hr).w (by omega)) (hb2.w (by omega)),ajb]
  dsimp only
  have hc1:decide (((r:Int)+r - b).sign≥0)=decide (b≤2*r):=by
   rw[ajp,ge_iff_le,Int.sign_nonneg_iff];omega
  have hc2:decide (((r:Int)+r - b).sign>0)=decide (b<2*r):=by
   rw[ajp,gt_iff_lt,Int.sign_pos_iff];omega
  have hc3:(((r:Int)+r - b).sign==0)=decide (2*r=b):=by
   rw[show (((r:Int)+r - b).sign==0)=decide (((r:Int)+r - b).sign=0) from rfl,ajp,Int.sign_eq_zero_iff_zero];omega
  rw[sg,ajb]
  dsimp only
  rw[hc1,hc2,hc3,an]
  have fin:∀ (u:Nat),Le 801 (u:Int)→(bif decide (a<0) then Option.bind (aI (W (u:Int))) fun r9=>some (r9.1,()) else some (W (u:Int),()))=some (W (if a<0 then -(u:Int) else u),()):=by
   intro u hu
   by_cases hn:a<0
   ·rw[aP hn,mi _ hu,ajb,ajz hn]
   ·rw[aO hn,ajy hn]
  simp only[one,inc,od,ajb,an,fin q (hq.mono (by omega)),fin (q+1) hq1]
  have hr0:decide (0<r)=true:=by simp;omega
  unfold F5
  simp only[hr0,agE]
  by_cases w1:way=1
  ·subst w1;cases decide (b≤2*r)<;>simp
  by_cases w2:way=2
  ·subst w2
   by_cases k1:b<2*r
   ·simp[k1]
   ·by_cases k2:2*r=b
    ·by_cases k3:q % 2=1<;>simp[k1,k2,k3]
    ·simp[k1,k2]
  by_cases w4:way=4
  ·subst w4;simp
  by_cases w5:way=5
  ·subst w5;by_cases hn:a<0<;>simp[hn]
  by_cases w6:way=6
  ·subst w6;by_cases hn:a<0<;>simp[hn]
  simp[w1,w2,w4,w5,w6,show (way==1)=false by simpa using w1,show (way==2)=false by simpa using w2,show (way==4)=false by simpa using w4,show (way==5)=false by simpa using w5,show (way==6)=false by simpa using w6]
end Go.Md
namespace Go.Md
open Go.Dn
theorem Wj {α:Type} {l:List α} {k:Nat} {y:α} (h:l[k]? =some y):l.drop k=y::l.drop (k+1):=by
 obtain⟨hk,rfl⟩:=ahH.1 h
 exact aho hk
end Go.Md
namespace Go.Md
open Go.Dn
end Go.Md
namespace Go.Md
open Go.Dn
theorem uI:∀ a:Bys,Op.bytesLess a a=false
 | []=>rfl
 | x::a=>by simp[Op.bytesLess,uI a]
theorem Nh:∀ {a b:Bys},Lib.compareBytes a b=0↔a=b
 | [],[]=>by simp[Lib.compareBytes]
 | [],_::_=>by simp[Lib.compareBytes]
 | _::_,[]=>by simp[Lib.compareBytes]
 | x::a,y::b=>by
  simp only[Lib.compareBytes,List.cons.injEq]
  by_cases h1:x<y
  ·simp only[h1,ajA]
   constructor
   ·intro h;omega
   ·rintro⟨rfl,_⟩;exact absurd h1 (UInt8.lt_irrefl x)
  ·by_cases h2:y<x
   ·simp only[h1,h2,ajA,ajx]
    constructor
    ·intro h;omega
    ·rintro⟨rfl,_⟩;exact absurd h2 (UInt8.lt_irrefl x)
   ·have:x=y:=UInt8.le_antisymm (ajj.1 h2) (ajj.1 h1)
    subst this
    simp only[h1,ajx,true_and]
    exact Nh
theorem KQ:∀ {a b:Bys},Lib.compareBytes a b<0↔Op.bytesLess a b=true
 | [],[]=>by simp[Lib.compareBytes,Op.bytesLess]
 | [],_::_=>by simp[Lib.compareBytes,Op.bytesLess]
 | _::_,[]=>by simp[Lib.compareBytes,Op.bytesLess]
 | x::a,y::b=>by
  have ih:= @KQ a b
  simp only[Lib.compareBytes,Op.bytesLess]
  by_cases h1:x<y
  ·simp[h1]
  ·by_cases h2:y<x
   ·have hne:¬ x=y:=fun e=>by subst e;exact absurd h2 (UInt8.lt_irrefl x)
    simp[h1,h2,hne]
   ·have:x=y:=UInt8.le_antisymm (ajj.1 h2) (ajj.1 h1)
    subst this
    simp[h1,ih]
theorem Em:∀ {a b c:Bys},Op.bytesLess a b=true→Op.bytesLess b c=true→Op.bytesLess a c=true
 | [],[],_,h,_=>by simp[Op.bytesLess] at h
 | [],_::_,[],_,h=>by simp[Op.bytesLess] at h
 | [],_::_,_::_,_,_=>rfl
 | _::_,[],_,h,_=>by simp[Op.bytesLess] at h
 | _::_,_::_,[],_,h=>by simp[Op.bytesLess] at h
 | x::a,y::b,z::c,h,k=>by
  simp only[Op.bytesLess,agP,agC,ajs,beq_iff_eq] at h k ⊢
  rcases h with h | ⟨rfl,h⟩
  ·rcases k with k | ⟨rfl,k⟩
   ·exact .inl (UInt8.lt_trans h k)
   ·exact .inl h
  ·rcases k with k | ⟨rfl,k⟩
   ·exact .inl k
   ·exact .inr ⟨rfl,Em h k⟩
theorem abC (a b:Bys):Op.bytesLess a b=true∨a=b∨Op.bytesLess b a=true:=by
 induction a generalizing b with
 | nil=>cases b with
  | nil=>simp
  | cons y b=>simp[Op.bytesLess]
 | cons x a ih=>cases b with
  | nil=>simp[Op.bytesLess]
  | cons y b=>
   simp only[Op.bytesLess,agP,agC,ajs,beq_iff_eq,List.cons.injEq]
   by_cases h1:x<y
   ·simp[h1]
   ·by_cases h2:y<x
    ·simp[h2]
    ·have:x=y:=UInt8.le_antisymm (ajj.1 h2) (ajj.1 h1)
     subst this
     rcases ih b with h | h | h<;>simp[h]
def Asc {α:Type} (key:α→Bys) (l:List α):Prop:=∀ (i j:Nat) (x y:α),i<j→l[i]? =some x→l[j]? =some y→Op.bytesLess (key x) (key y)=true
def jk {α:Type} (key:α→Bys) (t:Bys) (l:List α):Option Nat:=l.findIdx? (fun r=>key r==t)
theorem sO {α:Type} {key:α→Bys} {t:Bys} {l:List α} {k:Nat} (h:jk key t l=some k):∃ x,l[k]? =some x∧key x=t:=by
 unfold jk at h
 rw[List.findIdx?_eq_some_iff_getElem] at h
 obtain⟨h1,h2,_⟩:=h
 exact⟨_,ahF h1,by simpa using h2⟩
theorem acp {α:Type} {key:α→Bys} {t:Bys} {l:List α} (h:jk key t l=none):∀ x∈l,key x≠t:=by
 unfold jk at h
 rw[List.findIdx?_eq_none_iff] at h
 intro x hx e
 have:=h x hx
 simp[e] at this
theorem aeP {α:Type} {key:α→Bys} {t:Bys} {l:List α} (hs:Asc key l) {k:Nat} {x:α} (hk:l[k]? =some x) (hx:key x=t):jk key t l=some k:=by
 cases h:jk key t l with
 | none=>exact absurd hx (acp h x (aie hk))
 | some j=>
  obtain⟨y,h1,h2⟩:=sO h
  rcases aiV j k with hlt | rfl | hlt
  ·have:=hs j k y x hlt h1 hk
   rw[h2,hx,uI] at this;cases this
  ·rfl
  ·have:=hs k j x y hlt hk h1
   rw[h2,hx,uI] at this;cases this
theorem W6 (l:List aD) (t:Bys) (hl:l.length<1000000000) (hs:Asc (·.1) l):
 ∃ i:Nat,fm l t ()=some ((i:Int),(jk (·.1) t l).isSome,())∧∀ k,jk (·.1) t l=some k→i=k:=by
 unfold fm
 have loop:∀ f,l.length<f→∃ i:Nat,iter f ((l,t,(),(l.length:Int),(0:Int),(l.length:Int),()):cV) iA=some (Sum.inr (l,t,(),(l.length:Int),(i:Int),()))∧i≤l.length∧(∀ k x,l[k]? =some x→k<i→Op.bytesLess x.1 t=true)∧∀ k x,l[k]? =some x→i≤k→Op.bytesLess x.1 t=false:=by
  intro f hf
  refine N4 (Inv:=fun X=>∃ i j:Nat,X=((l,t,(),(l.length:Int),(i:Int),(j:Int),()):cV)∧i≤j∧j≤l.length∧(∀ k x,l[k]? =some x→k<i→Op.bytesLess x.1 t=true)∧∀ k x,l[k]? =some x→j≤k→Op.bytesLess x.1 t=false)
   (fun X=>(X.2.2.2.2.2.1 - X.2.2.2.2.1).toNat)
   (fun _ r=>∃ i:Nat,r=some (Sum.inr (l,t,(),(l.length:Int),(i:Int),()))∧i≤l.length∧(∀ k x,l[k]? =some x→k<i→Op.bytesLess x.1 t=true)∧∀ k x,l[k]? =some x→i≤k→Op.bytesLess x.1 t=false) ?_ f _ ⟨0,l.length,rfl,by omega,by omega,fun _ _ _ h=>absurd h (ai2 _),fun k x hk hle=>by have:=(ahH.1 hk).1;omega⟩ (by dsimp only;omega)
  rintro _ again ⟨i,j,rfl,hij,hj,h1,h2⟩ ih
  dsimp only at ih
  unfold iA
  dsimp only
  by_cases hlt:i<j
  ·rw[aP (by omega)]
   have em:w64 (Int.fdiv (cw (w64 ((i:Int)+(j:Int)))) (2 ^ 1))=(((i+j) / 2:Nat):Int):=by
    rw[aC (n:=(i:Int)+(j:Int)) (by omega) (by omega),fh (by omega) (by omega),agU _ (by omega),aC (by omega) (by omega)]
    omega
   rw[em]
   have hm:(i+j) / 2<l.length:=by omega
   have hy:l[(i+j) / 2]? =some l[(i+j) / 2]:=bu hm
   have hmi:i≤(i+j) / 2∧(i+j) / 2<j:=by omega
   generalize (i+j) / 2=m at*
   generalize l[m]=y at hy
   rw[bQ,hy,ajb]
   show ∃ i,Option.bind (Option.bind (some (Lib.compareBytes y.1 t,())) fun r1=>some (r1.1,())) _=_∧_
   rw[ajb,ajb]
   dsimp only
   by_cases hc:Lib.compareBytes y.1 t<0
   ·rw[aP hc,aC (by omega) (by omega)]
    refine ih _ ⟨m+1,j,rfl,by omega,hj,fun k x hk hkm=> ?_,h2⟩ (by dsimp only;omega)
    rcases Nat.lt_succ_iff_lt_or_eq.1 hkm with h | h
    ·have:=hs k m x y h hk hy
     exact Em this (KQ.1 hc)
    ·subst h;rw[hy] at hk;cases hk;exact KQ.1 hc
   ·rw[aO hc]
    refine ih _ ⟨i,m,rfl,by omega,by omega,h1,fun k x hk hkm=> ?_⟩ (by dsimp only;omega)
    have hc':Op.bytesLess y.1 t=false:=by
     cases h:Op.bytesLess y.1 t with
     | false=>rfl
     | true=>exact absurd (KQ.2 h) hc
    rcases Nat.lt_or_eq_of_le hkm with h | h
    ·cases hx:Op.bytesLess x.1 t with
     | false=>rfl
     | true=>rw[Em (hs m k y x h hy hk) hx] at hc';cases hc'
    ·subst h;rw[hy] at hk;cases hk;exact hc'
  ·rw[aO (by omega)]
   have:i=j:=by omega
   subst this
   exact⟨i,rfl,hj,h1,h2⟩
 obtain⟨i,h1,h2,h3,h4⟩:=loop (List.length l+(List.length t+(Int.natAbs ((List.length l:Int))+(Int.natAbs (0:Int)+(Int.natAbs ((List.length l:Int))+2))))) (by omega)
 refine⟨i, ?_,fun k hk=> ?_⟩
 ·rw[h1,aS]
  dsimp only
  by_cases hi:i<l.length
  ·have hy:l[i]? =some l[i]:=bu hi
   generalize l[i]=y at hy
   rw[aP (by omega),bQ,hy,ajb]
   show Option.bind (Option.bind (some (Lib.compareBytes y.1 t,())) fun r1=>some (r1.1,())) _=_
   rw[ajb,ajb]
   congr 3
   by_cases he:y.1=t
   ·rw[aeP hs hy he,Nh.2 he];rfl
   ·have hne:¬ Lib.compareBytes y.1 t=0:=fun h=>he (Nh.1 h)
    rw[show (Lib.compareBytes y.1 t==0)=false by simpa using hne]
    cases hx:jk (·.1) t l with
    | none=>rfl
    | some k=>
     exfalso
     obtain⟨x,k1,k2⟩:=sO hx
     rcases aiV k i with h | h | h
     ·have:=h3 k x k1 h;rw[k2,uI] at this;cases this
     ·subst h;rw[hy] at k1;cases k1;exact he k2
     ·have:=hs i k y x h hy k1
      dsimp only at this
      rw[k2,h4 i y hy (aiN _)] at this;cases this
  ·rw[aO (by omega)]
   congr 3
   cases hx:jk (·.1) t l with
   | none=>rfl
   | some k=>
    exfalso
    obtain⟨x,k1,k2⟩:=sO hx
    have:=h3 k x k1 (by have:=(ahH.1 k1).1;omega)
    rw[k2,uI] at this;cases this
 ·obtain⟨x,k1,k2⟩:=sO hk
  rcases aiV k i with h | h | h
  ·have:=h3 k x k1 h;rw[k2,uI] at this;cases this
  ·exact h.symm
  ·have hy:l[i]? =some (l[i]'(by have:=(ahH.1 k1).1;omega)):=bu _
   have:=hs i k _ x h hy k1
   dsimp only at this
   rw[k2,h4 i _ hy (aiN _)] at this;cases this
theorem DC (l:List aD) (t:Bys) (hl:l.length<1000000000) (hs:Asc (·.1) l):
 ∃ i:Nat,tC l t=some ((i:Int),(jk (·.1) t l).isSome,())∧∀ k,jk (·.1) t l=some k→i=k:=by
 obtain⟨i,h1,h2⟩:=W6 l t hl hs
 exact⟨i,by unfold tC;rw[h1,ajb],h2⟩
theorem Ij (v:ah) (t:Bys) (hl:v.2.2.2.2.2.2.1.length<1000000000) (hs:Asc (·.1) v.2.2.2.2.2.2.1):kQ v t=some ((jk (·.1) t v.2.2.2.2.2.2.1).isSome,()):=by
 obtain⟨i,h1,h2⟩:=DC v.2.2.2.2.2.2.1 t hl hs
 unfold kQ
 rw[h1,ajb]
end Go.Md
namespace Go.Md
open Go.Dn
instance (d:ai):Decidable (cA d):=by unfold cA;exact inferInstance
def inR (d:ai) (lo hi pl:Int):Bool:=decide (cA d∧d.2≤pl∧lo*10 ^ d.2.toNat≤d.1∧d.1≤hi*10 ^ d.2.toNat)
theorem gu (d:ai):cu d=some (if cA d then 0 else 1,()):=by
 rw[IC]
 congr 2
 by_cases h:cA d
 ·rw[ajz h,ajz (by unfold cA at h;omega)]
 ·rw[ajy h,ajy (by unfold cA at h;omega)]
theorem vw {d:ai} (h:cA d) (most:Int) (hm0:0≤most) (hm1:most≤1000000000):iy d most=some (inR d (-most) most 9,()):=by
 rw[RX d most h.2.1 h.2.2 hm0 hm1]
 unfold inR
 congr 2
 rw[ajp,ag6]
 constructor
 ·rintro⟨h1,h2⟩;exact⟨h,h.2.2,h1,h2⟩
 ·rintro⟨_,_,h1,h2⟩;exact⟨h1,h2⟩
def aaN (pl:Int) (rates:List aD) (line:Bool) (x:ax):Int:=
 if cA x.2.1 then
  (if x.2.1.1=0 then 13
  else if (if x.1=true then inR x.2.1 (-100) 100 9 else inR x.2.1 (-1000000000) 1000000000 pl)=true then
   (if x.2.2=[] then 0 else if line=true then 3 else if (jk (·.1) x.2.2 rates).isSome=true then 0 else 5)
  else 1)
 else 1
def vG (pl:Int) (rates:List aD) (line:Bool) (l:List ax):Int:=if 20<l.length then 2 else vX (fun _ x=>aaN pl rates line x) 0 l
theorem aep {γ:Type} (s:Int) (u:γ):aT (β:=Int×Unit) (γ:=γ) (if s=0 then some (Sum.inr u) else some (Sum.inl (s,()))) (fun _=>some (0,()))=some (s,()):=by
 by_cases h:s=0
 ·rw[ajz h,aS,h]
 ·rw[ajy h,mU]
theorem acn {d:ai} {lo hi pl:Int} (h:cA d):inR d lo hi pl=(inR d lo hi 9&&decide (d.2≤pl)):=by
 unfold inR
 rw[← agF,ajp]
 constructor
 ·rintro⟨h1,h2,h3⟩;exact⟨⟨h1,h.2.2,h3⟩,h2⟩
 ·rintro⟨⟨h1,_,h3⟩,h2⟩;exact⟨h1,h2,h3⟩
theorem Ln {X α:Type} {γ:Type} {f:X→(X→Option ((Int×Unit) ⊕ γ))→Option ((Int×Unit) ⊕ γ)} {x0:X} (mk:Nat→X) (l:List α) (g:Nat→α→Int) (u:γ) (h0:x0=mk 0)
 (hstep:∀ i y again,l[i]? =some y→f (mk i) again=if g i y=0 then again (mk (i+1)) else some (Sum.inl (g i y,()))) (hend:∀ again,f (mk l.length) again=some (Sum.inr u)) (n:Nat) (hn:l.length<n):
 iter n x0 f=if vX g 0 l=0 then some (Sum.inr u) else some (Sum.inl (vX g 0 l,())):=by
 rw[h0];exact Vm mk l g u hstep hend l 0 n rfl (ai8 _) hn
theorem Ds (v:ah) (l:List ax) (line:Bool) (hl:v.2.2.2.2.2.2.1.length<1000000000) (hs:Asc (·.1) v.2.2.2.2.2.2.1):lu v l line=some (vG v.2.2.2.1 v.2.2.2.2.2.2.1 line l,()):=by
 unfold lu vG
 by_cases hb:20<l.length
 ·rw[aP (by omega),ajz hb]
 ·rw[aO (by omega),ajy hb]
  obtain⟨a,b,c,d,e,f,g,h,k⟩:=v
  dsimp only at*
  have hR:∀ t,kQ (a,b,c,d,e,f,g,h,k) t=some ((jk (·.1) t g).isSome,()):=fun t=>Ij _ t hl hs
  rw[Ln (f:=rB) (fun i=>((line,l,(l.length:Int),(i:Int),a,b,c,d,e,f,g,h,k,()):rC)) l (fun _ x=>aaN d g line x) () ?_ ?_ ?_ _ ?_]
  ·exact aep _ _
  ·rfl
  ·intro i y again hy
   have hi:=(ahH.1 hy).1
   unfold rB
   dsimp only
   rw[aP (by omega),bQ,hy,ajb,gu,ajb]
   have hw:w64 ((i:Int)+1)=(i:Int)+1:=aC (by omega) (by omega)
   unfold aaN
   by_cases hd:cA y.2.1
   ·rw[ajz hd,zne,ajn,ajz hd]
    by_cases h0:y.2.1.1=0
    ·rw[show (y.2.1.1==0)=true by simpa using h0,ajo,ajz h0];rfl
    ·rw[show (y.2.1.1==0)=false by simpa using h0,ajn,ajy h0]
     rw[vw hd 100 (by omega) (by omega),vw hd 1000000000 (by omega) (by omega),acn (pl:=d) hd]
     have hgt:decide (y.2.1.2>d)= !decide (y.2.1.2≤d):=by
      by_cases hq:y.2.1.2≤d
      ·simp[hq]
      ·simp[hq];omega
     have hnil:∀ (s:Bys),(s==[])=decide (s=[]):=fun s=>by cases s<;>rfl
     simp only[hR,ajb,hgt,hnil]
     generalize inR y.2.1 (-100) 100 9=b1
     generalize inR y.2.1 (-1000000000) 1000000000 9=b2
     generalize decide (y.2.1.2≤d)=b3
     generalize y.1=p
     by_cases hn:y.2.2=[]
     ·cases p<;>cases b1<;>cases b2<;>cases b3<;>cases line<;>simp[aT,hw,hnil,hn,hR]
     ·cases h4:(jk (fun x:aD=>x.1) y.2.2 g).isSome<;>cases p<;>cases b1<;>cases b2<;>cases b3<;>cases line<;>simp[aT,hw,hnil,hn,hR,h4]
   ·rw[ajy hd,ajy hd];rfl
  ·intro again
   unfold rB
   dsimp only
   rw[aO (by omega)]
  ·omega
end Go.Md
namespace Go.Md
open Go.Dn
theorem Kk {α:Type} (l:List α):((l.length:Int)==0)=decide (l.length=0):=by
 cases l with
 | nil=>rfl
 | cons a r=>rw[show decide ((a::r).length=0)=false by simp,ajl];simp only[ahT];omega
def Kv (l:List aD) (i:Nat) (y:aD):Bool:=match i with
 | 0=>false
 | i+1=>match l[i]? with
  | some p=>Op.bytesLess y.1 p.1||y.1==p.1
  | none=>false
def Tq (l:List aD) (i:Nat) (r:aD):Int:=if cM r.1=false then 5 else if Kv l i r=true then 8 else if inR r.2 0 100 9=true then 0 else 1
def yP (l:List aD):Int:=if l.length=0 then 9 else if 20<l.length then 2 else vX (Tq l) 0 l
theorem YP {l:List aD} (h:∀ i y,l[i]? =some y→Kv l i y=false):Asc (·.1) l:=by
 have step:∀ i x y,l[i]? =some x→l[i+1]? =some y→Op.bytesLess x.1 y.1=true:=fun i x y hx hy=>by
  have:=h (i+1) y hy
  simp only[Kv,hx,agO,ajl] at this
  rcases abC x.1 y.1 with h1 | h1 | h1
  ·exact h1
  ·exact absurd h1.symm this.2
  ·rw[this.1] at h1;cases h1
 intro i j x y hij hx hy
 induction j generalizing y with
 | zero=>omega
 | succ j ih=>
  rcases Nat.lt_succ_iff_lt_or_eq.1 hij with h1 | h1
  ·have hj:j<l.length:=by have:=(ahH.1 hy).1;omega
   have hz:l[j]? =some l[j]:=bu hj
   exact Em (ih _ h1 hz) (step j _ y hz hy)
  ·subst h1;exact step i x y hx hy
theorem Qk {l:List aD} (h:yP l=0):0<l.length∧l.length≤20∧Asc (·.1) l∧∀ r∈l,inR r.2 0 100 9=true:=by
 unfold yP at h
 split at h
 ·omega
 ·split at h
  ·omega
  ·have hz:=F6 h
   refine⟨by omega,by omega,YP fun i y hy=> ?_,fun r hr=> ?_⟩
   ·have:=hz i y hy
    rw[ai7] at this
    unfold Tq at this
    split at this
    ·omega
    ·split at this
     ·omega
     ·rename_i h1;simpa using h1
   ·obtain⟨i,hi⟩:=aic.1 hr
    have:=hz i r hi
    rw[ai7] at this
    unfold Tq at this
    split at this
    ·omega
    ·split at this
     ·omega
     ·split at this
      ·assumption
      ·omega
theorem aaU {d:ai} (h:cA d) (hi:Int):inR d 0 hi 9=(!decide (d.1<0)&&inR d (-hi) hi 9):=by
 have hp:=Cg d.2.toNat
 unfold inR
 rw[← decide_not, ← agF,ajp]
 constructor
 ·rintro⟨h1,h2,h3,h4⟩
  rw[Int.zero_mul] at h3
  refine⟨by omega,h1,h2, ?_,h4⟩
  rw[ag6]
  have:0≤hi*10 ^ d.2.toNat:=by omega
  omega
 ·rintro⟨h0,h1,h2,h3,h4⟩
  exact⟨h1,h2,by rw[Int.zero_mul];omega,h4⟩
theorem adY {l:List aD} {i:Nat} (hi:i+1<l.length+1) (hl:l.length<1000000000):idx l (w64 (((i+1:Nat):Int) - 1))=l[i]? :=by
 rw[aC (by omega) (by omega),show ((i+1:Nat):Int) - 1=((i:Nat):Int) by omega,bQ]
theorem M9 (l:List aD) (hl:l.length<1000000000):oP l=some (yP l,()):=by
 unfold oP yP
 by_cases h0:l.length=0
 ·rw[Kk,ajr h0,ajo,ajz h0]
 ·rw[Kk,ajq h0,ajn,ajy h0]
  by_cases hb:20<l.length
  ·rw[aP (by omega),ajz hb]
  ·rw[aO (by omega),ajy hb]
   rw[Ln (f:=sC) (fun i=>((l,l,(l.length:Int),(i:Int),()):sD)) l (Tq l) () ?_ ?_ ?_ _ ?_]
   ·exact aep _ _
   ·rfl
   ·intro i y again hy
    have hi:=(ahH.1 hy).1
    unfold sC
    dsimp only
    rw[aP (by omega),bQ,hy,ajb,mW,ajb,aC (n:=(i:Int)+1) (by omega) (by omega)]
    unfold Tq
    cases hn:cM y.1 with
    | false=>simp
    | true=>
     have tail:(Option.bind (cu y.2) fun r5=>bif r5.1 != 0 then some (Sum.inl (r5.1,())) else bif decide (y.2.1<0) then some (Sum.inl (1,())) else Option.bind (iy y.2 100) fun r6=>bif !r6.1 then some (Sum.inl (1,())) else again (l,l,(l.length:Int),(i:Int)+1,()))=if (if inR y.2 0 100 9=true then (0:Int) else 1)=0 then again (l,l,(l.length:Int),((i+1:Nat):Int),()) else some (Sum.inl (1,())):=by
      rw[gu,ajb]
      by_cases hd:cA y.2
      ·rw[aaU hd 100,vw hd 100 (by omega) (by omega)]
       generalize inR y.2 (-100) 100 9=b
       by_cases hneg:y.2.1<0
       ·simp[hd,hneg]
       ·cases b<;>simp[hd,hneg]
      ·have:inR y.2 0 100 9=false:=by unfold inR;simp[hd]
       simp[hd,this]
     simp only[agN,ajn,agR,ajx]
     cases i with
     | zero=>
      rw[aO (by omega),tail]
      simp only[Kv,agG,ajx]
      split<;>simp_all
     | succ i=>
      have hp:l[i]? =some (l[i]'(by omega)):=bu (by omega)
      rw[aP (by omega),adY (by omega) hl,hp,ajb]
      have ep:Kv l (i+1) y=(Op.bytesLess y.1 (l[i]'(by omega)).1||y.1==(l[i]'(by omega)).1):=by simp only[Kv,hp]
      rw[ep]
      cases (Op.bytesLess y.1 (l[i]'(by omega)).1||y.1==(l[i]'(by omega)).1) with
      | true=>simp
      | false=>
       simp only[ajn]
       rw[tail]
       simp only[agG,ajx]
       split<;>simp_all
   ·intro again
    unfold sC
    dsimp only
    rw[aO (by omega)]
   ·omega
def Yd (l:List au) (i:Nat) (y:au):Bool:=match i with
 | 0=>false
 | i+1=>match l[i]? with
  | some p=>decide (y.1≤p.1)
  | none=>false
def Ir (pl:Int) (rates:List aD) (lines:List au) (i:Nat) (x:au):Int:=
 if x.1<1∨99999<x.1 then 1
 else if Yd lines i x=true then 8
 else if x.2.1<1∨99999<x.2.1 then 1
 else if cM x.2.2.1=false then 5
 else if inR x.2.2.2.1 (-1000000000) 1000000000 3=false then 1
 else if x.2.2.2.1.1=0 then 13
 else if cM x.2.2.2.2.1=false then 5
 else if inR x.2.2.2.2.2.1 0 1000000000 4=false then 1
 else if x.2.2.2.2.2.2.1<1∨100000<x.2.2.2.2.2.2.1 then 1
 else if vG pl rates true x.2.2.2.2.2.2.2.1≠0 then vG pl rates true x.2.2.2.2.2.2.2.1
 else if (jk (·.1) x.2.2.2.2.2.2.2.2 rates).isSome=true then 0 else 5
theorem DT (n:Int) (h0:0≤n) (h1:n≤18):Er n=some (10 ^ n.toNat,()):=L3 n h0 h1
theorem xE (d:ai):lD d=some (if inR d 0 1000000000 4=true then 0 else 1,()):=by
 unfold lD uT
 rw[gu,ajb]
 by_cases hd:cA d
 ·have hp:=Cg d.2.toNat
  have hp2:(10:Int) ^ d.2.toNat≤1000000000:=by
   have:=ai5 (n:=10) (by omega) (show d.2.toNat≤9 by have:=hd.2.2;omega)
   have h2:=Int.ofNat_le.2 this
   simpa using h2
  rw[DT d.2 hd.2.1 (by have:=hd.2.2;omega)]
  dsimp only
  rw[ajz hd,zne,ajn]
  have e:inR d 0 1000000000 4=(decide (d.2≤4)&&(decide (d.1≥0)&&decide (d.1≤1000000000*10 ^ d.2.toNat))):=by
   unfold inR
   rw[← agF, ← agF,ajp,Int.zero_mul]
   constructor
   ·rintro⟨_,h2,h3,h4⟩;exact⟨h2,h3,h4⟩
   ·rintro⟨h2,h3,h4⟩;exact⟨hd,h2,h3,h4⟩
  rw[e,ajb,aC (n:=1000000000*10 ^ d.2.toNat) (by omega) (by omega)]
  cases decide (d.2≤4)<;>cases decide (d.1≥0)<;>cases decide (d.1≤1000000000*10 ^ d.2.toNat)<;>rfl
 ·have:inR d 0 1000000000 4=false:=by unfold inR;simp[hd]
  simp[hd,this]
end Go.Md
namespace Go.Md
open Go.Dn
theorem abf {l:List au} {i:Nat} (hi:i<l.length) (hl:l.length<1000000000):idx l (w64 (((i+1:Nat):Int) - 1))=l[i]? :=by
 rw[aC (by omega) (by omega),show ((i+1:Nat):Int) - 1=((i:Nat):Int) by omega,bQ]
theorem afY (d:ai):(if cA d then (decide (d.2>3)|| !inR d (-1000000000) 1000000000 9) else true)= !inR d (-1000000000) 1000000000 3:=by
 by_cases h:cA d
 ·rw[ajz h,acn (pl:=3) h]
  by_cases h3:d.2≤3
  ·have:¬ d.2>3:=by omega
   simp[h3,this]
  ·have:d.2>3:=by omega
   simp[h3,this]
 ·have:inR d (-1000000000) 1000000000 3=false:=by unfold inR;simp[h]
  simp[h,this]
theorem Pm (v:ah) (i:Nat) (y:au) (hl:v.2.2.2.2.2.2.1.length<1000000000) (hs:Asc (·.1) v.2.2.2.2.2.2.1) (hll:v.2.2.2.2.2.2.2.1.length<1000000000) (hy:v.2.2.2.2.2.2.2.1[i]? =some y):
 uG v (i:Int)=some (Ir v.2.2.2.1 v.2.2.2.2.2.2.1 v.2.2.2.2.2.2.2.1 i y,()):=by
 unfold uG Ir
 have hR:=fun t=>Ij v t hl hs
 have hE:=fun l=>Ds v l true hl hs
 generalize v.2.2.2.2.2.2.1=rates at*
 generalize v.2.2.2.2.2.2.2.1=lines at*
 generalize v.2.2.2.1=pl at*
 have hi:=(ahH.1 hy).1
 rw[bQ,hy,ajb]
 simp only[eD,mW,xE,hR,hE,ajb,gu]
 by_cases c1:y.1<1∨99999<y.1
 ·simp only[c1,aju,ajo,ajA]
 rw[ajq c1,ajn,ajy c1]
 have tail:(bif decide (y.2.1<1∨99999<y.2.1) then some ((1:Int),()) else bif !cM y.2.2.1 then some (5,()) else bif (if cA y.2.2.2.1 then (0:Int) else 1) != 0 then some (if cA y.2.2.2.1 then (0:Int) else 1,()) else bif decide (y.2.2.2.1.2>3) then some (1,()) else
  Option.bind (iy y.2.2.2.1 1000000000) fun r7=>bif !r7.1 then some (1,()) else bif y.2.2.2.1.1==0 then some (13,()) else bif !cM y.2.2.2.2.1 then some (5,()) else bif (if inR y.2.2.2.2.2.1 0 1000000000 4=true then (0:Int) else 1) != 0 then some (if inR y.2.2.2.2.2.1 0 1000000000 4=true then (0:Int) else 1,()) else
  bif decide (y.2.2.2.2.2.2.1<1∨100000<y.2.2.2.2.2.2.1) then some (1,()) else bif vG pl rates true y.2.2.2.2.2.2.2.1 != 0 then some (vG pl rates true y.2.2.2.2.2.2.2.1,()) else bif !(jk (fun x:aD=>x.1) y.2.2.2.2.2.2.2.2 rates).isSome then some (5,()) else some (0,()))=
  some (if y.2.1<1∨99999<y.2.1 then 1 else if cM y.2.2.1=false then 5 else if inR y.2.2.2.1 (-1000000000) 1000000000 3=false then 1 else if y.2.2.2.1.1=0 then 13 else if cM y.2.2.2.2.1=false then 5 else if inR y.2.2.2.2.2.1 0 1000000000 4=false then 1
   else if y.2.2.2.2.2.2.1<1∨100000<y.2.2.2.2.2.2.1 then 1 else if vG pl rates true y.2.2.2.2.2.2.2.1≠0 then vG pl rates true y.2.2.2.2.2.2.2.1 else if (jk (fun x:aD=>x.1) y.2.2.2.2.2.2.2.2 rates).isSome=true then 0 else 5,()):=by
  by_cases c2:y.2.1<1∨99999<y.2.1
  ·simp only[c2,aju,ajo,ajA]
  rw[ajq c2,ajn,ajy c2]
  cases cM y.2.2.1 with
  | false=>rfl
  | true=>
  simp only[agN,ajn,agR,ajx]
  have hq:=afY y.2.2.2.1
  by_cases hd:cA y.2.2.2.1
  ·rw[ajz hd] at hq
   rw[vw hd 1000000000 (by omega) (by omega)]
   rw[ajz hd,zne,ajn,ajb]
   dsimp only
   have hq':inR y.2.2.2.1 (-1000000000) 1000000000 3= !(decide (y.2.2.2.1.2>3)|| !inR y.2.2.2.1 (-1000000000) 1000000000 9):=by rw[hq,Bool.not_not]
   rw[hq']
   cases decide (y.2.2.2.1.2>3) with
   | true=>rfl
   | false=>
    cases inR y.2.2.2.1 (-1000000000) 1000000000 9 with
    | false=>rfl
    | true=>
     simp only[agN,Bool.or_false,agM,ajn,agR,ajx]
     by_cases c3:y.2.2.2.1.1=0
     ·rw[show (y.2.2.2.1.1==0)=true by simpa using c3,ajo,ajz c3]
     ·rw[show (y.2.2.2.1.1==0)=false by simpa using c3,ajn,ajy c3]
      cases cM y.2.2.2.2.1 with
      | false=>rfl
      | true=>
       cases inR y.2.2.2.2.2.1 0 1000000000 4 with
       | false=>rfl
       | true=>
        simp only[agN,ajn,agR,ajx,ajA]
        rw[zne,ajn]
        by_cases c4:y.2.2.2.2.2.2.1<1∨100000<y.2.2.2.2.2.2.1
        ·simp only[c4,aju,ajo,ajA]
        ·rw[ajq c4,ajn,ajy c4]
         by_cases c5:vG pl rates true y.2.2.2.2.2.2.2.1=0
         ·rw[c5,zne,ajn,ajy (by simp)]
          cases (jk (fun x:aD=>x.1) y.2.2.2.2.2.2.2.2 rates).isSome<;>rfl
         ·rw[show (vG pl rates true y.2.2.2.2.2.2.2.1 != 0)=true by simpa using c5,ajo,ajz c5]
  ·rw[ajy hd] at hq
   have:inR y.2.2.2.1 (-1000000000) 1000000000 3=false:=by simpa using hq.symm
   rw[this,ajy hd]
   rfl
 cases i with
 | zero=>
  rw[aO (by omega),tail]
  rfl
 | succ i=>
  have hp:lines[i]? =some (lines[i]'(by omega)):=bu (by omega)
  rw[aP (by omega),abf (by omega) hll,hp,ajb]
  have ep:Yd lines (i+1) y=decide (y.1≤(lines[i]'(by omega)).1):=by simp only[Yd,hp]
  rw[ep]
  cases decide (y.1≤(lines[i]'(by omega)).1) with
  | true=>rfl
  | false=>
   rw[ajn,tail]
   rfl
def S6 (v:ah):Int:=vX (Ir v.2.2.2.1 v.2.2.2.2.2.2.1 v.2.2.2.2.2.2.2.1) 0 v.2.2.2.2.2.2.2.1
def eH (v:ah):Int:=
 if cM v.1=false then 5 else if cM v.2.1=false then 5
 else if ¬(1≤v.2.2.1∧v.2.2.1≤3652059) then 1
 else if v.2.2.2.1<0∨4<v.2.2.2.1 then 1
 else if v.2.2.2.2.1<1∨6<v.2.2.2.2.1 then 4
 else if yP v.2.2.2.2.2.2.1≠0 then yP v.2.2.2.2.2.2.1
 else if v.2.2.2.2.2.2.2.1.length=0 then 9
 else if 500<v.2.2.2.2.2.2.2.1.length then 2
 else if S6 v≠0 then S6 v
 else vG v.2.2.2.1 v.2.2.2.2.2.2.1 false v.2.2.2.2.2.2.2.2
theorem afQ {γ:Type} (s:Int) (u:γ) (k:γ→Option (Int×Unit)) (z:Int) (hk:k u=some (z,())):aT (β:=Int×Unit) (γ:=γ) (if s=0 then some (Sum.inr u) else some (Sum.inl (s,()))) k=some (if s≠0 then s else z,()):=by
 by_cases h:s=0
 ·rw[ajz h,aS,hk,ajy (by simpa using h)]
 ·rw[ajy h,mU,ajz h]
theorem gz (v:ah):fS v=some (eH v,()):=by
 unfold fS eH
 simp only[mW,qH,eD,ajb,Gs]
 cases cM v.1 with
 | false=>rfl
 | true=>
 cases cM v.2.1 with
 | false=>rfl
 | true=>
 simp only[agN,ajn,agR,ajx]
 by_cases n_c1:¬(1≤v.2.2.1∧v.2.2.1≤3652059)
 ·rw[ajq n_c1,ajz n_c1];rfl
 have c1:=agT n_c1
 rw[ajr c1,ajy (by simpa using c1),agN,ajn]
 by_cases c2:v.2.2.2.1<0∨4<v.2.2.2.1
 ·rw[ajr c2,ajz c2];rfl
 rw[ajq c2,ajy c2,ajn]
 by_cases c3:v.2.2.2.2.1<1∨6<v.2.2.2.2.1
 ·rw[ajr c3,ajz c3];rfl
 rw[ajq c3,ajy c3,agM,agN,ajn]
 by_cases n_hrl:¬(v.2.2.2.2.2.2.1.length<1000000000)
 ·have e:yP v.2.2.2.2.2.2.1=2:=by unfold yP;rw[ajy (by omega),ajz (by omega)]
  have e2:oP v.2.2.2.2.2.2.1=some (2,()):=by
   unfold oP
   rw[Kk,ajq (by omega),ajn,aP (by omega)]
  rw[e,e2];rfl
 have hrl:=agT n_hrl
 rw[M9 _ hrl,ajb]
 dsimp only
 by_cases n_c4:¬(yP v.2.2.2.2.2.2.1=0)
 ·rw[show (yP v.2.2.2.2.2.2.1 != 0)=true by simpa using n_c4,ajo,ajz n_c4]
 have c4:=agT n_c4
 obtain⟨_,_,hs,_⟩:=Qk c4
 rw[c4,zne,ajn,ajy (by simp),Kk]
 by_cases c5:v.2.2.2.2.2.2.2.1.length=0
 ·rw[ajr c5,ajo,ajz c5]
 rw[ajq c5,ajn,ajy c5]
 by_cases c6:500<v.2.2.2.2.2.2.2.1.length
 ·rw[aP (by omega),ajz c6]
 rw[aO (by omega),ajy c6]
 unfold S6
 rw[Ln (f:=oO) (fun i=>(((v.2.2.2.2.2.2.2.1.length:Int)),(i:Int),v.1,v.2.1,v.2.2.1,v.2.2.2.1,v.2.2.2.2.1,v.2.2.2.2.2.1,v.2.2.2.2.2.2.1,v.2.2.2.2.2.2.2.1,v.2.2.2.2.2.2.2.2,()) ) v.2.2.2.2.2.2.2.1 (Ir v.2.2.2.1 v.2.2.2.2.2.2.1 v.2.2.2.2.2.2.2.1) (v.1,v.2.1,v.2.2.1,v.2.2.2.1,v.2.2.2.2.1,v.2.2.2.2.2.1,v.2.2.2.2.2.2.1,v.2.2.2.2.2.2.2.1,v.2.2.2.2.2.2.2.2,()) ?_ ?_ ?_ _ ?_]
 ·refine afQ _ _ _ _ ?_
  show Option.bind (lu v v.2.2.2.2.2.2.2.2 false) _=_
  rw[Ds v _ false hrl hs,ajb]
 ·rfl
 ·intro i y again hy
  have hi:=(ahH.1 hy).1
  unfold oO
  show (bif decide ((i:Int)<(v.2.2.2.2.2.2.2.1.length:Int)) then Option.bind (uG v (i:Int)) _ else _)=_
  rw[aP (by omega),Pm v i y hrl hs (by omega) hy,ajb]
  dsimp only
  rw[aC (n:=(i:Int)+1) (by omega) (by omega)]
  by_cases hz:Ir v.2.2.2.1 v.2.2.2.2.2.2.1 v.2.2.2.2.2.2.2.1 i y=0
  ·rw[hz];rfl
  ·rw[show (Ir v.2.2.2.1 v.2.2.2.2.2.2.1 v.2.2.2.2.2.2.2.1 i y != 0)=true by simpa using hz,ajo,ajy hz]
 ·intro again
  unfold oO
  dsimp only
  rw[aO (by omega)]
 ·omega
end Go.Md
namespace Go.Md
open Go.Dn
structure Fw (pl:Int) (x:ax):Prop where
 dec:cA x.2.1
 place:x.1=false→x.2.1.2≤pl
 nz:x.2.1.1≠0
theorem sJ {pl:Int} {rates:List aD} {line:Bool} {l:List ax} (h:vG pl rates line l=0):l.length≤20∧∀ x∈l,Fw pl x∧(line=true→x.2.2=[])∧(x.2.2=[]∨(jk (·.1) x.2.2 rates).isSome=true):=by
 unfold vG at h
 split at h
 ·omega
 ·refine⟨by omega,fun x hx=> ?_⟩
  obtain⟨i,hi⟩:=aic.1 hx
  have:=F6 h i x hi
  unfold aaN at this
  by_cases hd:cA x.2.1
  ·rw[ajz hd] at this
   by_cases h0:x.2.1.1=0
   ·rw[ajz h0] at this;omega
   ·rw[ajy h0] at this
    by_cases hr:(if x.1=true then inR x.2.1 (-100) 100 9 else inR x.2.1 (-1000000000) 1000000000 pl)=true
    ·rw[ajz hr] at this
     refine⟨⟨hd,fun hp=> ?_,h0⟩,fun hline=> ?_, ?_⟩
     ·rw[hp] at hr
      simp only[agG,ajx,inR,ajs] at hr
      exact hr.2.1
     ·rw[hline] at this
      by_cases hn:x.2.2=[]
      ·exact hn
      ·rw[ajy hn] at this;simp at this
     ·by_cases hn:x.2.2=[]
      ·exact .inl hn
      ·rw[ajy hn] at this
       right
       cases hx2:(jk (fun x:aD=>x.1) x.2.2 rates).isSome with
       | true=>rfl
       | false=>rw[hx2] at this;cases line<;>simp at this
    ·rw[ajy hr] at this;omega
  ·rw[ajy hd] at this;omega
structure yf (pl:Int) (rates:List aD) (x:au):Prop where
 q:cA x.2.2.2.1
 qp:x.2.2.2.1.2≤3
 qn:x.2.2.2.1.1≠0
 p:cA x.2.2.2.2.2.1
 pp:x.2.2.2.2.2.1.2≤4
 p0:0≤x.2.2.2.2.2.1.1
 per:1≤x.2.2.2.2.2.2.1∧x.2.2.2.2.2.2.1≤100000
 ext:vG pl rates true x.2.2.2.2.2.2.2.1=0
 rate:(jk (·.1) x.2.2.2.2.2.2.2.2 rates).isSome=true
theorem aaZ {pl:Int} {rates:List aD} {lines:List au} {i:Nat} {x:au} (h:Ir pl rates lines i x=0):yf pl rates x:=by
 unfold Ir at h
 split at h
 ·omega
 split at h
 ·omega
 split at h
 ·omega
 split at h
 ·omega
 split at h
 ·omega
 rename_i h1
 split at h
 ·omega
 rename_i h2
 split at h
 ·omega
 split at h
 ·omega
 rename_i h3
 split at h
 ·omega
 rename_i h4
 split at h
 ·omega
 rename_i h5
 split at h
 ·rename_i h6
  have h1':inR x.2.2.2.1 (-1000000000) 1000000000 3=true:=by simpa using h1
  have h3':inR x.2.2.2.2.2.1 0 1000000000 4=true:=by simpa using h3
  unfold inR at h1' h3'
  rw[ajs] at h1' h3'
  exact⟨h1'.1,h1'.2.1,h2,h3'.1,h3'.2.1,by have:=h3'.2.2.1;rw[Int.zero_mul] at this;exact this,by omega,by omega,h6⟩
 ·omega
structure ni (v:ah):Prop where
 pl:0≤v.2.2.2.1∧v.2.2.2.1≤4
 way:1≤v.2.2.2.2.1∧v.2.2.2.2.1≤6
 rn:0<v.2.2.2.2.2.2.1.length∧v.2.2.2.2.2.2.1.length≤20
 asc:Asc (·.1) v.2.2.2.2.2.2.1
 rates:∀ r∈v.2.2.2.2.2.2.1,inR r.2 0 100 9=true
 ln:0<v.2.2.2.2.2.2.2.1.length∧v.2.2.2.2.2.2.2.1.length≤500
 lines:∀ x∈v.2.2.2.2.2.2.2.1,yf v.2.2.2.1 v.2.2.2.2.2.2.1 x
 ext:vG v.2.2.2.1 v.2.2.2.2.2.2.1 false v.2.2.2.2.2.2.2.2=0
theorem sN {v:ah} (h:eH v=0):ni v:=by
 unfold eH at h
 split at h
 ·omega
 split at h
 ·omega
 split at h
 ·omega
 split at h
 ·omega
 split at h
 ·omega
 split at h
 ·omega
 rename_i h1
 split at h
 ·omega
 split at h
 ·omega
 split at h
 ·omega
 rename_i h2
 have hr:=Qk (show yP v.2.2.2.2.2.2.1=0 by omega)
 refine⟨by omega,by omega,⟨hr.1,hr.2.1⟩,hr.2.2.1,hr.2.2.2,by omega,fun x hx=> ?_,h⟩
 obtain⟨i,hi⟩:=aic.1 hx
 have:=F6 (show S6 v=0 by omega) i x hi
 exact aaZ this
end Go.Md
namespace Go.Md
open Go.Dn
theorem Og:∀ (n:Nat) (l:List Nat),l.Nodup→(∀ x∈l,x<n)→l.length≤n
 | 0,l,_,h=>by
  cases l with
  | nil=>simp
  | cons a r=>exact absurd (h a (by simp)) (ai2 _)
 | n+1,l,hd,h=>by
  by_cases hm:n∈l
  ·have h1:=Og n (l.erase n) (hd.erase n) (fun x hx=>by
    have:=(hd.mem_erase_iff).1 hx
    have:=h x this.2
    omega)
   rw[List.length_erase_of_mem hm] at h1
   omega
  ·have:=Og n l hd (fun x hx=>by
    have h2:=h x hx
    have:x≠n:=fun e=>hm (e ▸ hx)
    omega)
   omega
def itp (par:Nat→Option Nat):Nat→Nat→Option Nat
 | 0,i=>some i
 | j+1,i=>(par i).bind (itp par j)
def E4 (par:Nat→Option Nat) (i k d:Nat):Prop:=itp par (d+1) k=some i∧∀ e,e<d→itp par (e+1) k≠some i
theorem E4.uniq {par:Nat→Option Nat} {i k d e:Nat} (h:E4 par i k d) (h':E4 par i k e):d=e:=by
 rcases aiV d e with h1 | h1 | h1
 ·exact absurd h.1 (h'.2 d h1)
 ·exact h1
 ·exact absurd h'.1 (h.2 e h1)
theorem E4.step {par:Nat→Option Nat} {i k d:Nat} (h:E4 par i k d):∃ k',par k=some k'∧((k'=i∧d=0)∨(k'≠i∧∃ e,d=e+1∧E4 par i k' e)):=by
 obtain⟨h1,h2⟩:=h
 simp only[itp] at h1
 cases hp:par k with
 | none=>rw[hp] at h1;cases h1
 | some k'=>
  rw[hp] at h1
  refine⟨k',rfl, ?_⟩
  cases d with
  | zero=>simp only[ajb,itp,Option.some.injEq] at h1;exact .inl ⟨h1,rfl⟩
  | succ e=>
   right
   refine⟨fun e1=> ?_,e,rfl,by simpa using h1,fun f hf hx=> ?_⟩
   ·refine h2 0 (by omega) ?_
    simp only[itp,hp,ajb,e1]
   ·refine h2 (f+1) (by omega) ?_
    rw[show f+1+1=(f+1)+1 from rfl]
    show (par k).bind (itp par (f+1))=some i
    rw[hp];exact hx
theorem E4.list {par:Nat→Option Nat} {i n:Nat} (hn:∀ k k',par k=some k'→k'<n):∀ {d k:Nat},k<n→E4 par i k d→∃ l:List Nat,l.length=d+1∧l.Nodup∧(∀ x∈l,x<n)∧∀ x∈l,∃ e,e≤d∧E4 par i x e
 | 0,k,hk,h=>⟨[k],rfl,by simp,by simpa using hk,fun x hx=>by simp at hx;subst hx;exact⟨0,aiN _,h⟩⟩
 | d+1,k,hk,h=>by
  obtain⟨k',h1,h2⟩:=h.step
  rcases h2 with ⟨_,h2⟩ | ⟨_,e,h2,h3⟩
  ·omega
  ·have:e=d:=by omega
   subst this
   obtain⟨l,l1,l2,l3,l4⟩:=E4.list hn (hn _ _ h1) h3
   refine⟨k::l,by simp[l1],List.nodup_cons.2 ⟨fun hm=> ?_,l2⟩,fun x hx=> ?_,fun x hx=> ?_⟩
   ·obtain⟨f,f1,f2⟩:=l4 k hm
    have:=f2.uniq h
    omega
   ·rcases ah7.1 hx with rfl | hx
    ·exact hk
    ·exact l3 x hx
   ·rcases ah7.1 hx with rfl | hx
    ·exact⟨e+1,aiN _,h⟩
    ·obtain⟨f,f1,f2⟩:=l4 x hx;exact⟨f,by omega,f2⟩
theorem E4.le {par:Nat→Option Nat} {i n d k:Nat} (hn:∀ k k',par k=some k'→k'<n) (hk:k<n) (h:E4 par i k d):d+1≤n:=by
 obtain⟨l,l1,l2,l3,_⟩:=h.list hn hk
 have:=Og n l l2 l3
 omega
end Go.Md
namespace Go.Md
open Go.Dn
def qOk (d:ai) (zero:Bool):Bool:=inR d 0 1000000000 3&&(!(d.1==0)||zero)
theorem Tj {d:ai} (hd:cA d):uT d 3 1000000000=some (inR d 0 1000000000 3,()):=by
 unfold uT
 have hp:=Cg d.2.toNat
 have hp2:(10:Int) ^ d.2.toNat≤1000000000:=by
  have:=ai5 (n:=10) (by omega) (show d.2.toNat≤9 by have:=hd.2.2;omega)
  have h2:=Int.ofNat_le.2 this
  simpa using h2
 rw[DT d.2 hd.2.1 (by have:=hd.2.2;omega)]
 have e:inR d 0 1000000000 3=(decide (d.2≤3)&&(decide (d.1≥0)&&decide (d.1≤1000000000*10 ^ d.2.toNat))):=by
  unfold inR
  rw[← agF, ← agF,ajp,Int.zero_mul]
  constructor
  ·rintro⟨_,h2,h3,h4⟩;exact⟨h2,h3,h4⟩
  ·rintro⟨h2,h3,h4⟩;exact⟨hd,h2,h3,h4⟩
 rw[e,ajb,aC (n:=1000000000*10 ^ d.2.toNat) (by omega) (by omega)]
 cases decide (d.2≤3)<;>cases decide (d.1≥0)<;>cases decide (d.1≤1000000000*10 ^ d.2.toNat)<;>rfl
theorem AN (d:ai) (z:Bool):nD d z=some (if qOk d z=true then 0 else 1,()):=by
 unfold nD qOk
 rw[gu,ajb]
 by_cases hd:cA d
 ·rw[Tj hd,ajz hd]
  dsimp only
  rw[zne,ajn,ajb]
  cases inR d 0 1000000000 3<;>cases (d.1==0)<;>cases z<;>rfl
 ·have:inR d 0 1000000000 3=false:=by unfold inR;simp[hd]
  simp[hd,this]
end Go.Md
