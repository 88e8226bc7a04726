/-
  Plain facts: products, powers, rounding. No condition.
-/
import Derived.Test.YtalfglakknbjkaaGreatDoorHq
import Derived.Test.YtalfglakknbjkaaGreatDoorHn
set_option linter.all false
namespace Go.Md
open Go.Dn
theorem Ng (a b:List Int):Fc a b=Bv a b:=rfl
theorem dD (x y:Int) (hx:x.natAbs<4294967296 ^ 99) (hy:y.natAbs<4294967296 ^ 99):aX (W x) (W y)=some (W (x+y),()):=by
 have hlx:=sd hx
 have hly:=sd hy
 unfold aX W
 dsimp only
 by_cases hs:decide (x<0)=decide (y<0)
 ·rw [show (decide (x<0)==decide (y<0))=true by simp [hs],cond_true,Ng]
  obtain ⟨s,h1,h2,h3,h4⟩:=Ju (bz x.natAbs) (bz y.natAbs) (ef _) (ef _) (by omega) (by omega)
  rw [h1,Option.bind_some]
  dsimp only
  rw [jQ _ _ h2 (by omega),Option.bind_some,h3,dZ,dZ]
  simp only [X7] at hs
  show some (W _,())=some (W (x+y),())
  congr 3
  by_cases h:x<0
  ·simp only [h,Ya,Ye];omega
  ·simp only [h,decide_false,V4,Yd];omega
 ·rw [show (decide (x<0)==decide (y<0))=false by simp [hs],cond_false]
  obtain ⟨c,h1,h2,h3⟩:=Dy x.natAbs y.natAbs (by omega) (by omega)
  rw [h1,Option.bind_some]
  dsimp only
  simp only [X7] at hs
  have hlen:∀ a b:Nat,b≤a→(bz b).length≤(bz a).length:=fun a b h=>by
   rcases XI (bz a).length (bz b).length with h' | h'
   ·have:=og h';omega
   ·exact h'
  by_cases hc:c≥0
  ·rw [aM hc,CC _ _ (ef _) (ef _) (by omega) (hlen _ _ (by omega)) (by rw [dZ,dZ];omega),Option.bind_some]
   dsimp only
   rw [jQ _ _ (ef _) (by have:=hlen x.natAbs (v32 (bz x.natAbs) - v32 (bz y.natAbs)).toNat (by rw [dZ,dZ];omega);omega),Option.bind_some]
   rw [dZ,dZ,dZ]
   show some (W _,())=some (W (x+y),())
   congr 3
   by_cases h:x<0
   ·simp only [h,Ya,Ye];omega
   ·simp only [h,decide_false,V4,Yd];omega
  ·rw [aN hc,CC _ _ (ef _) (ef _) (by omega) (hlen _ _ (by omega)) (by rw [dZ,dZ];omega),Option.bind_some]
   dsimp only
   rw [jQ _ _ (ef _) (by have:=hlen y.natAbs (v32 (bz y.natAbs) - v32 (bz x.natAbs)).toNat (by rw [dZ,dZ];omega);omega),Option.bind_some]
   rw [dZ,dZ,dZ]
   show some (W _,())=some (W (x+y),())
   congr 3
   by_cases h:y<0
   ·simp only [h,Ya,Ye];omega
   ·simp only [h,decide_false,V4,Yd];omega
theorem KL (x y:Int) (hx:x.natAbs<4294967296 ^ 99) (hy:y.natAbs<4294967296 ^ 99):vC (W x) (W y)=some (W (x - y),()):=by
 unfold vC
 rw [BR y hy,Option.bind_some]
 dsimp only
 rw [dD x (-y) hx (by omega),Option.bind_some,Int.sub_eq_add_neg]
theorem sI (x y:Int) (hx:x.natAbs<4294967296 ^ 99) (hy:y.natAbs<4294967296 ^ 99):kV (W x) (W y)=some ((x - y).sign,()):=by
 unfold kV
 rw [KL x y hx hy,Option.bind_some]
 dsimp only
 rw [qE,Option.bind_some]
theorem Ls (z:Int):fY (W z)=some (decide (z.natAbs % 2=1),()):=by
 unfold fY W
 dsimp only
 by_cases hz:z=0
 ·subst hz;rfl
 ·have hp:0<z.natAbs:=by omega
  have e:bz z.natAbs=((z.natAbs % 4294967296:Nat):Int)::bz (z.natAbs / 4294967296):=BE (B:=4294967296) (by omega) hp
  rw [e]
  rw [aM (by simp only [WW];omega)]
  rw [show (0:Int)=((0:Nat):Int) from rfl,bM]
  simp only [WJ,Option.bind_some]
  have:=Ro (z.natAbs % 4294967296) 0 (by omega)
  simp only [Nat.zero_min,Int.pow_zero] at this
  rw [show Int.fdiv ((z.natAbs % 4294967296:Nat):Int) 1=((z.natAbs % 4294967296:Nat):Int) by rw [Wg _ (by omega)];omega] at this
  rw [this]
  congr 2
  simp only [Nat.pow_zero,Nat.div_one]
  by_cases h:z.natAbs % 2=1
  ·rw [X9 h,show z.natAbs % 4294967296 % 2=1 by omega];rfl
  ·rw [X8 h,show z.natAbs % 4294967296 % 2=0 by omega];rfl
theorem QE {x y z c:Int} (hx:0≤x∧x<4294967296) (hy:0≤y∧y<4294967296) (hz:0≤z∧z<4294967296) (hc:0≤c∧c<4294967296):0≤x*y∧x*y≤18446744065119617025∧c+(z+x*y)≤18446744073709551615:=by
 have h1:0≤x*y:=Wj hx.1 hy.1
 have h2:x*y≤4294967295*4294967295:=Int.mul_le_mul (by omega) (by omega) (by omega) (by omega)
 omega
theorem KC (i:Nat) (x:Int) (ga:List Int) (gn gi:Int) (b:List Int) (s1:Bool) (l1:List Int) (s2:Bool) (l2:List Int) (s3:Bool) (l3:List Int) (out:List Int) (hx:0≤x∧x<4294967296) (hb:Dg b) (hbl:b.length<10000) (hil:i<10000) (ho:i+b.length≤out.length) (hol:out.length<100000) (hd:Dg out) (n:Nat) (hn:b.length<n):
 ∃ o c,iter n (((i:Int),x,(0:Int),ga,gn,gi,b,(b.length:Int),(0:Int),s1,l1,s2,l2,s3,l3,out,()):nh) qg=some (Sum.inr ((i:Int),c,ga,gn,gi,s1,l1,s2,l2,s3,l3,o,()))∧
  Dg o∧o.length=out.length∧0≤c∧c<4294967296∧v32 o+4294967296 ^ (i+b.length)*c=v32 out+4294967296 ^ i*x*v32 b∧∀ j,i+b.length≤j→o[j]? =out[j]? :=by
 refine bS (Inv:=fun k X=>∃ o c,X=(((i:Int),x,c,ga,gn,gi,b,(b.length:Int),(k:Int),s1,l1,s2,l2,s3,l3,o,()):nh)∧Dg o∧o.length=out.length∧0≤c∧c<4294967296∧v32 o+4294967296 ^ (i+k)*c=v32 out+4294967296 ^ i*x*v32 (b.take k)∧∀ j,i+k≤j→o[j]? =out[j]?) b.length
  (fun r=>∃ o c,r=some (Sum.inr ((i:Int),c,ga,gn,gi,s1,l1,s2,l2,s3,l3,o,()))∧Dg o∧o.length=out.length∧0≤c∧c<4294967296∧v32 o+4294967296 ^ (i+b.length)*c=v32 out+4294967296 ^ i*x*v32 b∧∀ j,i+b.length≤j→o[j]? =out[j]?) ?_ ?_ n 0 _ ⟨out,0,rfl,hd,rfl,by omega,by omega,by simp [A2],fun _ _=>rfl⟩ (by omega) (by omega)
 ·rintro k _ again hk ⟨o,c,rfl,h1,h2,h3,h4,h5,h6⟩ ih
  unfold qg
  dsimp only
  have hy:b[k]? =some b[k]:=aR hk
  have hyd:=hb.get hy
  have hts:=jR hy
  have hz:o[i+k]? =some (o[i+k]'(by omega)):=aR (by omega)
  have hzd:=h1.get hz
  generalize b[k]=y at hy hyd hts
  generalize o[i+k]'(by omega)=z at hz hzd
  obtain ⟨m1,m2,m3⟩:=QE hx hyd hzd ⟨h3,h4⟩
  have e1:w64 ((i:Int)+(k:Int))=((i+k:Nat):Int):=by rw [aJ (by omega) (by omega)];omega
  rw [aM (by omega),bM,hy,Option.bind_some,e1,aT (by simp only [VZ,decide_eq_true_eq];omega),Wo,hz,Option.bind_some,aT (by simp only [VZ,decide_eq_true_eq];omega),Option.bind_some,
   dK (n:=x) (by omega) (by omega),dK (n:=y) (by omega) (by omega),dK (n:=z) (by omega) (by omega),dK (n:=x*y) (by omega) (by omega),dK (n:=z+x*y) (by omega) (by omega),dK (n:=c+(z+x*y)) (by omega) (by omega),AM,Pe,aJ (n:=(k:Int)+1) (by omega) (by omega)]
  generalize ht:c+(z+x*y)=t at*
  refine ih _ ⟨_,_,rfl,h1.set (by omega),by rw [W2];exact h2,by omega,by omega, ?_,fun j hj=> ?_⟩
  ·rw [Kn hz,hts]
   have e2:(4294967296:Int) ^ (i+(k+1))=4294967296 ^ i*4294967296 ^ k*4294967296:=by rw [← Xx,Wm,Int.pow_add]
   have e3:(4294967296:Int) ^ (i+k)=4294967296 ^ i*4294967296 ^ k:=Int.pow_add ..
   rw [e3] at h5
   rw [e2,e3]
   have e4:=Int.mul_ediv_add_emod t 4294967296
   generalize (4294967296:Int) ^ i=p at*
   generalize (4294967296:Int) ^ k=q at*
   generalize t / 4294967296=d at*
   generalize t % 4294967296=r at*
   grind
  ·rw [WQ (by omega)];exact h6 j (by omega)
 ·rintro _ again ⟨o,c,rfl,h1,h2,h3,h4,h5,h6⟩
  unfold qg
  dsimp only
  rw [aN (by omega)]
  rw [Xv (XE _)] at h5
  exact ⟨o,c,rfl,h1,h2,h3,h4,h5,h6⟩
theorem KF (a b:List Int) (ha:Dg a) (hb:Dg b) (hal:a.length<1000) (hbl:b.length<1000) (s1 s2 s3:Bool) (l3:List Int) (n:Nat) (hn:a.length<n):
 ∃ o,iter n ((a,(a.length:Int),(0:Int),s1,a,s2,b,s3,l3,List.replicate (a.length+b.length) 0,()):nj) qc=some (Sum.inr (s1,a,s2,b,s3,l3,o,()))∧Dg o∧o.length=a.length+b.length∧v32 o=v32 a*v32 b:=by
 refine bS (Inv:=fun i X=>∃ o,X=((a,(a.length:Int),(i:Int),s1,a,s2,b,s3,l3,o,()):nj)∧Dg o∧o.length=a.length+b.length∧v32 o=v32 (a.take i)*v32 b∧∀ j,i+b.length≤j→j<a.length+b.length→o[j]? =some 0) a.length
  (fun r=>∃ o,r=some (Sum.inr (s1,a,s2,b,s3,l3,o,()))∧Dg o∧o.length=a.length+b.length∧v32 o=v32 a*v32 b) ?_ ?_ n 0 _ ⟨_,rfl,fun d hd=>by rw [List.mem_replicate] at hd;omega,by simp,by rw [Ie];simp [A2],fun j _ hj=>by rw [WN,if_pos hj]⟩ (by omega) (by omega)
 ·rintro i _ again hi ⟨o,rfl,h1,h2,h3,h4⟩ ih
  unfold qc
  dsimp only
  have hy:a[i]? =some a[i]:=aR hi
  have hyd:=ha.get hy
  have hts:=jR hy
  generalize a[i]=x at hy hyd hts
  rw [aM (by omega),bM,hy,Option.bind_some]
  obtain ⟨o',c,k1,k2,k3,k4,k5,k6,k7⟩:=KC i x a (a.length:Int) (i:Int) b s1 a s2 b s3 l3 o hyd hb (by omega) (by omega) (by omega) (by omega) h1 (Int.natAbs (i:Int)+(Int.natAbs x+(Int.natAbs (0:Int)+(List.length a+(Int.natAbs (a.length:Int)+(Int.natAbs (i:Int)+(List.length b+(Int.natAbs ((List.length b:Int))+(Int.natAbs (0:Int)+(List.length a+(List.length b+(List.length l3+(List.length o+2))))))))))))) (by omega)
  rw [k1,aL]
  dsimp only
  have e1:w64 ((i:Int)+(b.length:Int))=((i+b.length:Nat):Int):=by rw [aJ (by omega) (by omega)];omega
  have hz:o'[i+b.length]? =some 0:=by rw [k7 _ (XE _)];exact h4 _ (XE _) (by omega)
  rw [e1,aT (by simp only [VZ,decide_eq_true_eq];omega),Wo,hz,Option.bind_some,A3 (by omega) (by omega),aJ (n:=(i:Int)+1) (by omega) (by omega)]
  refine ih _ ⟨_,rfl,k2.set (by omega),by rw [W2];omega, ?_,fun j hj hj2=> ?_⟩
  ·rw [Kn hz,hts]
   have e3:(4294967296:Int) ^ (i+b.length)=4294967296 ^ i*4294967296 ^ b.length:=Int.pow_add ..
   rw [e3] at k6 ⊢
   grind
  ·rw [WQ (by omega),k7 j (by omega)];exact h4 j (by omega) hj2
 ·rintro _ again ⟨o,rfl,h1,h2,h3,h4⟩
  unfold qc
  dsimp only
  rw [aN (by omega)]
  rw [Xv (XE _)] at h3
  exact ⟨o,rfl,h1,h2,h3⟩
theorem gC (x y:Int) (hx:x.natAbs<4294967296 ^ 99) (hy:y.natAbs<4294967296 ^ 99):fe (W x) (W y)=some (W (x*y),()):=by
 have hlx:=sd hx
 have hly:=sd hy
 unfold fe W
 dsimp only
 have e1:w64 (((bz x.natAbs).length:Int)+((bz y.natAbs).length:Int))=(((bz x.natAbs).length+(bz y.natAbs).length:Nat):Int):=by rw [aJ (by omega) (by omega)];omega
 rw [e1,aT (by simp only [VZ,decide_eq_true_eq];omega)]
 obtain ⟨o,h1,h2,h3,h4⟩:=KF (bz x.natAbs) (bz y.natAbs) (ef _) (ef _) (by omega) (by omega) (decide (x<0)) (decide (y<0)) false [] (List.length (bz x.natAbs)+(Int.natAbs ((List.length (bz x.natAbs):Int))+(Int.natAbs (0:Int)+(List.length (bz x.natAbs)+(List.length (bz y.natAbs)+(List.length ([]:List Int)+(List.length ((List.replicate (Int.toNat (((bz x.natAbs).length+(bz y.natAbs).length:Nat):Int)) 0):List Int)+2))))))) (by omega)
 rw [Wo] at h1 ⊢
 rw [h1,aL]
 dsimp only
 rw [jQ _ _ h2 (by omega),Option.bind_some,h4,dZ,dZ]
 show some (W _,())=some (W (x*y),())
 congr 3
 rw [← Wl, ← Int.natAbs_mul]
 by_cases h:x<0<;>by_cases h':y<0
 ·have:=Int.mul_pos_of_neg_of_neg h h'
  simp [h,h'];omega
 ·have:=Wj (show 0≤ -x by omega) (show 0≤y by omega)
  rw [Int.neg_mul] at this
  simp [h,h'];omega
 ·have:=Wj (show 0≤x by omega) (show 0≤ -y by omega)
  rw [Int.mul_neg] at this
  simp [h,h'];omega
 ·have:=Wj (show 0≤x by omega) (show 0≤y by omega)
  simp [h,h'];omega
end Go.Md
namespace Go.Md
open Go.Dn
def Le (k:Nat) (z:Int):Prop:=z.natAbs≤10 ^ k
theorem Le.mul {a b:Nat} {x y:Int} (hx:Le a x) (hy:Le b y):Le (a+b) (x*y):=by
 unfold Le at*
 rw [Int.natAbs_mul,XS]
 exact Nat.mul_le_mul hx hy
theorem Le.mono {a b:Nat} {x:Int} (hx:Le a x) (h:a≤b):Le b x:=XF hx (XT (by omega) h)
theorem Le.add {a:Nat} {x y:Int} (hx:Le a x) (hy:Le a y):Le (a+1) (x+y):=by
 unfold Le at*
 rw [XU]
 omega
theorem Le.neg {a:Nat} {x:Int} (hx:Le a x):Le a (-x):=by unfold Le at *;omega
theorem Le.w {k:Nat} {z:Int} (h:Le k z) (hk:k≤900):z.natAbs<4294967296 ^ 99:=
 XG (h.mono hk) (by decide +kernel)
theorem Le.n {k:Nat} {z:Int} (h:Le k z) (hk:k≤500):(dg6 z.natAbs).length<90:=by
 have:=UU (k:=84) (n:=z.natAbs) (XG (h.mono hk) (by decide +kernel))
 omega
theorem Le.pow (n:Nat):Le n (10 ^ n):=by
 unfold Le
 rw [Int.natAbs_pow];exact XE _
theorem Le.nat {k n:Nat} (h:n≤10 ^ k):Le k (n:Int):=h
theorem Le.int {n:Int} (h1: -9223372036854775808≤n) (h2:n≤9223372036854775807):Le 19 n:=by unfold Le;omega
theorem Le.succ {k n:Nat} (h:Le k (n:Int)):Le (k+1) ((n+1:Nat):Int):=by
 unfold Le at*
 rw [XU]
 have:1≤10 ^ k:=Nat.pow_pos (by omega)
 omega
theorem Gl (n:Nat) (hn:n≤60):oe (n:Int)=some (W (10 ^ n),()):=by
 unfold oe
 rw [fN 1 (by omega) (by omega),Option.bind_some]
 dsimp only
 have loop:∀ (f:Nat),n<f→iter f (((n:Int),(0:Int),false,([]:List Int),(W 1).1,(W 1).2,()):rD) vP=some (Sum.inr (false,[],(W (10 ^ n)).1,(W (10 ^ n)).2,())):=by
  intro f hf
  refine bS (Inv:=fun i X=>X=(((n:Int),(i:Int),false,([]:List Int),(W (10 ^ i)).1,(W (10 ^ i)).2,()):rD)) n (fun r=>r=some (Sum.inr (false,[],(W (10 ^ n)).1,(W (10 ^ n)).2,()))) ?_ ?_ f 0 _ rfl (by omega) (by omega)
  ·rintro i _ again hi rfl ih
   unfold vP
   dsimp only
   rw [aM (by omega),fN 10 (by omega) (by omega),Option.bind_some]
   dsimp only
   rw [gC (10 ^ i) 10 ((Le.pow i).w (by omega)) ((Le.int (n:=10) (by omega) (by omega)).w (by omega)),Option.bind_some,aJ (by omega) (by omega)]
   refine ih _ ?_
   rw [Wm]
   rfl
  ·rintro _ again rfl
   unfold vP
   dsimp only
   rw [aN (by omega)]
 rw [loop _ (by omega),aL]
theorem x4 (d:ak) (p:Int) (h1: -9223372036854775808≤d.1) (h2:d.1≤9223372036854775807) (hp0:0≤p - d.2) (hp:p - d.2≤60) (hd: -1000≤d.2∧d.2≤1000):nH d p=some (W (d.1*10 ^ (p - d.2).toNat),()):=by
 unfold nH
 rw [fN _ h1 h2,Option.bind_some,aJ (by omega) (by omega)]
 obtain ⟨n,hn⟩:∃ n:Nat,p - d.2=n:=⟨(p - d.2).toNat,by omega⟩
 rw [hn,Gl n (by omega),Option.bind_some]
 dsimp only
 rw [gC _ _ ((Le.int h1 h2).w (by omega)) ((Le.pow n).w (by omega)),Option.bind_some,Wo]
def MZ (way:Int) (neg:Bool) (q r b:Nat):Bool:=
 if way=1 then decide (b≤2*r)
 else if way=2 then decide (b<2*r∨(2*r=b∧q % 2=1))
 else if way=4 then decide (0<r)
 else if way=5 then neg&&decide (0<r)
 else if way=6 then !neg&&decide (0<r)
 else false
def rnd (way a:Int) (b:Nat):Int:=
 let u:Nat:=a.natAbs / b+(if MZ way (decide (a<0)) (a.natAbs / b) (a.natAbs % b) b=true then 1 else 0)
 if a<0 then -(u:Int) else (u:Int)
theorem TJ {way a:Int} {b k:Nat} (h:Le k a):Le (k+1) (rnd way a b):=by
 unfold Le at*
 unfold rnd
 have h1:a.natAbs / b≤a.natAbs:=Nat.div_le_self _ _
 have h2:1≤10 ^ k:=Nat.pow_pos (by omega)
 rw [XU]
 dsimp only
 generalize MZ way (decide (a<0)) (a.natAbs / b) (a.natAbs % b) b=up
 generalize a.natAbs / b=q at*
 split<;>split<;>omega
theorem CL (a:Int) (b:Nat) (way:Int) (hb:0<b) (ha:Le 800 a) (hb2:Le 800 (b:Int)):rj (W a) (W b) way=some (W (rnd way a b),()):=by
 have e0:(b:Int).natAbs=b:=rfl
 unfold rj
 rw [EH a b (ha.w (by omega)) (hb2.w (by omega)) (by omega),Option.bind_some,e0]
 dsimp only
 have hq:Le 800 ((a.natAbs / b:Nat):Int):=XF (Nat.div_le_self _ _) ha
 have hr:Le 800 ((a.natAbs % b:Nat):Int):=XF (Nat.mod_le _ _) ha
 have hrb:=XN a.natAbs hb
 unfold rnd
 generalize a.natAbs / b=q at*
 generalize a.natAbs % b=r at*
 rw [qE,Option.bind_some]
 dsimp only
 have inc:aX (W q) (W 1)=some (W ((q+1:Nat):Int),()):=dD q 1 (hq.w (by omega)) ((Le.int (n:=1) (by omega) (by omega)).w (by omega))
 have one:bC 1=some (W 1,()):=fN 1 (by omega) (by omega)
 have hq1:Le 801 ((q+1:Nat):Int):=hq.succ
 have mi:∀ z:Int,Le 801 z→aA (W z)=some (W (-z),()):=fun z h=>BR z (h.w (by omega))
 have sg:∀ z:Int,aB (W z)=some (z.sign,()):=qE
 have od:fY (W (q:Int))=some (decide (q % 2=1),()):=Ls q
 have an:decide (a.sign<0)=decide (a<0):=by rw [X7];exact Int.sign_neg_iff
 by_cases h0:r=0
 ·subst h0
  rw [show ((Int.sign ((0:Nat):Int)) != 0)=false from rfl,cond_false,sg,Option.bind_some]
  dsimp only
  rw [an]
  have hu:MZ way (decide (a<0)) q 0 b=false:=by
   unfold MZ
   split
   ·simp;omega
   ·split
    ·simp;omega
    ·simp
  rw [hu]
  by_cases hn:a<0
  ·rw [aM hn,mi _ (hq.mono (by omega)),Option.bind_some]
   simp [hn]
  ·rw [aN hn]
   simp [hn]
 ·have hs:((Int.sign (r:Int)) != 0)=true:=by
   rw [Int.sign_eq_one_of_pos (by omega)];rfl
  rw [hs,cond_true,dD r r (hr.w (by omega)) (hr.w (by omega)),Option.bind_some]
  dsimp only
  rw [sI _ _ ((hr.add hr).w (by omega)) (hb2.w (by omega)),Option.bind_some]
  dsimp only
  have hc1:decide (((r:Int)+r - b).sign≥0)=decide (b≤2*r):=by
   rw [X7,ge_iff_le,Int.sign_nonneg_iff];omega
  have hc2:decide (((r:Int)+r - b).sign>0)=decide (b<2*r):=by
   rw [X7,gt_iff_lt,Int.sign_pos_iff];omega
  have hc3:(((r:Int)+r - b).sign==0)=decide (2*r=b):=by
   rw [show (((r:Int)+r - b).sign==0)=decide (((r:Int)+r - b).sign=0) from rfl,X7,Wn];omega
  rw [sg,Option.bind_some]
  dsimp only
  rw [hc1,hc2,hc3,an]
  have fin:∀ (u:Nat),Le 801 (u:Int)→(bif decide (a<0) then Option.bind (aA (W (u:Int))) fun r9=>some (r9.1,()) else some (W (u:Int),()))=some (W (if a<0 then -(u:Int) else u),()):=by
   intro u hu
   by_cases hn:a<0
   ·rw [aM hn,mi _ hu,Option.bind_some,if_pos hn]
   ·rw [aN hn,if_neg hn]
  simp only [one,inc,od,Option.bind_some,an,fin q (hq.mono (by omega)),fin (q+1) hq1]
  have hr0:decide (0<r)=true:=by simp;omega
  unfold MZ
  simp only [hr0,V3]
  by_cases w1:way=1
  ·subst w1;cases decide (b≤2*r)<;>simp
  by_cases w2:way=2
  ·subst w2
   by_cases k1:b<2*r
   ·simp [k1]
   ·by_cases k2:2*r=b
    ·by_cases k3:q % 2=1<;>simp [k1,k2,k3]
    ·simp [k1,k2]
  by_cases w4:way=4
  ·subst w4;simp
  by_cases w5:way=5
  ·subst w5;by_cases hn:a<0<;>simp [hn]
  by_cases w6:way=6
  ·subst w6;by_cases hn:a<0<;>simp [hn]
  simp [w1,w2,w4,w5,w6,show (way==1)=false by simpa using w1,show (way==2)=false by simpa using w2,show (way==4)=false by simpa using w4,show (way==5)=false by simpa using w5,show (way==6)=false by simpa using w6]
end Go.Md
namespace Go.Md
open Go.Dn
theorem Ot {α:Type} {l:List α} {k:Nat} {y:α} (h:l[k]? =some y):l.drop k=y::l.drop (k+1):=by
 obtain ⟨hk,rfl⟩:=List.getElem?_eq_some_iff.1 h
 exact Wz hk
end Go.Md
namespace Go.Md
open Go.Dn
end Go.Md
