/-
  Plain facts: rounding. No condition.
-/
import Derived.Test.YtalfglakknbjkaaGreatDoorQq
import Derived.Test.YtalfglakknbjkaaGreatDoorQn
set_option linter.all false
namespace Go.Md
open Go.Dn
theorem Yt (a b:List Int):LS a b=GX a b:=rfl
theorem dZ (x y:Int) (hx:x.natAbs<4294967296 ^ 99) (hy:y.natAbs<4294967296 ^ 99):bC (W x) (W y)=some (W (x+y),()):=by
 have hlx:=uY hx
 have hly:=uY hy
 unfold bC W
 dsimp only
 by_cases hs:decide (x<0)=decide (y<0)
 ·rw[show (decide (x<0)==decide (y<0))=true by simp[hs],amE,Yt]
  obtain⟨s,h1,h2,h3,h4⟩:=Ra (bL x.natAbs) (bL y.natAbs) (eW _) (eW _) (by omega) (by omega)
  rw[h1,amq]
  dsimp only
  rw[kQ _ _ h2 (by omega),amq,h3,eY,eY]
  simp only[amF] at hs
  show some (W _,())=some (W (x+y),())
  congr 3
  by_cases h:x<0
  ·simp only[h,amK,amR];omega
  ·simp only[h,amJ,ajP,amO];omega
 ·rw[show (decide (x<0)==decide (y<0))=false by simp[hs],amD]
  obtain⟨c,h1,h2,h3⟩:=JK x.natAbs y.natAbs (by omega) (by omega)
  rw[h1,amq]
  dsimp only
  simp only[amF] at hs
  have hlen:∀ a b:Nat,b≤a→(bL b).length≤(bL a).length:=fun a b h=>by
   rcases al3 (bL a).length (bL b).length with h' | h'
   ·have:=o8 h';omega
   ·exact h'
  by_cases hc:c≥0
  ·rw[aD hc,HG _ _ (eW _) (eW _) (by omega) (hlen _ _ (by omega)) (by rw[eY,eY];omega),amq]
   dsimp only
   rw[kQ _ _ (eW _) (by have:=hlen x.natAbs (v32 (bL x.natAbs) - v32 (bL y.natAbs)).toNat (by rw[eY,eY];omega);omega),amq]
   rw[eY,eY,eY]
   show some (W _,())=some (W (x+y),())
   congr 3
   by_cases h:x<0
   ·simp only[h,amK,amR];omega
   ·simp only[h,amJ,ajP,amO];omega
  ·rw[aE hc,HG _ _ (eW _) (eW _) (by omega) (hlen _ _ (by omega)) (by rw[eY,eY];omega),amq]
   dsimp only
   rw[kQ _ _ (eW _) (by have:=hlen y.natAbs (v32 (bL y.natAbs) - v32 (bL x.natAbs)).toNat (by rw[eY,eY];omega);omega),amq]
   rw[eY,eY,eY]
   show some (W _,())=some (W (x+y),())
   congr 3
   by_cases h:y<0
   ·simp only[h,amK,amR];omega
   ·simp only[h,amJ,ajP,amO];omega
theorem TS (x y:Int) (hx:x.natAbs<4294967296 ^ 99) (hy:y.natAbs<4294967296 ^ 99):zg (W x) (W y)=some (W (x - y),()):=by
 unfold zg
 rw[GP y hy,amq]
 dsimp only
 rw[dZ x (-y) hx (by omega),amq,Int.sub_eq_add_neg]
theorem u5 (x y:Int) (hx:x.natAbs<4294967296 ^ 99) (hy:y.natAbs<4294967296 ^ 99):mj (W x) (W y)=some ((x - y).sign,()):=by
 unfold mj
 rw[TS x y hx hy,amq]
 dsimp only
 rw[sK,amq]
theorem Vx (z:Int):gI (W z)=some (decide (z.natAbs % 2=1),()):=by
 unfold gI W
 dsimp only
 by_cases hz:z=0
 ·subst hz;rfl
 ·have hp:0<z.natAbs:=by omega
  have e:bL z.natAbs=((z.natAbs % 4294967296:Nat):Int)::bL (z.natAbs / 4294967296):=AR (B:=4294967296) (by omega) hp
  rw[e]
  rw[aD (by simp only[ak3];omega)]
  rw[show (0:Int)=((0:Nat):Int) from rfl,bf]
  simp only[akO,amq]
  have:=afc (z.natAbs % 4294967296) 0 (by omega)
  simp only[Nat.zero_min,Int.pow_zero] at this
  rw[show Int.fdiv ((z.natAbs % 4294967296:Nat):Int) 1=((z.natAbs % 4294967296:Nat):Int) by rw[aj5 _ (by omega)];omega] at this
  rw[this]
  congr 2
  simp only[Nat.pow_zero,Nat.div_one]
  by_cases h:z.natAbs % 2=1
  ·rw[amH h,show z.natAbs % 4294967296 % 2=1 by omega];rfl
  ·rw[amG h,show z.natAbs % 4294967296 % 2=0 by omega];rfl
theorem adv {x y z c:Int} (hx:0≤x∧x<4294967296) (hy:0≤y∧y<4294967296) (hz:0≤z∧z<4294967296) (hc:0≤c∧c<4294967296):0≤x*y∧x*y≤18446744065119617025∧c+(z+x*y)≤18446744073709551615:=by
 have h1:0≤x*y:=aka hx.1 hy.1
 have h2:x*y≤4294967295*4294967295:=Int.mul_le_mul (by omega) (by omega) (by omega) (by omega)
 omega
theorem TK (i:Nat) (x:Int) (ga:List Int) (gn gi:Int) (b:List Int) (s1:Bool) (l1:List Int) (s2:Bool) (l2:List Int) (s3:Bool) (l3:List Int) (out:List Int) (hx:0≤x∧x<4294967296) (hb:Dg b) (hbl:b.length<10000) (hil:i<10000) (ho:i+b.length≤out.length) (hol:out.length<100000) (hd:Dg out) (n:Nat) (hn:b.length<n):
 ∃ o c,iter n (((i:Int),x,(0:Int),ga,gn,gi,b,(b.length:Int),(0:Int),s1,l1,s2,l2,s3,l3,out,()):nB) q9=some (Sum.inr ((i:Int),c,ga,gn,gi,s1,l1,s2,l2,s3,l3,o,()))∧
  Dg o∧o.length=out.length∧0≤c∧c<4294967296∧v32 o+4294967296 ^ (i+b.length)*c=v32 out+4294967296 ^ i*x*v32 b∧∀ j,i+b.length≤j→o[j]? =out[j]? :=by
 refine aZ (Inv:=fun k X=>∃ o c,X=(((i:Int),x,c,ga,gn,gi,b,(b.length:Int),(k:Int),s1,l1,s2,l2,s3,l3,o,()):nB)∧Dg o∧o.length=out.length∧0≤c∧c<4294967296∧v32 o+4294967296 ^ (i+k)*c=v32 out+4294967296 ^ i*x*v32 (b.take k)∧∀ j,i+k≤j→o[j]? =out[j]?) b.length
  (fun r=>∃ o c,r=some (Sum.inr ((i:Int),c,ga,gn,gi,s1,l1,s2,l2,s3,l3,o,()))∧Dg o∧o.length=out.length∧0≤c∧c<4294967296∧v32 o+4294967296 ^ (i+b.length)*c=v32 out+4294967296 ^ i*x*v32 b∧∀ j,i+b.length≤j→o[j]? =out[j]?) ?_ ?_ n 0 _ ⟨out,0,rfl,hd,rfl,by omega,by omega,by simp[Fb],fun _ _=>rfl⟩ (by omega) (by omega)
 ·rintro k _ again hk ⟨o,c,rfl,h1,h2,h3,h4,h5,h6⟩ ih
  unfold q9
  dsimp only
  have hy:b[k]? =some b[k]:=aC hk
  have hyd:=hb.get hy
  have hts:=kP hy
  have hz:o[i+k]? =some (o[i+k]'(by omega)):=aC (by omega)
  have hzd:=h1.get hz
  generalize b[k]=y at hy hyd hts
  generalize o[i+k]'(by omega)=z at hz hzd
  obtain⟨m1,m2,m3⟩:=adv hx hyd hzd ⟨h3,h4⟩
  have e1:w64 ((i:Int)+(k:Int))=((i+k:Nat):Int):=by rw[az (by omega) (by omega)];omega
  rw[aD (by omega),bf,hy,amq,e1,aH (by simp only[ajK,amI];omega),akq,hz,amq,aH (by simp only[ajK,amI];omega),amq,
   eD (n:=x) (by omega) (by omega),eD (n:=y) (by omega) (by omega),eD (n:=z) (by omega) (by omega),eD (n:=x*y) (by omega) (by omega),eD (n:=z+x*y) (by omega) (by omega),eD (n:=c+(z+x*y)) (by omega) (by omega),EW,ab8,az (n:=(k:Int)+1) (by omega) (by omega)]
  generalize ht:c+(z+x*y)=t at*
  refine ih _ ⟨_,_,rfl,h1.set (by omega),by rw[alb];exact h2,by omega,by omega, ?_,fun j hj=> ?_⟩
  ·rw[Sx hz,hts]
   have e2:(4294967296:Int) ^ (i+(k+1))=4294967296 ^ i*4294967296 ^ k*4294967296:=by rw[← alP,akj,aki]
   have e3:(4294967296:Int) ^ (i+k)=4294967296 ^ i*4294967296 ^ k:=aki ..
   rw[e3] at h5
   rw[e2,e3]
   have e4:=Int.mul_ediv_add_emod t 4294967296
   generalize (4294967296:Int) ^ i=p at*
   generalize (4294967296:Int) ^ k=q at*
   generalize t / 4294967296=d at*
   generalize t % 4294967296=r at*
   grind
  ·rw[akX (by omega)];exact h6 j (by omega)
 ·rintro _ again ⟨o,c,rfl,h1,h2,h3,h4,h5,h6⟩
  unfold q9
  dsimp only
  rw[aE (by omega)]
  rw[alN (alZ _)] at h5
  exact⟨o,c,rfl,h1,h2,h3,h4,h5,h6⟩
theorem TV (a b:List Int) (ha:Dg a) (hb:Dg b) (hal:a.length<1000) (hbl:b.length<1000) (s1 s2 s3:Bool) (l3:List Int) (n:Nat) (hn:a.length<n):
 ∃ o,iter n ((a,(a.length:Int),(0:Int),s1,a,s2,b,s3,l3,List.replicate (a.length+b.length) 0,()):nJ) qV=some (Sum.inr (s1,a,s2,b,s3,l3,o,()))∧Dg o∧o.length=a.length+b.length∧v32 o=v32 a*v32 b:=by
 refine aZ (Inv:=fun i X=>∃ o,X=((a,(a.length:Int),(i:Int),s1,a,s2,b,s3,l3,o,()):nJ)∧Dg o∧o.length=a.length+b.length∧v32 o=v32 (a.take i)*v32 b∧∀ j,i+b.length≤j→j<a.length+b.length→o[j]? =some 0) a.length
  (fun r=>∃ o,r=some (Sum.inr (s1,a,s2,b,s3,l3,o,()))∧Dg o∧o.length=a.length+b.length∧v32 o=v32 a*v32 b) ?_ ?_ n 0 _ ⟨_,rfl,fun d hd=>by rw[alw] at hd;omega,by simp,by rw[Pp];simp[Fb],fun j _ hj=>by rw[akV,amQ hj]⟩ (by omega) (by omega)
 ·rintro i _ again hi ⟨o,rfl,h1,h2,h3,h4⟩ ih
  unfold qV
  dsimp only
  have hy:a[i]? =some a[i]:=aC hi
  have hyd:=ha.get hy
  have hts:=kP hy
  generalize a[i]=x at hy hyd hts
  rw[aD (by omega),bf,hy,amq]
  obtain⟨o',c,k1,k2,k3,k4,k5,k6,k7⟩:=TK i x a (a.length:Int) (i:Int) b s1 a s2 b s3 l3 o hyd hb (by omega) (by omega) (by omega) (by omega) h1 (Int.natAbs (i:Int)+(Int.natAbs x+(Int.natAbs (0:Int)+(List.length a+(Int.natAbs (a.length:Int)+(Int.natAbs (i:Int)+(List.length b+(Int.natAbs ((List.length b:Int))+(Int.natAbs (0:Int)+(List.length a+(List.length b+(List.length l3+(List.length o+2))))))))))))) (by omega)
  rw[k1,aF]
  dsimp only
  have e1:w64 ((i:Int)+(b.length:Int))=((i+b.length:Nat):Int):=by rw[az (by omega) (by omega)];omega
  have hz:o'[i+b.length]? =some 0:=by rw[k7 _ (alZ _)];exact h4 _ (alZ _) (by omega)
  rw[e1,aH (by simp only[ajK,amI];omega),akq,hz,amq,Fv (by omega) (by omega),az (n:=(i:Int)+1) (by omega) (by omega)]
  refine ih _ ⟨_,rfl,k2.set (by omega),by rw[alb];omega, ?_,fun j hj hj2=> ?_⟩
  ·rw[Sx hz,hts]
   have e3:(4294967296:Int) ^ (i+b.length)=4294967296 ^ i*4294967296 ^ b.length:=aki ..
   rw[e3] at k6 ⊢
   grind
  ·rw[akX (by omega),k7 j (by omega)];exact h4 j (by omega) hj2
 ·rintro _ again ⟨o,rfl,h1,h2,h3,h4⟩
  unfold qV
  dsimp only
  rw[aE (by omega)]
  rw[alN (alZ _)] at h3
  exact⟨o,rfl,h1,h2,h3⟩
theorem iq (x y:Int) (hx:x.natAbs<4294967296 ^ 99) (hy:y.natAbs<4294967296 ^ 99):fM (W x) (W y)=some (W (x*y),()):=by
 have hlx:=uY hx
 have hly:=uY hy
 unfold fM W
 dsimp only
 have e1:w64 (((bL x.natAbs).length:Int)+((bL y.natAbs).length:Int))=(((bL x.natAbs).length+(bL y.natAbs).length:Nat):Int):=by rw[az (by omega) (by omega)];omega
 rw[e1,aH (by simp only[ajK,amI];omega)]
 obtain⟨o,h1,h2,h3,h4⟩:=TV (bL x.natAbs) (bL y.natAbs) (eW _) (eW _) (by omega) (by omega) (decide (x<0)) (decide (y<0)) false [] (List.length (bL x.natAbs)+(Int.natAbs ((List.length (bL x.natAbs):Int))+(Int.natAbs (0:Int)+(List.length (bL x.natAbs)+(List.length (bL y.natAbs)+(List.length ([]:List Int)+(List.length ((List.replicate (Int.toNat (((bL x.natAbs).length+(bL y.natAbs).length:Nat):Int)) 0):List Int)+2))))))) (by omega)
 rw[akq] at h1 ⊢
 rw[h1,aF]
 dsimp only
 rw[kQ _ _ h2 (by omega),amq,h4,eY,eY]
 show some (W _,())=some (W (x*y),())
 congr 3
 rw[← akg, ← akd]
 by_cases h:x<0<;>by_cases h':y<0
 ·have:=Int.mul_pos_of_neg_of_neg h h'
  simp[h,h'];omega
 ·have:=aka (show 0≤ -x by omega) (show 0≤y by omega)
  rw[Int.neg_mul] at this
  simp[h,h'];omega
 ·have:=aka (show 0≤x by omega) (show 0≤ -y by omega)
  rw[Int.mul_neg] at this
  simp[h,h'];omega
 ·have:=aka (show 0≤x by omega) (show 0≤y by omega)
  simp[h,h'];omega
end Go.Md
namespace Go.Md
open Go.Dn
def Le (k:Nat) (z:Int):Prop:=z.natAbs≤10 ^ k
theorem Le.mul {a b:Nat} {x y:Int} (hx:Le a x) (hy:Le b y):Le (a+b) (x*y):=by
 unfold Le at*
 rw[akd,amg]
 exact Nat.mul_le_mul hx hy
theorem Le.mono {a b:Nat} {x:Int} (hx:Le a x) (h:a≤b):Le b x:=al0 hx (amh (by omega) h)
theorem Le.add {a:Nat} {x y:Int} (hx:Le a x) (hy:Le a y):Le (a+1) (x+y):=by
 unfold Le at*
 rw[amj]
 omega
theorem Le.neg {a:Nat} {x:Int} (hx:Le a x):Le a (-x):=by unfold Le at *;omega
theorem Le.w {k:Nat} {z:Int} (h:Le k z) (hk:k≤900):z.natAbs<4294967296 ^ 99:=
 al1 (h.mono hk) (by decide +kernel)
theorem Le.n {k:Nat} {z:Int} (h:Le k z) (hk:k≤500):(dg6 z.natAbs).length<90:=by
 have:=afl (k:=84) (n:=z.natAbs) (al1 (h.mono hk) (by decide +kernel))
 omega
theorem Le.pow (n:Nat):Le n (10 ^ n):=by
 unfold Le
 rw[akf];exact alZ _
theorem Le.nat {k n:Nat} (h:n≤10 ^ k):Le k (n:Int):=h
theorem Le.int {n:Int} (h1: -9223372036854775808≤n) (h2:n≤9223372036854775807):Le 19 n:=by unfold Le;omega
theorem Le.succ {k n:Nat} (h:Le k (n:Int)):Le (k+1) ((n+1:Nat):Int):=by
 unfold Le at*
 rw[amj]
 have:1≤10 ^ k:=ami (by omega)
 omega
theorem Nk (n:Nat) (hn:n≤60):o7 (n:Int)=some (W (10 ^ n),()):=by
 unfold o7
 rw[gq 1 (by omega) (by omega),amq]
 dsimp only
 have loop:∀ (f:Nat),n<f→iter f (((n:Int),(0:Int),false,([]:List Int),(W 1).1,(W 1).2,()):s8) zA=some (Sum.inr (false,[],(W (10 ^ n)).1,(W (10 ^ n)).2,())):=by
  intro f hf
  refine aZ (Inv:=fun i X=>X=(((n:Int),(i:Int),false,([]:List Int),(W (10 ^ i)).1,(W (10 ^ i)).2,()):s8)) n (fun r=>r=some (Sum.inr (false,[],(W (10 ^ n)).1,(W (10 ^ n)).2,()))) ?_ ?_ f 0 _ rfl (by omega) (by omega)
  ·rintro i _ again hi rfl ih
   unfold zA
   dsimp only
   rw[aD (by omega),gq 10 (by omega) (by omega),amq]
   dsimp only
   rw[iq (10 ^ i) 10 ((Le.pow i).w (by omega)) ((Le.int (n:=10) (by omega) (by omega)).w (by omega)),amq,az (by omega) (by omega)]
   refine ih _ ?_
   rw[akj]
   rfl
  ·rintro _ again rfl
   unfold zA
   dsimp only
   rw[aE (by omega)]
 rw[loop _ (by omega),aF]
theorem B6 (d:aj) (p:Int) (h1: -9223372036854775808≤d.1) (h2:d.1≤9223372036854775807) (hp0:0≤p - d.2) (hp:p - d.2≤60) (hd: -1000≤d.2∧d.2≤1000):ou d p=some (W (d.1*10 ^ (p - d.2).toNat),()):=by
 unfold ou
 rw[gq _ h1 h2,amq,az (by omega) (by omega)]
 obtain⟨n,hn⟩:∃ n:Nat,p - d.2=n:=⟨(p - d.2).toNat,by omega⟩
 rw[hn,Nk n (by omega),amq]
 dsimp only
 rw[iq _ _ ((Le.int h1 h2).w (by omega)) ((Le.pow n).w (by omega)),amq,akq]
def Gm (way:Int) (neg:Bool) (q r b:Nat):Bool:=
 if way=1 then decide (b≤2*r)
 else if way=2 then decide (b<2*r∨(2*r=b∧q % 2=1))
 else if way=4 then decide (0<r)
 else if way=5 then neg&&decide (0<r)
 else if way=6 then !neg&&decide (0<r)
 else false
def rnd (way a:Int) (b:Nat):Int:=
 let u:Nat:=a.natAbs / b+(if Gm way (decide (a<0)) (a.natAbs / b) (a.natAbs % b) b=true then 1 else 0)
 if a<0 then -(u:Int) else (u:Int)
theorem abI {way a:Int} {b k:Nat} (h:Le k a):Le (k+1) (rnd way a b):=by
 unfold Le at*
 unfold rnd
 have h1:a.natAbs / b≤a.natAbs:=alT _ _
 have h2:1≤10 ^ k:=ami (by omega)
 rw[amj]
 dsimp only
 generalize Gm way (decide (a<0)) (a.natAbs / b) (a.natAbs % b) b=up
 generalize a.natAbs / b=q at*
 split<;>split<;>omega
theorem Ib (a:Int) (b:Nat) (way:Int) (hb:0<b) (ha:Le 800 a) (hb2:Le 800 (b:Int)):uk (W a) (W b) way=some (W (rnd way a b),()):=by
 have e0:(b:Int).natAbs=b:=rfl
 unfold uk
 rw[KW a b (ha.w (by omega)) (hb2.w (by omega)) (by omega),amq,e0]
 dsimp only
 have hq:Le 800 ((a.natAbs / b:Nat):Int):=al0 (alT _ _) ha
 have hr:Le 800 ((a.natAbs % b:Nat):Int):=al0 (Nat.mod_le _ _) ha
 have hrb:=ama a.natAbs hb
 unfold rnd
 generalize a.natAbs / b=q at*
 generalize a.natAbs % b=r at*
 rw[sK,amq]
 dsimp only
 have inc:bC (W q) (W 1)=some (W ((q+1:Nat):Int),()):=dZ q 1 (hq.w (by omega)) ((Le.int (n:=1) (by omega) (by omega)).w (by omega))
 have one:bN 1=some (W 1,()):=gq 1 (by omega) (by omega)
 have hq1:Le 801 ((q+1:Nat):Int):=hq.succ
 have mi:∀ z:Int,Le 801 z→aR (W z)=some (W (-z),()):=fun z h=>GP z (h.w (by omega))
 have sg:∀ z:Int,aS (W z)=some (z.sign,()):=sK
 have od:gI (W (q:Int))=some (decide (q % 2=1),()):=Vx q
 have an:decide (a.sign<0)=decide (a<0):=by rw[amF];exact Int.sign_neg_iff
 by_cases h0:r=0
 ·subst h0
  rw[show ((Int.sign ((0:Nat):Int)) != 0)=false from rfl,amD,sg,amq]
  dsimp only
  rw[an]
  have hu:Gm way (decide (a<0)) q 0 b=false:=by
   unfold Gm
   split
   ·simp;omega
   ·split
    ·simp;omega
    ·simp
  rw[hu]
  by_cases hn:a<0
  ·rw[aD hn,mi _ (hq.mono (by omega)),amq]
   simp[hn]
  ·rw[aE hn]
   simp[hn]
 ·have hs:((Int.sign (r:Int)) != 0)=true:=by
   rw[akl (by omega)];rfl
  rw[hs,amE,dZ r r (hr.w (by omega)) (hr.w (by omega)),amq]
  dsimp only
  rw[u5 _ _ ((hr.add hr).w (by omega)) (hb2.w (by omega)),amq]
  dsimp only
  have hc1:decide (((r:Int)+r - b).sign≥0)=decide (b≤2*r):=by
   rw[amF,ge_iff_le,akn];omega
  have hc2:decide (((r:Int)+r - b).sign>0)=decide (b<2*r):=by
   rw[amF,gt_iff_lt,Int.sign_pos_iff];omega
  have hc3:(((r:Int)+r - b).sign==0)=decide (2*r=b):=by
   rw[show (((r:Int)+r - b).sign==0)=decide (((r:Int)+r - b).sign=0) from rfl,amF,akm];omega
  rw[sg,amq]
  dsimp only
  rw[hc1,hc2,hc3,an]
  have fin:∀ (u:Nat),Le 801 (u:Int)→(bif decide (a<0) then Option.bind (aR (W (u:Int))) fun r9=>some (r9.1,()) else some (W (u:Int),()))=some (W (if a<0 then -(u:Int) else u),()):=by
   intro u hu
   by_cases hn:a<0
   ·rw[aD hn,mi _ hu,amq,amQ hn]
   ·rw[aE hn,amP hn]
  simp only[one,inc,od,amq,an,fin q (hq.mono (by omega)),fin (q+1) hq1]
  have hr0:decide (0<r)=true:=by simp;omega
  unfold Gm
  simp only[hr0,ajN]
  by_cases w1:way=1
  ·subst w1;cases decide (b≤2*r)<;>simp
  by_cases w2:way=2
  ·subst w2
   by_cases k1:b<2*r
   ·simp[k1]
   ·by_cases k2:2*r=b
    ·by_cases k3:q % 2=1<;>simp[k1,k2,k3]
    ·simp[k1,k2]
  by_cases w4:way=4
  ·subst w4;simp
  by_cases w5:way=5
  ·subst w5;by_cases hn:a<0<;>simp[hn]
  by_cases w6:way=6
  ·subst w6;by_cases hn:a<0<;>simp[hn]
  simp[w1,w2,w4,w5,w6,show (way==1)=false by simpa using w1,show (way==2)=false by simpa using w2,show (way==4)=false by simpa using w4,show (way==5)=false by simpa using w5,show (way==6)=false by simpa using w6]
end Go.Md
namespace Go.Md
open Go.Dn
theorem aaX (n:Nat):N (n:Int)=(false,dg6 n):=by
 unfold N
 rw[show decide ((n:Int)<0)=false by simp];rfl
theorem vJ {α:Type} {l:List α} {k:Nat} {y:α} (h:l[k]? =some y):l.drop k=y::l.drop (k+1):=by
 obtain⟨hk,rfl⟩:=akS.1 h
 exact akC hk
theorem afE (n:Nat) (hl:(dg6 n).length<1000):SH (N (n:Int))=some (N ((n / 2:Nat):Int),((n % 2:Nat):Int),()):=by
 unfold SH
 rw[aaX]
 dsimp only
 have hdig:=pe n
 have hval:=w9 n
 generalize hd:dg6 n=d at*
 have e1:w64 ((d.length:Int) - 1)=(d.length:Int) - 1:=az (by omega) (by omega)
 rw[e1,akq,aH (by simp only[ajK,amI];omega)]
 have loop:∀ f,d.length<f→∃ o:List Int,iter f (((0:Int),(d.length:Int) - 1,false,d,false,([]:List Int),false,List.replicate d.length 0,()):DP) IC=some (Sum.inr (((n % 2:Nat):Int),false,[],false,o,()))∧Dg6 o∧o.length=d.length∧v6 o=((n / 2:Nat):Int):=by
  intro f hf
  refine aZ (Inv:=fun i X=>∃ o:List Int,X=((v6 (d.drop (d.length - i)) % 2,(d.length:Int) - i - 1,false,d,false,([]:List Int),false,o,()):DP)∧Dg6 o∧o.length=d.length∧v6 o=v6 (d.drop (d.length - i)) / 2*1000000 ^ (d.length - i)∧∀ j,j<d.length - i→o[j]? =some 0) d.length
   (fun r=>∃ o:List Int,r=some (Sum.inr (((n % 2:Nat):Int),false,[],false,o,()))∧Dg6 o∧o.length=d.length∧v6 o=((n / 2:Nat):Int)) ?_ ?_ f 0 _ ⟨List.replicate d.length 0, ?_,fun x hx=>by rw[alw] at hx;omega,by simp, ?_,fun j hj=>by rw[akV,amQ (by omega)]⟩ (by omega) (by omega)
  ·rintro i _ again hi ⟨o,rfl,h1,h2,h3,h4⟩ ih
   unfold IC
   dsimp only
   obtain⟨k,hk⟩:∃ k,d.length - i=k+1:=⟨d.length - i - 1,by omega⟩
   have hki:d.length - (i+1)=k:=by omega
   have hy:d[k]? =some (d[k]'(by omega)):=aC (by omega)
   have hyd:=hdig.get hy
   have hcons:=vJ hy
   generalize d[k]'(by omega)=y at hy hyd hcons
   rw[hk] at h3 h4 ⊢
   rw[hki] at ih
   rw[hcons] at ih
   rw[FM] at ih
   have hnn:=nE (hdig.drop (k+1))
   generalize v6 (d.drop (k+1))=V at*
   have hi1:(d.length:Int) - i - 1=((k:Nat):Int):=by omega
   rw[hi1,aD (by omega),bf,hy,amq]
   have hz:o[k]? =some 0:=h4 k (by omega)
   rw[az (n:=V % 2*1000000) (by omega) (by omega),az (n:=V % 2*1000000+y) (by omega) (by omega)]
   rw[ako (by omega),akp (by omega),az (n:=(V % 2*1000000+y) / 2) (by omega) (by omega),az (n:=(k:Int) - 1) (by omega) (by omega)]
   rw[aH (by simp only[ajK,amI];omega),akq,hz,amq]
   refine ih _ ⟨o.set k ((V % 2*1000000+y) / 2), ?_,h1.set (by omega),by rw[alb];exact h2, ?_,fun j hj=> ?_⟩
   ·rw[show (V % 2*1000000+y) % 2=(y+1000000*V) % 2 by omega,show (k:Int) - 1=(d.length:Int) - ((i+1:Nat):Int) - 1 by omega]
   ·rw[We hz,h3,akj]
    have e2:(y+1000000*V) / 2=V / 2*1000000+(V % 2*1000000+y) / 2:=by omega
    rw[e2]
    grind
   ·rw[akX (by omega)];exact h4 j (by omega)
  ·rintro _ again ⟨o,rfl,h1,h2,h3,h4⟩
   unfold IC
   dsimp only
   rw[aE (by omega)]
   rw[Nat.sub_self,akF,hval] at h3 ⊢
   exact⟨o,rfl,h1,h2,by rw[h3];simp⟩
  ·rw[Nat.sub_zero,List.drop_length,GI,show ((d.length:Int) - ((0:Nat):Int) - 1)=(d.length:Int) - 1 by omega];rfl
  ·have:v6 (List.replicate d.length 0)=0:=by
    generalize d.length=m
    induction m with
    | zero=>rfl
    | succ n ih=>rw[alE,FM,ih];rfl
   rw[this];simp[GI]
 obtain⟨o,h1,h2,h3,h4⟩:=loop (Int.natAbs (0:Int)+(Int.natAbs ((d.length:Int) - 1)+(List.length d+(List.length ([]:List Int)+(List.length ((List.replicate d.length 0):List Int)+2))))) (by omega)
 rw[h1,aF]
 dsimp only
 rw[S7 false o h2 (by omega),amq,h4]
 rfl
theorem ail {n:Nat} (h:0<n):dg 2 n=((n % 2:Nat):Int)::dg 2 (n / 2):=AR (by omega) h
theorem XV (b0:Bool) (b1:List Int) (g1 g2:Bool) (l1 l2:List Int):∀ (k fuel n:Nat) (bits:List Int),n<2 ^ k→k<fuel→bits.length+k<100000→(dg6 n).length<1000→
 iter fuel ((bits,b0,b1,g1,l1,g2,l2,(N (n:Int)).1,(N (n:Int)).2,()):xU) nU=some (Sum.inr (bits++dg 2 n,b0,b1,g1,l1,g2,l2,())):=by
 intro k
 induction k with
 | zero=>
  intro fuel n bits hn hf hb hl
  obtain⟨f,rfl⟩:∃ f,fuel=f+1:=⟨fuel - 1,by omega⟩
  have:n=0:=by simpa using hn
  subst this
  show nU _ _=_
  unfold nU
  dsimp only
  rw[show ((N ((0:Nat):Int)).1,(N ((0:Nat):Int)).2)=N ((0:Nat):Int) from rfl,Iu,amq]
  rw[CM,akx]
  rfl
 | succ k ih=>
  intro fuel n bits hn hf hb hl
  obtain⟨f,rfl⟩:∃ f,fuel=f+1:=⟨fuel - 1,by omega⟩
  show nU _ (fun y=>iter f y nU)=_
  generalize hag:(fun y=>iter f y nU)=again
  unfold nU
  dsimp only
  rw[show ((N (n:Int)).1,(N (n:Int)).2)=N (n:Int) from rfl,Iu,amq]
  by_cases h0:n=0
  ·subst h0
   rw[CM,akx]
   rfl
  ·dsimp only
   rw[aD (by rw[gt_iff_lt,Int.sign_pos_iff];omega),afE n hl,amq]
   dsimp only
   rw[aH (cr (by omega) (by omega)), ← hag]
   dsimp only
   rw[ih f (n / 2) _ (by rw[amj] at hn;omega) (by omega) (by simp;omega) (al1 (VG (alT _ _)) hl),ail (show 0<n by omega),akw]
   rfl
theorem RG (a b:Nat) (hb:0<b) (ha:Le 400 (a:Int)) (hb2:Le 400 (b:Int)):Hg (N (a:Int)) (N (b:Int))=some (N ((a / b:Nat):Int),N ((a % b:Nat):Int),()):=by
 unfold Hg
 dsimp only
 have hla:=ha.n (by omega)
 rw[show (a:Int).natAbs=a from rfl] at hla
 have hpow:a<2 ^ (20*(dg6 a).length+1):=by
  have h1:=K7 (pe a)
  rw[w9] at h1
  have h2:((1000000:Int) ^ (dg6 a).length)=((1000000 ^ (dg6 a).length:Nat):Int):=by simp
  rw[h2] at h1
  have h3:(1000000:Nat) ^ (dg6 a).length≤(2 ^ 20) ^ (dg6 a).length:=Nat.pow_le_pow_left (by omega) _
  rw[← Nat.pow_mul] at h3
  have h4:2 ^ (20*(dg6 a).length)≤2 ^ (20*(dg6 a).length+1):=amh (by omega) (by omega)
  omega
 have hN:(N (a:Int)).2=dg6 a:=by rw[aaX]
 rw[hN]
 have hl1:=XV (N (b:Int)).1 (N (b:Int)).2 false false [] [] (20*(dg6 a).length+1) (20*(dg6 a).length+2) a [] hpow (by omega) (by simp;omega) (by omega)
 rw[hN] at hl1
 rw[hl1,aF,aly,iy 2 (by omega) (by omega),amq]
 dsimp only
 have hdig:Dig 2 (dg 2 a):=adr (B:=2) (by omega) a
 have hval:val 2 (dg 2 a)=(a:Int):=aa8 (B:=2) (by omega) a
 have hlen:(dg 2 a).length<3000:=by have:=WR (B:=2) (by omega) _ a hpow;omega
 generalize hd:dg 2 a=d at*
 have e1:w64 ((d.length:Int) - 1)=(d.length:Int) - 1:=az (by omega) (by omega)
 rw[e1]
 have loop:∀ f,d.length<f→iter f ((d,(d.length:Int) - 1,(N (b:Int)).1,(N (b:Int)).2,false,([]:List Int),false,([]:List Int),(N 0).1,(N 0).2,(N 0).1,(N 0).2,(N 2).1,(N 2).2,()):vM) Bj=some (Sum.inr (false,[],false,[],(N ((a / b:Nat):Int)).1,(N ((a / b:Nat):Int)).2,(N ((a % b:Nat):Int)).1,(N ((a % b:Nat):Int)).2,())):=by
  intro f hf
  refine aZ (Inv:=fun i X=>∃ V:Nat,X=((d,(d.length:Int) - i - 1,(N (b:Int)).1,(N (b:Int)).2,false,([]:List Int),false,([]:List Int),(N ((V / b:Nat):Int)).1,(N ((V / b:Nat):Int)).2,(N ((V % b:Nat):Int)).1,(N ((V % b:Nat):Int)).2,(N 2).1,(N 2).2,()):vM)∧(V:Int)=val 2 (d.drop (d.length - i))∧V≤a) d.length
   (fun r=>r=some (Sum.inr (false,[],false,[],(N ((a / b:Nat):Int)).1,(N ((a / b:Nat):Int)).2,(N ((a % b:Nat):Int)).1,(N ((a % b:Nat):Int)).2,()))) ?_ ?_ f 0 _ ⟨0, ?_,by simp[val],by omega⟩ (by omega) (by omega)
  ·rintro i _ again hi ⟨V,rfl,hV,hVa⟩ ih
   unfold Bj
   dsimp only
   obtain⟨k,hk⟩:∃ k,d.length - i=k+1:=⟨d.length - i - 1,by omega⟩
   have hki:d.length - (i+1)=k:=by omega
   have hy:d[k]? =some (d[k]'(by omega)):=aC (by omega)
   have hyd:=hdig.get hy
   have hcons:=vJ hy
   generalize d[k]'(by omega)=y at hy hyd hcons
   rw[hk] at hV
   rw[hki,hcons] at ih
   have hV':val 2 (y::d.drop (k+1))=y+2*V:=by rw[val,hV]
   have hle:y+2*V≤a:=by
    have h1:val 2 (d.drop k)*2 ^ k+val 2 (d.take k)=a:=by
     have:=Ez (B:=2) (d.take k) (d.drop k)
     rw[alL,hval,alc,al8 (by omega)] at this
     rw[this,Int.mul_comm,Int.add_comm]
    have h2:=Eh (B:=2) (by omega) (hdig.take k)
    have h3:(1:Int)≤2 ^ k:=Jk (by omega) k
    rw[hcons,hV'] at h1
    have h4:0≤(y+2*(V:Int))*(2 ^ k - 1):=aka (by omega) (by omega)
    rw[akc,akb] at h4
    omega
   obtain⟨m,rfl⟩:∃ m:Nat,y=m:=⟨y.toNat,by omega⟩
   have hm2:m=0∨m=1:=by omega
   have hi1:(d.length:Int) - i - 1=((k:Nat):Int):=by omega
   have hq:Le 400 ((V / b:Nat):Int):=al0 (al0 (alT _ _) hVa) ha
   have hr:Le 400 ((V % b:Nat):Int):=al0 (al0 (Nat.mod_le _ _) hVa) ha
   have h2:Le 1 2:=by unfold Le;decide
   rw[hi1,aD (by omega)]
   rw[show ∀ z:Int,((N z).1,(N z).2)=N z from fun _=>rfl]
   rw[show ∀ z:Int,((N z).1,(N z).2)=N z from fun _=>rfl]
   rw[show ∀ z:Int,((N z).1,(N z).2)=N z from fun _=>rfl]
   rw[show ∀ z:Int,((N z).1,(N z).2)=N z from fun _=>rfl]
   have bq:=hq.n (by omega)
   have br:=hr.n (by omega)
   have b2:=h2.n (by omega)
   have bb:=hb2.n (by omega)
   rw[gH _ _ (by omega) (by omega),amq,gH _ _ (by omega) (by omega),amq]
   rw[aH (by simp only[ajK,amI];omega),akq,hy,amq,iy _ (by omega) (by omega),amq]
   dsimp only
   have br2:=(hr.mul h2).n (by omega)
   have brm:=((hr.mul h2).add ((Le.nat (k:=1) (n:=m) (by omega)).mono (by omega:1≤400+1))).n (by omega)
   have bm:=(Le.nat (k:=1) (n:=m) (by omega)).n (by omega)
   have bq2:=(hq.mul h2).n (by omega)
   rw[Ea _ _ (by omega) (by omega),amq]
   dsimp only
   rw[R9 _ _ (by omega) (by omega),amq]
   dsimp only
   rw[az (n:=(k:Int) - 1) (by omega) (by omega)]
   have hdm:=Nat.div_add_mod V b
   have hml:=ama V hb
   by_cases hge:b≤V % b*2+m
   ·rw[aD (by rw[ge_iff_le,akn];omega),iy 1 (by omega) (by omega),amq]
    dsimp only
    have b1:(dg6 (Int.natAbs 1)).length<90:=(Le.int (n:=1) (by omega) (by omega)).n (by omega)
    rw[Ea _ _ (by omega) (by omega),amq,F6,amq]
    dsimp only
    have bnb:=hb2.neg.n (by omega)
    rw[Ea _ _ (by omega) (by omega),amq]
    have e:(m+2*V) / b=V / b*2+1∧(m+2*V) % b=V % b*2+m - b:=by
     have h1:m+2*V=b*(V / b*2+1)+(V % b*2+m - b):=by
      rw[Nat.mul_add,Nat.mul_one,show b*(V / b*2)=2*(b*(V / b)) by grind];omega
     have h2:V % b*2+m - b<b:=by omega
     rw[h1]
     exact⟨by rw[Nat.mul_add_div hb,alS h2,alR],by rw[Nat.mul_add_mod,al9 h2]⟩
    refine ih _ ⟨m+2*V, ?_,by rw[hV'];omega,by omega⟩
    rw[e.1,e.2]
    have e3:(((V % b*2+m - b:Nat)):Int)=((V % b:Nat):Int)*2+(m:Int)+ -(b:Int):=by omega
    have e4:((V / b*2+1:Nat):Int)=((V / b:Nat):Int)*2+1:=by omega
    rw[e3,e4]
    congr 2
    omega
   ·rw[aE (by rw[ge_iff_le,akn];omega)]
    have e:(m+2*V) / b=V / b*2∧(m+2*V) % b=V % b*2+m:=by
     have h1:m+2*V=b*(V / b*2)+(V % b*2+m):=by
      rw[show b*(V / b*2)=2*(b*(V / b)) by grind];omega
     have h2:V % b*2+m<b:=by omega
     rw[h1]
     exact⟨by rw[Nat.mul_add_div hb,alS h2,alR],by rw[Nat.mul_add_mod,al9 h2]⟩
    refine ih _ ⟨m+2*V, ?_,by rw[hV'];omega,by omega⟩
    rw[e.1,e.2]
    have e3:((V % b*2+m:Nat):Int)=((V % b:Nat):Int)*2+(m:Int):=by omega
    have e4:((V / b*2:Nat):Int)=((V / b:Nat):Int)*2:=by omega
    rw[e3,e4]
    congr 2
    omega
  ·rintro _ again ⟨V,rfl,hV,hVa⟩
   unfold Bj
   dsimp only
   rw[aE (by omega)]
   rw[Nat.sub_self,akF,hval] at hV
   have:V=a:=by omega
   subst this
   rfl
  ·rw[Nat.zero_div,Nat.zero_mod,show ((d.length:Int) - ((0:Nat):Int) - 1)=(d.length:Int) - 1 by omega];rfl
 have hl2:=loop (List.length d+(Int.natAbs ((d.length:Int) - 1)+(List.length (N (b:Int)).2+(List.length ([]:List Int)+(List.length ([]:List Int)+(List.length ([]:List Int)+(List.length ([]:List Int)+(List.length (N 2).2+2)))))))) (by omega)
 have hN0:(N 0).1=false∧(N 0).2=[]:=⟨rfl,rfl⟩
 rw[hN0.1,hN0.2] at hl2
 rw[hl2,aF]
end Go.Md
namespace Go.Md
open Go.Dn
theorem aeC (a:Int) (b:Nat) (way:Int) (hb:0<b) (ha:Le 390 a) (hb2:Le 390 (b:Int)):NZ (N a) (N (b:Int)) way=some (N (rnd way a b),()):=by
 unfold NZ
 have e0:(false,(N a).2)=N (a.natAbs:Int):=by rw[aaX];rfl
 have hq:Le 390 ((a.natAbs / b:Nat):Int):=al0 (alT _ _) ha
 have hr:Le 390 ((a.natAbs % b:Nat):Int):=al0 (Nat.mod_le _ _) ha
 rw[e0,RG a.natAbs b hb ((Le.nat (k:=390) ha).mono (by omega)) (hb2.mono (by omega)),amq,iy 2 (by omega) (by omega),amq]
 dsimp only
 have hrb:=ama a.natAbs hb
 unfold rnd
 generalize a.natAbs / b=q at*
 generalize a.natAbs % b=r at*
 have h2:Le 1 2:=by unfold Le;decide
 have l1:=hr.n (by omega)
 have l2:=h2.n (by omega)
 have l3:=(hr.mul h2).n (by omega)
 have l4:=hb2.n (by omega)
 have l5:=hq.n (by omega)
 have l6:(dg6 (Int.natAbs 1)).length<90:=(Le.int (n:=1) (by omega) (by omega)).n (by omega)
 rw[gH _ _ (by omega) (by omega),amq]
 dsimp only
 rw[R9 _ _ (by omega) (by omega),amq]
 dsimp only
 have hc1:decide (((r:Int)*2 - b).sign≥0)=decide (b≤2*r):=by
  rw[amF,ge_iff_le,akn];omega
 have hc2:decide (((r:Int)*2 - b).sign>0)=decide (b<2*r):=by
  rw[amF,gt_iff_lt,Int.sign_pos_iff];omega
 have hc3:(((r:Int)*2 - b).sign==0)=decide (2*r=b):=by
  rw[show (((r:Int)*2 - b).sign==0)=decide (((r:Int)*2 - b).sign=0) from rfl,amF,akm];omega
 have hsg:decide ((r:Int).sign>0)=decide (0<r):=by
  rw[amF,gt_iff_lt,Int.sign_pos_iff];omega
 have hod:xP (N (q:Int)).2 0=some (((q % 1000000:Nat):Int),()):=by
  rw[aaX,show (0:Int)=((0:Nat):Int) from rfl,Gj]
  by_cases h0:q=0
  ·subst h0;rfl
  ·rw[ae6 (by omega)];rfl
 have hod2:(Int.tmod ((q % 1000000:Nat):Int) 2==1)=decide (q % 2=1):=by
  rw[akp (by omega)]
  by_cases h:q % 2=1
  ·rw[amH h,show ((q % 1000000:Nat):Int) % 2=1 by omega];rfl
  ·rw[amG h,show ((q % 1000000:Nat):Int) % 2=0 by omega];rfl
 have neg:(N a).1=decide (a<0):=rfl
 have fin:∀ up:Bool,(bif up then
  Option.bind (mD 1) fun r10=>
  Option.bind (zz ((N (q:Int)).1,(N (q:Int)).2) r10.1) fun r11=>
  bif decide (a<0) then
   Option.bind (u0 r11.1) fun r12=>
   some (r12.1,())
  else
   some (r11.1,())
  else
   bif decide (a<0) then
    Option.bind (u0 ((N (q:Int)).1,(N (q:Int)).2)) fun r13=>
    some (r13.1,())
   else
    some (((N (q:Int)).1,(N (q:Int)).2),()))=some (N (if a<0 then -((q+(if up=true then 1 else 0):Nat):Int) else ((q+(if up=true then 1 else 0):Nat):Int)),()):=by
  intro up
  rw[show ((N (q:Int)).1,(N (q:Int)).2)=N (q:Int) from rfl]
  cases up with
  | true=>
   rw[amE,iy 1 (by omega) (by omega),amq]
   dsimp only
   rw[Ea _ _ (by omega) (by omega),amq]
   by_cases hn:a<0
   ·rw[aD hn,F6,amq,amQ hn]
    simp
   ·rw[aE hn,amP hn]
    simp
  | false=>
   rw[amD]
   by_cases hn:a<0
   ·rw[aD hn,F6,amq,amQ hn]
    simp
   ·rw[aE hn,amP hn]
    simp
 simp only[hc1,hc2,hc3,hod,hod2,Iu,hsg,neg,amq]
 unfold Gm
 by_cases w1:way=1
 ·subst w1
  rw[show ((1:Int)==1)=true from rfl,amE,aF]
  exact fin _
 by_cases w2:way=2
 ·subst w2
  rw[show ((2:Int)==1)=false from rfl,amD,show ((2:Int)==2)=true from rfl,amE]
  by_cases k1:b<2*r
  ·rw[aD k1,aF,amP (show ¬((2:Int)=1) by omega),amQ (show (2:Int)=2 from rfl),amH (Or.inl k1)]
   exact fin true
  ·rw[aE k1]
   by_cases k2:2*r=b
   ·rw[aD k2,aF,amP (show ¬((2:Int)=1) by omega),amQ (show (2:Int)=2 from rfl)]
    have:decide (b<2*r∨2*r=b∧q % 2=1)=decide (q % 2=1):=by rw[amF];omega
    rw[this]
    exact fin _
   ·rw[aE k2,aF,amP (show ¬((2:Int)=1) by omega),amQ (show (2:Int)=2 from rfl)]
    have:decide (b<2*r∨2*r=b∧q % 2=1)=false:=by rw[decide_eq_false_iff_not];omega
    rw[this]
    exact fin false
 rw[show (way==1)=false by simpa using w1,amD,show (way==2)=false by simpa using w2,amD,amP w1,amP w2]
 by_cases w4:way=4
 ·subst w4
  rw[show ((4:Int)==4)=true from rfl,amE,aF]
  exact fin _
 rw[show (way==4)=false by simpa using w4,amD,amP w4]
 by_cases w5:way=5
 ·subst w5
  rw[show ((5:Int)==5)=true from rfl,amE,amQ (show (5:Int)=5 from rfl)]
  by_cases hn:a<0
  ·rw[aD hn,aF,amH hn]
   rw[amH hn] at fin
   exact fin _
  ·rw[aE hn,aF,amG hn]
   rw[amG hn] at fin
   exact fin false
 rw[show (way==5)=false by simpa using w5,amD,amP w5]
 by_cases w6:way=6
 ·subst w6
  rw[show ((6:Int)==6)=true from rfl,amE,amQ (show (6:Int)=6 from rfl)]
  by_cases hn:a<0
  ·rw[amH hn]
   rw[amH hn] at fin
   exact fin false
  ·rw[amG hn]
   rw[amG hn] at fin
   exact fin _
 rw[show (way==6)=false by simpa using w6,amD,amP w6,aF]
 exact fin false
theorem Gq (z limit:Int) (h0:0<limit) (h1:limit≤1000000000000000000) (hz:Le 500 z):B8 (N z) limit=some (if z.natAbs≤limit then (z,true,()) else (0,false,())):=by
 unfold B8
 rw[iy limit (by omega) (by omega),amq]
 have hl:=hz.n (by omega)
 have hl2:(dg6 limit.natAbs).length<90:=(Le.int (n:=limit) (by omega) (by omega)).n (by omega)
 show Option.bind (ET (dg6 z.natAbs) (dg6 limit.natAbs)) _=_
 obtain⟨c,k1,k2,k3⟩:=T8 z.natAbs limit.natAbs (by omega) (by omega)
 rw[k1,amq]
 dsimp only
 by_cases hc:c>0
 ·rw[aD hc,amP (by omega)]
 ·rw[aE hc,amQ (by omega)]
  show aO (iter _ ((0:Int),w64 (((dg6 z.natAbs).length:Int) - 1),decide (z<0),dg6 z.natAbs,()) _) _=_
  have hdig:=pe z.natAbs
  have hval:=w9 z.natAbs
  rw[show (N z).2=dg6 z.natAbs from rfl]
  generalize hd:dg6 z.natAbs=d at*
  rw[az (n:=(d.length:Int) - 1) (by omega) (by omega)]
  have loop:∀ f,d.length<f→iter f (((0:Int),(d.length:Int) - 1,decide (z<0),d,()):AP) FO=some (Sum.inr ((z.natAbs:Int),decide (z<0),d,())):=by
   intro f hf
   refine aZ (Inv:=fun i X=>X=((v6 (d.drop (d.length - i)),(d.length:Int) - i - 1,decide (z<0),d,()):AP)) d.length
    (fun r=>r=some (Sum.inr ((z.natAbs:Int),decide (z<0),d,()))) ?_ ?_ f 0 _ ?_ (by omega) (by omega)
   ·rintro i _ again hi rfl ih
    unfold FO
    dsimp only
    obtain⟨k,hk⟩:∃ k,d.length - i=k+1:=⟨d.length - i - 1,by omega⟩
    have hki:d.length - (i+1)=k:=by omega
    have hy:d[k]? =some (d[k]'(by omega)):=aC (by omega)
    have hyd:=hdig.get hy
    have hcons:=vJ hy
    generalize d[k]'(by omega)=y at hy hyd hcons
    rw[hk]
    rw[hki,hcons,FM] at ih
    have hnn:=nE (hdig.drop (k+1))
    have hle:y+1000000*v6 (d.drop (k+1))≤z.natAbs:=by
     have h1:v6 (d.drop k)*1000000 ^ k+v6 (d.take k)=z.natAbs:=by
      have:=Q9 (d.take k) (d.drop k)
      rw[alL,hval,alc,al8 (by omega)] at this
      rw[this,Int.mul_comm,Int.add_comm]
     have h2:=nE (hdig.take k)
     have h3:(1:Int)≤1000000 ^ k:=Jk (by omega) k
     rw[hcons,FM] at h1
     have h4:0≤(y+1000000*v6 (d.drop (k+1)))*(1000000 ^ k - 1):=aka (by omega) (by omega)
     rw[akc,akb] at h4
     omega
    generalize v6 (d.drop (k+1))=V at*
    have hi1:(d.length:Int) - i - 1=((k:Nat):Int):=by omega
    rw[hi1,aD (by omega),bf,hy,amq,az (n:=V*1000000) (by omega) (by omega),az (n:=V*1000000+y) (by omega) (by omega),az (n:=(k:Int) - 1) (by omega) (by omega)]
    refine ih _ ?_
    rw[show V*1000000+y=y+1000000*V by omega,show (k:Int) - 1=(d.length:Int) - ((i+1:Nat):Int) - 1 by omega]
   ·rintro _ again rfl
    unfold FO
    dsimp only
    rw[aE (by omega),Nat.sub_self,akF,hval]
   ·rw[Nat.sub_zero,List.drop_length,GI,show ((d.length:Int) - ((0:Nat):Int) - 1)=(d.length:Int) - 1 by omega]
  rw[loop _ (by omega),aF]
  dsimp only
  by_cases hn:z<0
  ·rw[aD hn,az (by omega) (by omega)]
   congr 2;omega
  ·rw[aE hn]
   congr 2;omega
end Go.Md
