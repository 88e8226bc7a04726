/-
  Plain facts: products, powers, rounding. No condition.
-/
import Derived.Test.YtalfglakknbjkaaGreatDoorKq
import Derived.Test.YtalfglakknbjkaaGreatDoorKn
set_option linter.all false
namespace Go.Md
open Go.Dn
theorem Ux (a b:List Int):KG a b=Fk a b:=rfl
theorem dP (x y:Int) (hx:x.natAbs<4294967296 ^ 99) (hy:y.natAbs<4294967296 ^ 99):bg (W x) (W y)=some (W (x+y),()):=by
 have hlx:=uC hx
 have hly:=uC hy
 unfold bg W
 dsimp only
 by_cases hs:decide (x<0)=decide (y<0)
 ·rw [show (decide (x<0)==decide (y<0))=true by simp [hs],cond_true,Ux]
  obtain ⟨s,h1,h2,h3,h4⟩:=OR (bE x.natAbs) (bE y.natAbs) (eF _) (eF _) (by omega) (by omega)
  rw [h1,Option.bind_some]
  dsimp only
  rw [ki _ _ h2 (by omega),Option.bind_some,h3,eI,eI]
  simp only [agC] at hs
  show some (W _,())=some (W (x+y),())
  congr 3
  by_cases h:x<0
  ·simp only [h,agG,agL];omega
  ·simp only [h,agF,ad8,agK];omega
 ·rw [show (decide (x<0)==decide (y<0))=false by simp [hs],cond_false]
  obtain ⟨c,h1,h2,h3⟩:=IN x.natAbs y.natAbs (by omega) (by omega)
  rw [h1,Option.bind_some]
  dsimp only
  simp only [agC] at hs
  have hlen:∀ a b:Nat,b≤a→(bE b).length≤(bE a).length:=fun a b h=>by
   rcases af4 (bE a).length (bE b).length with h' | h'
   ·have:=pn h';omega
   ·exact h'
  by_cases hc:c≥0
  ·rw [aE hc,Gn _ _ (eF _) (eF _) (by omega) (hlen _ _ (by omega)) (by rw [eI,eI];omega),Option.bind_some]
   dsimp only
   rw [ki _ _ (eF _) (by have:=hlen x.natAbs (v32 (bE x.natAbs) - v32 (bE y.natAbs)).toNat (by rw [eI,eI];omega);omega),Option.bind_some]
   rw [eI,eI,eI]
   show some (W _,())=some (W (x+y),())
   congr 3
   by_cases h:x<0
   ·simp only [h,agG,agL];omega
   ·simp only [h,agF,ad8,agK];omega
  ·rw [aF hc,Gn _ _ (eF _) (eF _) (by omega) (hlen _ _ (by omega)) (by rw [eI,eI];omega),Option.bind_some]
   dsimp only
   rw [ki _ _ (eF _) (by have:=hlen y.natAbs (v32 (bE y.natAbs) - v32 (bE x.natAbs)).toNat (by rw [eI,eI];omega);omega),Option.bind_some]
   rw [eI,eI,eI]
   show some (W _,())=some (W (x+y),())
   congr 3
   by_cases h:y<0
   ·simp only [h,agG,agL];omega
   ·simp only [h,agF,ad8,agK];omega
theorem QN (x y:Int) (hx:x.natAbs<4294967296 ^ 99) (hy:y.natAbs<4294967296 ^ 99):yA (W x) (W y)=some (W (x - y),()):=by
 unfold yA
 rw [F3 y hy,Option.bind_some]
 dsimp only
 rw [dP x (-y) hx (by omega),Option.bind_some,Int.sub_eq_add_neg]
theorem BX (x y:Int) (hx:x.natAbs<4294967296 ^ 99) (hy:y.natAbs<4294967296 ^ 99):oX (W x) (W y)=some ((x - y).sign,()):=by
 unfold oX
 rw [QN x y hx hy,Option.bind_some]
 dsimp only
 rw [sF,Option.bind_some]
theorem Si (z:Int):gv (W z)=some (decide (z.natAbs % 2=1),()):=by
 unfold gv W
 dsimp only
 by_cases hz:z=0
 ·subst hz;rfl
 ·have hp:0<z.natAbs:=by omega
  have e:bE z.natAbs=((z.natAbs % 4294967296:Nat):Int)::bE (z.natAbs / 4294967296):=zO (B:=4294967296) (by omega) hp
  rw [e]
  rw [aE (by simp only [afd];omega)]
  rw [show (0:Int)=((0:Nat):Int) from rfl,bh]
  simp only [ae1,Option.bind_some]
  have:=ZR (z.natAbs % 4294967296) 0 (by omega)
  simp only [Nat.zero_min,Int.pow_zero] at this
  rw [show Int.fdiv ((z.natAbs % 4294967296:Nat):Int) 1=((z.natAbs % 4294967296:Nat):Int) by rw [aem _ (by omega)];omega] at this
  rw [this]
  congr 2
  simp only [Nat.pow_zero,Nat.div_one]
  by_cases h:z.natAbs % 2=1
  ·rw [agE h,show z.natAbs % 4294967296 % 2=1 by omega];rfl
  ·rw [agD h,show z.natAbs % 4294967296 % 2=0 by omega];rfl
theorem YG {x y z c:Int} (hx:0≤x∧x<4294967296) (hy:0≤y∧y<4294967296) (hz:0≤z∧z<4294967296) (hc:0≤c∧c<4294967296):0≤x*y∧x*y≤18446744065119617025∧c+(z+x*y)≤18446744073709551615:=by
 have h1:0≤x*y:=aer hx.1 hy.1
 have h2:x*y≤4294967295*4294967295:=Int.mul_le_mul (by omega) (by omega) (by omega) (by omega)
 omega
theorem Rj (i:Nat) (x:Int) (ga:List Int) (gn gi:Int) (b:List Int) (s1:Bool) (l1:List Int) (s2:Bool) (l2:List Int) (s3:Bool) (l3:List Int) (out:List Int) (hx:0≤x∧x<4294967296) (hb:Dg b) (hbl:b.length<10000) (hil:i<10000) (ho:i+b.length≤out.length) (hol:out.length<100000) (hd:Dg out) (n:Nat) (hn:b.length<n):
 ∃ o c,iter n (((i:Int),x,(0:Int),ga,gn,gi,b,(b.length:Int),(0:Int),s1,l1,s2,l2,s3,l3,out,()):nE) ri=some (Sum.inr ((i:Int),c,ga,gn,gi,s1,l1,s2,l2,s3,l3,o,()))∧
  Dg o∧o.length=out.length∧0≤c∧c<4294967296∧v32 o+4294967296 ^ (i+b.length)*c=v32 out+4294967296 ^ i*x*v32 b∧∀ j,i+b.length≤j→o[j]? =out[j]? :=by
 refine bn (Inv:=fun k X=>∃ o c,X=(((i:Int),x,c,ga,gn,gi,b,(b.length:Int),(k:Int),s1,l1,s2,l2,s3,l3,o,()):nE)∧Dg o∧o.length=out.length∧0≤c∧c<4294967296∧v32 o+4294967296 ^ (i+k)*c=v32 out+4294967296 ^ i*x*v32 (b.take k)∧∀ j,i+k≤j→o[j]? =out[j]?) b.length
  (fun r=>∃ o c,r=some (Sum.inr ((i:Int),c,ga,gn,gi,s1,l1,s2,l2,s3,l3,o,()))∧Dg o∧o.length=out.length∧0≤c∧c<4294967296∧v32 o+4294967296 ^ (i+b.length)*c=v32 out+4294967296 ^ i*x*v32 b∧∀ j,i+b.length≤j→o[j]? =out[j]?) ?_ ?_ n 0 _ ⟨out,0,rfl,hd,rfl,by omega,by omega,by simp [DV],fun _ _=>rfl⟩ (by omega) (by omega)
 ·rintro k _ again hk ⟨o,c,rfl,h1,h2,h3,h4,h5,h6⟩ ih
  unfold ri
  dsimp only
  have hy:b[k]? =some b[k]:=aH hk
  have hyd:=hb.get hy
  have hts:=kr hy
  have hz:o[i+k]? =some (o[i+k]'(by omega)):=aH (by omega)
  have hzd:=h1.get hz
  generalize b[k]=y at hy hyd hts
  generalize o[i+k]'(by omega)=z at hz hzd
  obtain ⟨m1,m2,m3⟩:=YG hx hyd hzd ⟨h3,h4⟩
  have e1:w64 ((i:Int)+(k:Int))=((i+k:Nat):Int):=by rw [aA (by omega) (by omega)];omega
  rw [aE (by omega),bh,hy,Option.bind_some,e1,aJ (by simp only [ad5,decide_eq_true_eq];omega),aeF,hz,Option.bind_some,aJ (by simp only [ad5,decide_eq_true_eq];omega),Option.bind_some,
   dW (n:=x) (by omega) (by omega),dW (n:=y) (by omega) (by omega),dW (n:=z) (by omega) (by omega),dW (n:=x*y) (by omega) (by omega),dW (n:=z+x*y) (by omega) (by omega),dW (n:=c+(z+x*y)) (by omega) (by omega),D8,Yg,aA (n:=(k:Int)+1) (by omega) (by omega)]
  generalize ht:c+(z+x*y)=t at*
  refine ih _ ⟨_,_,rfl,h1.set (by omega),by rw [afj];exact h2,by omega,by omega, ?_,fun j hj=> ?_⟩
  ·rw [Qm hz,hts]
   have e2:(4294967296:Int) ^ (i+(k+1))=4294967296 ^ i*4294967296 ^ k*4294967296:=by rw [← afR,aey,aex]
   have e3:(4294967296:Int) ^ (i+k)=4294967296 ^ i*4294967296 ^ k:=aex ..
   rw [e3] at h5
   rw [e2,e3]
   have e4:=Int.mul_ediv_add_emod t 4294967296
   generalize (4294967296:Int) ^ i=p at*
   generalize (4294967296:Int) ^ k=q at*
   generalize t / 4294967296=d at*
   generalize t % 4294967296=r at*
   grind
  ·rw [ae7 (by omega)];exact h6 j (by omega)
 ·rintro _ again ⟨o,c,rfl,h1,h2,h3,h4,h5,h6⟩
  unfold ri
  dsimp only
  rw [aF (by omega)]
  rw [afP (af0 _)] at h5
  exact ⟨o,c,rfl,h1,h2,h3,h4,h5,h6⟩
theorem QZ (a b:List Int) (ha:Dg a) (hb:Dg b) (hal:a.length<1000) (hbl:b.length<1000) (s1 s2 s3:Bool) (l3:List Int) (n:Nat) (hn:a.length<n):
 ∃ o,iter n ((a,(a.length:Int),(0:Int),s1,a,s2,b,s3,l3,List.replicate (a.length+b.length) 0,()):nF) rH=some (Sum.inr (s1,a,s2,b,s3,l3,o,()))∧Dg o∧o.length=a.length+b.length∧v32 o=v32 a*v32 b:=by
 refine bn (Inv:=fun i X=>∃ o,X=((a,(a.length:Int),(i:Int),s1,a,s2,b,s3,l3,o,()):nF)∧Dg o∧o.length=a.length+b.length∧v32 o=v32 (a.take i)*v32 b∧∀ j,i+b.length≤j→j<a.length+b.length→o[j]? =some 0) a.length
  (fun r=>∃ o,r=some (Sum.inr (s1,a,s2,b,s3,l3,o,()))∧Dg o∧o.length=a.length+b.length∧v32 o=v32 a*v32 b) ?_ ?_ n 0 _ ⟨_,rfl,fun d hd=>by rw [afA] at hd;omega,by simp,by rw [Nn];simp [DV],fun j _ hj=>by rw [ae5,if_pos hj]⟩ (by omega) (by omega)
 ·rintro i _ again hi ⟨o,rfl,h1,h2,h3,h4⟩ ih
  unfold rH
  dsimp only
  have hy:a[i]? =some a[i]:=aH hi
  have hyd:=ha.get hy
  have hts:=kr hy
  generalize a[i]=x at hy hyd hts
  rw [aE (by omega),bh,hy,Option.bind_some]
  obtain ⟨o',c,k1,k2,k3,k4,k5,k6,k7⟩:=Rj i x a (a.length:Int) (i:Int) b s1 a s2 b s3 l3 o hyd hb (by omega) (by omega) (by omega) (by omega) h1 (Int.natAbs (i:Int)+(Int.natAbs x+(Int.natAbs (0:Int)+(List.length a+(Int.natAbs (a.length:Int)+(Int.natAbs (i:Int)+(List.length b+(Int.natAbs ((List.length b:Int))+(Int.natAbs (0:Int)+(List.length a+(List.length b+(List.length l3+(List.length o+2))))))))))))) (by omega)
  rw [k1,aG]
  dsimp only
  have e1:w64 ((i:Int)+(b.length:Int))=((i+b.length:Nat):Int):=by rw [aA (by omega) (by omega)];omega
  have hz:o'[i+b.length]? =some 0:=by rw [k7 _ (af0 _)];exact h4 _ (af0 _) (by omega)
  rw [e1,aJ (by simp only [ad5,decide_eq_true_eq];omega),aeF,hz,Option.bind_some,D9 (by omega) (by omega),aA (n:=(i:Int)+1) (by omega) (by omega)]
  refine ih _ ⟨_,rfl,k2.set (by omega),by rw [afj];omega, ?_,fun j hj hj2=> ?_⟩
  ·rw [Qm hz,hts]
   have e3:(4294967296:Int) ^ (i+b.length)=4294967296 ^ i*4294967296 ^ b.length:=aex ..
   rw [e3] at k6 ⊢
   grind
  ·rw [ae7 (by omega),k7 j (by omega)];exact h4 j (by omega) hj2
 ·rintro _ again ⟨o,rfl,h1,h2,h3,h4⟩
  unfold rH
  dsimp only
  rw [aF (by omega)]
  rw [afP (af0 _)] at h3
  exact ⟨o,rfl,h1,h2,h3⟩
theorem gM (x y:Int) (hx:x.natAbs<4294967296 ^ 99) (hy:y.natAbs<4294967296 ^ 99):fT (W x) (W y)=some (W (x*y),()):=by
 have hlx:=uC hx
 have hly:=uC hy
 unfold fT W
 dsimp only
 have e1:w64 (((bE x.natAbs).length:Int)+((bE y.natAbs).length:Int))=(((bE x.natAbs).length+(bE y.natAbs).length:Nat):Int):=by rw [aA (by omega) (by omega)];omega
 rw [e1,aJ (by simp only [ad5,decide_eq_true_eq];omega)]
 obtain ⟨o,h1,h2,h3,h4⟩:=QZ (bE x.natAbs) (bE y.natAbs) (eF _) (eF _) (by omega) (by omega) (decide (x<0)) (decide (y<0)) false [] (List.length (bE x.natAbs)+(Int.natAbs ((List.length (bE x.natAbs):Int))+(Int.natAbs (0:Int)+(List.length (bE x.natAbs)+(List.length (bE y.natAbs)+(List.length ([]:List Int)+(List.length ((List.replicate (Int.toNat (((bE x.natAbs).length+(bE y.natAbs).length:Nat):Int)) 0):List Int)+2))))))) (by omega)
 rw [aeF] at h1 ⊢
 rw [h1,aG]
 dsimp only
 rw [ki _ _ h2 (by omega),Option.bind_some,h4,eI,eI]
 show some (W _,())=some (W (x*y),())
 congr 3
 rw [← aev, ← Int.natAbs_mul]
 by_cases h:x<0<;>by_cases h':y<0
 ·have:=Int.mul_pos_of_neg_of_neg h h'
  simp [h,h'];omega
 ·have:=aer (show 0≤ -x by omega) (show 0≤y by omega)
  rw [Int.neg_mul] at this
  simp [h,h'];omega
 ·have:=aer (show 0≤x by omega) (show 0≤ -y by omega)
  rw [Int.mul_neg] at this
  simp [h,h'];omega
 ·have:=aer (show 0≤x by omega) (show 0≤y by omega)
  simp [h,h'];omega
end Go.Md
namespace Go.Md
open Go.Dn
def Le (k:Nat) (z:Int):Prop:=z.natAbs≤10 ^ k
theorem Le.mul {a b:Nat} {x y:Int} (hx:Le a x) (hy:Le b y):Le (a+b) (x*y):=by
 unfold Le at*
 rw [Int.natAbs_mul,agi]
 exact Nat.mul_le_mul hx hy
theorem Le.mono {a b:Nat} {x:Int} (hx:Le a x) (h:a≤b):Le b x:=af1 hx (agj (by omega) h)
theorem Le.add {a:Nat} {x y:Int} (hx:Le a x) (hy:Le a y):Le (a+1) (x+y):=by
 unfold Le at*
 rw [agl]
 omega
theorem Le.neg {a:Nat} {x:Int} (hx:Le a x):Le a (-x):=by unfold Le at *;omega
theorem Le.w {k:Nat} {z:Int} (h:Le k z) (hk:k≤900):z.natAbs<4294967296 ^ 99:=
 af2 (h.mono hk) (by decide +kernel)
theorem Le.n {k:Nat} {z:Int} (h:Le k z) (hk:k≤500):(dg6 z.natAbs).length<90:=by
 have:=ZF (k:=84) (n:=z.natAbs) (af2 (h.mono hk) (by decide +kernel))
 omega
theorem Le.pow (n:Nat):Le n (10 ^ n):=by
 unfold Le
 rw [Int.natAbs_pow];exact af0 _
theorem Le.nat {k n:Nat} (h:n≤10 ^ k):Le k (n:Int):=h
theorem Le.int {n:Int} (h1: -9223372036854775808≤n) (h2:n≤9223372036854775807):Le 19 n:=by unfold Le;omega
theorem Le.succ {k n:Nat} (h:Le k (n:Int)):Le (k+1) ((n+1:Nat):Int):=by
 unfold Le at*
 rw [agl]
 have:1≤10 ^ k:=agk (by omega)
 omega
theorem Lc (n:Nat) (hn:n≤60):pI (n:Int)=some (W (10 ^ n),()):=by
 unfold pI
 rw [fX 1 (by omega) (by omega),Option.bind_some]
 dsimp only
 have loop:∀ (f:Nat),n<f→iter f (((n:Int),(0:Int),false,([]:List Int),(W 1).1,(W 1).2,()):s8) x9=some (Sum.inr (false,[],(W (10 ^ n)).1,(W (10 ^ n)).2,())):=by
  intro f hf
  refine bn (Inv:=fun i X=>X=(((n:Int),(i:Int),false,([]:List Int),(W (10 ^ i)).1,(W (10 ^ i)).2,()):s8)) n (fun r=>r=some (Sum.inr (false,[],(W (10 ^ n)).1,(W (10 ^ n)).2,()))) ?_ ?_ f 0 _ rfl (by omega) (by omega)
  ·rintro i _ again hi rfl ih
   unfold x9
   dsimp only
   rw [aE (by omega),fX 10 (by omega) (by omega),Option.bind_some]
   dsimp only
   rw [gM (10 ^ i) 10 ((Le.pow i).w (by omega)) ((Le.int (n:=10) (by omega) (by omega)).w (by omega)),Option.bind_some,aA (by omega) (by omega)]
   refine ih _ ?_
   rw [aey]
   rfl
  ·rintro _ again rfl
   unfold x9
   dsimp only
   rw [aF (by omega)]
 rw [loop _ (by omega),aG]
theorem IQ (d:ak) (p:Int) (h1: -9223372036854775808≤d.1) (h2:d.1≤9223372036854775807) (hp0:0≤p - d.2) (hp:p - d.2≤60) (hd: -1000≤d.2∧d.2≤1000):qS d p=some (W (d.1*10 ^ (p - d.2).toNat),()):=by
 unfold qS
 rw [fX _ h1 h2,Option.bind_some,aA (by omega) (by omega)]
 obtain ⟨n,hn⟩:∃ n:Nat,p - d.2=n:=⟨(p - d.2).toNat,by omega⟩
 rw [hn,Lc n (by omega),Option.bind_some]
 dsimp only
 rw [gM _ _ ((Le.int h1 h2).w (by omega)) ((Le.pow n).w (by omega)),Option.bind_some,aeF]
def Ew (way:Int) (neg:Bool) (q r b:Nat):Bool:=
 if way=1 then decide (b≤2*r)
 else if way=2 then decide (b<2*r∨(2*r=b∧q % 2=1))
 else if way=4 then decide (0<r)
 else if way=5 then neg&&decide (0<r)
 else if way=6 then !neg&&decide (0<r)
 else false
def rnd (way a:Int) (b:Nat):Int:=
 let u:Nat:=a.natAbs / b+(if Ew way (decide (a<0)) (a.natAbs / b) (a.natAbs % b) b=true then 1 else 0)
 if a<0 then -(u:Int) else (u:Int)
theorem Yp {way a:Int} {b k:Nat} (h:Le k a):Le (k+1) (rnd way a b):=by
 unfold Le at*
 unfold rnd
 have h1:a.natAbs / b≤a.natAbs:=afV _ _
 have h2:1≤10 ^ k:=agk (by omega)
 rw [agl]
 dsimp only
 generalize Ew way (decide (a<0)) (a.natAbs / b) (a.natAbs % b) b=up
 generalize a.natAbs / b=q at*
 split<;>split<;>omega
theorem G6 (a:Int) (b:Nat) (way:Int) (hb:0<b) (ha:Le 800 a) (hb2:Le 800 (b:Int)):tE (W a) (W b) way=some (W (rnd way a b),()):=by
 have e0:(b:Int).natAbs=b:=rfl
 unfold tE
 rw [JC a b (ha.w (by omega)) (hb2.w (by omega)) (by omega),Option.bind_some,e0]
 dsimp only
 have hq:Le 800 ((a.natAbs / b:Nat):Int):=af1 (afV _ _) ha
 have hr:Le 800 ((a.natAbs % b:Nat):Int):=af1 (Nat.mod_le _ _) ha
 have hrb:=agb a.natAbs hb
 unfold rnd
 generalize a.natAbs / b=q at*
 generalize a.natAbs % b=r at*
 rw [sF,Option.bind_some]
 dsimp only
 have inc:bg (W q) (W 1)=some (W ((q+1:Nat):Int),()):=dP q 1 (hq.w (by omega)) ((Le.int (n:=1) (by omega) (by omega)).w (by omega))
 have one:bH 1=some (W 1,()):=fX 1 (by omega) (by omega)
 have hq1:Le 801 ((q+1:Nat):Int):=hq.succ
 have mi:∀ z:Int,Le 801 z→aL (W z)=some (W (-z),()):=fun z h=>F3 z (h.w (by omega))
 have sg:∀ z:Int,aM (W z)=some (z.sign,()):=sF
 have od:gv (W (q:Int))=some (decide (q % 2=1),()):=Si q
 have an:decide (a.sign<0)=decide (a<0):=by rw [agC];exact Int.sign_neg_iff
 by_cases h0:r=0
 ·subst h0
  rw [show ((Int.sign ((0:Nat):Int)) != 0)=false from rfl,cond_false,sg,Option.bind_some]
  dsimp only
  rw [an]
  have hu:Ew way (decide (a<0)) q 0 b=false:=by
   unfold Ew
   split
   ·simp;omega
   ·split
    ·simp;omega
    ·simp
  rw [hu]
  by_cases hn:a<0
  ·rw [aE hn,mi _ (hq.mono (by omega)),Option.bind_some]
   simp [hn]
  ·rw [aF hn]
   simp [hn]
 ·have hs:((Int.sign (r:Int)) != 0)=true:=by
   rw [aeA (by omega)];rfl
  rw [hs,cond_true,dP r r (hr.w (by omega)) (hr.w (by omega)),Option.bind_some]
  dsimp only
  rw [BX _ _ ((hr.add hr).w (by omega)) (hb2.w (by omega)),Option.bind_some]
  dsimp only
  have hc1:decide (((r:Int)+r - b).sign≥0)=decide (b≤2*r):=by
   rw [agC,ge_iff_le,aeC];omega
  have hc2:decide (((r:Int)+r - b).sign>0)=decide (b<2*r):=by
   rw [agC,gt_iff_lt,Int.sign_pos_iff];omega
  have hc3:(((r:Int)+r - b).sign==0)=decide (2*r=b):=by
   rw [show (((r:Int)+r - b).sign==0)=decide (((r:Int)+r - b).sign=0) from rfl,agC,aeB];omega
  rw [sg,Option.bind_some]
  dsimp only
  rw [hc1,hc2,hc3,an]
  have fin:∀ (u:Nat),Le 801 (u:Int)→(bif decide (a<0) then Option.bind (aL (W (u:Int))) fun r9=>some (r9.1,()) else some (W (u:Int),()))=some (W (if a<0 then -(u:Int) else u),()):=by
   intro u hu
   by_cases hn:a<0
   ·rw [aE hn,mi _ hu,Option.bind_some,if_pos hn]
   ·rw [aF hn,if_neg hn]
  simp only [one,inc,od,Option.bind_some,an,fin q (hq.mono (by omega)),fin (q+1) hq1]
  have hr0:decide (0<r)=true:=by simp;omega
  unfold Ew
  simp only [hr0,ad7]
  by_cases w1:way=1
  ·subst w1;cases decide (b≤2*r)<;>simp
  by_cases w2:way=2
  ·subst w2
   by_cases k1:b<2*r
   ·simp [k1]
   ·by_cases k2:2*r=b
    ·by_cases k3:q % 2=1<;>simp [k1,k2,k3]
    ·simp [k1,k2]
  by_cases w4:way=4
  ·subst w4;simp
  by_cases w5:way=5
  ·subst w5;by_cases hn:a<0<;>simp [hn]
  by_cases w6:way=6
  ·subst w6;by_cases hn:a<0<;>simp [hn]
  simp [w1,w2,w4,w5,w6,show (way==1)=false by simpa using w1,show (way==2)=false by simpa using w2,show (way==4)=false by simpa using w4,show (way==5)=false by simpa using w5,show (way==6)=false by simpa using w6]
end Go.Md
namespace Go.Md
open Go.Dn
theorem WK (n:Nat):N (n:Int)=(false,dg6 n):=by
 unfold N
 rw [show decide ((n:Int)<0)=false by simp];rfl
theorem u5 {α:Type} {l:List α} {k:Nat} {y:α} (h:l[k]? =some y):l.drop k=y::l.drop (k+1):=by
 obtain ⟨hk,rfl⟩:=List.getElem?_eq_some_iff.1 h
 exact aeR hk
theorem aak (n:Nat) (hl:(dg6 n).length<1000):Ql (N (n:Int))=some (N ((n / 2:Nat):Int),((n % 2:Nat):Int),()):=by
 unfold Ql
 rw [WK]
 dsimp only
 have hdig:=pL n
 have hval:=wh n
 generalize hd:dg6 n=d at*
 have e1:w64 ((d.length:Int) - 1)=(d.length:Int) - 1:=aA (by omega) (by omega)
 rw [e1,aeF,aJ (by simp only [ad5,decide_eq_true_eq];omega)]
 have loop:∀ f,d.length<f→∃ o:List Int,iter f (((0:Int),(d.length:Int) - 1,false,d,false,([]:List Int),false,List.replicate d.length 0,()):Dc) Hy=some (Sum.inr (((n % 2:Nat):Int),false,[],false,o,()))∧Dg6 o∧o.length=d.length∧v6 o=((n / 2:Nat):Int):=by
  intro f hf
  refine bn (Inv:=fun i X=>∃ o:List Int,X=((v6 (d.drop (d.length - i)) % 2,(d.length:Int) - i - 1,false,d,false,([]:List Int),false,o,()):Dc)∧Dg6 o∧o.length=d.length∧v6 o=v6 (d.drop (d.length - i)) / 2*1000000 ^ (d.length - i)∧∀ j,j<d.length - i→o[j]? =some 0) d.length
   (fun r=>∃ o:List Int,r=some (Sum.inr (((n % 2:Nat):Int),false,[],false,o,()))∧Dg6 o∧o.length=d.length∧v6 o=((n / 2:Nat):Int)) ?_ ?_ f 0 _ ⟨List.replicate d.length 0, ?_,fun x hx=>by rw [afA] at hx;omega,by simp, ?_,fun j hj=>by rw [ae5,if_pos (by omega)]⟩ (by omega) (by omega)
  ·rintro i _ again hi ⟨o,rfl,h1,h2,h3,h4⟩ ih
   unfold Hy
   dsimp only
   obtain ⟨k,hk⟩:∃ k,d.length - i=k+1:=⟨d.length - i - 1,by omega⟩
   have hki:d.length - (i+1)=k:=by omega
   have hy:d[k]? =some (d[k]'(by omega)):=aH (by omega)
   have hyd:=hdig.get hy
   have hcons:=u5 hy
   generalize d[k]'(by omega)=y at hy hyd hcons
   rw [hk] at h3 h4 ⊢
   rw [hki] at ih
   rw [hcons] at ih
   rw [DY] at ih
   have hnn:=nx (hdig.drop (k+1))
   generalize v6 (d.drop (k+1))=V at*
   have hi1:(d.length:Int) - i - 1=((k:Nat):Int):=by omega
   rw [hi1,aE (by omega),bh,hy,Option.bind_some]
   have hz:o[k]? =some 0:=h4 k (by omega)
   rw [aA (n:=V % 2*1000000) (by omega) (by omega),aA (n:=V % 2*1000000+y) (by omega) (by omega)]
   rw [aeD (by omega),aeE (by omega),aA (n:=(V % 2*1000000+y) / 2) (by omega) (by omega),aA (n:=(k:Int) - 1) (by omega) (by omega)]
   rw [aJ (by simp only [ad5,decide_eq_true_eq];omega),aeF,hz,Option.bind_some]
   refine ih _ ⟨o.set k ((V % 2*1000000+y) / 2), ?_,h1.set (by omega),by rw [afj];exact h2, ?_,fun j hj=> ?_⟩
   ·rw [show (V % 2*1000000+y) % 2=(y+1000000*V) % 2 by omega,show (k:Int) - 1=(d.length:Int) - ((i+1:Nat):Int) - 1 by omega]
   ·rw [S4 hz,h3,aey]
    have e2:(y+1000000*V) / 2=V / 2*1000000+(V % 2*1000000+y) / 2:=by omega
    rw [e2]
    grind
   ·rw [ae7 (by omega)];exact h4 j (by omega)
  ·rintro _ again ⟨o,rfl,h1,h2,h3,h4⟩
   unfold Hy
   dsimp only
   rw [aF (by omega)]
   rw [Nat.sub_self,aeU,hval] at h3 ⊢
   exact ⟨o,rfl,h1,h2,by rw [h3];simp⟩
  ·rw [Nat.sub_zero,List.drop_length,Fe,show ((d.length:Int) - ((0:Nat):Int) - 1)=(d.length:Int) - 1 by omega];rfl
  ·have:v6 (List.replicate d.length 0)=0:=by
    generalize d.length=m
    induction m with
    | zero=>rfl
    | succ n ih=>rw [afI,DY,ih];rfl
   rw [this];simp [Fe]
 obtain ⟨o,h1,h2,h3,h4⟩:=loop (Int.natAbs (0:Int)+(Int.natAbs ((d.length:Int) - 1)+(List.length d+(List.length ([]:List Int)+(List.length ((List.replicate d.length 0):List Int)+2))))) (by omega)
 rw [h1,aG]
 dsimp only
 rw [Qy false o h2 (by omega),Option.bind_some,h4]
 rfl
theorem acp {n:Nat} (h:0<n):dg 2 n=((n % 2:Nat):Int)::dg 2 (n / 2):=zO (by omega) h
theorem UJ (b0:Bool) (b1:List Int) (g1 g2:Bool) (l1 l2:List Int):∀ (k fuel n:Nat) (bits:List Int),n<2 ^ k→k<fuel→bits.length+k<100000→(dg6 n).length<1000→
 iter fuel ((bits,b0,b1,g1,l1,g2,l2,(N (n:Int)).1,(N (n:Int)).2,()):xb) n6=some (Sum.inr (bits++dg 2 n,b0,b1,g1,l1,g2,l2,())):=by
 intro k
 induction k with
 | zero=>
  intro fuel n bits hn hf hb hl
  obtain ⟨f,rfl⟩:∃ f,fuel=f+1:=⟨fuel - 1,by omega⟩
  have:n=0:=by simpa using hn
  subst this
  show n6 _ _=_
  unfold n6
  dsimp only
  rw [show ((N ((0:Nat):Int)).1,(N ((0:Nat):Int)).2)=N ((0:Nat):Int) from rfl,G7,Option.bind_some]
  rw [BH,aeM]
  rfl
 | succ k ih=>
  intro fuel n bits hn hf hb hl
  obtain ⟨f,rfl⟩:∃ f,fuel=f+1:=⟨fuel - 1,by omega⟩
  show n6 _ (fun y=>iter f y n6)=_
  generalize hag:(fun y=>iter f y n6)=again
  unfold n6
  dsimp only
  rw [show ((N (n:Int)).1,(N (n:Int)).2)=N (n:Int) from rfl,G7,Option.bind_some]
  by_cases h0:n=0
  ·subst h0
   rw [BH,aeM]
   rfl
  ·dsimp only
   rw [aE (by rw [gt_iff_lt,Int.sign_pos_iff];omega),aak n hl,Option.bind_some]
   dsimp only
   rw [aJ (fY (by omega) (by omega)), ← hag]
   dsimp only
   rw [ih f (n / 2) _ (by rw [agl] at hn;omega) (by omega) (by simp;omega) (af2 (SY (afV _ _)) hl),acp (show 0<n by omega),aeL]
   rfl
theorem PL (a b:Nat) (hb:0<b) (ha:Le 400 (a:Int)) (hb2:Le 400 (b:Int)):Fu (N (a:Int)) (N (b:Int))=some (N ((a / b:Nat):Int),N ((a % b:Nat):Int),()):=by
 unfold Fu
 dsimp only
 have hla:=ha.n (by omega)
 rw [show (a:Int).natAbs=a from rfl] at hla
 have hpow:a<2 ^ (20*(dg6 a).length+1):=by
  have h1:=JI (pL a)
  rw [wh] at h1
  have h2:((1000000:Int) ^ (dg6 a).length)=((1000000 ^ (dg6 a).length:Nat):Int):=by simp
  rw [h2] at h1
  have h3:(1000000:Nat) ^ (dg6 a).length≤(2 ^ 20) ^ (dg6 a).length:=Nat.pow_le_pow_left (by omega) _
  rw [← Nat.pow_mul] at h3
  have h4:2 ^ (20*(dg6 a).length)≤2 ^ (20*(dg6 a).length+1):=agj (by omega) (by omega)
  omega
 have hN:(N (a:Int)).2=dg6 a:=by rw [WK]
 rw [hN]
 have hl1:=UJ (N (b:Int)).1 (N (b:Int)).2 false false [] [] (20*(dg6 a).length+1) (20*(dg6 a).length+2) a [] hpow (by omega) (by simp;omega) (by omega)
 rw [hN] at hl1
 rw [hl1,aG,afC,gQ 2 (by omega) (by omega),Option.bind_some]
 dsimp only
 have hdig:Dig 2 (dg 2 a):=XQ (B:=2) (by omega) a
 have hval:val 2 (dg 2 a)=(a:Int):=Yx (B:=2) (by omega) a
 have hlen:(dg 2 a).length<3000:=by have:=Ua (B:=2) (by omega) _ a hpow;omega
 generalize hd:dg 2 a=d at*
 have e1:w64 ((d.length:Int) - 1)=(d.length:Int) - 1:=aA (by omega) (by omega)
 rw [e1]
 have loop:∀ f,d.length<f→iter f ((d,(d.length:Int) - 1,(N (b:Int)).1,(N (b:Int)).2,false,([]:List Int),false,([]:List Int),(N 0).1,(N 0).2,(N 0).1,(N 0).2,(N 2).1,(N 2).2,()):vz) Ap=some (Sum.inr (false,[],false,[],(N ((a / b:Nat):Int)).1,(N ((a / b:Nat):Int)).2,(N ((a % b:Nat):Int)).1,(N ((a % b:Nat):Int)).2,())):=by
  intro f hf
  refine bn (Inv:=fun i X=>∃ V:Nat,X=((d,(d.length:Int) - i - 1,(N (b:Int)).1,(N (b:Int)).2,false,([]:List Int),false,([]:List Int),(N ((V / b:Nat):Int)).1,(N ((V / b:Nat):Int)).2,(N ((V % b:Nat):Int)).1,(N ((V % b:Nat):Int)).2,(N 2).1,(N 2).2,()):vz)∧(V:Int)=val 2 (d.drop (d.length - i))∧V≤a) d.length
   (fun r=>r=some (Sum.inr (false,[],false,[],(N ((a / b:Nat):Int)).1,(N ((a / b:Nat):Int)).2,(N ((a % b:Nat):Int)).1,(N ((a % b:Nat):Int)).2,()))) ?_ ?_ f 0 _ ⟨0, ?_,by simp [val],by omega⟩ (by omega) (by omega)
  ·rintro i _ again hi ⟨V,rfl,hV,hVa⟩ ih
   unfold Ap
   dsimp only
   obtain ⟨k,hk⟩:∃ k,d.length - i=k+1:=⟨d.length - i - 1,by omega⟩
   have hki:d.length - (i+1)=k:=by omega
   have hy:d[k]? =some (d[k]'(by omega)):=aH (by omega)
   have hyd:=hdig.get hy
   have hcons:=u5 hy
   generalize d[k]'(by omega)=y at hy hyd hcons
   rw [hk] at hV
   rw [hki,hcons] at ih
   have hV':val 2 (y::d.drop (k+1))=y+2*V:=by rw [val,hV]
   have hle:y+2*V≤a:=by
    have h1:val 2 (d.drop k)*2 ^ k+val 2 (d.take k)=a:=by
     have:=CM (B:=2) (d.take k) (d.drop k)
     rw [afN,hval,afk,af9 (by omega)] at this
     rw [this,Int.mul_comm,Int.add_comm]
    have h2:=B7 (B:=2) (by omega) (hdig.take k)
    have h3:(1:Int)≤2 ^ k:=Il (by omega) k
    rw [hcons,hV'] at h1
    have h4:0≤(y+2*(V:Int))*(2 ^ k - 1):=aer (by omega) (by omega)
    rw [aet,aes] at h4
    omega
   obtain ⟨m,rfl⟩:∃ m:Nat,y=m:=⟨y.toNat,by omega⟩
   have hm2:m=0∨m=1:=by omega
   have hi1:(d.length:Int) - i - 1=((k:Nat):Int):=by omega
   have hq:Le 400 ((V / b:Nat):Int):=af1 (af1 (afV _ _) hVa) ha
   have hr:Le 400 ((V % b:Nat):Int):=af1 (af1 (Nat.mod_le _ _) hVa) ha
   have h2:Le 1 2:=by unfold Le;decide
   rw [hi1,aE (by omega)]
   rw [show ∀ z:Int,((N z).1,(N z).2)=N z from fun _=>rfl]
   rw [show ∀ z:Int,((N z).1,(N z).2)=N z from fun _=>rfl]
   rw [show ∀ z:Int,((N z).1,(N z).2)=N z from fun _=>rfl]
   rw [show ∀ z:Int,((N z).1,(N z).2)=N z from fun _=>rfl]
   have bq:=hq.n (by omega)
   have br:=hr.n (by omega)
   have b2:=h2.n (by omega)
   have bb:=hb2.n (by omega)
   rw [gw _ _ (by omega) (by omega),Option.bind_some,gw _ _ (by omega) (by omega),Option.bind_some]
   rw [aJ (by simp only [ad5,decide_eq_true_eq];omega),aeF,hy,Option.bind_some,gQ _ (by omega) (by omega),Option.bind_some]
   dsimp only
   have br2:=(hr.mul h2).n (by omega)
   have brm:=((hr.mul h2).add ((Le.nat (k:=1) (n:=m) (by omega)).mono (by omega:1≤400+1))).n (by omega)
   have bm:=(Le.nat (k:=1) (n:=m) (by omega)).n (by omega)
   have bq2:=(hq.mul h2).n (by omega)
   rw [Ca _ _ (by omega) (by omega),Option.bind_some]
   dsimp only
   rw [O8 _ _ (by omega) (by omega),Option.bind_some]
   dsimp only
   rw [aA (n:=(k:Int) - 1) (by omega) (by omega)]
   have hdm:=Nat.div_add_mod V b
   have hml:=agb V hb
   by_cases hge:b≤V % b*2+m
   ·rw [aE (by rw [ge_iff_le,aeC];omega),gQ 1 (by omega) (by omega),Option.bind_some]
    dsimp only
    have b1:(dg6 (Int.natAbs 1)).length<90:=(Le.int (n:=1) (by omega) (by omega)).n (by omega)
    rw [Ca _ _ (by omega) (by omega),Option.bind_some,EL,Option.bind_some]
    dsimp only
    have bnb:=hb2.neg.n (by omega)
    rw [Ca _ _ (by omega) (by omega),Option.bind_some]
    have e:(m+2*V) / b=V / b*2+1∧(m+2*V) % b=V % b*2+m - b:=by
     have h1:m+2*V=b*(V / b*2+1)+(V % b*2+m - b):=by
      rw [Nat.mul_add,Nat.mul_one,show b*(V / b*2)=2*(b*(V / b)) by grind];omega
     have h2:V % b*2+m - b<b:=by omega
     rw [h1]
     exact ⟨by rw [Nat.mul_add_div hb,afU h2,afT],by rw [Nat.mul_add_mod,aga h2]⟩
    refine ih _ ⟨m+2*V, ?_,by rw [hV'];omega,by omega⟩
    rw [e.1,e.2]
    have e3:(((V % b*2+m - b:Nat)):Int)=((V % b:Nat):Int)*2+(m:Int)+ -(b:Int):=by omega
    have e4:((V / b*2+1:Nat):Int)=((V / b:Nat):Int)*2+1:=by omega
    rw [e3,e4]
    congr 2
    omega
   ·rw [aF (by rw [ge_iff_le,aeC];omega)]
    have e:(m+2*V) / b=V / b*2∧(m+2*V) % b=V % b*2+m:=by
     have h1:m+2*V=b*(V / b*2)+(V % b*2+m):=by
      rw [show b*(V / b*2)=2*(b*(V / b)) by grind];omega
     have h2:V % b*2+m<b:=by omega
     rw [h1]
     exact ⟨by rw [Nat.mul_add_div hb,afU h2,afT],by rw [Nat.mul_add_mod,aga h2]⟩
    refine ih _ ⟨m+2*V, ?_,by rw [hV'];omega,by omega⟩
    rw [e.1,e.2]
    have e3:((V % b*2+m:Nat):Int)=((V % b:Nat):Int)*2+(m:Int):=by omega
    have e4:((V / b*2:Nat):Int)=((V / b:Nat):Int)*2:=by omega
    rw [e3,e4]
    congr 2
    omega
  ·rintro _ again ⟨V,rfl,hV,hVa⟩
   unfold Ap
   dsimp only
   rw [aF (by omega)]
   rw [Nat.sub_self,aeU,hval] at hV
   have:V=a:=by omega
   subst this
   rfl
  ·rw [Nat.zero_div,Nat.zero_mod,show ((d.length:Int) - ((0:Nat):Int) - 1)=(d.length:Int) - 1 by omega];rfl
 have hl2:=loop (List.length d+(Int.natAbs ((d.length:Int) - 1)+(List.length (N (b:Int)).2+(List.length ([]:List Int)+(List.length ([]:List Int)+(List.length ([]:List Int)+(List.length ([]:List Int)+(List.length (N 2).2+2)))))))) (by omega)
 have hN0:(N 0).1=false∧(N 0).2=[]:=⟨rfl,rfl⟩
 rw [hN0.1,hN0.2] at hl2
 rw [hl2,aG]
end Go.Md
namespace Go.Md
open Go.Dn
theorem YN (a:Int) (b:Nat) (way:Int) (hb:0<b) (ha:Le 390 a) (hb2:Le 390 (b:Int)):Me (N a) (N (b:Int)) way=some (N (rnd way a b),()):=by
 unfold Me
 have e0:(false,(N a).2)=N (a.natAbs:Int):=by rw [WK];rfl
 have hq:Le 390 ((a.natAbs / b:Nat):Int):=af1 (afV _ _) ha
 have hr:Le 390 ((a.natAbs % b:Nat):Int):=af1 (Nat.mod_le _ _) ha
 rw [e0,PL a.natAbs b hb ((Le.nat (k:=390) ha).mono (by omega)) (hb2.mono (by omega)),Option.bind_some,gQ 2 (by omega) (by omega),Option.bind_some]
 dsimp only
 have hrb:=agb a.natAbs hb
 unfold rnd
 generalize a.natAbs / b=q at*
 generalize a.natAbs % b=r at*
 have h2:Le 1 2:=by unfold Le;decide
 have l1:=hr.n (by omega)
 have l2:=h2.n (by omega)
 have l3:=(hr.mul h2).n (by omega)
 have l4:=hb2.n (by omega)
 have l5:=hq.n (by omega)
 have l6:(dg6 (Int.natAbs 1)).length<90:=(Le.int (n:=1) (by omega) (by omega)).n (by omega)
 rw [gw _ _ (by omega) (by omega),Option.bind_some]
 dsimp only
 rw [O8 _ _ (by omega) (by omega),Option.bind_some]
 dsimp only
 have hc1:decide (((r:Int)*2 - b).sign≥0)=decide (b≤2*r):=by
  rw [agC,ge_iff_le,aeC];omega
 have hc2:decide (((r:Int)*2 - b).sign>0)=decide (b<2*r):=by
  rw [agC,gt_iff_lt,Int.sign_pos_iff];omega
 have hc3:(((r:Int)*2 - b).sign==0)=decide (2*r=b):=by
  rw [show (((r:Int)*2 - b).sign==0)=decide (((r:Int)*2 - b).sign=0) from rfl,agC,aeB];omega
 have hsg:decide ((r:Int).sign>0)=decide (0<r):=by
  rw [agC,gt_iff_lt,Int.sign_pos_iff];omega
 have hod:xQ (N (q:Int)).2 0=some (((q % 1000000:Nat):Int),()):=by
  rw [WK,show (0:Int)=((0:Nat):Int) from rfl,EV]
  by_cases h0:q=0
  ·subst h0;rfl
  ·rw [ZO (by omega)];rfl
 have hod2:(Int.tmod ((q % 1000000:Nat):Int) 2==1)=decide (q % 2=1):=by
  rw [aeE (by omega)]
  by_cases h:q % 2=1
  ·rw [agE h,show ((q % 1000000:Nat):Int) % 2=1 by omega];rfl
  ·rw [agD h,show ((q % 1000000:Nat):Int) % 2=0 by omega];rfl
 have neg:(N a).1=decide (a<0):=rfl
 have fin:∀ up:Bool,(bif up then
  Option.bind (mg 1) fun r10=>
  Option.bind (yx ((N (q:Int)).1,(N (q:Int)).2) r10.1) fun r11=>
  bif decide (a<0) then
   Option.bind (uJ r11.1) fun r12=>
   some (r12.1,())
  else
   some (r11.1,())
  else
   bif decide (a<0) then
    Option.bind (uJ ((N (q:Int)).1,(N (q:Int)).2)) fun r13=>
    some (r13.1,())
   else
    some (((N (q:Int)).1,(N (q:Int)).2),()))=some (N (if a<0 then -((q+(if up=true then 1 else 0):Nat):Int) else ((q+(if up=true then 1 else 0):Nat):Int)),()):=by
  intro up
  rw [show ((N (q:Int)).1,(N (q:Int)).2)=N (q:Int) from rfl]
  cases up with
  | true=>
   rw [cond_true,gQ 1 (by omega) (by omega),Option.bind_some]
   dsimp only
   rw [Ca _ _ (by omega) (by omega),Option.bind_some]
   by_cases hn:a<0
   ·rw [aE hn,EL,Option.bind_some,if_pos hn]
    simp
   ·rw [aF hn,if_neg hn]
    simp
  | false=>
   rw [cond_false]
   by_cases hn:a<0
   ·rw [aE hn,EL,Option.bind_some,if_pos hn]
    simp
   ·rw [aF hn,if_neg hn]
    simp
 simp only [hc1,hc2,hc3,hod,hod2,G7,hsg,neg,Option.bind_some]
 unfold Ew
 by_cases w1:way=1
 ·subst w1
  rw [show ((1:Int)==1)=true from rfl,cond_true,aG]
  exact fin _
 by_cases w2:way=2
 ·subst w2
  rw [show ((2:Int)==1)=false from rfl,cond_false,show ((2:Int)==2)=true from rfl,cond_true]
  by_cases k1:b<2*r
  ·rw [aE k1,aG,if_neg (show ¬((2:Int)=1) by omega),if_pos (show (2:Int)=2 from rfl),agE (Or.inl k1)]
   exact fin true
  ·rw [aF k1]
   by_cases k2:2*r=b
   ·rw [aE k2,aG,if_neg (show ¬((2:Int)=1) by omega),if_pos (show (2:Int)=2 from rfl)]
    have:decide (b<2*r∨2*r=b∧q % 2=1)=decide (q % 2=1):=by rw [agC];omega
    rw [this]
    exact fin _
   ·rw [aF k2,aG,if_neg (show ¬((2:Int)=1) by omega),if_pos (show (2:Int)=2 from rfl)]
    have:decide (b<2*r∨2*r=b∧q % 2=1)=false:=by rw [decide_eq_false_iff_not];omega
    rw [this]
    exact fin false
 rw [show (way==1)=false by simpa using w1,cond_false,show (way==2)=false by simpa using w2,cond_false,if_neg w1,if_neg w2]
 by_cases w4:way=4
 ·subst w4
  rw [show ((4:Int)==4)=true from rfl,cond_true,aG]
  exact fin _
 rw [show (way==4)=false by simpa using w4,cond_false,if_neg w4]
 by_cases w5:way=5
 ·subst w5
  rw [show ((5:Int)==5)=true from rfl,cond_true,if_pos (show (5:Int)=5 from rfl)]
  by_cases hn:a<0
  ·rw [aE hn,aG,agE hn]
   rw [agE hn] at fin
   exact fin _
  ·rw [aF hn,aG,agD hn]
   rw [agD hn] at fin
   exact fin false
 rw [show (way==5)=false by simpa using w5,cond_false,if_neg w5]
 by_cases w6:way=6
 ·subst w6
  rw [show ((6:Int)==6)=true from rfl,cond_true,if_pos (show (6:Int)=6 from rfl)]
  by_cases hn:a<0
  ·rw [agE hn]
   rw [agE hn] at fin
   exact fin false
  ·rw [agD hn]
   rw [agD hn] at fin
   exact fin _
 rw [show (way==6)=false by simpa using w6,cond_false,if_neg w6,aG]
 exact fin false
theorem EF (z limit:Int) (h0:0<limit) (h1:limit≤1000000000000000000) (hz:Le 500 z):A9 (N z) limit=some (if z.natAbs≤limit then (z,true,()) else (0,false,())):=by
 unfold A9
 rw [gQ limit (by omega) (by omega),Option.bind_some]
 have hl:=hz.n (by omega)
 have hl2:(dg6 limit.natAbs).length<90:=(Le.int (n:=limit) (by omega) (by omega)).n (by omega)
 show Option.bind (Ei (dg6 z.natAbs) (dg6 limit.natAbs)) _=_
 obtain ⟨c,k1,k2,k3⟩:=Rz z.natAbs limit.natAbs (by omega) (by omega)
 rw [k1,Option.bind_some]
 dsimp only
 by_cases hc:c>0
 ·rw [aE hc,if_neg (by omega)]
 ·rw [aF hc,if_pos (by omega)]
  show aP (iter _ ((0:Int),w64 (((dg6 z.natAbs).length:Int) - 1),decide (z<0),dg6 z.natAbs,()) _) _=_
  have hdig:=pL z.natAbs
  have hval:=wh z.natAbs
  rw [show (N z).2=dg6 z.natAbs from rfl]
  generalize hd:dg6 z.natAbs=d at*
  rw [aA (n:=(d.length:Int) - 1) (by omega) (by omega)]
  have loop:∀ f,d.length<f→iter f (((0:Int),(d.length:Int) - 1,decide (z<0),d,()):z7) EI=some (Sum.inr ((z.natAbs:Int),decide (z<0),d,())):=by
   intro f hf
   refine bn (Inv:=fun i X=>X=((v6 (d.drop (d.length - i)),(d.length:Int) - i - 1,decide (z<0),d,()):z7)) d.length
    (fun r=>r=some (Sum.inr ((z.natAbs:Int),decide (z<0),d,()))) ?_ ?_ f 0 _ ?_ (by omega) (by omega)
   ·rintro i _ again hi rfl ih
    unfold EI
    dsimp only
    obtain ⟨k,hk⟩:∃ k,d.length - i=k+1:=⟨d.length - i - 1,by omega⟩
    have hki:d.length - (i+1)=k:=by omega
    have hy:d[k]? =some (d[k]'(by omega)):=aH (by omega)
    have hyd:=hdig.get hy
    have hcons:=u5 hy
    generalize d[k]'(by omega)=y at hy hyd hcons
    rw [hk]
    rw [hki,hcons,DY] at ih
    have hnn:=nx (hdig.drop (k+1))
    have hle:y+1000000*v6 (d.drop (k+1))≤z.natAbs:=by
     have h1:v6 (d.drop k)*1000000 ^ k+v6 (d.take k)=z.natAbs:=by
      have:=Oz (d.take k) (d.drop k)
      rw [afN,hval,afk,af9 (by omega)] at this
      rw [this,Int.mul_comm,Int.add_comm]
     have h2:=nx (hdig.take k)
     have h3:(1:Int)≤1000000 ^ k:=Il (by omega) k
     rw [hcons,DY] at h1
     have h4:0≤(y+1000000*v6 (d.drop (k+1)))*(1000000 ^ k - 1):=aer (by omega) (by omega)
     rw [aet,aes] at h4
     omega
    generalize v6 (d.drop (k+1))=V at*
    have hi1:(d.length:Int) - i - 1=((k:Nat):Int):=by omega
    rw [hi1,aE (by omega),bh,hy,Option.bind_some,aA (n:=V*1000000) (by omega) (by omega),aA (n:=V*1000000+y) (by omega) (by omega),aA (n:=(k:Int) - 1) (by omega) (by omega)]
    refine ih _ ?_
    rw [show V*1000000+y=y+1000000*V by omega,show (k:Int) - 1=(d.length:Int) - ((i+1:Nat):Int) - 1 by omega]
   ·rintro _ again rfl
    unfold EI
    dsimp only
    rw [aF (by omega),Nat.sub_self,aeU,hval]
   ·rw [Nat.sub_zero,List.drop_length,Fe,show ((d.length:Int) - ((0:Nat):Int) - 1)=(d.length:Int) - 1 by omega]
  rw [loop _ (by omega),aG]
  dsimp only
  by_cases hn:z<0
  ·rw [aE hn,aA (by omega) (by omega)]
   congr 2;omega
  ·rw [aF hn]
   congr 2;omega
end Go.Md
