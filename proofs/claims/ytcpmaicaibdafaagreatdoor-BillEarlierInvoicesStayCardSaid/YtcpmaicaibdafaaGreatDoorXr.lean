/-
  Plain facts: products, powers, rounding; the order of strings; decimals. No condition.
-/
import Derived.Test.YtcpmaicaibdafaaGreatDoorXq
import Derived.Test.YtcpmaicaibdafaaGreatDoorXn
import Derived.Test.YtcpmaicaibdafaaGreatDoorXp
set_option linter.all false
namespace Go.Md
open Go.Dn
theorem Qw (a b:List Int):G7 a b=Dh a b:=rfl
theorem yb (x y:Int) (hx:x.natAbs<4294967296 ^ 99) (hy:y.natAbs<4294967296 ^ 99):pN (W x) (W y)=some (W (x+y),()):=by
 have hlx:=tZ hx
 have hly:=tZ hy
 unfold pN W
 dsimp only
 by_cases hs:decide (x<0)=decide (y<0)
 ·rw[show (decide (x<0)==decide (y<0))=true by simp[hs],acC,Qw]
  obtain⟨s,h1,h2,h3,h4⟩:=LH (br x.natAbs) (br y.natAbs) (fe _) (fe _) (by omega) (by omega)
  rw[h1,acn]
  dsimp only
  rw[mm _ _ h2 (by omega),acn,h3,eH,eH]
  simp only[acD] at hs
  show some (W _,())=some (W (x+y),())
  congr 3
  by_cases h:x<0
  ·simp only[h,acI,acO];omega
  ·simp only[h,acH,Z6,acL];omega
 ·rw[show (decide (x<0)==decide (y<0))=false by simp[hs],acB]
  obtain⟨c,h1,h2,h3⟩:=FC x.natAbs y.natAbs (by omega) (by omega)
  rw[h1,acn]
  dsimp only
  simp only[acD] at hs
  have hlen:∀ a b:Nat,b≤a→(br b).length≤(br a).length:=fun a b h=>by
   rcases ab3 (br a).length (br b).length with h' | h'
   ·have:=pI h';omega
   ·exact h'
  by_cases hc:c≥0
  ·rw[aC hc,Dy _ _ (fe _) (fe _) (by omega) (hlen _ _ (by omega)) (by rw[eH,eH];omega),acn]
   dsimp only
   rw[mm _ _ (fe _) (by have:=hlen x.natAbs (v32 (br x.natAbs) - v32 (br y.natAbs)).toNat (by rw[eH,eH];omega);omega),acn]
   rw[eH,eH,eH]
   show some (W _,())=some (W (x+y),())
   congr 3
   by_cases h:x<0
   ·simp only[h,acI,acO];omega
   ·simp only[h,acH,Z6,acL];omega
  ·rw[aB hc,Dy _ _ (fe _) (fe _) (by omega) (hlen _ _ (by omega)) (by rw[eH,eH];omega),acn]
   dsimp only
   rw[mm _ _ (fe _) (by have:=hlen y.natAbs (v32 (br y.natAbs) - v32 (br x.natAbs)).toNat (by rw[eH,eH];omega);omega),acn]
   rw[eH,eH,eH]
   show some (W _,())=some (W (x+y),())
   congr 3
   by_cases h:y<0
   ·simp only[h,acI,acO];omega
   ·simp only[h,acH,Z6,acL];omega
theorem DR (x y:Int) (hx:x.natAbs<4294967296 ^ 99) (hy:y.natAbs<4294967296 ^ 99):tw (W x) (W y)=some (W (x - y),()):=by
 unfold tw
 rw[Df y hy,acn]
 dsimp only
 rw[yb x (-y) hx (by omega),acn,Int.sub_eq_add_neg]
theorem Bb (x y:Int) (hx:x.natAbs<4294967296 ^ 99) (hy:y.natAbs<4294967296 ^ 99):oO (W x) (W y)=some ((x - y).sign,()):=by
 unfold oO
 rw[DR x y hx hy,acn]
 dsimp only
 rw[sE,acn]
theorem TZ {x y z c:Int} (hx:0≤x∧x<4294967296) (hy:0≤y∧y<4294967296) (hz:0≤z∧z<4294967296) (hc:0≤c∧c<4294967296):0≤x*y∧x*y≤18446744065119617025∧c+(z+x*y)≤18446744073709551615:=by
 have h1:0≤x*y:=aap hx.1 hy.1
 have h2:x*y≤4294967295*4294967295:=Int.mul_le_mul (by omega) (by omega) (by omega) (by omega)
 omega
theorem MD (i:Nat) (x:Int) (ga:List Int) (gn gi:Int) (b:List Int) (s1:Bool) (l1:List Int) (s2:Bool) (l2:List Int) (s3:Bool) (l3:List Int) (out:List Int) (hx:0≤x∧x<4294967296) (hb:Dg b) (hbl:b.length<10000) (hil:i<10000) (ho:i+b.length≤out.length) (hol:out.length<100000) (hd:Dg out) (n:Nat) (hn:b.length<n):
 ∃ o c,iter n (((i:Int),x,(0:Int),ga,gn,gi,b,(b.length:Int),(0:Int),s1,l1,s2,l2,s3,l3,out,()):nR) rI=some (Sum.inr ((i:Int),c,ga,gn,gi,s1,l1,s2,l2,s3,l3,o,()))∧
  Dg o∧o.length=out.length∧0≤c∧c<4294967296∧v32 o+4294967296 ^ (i+b.length)*c=v32 out+4294967296 ^ i*x*v32 b∧∀ j,i+b.length≤j→o[j]? =out[j]? :=by
 refine dR (Inv:=fun k X=>∃ o c,X=(((i:Int),x,c,ga,gn,gi,b,(b.length:Int),(k:Int),s1,l1,s2,l2,s3,l3,o,()):nR)∧Dg o∧o.length=out.length∧0≤c∧c<4294967296∧v32 o+4294967296 ^ (i+k)*c=v32 out+4294967296 ^ i*x*v32 (b.take k)∧∀ j,i+k≤j→o[j]? =out[j]?) b.length
  (fun r=>∃ o c,r=some (Sum.inr ((i:Int),c,ga,gn,gi,s1,l1,s2,l2,s3,l3,o,()))∧Dg o∧o.length=out.length∧0≤c∧c<4294967296∧v32 o+4294967296 ^ (i+b.length)*c=v32 out+4294967296 ^ i*x*v32 b∧∀ j,i+b.length≤j→o[j]? =out[j]?) ?_ ?_ n 0 _ ⟨out,0,rfl,hd,rfl,by omega,by omega,by simp[BZ],fun _ _=>rfl⟩ (by omega) (by omega)
 ·rintro k _ again hk ⟨o,c,rfl,h1,h2,h3,h4,h5,h6⟩ ih
  unfold rI
  dsimp only
  have hy:b[k]? =some b[k]:=bu hk
  have hyd:=hb.get hy
  have hts:=kj hy
  have hz:o[i+k]? =some (o[i+k]'(by omega)):=bu (by omega)
  have hzd:=h1.get hz
  generalize b[k]=y at hy hyd hts
  generalize o[i+k]'(by omega)=z at hz hzd
  obtain⟨m1,m2,m3⟩:=TZ hx hyd hzd ⟨h3,h4⟩
  have e1:w64 ((i:Int)+(k:Int))=((i+k:Nat):Int):=by rw[au (by omega) (by omega)];omega
  rw[aC (by omega),bS,hy,acn,e1,bq (by simp only[Z2,acG];omega),aay,hz,acn,bq (by simp only[Z2,acG];omega),acn,
   dW (n:=x) (by omega) (by omega),dW (n:=y) (by omega) (by omega),dW (n:=z) (by omega) (by omega),dW (n:=x*y) (by omega) (by omega),dW (n:=z+x*y) (by omega) (by omega),dW (n:=c+(z+x*y)) (by omega) (by omega),B7,Sj,au (n:=(k:Int)+1) (by omega) (by omega)]
  generalize ht:c+(z+x*y)=t at*
  refine ih _ ⟨_,_,rfl,h1.set (by omega),by rw[abi];exact h2,by omega,by omega, ?_,fun j hj=> ?_⟩
  ·rw[Mc hz,hts]
   have e2:(4294967296:Int) ^ (i+(k+1))=4294967296 ^ i*4294967296 ^ k*4294967296:=by rw[← abO,aau,Int.pow_add]
   have e3:(4294967296:Int) ^ (i+k)=4294967296 ^ i*4294967296 ^ k:=Int.pow_add ..
   rw[e3] at h5
   rw[e2,e3]
   have e4:=Int.mul_ediv_add_emod t 4294967296
   generalize (4294967296:Int) ^ i=p at*
   generalize (4294967296:Int) ^ k=q at*
   generalize t / 4294967296=d at*
   generalize t % 4294967296=r at*
   grind
  ·rw[aa7 (by omega)];exact h6 j (by omega)
 ·rintro _ again ⟨o,c,rfl,h1,h2,h3,h4,h5,h6⟩
  unfold rI
  dsimp only
  rw[aB (by omega)]
  rw[abM (abX _)] at h5
  exact⟨o,c,rfl,h1,h2,h3,h4,h5,h6⟩
theorem ME (a b:List Int) (ha:Dg a) (hb:Dg b) (hal:a.length<1000) (hbl:b.length<1000) (s1 s2 s3:Bool) (l3:List Int) (n:Nat) (hn:a.length<n):
 ∃ o,iter n ((a,(a.length:Int),(0:Int),s1,a,s2,b,s3,l3,List.replicate (a.length+b.length) 0,()):nQ) rH=some (Sum.inr (s1,a,s2,b,s3,l3,o,()))∧Dg o∧o.length=a.length+b.length∧v32 o=v32 a*v32 b:=by
 refine dR (Inv:=fun i X=>∃ o,X=((a,(a.length:Int),(i:Int),s1,a,s2,b,s3,l3,o,()):nQ)∧Dg o∧o.length=a.length+b.length∧v32 o=v32 (a.take i)*v32 b∧∀ j,i+b.length≤j→j<a.length+b.length→o[j]? =some 0) a.length
  (fun r=>∃ o,r=some (Sum.inr (s1,a,s2,b,s3,l3,o,()))∧Dg o∧o.length=a.length+b.length∧v32 o=v32 a*v32 b) ?_ ?_ n 0 _ ⟨_,rfl,fun d hd=>by rw[List.mem_replicate] at hd;omega,by simp,by rw[JK];simp[BZ],fun j _ hj=>by rw[aa5,acN hj]⟩ (by omega) (by omega)
 ·rintro i _ again hi ⟨o,rfl,h1,h2,h3,h4⟩ ih
  unfold rH
  dsimp only
  have hy:a[i]? =some a[i]:=bu hi
  have hyd:=ha.get hy
  have hts:=kj hy
  generalize a[i]=x at hy hyd hts
  rw[aC (by omega),bS,hy,acn]
  obtain⟨o',c,k1,k2,k3,k4,k5,k6,k7⟩:=MD i x a (a.length:Int) (i:Int) b s1 a s2 b s3 l3 o hyd hb (by omega) (by omega) (by omega) (by omega) h1 (Int.natAbs (i:Int)+(Int.natAbs x+(Int.natAbs (0:Int)+(List.length a+(Int.natAbs (a.length:Int)+(Int.natAbs (i:Int)+(List.length b+(Int.natAbs ((List.length b:Int))+(Int.natAbs (0:Int)+(List.length a+(List.length b+(List.length l3+(List.length o+2))))))))))))) (by omega)
  rw[k1,bg]
  dsimp only
  have e1:w64 ((i:Int)+(b.length:Int))=((i+b.length:Nat):Int):=by rw[au (by omega) (by omega)];omega
  have hz:o'[i+b.length]? =some 0:=by rw[k7 _ (abX _)];exact h4 _ (abX _) (by omega)
  rw[e1,bq (by simp only[Z2,acG];omega),aay,hz,acn,B6 (by omega) (by omega),au (n:=(i:Int)+1) (by omega) (by omega)]
  refine ih _ ⟨_,rfl,k2.set (by omega),by rw[abi];omega, ?_,fun j hj hj2=> ?_⟩
  ·rw[Mc hz,hts]
   have e3:(4294967296:Int) ^ (i+b.length)=4294967296 ^ i*4294967296 ^ b.length:=Int.pow_add ..
   rw[e3] at k6 ⊢
   grind
  ·rw[aa7 (by omega),k7 j (by omega)];exact h4 j (by omega) hj2
 ·rintro _ again ⟨o,rfl,h1,h2,h3,h4⟩
  unfold rH
  dsimp only
  rw[aB (by omega)]
  rw[abM (abX _)] at h3
  exact⟨o,rfl,h1,h2,h3⟩
theorem lg (x y:Int) (hx:x.natAbs<4294967296 ^ 99) (hy:y.natAbs<4294967296 ^ 99):iJ (W x) (W y)=some (W (x*y),()):=by
 have hlx:=tZ hx
 have hly:=tZ hy
 unfold iJ W
 dsimp only
 have e1:w64 (((br x.natAbs).length:Int)+((br y.natAbs).length:Int))=(((br x.natAbs).length+(br y.natAbs).length:Nat):Int):=by rw[au (by omega) (by omega)];omega
 rw[e1,bq (by simp only[Z2,acG];omega)]
 obtain⟨o,h1,h2,h3,h4⟩:=ME (br x.natAbs) (br y.natAbs) (fe _) (fe _) (by omega) (by omega) (decide (x<0)) (decide (y<0)) false [] (List.length (br x.natAbs)+(Int.natAbs ((List.length (br x.natAbs):Int))+(Int.natAbs (0:Int)+(List.length (br x.natAbs)+(List.length (br y.natAbs)+(List.length ([]:List Int)+(List.length ((List.replicate (Int.toNat (((br x.natAbs).length+(br y.natAbs).length:Nat):Int)) 0):List Int)+2))))))) (by omega)
 rw[aay] at h1 ⊢
 rw[h1,bg]
 dsimp only
 rw[mm _ _ h2 (by omega),acn,h4,eH,eH]
 show some (W _,())=some (W (x*y),())
 congr 3
 rw[← Int.natCast_mul, ← aaq]
 by_cases h:x<0<;>by_cases h':y<0
 ·have:=Int.mul_pos_of_neg_of_neg h h'
  simp[h,h'];omega
 ·have:=aap (show 0≤ -x by omega) (show 0≤y by omega)
  rw[Int.neg_mul] at this
  simp[h,h'];omega
 ·have:=aap (show 0≤x by omega) (show 0≤ -y by omega)
  rw[Int.mul_neg] at this
  simp[h,h'];omega
 ·have:=aap (show 0≤x by omega) (show 0≤y by omega)
  simp[h,h'];omega
end Go.Md
namespace Go.Md
open Go.Dn
def Le (k:Nat) (z:Int):Prop:=z.natAbs≤10 ^ k
theorem Le.mul {a b:Nat} {x y:Int} (hx:Le a x) (hy:Le b y):Le (a+b) (x*y):=by
 unfold Le at*
 rw[aaq,acf]
 exact Nat.mul_le_mul hx hy
theorem Le.mono {a b:Nat} {x:Int} (hx:Le a x) (h:a≤b):Le b x:=abY hx (acg (by omega) h)
theorem Le.add {a:Nat} {x y:Int} (hx:Le a x) (hy:Le a y):Le (a+1) (x+y):=by
 unfold Le at*
 rw[ach]
 omega
theorem Le.neg {a:Nat} {x:Int} (hx:Le a x):Le a (-x):=by unfold Le at *;omega
theorem Le.w {k:Nat} {z:Int} (h:Le k z) (hk:k≤900):z.natAbs<4294967296 ^ 99:=
 ab1 (h.mono hk) (by decide +kernel)
theorem Le.n {k:Nat} {z:Int} (h:Le k z) (hk:k≤500):(dg6 z.natAbs).length<90:=by
 have:=Yk (k:=84) (n:=z.natAbs) (ab1 (h.mono hk) (by decide +kernel))
 omega
theorem Le.pow (n:Nat):Le n (10 ^ n):=by
 unfold Le
 rw[Int.natAbs_pow];exact abX _
theorem Le.int {n:Int} (h1: -9223372036854775808≤n) (h2:n≤9223372036854775807):Le 19 n:=by unfold Le;omega
theorem Le.succ {k n:Nat} (h:Le k (n:Int)):Le (k+1) ((n+1:Nat):Int):=by
 unfold Le at*
 rw[ach]
 have:1≤10 ^ k:=Nat.pow_pos (by omega)
 omega
theorem Qt (n:Nat) (hn:n≤60):Ck (n:Int)=some (W (10 ^ n),()):=by
 unfold Ck
 rw[nr 1 (by omega) (by omega),acn]
 dsimp only
 have loop:∀ (f:Nat),n<f→iter f (((n:Int),(0:Int),false,([]:List Int),(W 1).1,(W 1).2,()):tC) xJ=some (Sum.inr (false,[],(W (10 ^ n)).1,(W (10 ^ n)).2,())):=by
  intro f hf
  refine dR (Inv:=fun i X=>X=(((n:Int),(i:Int),false,([]:List Int),(W (10 ^ i)).1,(W (10 ^ i)).2,()):tC)) n (fun r=>r=some (Sum.inr (false,[],(W (10 ^ n)).1,(W (10 ^ n)).2,()))) ?_ ?_ f 0 _ rfl (by omega) (by omega)
  ·rintro i _ again hi rfl ih
   unfold xJ
   dsimp only
   rw[aC (by omega),nr 10 (by omega) (by omega),acn]
   dsimp only
   rw[lg (10 ^ i) 10 ((Le.pow i).w (by omega)) ((Le.int (n:=10) (by omega) (by omega)).w (by omega)),acn,au (by omega) (by omega)]
   refine ih _ ?_
   rw[aau]
   rfl
  ·rintro _ again rfl
   unfold xJ
   dsimp only
   rw[aB (by omega)]
 rw[loop _ (by omega),bg]
theorem Na (d:ah) (p:Int) (h1: -9223372036854775808≤d.1) (h2:d.1≤9223372036854775807) (hp0:0≤p - d.2) (hp:p - d.2≤60) (hd: -1000≤d.2∧d.2≤1000):yN d p=some (W (d.1*10 ^ (p - d.2).toNat),()):=by
 unfold yN
 rw[nr _ h1 h2,acn,au (by omega) (by omega)]
 obtain⟨n,hn⟩:∃ n:Nat,p - d.2=n:=⟨(p - d.2).toNat,by omega⟩
 rw[hn,Qt n (by omega),acn]
 dsimp only
 rw[lg _ _ ((Le.int h1 h2).w (by omega)) ((Le.pow n).w (by omega)),acn,aay]
end Go.Md
namespace Go.Md
open Go.Dn
end Go.Md
namespace Go.Md
open Go.Dn
end Go.Md
namespace Go.Md
open Go.Dn
theorem sO:∀ a:Bys,Op.bytesLess a a=false
 | []=>rfl
 | x::a=>by simp[Op.bytesLess,sO a]
theorem Kj:∀ {a b:Bys},Lib.compareBytes a b=0↔a=b
 | [],[]=>by simp[Lib.compareBytes]
 | [],_::_=>by simp[Lib.compareBytes]
 | _::_,[]=>by simp[Lib.compareBytes]
 | x::a,y::b=>by
  simp only[Lib.compareBytes,List.cons.injEq]
  by_cases h1:x<y
  ·simp only[h1,acO]
   constructor
   ·intro h;omega
   ·rintro⟨rfl,_⟩;exact absurd h1 (UInt8.lt_irrefl x)
  ·by_cases h2:y<x
   ·simp only[h1,h2,acO,acL]
    constructor
    ·intro h;omega
    ·rintro⟨rfl,_⟩;exact absurd h2 (UInt8.lt_irrefl x)
   ·have:x=y:=UInt8.le_antisymm (acv.1 h2) (acv.1 h1)
    subst this
    simp only[h1,acL,true_and]
    exact Kj
theorem Iq:∀ {a b:Bys},Lib.compareBytes a b<0↔Op.bytesLess a b=true
 | [],[]=>by simp[Lib.compareBytes,Op.bytesLess]
 | [],_::_=>by simp[Lib.compareBytes,Op.bytesLess]
 | _::_,[]=>by simp[Lib.compareBytes,Op.bytesLess]
 | x::a,y::b=>by
  have ih:= @Iq a b
  simp only[Lib.compareBytes,Op.bytesLess]
  by_cases h1:x<y
  ·simp[h1]
  ·by_cases h2:y<x
   ·have hne:¬ x=y:=fun e=>by subst e;exact absurd h2 (UInt8.lt_irrefl x)
    simp[h1,h2,hne]
   ·have:x=y:=UInt8.le_antisymm (acv.1 h2) (acv.1 h1)
    subst this
    simp[h1,ih]
theorem Ce:∀ {a b c:Bys},Op.bytesLess a b=true→Op.bytesLess b c=true→Op.bytesLess a c=true
 | [],[],_,h,_=>by simp[Op.bytesLess] at h
 | [],_::_,[],_,h=>by simp[Op.bytesLess] at h
 | [],_::_,_::_,_,_=>rfl
 | _::_,[],_,h,_=>by simp[Op.bytesLess] at h
 | _::_,_::_,[],_,h=>by simp[Op.bytesLess] at h
 | x::a,y::b,z::c,h,k=>by
  simp only[Op.bytesLess,aaf,Z2,acG,acz] at h k ⊢
  rcases h with h | ⟨rfl,h⟩
  ·rcases k with k | ⟨rfl,k⟩
   ·exact .inl (UInt8.lt_trans h k)
   ·exact .inl h
  ·rcases k with k | ⟨rfl,k⟩
   ·exact .inl k
   ·exact .inr ⟨rfl,Ce h k⟩
theorem VL (a b:Bys):Op.bytesLess a b=true∨a=b∨Op.bytesLess b a=true:=by
 induction a generalizing b with
 | nil=>cases b with
  | nil=>simp
  | cons y b=>simp[Op.bytesLess]
 | cons x a ih=>cases b with
  | nil=>simp[Op.bytesLess]
  | cons y b=>
   simp only[Op.bytesLess,aaf,Z2,acG,acz,List.cons.injEq]
   by_cases h1:x<y
   ·simp[h1]
   ·by_cases h2:y<x
    ·simp[h2]
    ·have:x=y:=UInt8.le_antisymm (acv.1 h2) (acv.1 h1)
     subst this
     rcases ih b with h | h | h<;>simp[h]
def Asc {α:Type} (key:α→Bys) (l:List α):Prop:=∀ (i j:Nat) (x y:α),i<j→l[i]? =some x→l[j]? =some y→Op.bytesLess (key x) (key y)=true
def rM {α:Type} (key:α→Bys) (t:Bys) (l:List α):Option Nat:=l.findIdx? (fun r=>key r==t)
theorem Gm {α:Type} {key:α→Bys} {t:Bys} {l:List α} {k:Nat} (h:rM key t l=some k):∃ x,l[k]? =some x∧key x=t:=by
 unfold rM at h
 rw[List.findIdx?_eq_some_iff_getElem] at h
 obtain⟨h1,h2,_⟩:=h
 exact⟨_,aa0 h1,by simpa using h2⟩
theorem Wk {α:Type} {key:α→Bys} {t:Bys} {l:List α} (h:rM key t l=none):∀ x∈l,key x≠t:=by
 unfold rM at h
 rw[List.findIdx?_eq_none_iff] at h
 intro x hx e
 have:=h x hx
 simp[e] at this
theorem Yq {α:Type} {key:α→Bys} {t:Bys} {l:List α} (hs:Asc key l) {k:Nat} {x:α} (hk:l[k]? =some x) (hx:key x=t):rM key t l=some k:=by
 cases h:rM key t l with
 | none=>exact absurd hx (Wk h x (abw hk))
 | some j=>
  obtain⟨y,h1,h2⟩:=Gm h
  rcases ab5 j k with hlt | rfl | hlt
  ·have:=hs j k y x hlt h1 hk
   rw[h2,hx,sO] at this;cases this
  ·rfl
  ·have:=hs k j x y hlt hk h1
   rw[h2,hx,sO] at this;cases this
theorem R7 (l:List bD) (t:Bys) (hl:l.length<1000000000) (hs:Asc (·.1) l):
 ∃ i:Nat,dY l t ()=some ((i:Int),(rM (·.1) t l).isSome,())∧∀ k,rM (·.1) t l=some k→i=k:=by
 unfold dY
 have loop:∀ f,l.length<f→∃ i:Nat,iter f ((l,t,(),(l.length:Int),(0:Int),(l.length:Int),()):cq) gw=some (Sum.inr (l,t,(),(l.length:Int),(i:Int),()))∧i≤l.length∧(∀ k x,l[k]? =some x→k<i→Op.bytesLess x.1 t=true)∧∀ k x,l[k]? =some x→i≤k→Op.bytesLess x.1 t=false:=by
  intro f hf
  refine KV (Inv:=fun X=>∃ i j:Nat,X=((l,t,(),(l.length:Int),(i:Int),(j:Int),()):cq)∧i≤j∧j≤l.length∧(∀ k x,l[k]? =some x→k<i→Op.bytesLess x.1 t=true)∧∀ k x,l[k]? =some x→j≤k→Op.bytesLess x.1 t=false)
   (fun X=>(X.2.2.2.2.2.1 - X.2.2.2.2.1).toNat)
   (fun _ r=>∃ i:Nat,r=some (Sum.inr (l,t,(),(l.length:Int),(i:Int),()))∧i≤l.length∧(∀ k x,l[k]? =some x→k<i→Op.bytesLess x.1 t=true)∧∀ k x,l[k]? =some x→i≤k→Op.bytesLess x.1 t=false) ?_ f _ ⟨0,l.length,rfl,by omega,by omega,fun _ _ _ h=>absurd h (acd _),fun k x hk hle=>by have:=(aa2.1 hk).1;omega⟩ (by dsimp only;omega)
  rintro _ again ⟨i,j,rfl,hij,hj,h1,h2⟩ ih
  dsimp only at ih
  unfold gw
  dsimp only
  by_cases hlt:i<j
  ·rw[aC (by omega)]
   have em:w64 (Int.fdiv (bT (w64 ((i:Int)+(j:Int)))) (2 ^ 1))=(((i+j) / 2:Nat):Int):=by
    rw[au (n:=(i:Int)+(j:Int)) (by omega) (by omega),dW (by omega) (by omega),aaj _ (by omega),au (by omega) (by omega)]
    omega
   rw[em]
   have hm:(i+j) / 2<l.length:=by omega
   have hy:l[(i+j) / 2]? =some l[(i+j) / 2]:=bu hm
   have hmi:i≤(i+j) / 2∧(i+j) / 2<j:=by omega
   generalize (i+j) / 2=m at*
   generalize l[m]=y at hy
   rw[bS,hy,acn]
   show ∃ i,Option.bind (Option.bind (some (Lib.compareBytes y.1 t,())) fun r1=>some (r1.1,())) _=_∧_
   rw[acn,acn]
   dsimp only
   by_cases hc:Lib.compareBytes y.1 t<0
   ·rw[aC hc,au (by omega) (by omega)]
    refine ih _ ⟨m+1,j,rfl,by omega,hj,fun k x hk hkm=> ?_,h2⟩ (by dsimp only;omega)
    rcases Nat.lt_succ_iff_lt_or_eq.1 hkm with h | h
    ·have:=hs k m x y h hk hy
     exact Ce this (Iq.1 hc)
    ·subst h;rw[hy] at hk;cases hk;exact Iq.1 hc
   ·rw[aB hc]
    refine ih _ ⟨i,m,rfl,by omega,by omega,h1,fun k x hk hkm=> ?_⟩ (by dsimp only;omega)
    have hc':Op.bytesLess y.1 t=false:=by
     cases h:Op.bytesLess y.1 t with
     | false=>rfl
     | true=>exact absurd (Iq.2 h) hc
    rcases Nat.lt_or_eq_of_le hkm with h | h
    ·cases hx:Op.bytesLess x.1 t with
     | false=>rfl
     | true=>rw[Ce (hs m k y x h hy hk) hx] at hc';cases hc'
    ·subst h;rw[hy] at hk;cases hk;exact hc'
  ·rw[aB (by omega)]
   have:i=j:=by omega
   subst this
   exact⟨i,rfl,hj,h1,h2⟩
 obtain⟨i,h1,h2,h3,h4⟩:=loop (List.length l+(List.length t+(Int.natAbs ((List.length l:Int))+(Int.natAbs (0:Int)+(Int.natAbs ((List.length l:Int))+2))))) (by omega)
 refine⟨i, ?_,fun k hk=> ?_⟩
 ·rw[h1,bg]
  dsimp only
  by_cases hi:i<l.length
  ·have hy:l[i]? =some l[i]:=bu hi
   generalize l[i]=y at hy
   rw[aC (by omega),bS,hy,acn]
   show Option.bind (Option.bind (some (Lib.compareBytes y.1 t,())) fun r1=>some (r1.1,())) _=_
   rw[acn,acn]
   congr 3
   by_cases he:y.1=t
   ·rw[Yq hs hy he,Kj.2 he];rfl
   ·have hne:¬ Lib.compareBytes y.1 t=0:=fun h=>he (Kj.1 h)
    rw[show (Lib.compareBytes y.1 t==0)=false by simpa using hne]
    cases hx:rM (·.1) t l with
    | none=>rfl
    | some k=>
     exfalso
     obtain⟨x,k1,k2⟩:=Gm hx
     rcases ab5 k i with h | h | h
     ·have:=h3 k x k1 h;rw[k2,sO] at this;cases this
     ·subst h;rw[hy] at k1;cases k1;exact he k2
     ·have:=hs i k y x h hy k1
      dsimp only at this
      rw[k2,h4 i y hy (abX _)] at this;cases this
  ·rw[aB (by omega)]
   congr 3
   cases hx:rM (·.1) t l with
   | none=>rfl
   | some k=>
    exfalso
    obtain⟨x,k1,k2⟩:=Gm hx
    have:=h3 k x k1 (by have:=(aa2.1 k1).1;omega)
    rw[k2,sO] at this;cases this
 ·obtain⟨x,k1,k2⟩:=Gm hk
  rcases ab5 k i with h | h | h
  ·have:=h3 k x k1 h;rw[k2,sO] at this;cases this
  ·exact h.symm
  ·have hy:l[i]? =some (l[i]'(by have:=(aa2.1 k1).1;omega)):=bu _
   have:=hs i k _ x h hy k1
   dsimp only at this
   rw[k2,h4 i _ hy (abX _)] at this;cases this
theorem PA (l:List bD) (t:Bys) (hl:l.length<1000000000) (hs:Asc (·.1) l):
 ∃ i:Nat,Cd l t=some ((i:Int),(rM (·.1) t l).isSome,())∧∀ k,rM (·.1) t l=some k→i=k:=by
 obtain⟨i,h1,h2⟩:=R7 l t hl hs
 exact⟨i,by unfold Cd;rw[h1,acn],h2⟩
theorem F4 (v:aj) (t:Bys) (hl:v.2.2.2.2.2.2.1.length<1000000000) (hs:Asc (·.1) v.2.2.2.2.2.2.1):jM v t=some ((rM (·.1) t v.2.2.2.2.2.2.1).isSome,()):=by
 obtain⟨i,h1,h2⟩:=PA v.2.2.2.2.2.2.1 t hl hs
 unfold jM
 rw[h1,acn]
end Go.Md
namespace Go.Md
open Go.Dn
instance (d:ah):Decidable (fq d):=by unfold fq;exact inferInstance
def inR (d:ah) (lo hi pl:Int):Bool:=decide (fq d∧d.2≤pl∧lo*10 ^ d.2.toNat≤d.1∧d.1≤hi*10 ^ d.2.toNat)
theorem jr (d:ah):bY d=some (if fq d then 0 else 1,()):=by
 rw[yc]
 congr 2
 by_cases h:fq d
 ·rw[acN h,acN (by unfold fq at h;omega)]
 ·rw[acM h,acM (by unfold fq at h;omega)]
theorem tT {d:ah} (h:fq d) (most:Int) (hm0:0≤most) (hm1:most≤1000000000):fA d most=some (inR d (-most) most 9,()):=by
 rw[F3 d most h.2.1 h.2.2 hm0 hm1]
 unfold inR
 congr 2
 rw[acD,Int.neg_mul]
 constructor
 ·rintro⟨h1,h2⟩;exact⟨h,h.2.2,h1,h2⟩
 ·rintro⟨_,_,h1,h2⟩;exact⟨h1,h2⟩
def Xo (pl:Int) (rates:List bD) (line:Bool) (x:ew):Int:=
 if fq x.2.1 then
  (if x.2.1.1=0 then 13
  else if (if x.1=true then inR x.2.1 (-100) 100 9 else inR x.2.1 (-1000000000) 1000000000 pl)=true then
   (if x.2.2=[] then 0 else if line=true then 3 else if (rM (·.1) x.2.2 rates).isSome=true then 0 else 5)
  else 1)
 else 1
def xu (pl:Int) (rates:List bD) (line:Bool) (l:List ew):Int:=if 20<l.length then 2 else eo (fun _ x=>Xo pl rates line x) 0 l
theorem X4 {γ:Type} (s:Int) (u:γ):aM (β:=Int×Unit) (γ:=γ) (if s=0 then some (Sum.inr u) else some (Sum.inl (s,()))) (fun _=>some (0,()))=some (s,()):=by
 by_cases h:s=0
 ·rw[acN h,bg,h]
 ·rw[acM h,pJ]
theorem Wi {d:ah} {lo hi pl:Int} (h:fq d):inR d lo hi pl=(inR d lo hi 9&&decide (d.2≤pl)):=by
 unfold inR
 rw[← Z5,acD]
 constructor
 ·rintro⟨h1,h2,h3⟩;exact⟨⟨h1,h.2.2,h3⟩,h2⟩
 ·rintro⟨⟨h1,_,h3⟩,h2⟩;exact⟨h1,h2,h3⟩
theorem IM {X α:Type} {γ:Type} {f:X→(X→Option ((Int×Unit) ⊕ γ))→Option ((Int×Unit) ⊕ γ)} {x0:X} (mk:Nat→X) (l:List α) (g:Nat→α→Int) (u:γ) (h0:x0=mk 0)
 (hstep:∀ i y again,l[i]? =some y→f (mk i) again=if g i y=0 then again (mk (i+1)) else some (Sum.inl (g i y,()))) (hend:∀ again,f (mk l.length) again=some (Sum.inr u)) (n:Nat) (hn:l.length<n):
 iter n x0 f=if eo g 0 l=0 then some (Sum.inr u) else some (Sum.inl (eo g 0 l,())):=by
 rw[h0];exact Gl mk l g u hstep hend l 0 n rfl (acj _) hn
theorem Bq (v:aj) (l:List ew) (line:Bool) (hl:v.2.2.2.2.2.2.1.length<1000000000) (hs:Asc (·.1) v.2.2.2.2.2.2.1):kz v l line=some (xu v.2.2.2.1 v.2.2.2.2.2.2.1 line l,()):=by
 unfold kz xu
 by_cases hb:20<l.length
 ·rw[aC (by omega),acN hb]
 ·rw[aB (by omega),acM hb]
  obtain⟨a,b,c,d,e,f,g,h,k⟩:=v
  dsimp only at*
  have hR:∀ t,jM (a,b,c,d,e,f,g,h,k) t=some ((rM (·.1) t g).isSome,()):=fun t=>F4 _ t hl hs
  rw[IM (f:=qm) (fun i=>((line,l,(l.length:Int),(i:Int),a,b,c,d,e,f,g,h,k,()):qo)) l (fun _ x=>Xo d g line x) () ?_ ?_ ?_ _ ?_]
  ·exact X4 _ _
  ·rfl
  ·intro i y again hy
   have hi:=(aa2.1 hy).1
   unfold qm
   dsimp only
   rw[aC (by omega),bS,hy,acn,jr,acn]
   have hw:w64 ((i:Int)+1)=(i:Int)+1:=au (by omega) (by omega)
   unfold Xo
   by_cases hd:fq y.2.1
   ·rw[acN hd,zne,acB,acN hd]
    by_cases h0:y.2.1.1=0
    ·rw[show (y.2.1.1==0)=true by simpa using h0,acC,acN h0];rfl
    ·rw[show (y.2.1.1==0)=false by simpa using h0,acB,acM h0]
     rw[tT hd 100 (by omega) (by omega),tT hd 1000000000 (by omega) (by omega),Wi (pl:=d) hd]
     have hgt:decide (y.2.1.2>d)= !decide (y.2.1.2≤d):=by
      by_cases hq:y.2.1.2≤d
      ·simp[hq]
      ·simp[hq];omega
     have hnil:∀ (s:Bys),(s==[])=decide (s=[]):=fun s=>by cases s<;>rfl
     simp only[hR,acn,hgt,hnil]
     generalize inR y.2.1 (-100) 100 9=b1
     generalize inR y.2.1 (-1000000000) 1000000000 9=b2
     generalize decide (y.2.1.2≤d)=b3
     generalize y.1=p
     by_cases hn:y.2.2=[]
     ·cases p<;>cases b1<;>cases b2<;>cases b3<;>cases line<;>simp[aM,hw,hnil,hn,hR]
     ·cases h4:(rM (fun x:bD=>x.1) y.2.2 g).isSome<;>cases p<;>cases b1<;>cases b2<;>cases b3<;>cases line<;>simp[aM,hw,hnil,hn,hR,h4]
   ·rw[acM hd,acM hd];rfl
  ·intro again
   unfold qm
   dsimp only
   rw[aB (by omega)]
  ·omega
end Go.Md
namespace Go.Md
open Go.Dn
theorem LX {α:Type} (l:List α):((l.length:Int)==0)=decide (l.length=0):=by
 cases l with
 | nil=>rfl
 | cons a r=>rw[show decide ((a::r).length=0)=false by simp,acy];simp only[abe];omega
def H9 (l:List bD) (i:Nat) (y:bD):Bool:=match i with
 | 0=>false
 | i+1=>match l[i]? with
  | some p=>Op.bytesLess y.1 p.1||y.1==p.1
  | none=>false
def Pd (l:List bD) (i:Nat) (r:bD):Int:=if cz r.1=false then 5 else if H9 l i r=true then 8 else if inR r.2 0 100 9=true then 0 else 1
def wK (l:List bD):Int:=if l.length=0 then 9 else if 20<l.length then 2 else eo (Pd l) 0 l
theorem Tr {l:List bD} (h:∀ i y,l[i]? =some y→H9 l i y=false):Asc (·.1) l:=by
 have step:∀ i x y,l[i]? =some x→l[i+1]? =some y→Op.bytesLess x.1 y.1=true:=fun i x y hx hy=>by
  have:=h (i+1) y hy
  simp only[H9,hx,aae,acy] at this
  rcases VL x.1 y.1 with h1 | h1 | h1
  ·exact h1
  ·exact absurd h1.symm this.2
  ·rw[this.1] at h1;cases h1
 intro i j x y hij hx hy
 induction j generalizing y with
 | zero=>omega
 | succ j ih=>
  rcases Nat.lt_succ_iff_lt_or_eq.1 hij with h1 | h1
  ·have hj:j<l.length:=by have:=(aa2.1 hy).1;omega
   have hz:l[j]? =some l[j]:=bu hj
   exact Ce (ih _ h1 hz) (step j _ y hz hy)
  ·subst h1;exact step i x y hx hy
theorem MX {l:List bD} (h:wK l=0):0<l.length∧l.length≤20∧Asc (·.1) l∧∀ r∈l,inR r.2 0 100 9=true:=by
 unfold wK at h
 split at h
 ·omega
 ·split at h
  ·omega
  ·have hz:=A6 h
   refine⟨by omega,by omega,Tr fun i y hy=> ?_,fun r hr=> ?_⟩
   ·have:=hz i y hy
    rw[aci] at this
    unfold Pd at this
    split at this
    ·omega
    ·split at this
     ·omega
     ·rename_i h1;simpa using h1
   ·obtain⟨i,hi⟩:=abu.1 hr
    have:=hz i r hi
    rw[aci] at this
    unfold Pd at this
    split at this
    ·omega
    ·split at this
     ·omega
     ·split at this
      ·assumption
      ·omega
theorem Va {d:ah} (h:fq d) (hi:Int):inR d 0 hi 9=(!decide (d.1<0)&&inR d (-hi) hi 9):=by
 have hp:=tM d.2.toNat
 unfold inR
 rw[← decide_not, ← Z5,acD]
 constructor
 ·rintro⟨h1,h2,h3,h4⟩
  rw[Int.zero_mul] at h3
  refine⟨by omega,h1,h2, ?_,h4⟩
  rw[Int.neg_mul]
  have:0≤hi*10 ^ d.2.toNat:=by omega
  omega
 ·rintro⟨h0,h1,h2,h3,h4⟩
  exact⟨h1,h2,by rw[Int.zero_mul];omega,h4⟩
theorem XF {l:List bD} {i:Nat} (hi:i+1<l.length+1) (hl:l.length<1000000000):idx l (w64 (((i+1:Nat):Int) - 1))=l[i]? :=by
 rw[au (by omega) (by omega),show ((i+1:Nat):Int) - 1=((i:Nat):Int) by omega,bS]
theorem Ka (l:List bD) (hl:l.length<1000000000):nY l=some (wK l,()):=by
 unfold nY wK
 by_cases h0:l.length=0
 ·rw[LX,acF h0,acC,acN h0]
 ·rw[LX,acE h0,acB,acM h0]
  by_cases hb:20<l.length
  ·rw[aC (by omega),acN hb]
  ·rw[aB (by omega),acM hb]
   rw[IM (f:=qS) (fun i=>((l,l,(l.length:Int),(i:Int),()):qT)) l (Pd l) () ?_ ?_ ?_ _ ?_]
   ·exact X4 _ _
   ·rfl
   ·intro i y again hy
    have hi:=(aa2.1 hy).1
    unfold qS
    dsimp only
    rw[aC (by omega),bS,hy,acn,mh,acn,au (n:=(i:Int)+1) (by omega) (by omega)]
    unfold Pd
    cases hn:cz y.1 with
    | false=>simp
    | true=>
     have tail:(Option.bind (bY y.2) fun r5=>bif r5.1 != 0 then some (Sum.inl (r5.1,())) else bif decide (y.2.1<0) then some (Sum.inl (1,())) else Option.bind (fA y.2 100) fun r6=>bif !r6.1 then some (Sum.inl (1,())) else again (l,l,(l.length:Int),(i:Int)+1,()))=if (if inR y.2 0 100 9=true then (0:Int) else 1)=0 then again (l,l,(l.length:Int),((i+1:Nat):Int),()) else some (Sum.inl (1,())):=by
      rw[jr,acn]
      by_cases hd:fq y.2
      ·rw[Va hd 100,tT hd 100 (by omega) (by omega)]
       generalize inR y.2 (-100) 100 9=b
       by_cases hneg:y.2.1<0
       ·simp[hd,hneg]
       ·cases b<;>simp[hd,hneg]
      ·have:inR y.2 0 100 9=false:=by unfold inR;simp[hd]
       simp[hd,this]
     simp only[aad,acB,aag,acL]
     cases i with
     | zero=>
      rw[aB (by omega),tail]
      simp only[H9,Z6,acL]
      split<;>simp_all
     | succ i=>
      have hp:l[i]? =some (l[i]'(by omega)):=bu (by omega)
      rw[aC (by omega),XF (by omega) hl,hp,acn]
      have ep:H9 l (i+1) y=(Op.bytesLess y.1 (l[i]'(by omega)).1||y.1==(l[i]'(by omega)).1):=by simp only[H9,hp]
      rw[ep]
      cases (Op.bytesLess y.1 (l[i]'(by omega)).1||y.1==(l[i]'(by omega)).1) with
      | true=>simp
      | false=>
       simp only[acB]
       rw[tail]
       simp only[Z6,acL]
       split<;>simp_all
   ·intro again
    unfold qS
    dsimp only
    rw[aB (by omega)]
   ·omega
def S6 (l:List aT) (i:Nat) (y:aT):Bool:=match i with
 | 0=>false
 | i+1=>match l[i]? with
  | some p=>decide (y.1≤p.1)
  | none=>false
def Gn (pl:Int) (rates:List bD) (lines:List aT) (i:Nat) (x:aT):Int:=
 if x.1<1∨99999<x.1 then 1
 else if S6 lines i x=true then 8
 else if x.2.1<1∨99999<x.2.1 then 1
 else if cz x.2.2.1=false then 5
 else if inR x.2.2.2.1 (-1000000000) 1000000000 3=false then 1
 else if x.2.2.2.1.1=0 then 13
 else if cz x.2.2.2.2.1=false then 5
 else if inR x.2.2.2.2.2.1 0 1000000000 4=false then 1
 else if x.2.2.2.2.2.2.1<1∨100000<x.2.2.2.2.2.2.1 then 1
 else if xu pl rates true x.2.2.2.2.2.2.2.1≠0 then xu pl rates true x.2.2.2.2.2.2.2.1
 else if (rM (·.1) x.2.2.2.2.2.2.2.2 rates).isSome=true then 0 else 5
theorem BR (n:Int) (h0:0≤n) (h1:n≤18):Cg n=some (10 ^ n.toNat,()):=yS n h0 h1
theorem vo (d:ah):kE d=some (if inR d 0 1000000000 4=true then 0 else 1,()):=by
 unfold kE s9
 rw[jr,acn]
 by_cases hd:fq d
 ·have hp:=tM d.2.toNat
  have hp2:(10:Int) ^ d.2.toNat≤1000000000:=by
   have:=acg (n:=10) (by omega) (show d.2.toNat≤9 by have:=hd.2.2;omega)
   have h2:=aat.2 this
   simpa using h2
  rw[BR d.2 hd.2.1 (by have:=hd.2.2;omega)]
  dsimp only
  rw[acN hd,zne,acB]
  have e:inR d 0 1000000000 4=(decide (d.2≤4)&&(decide (d.1≥0)&&decide (d.1≤1000000000*10 ^ d.2.toNat))):=by
   unfold inR
   rw[← Z5, ← Z5,acD,Int.zero_mul]
   constructor
   ·rintro⟨_,h2,h3,h4⟩;exact⟨h2,h3,h4⟩
   ·rintro⟨h2,h3,h4⟩;exact⟨hd,h2,h3,h4⟩
  rw[e,acn,au (n:=1000000000*10 ^ d.2.toNat) (by omega) (by omega)]
  cases decide (d.2≤4)<;>cases decide (d.1≥0)<;>cases decide (d.1≤1000000000*10 ^ d.2.toNat)<;>rfl
 ·have:inR d 0 1000000000 4=false:=by unfold inR;simp[hd]
  simp[hd,this]
end Go.Md
namespace Go.Md
open Go.Dn
theorem Vt {l:List aT} {i:Nat} (hi:i<l.length) (hl:l.length<1000000000):idx l (w64 (((i+1:Nat):Int) - 1))=l[i]? :=by
 rw[au (by omega) (by omega),show ((i+1:Nat):Int) - 1=((i:Nat):Int) by omega,bS]
theorem Zr (d:ah):(if fq d then (decide (d.2>3)|| !inR d (-1000000000) 1000000000 9) else true)= !inR d (-1000000000) 1000000000 3:=by
 by_cases h:fq d
 ·rw[acN h,Wi (pl:=3) h]
  by_cases h3:d.2≤3
  ·have:¬ d.2>3:=by omega
   simp[h3,this]
  ·have:d.2>3:=by omega
   simp[h3,this]
 ·have:inR d (-1000000000) 1000000000 3=false:=by unfold inR;simp[h]
  simp[h,this]
theorem Mg (v:aj) (i:Nat) (y:aT) (hl:v.2.2.2.2.2.2.1.length<1000000000) (hs:Asc (·.1) v.2.2.2.2.2.2.1) (hll:v.2.2.2.2.2.2.2.1.length<1000000000) (hy:v.2.2.2.2.2.2.2.1[i]? =some y):
 sN v (i:Int)=some (Gn v.2.2.2.1 v.2.2.2.2.2.2.1 v.2.2.2.2.2.2.2.1 i y,()):=by
 unfold sN Gn
 have hR:=fun t=>F4 v t hl hs
 have hE:=fun l=>Bq v l true hl hs
 generalize v.2.2.2.2.2.2.1=rates at*
 generalize v.2.2.2.2.2.2.2.1=lines at*
 generalize v.2.2.2.1=pl at*
 have hi:=(aa2.1 hy).1
 rw[bS,hy,acn]
 simp only[cT,mh,vo,hR,hE,acn,jr]
 by_cases c1:y.1<1∨99999<y.1
 ·simp only[c1,acI,acC,acO]
 rw[acE c1,acB,acM c1]
 have tail:(bif decide (y.2.1<1∨99999<y.2.1) then some ((1:Int),()) else bif !cz y.2.2.1 then some (5,()) else bif (if fq y.2.2.2.1 then (0:Int) else 1) != 0 then some (if fq y.2.2.2.1 then (0:Int) else 1,()) else bif decide (y.2.2.2.1.2>3) then some (1,()) else
  Option.bind (fA y.2.2.2.1 1000000000) fun r7=>bif !r7.1 then some (1,()) else bif y.2.2.2.1.1==0 then some (13,()) else bif !cz y.2.2.2.2.1 then some (5,()) else bif (if inR y.2.2.2.2.2.1 0 1000000000 4=true then (0:Int) else 1) != 0 then some (if inR y.2.2.2.2.2.1 0 1000000000 4=true then (0:Int) else 1,()) else
  bif decide (y.2.2.2.2.2.2.1<1∨100000<y.2.2.2.2.2.2.1) then some (1,()) else bif xu pl rates true y.2.2.2.2.2.2.2.1 != 0 then some (xu pl rates true y.2.2.2.2.2.2.2.1,()) else bif !(rM (fun x:bD=>x.1) y.2.2.2.2.2.2.2.2 rates).isSome then some (5,()) else some (0,()))=
  some (if y.2.1<1∨99999<y.2.1 then 1 else if cz y.2.2.1=false then 5 else if inR y.2.2.2.1 (-1000000000) 1000000000 3=false then 1 else if y.2.2.2.1.1=0 then 13 else if cz y.2.2.2.2.1=false then 5 else if inR y.2.2.2.2.2.1 0 1000000000 4=false then 1
   else if y.2.2.2.2.2.2.1<1∨100000<y.2.2.2.2.2.2.1 then 1 else if xu pl rates true y.2.2.2.2.2.2.2.1≠0 then xu pl rates true y.2.2.2.2.2.2.2.1 else if (rM (fun x:bD=>x.1) y.2.2.2.2.2.2.2.2 rates).isSome=true then 0 else 5,()):=by
  by_cases c2:y.2.1<1∨99999<y.2.1
  ·simp only[c2,acI,acC,acO]
  rw[acE c2,acB,acM c2]
  cases cz y.2.2.1 with
  | false=>rfl
  | true=>
  simp only[aad,acB,aag,acL]
  have hq:=Zr y.2.2.2.1
  by_cases hd:fq y.2.2.2.1
  ·rw[acN hd] at hq
   rw[tT hd 1000000000 (by omega) (by omega)]
   rw[acN hd,zne,acB,acn]
   dsimp only
   have hq':inR y.2.2.2.1 (-1000000000) 1000000000 3= !(decide (y.2.2.2.1.2>3)|| !inR y.2.2.2.1 (-1000000000) 1000000000 9):=by rw[hq,Bool.not_not]
   rw[hq']
   cases decide (y.2.2.2.1.2>3) with
   | true=>rfl
   | false=>
    cases inR y.2.2.2.1 (-1000000000) 1000000000 9 with
    | false=>rfl
    | true=>
     simp only[aad,Bool.or_false,aac,acB,aag,acL]
     by_cases c3:y.2.2.2.1.1=0
     ·rw[show (y.2.2.2.1.1==0)=true by simpa using c3,acC,acN c3]
     ·rw[show (y.2.2.2.1.1==0)=false by simpa using c3,acB,acM c3]
      cases cz y.2.2.2.2.1 with
      | false=>rfl
      | true=>
       cases inR y.2.2.2.2.2.1 0 1000000000 4 with
       | false=>rfl
       | true=>
        simp only[aad,acB,aag,acL,acO]
        rw[zne,acB]
        by_cases c4:y.2.2.2.2.2.2.1<1∨100000<y.2.2.2.2.2.2.1
        ·simp only[c4,acI,acC,acO]
        ·rw[acE c4,acB,acM c4]
         by_cases c5:xu pl rates true y.2.2.2.2.2.2.2.1=0
         ·rw[c5,zne,acB,acM (by simp)]
          cases (rM (fun x:bD=>x.1) y.2.2.2.2.2.2.2.2 rates).isSome<;>rfl
         ·rw[show (xu pl rates true y.2.2.2.2.2.2.2.1 != 0)=true by simpa using c5,acC,acN c5]
  ·rw[acM hd] at hq
   have:inR y.2.2.2.1 (-1000000000) 1000000000 3=false:=by simpa using hq.symm
   rw[this,acM hd]
   rfl
 cases i with
 | zero=>
  rw[aB (by omega),tail]
  rfl
 | succ i=>
  have hp:lines[i]? =some (lines[i]'(by omega)):=bu (by omega)
  rw[aC (by omega),Vt (by omega) hll,hp,acn]
  have ep:S6 lines (i+1) y=decide (y.1≤(lines[i]'(by omega)).1):=by simp only[S6,hp]
  rw[ep]
  cases decide (y.1≤(lines[i]'(by omega)).1) with
  | true=>rfl
  | false=>
   rw[acB,tail]
   rfl
def OM (v:aj):Int:=eo (Gn v.2.2.2.1 v.2.2.2.2.2.2.1 v.2.2.2.2.2.2.2.1) 0 v.2.2.2.2.2.2.2.1
def BM (v:aj):Int:=
 if cz v.1=false then 5 else if cz v.2.1=false then 5
 else if ¬(1≤v.2.2.1∧v.2.2.1≤3652059) then 1
 else if v.2.2.2.1<0∨4<v.2.2.2.1 then 1
 else if v.2.2.2.2.1<1∨6<v.2.2.2.2.1 then 4
 else if wK v.2.2.2.2.2.2.1≠0 then wK v.2.2.2.2.2.2.1
 else if v.2.2.2.2.2.2.2.1.length=0 then 9
 else if 500<v.2.2.2.2.2.2.2.1.length then 2
 else if OM v≠0 then OM v
 else xu v.2.2.2.1 v.2.2.2.2.2.2.1 false v.2.2.2.2.2.2.2.2
theorem Zi {γ:Type} (s:Int) (u:γ) (k:γ→Option (Int×Unit)) (z:Int) (hk:k u=some (z,())):aM (β:=Int×Unit) (γ:=γ) (if s=0 then some (Sum.inr u) else some (Sum.inl (s,()))) k=some (if s≠0 then s else z,()):=by
 by_cases h:s=0
 ·rw[acN h,bg,hk,acM (by simpa using h)]
 ·rw[acM h,pJ,acN h]
theorem AA (v:aj):oC v=some (BM v,()):=by
 unfold oC BM
 simp only[mh,nC,cT,acn,Ew]
 cases cz v.1 with
 | false=>rfl
 | true=>
 cases cz v.2.1 with
 | false=>rfl
 | true=>
 simp only[aad,acB,aag,acL]
 by_cases n_c1:¬(1≤v.2.2.1∧v.2.2.1≤3652059)
 ·rw[acE n_c1,acN n_c1];rfl
 have c1:=aai n_c1
 rw[acF c1,acM (by simpa using c1),aad,acB]
 by_cases c2:v.2.2.2.1<0∨4<v.2.2.2.1
 ·rw[acF c2,acN c2];rfl
 rw[acE c2,acM c2,acB]
 by_cases c3:v.2.2.2.2.1<1∨6<v.2.2.2.2.1
 ·rw[acF c3,acN c3];rfl
 rw[acE c3,acM c3,aac,aad,acB]
 by_cases n_hrl:¬(v.2.2.2.2.2.2.1.length<1000000000)
 ·have e:wK v.2.2.2.2.2.2.1=2:=by unfold wK;rw[acM (by omega),acN (by omega)]
  have e2:nY v.2.2.2.2.2.2.1=some (2,()):=by
   unfold nY
   rw[LX,acE (by omega),acB,aC (by omega)]
  rw[e,e2];rfl
 have hrl:=aai n_hrl
 rw[Ka _ hrl,acn]
 dsimp only
 by_cases n_c4:¬(wK v.2.2.2.2.2.2.1=0)
 ·rw[show (wK v.2.2.2.2.2.2.1 != 0)=true by simpa using n_c4,acC,acN n_c4]
 have c4:=aai n_c4
 obtain⟨_,_,hs,_⟩:=MX c4
 rw[c4,zne,acB,acM (by simp),LX]
 by_cases c5:v.2.2.2.2.2.2.2.1.length=0
 ·rw[acF c5,acC,acN c5]
 rw[acE c5,acB,acM c5]
 by_cases c6:500<v.2.2.2.2.2.2.2.1.length
 ·rw[aC (by omega),acN c6]
 rw[aB (by omega),acM c6]
 unfold OM
 rw[IM (f:=nU) (fun i=>(((v.2.2.2.2.2.2.2.1.length:Int)),(i:Int),v.1,v.2.1,v.2.2.1,v.2.2.2.1,v.2.2.2.2.1,v.2.2.2.2.2.1,v.2.2.2.2.2.2.1,v.2.2.2.2.2.2.2.1,v.2.2.2.2.2.2.2.2,()) ) v.2.2.2.2.2.2.2.1 (Gn v.2.2.2.1 v.2.2.2.2.2.2.1 v.2.2.2.2.2.2.2.1) (v.1,v.2.1,v.2.2.1,v.2.2.2.1,v.2.2.2.2.1,v.2.2.2.2.2.1,v.2.2.2.2.2.2.1,v.2.2.2.2.2.2.2.1,v.2.2.2.2.2.2.2.2,()) ?_ ?_ ?_ _ ?_]
 ·refine Zi _ _ _ _ ?_
  show Option.bind (kz v v.2.2.2.2.2.2.2.2 false) _=_
  rw[Bq v _ false hrl hs,acn]
 ·rfl
 ·intro i y again hy
  have hi:=(aa2.1 hy).1
  unfold nU
  show (bif decide ((i:Int)<(v.2.2.2.2.2.2.2.1.length:Int)) then Option.bind (sN v (i:Int)) _ else _)=_
  rw[aC (by omega),Mg v i y hrl hs (by omega) hy,acn]
  dsimp only
  rw[au (n:=(i:Int)+1) (by omega) (by omega)]
  by_cases hz:Gn v.2.2.2.1 v.2.2.2.2.2.2.1 v.2.2.2.2.2.2.2.1 i y=0
  ·rw[hz];rfl
  ·rw[show (Gn v.2.2.2.1 v.2.2.2.2.2.2.1 v.2.2.2.2.2.2.2.1 i y != 0)=true by simpa using hz,acC,acM hz]
 ·intro again
  unfold nU
  dsimp only
  rw[aB (by omega)]
 ·omega
end Go.Md
namespace Go.Md
open Go.Dn
structure ZN (pl:Int) (x:ew):Prop where
 dec:fq x.2.1
 place:x.1=false→x.2.1.2≤pl
 nz:x.2.1.1≠0
structure RY (pl:Int) (rates:List bD) (x:aT):Prop where
 q:fq x.2.2.2.1
 qp:x.2.2.2.1.2≤3
 qn:x.2.2.2.1.1≠0
 p:fq x.2.2.2.2.2.1
 pp:x.2.2.2.2.2.1.2≤4
 p0:0≤x.2.2.2.2.2.1.1
 per:1≤x.2.2.2.2.2.2.1∧x.2.2.2.2.2.2.1≤100000
 ext:xu pl rates true x.2.2.2.2.2.2.2.1=0
 rate:(rM (·.1) x.2.2.2.2.2.2.2.2 rates).isSome=true
theorem Vf {pl:Int} {rates:List bD} {lines:List aT} {i:Nat} {x:aT} (h:Gn pl rates lines i x=0):RY pl rates x:=by
 unfold Gn at h
 split at h
 ·omega
 split at h
 ·omega
 split at h
 ·omega
 split at h
 ·omega
 split at h
 ·omega
 rename_i h1
 split at h
 ·omega
 rename_i h2
 split at h
 ·omega
 split at h
 ·omega
 rename_i h3
 split at h
 ·omega
 rename_i h4
 split at h
 ·omega
 rename_i h5
 split at h
 ·rename_i h6
  have h1':inR x.2.2.2.1 (-1000000000) 1000000000 3=true:=by simpa using h1
  have h3':inR x.2.2.2.2.2.1 0 1000000000 4=true:=by simpa using h3
  unfold inR at h1' h3'
  rw[acG] at h1' h3'
  exact⟨h1'.1,h1'.2.1,h2,h3'.1,h3'.2.1,by have:=h3'.2.2.1;rw[Int.zero_mul] at this;exact this,by omega,by omega,h6⟩
 ·omega
structure Zn (v:aj):Prop where
 pl:0≤v.2.2.2.1∧v.2.2.2.1≤4
 way:1≤v.2.2.2.2.1∧v.2.2.2.2.1≤6
 rn:0<v.2.2.2.2.2.2.1.length∧v.2.2.2.2.2.2.1.length≤20
 asc:Asc (·.1) v.2.2.2.2.2.2.1
 rates:∀ r∈v.2.2.2.2.2.2.1,inR r.2 0 100 9=true
 ln:0<v.2.2.2.2.2.2.2.1.length∧v.2.2.2.2.2.2.2.1.length≤500
 lines:∀ x∈v.2.2.2.2.2.2.2.1,RY v.2.2.2.1 v.2.2.2.2.2.2.1 x
 ext:xu v.2.2.2.1 v.2.2.2.2.2.2.1 false v.2.2.2.2.2.2.2.2=0
theorem QJ {v:aj} (h:BM v=0):Zn v:=by
 unfold BM at h
 split at h
 ·omega
 split at h
 ·omega
 split at h
 ·omega
 split at h
 ·omega
 split at h
 ·omega
 split at h
 ·omega
 rename_i h1
 split at h
 ·omega
 split at h
 ·omega
 split at h
 ·omega
 rename_i h2
 have hr:=MX (show wK v.2.2.2.2.2.2.1=0 by omega)
 refine⟨by omega,by omega,⟨hr.1,hr.2.1⟩,hr.2.2.1,hr.2.2.2,by omega,fun x hx=> ?_,h⟩
 obtain⟨i,hi⟩:=abu.1 hx
 have:=A6 (show OM v=0 by omega) i x hi
 exact Vf this
end Go.Md
namespace Go.Md
open Go.Dn
theorem K9:∀ (n:Nat) (l:List Nat),l.Nodup→(∀ x∈l,x<n)→l.length≤n
 | 0,l,_,h=>by
  cases l with
  | nil=>simp
  | cons a r=>exact absurd (h a (by simp)) (acd _)
 | n+1,l,hd,h=>by
  by_cases hm:n∈l
  ·have h1:=K9 n (l.erase n) (hd.erase n) (fun x hx=>by
    have:=(hd.mem_erase_iff).1 hx
    have:=h x this.2
    omega)
   rw[List.length_erase_of_mem hm] at h1
   omega
  ·have:=K9 n l hd (fun x hx=>by
    have h2:=h x hx
    have:x≠n:=fun e=>hm (e ▸ hx)
    omega)
   omega
def itp (par:Nat→Option Nat):Nat→Nat→Option Nat
 | 0,i=>some i
 | j+1,i=>(par i).bind (itp par j)
def Dj (par:Nat→Option Nat) (i k d:Nat):Prop:=itp par (d+1) k=some i∧∀ e,e<d→itp par (e+1) k≠some i
theorem Dj.uniq {par:Nat→Option Nat} {i k d e:Nat} (h:Dj par i k d) (h':Dj par i k e):d=e:=by
 rcases ab5 d e with h1 | h1 | h1
 ·exact absurd h.1 (h'.2 d h1)
 ·exact h1
 ·exact absurd h'.1 (h.2 e h1)
theorem Dj.step {par:Nat→Option Nat} {i k d:Nat} (h:Dj par i k d):∃ k',par k=some k'∧((k'=i∧d=0)∨(k'≠i∧∃ e,d=e+1∧Dj par i k' e)):=by
 obtain⟨h1,h2⟩:=h
 simp only[itp] at h1
 cases hp:par k with
 | none=>rw[hp] at h1;cases h1
 | some k'=>
  rw[hp] at h1
  refine⟨k',rfl, ?_⟩
  cases d with
  | zero=>simp only[acn,itp,Option.some.injEq] at h1;exact .inl ⟨h1,rfl⟩
  | succ e=>
   right
   refine⟨fun e1=> ?_,e,rfl,by simpa using h1,fun f hf hx=> ?_⟩
   ·refine h2 0 (by omega) ?_
    simp only[itp,hp,acn,e1]
   ·refine h2 (f+1) (by omega) ?_
    rw[show f+1+1=(f+1)+1 from rfl]
    show (par k).bind (itp par (f+1))=some i
    rw[hp];exact hx
theorem Dj.list {par:Nat→Option Nat} {i n:Nat} (hn:∀ k k',par k=some k'→k'<n):∀ {d k:Nat},k<n→Dj par i k d→∃ l:List Nat,l.length=d+1∧l.Nodup∧(∀ x∈l,x<n)∧∀ x∈l,∃ e,e≤d∧Dj par i x e
 | 0,k,hk,h=>⟨[k],rfl,by simp,by simpa using hk,fun x hx=>by simp at hx;subst hx;exact⟨0,abX _,h⟩⟩
 | d+1,k,hk,h=>by
  obtain⟨k',h1,h2⟩:=h.step
  rcases h2 with ⟨_,h2⟩ | ⟨_,e,h2,h3⟩
  ·omega
  ·have:e=d:=by omega
   subst this
   obtain⟨l,l1,l2,l3,l4⟩:=Dj.list hn (hn _ _ h1) h3
   refine⟨k::l,by simp[l1],List.nodup_cons.2 ⟨fun hm=> ?_,l2⟩,fun x hx=> ?_,fun x hx=> ?_⟩
   ·obtain⟨f,f1,f2⟩:=l4 k hm
    have:=f2.uniq h
    omega
   ·rcases abp.1 hx with rfl | hx
    ·exact hk
    ·exact l3 x hx
   ·rcases abp.1 hx with rfl | hx
    ·exact⟨e+1,abX _,h⟩
    ·obtain⟨f,f1,f2⟩:=l4 x hx;exact⟨f,by omega,f2⟩
theorem Dj.le {par:Nat→Option Nat} {i n d k:Nat} (hn:∀ k k',par k=some k'→k'<n) (hk:k<n) (h:Dj par i k d):d+1≤n:=by
 obtain⟨l,l1,l2,l3,_⟩:=h.list hn hk
 have:=K9 n l l2 l3
 omega
end Go.Md
namespace Go.Md
open Go.Dn
def qOk (d:ah) (zero:Bool):Bool:=inR d 0 1000000000 3&&(!(d.1==0)||zero)
theorem O3 {d:ah} (hd:fq d):s9 d 3 1000000000=some (inR d 0 1000000000 3,()):=by
 unfold s9
 have hp:=tM d.2.toNat
 have hp2:(10:Int) ^ d.2.toNat≤1000000000:=by
  have:=acg (n:=10) (by omega) (show d.2.toNat≤9 by have:=hd.2.2;omega)
  have h2:=aat.2 this
  simpa using h2
 rw[BR d.2 hd.2.1 (by have:=hd.2.2;omega)]
 have e:inR d 0 1000000000 3=(decide (d.2≤3)&&(decide (d.1≥0)&&decide (d.1≤1000000000*10 ^ d.2.toNat))):=by
  unfold inR
  rw[← Z5, ← Z5,acD,Int.zero_mul]
  constructor
  ·rintro⟨_,h2,h3,h4⟩;exact⟨h2,h3,h4⟩
  ·rintro⟨h2,h3,h4⟩;exact⟨hd,h2,h3,h4⟩
 rw[e,acn,au (n:=1000000000*10 ^ d.2.toNat) (by omega) (by omega)]
 cases decide (d.2≤3)<;>cases decide (d.1≥0)<;>cases decide (d.1≤1000000000*10 ^ d.2.toNat)<;>rfl
theorem yC (d:ah) (z:Bool):mH d z=some (if qOk d z=true then 0 else 1,()):=by
 unfold mH qOk
 rw[jr,acn]
 by_cases hd:fq d
 ·rw[O3 hd,acN hd]
  dsimp only
  rw[zne,acB,acn]
  cases inR d 0 1000000000 3<;>cases (d.1==0)<;>cases z<;>rfl
 ·have:inR d 0 1000000000 3=false:=by unfold inR;simp[hd]
  simp[hd,this]
end Go.Md
