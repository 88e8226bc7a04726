/-
  Plain facts: products, powers, rounding; the order of strings; decimals. No condition.
-/
import Derived.Test.YtcpmaicaibdafaaGreatDoorYq
import Derived.Test.YtcpmaicaibdafaaGreatDoorYn
import Derived.Test.YtcpmaicaibdafaaGreatDoorYp
set_option linter.all false
namespace Go.Md
open Go.Dn
theorem zne:((0:Int) != 0)=false:=rfl
theorem Ox (a b:List Int):D6 a b=As a b:=rfl
theorem vV (x y:Int) (hx:x.natAbs<4294967296 ^ 99) (hy:y.natAbs<4294967296 ^ 99):mQ (W x) (W y)=some (W (x+y),()):=by
 have hlx:=qV hx
 have hly:=qV hy
 unfold mQ W
 dsimp only
 by_cases hs:decide (x<0)=decide (y<0)
 ·rw[show (decide (x<0)==decide (y<0))=true by simp[hs],aac,Ox]
  obtain⟨s,h1,h2,h3,h4⟩:=I4 (bn x.natAbs) (bn y.natAbs) (dM _) (dM _) (by omega) (by omega)
  rw[h1,ZZ]
  dsimp only
  rw[jF _ _ h2 (by omega),ZZ,h3,dK,dK]
  simp only[aad] at hs
  show some (W _,())=some (W (x+y),())
  congr 3
  by_cases h:x<0
  ·simp only[h,aai,aao];omega
  ·simp only[h,aah,XR,aal];omega
 ·rw[show (decide (x<0)==decide (y<0))=false by simp[hs],aab]
  obtain⟨c,h1,h2,h3⟩:=CB x.natAbs y.natAbs (by omega) (by omega)
  rw[h1,ZZ]
  dsimp only
  simp only[aad] at hs
  have hlen:∀ a b:Nat,b≤a→(bn b).length≤(bn a).length:=fun a b h=>by
   rcases ZK (bn a).length (bn b).length with h' | h'
   ·have:=mL h';omega
   ·exact h'
  by_cases hc:c≥0
  ·rw[bh hc,AR _ _ (dM _) (dM _) (by omega) (hlen _ _ (by omega)) (by rw[dK,dK];omega),ZZ]
   dsimp only
   rw[jF _ _ (dM _) (by have:=hlen x.natAbs (v32 (bn x.natAbs) - v32 (bn y.natAbs)).toNat (by rw[dK,dK];omega);omega),ZZ]
   rw[dK,dK,dK]
   show some (W _,())=some (W (x+y),())
   congr 3
   by_cases h:x<0
   ·simp only[h,aai,aao];omega
   ·simp only[h,aah,XR,aal];omega
  ·rw[bw hc,AR _ _ (dM _) (dM _) (by omega) (hlen _ _ (by omega)) (by rw[dK,dK];omega),ZZ]
   dsimp only
   rw[jF _ _ (dM _) (by have:=hlen y.natAbs (v32 (bn y.natAbs) - v32 (bn x.natAbs)).toNat (by rw[dK,dK];omega);omega),ZZ]
   rw[dK,dK,dK]
   show some (W _,())=some (W (x+y),())
   congr 3
   by_cases h:y<0
   ·simp only[h,aai,aao];omega
   ·simp only[h,aah,XR,aal];omega
theorem vU (x y:Int) (hx:x.natAbs<4294967296 ^ 99) (hy:y.natAbs<4294967296 ^ 99):mP (W x) (W y)=some (W (x - y),()):=by
 unfold mP
 rw[Ar y hy,ZZ]
 dsimp only
 rw[vV x (-y) hx (by omega),ZZ,Int.sub_eq_add_neg]
theorem yA (x y:Int) (hx:x.natAbs<4294967296 ^ 99) (hy:y.natAbs<4294967296 ^ 99):me (W x) (W y)=some ((x - y).sign,()):=by
 unfold me
 rw[vU x y hx hy,ZZ]
 dsimp only
 rw[jB,ZZ]
theorem RX {x y z c:Int} (hx:0≤x∧x<4294967296) (hy:0≤y∧y<4294967296) (hz:0≤z∧z<4294967296) (hc:0≤c∧c<4294967296):0≤x*y∧x*y≤18446744065119617025∧c+(z+x*y)≤18446744073709551615:=by
 have h1:0≤x*y:=Ya hx.1 hy.1
 have h2:x*y≤4294967295*4294967295:=Int.mul_le_mul (by omega) (by omega) (by omega) (by omega)
 omega
theorem J8 (i:Nat) (x:Int) (ga:List Int) (gn gi:Int) (b:List Int) (s1:Bool) (l1:List Int) (s2:Bool) (l2:List Int) (s3:Bool) (l3:List Int) (out:List Int) (hx:0≤x∧x<4294967296) (hb:Dg b) (hbl:b.length<10000) (hil:i<10000) (ho:i+b.length≤out.length) (hol:out.length<100000) (hd:Dg out) (n:Nat) (hn:b.length<n):
 ∃ o c,iter n (((i:Int),x,(0:Int),ga,gn,gi,b,(b.length:Int),(0:Int),s1,l1,s2,l2,s3,l3,out,()):lp) oP=some (Sum.inr ((i:Int),c,ga,gn,gi,s1,l1,s2,l2,s3,l3,o,()))∧
  Dg o∧o.length=out.length∧0≤c∧c<4294967296∧v32 o+4294967296 ^ (i+b.length)*c=v32 out+4294967296 ^ i*x*v32 b∧∀ j,i+b.length≤j→o[j]? =out[j]? :=by
 refine jE (Inv:=fun k X=>∃ o c,X=(((i:Int),x,c,ga,gn,gi,b,(b.length:Int),(k:Int),s1,l1,s2,l2,s3,l3,o,()):lp)∧Dg o∧o.length=out.length∧0≤c∧c<4294967296∧v32 o+4294967296 ^ (i+k)*c=v32 out+4294967296 ^ i*x*v32 (b.take k)∧∀ j,i+k≤j→o[j]? =out[j]?) b.length
  (fun r=>∃ o c,r=some (Sum.inr ((i:Int),c,ga,gn,gi,s1,l1,s2,l2,s3,l3,o,()))∧Dg o∧o.length=out.length∧0≤c∧c<4294967296∧v32 o+4294967296 ^ (i+b.length)*c=v32 out+4294967296 ^ i*x*v32 b∧∀ j,i+b.length≤j→o[j]? =out[j]?) ?_ ?_ n 0 _ ⟨out,0,rfl,hd,rfl,by omega,by omega,by simp[zq],fun _ _=>rfl⟩ (by omega) (by omega)
 ·rintro k _ again hk ⟨o,c,rfl,h1,h2,h3,h4,h5,h6⟩ ih
  unfold oP
  dsimp only
  have hy:b[k]? =some b[k]:=cu hk
  have hyd:=hb.get hy
  have hts:=iF hy
  have hz:o[i+k]? =some (o[i+k]'(by omega)):=cu (by omega)
  have hzd:=h1.get hz
  generalize b[k]=y at hy hyd hts
  generalize o[i+k]'(by omega)=z at hz hzd
  obtain⟨m1,m2,m3⟩:=RX hx hyd hzd ⟨h3,h4⟩
  have e1:w64 ((i:Int)+(k:Int))=((i+k:Nat):Int):=by rw[aV (by omega) (by omega)];omega
  rw[bh (by omega),cK,hy,ZZ,e1,dN (by simp only[XN,aag];omega),Yi,hz,ZZ,dN (by simp only[XN,aag];omega),ZZ,
   dB (n:=x) (by omega) (by omega),dB (n:=y) (by omega) (by omega),dB (n:=z) (by omega) (by omega),dB (n:=x*y) (by omega) (by omega),dB (n:=z+x*y) (by omega) (by omega),dB (n:=c+(z+x*y)) (by omega) (by omega),zA,QC,aV (n:=(k:Int)+1) (by omega) (by omega)]
  generalize ht:c+(z+x*y)=t at*
  refine ih _ ⟨_,_,rfl,h1.set (by omega),by rw[YZ];exact h2,by omega,by omega, ?_,fun j hj=> ?_⟩
  ·rw[Jv hz,hts]
   have e2:(4294967296:Int) ^ (i+(k+1))=4294967296 ^ i*4294967296 ^ k*4294967296:=by rw[← Zv,Ye,Int.pow_add]
   have e3:(4294967296:Int) ^ (i+k)=4294967296 ^ i*4294967296 ^ k:=Int.pow_add ..
   rw[e3] at h5
   rw[e2,e3]
   have e4:=Int.mul_ediv_add_emod t 4294967296
   generalize (4294967296:Int) ^ i=p at*
   generalize (4294967296:Int) ^ k=q at*
   generalize t / 4294967296=d at*
   generalize t % 4294967296=r at*
   grind
  ·rw[YQ (by omega)];exact h6 j (by omega)
 ·rintro _ again ⟨o,c,rfl,h1,h2,h3,h4,h5,h6⟩
  unfold oP
  dsimp only
  rw[bw (by omega)]
  rw[Zt (ZE _)] at h5
  exact⟨o,c,rfl,h1,h2,h3,h4,h5,h6⟩
theorem J9 (a b:List Int) (ha:Dg a) (hb:Dg b) (hal:a.length<1000) (hbl:b.length<1000) (s1 s2 s3:Bool) (l3:List Int) (n:Nat) (hn:a.length<n):
 ∃ o,iter n ((a,(a.length:Int),(0:Int),s1,a,s2,b,s3,l3,List.replicate (a.length+b.length) 0,()):lg) oO=some (Sum.inr (s1,a,s2,b,s3,l3,o,()))∧Dg o∧o.length=a.length+b.length∧v32 o=v32 a*v32 b:=by
 refine jE (Inv:=fun i X=>∃ o,X=((a,(a.length:Int),(i:Int),s1,a,s2,b,s3,l3,o,()):lg)∧Dg o∧o.length=a.length+b.length∧v32 o=v32 (a.take i)*v32 b∧∀ j,i+b.length≤j→j<a.length+b.length→o[j]? =some 0) a.length
  (fun r=>∃ o,r=some (Sum.inr (s1,a,s2,b,s3,l3,o,()))∧Dg o∧o.length=a.length+b.length∧v32 o=v32 a*v32 b) ?_ ?_ n 0 _ ⟨_,rfl,fun d hd=>by rw[List.mem_replicate] at hd;omega,by simp,by rw[Gx];simp[zq],fun j _ hj=>by rw[YO,aan hj]⟩ (by omega) (by omega)
 ·rintro i _ again hi ⟨o,rfl,h1,h2,h3,h4⟩ ih
  unfold oO
  dsimp only
  have hy:a[i]? =some a[i]:=cu hi
  have hyd:=ha.get hy
  have hts:=iF hy
  generalize a[i]=x at hy hyd hts
  rw[bh (by omega),cK,hy,ZZ]
  obtain⟨o',c,k1,k2,k3,k4,k5,k6,k7⟩:=J8 i x a (a.length:Int) (i:Int) b s1 a s2 b s3 l3 o hyd hb (by omega) (by omega) (by omega) (by omega) h1 (Int.natAbs (i:Int)+(Int.natAbs x+(Int.natAbs (0:Int)+(List.length a+(Int.natAbs (a.length:Int)+(Int.natAbs (i:Int)+(List.length b+(Int.natAbs ((List.length b:Int))+(Int.natAbs (0:Int)+(List.length a+(List.length b+(List.length l3+(List.length o+2))))))))))))) (by omega)
  rw[k1,cR]
  dsimp only
  have e1:w64 ((i:Int)+(b.length:Int))=((i+b.length:Nat):Int):=by rw[aV (by omega) (by omega)];omega
  have hz:o'[i+b.length]? =some 0:=by rw[k7 _ (ZE _)];exact h4 _ (ZE _) (by omega)
  rw[e1,dN (by simp only[XN,aag];omega),Yi,hz,ZZ,zz (by omega) (by omega),aV (n:=(i:Int)+1) (by omega) (by omega)]
  refine ih _ ⟨_,rfl,k2.set (by omega),by rw[YZ];omega, ?_,fun j hj hj2=> ?_⟩
  ·rw[Jv hz,hts]
   have e3:(4294967296:Int) ^ (i+b.length)=4294967296 ^ i*4294967296 ^ b.length:=Int.pow_add ..
   rw[e3] at k6 ⊢
   grind
  ·rw[YQ (by omega),k7 j (by omega)];exact h4 j (by omega) hj2
 ·rintro _ again ⟨o,rfl,h1,h2,h3,h4⟩
  unfold oO
  dsimp only
  rw[bw (by omega)]
  rw[Zt (ZE _)] at h3
  exact⟨o,rfl,h1,h2,h3⟩
theorem iV (x y:Int) (hx:x.natAbs<4294967296 ^ 99) (hy:y.natAbs<4294967296 ^ 99):fM (W x) (W y)=some (W (x*y),()):=by
 have hlx:=qV hx
 have hly:=qV hy
 unfold fM W
 dsimp only
 have e1:w64 (((bn x.natAbs).length:Int)+((bn y.natAbs).length:Int))=(((bn x.natAbs).length+(bn y.natAbs).length:Nat):Int):=by rw[aV (by omega) (by omega)];omega
 rw[e1,dN (by simp only[XN,aag];omega)]
 obtain⟨o,h1,h2,h3,h4⟩:=J9 (bn x.natAbs) (bn y.natAbs) (dM _) (dM _) (by omega) (by omega) (decide (x<0)) (decide (y<0)) false [] (List.length (bn x.natAbs)+(Int.natAbs ((List.length (bn x.natAbs):Int))+(Int.natAbs (0:Int)+(List.length (bn x.natAbs)+(List.length (bn y.natAbs)+(List.length ([]:List Int)+(List.length ((List.replicate (Int.toNat (((bn x.natAbs).length+(bn y.natAbs).length:Nat):Int)) 0):List Int)+2))))))) (by omega)
 rw[Yi] at h1 ⊢
 rw[h1,cR]
 dsimp only
 rw[jF _ _ h2 (by omega),ZZ,h4,dK,dK]
 show some (W _,())=some (W (x*y),())
 congr 3
 rw[← Int.natCast_mul, ← Yb]
 by_cases h:x<0<;>by_cases h':y<0
 ·have:=Int.mul_pos_of_neg_of_neg h h'
  simp[h,h'];omega
 ·have:=Ya (show 0≤ -x by omega) (show 0≤y by omega)
  rw[Int.neg_mul] at this
  simp[h,h'];omega
 ·have:=Ya (show 0≤x by omega) (show 0≤ -y by omega)
  rw[Int.mul_neg] at this
  simp[h,h'];omega
 ·have:=Ya (show 0≤x by omega) (show 0≤y by omega)
  simp[h,h'];omega
end Go.Md
namespace Go.Md
open Go.Dn
def Le (k:Nat) (z:Int):Prop:=z.natAbs≤10 ^ k
theorem Le.mul {a b:Nat} {x y:Int} (hx:Le a x) (hy:Le b y):Le (a+b) (x*y):=by
 unfold Le at*
 rw[Yb,ZT]
 exact Nat.mul_le_mul hx hy
theorem Le.mono {a b:Nat} {x:Int} (hx:Le a x) (h:a≤b):Le b x:=ZF hx (ZU (by omega) h)
theorem Le.add {a:Nat} {x y:Int} (hx:Le a x) (hy:Le a y):Le (a+1) (x+y):=by
 unfold Le at*
 rw[ZV]
 omega
theorem Le.neg {a:Nat} {x:Int} (hx:Le a x):Le a (-x):=by unfold Le at *;omega
theorem Le.w {k:Nat} {z:Int} (h:Le k z) (hk:k≤900):z.natAbs<4294967296 ^ 99:=
 ZI (h.mono hk) (by decide +kernel)
theorem Le.n {k:Nat} {z:Int} (h:Le k z) (hk:k≤500):(dg6 z.natAbs).length<90:=by
 have:=VZ (k:=84) (n:=z.natAbs) (ZI (h.mono hk) (by decide +kernel))
 omega
theorem Le.pow (n:Nat):Le n (10 ^ n):=by
 unfold Le
 rw[Int.natAbs_pow];exact ZE _
theorem Le.int {n:Int} (h1: -9223372036854775808≤n) (h2:n≤9223372036854775807):Le 19 n:=by unfold Le;omega
theorem Le.succ {k n:Nat} (h:Le k (n:Int)):Le (k+1) ((n+1:Nat):Int):=by
 unfold Le at*
 rw[ZV]
 have:1≤10 ^ k:=Nat.pow_pos (by omega)
 omega
theorem Ou (n:Nat) (hn:n≤60):zO (n:Int)=some (W (10 ^ n),()):=by
 unfold zO
 rw[mM 1 (by omega) (by omega),ZZ]
 dsimp only
 have loop:∀ (f:Nat),n<f→iter f (((n:Int),(0:Int),false,([]:List Int),(W 1).1,(W 1).2,()):qE) vh=some (Sum.inr (false,[],(W (10 ^ n)).1,(W (10 ^ n)).2,())):=by
  intro f hf
  refine jE (Inv:=fun i X=>X=(((n:Int),(i:Int),false,([]:List Int),(W (10 ^ i)).1,(W (10 ^ i)).2,()):qE)) n (fun r=>r=some (Sum.inr (false,[],(W (10 ^ n)).1,(W (10 ^ n)).2,()))) ?_ ?_ f 0 _ rfl (by omega) (by omega)
  ·rintro i _ again hi rfl ih
   unfold vh
   dsimp only
   rw[bh (by omega),mM 10 (by omega) (by omega),ZZ]
   dsimp only
   rw[iV (10 ^ i) 10 ((Le.pow i).w (by omega)) ((Le.int (n:=10) (by omega) (by omega)).w (by omega)),ZZ,aV (by omega) (by omega)]
   refine ih _ ?_
   rw[Ye]
   rfl
  ·rintro _ again rfl
   unfold vh
   dsimp only
   rw[bw (by omega)]
 rw[loop _ (by omega),cR]
theorem Ky (d:ah) (p:Int) (h1: -9223372036854775808≤d.1) (h2:d.1≤9223372036854775807) (hp0:0≤p - d.2) (hp:p - d.2≤60) (hd: -1000≤d.2∧d.2≤1000):wC d p=some (W (d.1*10 ^ (p - d.2).toNat),()):=by
 unfold wC
 rw[mM _ h1 h2,ZZ,aV (by omega) (by omega)]
 obtain⟨n,hn⟩:∃ n:Nat,p - d.2=n:=⟨(p - d.2).toNat,by omega⟩
 rw[hn,Ou n (by omega),ZZ]
 dsimp only
 rw[iV _ _ ((Le.int h1 h2).w (by omega)) ((Le.pow n).w (by omega)),ZZ,Yi]
end Go.Md
namespace Go.Md
open Go.Dn
end Go.Md
namespace Go.Md
open Go.Dn
end Go.Md
namespace Go.Md
open Go.Dn
theorem qa:∀ a:Bys,Op.bytesLess a a=false
 | []=>rfl
 | x::a=>by simp[Op.bytesLess,qa a]
theorem Hr:∀ {a b:Bys},Lib.compareBytes a b=0↔a=b
 | [],[]=>by simp[Lib.compareBytes]
 | [],_::_=>by simp[Lib.compareBytes]
 | _::_,[]=>by simp[Lib.compareBytes]
 | x::a,y::b=>by
  simp only[Lib.compareBytes,List.cons.injEq]
  by_cases h1:x<y
  ·simp only[h1,aao]
   constructor
   ·intro h;omega
   ·rintro⟨rfl,_⟩;exact absurd h1 (UInt8.lt_irrefl x)
  ·by_cases h2:y<x
   ·simp only[h1,h2,aao,aal]
    constructor
    ·intro h;omega
    ·rintro⟨rfl,_⟩;exact absurd h2 (UInt8.lt_irrefl x)
   ·have:x=y:=UInt8.le_antisymm (Z7.1 h2) (Z7.1 h1)
    subst this
    simp only[h1,aal,true_and]
    exact Hr
theorem Ff:∀ {a b:Bys},Lib.compareBytes a b<0↔Op.bytesLess a b=true
 | [],[]=>by simp[Lib.compareBytes,Op.bytesLess]
 | [],_::_=>by simp[Lib.compareBytes,Op.bytesLess]
 | _::_,[]=>by simp[Lib.compareBytes,Op.bytesLess]
 | x::a,y::b=>by
  have ih:= @Ff a b
  simp only[Lib.compareBytes,Op.bytesLess]
  by_cases h1:x<y
  ·simp[h1]
  ·by_cases h2:y<x
   ·have hne:¬ x=y:=fun e=>by subst e;exact absurd h2 (UInt8.lt_irrefl x)
    simp[h1,h2,hne]
   ·have:x=y:=UInt8.le_antisymm (Z7.1 h2) (Z7.1 h1)
    subst this
    simp[h1,ih]
theorem zH:∀ {a b c:Bys},Op.bytesLess a b=true→Op.bytesLess b c=true→Op.bytesLess a c=true
 | [],[],_,h,_=>by simp[Op.bytesLess] at h
 | [],_::_,[],_,h=>by simp[Op.bytesLess] at h
 | [],_::_,_::_,_,_=>rfl
 | _::_,[],_,h,_=>by simp[Op.bytesLess] at h
 | _::_,_::_,[],_,h=>by simp[Op.bytesLess] at h
 | x::a,y::b,z::c,h,k=>by
  simp only[Op.bytesLess,X2,XN,aag,beq_iff_eq] at h k ⊢
  rcases h with h | ⟨rfl,h⟩
  ·rcases k with k | ⟨rfl,k⟩
   ·exact .inl (UInt8.lt_trans h k)
   ·exact .inl h
  ·rcases k with k | ⟨rfl,k⟩
   ·exact .inl k
   ·exact .inr ⟨rfl,zH h k⟩
theorem TL (a b:Bys):Op.bytesLess a b=true∨a=b∨Op.bytesLess b a=true:=by
 induction a generalizing b with
 | nil=>cases b with
  | nil=>simp
  | cons y b=>simp[Op.bytesLess]
 | cons x a ih=>cases b with
  | nil=>simp[Op.bytesLess]
  | cons y b=>
   simp only[Op.bytesLess,X2,XN,aag,beq_iff_eq,List.cons.injEq]
   by_cases h1:x<y
   ·simp[h1]
   ·by_cases h2:y<x
    ·simp[h2]
    ·have:x=y:=UInt8.le_antisymm (Z7.1 h2) (Z7.1 h1)
     subst this
     rcases ih b with h | h | h<;>simp[h]
def Asc {α:Type} (key:α→Bys) (l:List α):Prop:=∀ (i j:Nat) (x y:α),i<j→l[i]? =some x→l[j]? =some y→Op.bytesLess (key x) (key y)=true
def oV {α:Type} (key:α→Bys) (t:Bys) (l:List α):Option Nat:=l.findIdx? (fun r=>key r==t)
theorem C4 {α:Type} {key:α→Bys} {t:Bys} {l:List α} {k:Nat} (h:oV key t l=some k):∃ x,l[k]? =some x∧key x=t:=by
 unfold oV at h
 rw[List.findIdx?_eq_some_iff_getElem] at h
 obtain⟨h1,h2,_⟩:=h
 exact⟨_,YJ h1,by simpa using h2⟩
theorem Uk {α:Type} {key:α→Bys} {t:Bys} {l:List α} (h:oV key t l=none):∀ x∈l,key x≠t:=by
 unfold oV at h
 rw[List.findIdx?_eq_none_iff] at h
 intro x hx e
 have:=h x hx
 simp[e] at this
theorem V7 {α:Type} {key:α→Bys} {t:Bys} {l:List α} (hs:Asc key l) {k:Nat} {x:α} (hk:l[k]? =some x) (hx:key x=t):oV key t l=some k:=by
 cases h:oV key t l with
 | none=>exact absurd hx (Uk h x (Zd hk))
 | some j=>
  obtain⟨y,h1,h2⟩:=C4 h
  rcases ZM j k with hlt | rfl | hlt
  ·have:=hs j k y x hlt h1 hk
   rw[h2,hx,qa] at this;cases this
  ·rfl
  ·have:=hs k j x y hlt hk h1
   rw[h2,hx,qa] at this;cases this
theorem Ql (l:List aR) (t:Bys) (hl:l.length<1000000000) (hs:Asc (·.1) l):
 ∃ i:Nat,dx l t ()=some ((i:Int),(oV (·.1) t l).isSome,())∧∀ k,oV (·.1) t l=some k→i=k:=by
 unfold dx
 have loop:∀ f,l.length<f→∃ i:Nat,iter f ((l,t,(),(l.length:Int),(0:Int),(l.length:Int),()):cg) eG=some (Sum.inr (l,t,(),(l.length:Int),(i:Int),()))∧i≤l.length∧(∀ k x,l[k]? =some x→k<i→Op.bytesLess x.1 t=true)∧∀ k x,l[k]? =some x→i≤k→Op.bytesLess x.1 t=false:=by
  intro f hf
  refine Il (Inv:=fun X=>∃ i j:Nat,X=((l,t,(),(l.length:Int),(i:Int),(j:Int),()):cg)∧i≤j∧j≤l.length∧(∀ k x,l[k]? =some x→k<i→Op.bytesLess x.1 t=true)∧∀ k x,l[k]? =some x→j≤k→Op.bytesLess x.1 t=false)
   (fun X=>(X.2.2.2.2.2.1 - X.2.2.2.2.1).toNat)
   (fun _ r=>∃ i:Nat,r=some (Sum.inr (l,t,(),(l.length:Int),(i:Int),()))∧i≤l.length∧(∀ k x,l[k]? =some x→k<i→Op.bytesLess x.1 t=true)∧∀ k x,l[k]? =some x→i≤k→Op.bytesLess x.1 t=false) ?_ f _ ⟨0,l.length,rfl,by omega,by omega,fun _ _ _ h=>absurd h (ZR _),fun k x hk hle=>by have:=(YL.1 hk).1;omega⟩ (by dsimp only;omega)
  rintro _ again ⟨i,j,rfl,hij,hj,h1,h2⟩ ih
  dsimp only at ih
  unfold eG
  dsimp only
  by_cases hlt:i<j
  ·rw[bh (by omega)]
   have em:w64 (Int.fdiv (bO (w64 ((i:Int)+(j:Int)))) (2 ^ 1))=(((i+j) / 2:Nat):Int):=by
    rw[aV (n:=(i:Int)+(j:Int)) (by omega) (by omega),dB (by omega) (by omega),X6 _ (by omega),aV (by omega) (by omega)]
    omega
   rw[em]
   have hm:(i+j) / 2<l.length:=by omega
   have hy:l[(i+j) / 2]? =some l[(i+j) / 2]:=cu hm
   have hmi:i≤(i+j) / 2∧(i+j) / 2<j:=by omega
   generalize (i+j) / 2=m at*
   generalize l[m]=y at hy
   rw[cK,hy,ZZ]
   show ∃ i,Option.bind (Option.bind (some (Lib.compareBytes y.1 t,())) fun r1=>some (r1.1,())) _=_∧_
   rw[ZZ,ZZ]
   dsimp only
   by_cases hc:Lib.compareBytes y.1 t<0
   ·rw[bh hc,aV (by omega) (by omega)]
    refine ih _ ⟨m+1,j,rfl,by omega,hj,fun k x hk hkm=> ?_,h2⟩ (by dsimp only;omega)
    rcases Nat.lt_succ_iff_lt_or_eq.1 hkm with h | h
    ·have:=hs k m x y h hk hy
     exact zH this (Ff.1 hc)
    ·subst h;rw[hy] at hk;cases hk;exact Ff.1 hc
   ·rw[bw hc]
    refine ih _ ⟨i,m,rfl,by omega,by omega,h1,fun k x hk hkm=> ?_⟩ (by dsimp only;omega)
    have hc':Op.bytesLess y.1 t=false:=by
     cases h:Op.bytesLess y.1 t with
     | false=>rfl
     | true=>exact absurd (Ff.2 h) hc
    rcases Nat.lt_or_eq_of_le hkm with h | h
    ·cases hx:Op.bytesLess x.1 t with
     | false=>rfl
     | true=>rw[zH (hs m k y x h hy hk) hx] at hc';cases hc'
    ·subst h;rw[hy] at hk;cases hk;exact hc'
  ·rw[bw (by omega)]
   have:i=j:=by omega
   subst this
   exact⟨i,rfl,hj,h1,h2⟩
 obtain⟨i,h1,h2,h3,h4⟩:=loop (List.length l+(List.length t+(Int.natAbs ((List.length l:Int))+(Int.natAbs (0:Int)+(Int.natAbs ((List.length l:Int))+2))))) (by omega)
 refine⟨i, ?_,fun k hk=> ?_⟩
 ·rw[h1,cR]
  dsimp only
  by_cases hi:i<l.length
  ·have hy:l[i]? =some l[i]:=cu hi
   generalize l[i]=y at hy
   rw[bh (by omega),cK,hy,ZZ]
   show Option.bind (Option.bind (some (Lib.compareBytes y.1 t,())) fun r1=>some (r1.1,())) _=_
   rw[ZZ,ZZ]
   congr 3
   by_cases he:y.1=t
   ·rw[V7 hs hy he,Hr.2 he];rfl
   ·have hne:¬ Lib.compareBytes y.1 t=0:=fun h=>he (Hr.1 h)
    rw[show (Lib.compareBytes y.1 t==0)=false by simpa using hne]
    cases hx:oV (·.1) t l with
    | none=>rfl
    | some k=>
     exfalso
     obtain⟨x,k1,k2⟩:=C4 hx
     rcases ZM k i with h | h | h
     ·have:=h3 k x k1 h;rw[k2,qa] at this;cases this
     ·subst h;rw[hy] at k1;cases k1;exact he k2
     ·have:=hs i k y x h hy k1
      dsimp only at this
      rw[k2,h4 i y hy (ZE _)] at this;cases this
  ·rw[bw (by omega)]
   congr 3
   cases hx:oV (·.1) t l with
   | none=>rfl
   | some k=>
    exfalso
    obtain⟨x,k1,k2⟩:=C4 hx
    have:=h3 k x k1 (by have:=(YL.1 k1).1;omega)
    rw[k2,qa] at this;cases this
 ·obtain⟨x,k1,k2⟩:=C4 hk
  rcases ZM k i with h | h | h
  ·have:=h3 k x k1 h;rw[k2,qa] at this;cases this
  ·exact h.symm
  ·have hy:l[i]? =some (l[i]'(by have:=(YL.1 k1).1;omega)):=cu _
   have:=hs i k _ x h hy k1
   dsimp only at this
   rw[k2,h4 i _ hy (ZE _)] at this;cases this
theorem Nr (l:List aR) (t:Bys) (hl:l.length<1000000000) (hs:Asc (·.1) l):
 ∃ i:Nat,zG l t=some ((i:Int),(oV (·.1) t l).isSome,())∧∀ k,oV (·.1) t l=some k→i=k:=by
 obtain⟨i,h1,h2⟩:=Ql l t hl hs
 exact⟨i,by unfold zG;rw[h1,ZZ],h2⟩
theorem CW (v:aj) (t:Bys) (hl:v.2.2.2.2.2.2.1.length<1000000000) (hs:Asc (·.1) v.2.2.2.2.2.2.1):ir v t=some ((oV (·.1) t v.2.2.2.2.2.2.1).isSome,()):=by
 obtain⟨i,h1,h2⟩:=Nr v.2.2.2.2.2.2.1 t hl hs
 unfold ir
 rw[h1,ZZ]
end Go.Md
namespace Go.Md
open Go.Dn
instance (d:ah):Decidable (dV d):=by unfold dV;exact inferInstance
def inR (d:ah) (lo hi pl:Int):Bool:=decide (dV d∧d.2≤pl∧lo*10 ^ d.2.toNat≤d.1∧d.1≤hi*10 ^ d.2.toNat)
theorem gJ (d:ah):bU d=some (if dV d then 0 else 1,()):=by
 rw[De]
 congr 2
 by_cases h:dV d
 ·rw[aan h,aan (by unfold dV at h;omega)]
 ·rw[aam h,aam (by unfold dV at h;omega)]
theorem qT {d:ah} (h:dV d) (most:Int) (hm0:0≤most) (hm1:most≤1000000000):dW d most=some (inR d (-most) most 9,()):=by
 rw[LN d most h.2.1 h.2.2 hm0 hm1]
 unfold inR
 congr 2
 rw[aad,Int.neg_mul]
 constructor
 ·rintro⟨h1,h2⟩;exact⟨h,h.2.2,h1,h2⟩
 ·rintro⟨_,_,h1,h2⟩;exact⟨h1,h2⟩
def Vc (pl:Int) (rates:List aR) (line:Bool) (x:bK):Int:=
 if dV x.2.1 then
  (if x.2.1.1=0 then 13
  else if (if x.1=true then inR x.2.1 (-100) 100 9 else inR x.2.1 (-1000000000) 1000000000 pl)=true then
   (if x.2.2=[] then 0 else if line=true then 3 else if (oV (·.1) x.2.2 rates).isSome=true then 0 else 5)
  else 1)
 else 1
def uT (pl:Int) (rates:List aR) (line:Bool) (l:List bK):Int:=if 20<l.length then 2 else ru (fun _ x=>Vc pl rates line x) 0 l
theorem VL {γ:Type} (s:Int) (u:γ):aK (β:=Int×Unit) (γ:=γ) (if s=0 then some (Sum.inr u) else some (Sum.inl (s,()))) (fun _=>some (0,()))=some (s,()):=by
 by_cases h:s=0
 ·rw[aan h,cR,h]
 ·rw[aam h,z7]
theorem Uj {d:ah} {lo hi pl:Int} (h:dV d):inR d lo hi pl=(inR d lo hi 9&&decide (d.2≤pl)):=by
 unfold inR
 rw[← XQ,aad]
 constructor
 ·rintro⟨h1,h2,h3⟩;exact⟨⟨h1,h.2.2,h3⟩,h2⟩
 ·rintro⟨⟨h1,_,h3⟩,h2⟩;exact⟨h1,h2,h3⟩
theorem FH {X α:Type} {γ:Type} {f:X→(X→Option ((Int×Unit) ⊕ γ))→Option ((Int×Unit) ⊕ γ)} {x0:X} (mk:Nat→X) (l:List α) (g:Nat→α→Int) (u:γ) (h0:x0=mk 0)
 (hstep:∀ i y again,l[i]? =some y→f (mk i) again=if g i y=0 then again (mk (i+1)) else some (Sum.inl (g i y,()))) (hend:∀ again,f (mk l.length) again=some (Sum.inr u)) (n:Nat) (hn:l.length<n):
 iter n x0 f=if ru g 0 l=0 then some (Sum.inr u) else some (Sum.inl (ru g 0 l,())):=by
 rw[h0];exact ON mk l g u hstep hend l 0 n rfl (ZX _) hn
theorem yF (v:aj) (l:List bK) (line:Bool) (hl:v.2.2.2.2.2.2.1.length<1000000000) (hs:Asc (·.1) v.2.2.2.2.2.2.1):iI v l line=some (uT v.2.2.2.1 v.2.2.2.2.2.2.1 line l,()):=by
 unfold iI uT
 by_cases hb:20<l.length
 ·rw[bh (by omega),aan hb]
 ·rw[bw (by omega),aam hb]
  obtain⟨a,b,c,d,e,f,g,h,k⟩:=v
  dsimp only at*
  have hR:∀ t,ir (a,b,c,d,e,f,g,h,k) t=some ((oV (·.1) t g).isSome,()):=fun t=>CW _ t hl hs
  rw[FH (f:=ny) (fun i=>((line,l,(l.length:Int),(i:Int),a,b,c,d,e,f,g,h,k,()):nA)) l (fun _ x=>Vc d g line x) () ?_ ?_ ?_ _ ?_]
  ·exact VL _ _
  ·rfl
  ·intro i y again hy
   have hi:=(YL.1 hy).1
   unfold ny
   dsimp only
   rw[bh (by omega),cK,hy,ZZ,gJ,ZZ]
   have hw:w64 ((i:Int)+1)=(i:Int)+1:=aV (by omega) (by omega)
   unfold Vc
   by_cases hd:dV y.2.1
   ·rw[aan hd,zne,aab,aan hd]
    by_cases h0:y.2.1.1=0
    ·rw[show (y.2.1.1==0)=true by simpa using h0,aac,aan h0];rfl
    ·rw[show (y.2.1.1==0)=false by simpa using h0,aab,aam h0]
     rw[qT hd 100 (by omega) (by omega),qT hd 1000000000 (by omega) (by omega),Uj (pl:=d) hd]
     have hgt:decide (y.2.1.2>d)= !decide (y.2.1.2≤d):=by
      by_cases hq:y.2.1.2≤d
      ·simp[hq]
      ·simp[hq];omega
     have hnil:∀ (s:Bys),(s==[])=decide (s=[]):=fun s=>by cases s<;>rfl
     simp only[hR,ZZ,hgt,hnil]
     generalize inR y.2.1 (-100) 100 9=b1
     generalize inR y.2.1 (-1000000000) 1000000000 9=b2
     generalize decide (y.2.1.2≤d)=b3
     generalize y.1=p
     by_cases hn:y.2.2=[]
     ·cases p<;>cases b1<;>cases b2<;>cases b3<;>cases line<;>simp[aK,hw,hnil,hn,hR]
     ·cases h4:(oV (fun x:aR=>x.1) y.2.2 g).isSome<;>cases p<;>cases b1<;>cases b2<;>cases b3<;>cases line<;>simp[aK,hw,hnil,hn,hR,h4]
   ·rw[aam hd,aam hd];rfl
  ·intro again
   unfold ny
   dsimp only
   rw[bw (by omega)]
  ·omega
end Go.Md
namespace Go.Md
open Go.Dn
theorem Ji {α:Type} (l:List α):((l.length:Int)==0)=decide (l.length=0):=by
 cases l with
 | nil=>rfl
 | cons a r=>rw[show decide ((a::r).length=0)=false by simp,Z9];simp only[YW];omega
def EV (l:List aR) (i:Nat) (y:aR):Bool:=match i with
 | 0=>false
 | i+1=>match l[i]? with
  | some p=>Op.bytesLess y.1 p.1||y.1==p.1
  | none=>false
def M3 (l:List aR) (i:Nat) (r:aR):Int:=if bT r.1=false then 5 else if EV l i r=true then 8 else if inR r.2 0 100 9=true then 0 else 1
def uc (l:List aR):Int:=if l.length=0 then 9 else if 20<l.length then 2 else ru (M3 l) 0 l
theorem Rr {l:List aR} (h:∀ i y,l[i]? =some y→EV l i y=false):Asc (·.1) l:=by
 have step:∀ i x y,l[i]? =some x→l[i+1]? =some y→Op.bytesLess x.1 y.1=true:=fun i x y hx hy=>by
  have:=h (i+1) y hy
  simp only[EV,hx,XZ,Z9] at this
  rcases TL x.1 y.1 with h1 | h1 | h1
  ·exact h1
  ·exact absurd h1.symm this.2
  ·rw[this.1] at h1;cases h1
 intro i j x y hij hx hy
 induction j generalizing y with
 | zero=>omega
 | succ j ih=>
  rcases Nat.lt_succ_iff_lt_or_eq.1 hij with h1 | h1
  ·have hj:j<l.length:=by have:=(YL.1 hy).1;omega
   have hz:l[j]? =some l[j]:=cu hj
   exact zH (ih _ h1 hz) (step j _ y hz hy)
  ·subst h1;exact step i x y hx hy
theorem Kq {l:List aR} (h:uc l=0):0<l.length∧l.length≤20∧Asc (·.1) l∧∀ r∈l,inR r.2 0 100 9=true:=by
 unfold uc at h
 split at h
 ·omega
 ·split at h
  ·omega
  ·have hz:=F5 h
   refine⟨by omega,by omega,Rr fun i y hy=> ?_,fun r hr=> ?_⟩
   ·have:=hz i y hy
    rw[ZW] at this
    unfold M3 at this
    split at this
    ·omega
    ·split at this
     ·omega
     ·rename_i h1;simpa using h1
   ·obtain⟨i,hi⟩:=Zb.1 hr
    have:=hz i r hi
    rw[ZW] at this
    unfold M3 at this
    split at this
    ·omega
    ·split at this
     ·omega
     ·split at this
      ·assumption
      ·omega
theorem Ta {d:ah} (h:dV d) (hi:Int):inR d 0 hi 9=(!decide (d.1<0)&&inR d (-hi) hi 9):=by
 have hp:=xL d.2.toNat
 unfold inR
 rw[← decide_not, ← XQ,aad]
 constructor
 ·rintro⟨h1,h2,h3,h4⟩
  rw[Int.zero_mul] at h3
  refine⟨by omega,h1,h2, ?_,h4⟩
  rw[Int.neg_mul]
  have:0≤hi*10 ^ d.2.toNat:=by omega
  omega
 ·rintro⟨h0,h1,h2,h3,h4⟩
  exact⟨h1,h2,by rw[Int.zero_mul];omega,h4⟩
theorem Vq {l:List aR} {i:Nat} (hi:i+1<l.length+1) (hl:l.length<1000000000):idx l (w64 (((i+1:Nat):Int) - 1))=l[i]? :=by
 rw[aV (by omega) (by omega),show ((i+1:Nat):Int) - 1=((i:Nat):Int) by omega,cK]
theorem Hh (l:List aR) (hl:l.length<1000000000):lB l=some (uc l,()):=by
 unfold lB uc
 by_cases h0:l.length=0
 ·rw[Ji,aaf h0,aac,aan h0]
 ·rw[Ji,aae h0,aab,aam h0]
  by_cases hb:20<l.length
  ·rw[bh (by omega),aan hb]
  ·rw[bw (by omega),aam hb]
   rw[FH (f:=oe) (fun i=>((l,l,(l.length:Int),(i:Int),()):og)) l (M3 l) () ?_ ?_ ?_ _ ?_]
   ·exact VL _ _
   ·rfl
   ·intro i y again hy
    have hi:=(YL.1 hy).1
    unfold oe
    dsimp only
    rw[bh (by omega),cK,hy,ZZ,lT,ZZ,aV (n:=(i:Int)+1) (by omega) (by omega)]
    unfold M3
    cases hn:bT y.1 with
    | false=>simp
    | true=>
     have tail:(Option.bind (bU y.2) fun r5=>bif r5.1 != 0 then some (Sum.inl (r5.1,())) else bif decide (y.2.1<0) then some (Sum.inl (1,())) else Option.bind (dW y.2 100) fun r6=>bif !r6.1 then some (Sum.inl (1,())) else again (l,l,(l.length:Int),(i:Int)+1,()))=if (if inR y.2 0 100 9=true then (0:Int) else 1)=0 then again (l,l,(l.length:Int),((i+1:Nat):Int),()) else some (Sum.inl (1,())):=by
      rw[gJ,ZZ]
      by_cases hd:dV y.2
      ·rw[Ta hd 100,qT hd 100 (by omega) (by omega)]
       generalize inR y.2 (-100) 100 9=b
       by_cases hneg:y.2.1<0
       ·simp[hd,hneg]
       ·cases b<;>simp[hd,hneg]
      ·have:inR y.2 0 100 9=false:=by unfold inR;simp[hd]
       simp[hd,this]
     simp only[XY,aab,X3,aal]
     cases i with
     | zero=>
      rw[bw (by omega),tail]
      simp only[EV,XR,aal]
      split<;>simp_all
     | succ i=>
      have hp:l[i]? =some (l[i]'(by omega)):=cu (by omega)
      rw[bh (by omega),Vq (by omega) hl,hp,ZZ]
      have ep:EV l (i+1) y=(Op.bytesLess y.1 (l[i]'(by omega)).1||y.1==(l[i]'(by omega)).1):=by simp only[EV,hp]
      rw[ep]
      cases (Op.bytesLess y.1 (l[i]'(by omega)).1||y.1==(l[i]'(by omega)).1) with
      | true=>simp
      | false=>
       simp only[aab]
       rw[tail]
       simp only[XR,aal]
       split<;>simp_all
   ·intro again
    unfold oe
    dsimp only
    rw[bw (by omega)]
   ·omega
def Rc (l:List aD) (i:Nat) (y:aD):Bool:=match i with
 | 0=>false
 | i+1=>match l[i]? with
  | some p=>decide (y.1≤p.1)
  | none=>false
def C5 (pl:Int) (rates:List aR) (lines:List aD) (i:Nat) (x:aD):Int:=
 if x.1<1∨99999<x.1 then 1
 else if Rc lines i x=true then 8
 else if x.2.1<1∨99999<x.2.1 then 1
 else if bT x.2.2.1=false then 5
 else if inR x.2.2.2.1 (-1000000000) 1000000000 3=false then 1
 else if x.2.2.2.1.1=0 then 13
 else if bT x.2.2.2.2.1=false then 5
 else if inR x.2.2.2.2.2.1 0 1000000000 4=false then 1
 else if x.2.2.2.2.2.2.1<1∨100000<x.2.2.2.2.2.2.1 then 1
 else if uT pl rates true x.2.2.2.2.2.2.2.1≠0 then uT pl rates true x.2.2.2.2.2.2.2.1
 else if (oV (·.1) x.2.2.2.2.2.2.2.2 rates).isSome=true then 0 else 5
theorem yZ (n:Int) (h0:0≤n) (h1:n≤18):zK n=some (10 ^ n.toNat,()):=Gl n h0 h1
theorem sK (d:ah):iM d=some (if inR d 0 1000000000 4=true then 0 else 1,()):=by
 unfold iM qs
 rw[gJ,ZZ]
 by_cases hd:dV d
 ·have hp:=xL d.2.toNat
  have hp2:(10:Int) ^ d.2.toNat≤1000000000:=by
   have:=ZU (n:=10) (by omega) (show d.2.toNat≤9 by have:=hd.2.2;omega)
   have h2:=Int.ofNat_le.2 this
   simpa using h2
  rw[yZ d.2 hd.2.1 (by have:=hd.2.2;omega)]
  dsimp only
  rw[aan hd,zne,aab]
  have e:inR d 0 1000000000 4=(decide (d.2≤4)&&(decide (d.1≥0)&&decide (d.1≤1000000000*10 ^ d.2.toNat))):=by
   unfold inR
   rw[← XQ, ← XQ,aad,Int.zero_mul]
   constructor
   ·rintro⟨_,h2,h3,h4⟩;exact⟨h2,h3,h4⟩
   ·rintro⟨h2,h3,h4⟩;exact⟨hd,h2,h3,h4⟩
  rw[e,ZZ,aV (n:=1000000000*10 ^ d.2.toNat) (by omega) (by omega)]
  cases decide (d.2≤4)<;>cases decide (d.1≥0)<;>cases decide (d.1≤1000000000*10 ^ d.2.toNat)<;>rfl
 ·have:inR d 0 1000000000 4=false:=by unfold inR;simp[hd]
  simp[hd,this]
end Go.Md
namespace Go.Md
open Go.Dn
theorem Tq {l:List aD} {i:Nat} (hi:i<l.length) (hl:l.length<1000000000):idx l (w64 (((i+1:Nat):Int) - 1))=l[i]? :=by
 rw[aV (by omega) (by omega),show ((i+1:Nat):Int) - 1=((i:Nat):Int) by omega,cK]
theorem Xd (d:ah):(if dV d then (decide (d.2>3)|| !inR d (-1000000000) 1000000000 9) else true)= !inR d (-1000000000) 1000000000 3:=by
 by_cases h:dV d
 ·rw[aan h,Uj (pl:=3) h]
  by_cases h3:d.2≤3
  ·have:¬ d.2>3:=by omega
   simp[h3,this]
  ·have:d.2>3:=by omega
   simp[h3,this]
 ·have:inR d (-1000000000) 1000000000 3=false:=by unfold inR;simp[h]
  simp[h,this]
theorem JB (v:aj) (i:Nat) (y:aD) (hl:v.2.2.2.2.2.2.1.length<1000000000) (hs:Asc (·.1) v.2.2.2.2.2.2.1) (hll:v.2.2.2.2.2.2.2.1.length<1000000000) (hy:v.2.2.2.2.2.2.2.1[i]? =some y):
 p8 v (i:Int)=some (C5 v.2.2.2.1 v.2.2.2.2.2.2.1 v.2.2.2.2.2.2.2.1 i y,()):=by
 unfold p8 C5
 have hR:=fun t=>CW v t hl hs
 have hE:=fun l=>yF v l true hl hs
 generalize v.2.2.2.2.2.2.1=rates at*
 generalize v.2.2.2.2.2.2.2.1=lines at*
 generalize v.2.2.2.1=pl at*
 have hi:=(YL.1 hy).1
 rw[cK,hy,ZZ]
 simp only[dP,lT,sK,hR,hE,ZZ,gJ]
 by_cases c1:y.1<1∨99999<y.1
 ·simp only[c1,aai,aac,aao]
 rw[aae c1,aab,aam c1]
 have tail:(bif decide (y.2.1<1∨99999<y.2.1) then some ((1:Int),()) else bif !bT y.2.2.1 then some (5,()) else bif (if dV y.2.2.2.1 then (0:Int) else 1) != 0 then some (if dV y.2.2.2.1 then (0:Int) else 1,()) else bif decide (y.2.2.2.1.2>3) then some (1,()) else
  Option.bind (dW y.2.2.2.1 1000000000) fun r7=>bif !r7.1 then some (1,()) else bif y.2.2.2.1.1==0 then some (13,()) else bif !bT y.2.2.2.2.1 then some (5,()) else bif (if inR y.2.2.2.2.2.1 0 1000000000 4=true then (0:Int) else 1) != 0 then some (if inR y.2.2.2.2.2.1 0 1000000000 4=true then (0:Int) else 1,()) else
  bif decide (y.2.2.2.2.2.2.1<1∨100000<y.2.2.2.2.2.2.1) then some (1,()) else bif uT pl rates true y.2.2.2.2.2.2.2.1 != 0 then some (uT pl rates true y.2.2.2.2.2.2.2.1,()) else bif !(oV (fun x:aR=>x.1) y.2.2.2.2.2.2.2.2 rates).isSome then some (5,()) else some (0,()))=
  some (if y.2.1<1∨99999<y.2.1 then 1 else if bT y.2.2.1=false then 5 else if inR y.2.2.2.1 (-1000000000) 1000000000 3=false then 1 else if y.2.2.2.1.1=0 then 13 else if bT y.2.2.2.2.1=false then 5 else if inR y.2.2.2.2.2.1 0 1000000000 4=false then 1
   else if y.2.2.2.2.2.2.1<1∨100000<y.2.2.2.2.2.2.1 then 1 else if uT pl rates true y.2.2.2.2.2.2.2.1≠0 then uT pl rates true y.2.2.2.2.2.2.2.1 else if (oV (fun x:aR=>x.1) y.2.2.2.2.2.2.2.2 rates).isSome=true then 0 else 5,()):=by
  by_cases c2:y.2.1<1∨99999<y.2.1
  ·simp only[c2,aai,aac,aao]
  rw[aae c2,aab,aam c2]
  cases bT y.2.2.1 with
  | false=>rfl
  | true=>
  simp only[XY,aab,X3,aal]
  have hq:=Xd y.2.2.2.1
  by_cases hd:dV y.2.2.2.1
  ·rw[aan hd] at hq
   rw[qT hd 1000000000 (by omega) (by omega)]
   rw[aan hd,zne,aab,ZZ]
   dsimp only
   have hq':inR y.2.2.2.1 (-1000000000) 1000000000 3= !(decide (y.2.2.2.1.2>3)|| !inR y.2.2.2.1 (-1000000000) 1000000000 9):=by rw[hq,Bool.not_not]
   rw[hq']
   cases decide (y.2.2.2.1.2>3) with
   | true=>rfl
   | false=>
    cases inR y.2.2.2.1 (-1000000000) 1000000000 9 with
    | false=>rfl
    | true=>
     simp only[XY,Bool.or_false,XX,aab,X3,aal]
     by_cases c3:y.2.2.2.1.1=0
     ·rw[show (y.2.2.2.1.1==0)=true by simpa using c3,aac,aan c3]
     ·rw[show (y.2.2.2.1.1==0)=false by simpa using c3,aab,aam c3]
      cases bT y.2.2.2.2.1 with
      | false=>rfl
      | true=>
       cases inR y.2.2.2.2.2.1 0 1000000000 4 with
       | false=>rfl
       | true=>
        simp only[XY,aab,X3,aal,aao]
        rw[zne,aab]
        by_cases c4:y.2.2.2.2.2.2.1<1∨100000<y.2.2.2.2.2.2.1
        ·simp only[c4,aai,aac,aao]
        ·rw[aae c4,aab,aam c4]
         by_cases c5:uT pl rates true y.2.2.2.2.2.2.2.1=0
         ·rw[c5,zne,aab,aam (by simp)]
          cases (oV (fun x:aR=>x.1) y.2.2.2.2.2.2.2.2 rates).isSome<;>rfl
         ·rw[show (uT pl rates true y.2.2.2.2.2.2.2.1 != 0)=true by simpa using c5,aac,aan c5]
  ·rw[aam hd] at hq
   have:inR y.2.2.2.1 (-1000000000) 1000000000 3=false:=by simpa using hq.symm
   rw[this,aam hd]
   rfl
 cases i with
 | zero=>
  rw[bw (by omega),tail]
  rfl
 | succ i=>
  have hp:lines[i]? =some (lines[i]'(by omega)):=cu (by omega)
  rw[bh (by omega),Tq (by omega) hll,hp,ZZ]
  have ep:Rc lines (i+1) y=decide (y.1≤(lines[i]'(by omega)).1):=by simp only[Rc,hp]
  rw[ep]
  cases decide (y.1≤(lines[i]'(by omega)).1) with
  | true=>rfl
  | false=>
   rw[aab,tail]
   rfl
def MK (v:aj):Int:=ru (C5 v.2.2.2.1 v.2.2.2.2.2.2.1 v.2.2.2.2.2.2.2.1) 0 v.2.2.2.2.2.2.2.1
def jG (v:aj):Int:=
 if bT v.1=false then 5 else if bT v.2.1=false then 5
 else if ¬(1≤v.2.2.1∧v.2.2.1≤3652059) then 1
 else if v.2.2.2.1<0∨4<v.2.2.2.1 then 1
 else if v.2.2.2.2.1<1∨6<v.2.2.2.2.1 then 4
 else if uc v.2.2.2.2.2.2.1≠0 then uc v.2.2.2.2.2.2.1
 else if v.2.2.2.2.2.2.2.1.length=0 then 9
 else if 500<v.2.2.2.2.2.2.2.1.length then 2
 else if MK v≠0 then MK v
 else uT v.2.2.2.1 v.2.2.2.2.2.2.1 false v.2.2.2.2.2.2.2.2
theorem W4 {γ:Type} (s:Int) (u:γ) (k:γ→Option (Int×Unit)) (z:Int) (hk:k u=some (z,())):aK (β:=Int×Unit) (γ:=γ) (if s=0 then some (Sum.inr u) else some (Sum.inl (s,()))) k=some (if s≠0 then s else z,()):=by
 by_cases h:s=0
 ·rw[aan h,cR,hk,aam (by simpa using h)]
 ·rw[aam h,z7,aan h]
theorem mj (v:aj):gL v=some (jG v,()):=by
 unfold gL jG
 simp only[lT,mU,dP,ZZ,BC]
 cases bT v.1 with
 | false=>rfl
 | true=>
 cases bT v.2.1 with
 | false=>rfl
 | true=>
 simp only[XY,aab,X3,aal]
 by_cases n_c1:¬(1≤v.2.2.1∧v.2.2.1≤3652059)
 ·rw[aae n_c1,aan n_c1];rfl
 have c1:=X5 n_c1
 rw[aaf c1,aam (by simpa using c1),XY,aab]
 by_cases c2:v.2.2.2.1<0∨4<v.2.2.2.1
 ·rw[aaf c2,aan c2];rfl
 rw[aae c2,aam c2,aab]
 by_cases c3:v.2.2.2.2.1<1∨6<v.2.2.2.2.1
 ·rw[aaf c3,aan c3];rfl
 rw[aae c3,aam c3,XX,XY,aab]
 by_cases n_hrl:¬(v.2.2.2.2.2.2.1.length<1000000000)
 ·have e:uc v.2.2.2.2.2.2.1=2:=by unfold uc;rw[aam (by omega),aan (by omega)]
  have e2:lB v.2.2.2.2.2.2.1=some (2,()):=by
   unfold lB
   rw[Ji,aae (by omega),aab,bh (by omega)]
  rw[e,e2];rfl
 have hrl:=X5 n_hrl
 rw[Hh _ hrl,ZZ]
 dsimp only
 by_cases n_c4:¬(uc v.2.2.2.2.2.2.1=0)
 ·rw[show (uc v.2.2.2.2.2.2.1 != 0)=true by simpa using n_c4,aac,aan n_c4]
 have c4:=X5 n_c4
 obtain⟨_,_,hs,_⟩:=Kq c4
 rw[c4,zne,aab,aam (by simp),Ji]
 by_cases c5:v.2.2.2.2.2.2.2.1.length=0
 ·rw[aaf c5,aac,aan c5]
 rw[aae c5,aab,aam c5]
 by_cases c6:500<v.2.2.2.2.2.2.2.1.length
 ·rw[bh (by omega),aan c6]
 rw[bw (by omega),aam c6]
 unfold MK
 rw[FH (f:=lz) (fun i=>(((v.2.2.2.2.2.2.2.1.length:Int)),(i:Int),v.1,v.2.1,v.2.2.1,v.2.2.2.1,v.2.2.2.2.1,v.2.2.2.2.2.1,v.2.2.2.2.2.2.1,v.2.2.2.2.2.2.2.1,v.2.2.2.2.2.2.2.2,()) ) v.2.2.2.2.2.2.2.1 (C5 v.2.2.2.1 v.2.2.2.2.2.2.1 v.2.2.2.2.2.2.2.1) (v.1,v.2.1,v.2.2.1,v.2.2.2.1,v.2.2.2.2.1,v.2.2.2.2.2.1,v.2.2.2.2.2.2.1,v.2.2.2.2.2.2.2.1,v.2.2.2.2.2.2.2.2,()) ?_ ?_ ?_ _ ?_]
 ·refine W4 _ _ _ _ ?_
  show Option.bind (iI v v.2.2.2.2.2.2.2.2 false) _=_
  rw[yF v _ false hrl hs,ZZ]
 ·rfl
 ·intro i y again hy
  have hi:=(YL.1 hy).1
  unfold lz
  show (bif decide ((i:Int)<(v.2.2.2.2.2.2.2.1.length:Int)) then Option.bind (p8 v (i:Int)) _ else _)=_
  rw[bh (by omega),JB v i y hrl hs (by omega) hy,ZZ]
  dsimp only
  rw[aV (n:=(i:Int)+1) (by omega) (by omega)]
  by_cases hz:C5 v.2.2.2.1 v.2.2.2.2.2.2.1 v.2.2.2.2.2.2.2.1 i y=0
  ·rw[hz];rfl
  ·rw[show (C5 v.2.2.2.1 v.2.2.2.2.2.2.1 v.2.2.2.2.2.2.2.1 i y != 0)=true by simpa using hz,aac,aam hz]
 ·intro again
  unfold lz
  dsimp only
  rw[bw (by omega)]
 ·omega
end Go.Md
namespace Go.Md
open Go.Dn
structure Xy (pl:Int) (x:bK):Prop where
 dec:dV x.2.1
 place:x.1=false→x.2.1.2≤pl
 nz:x.2.1.1≠0
structure Qe (pl:Int) (rates:List aR) (x:aD):Prop where
 q:dV x.2.2.2.1
 qp:x.2.2.2.1.2≤3
 qn:x.2.2.2.1.1≠0
 p:dV x.2.2.2.2.2.1
 pp:x.2.2.2.2.2.1.2≤4
 p0:0≤x.2.2.2.2.2.1.1
 per:1≤x.2.2.2.2.2.2.1∧x.2.2.2.2.2.2.1≤100000
 ext:uT pl rates true x.2.2.2.2.2.2.2.1=0
 rate:(oV (·.1) x.2.2.2.2.2.2.2.2 rates).isSome=true
theorem Te {pl:Int} {rates:List aR} {lines:List aD} {i:Nat} {x:aD} (h:C5 pl rates lines i x=0):Qe pl rates x:=by
 unfold C5 at h
 split at h
 ·omega
 split at h
 ·omega
 split at h
 ·omega
 split at h
 ·omega
 split at h
 ·omega
 rename_i h1
 split at h
 ·omega
 rename_i h2
 split at h
 ·omega
 split at h
 ·omega
 rename_i h3
 split at h
 ·omega
 rename_i h4
 split at h
 ·omega
 rename_i h5
 split at h
 ·rename_i h6
  have h1':inR x.2.2.2.1 (-1000000000) 1000000000 3=true:=by simpa using h1
  have h3':inR x.2.2.2.2.2.1 0 1000000000 4=true:=by simpa using h3
  unfold inR at h1' h3'
  rw[aag] at h1' h3'
  exact⟨h1'.1,h1'.2.1,h2,h3'.1,h3'.2.1,by have:=h3'.2.2.1;rw[Int.zero_mul] at this;exact this,by omega,by omega,h6⟩
 ·omega
structure W9 (v:aj):Prop where
 pl:0≤v.2.2.2.1∧v.2.2.2.1≤4
 way:1≤v.2.2.2.2.1∧v.2.2.2.2.1≤6
 rn:0<v.2.2.2.2.2.2.1.length∧v.2.2.2.2.2.2.1.length≤20
 asc:Asc (·.1) v.2.2.2.2.2.2.1
 rates:∀ r∈v.2.2.2.2.2.2.1,inR r.2 0 100 9=true
 ln:0<v.2.2.2.2.2.2.2.1.length∧v.2.2.2.2.2.2.2.1.length≤500
 lines:∀ x∈v.2.2.2.2.2.2.2.1,Qe v.2.2.2.1 v.2.2.2.2.2.2.1 x
 ext:uT v.2.2.2.1 v.2.2.2.2.2.2.1 false v.2.2.2.2.2.2.2.2=0
theorem Ik {v:aj} (h:jG v=0):W9 v:=by
 unfold jG at h
 split at h
 ·omega
 split at h
 ·omega
 split at h
 ·omega
 split at h
 ·omega
 split at h
 ·omega
 split at h
 ·omega
 rename_i h1
 split at h
 ·omega
 split at h
 ·omega
 split at h
 ·omega
 rename_i h2
 have hr:=Kq (show uc v.2.2.2.2.2.2.1=0 by omega)
 refine⟨by omega,by omega,⟨hr.1,hr.2.1⟩,hr.2.2.1,hr.2.2.2,by omega,fun x hx=> ?_,h⟩
 obtain⟨i,hi⟩:=Zb.1 hx
 have:=F5 (show MK v=0 by omega) i x hi
 exact Te this
end Go.Md
namespace Go.Md
open Go.Dn
theorem Ix:∀ (n:Nat) (l:List Nat),l.Nodup→(∀ x∈l,x<n)→l.length≤n
 | 0,l,_,h=>by
  cases l with
  | nil=>simp
  | cons a r=>exact absurd (h a (by simp)) (ZR _)
 | n+1,l,hd,h=>by
  by_cases hm:n∈l
  ·have h1:=Ix n (l.erase n) (hd.erase n) (fun x hx=>by
    have:=(hd.mem_erase_iff).1 hx
    have:=h x this.2
    omega)
   rw[List.length_erase_of_mem hm] at h1
   omega
  ·have:=Ix n l hd (fun x hx=>by
    have h2:=h x hx
    have:x≠n:=fun e=>hm (e ▸ hx)
    omega)
   omega
def itp (par:Nat→Option Nat):Nat→Nat→Option Nat
 | 0,i=>some i
 | j+1,i=>(par i).bind (itp par j)
def Av (par:Nat→Option Nat) (i k d:Nat):Prop:=itp par (d+1) k=some i∧∀ e,e<d→itp par (e+1) k≠some i
theorem Av.uniq {par:Nat→Option Nat} {i k d e:Nat} (h:Av par i k d) (h':Av par i k e):d=e:=by
 rcases ZM d e with h1 | h1 | h1
 ·exact absurd h.1 (h'.2 d h1)
 ·exact h1
 ·exact absurd h'.1 (h.2 e h1)
theorem Av.step {par:Nat→Option Nat} {i k d:Nat} (h:Av par i k d):∃ k',par k=some k'∧((k'=i∧d=0)∨(k'≠i∧∃ e,d=e+1∧Av par i k' e)):=by
 obtain⟨h1,h2⟩:=h
 simp only[itp] at h1
 cases hp:par k with
 | none=>rw[hp] at h1;cases h1
 | some k'=>
  rw[hp] at h1
  refine⟨k',rfl, ?_⟩
  cases d with
  | zero=>simp only[ZZ,itp,Option.some.injEq] at h1;exact .inl ⟨h1,rfl⟩
  | succ e=>
   right
   refine⟨fun e1=> ?_,e,rfl,by simpa using h1,fun f hf hx=> ?_⟩
   ·refine h2 0 (by omega) ?_
    simp only[itp,hp,ZZ,e1]
   ·refine h2 (f+1) (by omega) ?_
    rw[show f+1+1=(f+1)+1 from rfl]
    show (par k).bind (itp par (f+1))=some i
    rw[hp];exact hx
theorem Av.list {par:Nat→Option Nat} {i n:Nat} (hn:∀ k k',par k=some k'→k'<n):∀ {d k:Nat},k<n→Av par i k d→∃ l:List Nat,l.length=d+1∧l.Nodup∧(∀ x∈l,x<n)∧∀ x∈l,∃ e,e≤d∧Av par i x e
 | 0,k,hk,h=>⟨[k],rfl,by simp,by simpa using hk,fun x hx=>by simp at hx;subst hx;exact⟨0,ZE _,h⟩⟩
 | d+1,k,hk,h=>by
  obtain⟨k',h1,h2⟩:=h.step
  rcases h2 with ⟨_,h2⟩ | ⟨_,e,h2,h3⟩
  ·omega
  ·have:e=d:=by omega
   subst this
   obtain⟨l,l1,l2,l3,l4⟩:=Av.list hn (hn _ _ h1) h3
   refine⟨k::l,by simp[l1],List.nodup_cons.2 ⟨fun hm=> ?_,l2⟩,fun x hx=> ?_,fun x hx=> ?_⟩
   ·obtain⟨f,f1,f2⟩:=l4 k hm
    have:=f2.uniq h
    omega
   ·rcases Y7.1 hx with rfl | hx
    ·exact hk
    ·exact l3 x hx
   ·rcases Y7.1 hx with rfl | hx
    ·exact⟨e+1,ZE _,h⟩
    ·obtain⟨f,f1,f2⟩:=l4 x hx;exact⟨f,by omega,f2⟩
theorem Av.le {par:Nat→Option Nat} {i n d k:Nat} (hn:∀ k k',par k=some k'→k'<n) (hk:k<n) (h:Av par i k d):d+1≤n:=by
 obtain⟨l,l1,l2,l3,_⟩:=h.list hn hk
 have:=Ix n l l2 l3
 omega
end Go.Md
namespace Go.Md
open Go.Dn
def qOk (d:ah) (zero:Bool):Bool:=inR d 0 1000000000 3&&(!(d.1==0)||zero)
theorem MT {d:ah} (hd:dV d):qs d 3 1000000000=some (inR d 0 1000000000 3,()):=by
 unfold qs
 have hp:=xL d.2.toNat
 have hp2:(10:Int) ^ d.2.toNat≤1000000000:=by
  have:=ZU (n:=10) (by omega) (show d.2.toNat≤9 by have:=hd.2.2;omega)
  have h2:=Int.ofNat_le.2 this
  simpa using h2
 rw[yZ d.2 hd.2.1 (by have:=hd.2.2;omega)]
 have e:inR d 0 1000000000 3=(decide (d.2≤3)&&(decide (d.1≥0)&&decide (d.1≤1000000000*10 ^ d.2.toNat))):=by
  unfold inR
  rw[← XQ, ← XQ,aad,Int.zero_mul]
  constructor
  ·rintro⟨_,h2,h3,h4⟩;exact⟨h2,h3,h4⟩
  ·rintro⟨h2,h3,h4⟩;exact⟨hd,h2,h3,h4⟩
 rw[e,ZZ,aV (n:=1000000000*10 ^ d.2.toNat) (by omega) (by omega)]
 cases decide (d.2≤3)<;>cases decide (d.1≥0)<;>cases decide (d.1≤1000000000*10 ^ d.2.toNat)<;>rfl
theorem wk (d:ah) (z:Bool):jS d z=some (if qOk d z=true then 0 else 1,()):=by
 unfold jS qOk
 rw[gJ,ZZ]
 by_cases hd:dV d
 ·rw[MT hd,aan hd]
  dsimp only
  rw[zne,aab,ZZ]
  cases inR d 0 1000000000 3<;>cases (d.1==0)<;>cases z<;>rfl
 ·have:inR d 0 1000000000 3=false:=by unfold inR;simp[hd]
  simp[hd,this]
end Go.Md
