/-
  Plain facts: products, powers, rounding; the order of strings; decimals. No condition.
-/
import Derived.Test.YtbjhpnieokphbaaGreatDoorYq
import Derived.Test.YtbjhpnieokphbaaGreatDoorYn
set_option linter.all false
namespace Go.Md
open Go.Dn
theorem Jt (a b:List Int):zB a b=vA a b:=rfl
theorem wj (x y:Int) (hx:x.natAbs<4294967296 ^ 99) (hy:y.natAbs<4294967296 ^ 99):gj (W x) (W y)=some (W (x+y),()):=by
 have hlx:=mc hx
 have hly:=mc hy
 unfold gj W
 dsimp only
 by_cases hs:decide (x<0)=decide (y<0)
 ·rw[show (decide (x<0)==decide (y<0))=true by simp[hs],WD,Jt]
  obtain⟨s,h1,h2,h3,h4⟩:=DG (aW x.natAbs) (aW y.natAbs) (cL _) (cL _) (by omega) (by omega)
  rw[h1,Wq]
  dsimp only
  rw[fI _ _ h2 (by omega),Wq,h3,cH,cH]
  simp only[WE] at hs
  show some (W _,())=some (W (x+y),())
  congr 3
  by_cases h:x<0
  ·simp only[h,WK,WR];omega
  ·simp only[h,WJ,Ud,WN];omega
 ·rw[show (decide (x<0)==decide (y<0))=false by simp[hs],WC]
  obtain⟨c,h1,h2,h3⟩:=yj x.natAbs y.natAbs (by omega) (by omega)
  rw[h1,Wq]
  dsimp only
  simp only[WE] at hs
  have hlen:∀ a b:Nat,b≤a→(aW b).length≤(aW a).length:=fun a b h=>by
   rcases V8 (aW a).length (aW b).length with h' | h'
   ·have:=iL h';omega
   ·exact h'
  by_cases hc:c≥0
  ·rw[aG hc,we _ _ (cL _) (cL _) (by omega) (hlen _ _ (by omega)) (by rw[cH,cH];omega),Wq]
   dsimp only
   rw[fI _ _ (cL _) (by have:=hlen x.natAbs (v32 (aW x.natAbs) - v32 (aW y.natAbs)).toNat (by rw[cH,cH];omega);omega),Wq]
   rw[cH,cH,cH]
   show some (W _,())=some (W (x+y),())
   congr 3
   by_cases h:x<0
   ·simp only[h,WK,WR];omega
   ·simp only[h,WJ,Ud,WN];omega
  ·rw[aN hc,we _ _ (cL _) (cL _) (by omega) (hlen _ _ (by omega)) (by rw[cH,cH];omega),Wq]
   dsimp only
   rw[fI _ _ (cL _) (by have:=hlen y.natAbs (v32 (aW y.natAbs) - v32 (aW x.natAbs)).toNat (by rw[cH,cH];omega);omega),Wq]
   rw[cH,cH,cH]
   show some (W _,())=some (W (x+y),())
   congr 3
   by_cases h:y<0
   ·simp only[h,WK,WR];omega
   ·simp only[h,WJ,Ud,WN];omega
theorem NG {x y z c:Int} (hx:0≤x∧x<4294967296) (hy:0≤y∧y<4294967296) (hz:0≤z∧z<4294967296) (hc:0≤c∧c<4294967296):0≤x*y∧x*y≤18446744065119617025∧c+(z+x*y)≤18446744073709551615:=by
 have h1:0≤x*y:=Uu hx.1 hy.1
 have h2:x*y≤4294967295*4294967295:=Int.mul_le_mul (by omega) (by omega) (by omega) (by omega)
 omega
theorem EI (i:Nat) (x:Int) (ga:List Int) (gn gi:Int) (b:List Int) (s1:Bool) (l1:List Int) (s2:Bool) (l2:List Int) (s3:Bool) (l3:List Int) (out:List Int) (hx:0≤x∧x<4294967296) (hb:Dg b) (hbl:b.length<10000) (hil:i<10000) (ho:i+b.length≤out.length) (hol:out.length<100000) (hd:Dg out) (n:Nat) (hn:b.length<n):
 ∃ o c,iter n (((i:Int),x,(0:Int),ga,gn,gi,b,(b.length:Int),(0:Int),s1,l1,s2,l2,s3,l3,out,()):gG) kD=some (Sum.inr ((i:Int),c,ga,gn,gi,s1,l1,s2,l2,s3,l3,o,()))∧
  Dg o∧o.length=out.length∧0≤c∧c<4294967296∧v32 o+4294967296 ^ (i+b.length)*c=v32 out+4294967296 ^ i*x*v32 b∧∀ j,i+b.length≤j→o[j]? =out[j]? :=by
 refine bJ (Inv:=fun k X=>∃ o c,X=(((i:Int),x,c,ga,gn,gi,b,(b.length:Int),(k:Int),s1,l1,s2,l2,s3,l3,o,()):gG)∧Dg o∧o.length=out.length∧0≤c∧c<4294967296∧v32 o+4294967296 ^ (i+k)*c=v32 out+4294967296 ^ i*x*v32 (b.take k)∧∀ j,i+k≤j→o[j]? =out[j]?) b.length
  (fun r=>∃ o c,r=some (Sum.inr ((i:Int),c,ga,gn,gi,s1,l1,s2,l2,s3,l3,o,()))∧Dg o∧o.length=out.length∧0≤c∧c<4294967296∧v32 o+4294967296 ^ (i+b.length)*c=v32 out+4294967296 ^ i*x*v32 b∧∀ j,i+b.length≤j→o[j]? =out[j]?) ?_ ?_ n 0 _ ⟨out,0,rfl,hd,rfl,by omega,by omega,by simp[ur],fun _ _=>rfl⟩ (by omega) (by omega)
 ·rintro k _ again hk ⟨o,c,rfl,h1,h2,h3,h4,h5,h6⟩ ih
  unfold kD
  dsimp only
  have hy:b[k]? =some b[k]:=az hk
  have hyd:=hb.get hy
  have hts:=eE hy
  have hz:o[i+k]? =some (o[i+k]'(by omega)):=az (by omega)
  have hzd:=h1.get hz
  generalize b[k]=y at hy hyd hts
  generalize o[i+k]'(by omega)=z at hz hzd
  obtain⟨m1,m2,m3⟩:=NG hx hyd hzd ⟨h3,h4⟩
  have e1:w64 ((i:Int)+(k:Int))=((i+k:Nat):Int):=by rw[ax (by omega) (by omega)];omega
  rw[aG (by omega),bF,hy,Wq,e1,bn (by simp only[T9,WI];omega),UD,hz,Wq,bn (by simp only[T9,WI];omega),Wq,
   cE (n:=x) (by omega) (by omega),cE (n:=y) (by omega) (by omega),cE (n:=z) (by omega) (by omega),cE (n:=x*y) (by omega) (by omega),cE (n:=z+x*y) (by omega) (by omega),cE (n:=c+(z+x*y)) (by omega) (by omega),uz,LN,ax (n:=(k:Int)+1) (by omega) (by omega)]
  generalize ht:c+(z+x*y)=t at*
  refine ih _ ⟨_,_,rfl,h1.set (by omega),by rw[Vn];exact h2,by omega,by omega, ?_,fun j hj=> ?_⟩
  ·rw[D3 hz,hts]
   have e2:(4294967296:Int) ^ (i+(k+1))=4294967296 ^ i*4294967296 ^ k*4294967296:=by rw[← VT,Uy,Ux]
   have e3:(4294967296:Int) ^ (i+k)=4294967296 ^ i*4294967296 ^ k:=Ux ..
   rw[e3] at h5
   rw[e2,e3]
   have e4:=Int.mul_ediv_add_emod t 4294967296
   generalize (4294967296:Int) ^ i=p at*
   generalize (4294967296:Int) ^ k=q at*
   generalize t / 4294967296=d at*
   generalize t % 4294967296=r at*
   grind
  ·rw[Vb (by omega)];exact h6 j (by omega)
 ·rintro _ again ⟨o,c,rfl,h1,h2,h3,h4,h5,h6⟩
  unfold kD
  dsimp only
  rw[aN (by omega)]
  rw[VQ (V2 _)] at h5
  exact⟨o,c,rfl,h1,h2,h3,h4,h5,h6⟩
theorem EJ (a b:List Int) (ha:Dg a) (hb:Dg b) (hal:a.length<1000) (hbl:b.length<1000) (s1 s2 s3:Bool) (l3:List Int) (n:Nat) (hn:a.length<n):
 ∃ o,iter n ((a,(a.length:Int),(0:Int),s1,a,s2,b,s3,l3,List.replicate (a.length+b.length) 0,()):gE) kC=some (Sum.inr (s1,a,s2,b,s3,l3,o,()))∧Dg o∧o.length=a.length+b.length∧v32 o=v32 a*v32 b:=by
 refine bJ (Inv:=fun i X=>∃ o,X=((a,(a.length:Int),(i:Int),s1,a,s2,b,s3,l3,o,()):gE)∧Dg o∧o.length=a.length+b.length∧v32 o=v32 (a.take i)*v32 b∧∀ j,i+b.length≤j→j<a.length+b.length→o[j]? =some 0) a.length
  (fun r=>∃ o,r=some (Sum.inr (s1,a,s2,b,s3,l3,o,()))∧Dg o∧o.length=a.length+b.length∧v32 o=v32 a*v32 b) ?_ ?_ n 0 _ ⟨_,rfl,fun d hd=>by rw[List.mem_replicate] at hd;omega,by simp,by rw[BU];simp[ur],fun j _ hj=>by rw[List.getElem?_replicate,WQ hj]⟩ (by omega) (by omega)
 ·rintro i _ again hi ⟨o,rfl,h1,h2,h3,h4⟩ ih
  unfold kC
  dsimp only
  have hy:a[i]? =some a[i]:=az hi
  have hyd:=ha.get hy
  have hts:=eE hy
  generalize a[i]=x at hy hyd hts
  rw[aG (by omega),bF,hy,Wq]
  obtain⟨o',c,k1,k2,k3,k4,k5,k6,k7⟩:=EI i x a (a.length:Int) (i:Int) b s1 a s2 b s3 l3 o hyd hb (by omega) (by omega) (by omega) (by omega) h1 (Int.natAbs (i:Int)+(Int.natAbs x+(Int.natAbs (0:Int)+(List.length a+(Int.natAbs (a.length:Int)+(Int.natAbs (i:Int)+(List.length b+(Int.natAbs ((List.length b:Int))+(Int.natAbs (0:Int)+(List.length a+(List.length b+(List.length l3+(List.length o+2))))))))))))) (by omega)
  rw[k1,aU]
  dsimp only
  have e1:w64 ((i:Int)+(b.length:Int))=((i+b.length:Nat):Int):=by rw[ax (by omega) (by omega)];omega
  have hz:o'[i+b.length]? =some 0:=by rw[k7 _ (V2 _)];exact h4 _ (V2 _) (by omega)
  rw[e1,bn (by simp only[T9,WI];omega),UD,hz,Wq,uy (by omega) (by omega),ax (n:=(i:Int)+1) (by omega) (by omega)]
  refine ih _ ⟨_,rfl,k2.set (by omega),by rw[Vn];omega, ?_,fun j hj hj2=> ?_⟩
  ·rw[D3 hz,hts]
   have e3:(4294967296:Int) ^ (i+b.length)=4294967296 ^ i*4294967296 ^ b.length:=Ux ..
   rw[e3] at k6 ⊢
   grind
  ·rw[Vb (by omega),k7 j (by omega)];exact h4 j (by omega) hj2
 ·rintro _ again ⟨o,rfl,h1,h2,h3,h4⟩
  unfold kC
  dsimp only
  rw[aN (by omega)]
  rw[VQ (V2 _)] at h3
  exact⟨o,rfl,h1,h2,h3⟩
theorem vz (x y:Int) (hx:x.natAbs<4294967296 ^ 99) (hy:y.natAbs<4294967296 ^ 99):kz (W x) (W y)=some (W (x*y),()):=by
 have hlx:=mc hx
 have hly:=mc hy
 unfold kz W
 dsimp only
 have e1:w64 (((aW x.natAbs).length:Int)+((aW y.natAbs).length:Int))=(((aW x.natAbs).length+(aW y.natAbs).length:Nat):Int):=by rw[ax (by omega) (by omega)];omega
 rw[e1,bn (by simp only[T9,WI];omega)]
 obtain⟨o,h1,h2,h3,h4⟩:=EJ (aW x.natAbs) (aW y.natAbs) (cL _) (cL _) (by omega) (by omega) (decide (x<0)) (decide (y<0)) false [] (List.length (aW x.natAbs)+(Int.natAbs ((List.length (aW x.natAbs):Int))+(Int.natAbs (0:Int)+(List.length (aW x.natAbs)+(List.length (aW y.natAbs)+(List.length ([]:List Int)+(List.length ((List.replicate (Int.toNat (((aW x.natAbs).length+(aW y.natAbs).length:Nat):Int)) 0):List Int)+2))))))) (by omega)
 rw[UD] at h1 ⊢
 rw[h1,aU]
 dsimp only
 rw[fI _ _ h2 (by omega),Wq,h4,cH,cH]
 show some (W _,())=some (W (x*y),())
 congr 3
 rw[← Int.natCast_mul, ← Int.natAbs_mul]
 by_cases h:x<0<;>by_cases h':y<0
 ·have:=Int.mul_pos_of_neg_of_neg h h'
  simp[h,h'];omega
 ·have:=Uu (show 0≤ -x by omega) (show 0≤y by omega)
  rw[Int.neg_mul] at this
  simp[h,h'];omega
 ·have:=Uu (show 0≤x by omega) (show 0≤ -y by omega)
  rw[Int.mul_neg] at this
  simp[h,h'];omega
 ·have:=Uu (show 0≤x by omega) (show 0≤y by omega)
  simp[h,h'];omega
end Go.Md
namespace Go.Md
open Go.Dn
def Le (k:Nat) (z:Int):Prop:=z.natAbs≤10 ^ k
theorem Le.mul {a b:Nat} {x y:Int} (hx:Le a x) (hy:Le b y):Le (a+b) (x*y):=by
 unfold Le at*
 rw[Int.natAbs_mul,Wl]
 exact Nat.mul_le_mul hx hy
theorem Le.mono {a b:Nat} {x:Int} (hx:Le a x) (h:a≤b):Le b x:=V3 hx (Wm (by omega) h)
theorem Le.add {a:Nat} {x y:Int} (hx:Le a x) (hy:Le a y):Le (a+1) (x+y):=by
 unfold Le at*
 rw[Wn]
 omega
theorem Le.neg {a:Nat} {x:Int} (hx:Le a x):Le a (-x):=by unfold Le at *;omega
theorem Le.w {k:Nat} {z:Int} (h:Le k z) (hk:k≤900):z.natAbs<4294967296 ^ 99:=
 V5 (h.mono hk) (by decide +kernel)
theorem Le.n {k:Nat} {z:Int} (h:Le k z) (hk:k≤500):(dg6 z.natAbs).length<90:=by
 have:=NM (k:=84) (n:=z.natAbs) (V5 (h.mono hk) (by decide +kernel))
 omega
theorem Le.pow (n:Nat):Le n (10 ^ n):=by
 unfold Le
 rw[Int.natAbs_pow];exact V2 _
theorem Le.int {n:Int} (h1: -9223372036854775808≤n) (h2:n≤9223372036854775807):Le 19 n:=by unfold Le;omega
theorem Le.succ {k n:Nat} (h:Le k (n:Int)):Le (k+1) ((n+1:Nat):Int):=by
 unfold Le at*
 rw[Wn]
 have:1≤10 ^ k:=Nat.pow_pos (by omega)
 omega
theorem Jq (n:Nat) (hn:n≤60):uT (n:Int)=some (W (10 ^ n),()):=by
 unfold uT
 rw[nK 1 (by omega) (by omega),Wq]
 dsimp only
 have loop:∀ (f:Nat),n<f→iter f (((n:Int),(0:Int),false,([]:List Int),(W 1).1,(W 1).2,()):lQ) pR=some (Sum.inr (false,[],(W (10 ^ n)).1,(W (10 ^ n)).2,())):=by
  intro f hf
  refine bJ (Inv:=fun i X=>X=(((n:Int),(i:Int),false,([]:List Int),(W (10 ^ i)).1,(W (10 ^ i)).2,()):lQ)) n (fun r=>r=some (Sum.inr (false,[],(W (10 ^ n)).1,(W (10 ^ n)).2,()))) ?_ ?_ f 0 _ rfl (by omega) (by omega)
  ·rintro i _ again hi rfl ih
   unfold pR
   dsimp only
   rw[aG (by omega),nK 10 (by omega) (by omega),Wq]
   dsimp only
   rw[vz (10 ^ i) 10 ((Le.pow i).w (by omega)) ((Le.int (n:=10) (by omega) (by omega)).w (by omega)),Wq,ax (by omega) (by omega)]
   refine ih _ ?_
   rw[Uy]
   rfl
  ·rintro _ again rfl
   unfold pR
   dsimp only
   rw[aN (by omega)]
 rw[loop _ (by omega),aU]
theorem w8 (d:ai) (p:Int) (h1: -9223372036854775808≤d.1) (h2:d.1≤9223372036854775807) (hp0:0≤p - d.2) (hp:p - d.2≤60) (hd: -1000≤d.2∧d.2≤1000):eD d p=some (W (d.1*10 ^ (p - d.2).toNat),()):=by
 unfold eD
 rw[nK _ h1 h2,Wq,ax (by omega) (by omega)]
 obtain⟨n,hn⟩:∃ n:Nat,p - d.2=n:=⟨(p - d.2).toNat,by omega⟩
 rw[hn,Jq n (by omega),Wq]
 dsimp only
 rw[vz _ _ ((Le.int h1 h2).w (by omega)) ((Le.pow n).w (by omega)),Wq,UD]
end Go.Md
namespace Go.Md
open Go.Dn
end Go.Md
namespace Go.Md
open Go.Dn
end Go.Md
namespace Go.Md
open Go.Dn
theorem dJ:∀ a:List UInt8,Op.bytesLess a a=false
 | []=>rfl
 | x::a=>by simp[Op.bytesLess,dJ a]
theorem uY:∀ {a b:List UInt8},Lib.compareBytes a b=0↔a=b
 | [],[]=>by simp[Lib.compareBytes]
 | [],_::_=>by simp[Lib.compareBytes]
 | _::_,[]=>by simp[Lib.compareBytes]
 | x::a,y::b=>by
  simp only[Lib.compareBytes,List.cons.injEq]
  by_cases h1:x<y
  ·simp only[h1,WR]
   constructor
   ·intro h;omega
   ·rintro⟨rfl,_⟩;exact absurd h1 (UInt8.lt_irrefl x)
  ·by_cases h2:y<x
   ·simp only[h1,h2,WR,WN]
    constructor
    ·intro h;omega
    ·rintro⟨rfl,_⟩;exact absurd h2 (UInt8.lt_irrefl x)
   ·have:x=y:=UInt8.le_antisymm (Ww.1 h2) (Ww.1 h1)
    subst this
    simp only[h1,WN,true_and]
    exact uY
theorem tw:∀ {a b:List UInt8},Lib.compareBytes a b<0↔Op.bytesLess a b=true
 | [],[]=>by simp[Lib.compareBytes,Op.bytesLess]
 | [],_::_=>by simp[Lib.compareBytes,Op.bytesLess]
 | _::_,[]=>by simp[Lib.compareBytes,Op.bytesLess]
 | x::a,y::b=>by
  have ih:= @tw a b
  simp only[Lib.compareBytes,Op.bytesLess]
  by_cases h1:x<y
  ·simp[h1]
  ·by_cases h2:y<x
   ·have hne:¬ x=y:=fun e=>by subst e;exact absurd h2 (UInt8.lt_irrefl x)
    simp[h1,h2,hne]
   ·have:x=y:=UInt8.le_antisymm (Ww.1 h2) (Ww.1 h1)
    subst this
    simp[h1,ih]
theorem kF:∀ {a b c:List UInt8},Op.bytesLess a b=true→Op.bytesLess b c=true→Op.bytesLess a c=true
 | [],[],_,h,_=>by simp[Op.bytesLess] at h
 | [],_::_,[],_,h=>by simp[Op.bytesLess] at h
 | [],_::_,_::_,_,_=>rfl
 | _::_,[],_,h,_=>by simp[Op.bytesLess] at h
 | _::_,_::_,[],_,h=>by simp[Op.bytesLess] at h
 | x::a,y::b,z::c,h,k=>by
  simp only[Op.bytesLess,Um,T9,WI,Wz] at h k ⊢
  rcases h with h | ⟨rfl,h⟩
  ·rcases k with k | ⟨rfl,k⟩
   ·exact .inl (UInt8.lt_trans h k)
   ·exact .inl h
  ·rcases k with k | ⟨rfl,k⟩
   ·exact .inl k
   ·exact .inr ⟨rfl,kF h k⟩
theorem MP {a b:List UInt8} (h:Op.bytesLess a b=true):Op.bytesLess b a=false:=by
 cases hb:Op.bytesLess b a with
 | false=>rfl
 | true=>have:=kF h hb;rw[dJ] at this;cases this
theorem Ct (a b:List UInt8):Op.bytesLess a b=true∨a=b∨Op.bytesLess b a=true:=by
 induction a generalizing b with
 | nil=>cases b with
  | nil=>simp
  | cons y b=>simp[Op.bytesLess]
 | cons x a ih=>cases b with
  | nil=>simp[Op.bytesLess]
  | cons y b=>
   simp only[Op.bytesLess,Um,T9,WI,Wz,List.cons.injEq]
   by_cases h1:x<y
   ·simp[h1]
   ·by_cases h2:y<x
    ·simp[h2]
    ·have:x=y:=UInt8.le_antisymm (Ww.1 h2) (Ww.1 h1)
     subst this
     rcases ih b with h | h | h<;>simp[h]
def Asc {α:Type} (key:α→List UInt8) (l:List α):Prop:=∀ (i j:Nat) (x y:α),i<j→l[i]? =some x→l[j]? =some y→Op.bytesLess (key x) (key y)=true
def ff {α:Type} (key:α→List UInt8) (t:List UInt8) (l:List α):Option Nat:=l.findIdx? (fun r=>key r==t)
theorem rW {α:Type} {key:α→List UInt8} {t:List UInt8} {l:List α} {k:Nat} (h:ff key t l=some k):∃ x,l[k]? =some x∧key x=t:=by
 unfold ff at h
 rw[List.findIdx?_eq_some_iff_getElem] at h
 obtain⟨h1,h2,_⟩:=h
 exact⟨_,U5 h1,by simpa using h2⟩
theorem Qb {α:Type} {key:α→List UInt8} {t:List UInt8} {l:List α} (h:ff key t l=none):∀ x∈l,key x≠t:=by
 unfold ff at h
 rw[List.findIdx?_eq_none_iff] at h
 intro x hx e
 have:=h x hx
 simp[e] at this
theorem NR {α:Type} {key:α→List UInt8} {t:List UInt8} {l:List α} (hs:Asc key l) {k:Nat} {x:α} (hk:l[k]? =some x) (hx:key x=t):ff key t l=some k:=by
 cases h:ff key t l with
 | none=>exact absurd hx (Qb h x (VA hk))
 | some j=>
  obtain⟨y,h1,h2⟩:=rW h
  rcases Wc j k with hlt | rfl | hlt
  ·have:=hs j k y x hlt h1 hk
   rw[h2,hx,dJ] at this;cases this
  ·rfl
  ·have:=hs k j x y hlt hk h1
   rw[h2,hx,dJ] at this;cases this
end Go.Md
namespace Go.Md
open Go.Dn
instance (d:ai):Decidable (cA d):=by unfold cA;exact inferInstance
def inR (d:ai) (lo hi pl:Int):Bool:=decide (cA d∧d.2≤pl∧lo*10 ^ d.2.toNat≤d.1∧d.1≤hi*10 ^ d.2.toNat)
theorem ym (d:ai):fS d=some (if cA d then 0 else 1,()):=by
 rw[yW]
 congr 2
 by_cases h:cA d
 ·rw[WQ h,WQ (by unfold cA at h;omega)]
 ·rw[WO h,WO (by unfold cA at h;omega)]
def TF (pl:Int) (rates:List wo) (line:Bool) (x:qi):Int:=
 if cA x.2.1 then
  (if x.2.1.1=0 then 13
  else if (if x.1=true then inR x.2.1 (-100) 100 9 else inR x.2.1 (-1000000000) 1000000000 pl)=true then
   (if x.2.2=[] then 0 else if line=true then 3 else if (ff (·.1) x.2.2 rates).isSome=true then 0 else 5)
  else 1)
 else 1
def RP (pl:Int) (rates:List wo) (line:Bool) (l:List qi):Int:=if 20<l.length then 2 else dy (fun _ x=>TF pl rates line x) 0 l
theorem Pn {γ:Type} (s:Int) (u:γ):bw (β:=Int×Unit) (γ:=γ) (if s=0 then some (Sum.inr u) else some (Sum.inl (s,()))) (fun _=>some (0,()))=some (s,()):=by
 by_cases h:s=0
 ·rw[WQ h,aU,h]
 ·rw[WO h,eS]
theorem me {X α:Type} {γ:Type} {f:X→(X→Option ((Int×Unit) ⊕ γ))→Option ((Int×Unit) ⊕ γ)} {x0:X} (mk:Nat→X) (l:List α) (g:Nat→α→Int) (u:γ) (h0:x0=mk 0)
 (hstep:∀ i y again,l[i]? =some y→f (mk i) again=if g i y=0 then again (mk (i+1)) else some (Sum.inl (g i y,()))) (hend:∀ again,f (mk l.length) again=some (Sum.inr u)) (n:Nat) (hn:l.length<n):
 iter n x0 f=if dy g 0 l=0 then some (Sum.inr u) else some (Sum.inl (dy g 0 l,())):=by
 rw[h0];exact JR mk l g u hstep hend l 0 n rfl (Wp _) hn
end Go.Md
namespace Go.Md
open Go.Dn
theorem I6 (n:Int) (h0:0≤n) (h1:n≤18):zm n=some (10 ^ n.toNat,()):=Kq n h0 h1
end Go.Md
namespace Go.Md
open Go.Dn
theorem Te {γ:Type} (s:Int) (u:γ) (k:γ→Option (Int×Unit)) (z:Int) (hk:k u=some (z,())):bw (β:=Int×Unit) (γ:=γ) (if s=0 then some (Sum.inr u) else some (Sum.inl (s,()))) k=some (if s≠0 then s else z,()):=by
 by_cases h:s=0
 ·rw[WQ h,aU,hk,WO (by simpa using h)]
 ·rw[WO h,eS,WQ h]
end Go.Md
namespace Go.Md
open Go.Dn
structure TO (pl:Int) (x:qi):Prop where
 dec:cA x.2.1
 place:x.1=false→x.2.1.2≤pl
 nz:x.2.1.1≠0
structure SC (pl:Int) (rates:List wo) (x:zC):Prop where
 q:cA x.2.2.2.1
 qp:x.2.2.2.1.2≤3
 qn:x.2.2.2.1.1≠0
 p:cA x.2.2.2.2.2.1
 pp:x.2.2.2.2.2.1.2≤4
 p0:0≤x.2.2.2.2.2.1.1
 per:1≤x.2.2.2.2.2.2.1∧x.2.2.2.2.2.2.1≤100000
 ext:RP pl rates true x.2.2.2.2.2.2.2.1=0
 rate:(ff (·.1) x.2.2.2.2.2.2.2.2 rates).isSome=true
structure TP (v:Kk):Prop where
 pl:0≤v.2.2.2.1∧v.2.2.2.1≤4
 way:1≤v.2.2.2.2.1∧v.2.2.2.2.1≤6
 rn:0<v.2.2.2.2.2.2.1.length∧v.2.2.2.2.2.2.1.length≤20
 asc:Asc (·.1) v.2.2.2.2.2.2.1
 rates:∀ r∈v.2.2.2.2.2.2.1,inR r.2 0 100 9=true
 ln:0<v.2.2.2.2.2.2.2.1.length∧v.2.2.2.2.2.2.2.1.length≤500
 lines:∀ x∈v.2.2.2.2.2.2.2.1,SC v.2.2.2.1 v.2.2.2.2.2.2.1 x
 ext:RP v.2.2.2.1 v.2.2.2.2.2.2.1 false v.2.2.2.2.2.2.2.2=0
end Go.Md
namespace Go.Md
open Go.Dn
theorem Le.dec {d:ai} (h:cA d):Le 15 d.1:=by
 have:=h.1
 unfold Le;omega
theorem Le.i1 {n:Int} (h1: -9223372036854775808≤n) (h2:n≤9223372036854775807):n.natAbs<4294967296 ^ 99:=(Le.int h1 h2).w (by omega)
theorem Mo {n:Int} (h0:0≤n) (h1:n≤40):xT n=some (N (10 ^ n.toNat),()):=by
 obtain⟨m,rfl⟩:∃ m:Nat,n=m:=⟨n.toNat,by omega⟩
 exact Nx m (by omega)
theorem J8 (d:ai) (p:Int) (hd:cA d) (hp:d.2≤p) (hp2:p≤9):HA d p=some (N (d.1*10 ^ (p - d.2).toNat),()):=by
 have h1:=hd.1;have h2:=hd.2
 have l2:=(Le.dec hd).n (by omega);have l3:=(Le.pow (p - d.2).toNat).n (by omega)
 unfold HA
 rw[FU _ (by omega) (by omega),Wq,ax (by omega) (by omega),Mo (by omega) (by omega),Wq]
 dsimp only
 rw[BS _ _ (by omega) (by omega),Wq]
end Go.Md
