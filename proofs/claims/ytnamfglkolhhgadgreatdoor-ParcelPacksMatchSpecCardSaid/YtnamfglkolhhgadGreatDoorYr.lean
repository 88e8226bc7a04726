/-
  Plain facts: products, powers, rounding; the order of strings; decimals. No condition.
-/
import Derived.Test.YtnamfglkolhhgadGreatDoorYq
import Derived.Test.YtnamfglkolhhgadGreatDoorYn
set_option linter.all false
namespace Go.Md
open Go.Dn
theorem Us (a b:List Int):HF a b=DK a b:=rfl
theorem kH (x y:Int) (hx:x.natAbs<4294967296 ^ 99) (hy:y.natAbs<4294967296 ^ 99):fQ (W x) (W y)=some (W (x+y),()):=by
 have hlx:=sw hx
 have hly:=sw hy
 unfold fQ W
 dsimp only
 by_cases hs:decide (x<0)=decide (y<0)
 ·rw[show (decide (x<0)==decide (y<0))=true by simp[hs],ajE,Us]
  obtain⟨s,h1,h2,h3,h4⟩:=M6 (bu x.natAbs) (bu y.natAbs) (eG _) (eG _) (by omega) (by omega)
  rw[h1,ajq]
  dsimp only
  rw[kM _ _ h2 (by omega),ajq,h3,dU,dU]
  simp only[ajF] at hs
  show some (W _,())=some (W (x+y),())
  congr 3
  by_cases h:x<0
  ·simp only[h,ajL,ajR];omega
  ·simp only[h,ajK,agI,ajO];omega
 ·rw[show (decide (x<0)==decide (y<0))=false by simp[hs],ajD]
  obtain⟨c,h1,h2,h3⟩:=FX x.natAbs y.natAbs (by omega) (by omega)
  rw[h1,ajq]
  dsimp only
  simp only[ajF] at hs
  have hlen:∀ a b:Nat,b≤a→(bu b).length≤(bu a).length:=fun a b h=>by
   rcases ai4 (bu a).length (bu b).length with h' | h'
   ·have:=mZ h';omega
   ·exact h'
  by_cases hc:c≥0
  ·rw[ax hc,D2 _ _ (eG _) (eG _) (by omega) (hlen _ _ (by omega)) (by rw[dU,dU];omega),ajq]
   dsimp only
   rw[kM _ _ (eG _) (by have:=hlen x.natAbs (v32 (bu x.natAbs) - v32 (bu y.natAbs)).toNat (by rw[dU,dU];omega);omega),ajq]
   rw[dU,dU,dU]
   show some (W _,())=some (W (x+y),())
   congr 3
   by_cases h:x<0
   ·simp only[h,ajL,ajR];omega
   ·simp only[h,ajK,agI,ajO];omega
  ·rw[av hc,D2 _ _ (eG _) (eG _) (by omega) (hlen _ _ (by omega)) (by rw[dU,dU];omega),ajq]
   dsimp only
   rw[kM _ _ (eG _) (by have:=hlen y.natAbs (v32 (bu y.natAbs) - v32 (bu x.natAbs)).toNat (by rw[dU,dU];omega);omega),ajq]
   rw[dU,dU,dU]
   show some (W _,())=some (W (x+y),())
   congr 3
   by_cases h:y<0
   ·simp only[h,ajL,ajR];omega
   ·simp only[h,ajK,agI,ajO];omega
theorem Ou (x y:Int) (hx:x.natAbs<4294967296 ^ 99) (hy:y.natAbs<4294967296 ^ 99):xA (W x) (W y)=some (W (x - y),()):=by
 unfold xA
 rw[DJ y hy,ajq]
 dsimp only
 rw[kH x (-y) hx (by omega),ajq,Int.sub_eq_add_neg]
theorem sX (x y:Int) (hx:x.natAbs<4294967296 ^ 99) (hy:y.natAbs<4294967296 ^ 99):gO (W x) (W y)=some ((x - y).sign,()):=by
 unfold gO
 rw[Ou x y hx hy,ajq]
 dsimp only
 rw[xS,ajq]
theorem ZO {x y z c:Int} (hx:0≤x∧x<4294967296) (hy:0≤y∧y<4294967296) (hz:0≤z∧z<4294967296) (hc:0≤c∧c<4294967296):0≤x*y∧x*y≤18446744065119617025∧c+(z+x*y)≤18446744073709551615:=by
 have h1:0≤x*y:=ag1 hx.1 hy.1
 have h2:x*y≤4294967295*4294967295:=Int.mul_le_mul (by omega) (by omega) (by omega) (by omega)
 omega
theorem Ov (i:Nat) (x:Int) (ga:List Int) (gn gi:Int) (b:List Int) (s1:Bool) (l1:List Int) (s2:Bool) (l2:List Int) (s3:Bool) (l3:List Int) (out:List Int) (hx:0≤x∧x<4294967296) (hb:Dg b) (hbl:b.length<10000) (hil:i<10000) (ho:i+b.length≤out.length) (hol:out.length<100000) (hd:Dg out) (n:Nat) (hn:b.length<n):
 ∃ o c,iter n (((i:Int),x,(0:Int),ga,gn,gi,b,(b.length:Int),(0:Int),s1,l1,s2,l2,s3,l3,out,()):mc) pZ=some (Sum.inr ((i:Int),c,ga,gn,gi,s1,l1,s2,l2,s3,l3,o,()))∧
  Dg o∧o.length=out.length∧0≤c∧c<4294967296∧v32 o+4294967296 ^ (i+b.length)*c=v32 out+4294967296 ^ i*x*v32 b∧∀ j,i+b.length≤j→o[j]? =out[j]? :=by
 refine bf (Inv:=fun k X=>∃ o c,X=(((i:Int),x,c,ga,gn,gi,b,(b.length:Int),(k:Int),s1,l1,s2,l2,s3,l3,o,()):mc)∧Dg o∧o.length=out.length∧0≤c∧c<4294967296∧v32 o+4294967296 ^ (i+k)*c=v32 out+4294967296 ^ i*x*v32 (b.take k)∧∀ j,i+k≤j→o[j]? =out[j]?) b.length
  (fun r=>∃ o c,r=some (Sum.inr ((i:Int),c,ga,gn,gi,s1,l1,s2,l2,s3,l3,o,()))∧Dg o∧o.length=out.length∧0≤c∧c<4294967296∧v32 o+4294967296 ^ (i+b.length)*c=v32 out+4294967296 ^ i*x*v32 b∧∀ j,i+b.length≤j→o[j]? =out[j]?) ?_ ?_ n 0 _ ⟨out,0,rfl,hd,rfl,by omega,by omega,by simp[Cs],fun _ _=>rfl⟩ (by omega) (by omega)
 ·rintro k _ again hk ⟨o,c,rfl,h1,h2,h3,h4,h5,h6⟩ ih
  unfold pZ
  dsimp only
  have hy:b[k]? =some b[k]:=aM hk
  have hyd:=hb.get hy
  have hts:=jd hy
  have hz:o[i+k]? =some (o[i+k]'(by omega)):=aM (by omega)
  have hzd:=h1.get hz
  generalize b[k]=y at hy hyd hts
  generalize o[i+k]'(by omega)=z at hz hzd
  obtain⟨m1,m2,m3⟩:=ZO hx hyd hzd ⟨h3,h4⟩
  have e1:w64 ((i:Int)+(k:Int))=((i+k:Nat):Int):=by rw[aq (by omega) (by omega)];omega
  rw[ax (by omega),aV,hy,ajq,e1,aC (by simp only[agE,ajJ];omega),ahd,hz,ajq,aC (by simp only[agE,ajJ];omega),ajq,
   dF (n:=x) (by omega) (by omega),dF (n:=y) (by omega) (by omega),dF (n:=z) (by omega) (by omega),dF (n:=x*y) (by omega) (by omega),dF (n:=z+x*y) (by omega) (by omega),dF (n:=c+(z+x*y)) (by omega) (by omega),Cz,Xk,aq (n:=(k:Int)+1) (by omega) (by omega)]
  generalize ht:c+(z+x*y)=t at*
  refine ih _ ⟨_,_,rfl,h1.set (by omega),by rw[ah8];exact h2,by omega,by omega, ?_,fun j hj=> ?_⟩
  ·rw[NF hz,hts]
   have e2:(4294967296:Int) ^ (i+(k+1))=4294967296 ^ i*4294967296 ^ k*4294967296:=by rw[← aiR,ag8,ag6]
   have e3:(4294967296:Int) ^ (i+k)=4294967296 ^ i*4294967296 ^ k:=ag6 ..
   rw[e3] at h5
   rw[e2,e3]
   have e4:=Int.mul_ediv_add_emod t 4294967296
   generalize (4294967296:Int) ^ i=p at*
   generalize (4294967296:Int) ^ k=q at*
   generalize t / 4294967296=d at*
   generalize t % 4294967296=r at*
   grind
  ·rw[ahU (by omega)];exact h6 j (by omega)
 ·rintro _ again ⟨o,c,rfl,h1,h2,h3,h4,h5,h6⟩
  unfold pZ
  dsimp only
  rw[av (by omega)]
  rw[aiP (ai0 _)] at h5
  exact⟨o,c,rfl,h1,h2,h3,h4,h5,h6⟩
theorem Ow (a b:List Int) (ha:Dg a) (hb:Dg b) (hal:a.length<1000) (hbl:b.length<1000) (s1 s2 s3:Bool) (l3:List Int) (n:Nat) (hn:a.length<n):
 ∃ o,iter n ((a,(a.length:Int),(0:Int),s1,a,s2,b,s3,l3,List.replicate (a.length+b.length) 0,()):l9) pY=some (Sum.inr (s1,a,s2,b,s3,l3,o,()))∧Dg o∧o.length=a.length+b.length∧v32 o=v32 a*v32 b:=by
 refine bf (Inv:=fun i X=>∃ o,X=((a,(a.length:Int),(i:Int),s1,a,s2,b,s3,l3,o,()):l9)∧Dg o∧o.length=a.length+b.length∧v32 o=v32 (a.take i)*v32 b∧∀ j,i+b.length≤j→j<a.length+b.length→o[j]? =some 0) a.length
  (fun r=>∃ o,r=some (Sum.inr (s1,a,s2,b,s3,l3,o,()))∧Dg o∧o.length=a.length+b.length∧v32 o=v32 a*v32 b) ?_ ?_ n 0 _ ⟨_,rfl,fun d hd=>by rw[List.mem_replicate] at hd;omega,by simp,by rw[KG];simp[Cs],fun j _ hj=>by rw[List.getElem?_replicate,ajQ hj]⟩ (by omega) (by omega)
 ·rintro i _ again hi ⟨o,rfl,h1,h2,h3,h4⟩ ih
  unfold pY
  dsimp only
  have hy:a[i]? =some a[i]:=aM hi
  have hyd:=ha.get hy
  have hts:=jd hy
  generalize a[i]=x at hy hyd hts
  rw[ax (by omega),aV,hy,ajq]
  obtain⟨o',c,k1,k2,k3,k4,k5,k6,k7⟩:=Ov i x a (a.length:Int) (i:Int) b s1 a s2 b s3 l3 o hyd hb (by omega) (by omega) (by omega) (by omega) h1 (Int.natAbs (i:Int)+(Int.natAbs x+(Int.natAbs (0:Int)+(List.length a+(Int.natAbs (a.length:Int)+(Int.natAbs (i:Int)+(List.length b+(Int.natAbs ((List.length b:Int))+(Int.natAbs (0:Int)+(List.length a+(List.length b+(List.length l3+(List.length o+2))))))))))))) (by omega)
  rw[k1,aB]
  dsimp only
  have e1:w64 ((i:Int)+(b.length:Int))=((i+b.length:Nat):Int):=by rw[aq (by omega) (by omega)];omega
  have hz:o'[i+b.length]? =some 0:=by rw[k7 _ (ai0 _)];exact h4 _ (ai0 _) (by omega)
  rw[e1,aC (by simp only[agE,ajJ];omega),ahd,hz,ajq,Cy (by omega) (by omega),aq (n:=(i:Int)+1) (by omega) (by omega)]
  refine ih _ ⟨_,rfl,k2.set (by omega),by rw[ah8];omega, ?_,fun j hj hj2=> ?_⟩
  ·rw[NF hz,hts]
   have e3:(4294967296:Int) ^ (i+b.length)=4294967296 ^ i*4294967296 ^ b.length:=ag6 ..
   rw[e3] at k6 ⊢
   grind
  ·rw[ahU (by omega),k7 j (by omega)];exact h4 j (by omega) hj2
 ·rintro _ again ⟨o,rfl,h1,h2,h3,h4⟩
  unfold pY
  dsimp only
  rw[av (by omega)]
  rw[aiP (ai0 _)] at h3
  exact⟨o,rfl,h1,h2,h3⟩
theorem p8 (x y:Int) (hx:x.natAbs<4294967296 ^ 99) (hy:y.natAbs<4294967296 ^ 99):iP (W x) (W y)=some (W (x*y),()):=by
 have hlx:=sw hx
 have hly:=sw hy
 unfold iP W
 dsimp only
 have e1:w64 (((bu x.natAbs).length:Int)+((bu y.natAbs).length:Int))=(((bu x.natAbs).length+(bu y.natAbs).length:Nat):Int):=by rw[aq (by omega) (by omega)];omega
 rw[e1,aC (by simp only[agE,ajJ];omega)]
 obtain⟨o,h1,h2,h3,h4⟩:=Ow (bu x.natAbs) (bu y.natAbs) (eG _) (eG _) (by omega) (by omega) (decide (x<0)) (decide (y<0)) false [] (List.length (bu x.natAbs)+(Int.natAbs ((List.length (bu x.natAbs):Int))+(Int.natAbs (0:Int)+(List.length (bu x.natAbs)+(List.length (bu y.natAbs)+(List.length ([]:List Int)+(List.length ((List.replicate (Int.toNat (((bu x.natAbs).length+(bu y.natAbs).length:Nat):Int)) 0):List Int)+2))))))) (by omega)
 rw[ahd] at h1 ⊢
 rw[h1,aB]
 dsimp only
 rw[kM _ _ h2 (by omega),ajq,h4,dU,dU]
 show some (W _,())=some (W (x*y),())
 congr 3
 rw[← Int.natCast_mul, ← ag3]
 by_cases h:x<0<;>by_cases h':y<0
 ·have:=Int.mul_pos_of_neg_of_neg h h'
  simp[h,h'];omega
 ·have:=ag1 (show 0≤ -x by omega) (show 0≤y by omega)
  rw[Int.neg_mul] at this
  simp[h,h'];omega
 ·have:=ag1 (show 0≤x by omega) (show 0≤ -y by omega)
  rw[Int.mul_neg] at this
  simp[h,h'];omega
 ·have:=ag1 (show 0≤x by omega) (show 0≤y by omega)
  simp[h,h'];omega
end Go.Md
namespace Go.Md
open Go.Dn
def Le (k:Nat) (z:Int):Prop:=z.natAbs≤10 ^ k
theorem Le.mul {a b:Nat} {x y:Int} (hx:Le a x) (hy:Le b y):Le (a+b) (x*y):=by
 unfold Le at*
 rw[ag3,aji]
 exact Nat.mul_le_mul hx hy
theorem Le.mono {a b:Nat} {x:Int} (hx:Le a x) (h:a≤b):Le b x:=ai1 hx (ajj (by omega) h)
theorem Le.add {a:Nat} {x y:Int} (hx:Le a x) (hy:Le a y):Le (a+1) (x+y):=by
 unfold Le at*
 rw[ajk]
 omega
theorem Le.neg {a:Nat} {x:Int} (hx:Le a x):Le a (-x):=by unfold Le at *;omega
theorem Le.w {k:Nat} {z:Int} (h:Le k z) (hk:k≤900):z.natAbs<4294967296 ^ 99:=
 ai2 (h.mono hk) (by decide +kernel)
theorem Le.n {k:Nat} {z:Int} (h:Le k z) (hk:k≤500):(dg6 z.natAbs).length<90:=by
 have:=ZV (k:=84) (n:=z.natAbs) (ai2 (h.mono hk) (by decide +kernel))
 omega
theorem Le.pow (n:Nat):Le n (10 ^ n):=by
 unfold Le
 rw[Int.natAbs_pow];exact ai0 _
theorem Le.int {n:Int} (h1: -9223372036854775808≤n) (h2:n≤9223372036854775807):Le 19 n:=by unfold Le;omega
theorem Le.succ {k n:Nat} (h:Le k (n:Int)):Le (k+1) ((n+1:Nat):Int):=by
 unfold Le at*
 rw[ajk]
 have:1≤10 ^ k:=Nat.pow_pos (by omega)
 omega
theorem IX (n:Nat) (hn:n≤60):yl (n:Int)=some (W (10 ^ n),()):=by
 unfold yl
 rw[qx 1 (by omega) (by omega),ajq]
 dsimp only
 have loop:∀ (f:Nat),n<f→iter f (((n:Int),(0:Int),false,([]:List Int),(W 1).1,(W 1).2,()):rQ) xB=some (Sum.inr (false,[],(W (10 ^ n)).1,(W (10 ^ n)).2,())):=by
  intro f hf
  refine bf (Inv:=fun i X=>X=(((n:Int),(i:Int),false,([]:List Int),(W (10 ^ i)).1,(W (10 ^ i)).2,()):rQ)) n (fun r=>r=some (Sum.inr (false,[],(W (10 ^ n)).1,(W (10 ^ n)).2,()))) ?_ ?_ f 0 _ rfl (by omega) (by omega)
  ·rintro i _ again hi rfl ih
   unfold xB
   dsimp only
   rw[ax (by omega),qx 10 (by omega) (by omega),ajq]
   dsimp only
   rw[p8 (10 ^ i) 10 ((Le.pow i).w (by omega)) ((Le.int (n:=10) (by omega) (by omega)).w (by omega)),ajq,aq (by omega) (by omega)]
   refine ih _ ?_
   rw[ag8]
   rfl
  ·rintro _ again rfl
   unfold xB
   dsimp only
   rw[av (by omega)]
 rw[loop _ (by omega),aB]
theorem nu (d:ak) (p:Int) (h1: -9223372036854775808≤d.1) (h2:d.1≤9223372036854775807) (hp0:0≤p - d.2) (hp:p - d.2≤60) (hd: -1000≤d.2∧d.2≤1000):iC d p=some (W (d.1*10 ^ (p - d.2).toNat),()):=by
 unfold iC
 rw[qx _ h1 h2,ajq,aq (by omega) (by omega)]
 obtain⟨n,hn⟩:∃ n:Nat,p - d.2=n:=⟨(p - d.2).toNat,by omega⟩
 rw[hn,IX n (by omega),ajq]
 dsimp only
 rw[p8 _ _ ((Le.int h1 h2).w (by omega)) ((Le.pow n).w (by omega)),ajq,ahd]
end Go.Md
namespace Go.Md
open Go.Dn
theorem yA {α:Type} {l:List α} {k:Nat} {y:α} (h:l[k]? =some y):l.drop k=y::l.drop (k+1):=by
 obtain⟨hk,rfl⟩:=ahQ.1 h
 exact ahr hk
end Go.Md
namespace Go.Md
open Go.Dn
end Go.Md
namespace Go.Md
open Go.Dn
theorem b7:∀ a:List UInt8,Op.bytesLess a a=false
 | []=>rfl
 | x::a=>by simp[Op.bytesLess,b7 a]
theorem C2:∀ {a b:List UInt8},Lib.compareBytes a b=0↔a=b
 | [],[]=>by simp[Lib.compareBytes]
 | [],_::_=>by simp[Lib.compareBytes]
 | _::_,[]=>by simp[Lib.compareBytes]
 | x::a,y::b=>by
  simp only[Lib.compareBytes,List.cons.injEq]
  by_cases h1:x<y
  ·simp only[h1,ajR]
   constructor
   ·intro h;omega
   ·rintro⟨rfl,_⟩;exact absurd h1 (UInt8.lt_irrefl x)
  ·by_cases h2:y<x
   ·simp only[h1,h2,ajR,ajO]
    constructor
    ·intro h;omega
    ·rintro⟨rfl,_⟩;exact absurd h2 (UInt8.lt_irrefl x)
   ·have:x=y:=UInt8.le_antisymm (ajx.1 h2) (ajx.1 h1)
    subst this
    simp only[h1,ajO,true_and]
    exact C2
theorem sr:∀ {a b:List UInt8},Lib.compareBytes a b<0↔Op.bytesLess a b=true
 | [],[]=>by simp[Lib.compareBytes,Op.bytesLess]
 | [],_::_=>by simp[Lib.compareBytes,Op.bytesLess]
 | _::_,[]=>by simp[Lib.compareBytes,Op.bytesLess]
 | x::a,y::b=>by
  have ih:= @sr a b
  simp only[Lib.compareBytes,Op.bytesLess]
  by_cases h1:x<y
  ·simp[h1]
  ·by_cases h2:y<x
   ·have hne:¬ x=y:=fun e=>by subst e;exact absurd h2 (UInt8.lt_irrefl x)
    simp[h1,h2,hne]
   ·have:x=y:=UInt8.le_antisymm (ajx.1 h2) (ajx.1 h1)
    subst this
    simp[h1,ih]
theorem gL:∀ {a b c:List UInt8},Op.bytesLess a b=true→Op.bytesLess b c=true→Op.bytesLess a c=true
 | [],[],_,h,_=>by simp[Op.bytesLess] at h
 | [],_::_,[],_,h=>by simp[Op.bytesLess] at h
 | [],_::_,_::_,_,_=>rfl
 | _::_,[],_,h,_=>by simp[Op.bytesLess] at h
 | _::_,_::_,[],_,h=>by simp[Op.bytesLess] at h
 | x::a,y::b,z::c,h,k=>by
  simp only[Op.bytesLess,agR,agE,ajJ,ajA] at h k ⊢
  rcases h with h | ⟨rfl,h⟩
  ·rcases k with k | ⟨rfl,k⟩
   ·exact .inl (UInt8.lt_trans h k)
   ·exact .inl h
  ·rcases k with k | ⟨rfl,k⟩
   ·exact .inl k
   ·exact .inr ⟨rfl,gL h k⟩
theorem uc {a b:List UInt8} (h:Op.bytesLess a b=true):Op.bytesLess b a=false:=by
 cases hb:Op.bytesLess b a with
 | false=>rfl
 | true=>have:=gL h hb;rw[b7] at this;cases this
theorem oI (a b:List UInt8):Op.bytesLess a b=true∨a=b∨Op.bytesLess b a=true:=by
 induction a generalizing b with
 | nil=>cases b with
  | nil=>simp
  | cons y b=>simp[Op.bytesLess]
 | cons x a ih=>cases b with
  | nil=>simp[Op.bytesLess]
  | cons y b=>
   simp only[Op.bytesLess,agR,agE,ajJ,ajA,List.cons.injEq]
   by_cases h1:x<y
   ·simp[h1]
   ·by_cases h2:y<x
    ·simp[h2]
    ·have:x=y:=UInt8.le_antisymm (ajx.1 h2) (ajx.1 h1)
     subst this
     rcases ih b with h | h | h<;>simp[h]
def Asc {α:Type} (key:α→List UInt8) (l:List α):Prop:=∀ (i j:Nat) (x y:α),i<j→l[i]? =some x→l[j]? =some y→Op.bytesLess (key x) (key y)=true
def jK {α:Type} (key:α→List UInt8) (t:List UInt8) (l:List α):Option Nat:=l.findIdx? (fun r=>key r==t)
theorem zZ {α:Type} {key:α→List UInt8} {t:List UInt8} {l:List α} {k:Nat} (h:jK key t l=some k):∃ x,l[k]? =some x∧key x=t:=by
 unfold jK at h
 rw[ahF] at h
 obtain⟨h1,h2,_⟩:=h
 exact⟨_,ahO h1,by simpa using h2⟩
theorem UO {α:Type} {key:α→List UInt8} {t:List UInt8} {l:List α} (h:jK key t l=none):∀ x∈l,key x≠t:=by
 unfold jK at h
 rw[ahE] at h
 intro x hx e
 have:=h x hx
 simp[e] at this
theorem aeK {α:Type} {key:α→List UInt8} {t:List UInt8} {l:List α} (hs:Asc key l) {k:Nat} {x:α} (hk:l[k]? =some x) (hx:key x=t):jK key t l=some k:=by
 cases h:jK key t l with
 | none=>exact absurd hx (UO h x (air hk))
 | some j=>
  obtain⟨y,h1,h2⟩:=zZ h
  rcases ai9 j k with hlt | rfl | hlt
  ·have:=hs j k y x hlt h1 hk
   rw[h2,hx,b7] at this;cases this
  ·rfl
  ·have:=hs k j x y hlt hk h1
   rw[h2,hx,b7] at this;cases this
def ixI:Option Nat→Int
 | some k=>(k:Int)
 | none=> -1
theorem Z0 (o:Option Nat):decide (ixI o<0)= !o.isSome:=by
 cases o with
 | none=>rfl
 | some k=>exact ajG (by simp only[ixI];omega)
end Go.Md
namespace Go.Md
open Go.Dn
instance (d:ak):Decidable (cq d):=by unfold cq;exact inferInstance
def inR (d:ak) (lo hi pl:Int):Bool:=decide (cq d∧d.2≤pl∧lo*10 ^ d.2.toNat≤d.1∧d.1≤hi*10 ^ d.2.toNat)
theorem adB {d:ak} (h0:0≤d.2) (h1:d.2≤9) (k:Int):k*10 ^ 9=k*10 ^ d.2.toNat*10 ^ (9 - d.2).toNat:=by
 rw[agY, ← ag6,show d.2.toNat+(9 - d.2).toNat=9 by omega]
theorem aeD {d:ak} (h0:0≤d.2) (h1:d.2≤9) (k:Int):zk d≤k*10 ^ 9↔d.1≤k*10 ^ d.2.toNat:=by
 unfold zk
 rw[adB h0 h1]
 exact Int.mul_le_mul_right (GC _)
theorem xD (d:ak):iQ d=some (if cq d then 0 else 1,()):=by
 rw[GS]
 congr 2
 by_cases h:cq d
 ·rw[ajQ h,ajQ (by unfold cq at h;omega)]
 ·rw[ajP h,ajP (by unfold cq at h;omega)]
theorem BL (d:ak):jZ d=some (if cq d then 0 else 1,()):=by
 rw[MR]
 congr 2
 by_cases h:cq d
 ·rw[ajQ h,ajQ (by unfold cq at h;omega)]
 ·rw[ajP h,ajP (by unfold cq at h;omega)]
def af7 (pl:Int) (rates:List Eb) (line:Bool) (x:xT):Int:=
 if cq x.2.1 then
  (if x.2.1.1=0 then 13
  else if (if x.1=true then inR x.2.1 (-100) 100 9 else inR x.2.1 (-1000000000) 1000000000 pl)=true then
   (if x.2.2=[] then 0 else if line=true then 3 else if (jK (·.1) x.2.2 rates).isSome=true then 0 else 5)
  else 1)
 else 1
def aeo (pl:Int) (rates:List Eb) (line:Bool) (l:List xT):Int:=if 20<l.length then 2 else cD (fun _ x=>af7 pl rates line x) 0 l
theorem GN {γ:Type} (s:Int) (u:γ):aK (β:=Int×Unit) (γ:=γ) (if s=0 then some (Sum.inr u) else some (Sum.inl (s,()))) (fun _=>some (0,()))=some (s,()):=by
 by_cases h:s=0
 ·rw[ajQ h,aB,h]
 ·rw[ajP h,bO]
theorem fO {X α:Type} {γ:Type} {f:X→(X→Option ((Int×Unit) ⊕ γ))→Option ((Int×Unit) ⊕ γ)} {x0:X} (mk:Nat→X) (l:List α) (g:Nat→α→Int) (u:γ) (h0:x0=mk 0)
 (hstep:∀ i y again,l[i]? =some y→f (mk i) again=if g i y=0 then again (mk (i+1)) else some (Sum.inl (g i y,()))) (hend:∀ again,f (mk l.length) again=some (Sum.inr u)) (n:Nat) (hn:l.length<n):
 iter n x0 f=if cD g 0 l=0 then some (Sum.inr u) else some (Sum.inl (cD g 0 l,())):=by
 rw[h0];exact UN mk l g u hstep hend l 0 n rfl (ajo _) hn
end Go.Md
namespace Go.Md
open Go.Dn
theorem T4 (n:Int) (h0:0≤n) (h1:n≤18):Hu n=some (10 ^ n.toNat,()):=Vo n h0 h1
end Go.Md
namespace Go.Md
open Go.Dn
theorem afH {γ:Type} (s:Int) (u:γ) (k:γ→Option (Int×Unit)) (z:Int) (hk:k u=some (z,())):aK (β:=Int×Unit) (γ:=γ) (if s=0 then some (Sum.inr u) else some (Sum.inl (s,()))) k=some (if s≠0 then s else z,()):=by
 by_cases h:s=0
 ·rw[ajQ h,aB,hk,ajP (by simpa using h)]
 ·rw[ajP h,bO,ajQ h]
end Go.Md
namespace Go.Md
open Go.Dn
structure agh (pl:Int) (x:xT):Prop where
 dec:cq x.2.1
 place:x.1=false→x.2.1.2≤pl
 nz:x.2.1.1≠0
structure afg (pl:Int) (rates:List Eb) (x:HG):Prop where
 q:cq x.2.2.2.1
 qp:x.2.2.2.1.2≤3
 qn:x.2.2.2.1.1≠0
 p:cq x.2.2.2.2.2.1
 pp:x.2.2.2.2.2.1.2≤4
 p0:0≤x.2.2.2.2.2.1.1
 per:1≤x.2.2.2.2.2.2.1∧x.2.2.2.2.2.2.1≤100000
 ext:aeo pl rates true x.2.2.2.2.2.2.2.1=0
 rate:(jK (·.1) x.2.2.2.2.2.2.2.2 rates).isSome=true
structure agi (v:Vi):Prop where
 pl:0≤v.2.2.2.1∧v.2.2.2.1≤4
 way:1≤v.2.2.2.2.1∧v.2.2.2.2.1≤6
 rn:0<v.2.2.2.2.2.2.1.length∧v.2.2.2.2.2.2.1.length≤20
 asc:Asc (·.1) v.2.2.2.2.2.2.1
 rates:∀ r∈v.2.2.2.2.2.2.1,inR r.2 0 100 9=true
 ln:0<v.2.2.2.2.2.2.2.1.length∧v.2.2.2.2.2.2.2.1.length≤500
 lines:∀ x∈v.2.2.2.2.2.2.2.1,afg v.2.2.2.1 v.2.2.2.2.2.2.1 x
 ext:aeo v.2.2.2.1 v.2.2.2.2.2.2.1 false v.2.2.2.2.2.2.2.2=0
end Go.Md
namespace Go.Md
open Go.Dn
theorem Le.dec {d:ak} (h:cq d):Le 15 d.1:=by
 have:=h.1
 unfold Le;omega
theorem Le.i1 {n:Int} (h1: -9223372036854775808≤n) (h2:n≤9223372036854775807):n.natAbs<4294967296 ^ 99:=(Le.int h1 h2).w (by omega)
theorem MS {n:Int} (h0:0≤n) (h1:n≤40):B8 n=some (N (10 ^ n.toNat),()):=by
 obtain⟨m,rfl⟩:∃ m:Nat,n=m:=⟨n.toNat,by omega⟩
 exact OM m (by omega)
theorem U6 (d:ak) (p:Int) (hd:cq d) (hp:d.2≤p) (hp2:p≤9):CI d p=some (N (d.1*10 ^ (p - d.2).toNat),()):=by
 have h1:=hd.1;have h2:=hd.2
 have l2:=(Le.dec hd).n (by omega);have l3:=(Le.pow (p - d.2).toNat).n (by omega)
 unfold CI
 rw[B7 _ (by omega) (by omega),ajq,aq (by omega) (by omega),MS (by omega) (by omega),ajq]
 dsimp only
 rw[tT _ _ (by omega) (by omega),ajq]
end Go.Md
