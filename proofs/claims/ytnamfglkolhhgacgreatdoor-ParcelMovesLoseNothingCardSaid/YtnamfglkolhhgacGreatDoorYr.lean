/-
  Plain facts: products, powers, rounding; the order of strings; decimals. No condition.
-/
import Derived.Test.YtnamfglkolhhgacGreatDoorYq
import Derived.Test.YtnamfglkolhhgacGreatDoorYn
set_option linter.all false
namespace Go.Md
open Go.Dn
theorem Jd (a b:List Int):zO a b=vY a b:=rfl
theorem qB (x y:Int) (hx:x.natAbs<4294967296 ^ 99) (hy:y.natAbs<4294967296 ^ 99):eW (W x) (W y)=some (W (x+y),()):=by
 have hlx:=mW hx
 have hly:=mW hy
 unfold eW W
 dsimp only
 by_cases hs:decide (x<0)=decide (y<0)
 ·rw[show (decide (x<0)==decide (y<0))=true by simp[hs],Vx,Jd]
  obtain⟨s,h1,h2,h3,h4⟩:=DL (aV x.natAbs) (aV y.natAbs) (cV _) (cV _) (by omega) (by omega)
  rw[h1,Vl]
  dsimp only
  rw[gR _ _ h2 (by omega),Vl,h3,cT,cT]
  simp only[decide_eq_decide] at hs
  show some (W _,())=some (W (x+y),())
  congr 3
  by_cases h:x<0
  ·simp only[h,decide_true,VI];omega
  ·simp only[h,decide_false,S6,VF];omega
 ·rw[show (decide (x<0)==decide (y<0))=false by simp[hs],Vw]
  obtain⟨c,h1,h2,h3⟩:=yC x.natAbs y.natAbs (by omega) (by omega)
  rw[h1,Vl]
  dsimp only
  simp only[decide_eq_decide] at hs
  have hlen:∀ a b:Nat,b≤a→(aV b).length≤(aV a).length:=fun a b h=>by
   rcases U5 (aV a).length (aV b).length with h' | h'
   ·have:=jK h';omega
   ·exact h'
  by_cases hc:c≥0
  ·rw[aO hc,wI _ _ (cV _) (cV _) (by omega) (hlen _ _ (by omega)) (by rw[cT,cT];omega),Vl]
   dsimp only
   rw[gR _ _ (cV _) (by have:=hlen x.natAbs (v32 (aV x.natAbs) - v32 (aV y.natAbs)).toNat (by rw[cT,cT];omega);omega),Vl]
   rw[cT,cT,cT]
   show some (W _,())=some (W (x+y),())
   congr 3
   by_cases h:x<0
   ·simp only[h,decide_true,VI];omega
   ·simp only[h,decide_false,S6,VF];omega
  ·rw[aX hc,wI _ _ (cV _) (cV _) (by omega) (hlen _ _ (by omega)) (by rw[cT,cT];omega),Vl]
   dsimp only
   rw[gR _ _ (cV _) (by have:=hlen y.natAbs (v32 (aV y.natAbs) - v32 (aV x.natAbs)).toNat (by rw[cT,cT];omega);omega),Vl]
   rw[cT,cT,cT]
   show some (W _,())=some (W (x+y),())
   congr 3
   by_cases h:y<0
   ·simp only[h,decide_true,VI];omega
   ·simp only[h,decide_false,S6,VF];omega
theorem MR {x y z c:Int} (hx:0≤x∧x<4294967296) (hy:0≤y∧y<4294967296) (hz:0≤z∧z<4294967296) (hc:0≤c∧c<4294967296):0≤x*y∧x*y≤18446744065119617025∧c+(z+x*y)≤18446744073709551615:=by
 have h1:0≤x*y:=Tm hx.1 hy.1
 have h2:x*y≤4294967295*4294967295:=Int.mul_le_mul (by omega) (by omega) (by omega) (by omega)
 omega
theorem EL (i:Nat) (x:Int) (ga:List Int) (gn gi:Int) (b:List Int) (s1:Bool) (l1:List Int) (s2:Bool) (l2:List Int) (s3:Bool) (l3:List Int) (out:List Int) (hx:0≤x∧x<4294967296) (hb:Dg b) (hbl:b.length<10000) (hil:i<10000) (ho:i+b.length≤out.length) (hol:out.length<100000) (hd:Dg out) (n:Nat) (hn:b.length<n):
 ∃ o c,iter n (((i:Int),x,(0:Int),ga,gn,gi,b,(b.length:Int),(0:Int),s1,l1,s2,l2,s3,l3,out,()):iP) lR=some (Sum.inr ((i:Int),c,ga,gn,gi,s1,l1,s2,l2,s3,l3,o,()))∧
  Dg o∧o.length=out.length∧0≤c∧c<4294967296∧v32 o+4294967296 ^ (i+b.length)*c=v32 out+4294967296 ^ i*x*v32 b∧∀ j,i+b.length≤j→o[j]? =out[j]? :=by
 refine cN (Inv:=fun k X=>∃ o c,X=(((i:Int),x,c,ga,gn,gi,b,(b.length:Int),(k:Int),s1,l1,s2,l2,s3,l3,o,()):iP)∧Dg o∧o.length=out.length∧0≤c∧c<4294967296∧v32 o+4294967296 ^ (i+k)*c=v32 out+4294967296 ^ i*x*v32 (b.take k)∧∀ j,i+k≤j→o[j]? =out[j]?) b.length
  (fun r=>∃ o c,r=some (Sum.inr ((i:Int),c,ga,gn,gi,s1,l1,s2,l2,s3,l3,o,()))∧Dg o∧o.length=out.length∧0≤c∧c<4294967296∧v32 o+4294967296 ^ (i+b.length)*c=v32 out+4294967296 ^ i*x*v32 b∧∀ j,i+b.length≤j→o[j]? =out[j]?) ?_ ?_ n 0 _ ⟨out,0,rfl,hd,rfl,by omega,by omega,by simp[uI],fun _ _=>rfl⟩ (by omega) (by omega)
 ·rintro k _ again hk ⟨o,c,rfl,h1,h2,h3,h4,h5,h6⟩ ih
  unfold lR
  dsimp only
  have hy:b[k]? =some b[k]:=aI hk
  have hyd:=hb.get hy
  have hts:=fN hy
  have hz:o[i+k]? =some (o[i+k]'(by omega)):=aI (by omega)
  have hzd:=h1.get hz
  generalize b[k]=y at hy hyd hts
  generalize o[i+k]'(by omega)=z at hz hzd
  obtain⟨m1,m2,m3⟩:=MR hx hyd hzd ⟨h3,h4⟩
  have e1:w64 ((i:Int)+(k:Int))=((i+k:Nat):Int):=by rw[aR (by omega) (by omega)];omega
  rw[aO (by omega),bL,hy,Vl,e1,bz (by simp only[SX,VB];omega),To,hz,Vl,bz (by simp only[SX,VB];omega),Vl,
   cK (n:=x) (by omega) (by omega),cK (n:=y) (by omega) (by omega),cK (n:=z) (by omega) (by omega),cK (n:=x*y) (by omega) (by omega),cK (n:=z+x*y) (by omega) (by omega),cK (n:=c+(z+x*y)) (by omega) (by omega),uR,Li,aR (n:=(k:Int)+1) (by omega) (by omega)]
  generalize ht:c+(z+x*y)=t at*
  refine ih _ ⟨_,_,rfl,h1.set (by omega),by rw[Uc];exact h2,by omega,by omega, ?_,fun j hj=> ?_⟩
  ·rw[D7 hz,hts]
   have e2:(4294967296:Int) ^ (i+(k+1))=4294967296 ^ i*4294967296 ^ k*4294967296:=by rw[← UQ,Tn,Int.pow_add]
   have e3:(4294967296:Int) ^ (i+k)=4294967296 ^ i*4294967296 ^ k:=Int.pow_add ..
   rw[e3] at h5
   rw[e2,e3]
   have e4:=Int.mul_ediv_add_emod t 4294967296
   generalize (4294967296:Int) ^ i=p at*
   generalize (4294967296:Int) ^ k=q at*
   generalize t / 4294967296=d at*
   generalize t % 4294967296=r at*
   grind
  ·rw[TY (by omega)];exact h6 j (by omega)
 ·rintro _ again ⟨o,c,rfl,h1,h2,h3,h4,h5,h6⟩
  unfold lR
  dsimp only
  rw[aX (by omega)]
  rw[UN (U0 _)] at h5
  exact⟨o,c,rfl,h1,h2,h3,h4,h5,h6⟩
theorem EM (a b:List Int) (ha:Dg a) (hb:Dg b) (hal:a.length<1000) (hbl:b.length<1000) (s1 s2 s3:Bool) (l3:List Int) (n:Nat) (hn:a.length<n):
 ∃ o,iter n ((a,(a.length:Int),(0:Int),s1,a,s2,b,s3,l3,List.replicate (a.length+b.length) 0,()):iO) lQ=some (Sum.inr (s1,a,s2,b,s3,l3,o,()))∧Dg o∧o.length=a.length+b.length∧v32 o=v32 a*v32 b:=by
 refine cN (Inv:=fun i X=>∃ o,X=((a,(a.length:Int),(i:Int),s1,a,s2,b,s3,l3,o,()):iO)∧Dg o∧o.length=a.length+b.length∧v32 o=v32 (a.take i)*v32 b∧∀ j,i+b.length≤j→j<a.length+b.length→o[j]? =some 0) a.length
  (fun r=>∃ o,r=some (Sum.inr (s1,a,s2,b,s3,l3,o,()))∧Dg o∧o.length=a.length+b.length∧v32 o=v32 a*v32 b) ?_ ?_ n 0 _ ⟨_,rfl,fun d hd=>by rw[List.mem_replicate] at hd;omega,by simp,by rw[BW];simp[uI],fun j _ hj=>by rw[List.getElem?_replicate,VH hj]⟩ (by omega) (by omega)
 ·rintro i _ again hi ⟨o,rfl,h1,h2,h3,h4⟩ ih
  unfold lQ
  dsimp only
  have hy:a[i]? =some a[i]:=aI hi
  have hyd:=ha.get hy
  have hts:=fN hy
  generalize a[i]=x at hy hyd hts
  rw[aO (by omega),bL,hy,Vl]
  obtain⟨o',c,k1,k2,k3,k4,k5,k6,k7⟩:=EL i x a (a.length:Int) (i:Int) b s1 a s2 b s3 l3 o hyd hb (by omega) (by omega) (by omega) (by omega) h1 (Int.natAbs (i:Int)+(Int.natAbs x+(Int.natAbs (0:Int)+(List.length a+(Int.natAbs (a.length:Int)+(Int.natAbs (i:Int)+(List.length b+(Int.natAbs ((List.length b:Int))+(Int.natAbs (0:Int)+(List.length a+(List.length b+(List.length l3+(List.length o+2))))))))))))) (by omega)
  rw[k1,aZ]
  dsimp only
  have e1:w64 ((i:Int)+(b.length:Int))=((i+b.length:Nat):Int):=by rw[aR (by omega) (by omega)];omega
  have hz:o'[i+b.length]? =some 0:=by rw[k7 _ (U0 _)];exact h4 _ (U0 _) (by omega)
  rw[e1,bz (by simp only[SX,VB];omega),To,hz,Vl,uP (by omega) (by omega),aR (n:=(i:Int)+1) (by omega) (by omega)]
  refine ih _ ⟨_,rfl,k2.set (by omega),by rw[Uc];omega, ?_,fun j hj hj2=> ?_⟩
  ·rw[D7 hz,hts]
   have e3:(4294967296:Int) ^ (i+b.length)=4294967296 ^ i*4294967296 ^ b.length:=Int.pow_add ..
   rw[e3] at k6 ⊢
   grind
  ·rw[TY (by omega),k7 j (by omega)];exact h4 j (by omega) hj2
 ·rintro _ again ⟨o,rfl,h1,h2,h3,h4⟩
  unfold lQ
  dsimp only
  rw[aX (by omega)]
  rw[UN (U0 _)] at h3
  exact⟨o,rfl,h1,h2,h3⟩
theorem vX (x y:Int) (hx:x.natAbs<4294967296 ^ 99) (hy:y.natAbs<4294967296 ^ 99):lP (W x) (W y)=some (W (x*y),()):=by
 have hlx:=mW hx
 have hly:=mW hy
 unfold lP W
 dsimp only
 have e1:w64 (((aV x.natAbs).length:Int)+((aV y.natAbs).length:Int))=(((aV x.natAbs).length+(aV y.natAbs).length:Nat):Int):=by rw[aR (by omega) (by omega)];omega
 rw[e1,bz (by simp only[SX,VB];omega)]
 obtain⟨o,h1,h2,h3,h4⟩:=EM (aV x.natAbs) (aV y.natAbs) (cV _) (cV _) (by omega) (by omega) (decide (x<0)) (decide (y<0)) false [] (List.length (aV x.natAbs)+(Int.natAbs ((List.length (aV x.natAbs):Int))+(Int.natAbs (0:Int)+(List.length (aV x.natAbs)+(List.length (aV y.natAbs)+(List.length ([]:List Int)+(List.length ((List.replicate (Int.toNat (((aV x.natAbs).length+(aV y.natAbs).length:Nat):Int)) 0):List Int)+2))))))) (by omega)
 rw[To] at h1 ⊢
 rw[h1,aZ]
 dsimp only
 rw[gR _ _ h2 (by omega),Vl,h4,cT,cT]
 show some (W _,())=some (W (x*y),())
 congr 3
 rw[← Int.natCast_mul, ← Int.natAbs_mul]
 by_cases h:x<0<;>by_cases h':y<0
 ·have:=Int.mul_pos_of_neg_of_neg h h'
  simp[h,h'];omega
 ·have:=Tm (show 0≤ -x by omega) (show 0≤y by omega)
  rw[Int.neg_mul] at this
  simp[h,h'];omega
 ·have:=Tm (show 0≤x by omega) (show 0≤ -y by omega)
  rw[Int.mul_neg] at this
  simp[h,h'];omega
 ·have:=Tm (show 0≤x by omega) (show 0≤y by omega)
  simp[h,h'];omega
end Go.Md
namespace Go.Md
open Go.Dn
def Le (k:Nat) (z:Int):Prop:=z.natAbs≤10 ^ k
theorem Le.mul {a b:Nat} {x y:Int} (hx:Le a x) (hy:Le b y):Le (a+b) (x*y):=by
 unfold Le at*
 rw[Int.natAbs_mul,Vf]
 exact Nat.mul_le_mul hx hy
theorem Le.mono {a b:Nat} {x:Int} (hx:Le a x) (h:a≤b):Le b x:=U1 hx (Vg (by omega) h)
theorem Le.add {a:Nat} {x y:Int} (hx:Le a x) (hy:Le a y):Le (a+1) (x+y):=by
 unfold Le at*
 rw[Vh]
 omega
theorem Le.neg {a:Nat} {x:Int} (hx:Le a x):Le a (-x):=by unfold Le at *;omega
theorem Le.w {k:Nat} {z:Int} (h:Le k z) (hk:k≤900):z.natAbs<4294967296 ^ 99:=
 U3 (h.mono hk) (by decide +kernel)
theorem Le.n {k:Nat} {z:Int} (h:Le k z) (hk:k≤500):(dg6 z.natAbs).length<90:=by
 have:=QO (k:=84) (n:=z.natAbs) (U3 (h.mono hk) (by decide +kernel))
 omega
theorem Le.pow (n:Nat):Le n (10 ^ n):=by
 unfold Le
 rw[Int.natAbs_pow];exact U0 _
theorem Le.int {n:Int} (h1: -9223372036854775808≤n) (h2:n≤9223372036854775807):Le 19 n:=by unfold Le;omega
theorem Le.succ {k n:Nat} (h:Le k (n:Int)):Le (k+1) ((n+1:Nat):Int):=by
 unfold Le at*
 rw[Vh]
 have:1≤10 ^ k:=Nat.pow_pos (by omega)
 omega
theorem Ja (n:Nat) (hn:n≤60):u5 (n:Int)=some (W (10 ^ n),()):=by
 unfold u5
 rw[qT 1 (by omega) (by omega),Vl]
 dsimp only
 have loop:∀ (f:Nat),n<f→iter f (((n:Int),(0:Int),false,([]:List Int),(W 1).1,(W 1).2,()):mG) qi=some (Sum.inr (false,[],(W (10 ^ n)).1,(W (10 ^ n)).2,())):=by
  intro f hf
  refine cN (Inv:=fun i X=>X=(((n:Int),(i:Int),false,([]:List Int),(W (10 ^ i)).1,(W (10 ^ i)).2,()):mG)) n (fun r=>r=some (Sum.inr (false,[],(W (10 ^ n)).1,(W (10 ^ n)).2,()))) ?_ ?_ f 0 _ rfl (by omega) (by omega)
  ·rintro i _ again hi rfl ih
   unfold qi
   dsimp only
   rw[aO (by omega),qT 10 (by omega) (by omega),Vl]
   dsimp only
   rw[vX (10 ^ i) 10 ((Le.pow i).w (by omega)) ((Le.int (n:=10) (by omega) (by omega)).w (by omega)),Vl,aR (by omega) (by omega)]
   refine ih _ ?_
   rw[Tn]
   rfl
  ·rintro _ again rfl
   unfold qi
   dsimp only
   rw[aX (by omega)]
 rw[loop _ (by omega),aZ]
theorem rF (d:aj) (p:Int) (h1: -9223372036854775808≤d.1) (h2:d.1≤9223372036854775807) (hp0:0≤p - d.2) (hp:p - d.2≤60) (hd: -1000≤d.2∧d.2≤1000):dG d p=some (W (d.1*10 ^ (p - d.2).toNat),()):=by
 unfold dG
 rw[qT _ h1 h2,Vl,aR (by omega) (by omega)]
 obtain⟨n,hn⟩:∃ n:Nat,p - d.2=n:=⟨(p - d.2).toNat,by omega⟩
 rw[hn,Ja n (by omega),Vl]
 dsimp only
 rw[vX _ _ ((Le.int h1 h2).w (by omega)) ((Le.pow n).w (by omega)),Vl,To]
end Go.Md
namespace Go.Md
open Go.Dn
end Go.Md
namespace Go.Md
open Go.Dn
end Go.Md
namespace Go.Md
open Go.Dn
theorem fD:∀ a:List UInt8,Op.bytesLess a a=false
 | []=>rfl
 | x::a=>by simp[Op.bytesLess,fD a]
theorem oQ:∀ {a b:List UInt8},Lib.compareBytes a b=0↔a=b
 | [],[]=>by simp[Lib.compareBytes]
 | [],_::_=>by simp[Lib.compareBytes]
 | _::_,[]=>by simp[Lib.compareBytes]
 | x::a,y::b=>by
  simp only[Lib.compareBytes,List.cons.injEq]
  by_cases h1:x<y
  ·simp only[h1,VI]
   constructor
   ·intro h;omega
   ·rintro⟨rfl,_⟩;exact absurd h1 (UInt8.lt_irrefl x)
  ·by_cases h2:y<x
   ·simp only[h1,h2,VI,VF]
    constructor
    ·intro h;omega
    ·rintro⟨rfl,_⟩;exact absurd h2 (UInt8.lt_irrefl x)
   ·have:x=y:=UInt8.le_antisymm (Vr.1 h2) (Vr.1 h1)
    subst this
    simp only[h1,VF,true_and]
    exact oQ
theorem tU:∀ {a b:List UInt8},Lib.compareBytes a b<0↔Op.bytesLess a b=true
 | [],[]=>by simp[Lib.compareBytes,Op.bytesLess]
 | [],_::_=>by simp[Lib.compareBytes,Op.bytesLess]
 | _::_,[]=>by simp[Lib.compareBytes,Op.bytesLess]
 | x::a,y::b=>by
  have ih:= @tU a b
  simp only[Lib.compareBytes,Op.bytesLess]
  by_cases h1:x<y
  ·simp[h1]
  ·by_cases h2:y<x
   ·have hne:¬ x=y:=fun e=>by subst e;exact absurd h2 (UInt8.lt_irrefl x)
    simp[h1,h2,hne]
   ·have:x=y:=UInt8.le_antisymm (Vr.1 h2) (Vr.1 h1)
    subst this
    simp[h1,ih]
theorem jI:∀ {a b c:List UInt8},Op.bytesLess a b=true→Op.bytesLess b c=true→Op.bytesLess a c=true
 | [],[],_,h,_=>by simp[Op.bytesLess] at h
 | [],_::_,[],_,h=>by simp[Op.bytesLess] at h
 | [],_::_,_::_,_,_=>rfl
 | _::_,[],_,h,_=>by simp[Op.bytesLess] at h
 | _::_,_::_,[],_,h=>by simp[Op.bytesLess] at h
 | x::a,y::b,z::c,h,k=>by
  simp only[Op.bytesLess,Tf,SX,VB,beq_iff_eq] at h k ⊢
  rcases h with h | ⟨rfl,h⟩
  ·rcases k with k | ⟨rfl,k⟩
   ·exact .inl (UInt8.lt_trans h k)
   ·exact .inl h
  ·rcases k with k | ⟨rfl,k⟩
   ·exact .inl k
   ·exact .inr ⟨rfl,jI h k⟩
theorem CA (a b:List UInt8):Op.bytesLess a b=true∨a=b∨Op.bytesLess b a=true:=by
 induction a generalizing b with
 | nil=>cases b with
  | nil=>simp
  | cons y b=>simp[Op.bytesLess]
 | cons x a ih=>cases b with
  | nil=>simp[Op.bytesLess]
  | cons y b=>
   simp only[Op.bytesLess,Tf,SX,VB,beq_iff_eq,List.cons.injEq]
   by_cases h1:x<y
   ·simp[h1]
   ·by_cases h2:y<x
    ·simp[h2]
    ·have:x=y:=UInt8.le_antisymm (Vr.1 h2) (Vr.1 h1)
     subst this
     rcases ih b with h | h | h<;>simp[h]
def Asc {α:Type} (key:α→List UInt8) (l:List α):Prop:=∀ (i j:Nat) (x y:α),i<j→l[i]? =some x→l[j]? =some y→Op.bytesLess (key x) (key y)=true
def dn {α:Type} (key:α→List UInt8) (t:List UInt8) (l:List α):Option Nat:=l.findIdx? (fun r=>key r==t)
theorem ff {α:Type} {key:α→List UInt8} {t:List UInt8} {l:List α} {k:Nat} (h:dn key t l=some k):∃ x,l[k]? =some x∧key x=t:=by
 unfold dn at h
 rw[List.findIdx?_eq_some_iff_getElem] at h
 obtain⟨h1,h2,_⟩:=h
 exact⟨_,TS h1,by simpa using h2⟩
theorem OU {α:Type} {key:α→List UInt8} {t:List UInt8} {l:List α} (h:dn key t l=none):∀ x∈l,key x≠t:=by
 unfold dn at h
 rw[List.findIdx?_eq_none_iff] at h
 intro x hx e
 have:=h x hx
 simp[e] at this
theorem M3 {α:Type} {key:α→List UInt8} {t:List UInt8} {l:List α} (hs:Asc key l) {k:Nat} {x:α} (hk:l[k]? =some x) (hx:key x=t):dn key t l=some k:=by
 cases h:dn key t l with
 | none=>exact absurd hx (OU h x (Uq hk))
 | some j=>
  obtain⟨y,h1,h2⟩:=ff h
  rcases U8 j k with hlt | rfl | hlt
  ·have:=hs j k y x hlt h1 hk
   rw[h2,hx,fD] at this;cases this
  ·rfl
  ·have:=hs k j x y hlt hk h1
   rw[h2,hx,fD] at this;cases this
end Go.Md
namespace Go.Md
open Go.Dn
instance (d:aj):Decidable (er d):=by unfold er;exact inferInstance
def inR (d:aj) (lo hi pl:Int):Bool:=decide (er d∧d.2≤pl∧lo*10 ^ d.2.toNat≤d.1∧d.1≤hi*10 ^ d.2.toNat)
theorem yE (d:aj):ic d=some (if er d then 0 else 1,()):=by
 rw[zk]
 congr 2
 by_cases h:er d
 ·rw[VH h,VH (by unfold er at h;omega)]
 ·rw[VG h,VG (by unfold er at h;omega)]
def Sl (pl:Int) (rates:List wQ) (line:Bool) (x:qC):Int:=
 if er x.2.1 then
  (if x.2.1.1=0 then 13
  else if (if x.1=true then inR x.2.1 (-100) 100 9 else inR x.2.1 (-1000000000) 1000000000 pl)=true then
   (if x.2.2=[] then 0 else if line=true then 3 else if (dn (·.1) x.2.2 rates).isSome=true then 0 else 5)
  else 1)
 else 1
def QA (pl:Int) (rates:List wQ) (line:Bool) (l:List qC):Int:=if 20<l.length then 2 else eA (fun _ x=>Sl pl rates line x) 0 l
theorem QG {γ:Type} (s:Int) (u:γ):bu (β:=Int×Unit) (γ:=γ) (if s=0 then some (Sum.inr u) else some (Sum.inl (s,()))) (fun _=>some (0,()))=some (s,()):=by
 by_cases h:s=0
 ·rw[VH h,aZ,h]
 ·rw[VG h,oU]
theorem pW {X α:Type} {γ:Type} {f:X→(X→Option ((Int×Unit) ⊕ γ))→Option ((Int×Unit) ⊕ γ)} {x0:X} (mk:Nat→X) (l:List α) (g:Nat→α→Int) (u:γ) (h0:x0=mk 0)
 (hstep:∀ i y again,l[i]? =some y→f (mk i) again=if g i y=0 then again (mk (i+1)) else some (Sum.inl (g i y,()))) (hend:∀ again,f (mk l.length) again=some (Sum.inr u)) (n:Nat) (hn:l.length<n):
 iter n x0 f=if eA g 0 l=0 then some (Sum.inr u) else some (Sum.inl (eA g 0 l,())):=by
 rw[h0];exact Jt mk l g u hstep hend l 0 n rfl (Vk _) hn
end Go.Md
namespace Go.Md
open Go.Dn
theorem IU (n:Int) (h0:0≤n) (h1:n≤18):zI n=some (10 ^ n.toNat,()):=JZ n h0 h1
end Go.Md
namespace Go.Md
open Go.Dn
theorem RX {γ:Type} (s:Int) (u:γ) (k:γ→Option (Int×Unit)) (z:Int) (hk:k u=some (z,())):bu (β:=Int×Unit) (γ:=γ) (if s=0 then some (Sum.inr u) else some (Sum.inl (s,()))) k=some (if s≠0 then s else z,()):=by
 by_cases h:s=0
 ·rw[VH h,aZ,hk,VG (by simpa using h)]
 ·rw[VG h,oU,VH h]
end Go.Md
namespace Go.Md
open Go.Dn
structure Sy (pl:Int) (x:qC):Prop where
 dec:er x.2.1
 place:x.1=false→x.2.1.2≤pl
 nz:x.2.1.1≠0
structure Rq (pl:Int) (rates:List wQ) (x:zR):Prop where
 q:er x.2.2.2.1
 qp:x.2.2.2.1.2≤3
 qn:x.2.2.2.1.1≠0
 p:er x.2.2.2.2.2.1
 pp:x.2.2.2.2.2.1.2≤4
 p0:0≤x.2.2.2.2.2.1.1
 per:1≤x.2.2.2.2.2.2.1∧x.2.2.2.2.2.2.1≤100000
 ext:QA pl rates true x.2.2.2.2.2.2.2.1=0
 rate:(dn (·.1) x.2.2.2.2.2.2.2.2 rates).isSome=true
structure Sz (v:JU):Prop where
 pl:0≤v.2.2.2.1∧v.2.2.2.1≤4
 way:1≤v.2.2.2.2.1∧v.2.2.2.2.1≤6
 rn:0<v.2.2.2.2.2.2.1.length∧v.2.2.2.2.2.2.1.length≤20
 asc:Asc (·.1) v.2.2.2.2.2.2.1
 rates:∀ r∈v.2.2.2.2.2.2.1,inR r.2 0 100 9=true
 ln:0<v.2.2.2.2.2.2.2.1.length∧v.2.2.2.2.2.2.2.1.length≤500
 lines:∀ x∈v.2.2.2.2.2.2.2.1,Rq v.2.2.2.1 v.2.2.2.2.2.2.1 x
 ext:QA v.2.2.2.1 v.2.2.2.2.2.2.1 false v.2.2.2.2.2.2.2.2=0
end Go.Md
namespace Go.Md
open Go.Dn
theorem Le.dec {d:aj} (h:er d):Le 15 d.1:=by
 have:=h.1
 unfold Le;omega
end Go.Md
