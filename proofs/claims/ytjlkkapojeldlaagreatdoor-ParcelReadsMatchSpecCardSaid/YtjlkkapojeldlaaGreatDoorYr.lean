/-
  Plain facts: products, powers, rounding; digits. No condition.
-/
import Derived.Test.YtjlkkapojeldlaaGreatDoorYq
import Derived.Test.YtjlkkapojeldlaaGreatDoorYn
import Derived.Test.YtjlkkapojeldlaaGreatDoorYp
set_option linter.all false
namespace Go.Md
open Go.Dn
theorem I9 (a b:List Int):yJ a b=Ds a b:=rfl
theorem Ea (x y:Int) (hx:x.natAbs<4294967296 ^ 99) (hy:y.natAbs<4294967296 ^ 99):k9 (W x) (W y)=some (W (x+y),()):=by
 have hlx:=sU hx
 have hly:=sU hy
 unfold k9 W
 dsimp only
 by_cases hs:decide (x<0)=decide (y<0)
 ·rw[show (decide (x<0)==decide (y<0))=true by simp[hs],VW,I9]
  obtain⟨s,h1,h2,h3,h4⟩:=Mu (bW x.natAbs) (bW y.natAbs) (fC _) (fC _) (by omega) (by omega)
  rw[h1,VJ]
  dsimp only
  rw[jm _ _ h2 (by omega),VJ,h3,dY,dY]
  simp only[VX] at hs
  show some (W _,())=some (W (x+y),())
  congr 3
  by_cases h:x<0
  ·simp only[h,V2,V8];omega
  ·simp only[h,V1,TA,V5];omega
 ·rw[show (decide (x<0)==decide (y<0))=false by simp[hs],VV]
  obtain⟨c,h1,h2,h3⟩:=FM x.natAbs y.natAbs (by omega) (by omega)
  rw[h1,VJ]
  dsimp only
  simp only[VX] at hs
  have hlen:∀ a b:Nat,b<=a->(bW b).length<=(bW a).length:=fun a b h=>by
   rcases Vx (bW a).length (bW b).length with h' | h'
   ·have:=o8 h';omega
   ·exact h'
  by_cases hc:c>=0
  ·rw[aC hc,Bt _ _ (fC _) (fC _) (by omega) (hlen _ _ (by omega)) (by rw[dY,dY];omega),VJ]
   dsimp only
   rw[jm _ _ (fC _) (by have:=hlen x.natAbs (v32 (bW x.natAbs) - v32 (bW y.natAbs)).toNat (by rw[dY,dY];omega);omega),VJ]
   rw[dY,dY,dY]
   show some (W _,())=some (W (x+y),())
   congr 3
   by_cases h:x<0
   ·simp only[h,V2,V8];omega
   ·simp only[h,V1,TA,V5];omega
  ·rw[aF hc,Bt _ _ (fC _) (fC _) (by omega) (hlen _ _ (by omega)) (by rw[dY,dY];omega),VJ]
   dsimp only
   rw[jm _ _ (fC _) (by have:=hlen y.natAbs (v32 (bW y.natAbs) - v32 (bW x.natAbs)).toNat (by rw[dY,dY];omega);omega),VJ]
   rw[dY,dY,dY]
   show some (W _,())=some (W (x+y),())
   congr 3
   by_cases h:y<0
   ·simp only[h,V2,V8];omega
   ·simp only[h,V1,TA,V5];omega
theorem Nu {x y z c:Int} (hx:0<=x/\x<4294967296) (hy:0<=y/\y<4294967296) (hz:0<=z/\z<4294967296) (hc:0<=c/\c<4294967296):0<=x*y/\x*y<=18446744065119617025/\c+(z+x*y)<=18446744073709551615:=by
 have h1:0<=x*y:=TP hx.1 hy.1
 have h2:x*y<=4294967295*4294967295:=Int.mul_le_mul (by omega) (by omega) (by omega) (by omega)
 omega
theorem Ec (i:Nat) (x:Int) (ga:List Int) (gn gi:Int) (b:List Int) (s1:Bool) (l1:List Int) (s2:Bool) (l2:List Int) (s3:Bool) (l3:List Int) (out:List Int) (hx:0<=x/\x<4294967296) (hb:Dg b) (hbl:b.length<10000) (hil:i<10000) (ho:i+b.length<=out.length) (hol:out.length<100000) (hd:Dg out) (n:Nat) (hn:b.length<n): ∃ o c,iter n (((i:Int),x,(0:Int),ga,gn,gi,b,(b.length:Int),(0:Int),s1,l1,s2,l2,s3,l3,out,()):gL) jS=some (Sum.inr ((i:Int),c,ga,gn,gi,s1,l1,s2,l2,s3,l3,o,()))/\ Dg o/\o.length=out.length/\0<=c/\c<4294967296/\v32 o+4294967296 ^ (i+b.length)*c=v32 out+4294967296 ^ i*x*v32 b/\∀ j,i+b.length<=j->o[j]? =out[j]? :=by
 refine bN (Inv:=fun k X=>∃ o c,X=(((i:Int),x,c,ga,gn,gi,b,(b.length:Int),(k:Int),s1,l1,s2,l2,s3,l3,o,()):gL)/\Dg o/\o.length=out.length/\0<=c/\c<4294967296/\v32 o+4294967296 ^ (i+k)*c=v32 out+4294967296 ^ i*x*v32 (b.take k)/\∀ j,i+k<=j->o[j]? =out[j]?) b.length
  (fun r=>∃ o c,r=some (Sum.inr ((i:Int),c,ga,gn,gi,s1,l1,s2,l2,s3,l3,o,()))/\Dg o/\o.length=out.length/\0<=c/\c<4294967296/\v32 o+4294967296 ^ (i+b.length)*c=v32 out+4294967296 ^ i*x*v32 b/\∀ j,i+b.length<=j->o[j]? =out[j]?) ?_ ?_ n 0 _ ⟨out,0,rfl,hd,rfl,by omega,by omega,by simp[tM],fun _ _=>rfl⟩ (by omega) (by omega)
 ·rintro k _ again hk ⟨o,c,rfl,h1,h2,h3,h4,h5,h6⟩ ih
  unfold jS
  dsimp only
  have hy:b[k]? =some b[k]:=aG hk
  have hyd:=hb.get hy
  have hts:=eW hy
  have hz:o[i+k]? =some (o[i+k]'(by omega)):=aG (by omega)
  have hzd:=h1.get hz
  generalize b[k]=y at hy hyd hts
  generalize o[i+k]'(by omega)=z at hz hzd
  obtain⟨m1,m2,m3⟩:=Nu hx hyd hzd ⟨h3,h4⟩
  have e1:w64 ((i:Int)+(k:Int))=((i+k:Nat):Int):=by rw[aE (by omega) (by omega)];omega
  rw[aC (by omega),bM,hy,VJ,e1,bn (by simp only[Tu,V0];omega),TW,hz,VJ,bn (by simp only[Tu,V0];omega),VJ,
   cJ (n:=x) (by omega) (by omega),cJ (n:=y) (by omega) (by omega),cJ (n:=z) (by omega) (by omega),cJ (n:=x*y) (by omega) (by omega),cJ (n:=z+x*y) (by omega) (by omega),cJ (n:=c+(z+x*y)) (by omega) (by omega),xu,Lw,aE (n:=(k:Int)+1) (by omega) (by omega)]
  generalize ht:c+(z+x*y)=t at*
  refine ih _ ⟨_,_,rfl,h1.set (by omega),by rw[UP];exact h2,by omega,by omega, ?_,fun j hj=> ?_⟩
  ·rw[N6 hz,hts]
   have e2:(4294967296:Int) ^ (i+(k+1))=4294967296 ^ i*4294967296 ^ k*4294967296:=by rw[<- Vl,TT,TS]
   have e3:(4294967296:Int) ^ (i+k)=4294967296 ^ i*4294967296 ^ k:=TS ..
   rw[e3] at h5
   rw[e2,e3]
   have e4:=Int.mul_ediv_add_emod t 4294967296
   generalize (4294967296:Int) ^ i=p at*
   generalize (4294967296:Int) ^ k=q at*
   generalize t / 4294967296=d at*
   generalize t % 4294967296=r at*
   grind
  ·rw[UC (by omega)];exact h6 j (by omega)
 ·rintro _ again ⟨o,c,rfl,h1,h2,h3,h4,h5,h6⟩
  unfold jS
  dsimp only
  rw[aF (by omega)]
  rw[Vh (Vu _)] at h5
  exact⟨o,c,rfl,h1,h2,h3,h4,h5,h6⟩
theorem Ed (a b:List Int) (ha:Dg a) (hb:Dg b) (hal:a.length<1000) (hbl:b.length<1000) (s1 s2 s3:Bool) (l3:List Int) (n:Nat) (hn:a.length<n): ∃ o,iter n ((a,(a.length:Int),(0:Int),s1,a,s2,b,s3,l3,List.replicate (a.length+b.length) 0,()):gK) jR=some (Sum.inr (s1,a,s2,b,s3,l3,o,()))/\Dg o/\o.length=a.length+b.length/\v32 o=v32 a*v32 b:=by
 refine bN (Inv:=fun i X=>∃ o,X=((a,(a.length:Int),(i:Int),s1,a,s2,b,s3,l3,o,()):gK)/\Dg o/\o.length=a.length+b.length/\v32 o=v32 (a.take i)*v32 b/\∀ j,i+b.length<=j->j<a.length+b.length->o[j]? =some 0) a.length
  (fun r=>∃ o,r=some (Sum.inr (s1,a,s2,b,s3,l3,o,()))/\Dg o/\o.length=a.length+b.length/\v32 o=v32 a*v32 b) ?_ ?_ n 0 _ ⟨_,rfl,fun d hd=>by rw[List.mem_replicate] at hd;omega,by simp,by rw[Ky];simp[tM],fun j _ hj=>by rw[List.getElem?_replicate,V7 hj]⟩ (by omega) (by omega)
 ·rintro i _ again hi ⟨o,rfl,h1,h2,h3,h4⟩ ih
  unfold jR
  dsimp only
  have hy:a[i]? =some a[i]:=aG hi
  have hyd:=ha.get hy
  have hts:=eW hy
  generalize a[i]=x at hy hyd hts
  rw[aC (by omega),bM,hy,VJ]
  obtain⟨o',c,k1,k2,k3,k4,k5,k6,k7⟩:=Ec i x a (a.length:Int) (i:Int) b s1 a s2 b s3 l3 o hyd hb (by omega) (by omega) (by omega) (by omega) h1 (Int.natAbs (i:Int)+(Int.natAbs x+(Int.natAbs (0:Int)+(List.length a+(Int.natAbs (a.length:Int)+(Int.natAbs (i:Int)+(List.length b+(Int.natAbs ((List.length b:Int))+(Int.natAbs (0:Int)+(List.length a+(List.length b+(List.length l3+(List.length o+2))))))))))))) (by omega)
  rw[k1,bp]
  dsimp only
  have e1:w64 ((i:Int)+(b.length:Int))=((i+b.length:Nat):Int):=by rw[aE (by omega) (by omega)];omega
  have hz:o'[i+b.length]? =some 0:=by rw[k7 _ (Vu _)];exact h4 _ (Vu _) (by omega)
  rw[e1,bn (by simp only[Tu,V0];omega),TW,hz,VJ,Ja (by omega) (by omega),aE (n:=(i:Int)+1) (by omega) (by omega)]
  refine ih _ ⟨_,rfl,k2.set (by omega),by rw[UP];omega, ?_,fun j hj hj2=> ?_⟩
  ·rw[N6 hz,hts]
   have e3:(4294967296:Int) ^ (i+b.length)=4294967296 ^ i*4294967296 ^ b.length:=TS ..
   rw[e3] at k6 ⊢
   grind
  ·rw[UC (by omega),k7 j (by omega)];exact h4 j (by omega) hj2
 ·rintro _ again ⟨o,rfl,h1,h2,h3,h4⟩
  unfold jR
  dsimp only
  rw[aF (by omega)]
  rw[Vh (Vu _)] at h3
  exact⟨o,rfl,h1,h2,h3⟩
theorem Dq (x y:Int) (hx:x.natAbs<4294967296 ^ 99) (hy:y.natAbs<4294967296 ^ 99):jQ (W x) (W y)=some (W (x*y),()):=by
 have hlx:=sU hx
 have hly:=sU hy
 unfold jQ W
 dsimp only
 have e1:w64 (((bW x.natAbs).length:Int)+((bW y.natAbs).length:Int))=(((bW x.natAbs).length+(bW y.natAbs).length:Nat):Int):=by rw[aE (by omega) (by omega)];omega
 rw[e1,bn (by simp only[Tu,V0];omega)]
 obtain⟨o,h1,h2,h3,h4⟩:=Ed (bW x.natAbs) (bW y.natAbs) (fC _) (fC _) (by omega) (by omega) (decide (x<0)) (decide (y<0)) false [] (List.length (bW x.natAbs)+(Int.natAbs ((List.length (bW x.natAbs):Int))+(Int.natAbs (0:Int)+(List.length (bW x.natAbs)+(List.length (bW y.natAbs)+(List.length ([]:List Int)+(List.length ((List.replicate (Int.toNat (((bW x.natAbs).length+(bW y.natAbs).length:Nat):Int)) 0):List Int)+2))))))) (by omega)
 rw[TW] at h1 ⊢
 rw[h1,bp]
 dsimp only
 rw[jm _ _ h2 (by omega),VJ,h4,dY,dY]
 show some (W _,())=some (W (x*y),())
 congr 3
 rw[<- Int.natCast_mul, <- Int.natAbs_mul]
 by_cases h:x<0<;>by_cases h':y<0
 ·have:=Int.mul_pos_of_neg_of_neg h h'
  simp[h,h'];omega
 ·have:=TP (show 0<= -x by omega) (show 0<=y by omega)
  rw[Int.neg_mul] at this
  simp[h,h'];omega
 ·have:=TP (show 0<=x by omega) (show 0<= -y by omega)
  rw[Int.mul_neg] at this
  simp[h,h'];omega
 ·have:=TP (show 0<=x by omega) (show 0<=y by omega)
  simp[h,h'];omega
end Go.Md
namespace Go.Md
open Go.Dn
def Le (k:Nat) (z:Int):Prop:=z.natAbs<=10 ^ k
theorem Le.mul {a b:Nat} {x y:Int} (hx:Le a x) (hy:Le b y):Le (a+b) (x*y):=by
 unfold Le at*
 rw[Int.natAbs_mul,Nat.pow_add]
 exact Nat.mul_le_mul hx hy
theorem Le.mono {a b:Nat} {x:Int} (hx:Le a x) (h:a<=b):Le b x:=Vv hx (VG (by omega) h)
theorem Le.add {a:Nat} {x y:Int} (hx:Le a x) (hy:Le a y):Le (a+1) (x+y):=by
 unfold Le at*
 rw[Nat.pow_succ]
 omega
theorem Le.neg {a:Nat} {x:Int} (hx:Le a x):Le a (-x):=by unfold Le at *;omega
theorem Le.w {k:Nat} {z:Int} (h:Le k z) (hk:k<=900):z.natAbs<4294967296 ^ 99:=
 Nat.lt_of_le_of_lt (h.mono hk) (by decide +kernel)
theorem Le.n {k:Nat} {z:Int} (h:Le k z) (hk:k<=500):(dg6 z.natAbs).length<90:=by
 have:=Nz (k:=84) (n:=z.natAbs) (Nat.lt_of_le_of_lt (h.mono hk) (by decide +kernel))
 omega
theorem Le.pow (n:Nat):Le n (10 ^ n):=by
 unfold Le
 rw[Int.natAbs_pow];exact Vu _
theorem Le.int {n:Int} (h1: -9223372036854775808<=n) (h2:n<=9223372036854775807):Le 19 n:=by unfold Le;omega
theorem Le.succ {k n:Nat} (h:Le k (n:Int)):Le (k+1) ((n+1:Nat):Int):=by
 unfold Le at*
 rw[Nat.pow_succ]
 have:1<=10 ^ k:=Nat.pow_pos (by omega)
 omega
end Go.Md
namespace Go.Md
open Go.Dn
end Go.Md
namespace Go.Md
open Go.Dn
end Go.Md
namespace Go.Md
open Go.Dn
theorem kJ:∀ a:List UInt8,Op.bytesLess a a=false
 | []=>rfl
 | x::a=>by simp[Op.bytesLess,kJ a]
theorem B0:∀ {a b:List UInt8},Lib.compareBytes a b=0↔a=b
 | [],[]=>by simp[Lib.compareBytes]
 | [],_::_=>by simp[Lib.compareBytes]
 | _::_,[]=>by simp[Lib.compareBytes]
 | x::a,y::b=>by
  simp only[Lib.compareBytes,List.cons.injEq]
  by_cases h1:x<y
  ·simp only[h1,V8]
   constructor
   ·intro h;omega
   ·rintro⟨rfl,_⟩;exact absurd h1 (UInt8.lt_irrefl x)
  ·by_cases h2:y<x
   ·simp only[h1,h2,V8,V5]
    constructor
    ·intro h;omega
    ·rintro⟨rfl,_⟩;exact absurd h2 (UInt8.lt_irrefl x)
   ·have:x=y:=UInt8.le_antisymm (VP.1 h2) (VP.1 h1)
    subst this
    simp only[h1,V5,true_and]
    exact B0
theorem Ag:∀ {a b:List UInt8},Lib.compareBytes a b<0↔Op.bytesLess a b=true
 | [],[]=>by simp[Lib.compareBytes,Op.bytesLess]
 | [],_::_=>by simp[Lib.compareBytes,Op.bytesLess]
 | _::_,[]=>by simp[Lib.compareBytes,Op.bytesLess]
 | x::a,y::b=>by
  have ih:= @Ag a b
  simp only[Lib.compareBytes,Op.bytesLess]
  by_cases h1:x<y
  ·simp[h1]
  ·by_cases h2:y<x
   ·have hne:¬ x=y:=fun e=>by subst e;exact absurd h2 (UInt8.lt_irrefl x)
    simp[h1,h2,hne]
   ·have:x=y:=UInt8.le_antisymm (VP.1 h2) (VP.1 h1)
    subst this
    simp[h1,ih]
theorem tW:∀ {a b c:List UInt8},Op.bytesLess a b=true->Op.bytesLess b c=true->Op.bytesLess a c=true
 | [],[],_,h,_=>by simp[Op.bytesLess] at h
 | [],_::_,[],_,h=>by simp[Op.bytesLess] at h
 | [],_::_,_::_,_,_=>rfl
 | _::_,[],_,h,_=>by simp[Op.bytesLess] at h
 | _::_,_::_,[],_,h=>by simp[Op.bytesLess] at h
 | x::a,y::b,z::c,h,k=>by
  simp only[Op.bytesLess,TJ,Tu,V0,beq_iff_eq] at h k ⊢
  rcases h with h | ⟨rfl,h⟩
  ·rcases k with k | ⟨rfl,k⟩
   ·exact .inl (UInt8.lt_trans h k)
   ·exact .inl h
  ·rcases k with k | ⟨rfl,k⟩
   ·exact .inl k
   ·exact .inr ⟨rfl,tW h k⟩
theorem Po (a b:List UInt8):Op.bytesLess a b=true\/a=b\/Op.bytesLess b a=true:=by
 induction a generalizing b with
 | nil=>cases b with
  | nil=>simp
  | cons y b=>simp[Op.bytesLess]
 | cons x a ih=>cases b with
  | nil=>simp[Op.bytesLess]
  | cons y b=>
   simp only[Op.bytesLess,TJ,Tu,V0,beq_iff_eq,List.cons.injEq]
   by_cases h1:x<y
   ·simp[h1]
   ·by_cases h2:y<x
    ·simp[h2]
    ·have:x=y:=UInt8.le_antisymm (VP.1 h2) (VP.1 h1)
     subst this
     rcases ih b with h | h | h<;>simp[h]
def Asc {α:Type} (key:α->List UInt8) (l:List α):Prop:=∀ (i j:Nat) (x y:α),i<j->l[i]? =some x->l[j]? =some y->Op.bytesLess (key x) (key y)=true
def gm {α:Type} (key:α->List UInt8) (t:List UInt8) (l:List α):Option Nat:=l.findIdx? (fun r=>key r==t)
theorem uH {α:Type} {key:α->List UInt8} {t:List UInt8} {l:List α} {k:Nat} (h:gm key t l=some k):∃ x,l[k]? =some x/\key x=t:=by
 unfold gm at h
 rw[List.findIdx?_eq_some_iff_getElem] at h
 obtain⟨h1,h2,_⟩:=h
 exact⟨_,Uw h1,by simpa using h2⟩
theorem PR {α:Type} {key:α->List UInt8} {t:List UInt8} {l:List α} (h:gm key t l=none):∀ x∈l,key x≠t:=by
 unfold gm at h
 rw[List.findIdx?_eq_none_iff] at h
 intro x hx e
 have:=h x hx
 simp[e] at this
theorem RJ {α:Type} {key:α->List UInt8} {t:List UInt8} {l:List α} (hs:Asc key l) {k:Nat} {x:α} (hk:l[k]? =some x) (hx:key x=t):gm key t l=some k:=by
 cases h:gm key t l with
 | none=>exact absurd hx (PR h x (U3 hk))
 | some j=>
  obtain⟨y,h1,h2⟩:=uH h
  rcases VB j k with hlt | rfl | hlt
  ·have:=hs j k y x hlt h1 hk
   rw[h2,hx,kJ] at this;cases this
  ·rfl
  ·have:=hs k j x y hlt hk h1
   rw[h2,hx,kJ] at this;cases this
def ixI:Option Nat->Int
 | some k=>(k:Int)
 | none=> -1
theorem RI (o:Option Nat):decide (ixI o<0)= !o.isSome:=by
 cases o with
 | none=>rfl
 | some k=>exact VY (by simp only[ixI];omega)
end Go.Md
namespace Go.Md
open Go.Dn
instance (d:ah):Decidable (gu d):=by unfold gu;exact inferInstance
def inR (d:ah) (lo hi pl:Int):Bool:=decide (gu d/\d.2<=pl/\lo*10 ^ d.2.toNat<=d.1/\d.1<=hi*10 ^ d.2.toNat)
theorem QU {d:ah} (h0:0<=d.2) (h1:d.2<=9) (k:Int):k*10 ^ 9=k*10 ^ d.2.toNat*10 ^ (9 - d.2).toNat:=by
 rw[TN, <- TS,show d.2.toNat+(9 - d.2).toNat=9 by omega]
theorem RB {d:ah} (h0:0<=d.2) (h1:d.2<=9) (k:Int):qw d<=k*10 ^ 9↔d.1<=k*10 ^ d.2.toNat:=by
 unfold qw
 rw[QU h0 h1]
 exact Int.mul_le_mul_right (xU _)
theorem xz (d:ah):fZ d=some (if gu d then 0 else 1,()):=by
 rw[yc]
 congr 2
 by_cases h:gu d
 ·rw[V7 h,V7 (by unfold gu at h;omega)]
 ·rw[V6 h,V6 (by unfold gu at h;omega)]
theorem BH (d:ah):jK d=some (if gu d then 0 else 1,()):=by
 rw[CU]
 congr 2
 by_cases h:gu d
 ·rw[V7 h,V7 (by unfold gu at h;omega)]
 ·rw[V6 h,V6 (by unfold gu at h;omega)]
theorem KM {γ:Type} (s:Int) (u:γ):aT (β:=Int×Unit) (γ:=γ) (if s=0 then some (Sum.inr u) else some (Sum.inl (s,()))) (fun _=>some (0,()))=some (s,()):=by
 by_cases h:s=0
 ·rw[V7 h,bp,h]
 ·rw[V6 h,lu]
theorem eS {X α:Type} {γ:Type} {f:X->(X->Option ((Int×Unit) ⊕ γ))->Option ((Int×Unit) ⊕ γ)} {x0:X} (mk:Nat->X) (l:List α) (g:Nat->α->Int) (u:γ) (h0:x0=mk 0) (hstep:∀ i y again,l[i]? =some y->f (mk i) again=if g i y=0 then again (mk (i+1)) else some (Sum.inl (g i y,()))) (hend:∀ again,f (mk l.length) again=some (Sum.inr u)) (n:Nat) (hn:l.length<n): iter n x0 f=if cZ g 0 l=0 then some (Sum.inr u) else some (Sum.inl (cZ g 0 l,())):=by
 rw[h0];exact Jt mk l g u hstep hend l 0 n rfl (VI _) hn
end Go.Md
namespace Go.Md
open Go.Dn
theorem zn {α:Type} (l:List α):((l.length:Int)==0)=decide (l.length=0):=by
 cases l with
 | nil=>rfl
 | cons a r=>rw[show decide ((a::r).length=0)=false by simp,VR];simp only[UK];omega
theorem IM (n:Int) (h0:0<=n) (h1:n<=18):yx n=some (10 ^ n.toNat,()):=J1 n h0 h1
end Go.Md
namespace Go.Md
open Go.Dn
theorem uL:∀ (n:Nat) (l:List Nat),l.Nodup->(∀ x∈l,x<n)->l.length<=n
 | 0,l,_,h=>by
  cases l with
  | nil=>simp
  | cons a r=>exact absurd (h a (by simp)) (VF _)
 | n+1,l,hd,h=>by
  by_cases hm:n∈l
  ·have h1:=uL n (l.erase n) (hd.erase n) (fun x hx=>by
    have:=(hd.mem_erase_iff).1 hx
    have:=h x this.2
    omega)
   rw[List.length_erase_of_mem hm] at h1
   omega
  ·have:=uL n l hd (fun x hx=>by
    have h2:=h x hx
    have:x≠n:=fun e=>hm (e ▸ hx)
    omega)
   omega
def itp (par:Nat->Option Nat):Nat->Nat->Option Nat
 | 0,i=>some i
 | j+1,i=>(par i).bind (itp par j)
theorem zm {par:Nat->Option Nat}:∀ {a b i k:Nat},itp par a i=some k->itp par (a+b) i=itp par b k
 | 0,b,i,k,h=>by simp only[itp,Option.some.injEq] at h;subst h;rw[VH]
 | a+1,b,i,k,h=>by
  simp only[itp] at h
  rw[show a+1+b=(a+b)+1 by omega]
  simp only[itp]
  cases hp:par i with
  | none=>rw[hp] at h;cases h
  | some j=>rw[hp] at h;exact zm (a:=a) (by simpa using h)
def fX (par:Nat->Option Nat) (i:Nat):Prop:=∃ j,itp par (j+1) i=some i
def qv (par:Nat->Option Nat) (i k d:Nat):Prop:=itp par (d+1) k=some i/\∀ e,e<d->itp par (e+1) k≠some i
theorem qv.uniq {par:Nat->Option Nat} {i k d e:Nat} (h:qv par i k d) (h':qv par i k e):d=e:=by
 rcases VB d e with h1 | h1 | h1
 ·exact absurd h.1 (h'.2 d h1)
 ·exact h1
 ·exact absurd h'.1 (h.2 e h1)
theorem qv.step {par:Nat->Option Nat} {i k d:Nat} (h:qv par i k d):∃ k',par k=some k'/\((k'=i/\d=0)\/(k'≠i/\∃ e,d=e+1/\qv par i k' e)):=by
 obtain⟨h1,h2⟩:=h
 simp only[itp] at h1
 cases hp:par k with
 | none=>rw[hp] at h1;cases h1
 | some k'=>
  rw[hp] at h1
  refine⟨k',rfl, ?_⟩
  cases d with
  | zero=>simp only[VJ,itp,Option.some.injEq] at h1;exact .inl ⟨h1,rfl⟩
  | succ e=>
   right
   refine⟨fun e1=> ?_,e,rfl,by simpa using h1,fun f hf hx=> ?_⟩
   ·refine h2 0 (by omega) ?_
    simp only[itp,hp,VJ,e1]
   ·refine h2 (f+1) (by omega) ?_
    rw[show f+1+1=(f+1)+1 from rfl]
    show (par k).bind (itp par (f+1))=some i
    rw[hp];exact hx
theorem fX.QV {par:Nat->Option Nat} {i:Nat} (h:fX par i):∃ d,qv par i i d:=by
 obtain⟨j,hj⟩:=h
 induction j using Nat.strongRecOn with
 | _ j ih=>
  by_cases hx:∃ e,e<j/\itp par (e+1) i=some i
  ·obtain⟨e,h1,h2⟩:=hx;exact ih e h1 h2
  ·exact⟨j,hj,fun e he h2=>hx ⟨e,he,h2⟩⟩
theorem qv.list {par:Nat->Option Nat} {i n:Nat} (hn:∀ k k',par k=some k'->k'<n):∀ {d k:Nat},k<n->qv par i k d->∃ l:List Nat,l.length=d+1/\l.Nodup/\(∀ x∈l,x<n)/\∀ x∈l,∃ e,e<=d/\qv par i x e
 | 0,k,hk,h=>⟨[k],rfl,by simp,by simpa using hk,fun x hx=>by simp at hx;subst hx;exact⟨0,Vu _,h⟩⟩
 | d+1,k,hk,h=>by
  obtain⟨k',h1,h2⟩:=h.step
  rcases h2 with ⟨_,h2⟩ | ⟨_,e,h2,h3⟩
  ·omega
  ·have:e=d:=by omega
   subst this
   obtain⟨l,l1,l2,l3,l4⟩:=qv.list hn (hn _ _ h1) h3
   refine⟨k::l,by simp[l1],U8.2 ⟨fun hm=> ?_,l2⟩,fun x hx=> ?_,fun x hx=> ?_⟩
   ·obtain⟨f,f1,f2⟩:=l4 k hm
    have:=f2.uniq h
    omega
   ·rcases UX.1 hx with rfl | hx
    ·exact hk
    ·exact l3 x hx
   ·rcases UX.1 hx with rfl | hx
    ·exact⟨e+1,Vu _,h⟩
    ·obtain⟨f,f1,f2⟩:=l4 x hx;exact⟨f,by omega,f2⟩
theorem qv.le {par:Nat->Option Nat} {i n d k:Nat} (hn:∀ k k',par k=some k'->k'<n) (hk:k<n) (h:qv par i k d):d+1<=n:=by
 obtain⟨l,l1,l2,l3,_⟩:=h.list hn hk
 have:=uL n l l2 l3
 omega
def anc (par:Nat->Option Nat):Nat->Nat->List Nat
 | 0,_=>[]
 | f+1,i=>match par i with
  | none=>[]
  | some k=>k::anc par f k
theorem sQ {par:Nat->Option Nat} {f i k:Nat} (h:par i=some k):anc par (f+1) i=k::anc par f k:=by simp[anc,h]
theorem EV {par:Nat->Option Nat} {i:Nat} (h:par i=none):∀ f,anc par f i=[]
 | 0=>rfl
 | f+1=>by simp[anc,h]
theorem Nv {par:Nat->Option Nat}:∀ {f i x:Nat},x∈anc par f i->∃ j,j<f/\itp par (j+1) i=some x
 | 0,_,_,h=>by simp[anc] at h
 | f+1,i,x,h=>by
  cases hp:par i with
  | none=>simp[anc,hp] at h
  | some k=>
   rw[sQ hp] at h
   rcases UX.1 h with rfl | h
   ·exact⟨0,by omega,by simp[itp,hp]⟩
   ·obtain⟨j,h1,h2⟩:=Nv h
    exact⟨j+1,by omega,by show (par i).bind (itp par (j+1))=some x;rw[hp];exact h2⟩
theorem Pf {par:Nat->Option Nat} {n:Nat} (hn:∀ k k',par k=some k'->k'<n):∀ {f i x:Nat},x∈anc par f i->x<n
 | 0,_,_,h=>by simp[anc] at h
 | f+1,i,x,h=>by
  cases hp:par i with
  | none=>simp[anc,hp] at h
  | some k=>
   rw[sQ hp] at h
   rcases UX.1 h with rfl | h
   ·exact hn _ _ hp
   ·exact Pf hn h
theorem BN {par:Nat->Option Nat} {n:Nat} (hn:∀ k k',par k=some k'->k'<n) (hl:∀ k,k<n->¬ fX par k):∀ {f i:Nat},i<n->(i::anc par f i).Nodup
 | 0,i,_=>by simp[anc]
 | f+1,i,hi=>by
  rw[U8]
  refine⟨fun hm=> ?_, ?_⟩
  ·obtain⟨j,_,hj⟩:=Nv hm
   exact hl i hi ⟨j,hj⟩
  ·cases hp:par i with
   | none=>simp[anc,hp]
   | some k=>
    rw[sQ hp]
    exact BN hn hl (hn _ _ hp)
theorem Ry {par:Nat->Option Nat} {n:Nat} (hn:∀ k k',par k=some k'->k'<n) (hl:∀ k,k<n->¬ fX par k) {f i:Nat} (hi:i<n):(anc par f i).length<n:=by
 have:=uL n (i::anc par f i) (BN hn hl hi) (fun x hx=>by
  rcases UX.1 hx with rfl | hx
  ·exact hi
  ·exact Pf hn hx)
 simp at this;omega
theorem Jf {par:Nat->Option Nat}:∀ {f g i:Nat},(anc par f i).length<f->f<=g->anc par g i=anc par f i
 | 0,_,_,h,_=>by simp[anc] at h
 | f+1,g,i,h,hg=>by
  obtain⟨g,rfl⟩:∃ g',g=g'+1:=⟨g - 1,by omega⟩
  cases hp:par i with
  | none=>rw[EV hp,EV hp]
  | some k=>
   rw[sQ hp] at h ⊢
   rw[sQ hp]
   rw[Jf (f:=f) (by simpa using h) (by omega)]
end Go.Md
namespace Go.Md
open Go.Dn
theorem pL (l:List Int) (x:Int) (hl:l.length<1000000000):gh l x=some (decide (x∈l),()):=by
 unfold gh qF
 have loop:∀ f,l.length<f->∃ n:Int,iter f ((l,x,(l.length:Int),(0:Int),()):gj) jb=(if x∈l then some (Sum.inl (n,())) else some (Sum.inr ()))/\0<=n:=by
  intro f hf
  refine bN (Inv:=fun i X=>X=((l,x,(l.length:Int),(i:Int),()):gj)/\∀ j y,j<i->l[j]? =some y->y≠x) l.length
   (fun r=>∃ n:Int,r=(if x∈l then some (Sum.inl (n,())) else some (Sum.inr ()))/\0<=n) ?_ ?_ f 0 _ ⟨rfl,fun _ _ h=>absurd h (VF _)⟩ (by omega) (by omega)
  ·rintro i _ again hi ⟨rfl,hb⟩ ih
   unfold jb
   dsimp only
   have hy:l[i]? =some l[i]:=aG hi
   generalize l[i]=y at hy
   rw[aC (by omega),bM,hy,VJ]
   by_cases he:x=y
   ·rw[show (x==y)=true by simpa using he,VW]
    exact⟨i,by rw[V7 (he ▸ U3 hy)],by omega⟩
   ·rw[show (x==y)=false by simpa using he,VV,aE (by omega) (by omega)]
    refine ih _ ⟨rfl,fun j z hj hz=> ?_⟩
    rcases Vz.1 hj with h | h
    ·exact hb j z h hz
    ·subst h;rw[hy] at hz;cases hz;exact fun e=>he e.symm
  ·rintro _ again ⟨rfl,hb⟩
   unfold jb
   dsimp only
   rw[aF (by omega)]
   refine⟨0, ?_,Int.le_refl _⟩
   rw[V6]
   intro hm
   obtain⟨j,hj⟩:=U1.1 hm
   exact hb j x (Uy.1 hj).1 hj rfl
 obtain⟨n,h1,h2⟩:=loop (List.length l+(Int.natAbs x+(Int.natAbs ((List.length l:Int))+(Int.natAbs (0:Int)+2)))) (by omega)
 rw[h1]
 by_cases hm:x∈l
 ·rw[V7 hm,lu,VJ,VZ hm]
  congr 2
  exact VZ h2
 ·rw[V6 hm,bp,VJ,VY hm]
  rfl
def bI (c:UInt8):Bool:=decide (48<=c.toNat)&&decide (c.toNat<=57)
theorem sV {c:UInt8}:(decide ((c.toNat:Int)<48)=false/\decide ((c.toNat:Int)>57)=false)↔bI c=true:=by
 simp only[bI,Tu,V0,decide_eq_false_iff_not]
 omega
theorem mW (s:List UInt8) (hs:s.length<=9223372036854775807):gC s=some (decide (s≠[])&&s.all bI,()):=by
 unfold gC yt
 by_cases h0:s=[]
 ·subst h0;rfl
 ·rw[show (!(s==[]))=true by cases s<;>simp_all,VW,VZ h0,TK]
  have loop:∀ f,s.length<f->iter f ((s,(48:Int),(57:Int),(s.length:Int),(0:Int),()):kO) oy=(if s.all bI=true then some (Sum.inr ()) else some (Sum.inl (false,()))):=by
   intro f hf
   refine bN (Inv:=fun i X=>X=((s,(48:Int),(57:Int),(s.length:Int),(i:Int),()):kO)/\(s.take i).all bI=true) s.length
    (fun r=>r=(if s.all bI=true then some (Sum.inr ()) else some (Sum.inl (false,())))) ?_ ?_ f 0 _ ⟨rfl,by simp⟩ (by omega) (by omega)
   ·rintro i _ again hi ⟨rfl,hb⟩ ih
    unfold oy
    dsimp only
    have hy:s[i]? =some s[i]:=aG hi
    have hym:s[i]∈s:=UH hi
    generalize s[i]=y at hy hym
    rw[aC (by omega),nR hy,VJ,VJ,aE (by omega) (by omega)]
    cases hd:bI y with
    | true=>
     obtain⟨h1,h2⟩:=sV.2 hd
     rw[h1,h2,VV,VV]
     refine ih _ ⟨rfl, ?_⟩
     rw[dD hy]
     simp[hb,hd]
    | false=>
     have hall:s.all bI=false:=by
      rw[TY]
      exact⟨y,hym,by simp[hd]⟩
     rw[hall]
     cases h1:decide ((y.toNat:Int)<48) with
     | true=>rfl
     | false=>
      cases h2:decide ((y.toNat:Int)>57) with
      | true=>rfl
      | false=>have:=sV.1 ⟨h1,h2⟩;rw[hd] at this;cases this
   ·rintro _ again ⟨rfl,hb⟩
    unfold oy
    dsimp only
    rw[aF (by omega)]
    rw[Vh (Vu _)] at hb
    rw[V7 hb]
  rw[loop _ (by omega)]
  cases s.all bI<;>rfl
theorem tw (s:List UInt8) (hs:s.length<=9223372036854775807):dw s=some (decide (s≠[])&&s.all bI,()):=by
 unfold dw
 by_cases h0:s=[]
 ·subst h0;rfl
 ·rw[show (s==[])=false by cases s<;>simp_all,VV,VZ h0,TK]
  have loop:∀ f,s.length<f->iter f ((s,(s.length:Int),(0:Int),()):kW) oI=(if s.all bI=true then some (Sum.inr ()) else some (Sum.inl (false,()))):=by
   intro f hf
   refine bN (Inv:=fun i X=>X=((s,(s.length:Int),(i:Int),()):kW)/\(s.take i).all bI=true) s.length
    (fun r=>r=(if s.all bI=true then some (Sum.inr ()) else some (Sum.inl (false,())))) ?_ ?_ f 0 _ ⟨rfl,by simp⟩ (by omega) (by omega)
   ·rintro i _ again hi ⟨rfl,hb⟩ ih
    unfold oI
    dsimp only
    have hy:s[i]? =some s[i]:=aG hi
    have hym:s[i]∈s:=UH hi
    generalize s[i]=y at hy hym
    rw[aC (by omega),nR hy,VJ,VJ,aE (by omega) (by omega)]
    cases hd:bI y with
    | true=>
     obtain⟨h1,h2⟩:=sV.2 hd
     rw[h1,h2,VV,VV]
     refine ih _ ⟨rfl, ?_⟩
     rw[dD hy]
     simp[hb,hd]
    | false=>
     have hall:s.all bI=false:=by
      rw[TY]
      exact⟨y,hym,by simp[hd]⟩
     rw[hall]
     cases h1:decide ((y.toNat:Int)<48) with
     | true=>rfl
     | false=>
      cases h2:decide ((y.toNat:Int)>57) with
      | true=>rfl
      | false=>have:=sV.1 ⟨h1,h2⟩;rw[hd] at this;cases this
   ·rintro _ again ⟨rfl,hb⟩
    unfold oI
    dsimp only
    rw[aF (by omega)]
    rw[Vh (Vu _)] at hb
    rw[V7 hb]
  rw[loop _ (by omega)]
  cases s.all bI<;>rfl
theorem ER (s:List UInt8) (hs:s.length<=100):∃ b,lD s=some (b,()):=by
 unfold lD
 have loop:∀ f,s.length<f->∃ n:Int,iter f ((s,(0:Int),(s.length:Int),(0:Int),()):nN) sg=some (Sum.inr (n,())):=by
  intro f hf
  refine bN (Inv:=fun i X=>∃ n:Int,X=((s,n,(s.length:Int),(i:Int),()):nN)) s.length
   (fun r=>∃ n:Int,r=some (Sum.inr (n,()))) ?_ ?_ f 0 _ ⟨0,rfl⟩ (by omega) (by omega)
  ·rintro i _ again hi ⟨n,rfl⟩ ih
   unfold sg
   dsimp only
   have e:w64 (w64 ((s.length:Int) - 1) - (i:Int))=((s.length - 1 - i:Nat):Int):=by
    rw[aE (n:=(s.length:Int) - 1) (by omega) (by omega),aE (by omega) (by omega)];omega
   have hy:s[s.length - 1 - i]? =some (s[s.length - 1 - i]'(by omega)):=aG (by omega)
   rw[aC (by omega),e,nR hy,VJ,aE (n:=(i:Int)+1) (by omega) (by omega)]
   cases (Int.tmod (i:Int) 2==1) with
   | true=>rw[VW];exact ih _ ⟨_,rfl⟩
   | false=>rw[VV];exact ih _ ⟨_,rfl⟩
  ·rintro _ again ⟨n,rfl⟩
   unfold sg
   dsimp only
   rw[aF (by omega)]
   exact⟨n,rfl⟩
 obtain⟨n,h⟩:=loop (List.length s+(Int.natAbs (0:Int)+(Int.natAbs ((List.length s:Int))+(Int.natAbs (0:Int)+2)))) (by omega)
 rw[h]
 exact⟨_,rfl⟩
def lbl (s:List UInt8):Bool:=decide (s.length=18)&&(s.all bI&&((lD s).map (·.1)).getD false)
theorem D9 (s:List UInt8) (hs:s.length<=9223372036854775807):oD s=some (lbl s,()):=by
 unfold oD ri pT mT sO
 rw[oz,VJ,VJ]
 dsimp only
 rw[show (!(!(decide ((3:Int)<1\/(5:Int)<3))))=false by decide,VV,show ((3:Int)==4)=false from rfl,show ((3:Int)==5)=false from rfl,show ((3:Int)==1)=false from rfl,show ((3:Int)==2)=false from rfl]
 simp only[VV,VJ]
 rw[pL _ _ (by decide),VJ,mW s hs]
 unfold lbl
 by_cases hl:s.length=18
 ·obtain⟨b,hb⟩:=ER s (by omega)
  have hb2:wu s=some (b,()):=hb
  have hne:s≠[]:=fun e=>by subst e;cases hl
  rw[VZ (show (s.length:Int)∈[18] by simp;omega),VW,VJ,VZ hne,TK,VZ hl,TK,hb2,hb]
  cases s.all bI<;>simp
 ·rw[VY (show ¬ (s.length:Int)∈[18] by simp;omega),VY hl]
  rfl
theorem IU (s:List UInt8) (hs:s.length<=9223372036854775807):ud s=some (lbl s,()):=by
 unfold ud yz CY yB
 rw[si,VJ,VJ]
 dsimp only
 rw[show (!(decide ((1:Int)<=3/\(3:Int)<=5)))=false by decide,VV,show ((3:Int)==1)=false from rfl,show ((3:Int)==2)=false from rfl,show ((3:Int)==3)=true from rfl]
 simp only[VV,VW]
 rw[tw s hs,VJ]
 unfold lbl
 by_cases hl:s.length=18
 ·obtain⟨b,hb⟩:=ER s (by omega)
  have hne:s≠[]:=fun e=>by subst e;cases hl
  rw[VZ hne,TK,VZ hl,TK,hb,show ((s.length:Int)==18)=true by rw[hl];rfl]
  cases s.all bI<;>simp
 ·rw[VY hl,show ((s.length:Int)==18)=false by rw[VR];omega]
  cases (decide (s≠[])&&s.all bI)<;>rfl
def qOk (d:ah) (zero:Bool):Bool:=inR d 0 1000000000 3&&(!(d.1==0)||zero)
theorem GQ {d:ah} (hd:gu d):rL d 3 1000000000=some (inR d 0 1000000000 3,()):=by
 unfold rL
 have hp:=xU d.2.toNat
 have hp2:(10:Int) ^ d.2.toNat<=1000000000:=by
  have:=VG (n:=10) (by omega) (show d.2.toNat<=9 by have:=hd.2.2;omega)
  have h2:=Int.ofNat_le.2 this
  simpa using h2
 rw[IM d.2 hd.2.1 (by have:=hd.2.2;omega)]
 have e:inR d 0 1000000000 3=(decide (d.2<=3)&&(decide (d.1>=0)&&decide (d.1<=1000000000*10 ^ d.2.toNat))):=by
  unfold inR
  rw[<- Bool.decide_and, <- Bool.decide_and,VX,Int.zero_mul]
  constructor
  ·rintro⟨_,h2,h3,h4⟩;exact⟨h2,h3,h4⟩
  ·rintro⟨h2,h3,h4⟩;exact⟨hd,h2,h3,h4⟩
 rw[e,VJ,aE (n:=1000000000*10 ^ d.2.toNat) (by omega) (by omega)]
 cases decide (d.2<=3)<;>cases decide (d.1>=0)<;>cases decide (d.1<=1000000000*10 ^ d.2.toNat)<;>rfl
theorem pG (d:ah) (z:Bool):cF d z=some (if qOk d z=true then 0 else 1,()):=by
 unfold cF qOk
 rw[xz,VJ]
 by_cases hd:gu d
 ·rw[GQ hd,V7 hd]
  dsimp only
  rw[show ((0:Int) != 0)=false from rfl,VV,VJ]
  cases inR d 0 1000000000 3<;>cases (d.1==0)<;>cases z<;>rfl
 ·have:inR d 0 1000000000 3=false:=by unfold inR;simp[hd]
  simp[hd,this]
theorem Bk (d:ah) (above:Bool):iq d above=some (qOk d (!above),()):=by
 unfold iq qOk
 rw[BH,VJ]
 by_cases hd:gu d
 ·have h2:gu (1000000000,0):=by decide
  have hc:DK d (1000000000,0)=some ((qw d - qw (1000000000,0)).sign,()):=OU hd h2
  have e9:qw (1000000000,0)=1000000000*10 ^ 9:=rfl
  have hs:decide ((qw d - qw (1000000000,0)).sign<=0)=decide (d.1<=1000000000*10 ^ d.2.toNat):=by
   rw[VX, <- RB hd.2.1 hd.2.2, <- e9,Int.sign_nonpos_iff];omega
  rw[hc,V7 hd]
  dsimp only
  rw[show ((0:Int)==0)=true from rfl,VW,VJ]
  dsimp only
  rw[hs]
  have e:inR d 0 1000000000 3=(decide (d.2<=3)&&(decide (d.1>=0)&&decide (d.1<=1000000000*10 ^ d.2.toNat))):=by
   unfold inR
   rw[<- Bool.decide_and, <- Bool.decide_and,VX,Int.zero_mul]
   constructor
   ·rintro⟨_,h2,h3,h4⟩;exact⟨h2,h3,h4⟩
   ·rintro⟨h2,h3,h4⟩;exact⟨hd,h2,h3,h4⟩
  have hz:(d.1==0)=(decide (d.1>=0)&& !decide (d.1>0)):=by
   by_cases h:d.1=0
   ·rw[show (d.1==0)=true by simpa using h,h];rfl
   ·rw[show (d.1==0)=false by simpa using h]
    by_cases h3:d.1>0
    ·simp[h3]
    ·have:¬ d.1>=0:=by omega
     simp[this]
  rw[e,hz]
  have himp:d.1>0->d.1>=0:=fun h=>by omega
  cases h5:decide (d.1>0)<;>cases decide (d.2<=3)<;>cases h6:decide (d.1>=0)<;>cases decide (d.1<=1000000000*10 ^ d.2.toNat)<;>cases above<;>simp_all
 ·have:inR d 0 1000000000 3=false:=by unfold inR;simp[hd]
  simp[hd,this]
end Go.Md
