/-
  Plain facts: products, powers, rounding; digits. No condition.
-/
import Derived.Test.YtjlkkapojeldlaaGreatDoorYq
import Derived.Test.YtjlkkapojeldlaaGreatDoorYn
import Derived.Test.YtjlkkapojeldlaaGreatDoorYp
set_option linter.all false
namespace Go.Md
open Go.Dn
theorem KI (a b:List Int):zG a b=Et a b:=rfl
theorem Fk (x y:Int) (hx:x.natAbs<4294967296 ^ 99) (hy:y.natAbs<4294967296 ^ 99):lH (W x) (W y)=some (W (x+y),()):=by
 have hlx:=nO hx
 have hly:=nO hy
 unfold lH W
 dsimp only
 by_cases hs:decide (x<0)=decide (y<0)
 ·rw[show (decide (x<0)==decide (y<0))=true by simp[hs],YG,KI]
  obtain⟨s,h1,h2,h3,h4⟩:=Ok (bD x.natAbs) (bD y.natAbs) (eo _) (eo _) (by omega) (by omega)
  rw[h1,Yt]
  dsimp only
  rw[gX _ _ h2 (by omega),Yt,h3,dM,dM]
  simp only[YH] at hs
  show some (W _,())=some (W (x+y),())
  congr 3
  by_cases h:x<0
  ·simp only[h,YM,YS];omega
  ·simp only[h,YL,V4,YP];omega
 ·rw[show (decide (x<0)==decide (y<0))=false by simp[hs],YF]
  obtain⟨c,h1,h2,h3⟩:=GZ x.natAbs y.natAbs (by omega) (by omega)
  rw[h1,Yt]
  dsimp only
  simp only[YH] at hs
  have hlen:∀ a b:Nat,b<=a->(bD b).length<=(bD a).length:=fun a b h=>by
   rcases Yf (bD a).length (bD b).length with h' | h'
   ·have:=pT h';omega
   ·exact h'
  by_cases hc:c>=0
  ·rw[aF hc,Cr _ _ (eo _) (eo _) (by omega) (hlen _ _ (by omega)) (by rw[dM,dM];omega),Yt]
   dsimp only
   rw[gX _ _ (eo _) (by have:=hlen x.natAbs (v32 (bD x.natAbs) - v32 (bD y.natAbs)).toNat (by rw[dM,dM];omega);omega),Yt]
   rw[dM,dM,dM]
   show some (W _,())=some (W (x+y),())
   congr 3
   by_cases h:x<0
   ·simp only[h,YM,YS];omega
   ·simp only[h,YL,V4,YP];omega
  ·rw[aI hc,Cr _ _ (eo _) (eo _) (by omega) (hlen _ _ (by omega)) (by rw[dM,dM];omega),Yt]
   dsimp only
   rw[gX _ _ (eo _) (by have:=hlen y.natAbs (v32 (bD y.natAbs) - v32 (bD x.natAbs)).toNat (by rw[dM,dM];omega);omega),Yt]
   rw[dM,dM,dM]
   show some (W _,())=some (W (x+y),())
   congr 3
   by_cases h:y<0
   ·simp only[h,YM,YS];omega
   ·simp only[h,YL,V4,YP];omega
theorem Po {x y z c:Int} (hx:0<=x/\x<4294967296) (hy:0<=y/\y<4294967296) (hz:0<=z/\z<4294967296) (hc:0<=c/\c<4294967296):0<=x*y/\x*y<=18446744065119617025/\c+(z+x*y)<=18446744073709551615:=by
 have h1:0<=x*y:=Wl hx.1 hy.1
 have h2:x*y<=4294967295*4294967295:=Int.mul_le_mul (by omega) (by omega) (by omega) (by omega)
 omega
theorem Fm (i:Nat) (x:Int) (ga:List Int) (gn gi:Int) (b:List Int) (s1:Bool) (l1:List Int) (s2:Bool) (l2:List Int) (s3:Bool) (l3:List Int) (out:List Int) (hx:0<=x/\x<4294967296) (hb:Dg b) (hbl:b.length<10000) (hil:i<10000) (ho:i+b.length<=out.length) (hol:out.length<100000) (hd:Dg out) (n:Nat) (hn:b.length<n): ∃ o c,iter n (((i:Int),x,(0:Int),ga,gn,gi,b,(b.length:Int),(0:Int),s1,l1,s2,l2,s3,l3,out,()):gP) kz=some (Sum.inr ((i:Int),c,ga,gn,gi,s1,l1,s2,l2,s3,l3,o,()))/\ Dg o/\o.length=out.length/\0<=c/\c<4294967296/\v32 o+4294967296 ^ (i+b.length)*c=v32 out+4294967296 ^ i*x*v32 b/\∀ j,i+b.length<=j->o[j]? =out[j]? :=by
 refine b8 (Inv:=fun k X=>∃ o c,X=(((i:Int),x,c,ga,gn,gi,b,(b.length:Int),(k:Int),s1,l1,s2,l2,s3,l3,o,()):gP)/\Dg o/\o.length=out.length/\0<=c/\c<4294967296/\v32 o+4294967296 ^ (i+k)*c=v32 out+4294967296 ^ i*x*v32 (b.take k)/\∀ j,i+k<=j->o[j]? =out[j]?) b.length
  (fun r=>∃ o c,r=some (Sum.inr ((i:Int),c,ga,gn,gi,s1,l1,s2,l2,s3,l3,o,()))/\Dg o/\o.length=out.length/\0<=c/\c<4294967296/\v32 o+4294967296 ^ (i+b.length)*c=v32 out+4294967296 ^ i*x*v32 b/\∀ j,i+b.length<=j->o[j]? =out[j]?) ?_ ?_ n 0 _ ⟨out,0,rfl,hd,rfl,by omega,by omega,by simp[rQ],fun _ _=>rfl⟩ (by omega) (by omega)
 ·rintro k _ again hk ⟨o,c,rfl,h1,h2,h3,h4,h5,h6⟩ ih
  unfold kz
  dsimp only
  have hy:b[k]? =some b[k]:=aK hk
  have hyd:=hb.get hy
  have hts:=dG hy
  have hz:o[i+k]? =some (o[i+k]'(by omega)):=aK (by omega)
  have hzd:=h1.get hz
  generalize b[k]=y at hy hyd hts
  generalize o[i+k]'(by omega)=z at hz hzd
  obtain⟨m1,m2,m3⟩:=Po hx hyd hzd ⟨h3,h4⟩
  have e1:w64 ((i:Int)+(k:Int))=((i+k:Nat):Int):=by rw[aD (by omega) (by omega)];omega
  rw[aF (by omega),bK,hy,Yt,e1,aJ (by simp only[VZ,YK];omega),Ws,hz,Yt,aJ (by simp only[VZ,YK];omega),Yt,
   bY (n:=x) (by omega) (by omega),bY (n:=y) (by omega) (by omega),bY (n:=z) (by omega) (by omega),bY (n:=x*y) (by omega) (by omega),bY (n:=z+x*y) (by omega) (by omega),bY (n:=c+(z+x*y)) (by omega) (by omega),yc,Nk,aD (n:=(k:Int)+1) (by omega) (by omega)]
  generalize ht:c+(z+x*y)=t at*
  refine ih _ ⟨_,_,rfl,h1.set (by omega),by rw[Xs];exact h2,by omega,by omega, ?_,fun j hj=> ?_⟩
  ·rw[P2 hz,hts]
   have e2:(4294967296:Int) ^ (i+(k+1))=4294967296 ^ i*4294967296 ^ k*4294967296:=by rw[<- X3,Wp,Wo]
   have e3:(4294967296:Int) ^ (i+k)=4294967296 ^ i*4294967296 ^ k:=Wo ..
   rw[e3] at h5
   rw[e2,e3]
   have e4:=Int.mul_ediv_add_emod t 4294967296
   generalize (4294967296:Int) ^ i=p at*
   generalize (4294967296:Int) ^ k=q at*
   generalize t / 4294967296=d at*
   generalize t % 4294967296=r at*
   grind
  ·rw[Xe (by omega)];exact h6 j (by omega)
 ·rintro _ again ⟨o,c,rfl,h1,h2,h3,h4,h5,h6⟩
  unfold kz
  dsimp only
  rw[aI (by omega)]
  rw[X0 (Yc _)] at h5
  exact⟨o,c,rfl,h1,h2,h3,h4,h5,h6⟩
theorem Fo (a b:List Int) (ha:Dg a) (hb:Dg b) (hal:a.length<1000) (hbl:b.length<1000) (s1 s2 s3:Bool) (l3:List Int) (n:Nat) (hn:a.length<n): ∃ o,iter n ((a,(a.length:Int),(0:Int),s1,a,s2,b,s3,l3,List.replicate (a.length+b.length) 0,()):gO) ku=some (Sum.inr (s1,a,s2,b,s3,l3,o,()))/\Dg o/\o.length=a.length+b.length/\v32 o=v32 a*v32 b:=by
 refine b8 (Inv:=fun i X=>∃ o,X=((a,(a.length:Int),(i:Int),s1,a,s2,b,s3,l3,o,()):gO)/\Dg o/\o.length=a.length+b.length/\v32 o=v32 (a.take i)*v32 b/\∀ j,i+b.length<=j->j<a.length+b.length->o[j]? =some 0) a.length
  (fun r=>∃ o,r=some (Sum.inr (s1,a,s2,b,s3,l3,o,()))/\Dg o/\o.length=a.length+b.length/\v32 o=v32 a*v32 b) ?_ ?_ n 0 _ ⟨_,rfl,fun d hd=>by rw[List.mem_replicate] at hd;omega,by simp,by rw[Me];simp[rQ],fun j _ hj=>by rw[List.getElem?_replicate,YR hj]⟩ (by omega) (by omega)
 ·rintro i _ again hi ⟨o,rfl,h1,h2,h3,h4⟩ ih
  unfold ku
  dsimp only
  have hy:a[i]? =some a[i]:=aK hi
  have hyd:=ha.get hy
  have hts:=dG hy
  generalize a[i]=x at hy hyd hts
  rw[aF (by omega),bK,hy,Yt]
  obtain⟨o',c,k1,k2,k3,k4,k5,k6,k7⟩:=Fm i x a (a.length:Int) (i:Int) b s1 a s2 b s3 l3 o hyd hb (by omega) (by omega) (by omega) (by omega) h1 (Int.natAbs (i:Int)+(Int.natAbs x+(Int.natAbs (0:Int)+(List.length a+(Int.natAbs (a.length:Int)+(Int.natAbs (i:Int)+(List.length b+(Int.natAbs ((List.length b:Int))+(Int.natAbs (0:Int)+(List.length a+(List.length b+(List.length l3+(List.length o+2))))))))))))) (by omega)
  rw[k1,bg]
  dsimp only
  have e1:w64 ((i:Int)+(b.length:Int))=((i+b.length:Nat):Int):=by rw[aD (by omega) (by omega)];omega
  have hz:o'[i+b.length]? =some 0:=by rw[k7 _ (Yc _)];exact h4 _ (Yc _) (by omega)
  rw[e1,aJ (by simp only[VZ,YK];omega),Ws,hz,Yt,AQ (by omega) (by omega),aD (n:=(i:Int)+1) (by omega) (by omega)]
  refine ih _ ⟨_,rfl,k2.set (by omega),by rw[Xs];omega, ?_,fun j hj hj2=> ?_⟩
  ·rw[P2 hz,hts]
   have e3:(4294967296:Int) ^ (i+b.length)=4294967296 ^ i*4294967296 ^ b.length:=Wo ..
   rw[e3] at k6 ⊢
   grind
  ·rw[Xe (by omega),k7 j (by omega)];exact h4 j (by omega) hj2
 ·rintro _ again ⟨o,rfl,h1,h2,h3,h4⟩
  unfold ku
  dsimp only
  rw[aI (by omega)]
  rw[X0 (Yc _)] at h3
  exact⟨o,rfl,h1,h2,h3⟩
theorem Er (x y:Int) (hx:x.natAbs<4294967296 ^ 99) (hy:y.natAbs<4294967296 ^ 99):kr (W x) (W y)=some (W (x*y),()):=by
 have hlx:=nO hx
 have hly:=nO hy
 unfold kr W
 dsimp only
 have e1:w64 (((bD x.natAbs).length:Int)+((bD y.natAbs).length:Int))=(((bD x.natAbs).length+(bD y.natAbs).length:Nat):Int):=by rw[aD (by omega) (by omega)];omega
 rw[e1,aJ (by simp only[VZ,YK];omega)]
 obtain⟨o,h1,h2,h3,h4⟩:=Fo (bD x.natAbs) (bD y.natAbs) (eo _) (eo _) (by omega) (by omega) (decide (x<0)) (decide (y<0)) false [] (List.length (bD x.natAbs)+(Int.natAbs ((List.length (bD x.natAbs):Int))+(Int.natAbs (0:Int)+(List.length (bD x.natAbs)+(List.length (bD y.natAbs)+(List.length ([]:List Int)+(List.length ((List.replicate (Int.toNat (((bD x.natAbs).length+(bD y.natAbs).length:Nat):Int)) 0):List Int)+2))))))) (by omega)
 rw[Ws] at h1 ⊢
 rw[h1,bg]
 dsimp only
 rw[gX _ _ h2 (by omega),Yt,h4,dM,dM]
 show some (W _,())=some (W (x*y),())
 congr 3
 rw[<- Int.natCast_mul, <- Int.natAbs_mul]
 by_cases h:x<0<;>by_cases h':y<0
 ·have:=Int.mul_pos_of_neg_of_neg h h'
  simp[h,h'];omega
 ·have:=Wl (show 0<= -x by omega) (show 0<=y by omega)
  rw[Int.neg_mul] at this
  simp[h,h'];omega
 ·have:=Wl (show 0<=x by omega) (show 0<= -y by omega)
  rw[Int.mul_neg] at this
  simp[h,h'];omega
 ·have:=Wl (show 0<=x by omega) (show 0<=y by omega)
  simp[h,h'];omega
end Go.Md
namespace Go.Md
open Go.Dn
def Le (k:Nat) (z:Int):Prop:=z.natAbs<=10 ^ k
theorem Le.mul {a b:Nat} {x y:Int} (hx:Le a x) (hy:Le b y):Le (a+b) (x*y):=by
 unfold Le at*
 rw[Int.natAbs_mul,Nat.pow_add]
 exact Nat.mul_le_mul hx hy
theorem Le.mono {a b:Nat} {x:Int} (hx:Le a x) (h:a<=b):Le b x:=Yd hx (Yp (by omega) h)
theorem Le.add {a:Nat} {x y:Int} (hx:Le a x) (hy:Le a y):Le (a+1) (x+y):=by
 unfold Le at*
 rw[Yq]
 omega
theorem Le.neg {a:Nat} {x:Int} (hx:Le a x):Le a (-x):=by unfold Le at *;omega
theorem Le.w {k:Nat} {z:Int} (h:Le k z) (hk:k<=900):z.natAbs<4294967296 ^ 99:=
 Nat.lt_of_le_of_lt (h.mono hk) (by decide +kernel)
theorem Le.n {k:Nat} {z:Int} (h:Le k z) (hk:k<=500):(dg6 z.natAbs).length<90:=by
 have:=Pu (k:=84) (n:=z.natAbs) (Nat.lt_of_le_of_lt (h.mono hk) (by decide +kernel))
 omega
theorem Le.pow (n:Nat):Le n (10 ^ n):=by
 unfold Le
 rw[Int.natAbs_pow];exact Yc _
theorem Le.int {n:Int} (h1: -9223372036854775808<=n) (h2:n<=9223372036854775807):Le 19 n:=by unfold Le;omega
theorem Le.succ {k n:Nat} (h:Le k (n:Int)):Le (k+1) ((n+1:Nat):Int):=by
 unfold Le at*
 rw[Yq]
 have:1<=10 ^ k:=Nat.pow_pos (by omega)
 omega
end Go.Md
namespace Go.Md
open Go.Dn
end Go.Md
namespace Go.Md
open Go.Dn
end Go.Md
namespace Go.Md
open Go.Dn
theorem kZ:∀ a:List UInt8,Op.bytesLess a a=false
 | []=>rfl
 | x::a=>by simp[Op.bytesLess,kZ a]
theorem C3:∀ {a b:List UInt8},Lib.compareBytes a b=0↔a=b
 | [],[]=>by simp[Lib.compareBytes]
 | [],_::_=>by simp[Lib.compareBytes]
 | _::_,[]=>by simp[Lib.compareBytes]
 | x::a,y::b=>by
  simp only[Lib.compareBytes,List.cons.injEq]
  by_cases h1:x<y
  ·simp only[h1,YS]
   constructor
   ·intro h;omega
   ·rintro⟨rfl,_⟩;exact absurd h1 (UInt8.lt_irrefl x)
  ·by_cases h2:y<x
   ·simp only[h1,h2,YS,YP]
    constructor
    ·intro h;omega
    ·rintro⟨rfl,_⟩;exact absurd h2 (UInt8.lt_irrefl x)
   ·have:x=y:=UInt8.le_antisymm (Yz.1 h2) (Yz.1 h1)
    subst this
    simp only[h1,YP,true_and]
    exact C3
theorem A5:∀ {a b:List UInt8},Lib.compareBytes a b<0↔Op.bytesLess a b=true
 | [],[]=>by simp[Lib.compareBytes,Op.bytesLess]
 | [],_::_=>by simp[Lib.compareBytes,Op.bytesLess]
 | _::_,[]=>by simp[Lib.compareBytes,Op.bytesLess]
 | x::a,y::b=>by
  have ih:= @A5 a b
  simp only[Lib.compareBytes,Op.bytesLess]
  by_cases h1:x<y
  ·simp[h1]
  ·by_cases h2:y<x
   ·have hne:¬ x=y:=fun e=>by subst e;exact absurd h2 (UInt8.lt_irrefl x)
    simp[h1,h2,hne]
   ·have:x=y:=UInt8.le_antisymm (Yz.1 h2) (Yz.1 h1)
    subst this
    simp[h1,ih]
theorem uI:∀ {a b c:List UInt8},Op.bytesLess a b=true->Op.bytesLess b c=true->Op.bytesLess a c=true
 | [],[],_,h,_=>by simp[Op.bytesLess] at h
 | [],_::_,[],_,h=>by simp[Op.bytesLess] at h
 | [],_::_,_::_,_,_=>rfl
 | _::_,[],_,h,_=>by simp[Op.bytesLess] at h
 | _::_,_::_,[],_,h=>by simp[Op.bytesLess] at h
 | x::a,y::b,z::c,h,k=>by
  simp only[Op.bytesLess,Wf,VZ,YK,beq_iff_eq] at h k ⊢
  rcases h with h | ⟨rfl,h⟩
  ·rcases k with k | ⟨rfl,k⟩
   ·exact .inl (UInt8.lt_trans h k)
   ·exact .inl h
  ·rcases k with k | ⟨rfl,k⟩
   ·exact .inl k
   ·exact .inr ⟨rfl,uI h k⟩
theorem Rs (a b:List UInt8):Op.bytesLess a b=true\/a=b\/Op.bytesLess b a=true:=by
 induction a generalizing b with
 | nil=>cases b with
  | nil=>simp
  | cons y b=>simp[Op.bytesLess]
 | cons x a ih=>cases b with
  | nil=>simp[Op.bytesLess]
  | cons y b=>
   simp only[Op.bytesLess,Wf,VZ,YK,beq_iff_eq,List.cons.injEq]
   by_cases h1:x<y
   ·simp[h1]
   ·by_cases h2:y<x
    ·simp[h2]
    ·have:x=y:=UInt8.le_antisymm (Yz.1 h2) (Yz.1 h1)
     subst this
     rcases ih b with h | h | h<;>simp[h]
def Asc {α:Type} (key:α->List UInt8) (l:List α):Prop:=∀ (i j:Nat) (x y:α),i<j->l[i]? =some x->l[j]? =some y->Op.bytesLess (key x) (key y)=true
def fJ {α:Type} (key:α->List UInt8) (t:List UInt8) (l:List α):Option Nat:=l.findIdx? (fun r=>key r==t)
theorem nS {α:Type} {key:α->List UInt8} {t:List UInt8} {l:List α} {k:Nat} (h:fJ key t l=some k):∃ x,l[k]? =some x/\key x=t:=by
 unfold fJ at h
 rw[List.findIdx?_eq_some_iff_getElem] at h
 obtain⟨h1,h2,_⟩:=h
 exact⟨_,WZ h1,by simpa using h2⟩
theorem RU {α:Type} {key:α->List UInt8} {t:List UInt8} {l:List α} (h:fJ key t l=none):∀ x∈l,key x≠t:=by
 unfold fJ at h
 rw[List.findIdx?_eq_none_iff] at h
 intro x hx e
 have:=h x hx
 simp[e] at this
theorem Uf {α:Type} {key:α->List UInt8} {t:List UInt8} {l:List α} (hs:Asc key l) {k:Nat} {x:α} (hk:l[k]? =some x) (hx:key x=t):fJ key t l=some k:=by
 cases h:fJ key t l with
 | none=>exact absurd hx (RU h x (XH hk))
 | some j=>
  obtain⟨y,h1,h2⟩:=nS h
  rcases Yk j k with hlt | rfl | hlt
  ·have:=hs j k y x hlt h1 hk
   rw[h2,hx,kZ] at this;cases this
  ·rfl
  ·have:=hs k j x y hlt hk h1
   rw[h2,hx,kZ] at this;cases this
def ixI:Option Nat->Int
 | some k=>(k:Int)
 | none=> -1
theorem Ue (o:Option Nat):decide (ixI o<0)= !o.isSome:=by
 cases o with
 | none=>rfl
 | some k=>exact YI (by simp only[ixI];omega)
end Go.Md
namespace Go.Md
open Go.Dn
instance (d:ah):Decidable (dw d):=by unfold dw;exact inferInstance
def inR (d:ah) (lo hi pl:Int):Bool:=decide (dw d/\d.2<=pl/\lo*10 ^ d.2.toNat<=d.1/\d.1<=hi*10 ^ d.2.toNat)
theorem Ti {d:ah} (h0:0<=d.2) (h1:d.2<=9) (k:Int):k*10 ^ 9=k*10 ^ d.2.toNat*10 ^ (9 - d.2).toNat:=by
 rw[Wj, <- Wo,show d.2.toNat+(9 - d.2).toNat=9 by omega]
theorem T8 {d:ah} (h0:0<=d.2) (h1:d.2<=9) (k:Int):qV d<=k*10 ^ 9↔d.1<=k*10 ^ d.2.toNat:=by
 unfold qV
 rw[Ti h0 h1]
 exact Int.mul_le_mul_right (yC _)
theorem pq (d:ah):eD d=some (if dw d then 0 else 1,()):=by
 rw[yT]
 congr 2
 by_cases h:dw d
 ·rw[YR h,YR (by unfold dw at h;omega)]
 ·rw[YQ h,YQ (by unfold dw at h;omega)]
theorem tE (d:ah):gT d=some (if dw d then 0 else 1,()):=by
 rw[DX]
 congr 2
 by_cases h:dw d
 ·rw[YR h,YR (by unfold dw at h;omega)]
 ·rw[YQ h,YQ (by unfold dw at h;omega)]
theorem Mv {γ:Type} (s:Int) (u:γ):aP (β:=Int×Unit) (γ:=γ) (if s=0 then some (Sum.inr u) else some (Sum.inl (s,()))) (fun _=>some (0,()))=some (s,()):=by
 by_cases h:s=0
 ·rw[YR h,bg,h]
 ·rw[YQ h,nT]
theorem eW {X α:Type} {γ:Type} {f:X->(X->Option ((Int×Unit) ⊕ γ))->Option ((Int×Unit) ⊕ γ)} {x0:X} (mk:Nat->X) (l:List α) (g:Nat->α->Int) (u:γ) (h0:x0=mk 0) (hstep:∀ i y again,l[i]? =some y->f (mk i) again=if g i y=0 then again (mk (i+1)) else some (Sum.inl (g i y,()))) (hend:∀ again,f (mk l.length) again=some (Sum.inr u)) (n:Nat) (hn:l.length<n): iter n x0 f=if cV g 0 l=0 then some (Sum.inr u) else some (Sum.inl (cV g 0 l,())):=by
 rw[h0];exact K0 mk l g u hstep hend l 0 n rfl (Ys _) hn
end Go.Md
namespace Go.Md
open Go.Dn
theorem J4 {α:Type} (l:List α):((l.length:Int)==0)=decide (l.length=0):=by
 cases l with
 | nil=>rfl
 | cons a r=>rw[show decide ((a::r).length=0)=false by simp,YB];simp only[Xm];omega
theorem Kh (n:Int) (h0:0<=n) (h1:n<=18):zm n=some (10 ^ n.toNat,()):=LH n h0 h1
end Go.Md
namespace Go.Md
open Go.Dn
theorem vz:∀ (n:Nat) (l:List Nat),l.Nodup->(∀ x∈l,x<n)->l.length<=n
 | 0,l,_,h=>by
  cases l with
  | nil=>simp
  | cons a r=>exact absurd (h a (by simp)) (Yo _)
 | n+1,l,hd,h=>by
  by_cases hm:n∈l
  ·have h1:=vz n (l.erase n) (hd.erase n) (fun x hx=>by
    have:=(hd.mem_erase_iff).1 hx
    have:=h x this.2
    omega)
   rw[List.length_erase_of_mem hm] at h1
   omega
  ·have:=vz n l hd (fun x hx=>by
    have h2:=h x hx
    have:x≠n:=fun e=>hm (e ▸ hx)
    omega)
   omega
def itp (par:Nat->Option Nat):Nat->Nat->Option Nat
 | 0,i=>some i
 | j+1,i=>(par i).bind (itp par j)
theorem Ai {par:Nat->Option Nat}:∀ {a b i k:Nat},itp par a i=some k->itp par (a+b) i=itp par b k
 | 0,b,i,k,h=>by simp only[itp,Option.some.injEq] at h;subst h;rw[Yr]
 | a+1,b,i,k,h=>by
  simp only[itp] at h
  rw[show a+1+b=(a+b)+1 by omega]
  simp only[itp]
  cases hp:par i with
  | none=>rw[hp] at h;cases h
  | some j=>rw[hp] at h;exact Ai (a:=a) (by simpa using h)
def gf (par:Nat->Option Nat) (i:Nat):Prop:=∃ j,itp par (j+1) i=some i
def qU (par:Nat->Option Nat) (i k d:Nat):Prop:=itp par (d+1) k=some i/\∀ e,e<d->itp par (e+1) k≠some i
theorem qU.uniq {par:Nat->Option Nat} {i k d e:Nat} (h:qU par i k d) (h':qU par i k e):d=e:=by
 rcases Yk d e with h1 | h1 | h1
 ·exact absurd h.1 (h'.2 d h1)
 ·exact h1
 ·exact absurd h'.1 (h.2 e h1)
theorem qU.step {par:Nat->Option Nat} {i k d:Nat} (h:qU par i k d):∃ k',par k=some k'/\((k'=i/\d=0)\/(k'≠i/\∃ e,d=e+1/\qU par i k' e)):=by
 obtain⟨h1,h2⟩:=h
 simp only[itp] at h1
 cases hp:par k with
 | none=>rw[hp] at h1;cases h1
 | some k'=>
  rw[hp] at h1
  refine⟨k',rfl, ?_⟩
  cases d with
  | zero=>simp only[Yt,itp,Option.some.injEq] at h1;exact .inl ⟨h1,rfl⟩
  | succ e=>
   right
   refine⟨fun e1=> ?_,e,rfl,by simpa using h1,fun f hf hx=> ?_⟩
   ·refine h2 0 (by omega) ?_
    simp only[itp,hp,Yt,e1]
   ·refine h2 (f+1) (by omega) ?_
    rw[show f+1+1=(f+1)+1 from rfl]
    show (par k).bind (itp par (f+1))=some i
    rw[hp];exact hx
theorem gf.Tj {par:Nat->Option Nat} {i:Nat} (h:gf par i):∃ d,qU par i i d:=by
 obtain⟨j,hj⟩:=h
 induction j using Nat.strongRecOn with
 | _ j ih=>
  by_cases hx:∃ e,e<j/\itp par (e+1) i=some i
  ·obtain⟨e,h1,h2⟩:=hx;exact ih e h1 h2
  ·exact⟨j,hj,fun e he h2=>hx ⟨e,he,h2⟩⟩
theorem qU.list {par:Nat->Option Nat} {i n:Nat} (hn:∀ k k',par k=some k'->k'<n):∀ {d k:Nat},k<n->qU par i k d->∃ l:List Nat,l.length=d+1/\l.Nodup/\(∀ x∈l,x<n)/\∀ x∈l,∃ e,e<=d/\qU par i x e
 | 0,k,hk,h=>⟨[k],rfl,by simp,by simpa using hk,fun x hx=>by simp at hx;subst hx;exact⟨0,Yc _,h⟩⟩
 | d+1,k,hk,h=>by
  obtain⟨k',h1,h2⟩:=h.step
  rcases h2 with ⟨_,h2⟩ | ⟨_,e,h2,h3⟩
  ·omega
  ·have:e=d:=by omega
   subst this
   obtain⟨l,l1,l2,l3,l4⟩:=qU.list hn (hn _ _ h1) h3
   refine⟨k::l,by simp[l1],XO.2 ⟨fun hm=> ?_,l2⟩,fun x hx=> ?_,fun x hx=> ?_⟩
   ·obtain⟨f,f1,f2⟩:=l4 k hm
    have:=f2.uniq h
    omega
   ·rcases XB.1 hx with rfl | hx
    ·exact hk
    ·exact l3 x hx
   ·rcases XB.1 hx with rfl | hx
    ·exact⟨e+1,Yc _,h⟩
    ·obtain⟨f,f1,f2⟩:=l4 x hx;exact⟨f,by omega,f2⟩
theorem qU.le {par:Nat->Option Nat} {i n d k:Nat} (hn:∀ k k',par k=some k'->k'<n) (hk:k<n) (h:qU par i k d):d+1<=n:=by
 obtain⟨l,l1,l2,l3,_⟩:=h.list hn hk
 have:=vz n l l2 l3
 omega
def anc (par:Nat->Option Nat):Nat->Nat->List Nat
 | 0,_=>[]
 | f+1,i=>match par i with
  | none=>[]
  | some k=>k::anc par f k
theorem tN {par:Nat->Option Nat} {f i k:Nat} (h:par i=some k):anc par (f+1) i=k::anc par f k:=by simp[anc,h]
theorem F6 {par:Nat->Option Nat} {i:Nat} (h:par i=none):∀ f,anc par f i=[]
 | 0=>rfl
 | f+1=>by simp[anc,h]
theorem Pp {par:Nat->Option Nat}:∀ {f i x:Nat},x∈anc par f i->∃ j,j<f/\itp par (j+1) i=some x
 | 0,_,_,h=>by simp[anc] at h
 | f+1,i,x,h=>by
  cases hp:par i with
  | none=>simp[anc,hp] at h
  | some k=>
   rw[tN hp] at h
   rcases XB.1 h with rfl | h
   ·exact⟨0,by omega,by simp[itp,hp]⟩
   ·obtain⟨j,h1,h2⟩:=Pp h
    exact⟨j+1,by omega,by show (par i).bind (itp par (j+1))=some x;rw[hp];exact h2⟩
theorem Rl {par:Nat->Option Nat} {n:Nat} (hn:∀ k k',par k=some k'->k'<n):∀ {f i x:Nat},x∈anc par f i->x<n
 | 0,_,_,h=>by simp[anc] at h
 | f+1,i,x,h=>by
  cases hp:par i with
  | none=>simp[anc,hp] at h
  | some k=>
   rw[tN hp] at h
   rcases XB.1 h with rfl | h
   ·exact hn _ _ hp
   ·exact Rl hn h
theorem CO {par:Nat->Option Nat} {n:Nat} (hn:∀ k k',par k=some k'->k'<n) (hl:∀ k,k<n->¬ gf par k):∀ {f i:Nat},i<n->(i::anc par f i).Nodup
 | 0,i,_=>by simp[anc]
 | f+1,i,hi=>by
  rw[XO]
  refine⟨fun hm=> ?_, ?_⟩
  ·obtain⟨j,_,hj⟩:=Pp hm
   exact hl i hi ⟨j,hj⟩
  ·cases hp:par i with
   | none=>simp[anc,hp]
   | some k=>
    rw[tN hp]
    exact CO hn hl (hn _ _ hp)
theorem T3 {par:Nat->Option Nat} {n:Nat} (hn:∀ k k',par k=some k'->k'<n) (hl:∀ k,k<n->¬ gf par k) {f i:Nat} (hi:i<n):(anc par f i).length<n:=by
 have:=vz n (i::anc par f i) (CO hn hl hi) (fun x hx=>by
  rcases XB.1 hx with rfl | hx
  ·exact hi
  ·exact Rl hn hx)
 simp at this;omega
theorem KM {par:Nat->Option Nat}:∀ {f g i:Nat},(anc par f i).length<f->f<=g->anc par g i=anc par f i
 | 0,_,_,h,_=>by simp[anc] at h
 | f+1,g,i,h,hg=>by
  obtain⟨g,rfl⟩:∃ g',g=g'+1:=⟨g - 1,by omega⟩
  cases hp:par i with
  | none=>rw[F6 hp,F6 hp]
  | some k=>
   rw[tN hp] at h ⊢
   rw[tN hp]
   rw[KM (f:=f) (by simpa using h) (by omega)]
end Go.Md
namespace Go.Md
open Go.Dn
theorem qk (l:List Int) (x:Int) (hl:l.length<1000000000):gk l x=some (decide (x∈l),()):=by
 unfold gk rf
 have loop:∀ f,l.length<f->∃ n:Int,iter f ((l,x,(l.length:Int),(0:Int),()):gm) jm=(if x∈l then some (Sum.inl (n,())) else some (Sum.inr ()))/\0<=n:=by
  intro f hf
  refine b8 (Inv:=fun i X=>X=((l,x,(l.length:Int),(i:Int),()):gm)/\∀ j y,j<i->l[j]? =some y->y≠x) l.length
   (fun r=>∃ n:Int,r=(if x∈l then some (Sum.inl (n,())) else some (Sum.inr ()))/\0<=n) ?_ ?_ f 0 _ ⟨rfl,fun _ _ h=>absurd h (Yo _)⟩ (by omega) (by omega)
  ·rintro i _ again hi ⟨rfl,hb⟩ ih
   unfold jm
   dsimp only
   have hy:l[i]? =some l[i]:=aK hi
   generalize l[i]=y at hy
   rw[aF (by omega),bK,hy,Yt]
   by_cases he:x=y
   ·rw[show (x==y)=true by simpa using he,YG]
    exact⟨i,by rw[YR (he ▸ XH hy)],by omega⟩
   ·rw[show (x==y)=false by simpa using he,YF,aD (by omega) (by omega)]
    refine ih _ ⟨rfl,fun j z hj hz=> ?_⟩
    rcases Yh.1 hj with h | h
    ·exact hb j z h hz
    ·subst h;rw[hy] at hz;cases hz;exact fun e=>he e.symm
  ·rintro _ again ⟨rfl,hb⟩
   unfold jm
   dsimp only
   rw[aI (by omega)]
   refine⟨0, ?_,Int.le_refl _⟩
   rw[YQ]
   intro hm
   obtain⟨j,hj⟩:=XF.1 hm
   exact hb j x (Xa.1 hj).1 hj rfl
 obtain⟨n,h1,h2⟩:=loop (List.length l+(Int.natAbs x+(Int.natAbs ((List.length l:Int))+(Int.natAbs (0:Int)+2)))) (by omega)
 rw[h1]
 by_cases hm:x∈l
 ·rw[YR hm,nT,Yt,YJ hm]
  congr 2
  exact YJ h2
 ·rw[YQ hm,bg,Yt,YI hm]
  rfl
def bO (c:UInt8):Bool:=decide (48<=c.toNat)&&decide (c.toNat<=57)
theorem Be {c:UInt8}:(decide ((c.toNat:Int)<48)=false/\decide ((c.toNat:Int)>57)=false)↔bO c=true:=by
 simp only[bO,VZ,YK,decide_eq_false_iff_not]
 omega
theorem nD (s:List UInt8) (hs:s.length<=9223372036854775807):gG s=some (decide (s≠[])&&s.all bO,()):=by
 unfold gG zj
 by_cases h0:s=[]
 ·subst h0;rfl
 ·rw[show (!(s==[]))=true by cases s<;>simp_all,YG,YJ h0,Wg]
  have loop:∀ f,s.length<f->iter f ((s,(48:Int),(57:Int),(s.length:Int),(0:Int),()):lf) oP=(if s.all bO=true then some (Sum.inr ()) else some (Sum.inl (false,()))):=by
   intro f hf
   refine b8 (Inv:=fun i X=>X=((s,(48:Int),(57:Int),(s.length:Int),(i:Int),()):lf)/\(s.take i).all bO=true) s.length
    (fun r=>r=(if s.all bO=true then some (Sum.inr ()) else some (Sum.inl (false,())))) ?_ ?_ f 0 _ ⟨rfl,by simp⟩ (by omega) (by omega)
   ·rintro i _ again hi ⟨rfl,hb⟩ ih
    unfold oP
    dsimp only
    have hy:s[i]? =some s[i]:=aK hi
    have hym:s[i]∈s:=Xj hi
    generalize s[i]=y at hy hym
    rw[aF (by omega),ux hy,Yt,Yt,aD (by omega) (by omega)]
    cases hd:bO y with
    | true=>
     obtain⟨h1,h2⟩:=Be.2 hd
     rw[h1,h2,YF,YF]
     refine ih _ ⟨rfl, ?_⟩
     rw[fV hy]
     simp[hb,hd]
    | false=>
     have hall:s.all bO=false:=by
      rw[List.all_eq_false]
      exact⟨y,hym,by simp[hd]⟩
     rw[hall]
     cases h1:decide ((y.toNat:Int)<48) with
     | true=>rfl
     | false=>
      cases h2:decide ((y.toNat:Int)>57) with
      | true=>rfl
      | false=>have:=Be.1 ⟨h1,h2⟩;rw[hd] at this;cases this
   ·rintro _ again ⟨rfl,hb⟩
    unfold oP
    dsimp only
    rw[aI (by omega)]
    rw[X0 (Yc _)] at hb
    rw[YR hb]
  rw[loop _ (by omega)]
  cases s.all bO<;>rfl
theorem Kr (s:List UInt8) (hs:s.length<=9223372036854775807):eL s=some (decide (s≠[])&&s.all bO,()):=by
 unfold eL
 by_cases h0:s=[]
 ·subst h0;rfl
 ·rw[show (s==[])=false by cases s<;>simp_all,YF,YJ h0,Wg]
  have loop:∀ f,s.length<f->iter f ((s,(s.length:Int),(0:Int),()):lD) o3=(if s.all bO=true then some (Sum.inr ()) else some (Sum.inl (false,()))):=by
   intro f hf
   refine b8 (Inv:=fun i X=>X=((s,(s.length:Int),(i:Int),()):lD)/\(s.take i).all bO=true) s.length
    (fun r=>r=(if s.all bO=true then some (Sum.inr ()) else some (Sum.inl (false,())))) ?_ ?_ f 0 _ ⟨rfl,by simp⟩ (by omega) (by omega)
   ·rintro i _ again hi ⟨rfl,hb⟩ ih
    unfold o3
    dsimp only
    have hy:s[i]? =some s[i]:=aK hi
    have hym:s[i]∈s:=Xj hi
    generalize s[i]=y at hy hym
    rw[aF (by omega),ux hy,Yt,Yt,aD (by omega) (by omega)]
    cases hd:bO y with
    | true=>
     obtain⟨h1,h2⟩:=Be.2 hd
     rw[h1,h2,YF,YF]
     refine ih _ ⟨rfl, ?_⟩
     rw[fV hy]
     simp[hb,hd]
    | false=>
     have hall:s.all bO=false:=by
      rw[List.all_eq_false]
      exact⟨y,hym,by simp[hd]⟩
     rw[hall]
     cases h1:decide ((y.toNat:Int)<48) with
     | true=>rfl
     | false=>
      cases h2:decide ((y.toNat:Int)>57) with
      | true=>rfl
      | false=>have:=Be.1 ⟨h1,h2⟩;rw[hd] at this;cases this
   ·rintro _ again ⟨rfl,hb⟩
    unfold o3
    dsimp only
    rw[aI (by omega)]
    rw[X0 (Yc _)] at hb
    rw[YR hb]
  rw[loop _ (by omega)]
  cases s.all bO<;>rfl
theorem F3 (s:List UInt8) (hs:s.length<=100):∃ b,lQ s=some (b,()):=by
 unfold lQ
 have loop:∀ f,s.length<f->∃ n:Int,iter f ((s,(0:Int),(s.length:Int),(0:Int),()):n9) sY=some (Sum.inr (n,())):=by
  intro f hf
  refine b8 (Inv:=fun i X=>∃ n:Int,X=((s,n,(s.length:Int),(i:Int),()):n9)) s.length
   (fun r=>∃ n:Int,r=some (Sum.inr (n,()))) ?_ ?_ f 0 _ ⟨0,rfl⟩ (by omega) (by omega)
  ·rintro i _ again hi ⟨n,rfl⟩ ih
   unfold sY
   dsimp only
   have e:w64 (w64 ((s.length:Int) - 1) - (i:Int))=((s.length - 1 - i:Nat):Int):=by
    rw[aD (n:=(s.length:Int) - 1) (by omega) (by omega),aD (by omega) (by omega)];omega
   have hy:s[s.length - 1 - i]? =some (s[s.length - 1 - i]'(by omega)):=aK (by omega)
   rw[aF (by omega),e,ux hy,Yt,aD (n:=(i:Int)+1) (by omega) (by omega)]
   cases (Int.tmod (i:Int) 2==1) with
   | true=>rw[YG];exact ih _ ⟨_,rfl⟩
   | false=>rw[YF];exact ih _ ⟨_,rfl⟩
  ·rintro _ again ⟨n,rfl⟩
   unfold sY
   dsimp only
   rw[aI (by omega)]
   exact⟨n,rfl⟩
 obtain⟨n,h⟩:=loop (List.length s+(Int.natAbs (0:Int)+(Int.natAbs ((List.length s:Int))+(Int.natAbs (0:Int)+2)))) (by omega)
 rw[h]
 exact⟨_,rfl⟩
def lbl (s:List UInt8):Bool:=decide (s.length=18)&&(s.all bO&&((lQ s).map (·.1)).getD false)
theorem Fj (s:List UInt8) (hs:s.length<=9223372036854775807):oV s=some (lbl s,()):=by
 unfold oV rW qw nx tL
 rw[oQ,Yt,Yt]
 dsimp only
 rw[show (!(!(decide ((3:Int)<1\/(5:Int)<3))))=false by decide,YF,show ((3:Int)==4)=false from rfl,show ((3:Int)==5)=false from rfl,show ((3:Int)==1)=false from rfl,show ((3:Int)==2)=false from rfl]
 simp only[YF,Yt]
 rw[qk _ _ (by decide),Yt,nD s hs]
 unfold lbl
 by_cases hl:s.length=18
 ·obtain⟨b,hb⟩:=F3 s (by omega)
  have hb2:xb s=some (b,()):=hb
  have hne:s≠[]:=fun e=>by subst e;cases hl
  rw[YJ (show (s.length:Int)∈[18] by simp;omega),YG,Yt,YJ hne,Wg,YJ hl,Wg,hb2,hb]
  cases s.all bO<;>simp
 ·rw[YI (show ¬ (s.length:Int)∈[18] by simp;omega),YI hl]
  rfl
theorem Ko (s:List UInt8) (hs:s.length<=9223372036854775807):uR s=some (lbl s,()):=by
 unfold uR zq D1 zw
 rw[sZ,Yt,Yt]
 dsimp only
 rw[show (!(decide ((1:Int)<=3/\(3:Int)<=5)))=false by decide,YF,show ((3:Int)==1)=false from rfl,show ((3:Int)==2)=false from rfl,show ((3:Int)==3)=true from rfl]
 simp only[YF,YG]
 rw[Kr s hs,Yt]
 unfold lbl
 by_cases hl:s.length=18
 ·obtain⟨b,hb⟩:=F3 s (by omega)
  have hne:s≠[]:=fun e=>by subst e;cases hl
  rw[YJ hne,Wg,YJ hl,Wg,hb,show ((s.length:Int)==18)=true by rw[hl];rfl]
  cases s.all bO<;>simp
 ·rw[YI hl,show ((s.length:Int)==18)=false by rw[YB];omega]
  cases (decide (s≠[])&&s.all bO)<;>rfl
def qOk (d:ah) (zero:Bool):Bool:=inR d 0 1000000000 3&&(!(d.1==0)||zero)
theorem Ix {d:ah} (hd:dw d):sG d 3 1000000000=some (inR d 0 1000000000 3,()):=by
 unfold sG
 have hp:=yC d.2.toNat
 have hp2:(10:Int) ^ d.2.toNat<=1000000000:=by
  have:=Yp (n:=10) (by omega) (show d.2.toNat<=9 by have:=hd.2.2;omega)
  have h2:=Int.ofNat_le.2 this
  simpa using h2
 rw[Kh d.2 hd.2.1 (by have:=hd.2.2;omega)]
 have e:inR d 0 1000000000 3=(decide (d.2<=3)&&(decide (d.1>=0)&&decide (d.1<=1000000000*10 ^ d.2.toNat))):=by
  unfold inR
  rw[<- Bool.decide_and, <- Bool.decide_and,YH,Int.zero_mul]
  constructor
  ·rintro⟨_,h2,h3,h4⟩;exact⟨h2,h3,h4⟩
  ·rintro⟨h2,h3,h4⟩;exact⟨hd,h2,h3,h4⟩
 rw[e,Yt,aD (n:=1000000000*10 ^ d.2.toNat) (by omega) (by omega)]
 cases decide (d.2<=3)<;>cases decide (d.1>=0)<;>cases decide (d.1<=1000000000*10 ^ d.2.toNat)<;>rfl
theorem qa (d:ah) (z:Bool):cJ d z=some (if qOk d z=true then 0 else 1,()):=by
 unfold cJ qOk
 rw[pq,Yt]
 by_cases hd:dw d
 ·rw[Ix hd,YR hd]
  dsimp only
  rw[show ((0:Int) != 0)=false from rfl,YF,Yt]
  cases inR d 0 1000000000 3<;>cases (d.1==0)<;>cases z<;>rfl
 ·have:inR d 0 1000000000 3=false:=by unfold inR;simp[hd]
  simp[hd,this]
theorem Ci (d:ah) (above:Bool):iH d above=some (qOk d (!above),()):=by
 unfold iH qOk
 rw[tE,Yt]
 by_cases hd:dw d
 ·have h2:dw (1000000000,0):=by decide
  have hc:ER d (1000000000,0)=some ((qV d - qV (1000000000,0)).sign,()):=QW hd h2
  have e9:qV (1000000000,0)=1000000000*10 ^ 9:=rfl
  have hs:decide ((qV d - qV (1000000000,0)).sign<=0)=decide (d.1<=1000000000*10 ^ d.2.toNat):=by
   rw[YH, <- T8 hd.2.1 hd.2.2, <- e9,Int.sign_nonpos_iff];omega
  rw[hc,YR hd]
  dsimp only
  rw[show ((0:Int)==0)=true from rfl,YG,Yt]
  dsimp only
  rw[hs]
  have e:inR d 0 1000000000 3=(decide (d.2<=3)&&(decide (d.1>=0)&&decide (d.1<=1000000000*10 ^ d.2.toNat))):=by
   unfold inR
   rw[<- Bool.decide_and, <- Bool.decide_and,YH,Int.zero_mul]
   constructor
   ·rintro⟨_,h2,h3,h4⟩;exact⟨h2,h3,h4⟩
   ·rintro⟨h2,h3,h4⟩;exact⟨hd,h2,h3,h4⟩
  have hz:(d.1==0)=(decide (d.1>=0)&& !decide (d.1>0)):=by
   by_cases h:d.1=0
   ·rw[show (d.1==0)=true by simpa using h,h];rfl
   ·rw[show (d.1==0)=false by simpa using h]
    by_cases h3:d.1>0
    ·simp[h3]
    ·have:¬ d.1>=0:=by omega
     simp[this]
  rw[e,hz]
  have himp:d.1>0->d.1>=0:=fun h=>by omega
  cases h5:decide (d.1>0)<;>cases decide (d.2<=3)<;>cases h6:decide (d.1>=0)<;>cases decide (d.1<=1000000000*10 ^ d.2.toNat)<;>cases above<;>simp_all
 ·have:inR d 0 1000000000 3=false:=by unfold inR;simp[hd]
  simp[hd,this]
end Go.Md
