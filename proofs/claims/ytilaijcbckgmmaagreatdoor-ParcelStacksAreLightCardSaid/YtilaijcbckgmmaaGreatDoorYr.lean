/-
  Plain facts: products, powers, rounding; the order of strings; decimals. No condition.
-/
import Derived.Test.YtilaijcbckgmmaaGreatDoorYq
import Derived.Test.YtilaijcbckgmmaaGreatDoorYn
set_option linter.all false
namespace Go.Md
open Go.Dn
theorem L4 (a b:List Int):Ce a b=zb a b:=rfl
theorem jq (x y:Int) (hx:x.natAbs<4294967296 ^ 99) (hy:y.natAbs<4294967296 ^ 99):fk (W x) (W y)=some (W (x+y),()):=by
 have hlx:=pz hx
 have hly:=pz hy
 unfold fk W
 dsimp only
 by_cases hs:decide (x<0)=decide (y<0)
 ·rw[show (decide (x<0)==decide (y<0))=true by simp[hs],Zk,L4]
  obtain⟨s,h1,h2,h3,h4⟩:=Gg (aY x.natAbs) (aY y.natAbs) (dN _) (dN _) (by omega) (by omega)
  rw[h1,Y7]
  dsimp only
  rw[jv _ _ h2 (by omega),Y7,h3,dy,dy]
  simp only[Zl] at hs
  show some (W _,())=some (W (x+y),())
  congr 3
  by_cases h:x<0
  ·simp only[h,Zr,Zx];omega
  ·simp only[h,Zq,WM,Zu];omega
 ·rw[show (decide (x<0)==decide (y<0))=false by simp[hs],Zj]
  obtain⟨c,h1,h2,h3⟩:=Bb x.natAbs y.natAbs (by omega) (by omega)
  rw[h1,Y7]
  dsimp only
  simp only[Zl] at hs
  have hlen:∀ a b:Nat,b≤a→(aY b).length≤(aY a).length:=fun a b h=>by
   rcases YQ (aY a).length (aY b).length with h' | h'
   ·have:=lR h';omega
   ·exact h'
  by_cases hc:c≥0
  ·rw[az hc,zC _ _ (dN _) (dN _) (by omega) (hlen _ _ (by omega)) (by rw[dy,dy];omega),Y7]
   dsimp only
   rw[jv _ _ (dN _) (by have:=hlen x.natAbs (v32 (aY x.natAbs) - v32 (aY y.natAbs)).toNat (by rw[dy,dy];omega);omega),Y7]
   rw[dy,dy,dy]
   show some (W _,())=some (W (x+y),())
   congr 3
   by_cases h:x<0
   ·simp only[h,Zr,Zx];omega
   ·simp only[h,Zq,WM,Zu];omega
  ·rw[aA hc,zC _ _ (dN _) (dN _) (by omega) (hlen _ _ (by omega)) (by rw[dy,dy];omega),Y7]
   dsimp only
   rw[jv _ _ (dN _) (by have:=hlen y.natAbs (v32 (aY y.natAbs) - v32 (aY x.natAbs)).toNat (by rw[dy,dy];omega);omega),Y7]
   rw[dy,dy,dy]
   show some (W _,())=some (W (x+y),())
   congr 3
   by_cases h:y<0
   ·simp only[h,Zr,Zx];omega
   ·simp only[h,Zq,WM,Zu];omega
theorem HC (x y:Int) (hx:x.natAbs<4294967296 ^ 99) (hy:y.natAbs<4294967296 ^ 99):th (W x) (W y)=some (W (x - y),()):=by
 unfold th
 rw[za y hy,Y7]
 dsimp only
 rw[jq x (-y) hx (by omega),Y7,Int.sub_eq_add_neg]
theorem p8 (x y:Int) (hx:x.natAbs<4294967296 ^ 99) (hy:y.natAbs<4294967296 ^ 99):fS (W x) (W y)=some ((x - y).sign,()):=by
 unfold fS
 rw[HC x y hx hy,Y7]
 dsimp only
 rw[tQ,Y7]
theorem Qw {x y z c:Int} (hx:0≤x∧x<4294967296) (hy:0≤y∧y<4294967296) (hz:0≤z∧z<4294967296) (hc:0≤c∧c<4294967296):0≤x*y∧x*y≤18446744065119617025∧c+(z+x*y)≤18446744073709551615:=by
 have h1:0≤x*y:=W5 hx.1 hy.1
 have h2:x*y≤4294967295*4294967295:=Int.mul_le_mul (by omega) (by omega) (by omega) (by omega)
 omega
theorem HD (i:Nat) (x:Int) (ga:List Int) (gn gi:Int) (b:List Int) (s1:Bool) (l1:List Int) (s2:Bool) (l2:List Int) (s3:Bool) (l3:List Int) (out:List Int) (hx:0≤x∧x<4294967296) (hb:Dg b) (hbl:b.length<10000) (hil:i<10000) (ho:i+b.length≤out.length) (hol:out.length<100000) (hd:Dg out) (n:Nat) (hn:b.length<n):
 ∃ o c,iter n (((i:Int),x,(0:Int),ga,gn,gi,b,(b.length:Int),(0:Int),s1,l1,s2,l2,s3,l3,out,()):kH) nB=some (Sum.inr ((i:Int),c,ga,gn,gi,s1,l1,s2,l2,s3,l3,o,()))∧
  Dg o∧o.length=out.length∧0≤c∧c<4294967296∧v32 o+4294967296 ^ (i+b.length)*c=v32 out+4294967296 ^ i*x*v32 b∧∀ j,i+b.length≤j→o[j]? =out[j]? :=by
 refine bJ (Inv:=fun k X=>∃ o c,X=(((i:Int),x,c,ga,gn,gi,b,(b.length:Int),(k:Int),s1,l1,s2,l2,s3,l3,o,()):kH)∧Dg o∧o.length=out.length∧0≤c∧c<4294967296∧v32 o+4294967296 ^ (i+k)*c=v32 out+4294967296 ^ i*x*v32 (b.take k)∧∀ j,i+k≤j→o[j]? =out[j]?) b.length
  (fun r=>∃ o c,r=some (Sum.inr ((i:Int),c,ga,gn,gi,s1,l1,s2,l2,s3,l3,o,()))∧Dg o∧o.length=out.length∧0≤c∧c<4294967296∧v32 o+4294967296 ^ (i+b.length)*c=v32 out+4294967296 ^ i*x*v32 b∧∀ j,i+b.length≤j→o[j]? =out[j]?) ?_ ?_ n 0 _ ⟨out,0,rfl,hd,rfl,by omega,by omega,by simp[xY],fun _ _=>rfl⟩ (by omega) (by omega)
 ·rintro k _ again hk ⟨o,c,rfl,h1,h2,h3,h4,h5,h6⟩ ih
  unfold nB
  dsimp only
  have hy:b[k]? =some b[k]:=aG hk
  have hyd:=hb.get hy
  have hts:=ir hy
  have hz:o[i+k]? =some (o[i+k]'(by omega)):=aG (by omega)
  have hzd:=h1.get hz
  generalize b[k]=y at hy hyd hts
  generalize o[i+k]'(by omega)=z at hz hzd
  obtain⟨m1,m2,m3⟩:=Qw hx hyd hzd ⟨h3,h4⟩
  have e1:w64 ((i:Int)+(k:Int))=((i+k:Nat):Int):=by rw[aj (by omega) (by omega)];omega
  rw[az (by omega),bA,hy,Y7,e1,aH (by simp only[WJ,Zp];omega),Xg,hz,Y7,aH (by simp only[WJ,Zp];omega),Y7,
   cR (n:=x) (by omega) (by omega),cR (n:=y) (by omega) (by omega),cR (n:=z) (by omega) (by omega),cR (n:=x*y) (by omega) (by omega),cR (n:=z+x*y) (by omega) (by omega),cR (n:=c+(z+x*y)) (by omega) (by omega),x8,Og,aj (n:=(k:Int)+1) (by omega) (by omega)]
  generalize ht:c+(z+x*y)=t at*
  refine ih _ ⟨_,_,rfl,h1.set (by omega),by rw[X3];exact h2,by omega,by omega, ?_,fun j hj=> ?_⟩
  ·rw[GJ hz,hts]
   have e2:(4294967296:Int) ^ (i+(k+1))=4294967296 ^ i*4294967296 ^ k*4294967296:=by rw[← YD,Xb,Xa]
   have e3:(4294967296:Int) ^ (i+k)=4294967296 ^ i*4294967296 ^ k:=Xa ..
   rw[e3] at h5
   rw[e2,e3]
   have e4:=Int.mul_ediv_add_emod t 4294967296
   generalize (4294967296:Int) ^ i=p at*
   generalize (4294967296:Int) ^ k=q at*
   generalize t / 4294967296=d at*
   generalize t % 4294967296=r at*
   grind
  ·rw[XR (by omega)];exact h6 j (by omega)
 ·rintro _ again ⟨o,c,rfl,h1,h2,h3,h4,h5,h6⟩
  unfold nB
  dsimp only
  rw[aA (by omega)]
  rw[YB (YM _)] at h5
  exact⟨o,c,rfl,h1,h2,h3,h4,h5,h6⟩
theorem HE (a b:List Int) (ha:Dg a) (hb:Dg b) (hal:a.length<1000) (hbl:b.length<1000) (s1 s2 s3:Bool) (l3:List Int) (n:Nat) (hn:a.length<n):
 ∃ o,iter n ((a,(a.length:Int),(0:Int),s1,a,s2,b,s3,l3,List.replicate (a.length+b.length) 0,()):kG) nA=some (Sum.inr (s1,a,s2,b,s3,l3,o,()))∧Dg o∧o.length=a.length+b.length∧v32 o=v32 a*v32 b:=by
 refine bJ (Inv:=fun i X=>∃ o,X=((a,(a.length:Int),(i:Int),s1,a,s2,b,s3,l3,o,()):kG)∧Dg o∧o.length=a.length+b.length∧v32 o=v32 (a.take i)*v32 b∧∀ j,i+b.length≤j→j<a.length+b.length→o[j]? =some 0) a.length
  (fun r=>∃ o,r=some (Sum.inr (s1,a,s2,b,s3,l3,o,()))∧Dg o∧o.length=a.length+b.length∧v32 o=v32 a*v32 b) ?_ ?_ n 0 _ ⟨_,rfl,fun d hd=>by rw[List.mem_replicate] at hd;omega,by simp,by rw[Er];simp[xY],fun j _ hj=>by rw[List.getElem?_replicate,Zw hj]⟩ (by omega) (by omega)
 ·rintro i _ again hi ⟨o,rfl,h1,h2,h3,h4⟩ ih
  unfold nA
  dsimp only
  have hy:a[i]? =some a[i]:=aG hi
  have hyd:=ha.get hy
  have hts:=ir hy
  generalize a[i]=x at hy hyd hts
  rw[az (by omega),bA,hy,Y7]
  obtain⟨o',c,k1,k2,k3,k4,k5,k6,k7⟩:=HD i x a (a.length:Int) (i:Int) b s1 a s2 b s3 l3 o hyd hb (by omega) (by omega) (by omega) (by omega) h1 (Int.natAbs (i:Int)+(Int.natAbs x+(Int.natAbs (0:Int)+(List.length a+(Int.natAbs (a.length:Int)+(Int.natAbs (i:Int)+(List.length b+(Int.natAbs ((List.length b:Int))+(Int.natAbs (0:Int)+(List.length a+(List.length b+(List.length l3+(List.length o+2))))))))))))) (by omega)
  rw[k1,aF]
  dsimp only
  have e1:w64 ((i:Int)+(b.length:Int))=((i+b.length:Nat):Int):=by rw[aj (by omega) (by omega)];omega
  have hz:o'[i+b.length]? =some 0:=by rw[k7 _ (YM _)];exact h4 _ (YM _) (by omega)
  rw[e1,aH (by simp only[WJ,Zp];omega),Xg,hz,Y7,x7 (by omega) (by omega),aj (n:=(i:Int)+1) (by omega) (by omega)]
  refine ih _ ⟨_,rfl,k2.set (by omega),by rw[X3];omega, ?_,fun j hj hj2=> ?_⟩
  ·rw[GJ hz,hts]
   have e3:(4294967296:Int) ^ (i+b.length)=4294967296 ^ i*4294967296 ^ b.length:=Xa ..
   rw[e3] at k6 ⊢
   grind
  ·rw[XR (by omega),k7 j (by omega)];exact h4 j (by omega) hj2
 ·rintro _ again ⟨o,rfl,h1,h2,h3,h4⟩
  unfold nA
  dsimp only
  rw[aA (by omega)]
  rw[YB (YM _)] at h3
  exact⟨o,rfl,h1,h2,h3⟩
theorem nC (x y:Int) (hx:x.natAbs<4294967296 ^ 99) (hy:y.natAbs<4294967296 ^ 99):gO (W x) (W y)=some (W (x*y),()):=by
 have hlx:=pz hx
 have hly:=pz hy
 unfold gO W
 dsimp only
 have e1:w64 (((aY x.natAbs).length:Int)+((aY y.natAbs).length:Int))=(((aY x.natAbs).length+(aY y.natAbs).length:Nat):Int):=by rw[aj (by omega) (by omega)];omega
 rw[e1,aH (by simp only[WJ,Zp];omega)]
 obtain⟨o,h1,h2,h3,h4⟩:=HE (aY x.natAbs) (aY y.natAbs) (dN _) (dN _) (by omega) (by omega) (decide (x<0)) (decide (y<0)) false [] (List.length (aY x.natAbs)+(Int.natAbs ((List.length (aY x.natAbs):Int))+(Int.natAbs (0:Int)+(List.length (aY x.natAbs)+(List.length (aY y.natAbs)+(List.length ([]:List Int)+(List.length ((List.replicate (Int.toNat (((aY x.natAbs).length+(aY y.natAbs).length:Nat):Int)) 0):List Int)+2))))))) (by omega)
 rw[Xg] at h1 ⊢
 rw[h1,aF]
 dsimp only
 rw[jv _ _ h2 (by omega),Y7,h4,dy,dy]
 show some (W _,())=some (W (x*y),())
 congr 3
 rw[← Int.natCast_mul, ← W7]
 by_cases h:x<0<;>by_cases h':y<0
 ·have:=Int.mul_pos_of_neg_of_neg h h'
  simp[h,h'];omega
 ·have:=W5 (show 0≤ -x by omega) (show 0≤y by omega)
  rw[Int.neg_mul] at this
  simp[h,h'];omega
 ·have:=W5 (show 0≤x by omega) (show 0≤ -y by omega)
  rw[Int.mul_neg] at this
  simp[h,h'];omega
 ·have:=W5 (show 0≤x by omega) (show 0≤y by omega)
  simp[h,h'];omega
end Go.Md
namespace Go.Md
open Go.Dn
def Le (k:Nat) (z:Int):Prop:=z.natAbs≤10 ^ k
theorem Le.mul {a b:Nat} {x y:Int} (hx:Le a x) (hy:Le b y):Le (a+b) (x*y):=by
 unfold Le at*
 rw[W7,Y1]
 exact Nat.mul_le_mul hx hy
theorem Le.mono {a b:Nat} {x:Int} (hx:Le a x) (h:a≤b):Le b x:=YN hx (Y2 (by omega) h)
theorem Le.add {a:Nat} {x y:Int} (hx:Le a x) (hy:Le a y):Le (a+1) (x+y):=by
 unfold Le at*
 rw[Y3]
 omega
theorem Le.neg {a:Nat} {x:Int} (hx:Le a x):Le a (-x):=by unfold Le at *;omega
theorem Le.w {k:Nat} {z:Int} (h:Le k z) (hk:k≤900):z.natAbs<4294967296 ^ 99:=
 YO (h.mono hk) (by decide +kernel)
theorem Le.n {k:Nat} {z:Int} (h:Le k z) (hk:k≤500):(dg6 z.natAbs).length<90:=by
 have:=QD (k:=84) (n:=z.natAbs) (YO (h.mono hk) (by decide +kernel))
 omega
theorem Le.pow (n:Nat):Le n (10 ^ n):=by
 unfold Le
 rw[Int.natAbs_pow];exact YM _
theorem Le.int {n:Int} (h1: -9223372036854775808≤n) (h2:n≤9223372036854775807):Le 19 n:=by unfold Le;omega
theorem Le.succ {k n:Nat} (h:Le k (n:Int)):Le (k+1) ((n+1:Nat):Int):=by
 unfold Le at*
 rw[Y3]
 have:1≤10 ^ k:=Nat.pow_pos (by omega)
 omega
theorem CW (n:Nat) (hn:n≤60):uy (n:Int)=some (W (10 ^ n),()):=by
 unfold uy
 rw[qN 1 (by omega) (by omega),Y7]
 dsimp only
 have loop:∀ (f:Nat),n<f→iter f (((n:Int),(0:Int),false,([]:List Int),(W 1).1,(W 1).2,()):oL) tj=some (Sum.inr (false,[],(W (10 ^ n)).1,(W (10 ^ n)).2,())):=by
  intro f hf
  refine bJ (Inv:=fun i X=>X=(((n:Int),(i:Int),false,([]:List Int),(W (10 ^ i)).1,(W (10 ^ i)).2,()):oL)) n (fun r=>r=some (Sum.inr (false,[],(W (10 ^ n)).1,(W (10 ^ n)).2,()))) ?_ ?_ f 0 _ rfl (by omega) (by omega)
  ·rintro i _ again hi rfl ih
   unfold tj
   dsimp only
   rw[az (by omega),qN 10 (by omega) (by omega),Y7]
   dsimp only
   rw[nC (10 ^ i) 10 ((Le.pow i).w (by omega)) ((Le.int (n:=10) (by omega) (by omega)).w (by omega)),Y7,aj (by omega) (by omega)]
   refine ih _ ?_
   rw[Xb]
   rfl
  ·rintro _ again rfl
   unfold tj
   dsimp only
   rw[aA (by omega)]
 rw[loop _ (by omega),aF]
theorem pe (d:ai) (p:Int) (h1: -9223372036854775808≤d.1) (h2:d.1≤9223372036854775807) (hp0:0≤p - d.2) (hp:p - d.2≤60) (hd: -1000≤d.2∧d.2≤1000):ig d p=some (W (d.1*10 ^ (p - d.2).toNat),()):=by
 unfold ig
 rw[qN _ h1 h2,Y7,aj (by omega) (by omega)]
 obtain⟨n,hn⟩:∃ n:Nat,p - d.2=n:=⟨(p - d.2).toNat,by omega⟩
 rw[hn,CW n (by omega),Y7]
 dsimp only
 rw[nC _ _ ((Le.int h1 h2).w (by omega)) ((Le.pow n).w (by omega)),Y7,Xg]
end Go.Md
namespace Go.Md
open Go.Dn
theorem Eb {α:Type} {l:List α} {k:Nat} {y:α} (h:l[k]? =some y):l.drop k=y::l.drop (k+1):=by
 obtain⟨hk,rfl⟩:=XN.1 h
 exact Xs hk
end Go.Md
namespace Go.Md
open Go.Dn
end Go.Md
namespace Go.Md
open Go.Dn
theorem cr:∀ a:List UInt8,Op.bytesLess a a=false
 | []=>rfl
 | x::a=>by simp[Op.bytesLess,cr a]
theorem yy:∀ {a b:List UInt8},Lib.compareBytes a b=0↔a=b
 | [],[]=>by simp[Lib.compareBytes]
 | [],_::_=>by simp[Lib.compareBytes]
 | _::_,[]=>by simp[Lib.compareBytes]
 | x::a,y::b=>by
  simp only[Lib.compareBytes,List.cons.injEq]
  by_cases h1:x<y
  ·simp only[h1,Zx]
   constructor
   ·intro h;omega
   ·rintro⟨rfl,_⟩;exact absurd h1 (UInt8.lt_irrefl x)
  ·by_cases h2:y<x
   ·simp only[h1,h2,Zx,Zu]
    constructor
    ·intro h;omega
    ·rintro⟨rfl,_⟩;exact absurd h2 (UInt8.lt_irrefl x)
   ·have:x=y:=UInt8.le_antisymm (Zd.1 h2) (Zd.1 h1)
    subst this
    simp only[h1,Zu,true_and]
    exact yy
theorem pn:∀ {a b:List UInt8},Lib.compareBytes a b<0↔Op.bytesLess a b=true
 | [],[]=>by simp[Lib.compareBytes,Op.bytesLess]
 | [],_::_=>by simp[Lib.compareBytes,Op.bytesLess]
 | _::_,[]=>by simp[Lib.compareBytes,Op.bytesLess]
 | x::a,y::b=>by
  have ih:= @pn a b
  simp only[Lib.compareBytes,Op.bytesLess]
  by_cases h1:x<y
  ·simp[h1]
  ·by_cases h2:y<x
   ·have hne:¬ x=y:=fun e=>by subst e;exact absurd h2 (UInt8.lt_irrefl x)
    simp[h1,h2,hne]
   ·have:x=y:=UInt8.le_antisymm (Zd.1 h2) (Zd.1 h1)
    subst this
    simp[h1,ih]
theorem iU:∀ {a b c:List UInt8},Op.bytesLess a b=true→Op.bytesLess b c=true→Op.bytesLess a c=true
 | [],[],_,h,_=>by simp[Op.bytesLess] at h
 | [],_::_,[],_,h=>by simp[Op.bytesLess] at h
 | [],_::_,_::_,_,_=>rfl
 | _::_,[],_,h,_=>by simp[Op.bytesLess] at h
 | _::_,_::_,[],_,h=>by simp[Op.bytesLess] at h
 | x::a,y::b,z::c,h,k=>by
  simp only[Op.bytesLess,WW,WJ,Zp,Zg] at h k ⊢
  rcases h with h | ⟨rfl,h⟩
  ·rcases k with k | ⟨rfl,k⟩
   ·exact .inl (UInt8.lt_trans h k)
   ·exact .inl h
  ·rcases k with k | ⟨rfl,k⟩
   ·exact .inl k
   ·exact .inr ⟨rfl,iU h k⟩
theorem tX {a b:List UInt8} (h:Op.bytesLess a b=true):Op.bytesLess b a=false:=by
 cases hb:Op.bytesLess b a with
 | false=>rfl
 | true=>have:=iU h hb;rw[cr] at this;cases this
theorem rH (a b:List UInt8):Op.bytesLess a b=true∨a=b∨Op.bytesLess b a=true:=by
 induction a generalizing b with
 | nil=>cases b with
  | nil=>simp
  | cons y b=>simp[Op.bytesLess]
 | cons x a ih=>cases b with
  | nil=>simp[Op.bytesLess]
  | cons y b=>
   simp only[Op.bytesLess,WW,WJ,Zp,Zg,List.cons.injEq]
   by_cases h1:x<y
   ·simp[h1]
   ·by_cases h2:y<x
    ·simp[h2]
    ·have:x=y:=UInt8.le_antisymm (Zd.1 h2) (Zd.1 h1)
     subst this
     rcases ih b with h | h | h<;>simp[h]
def Asc {α:Type} (key:α→List UInt8) (l:List α):Prop:=∀ (i j:Nat) (x y:α),i<j→l[i]? =some x→l[j]? =some y→Op.bytesLess (key x) (key y)=true
def dR {α:Type} (key:α→List UInt8) (t:List UInt8) (l:List α):Option Nat:=l.findIdx? (fun r=>key r==t)
theorem oO {α:Type} {key:α→List UInt8} {t:List UInt8} {l:List α} {k:Nat} (h:dR key t l=some k):∃ x,l[k]? =some x∧key x=t:=by
 unfold dR at h
 rw[XC] at h
 obtain⟨h1,h2,_⟩:=h
 exact⟨_,XL h1,by simpa using h2⟩
theorem Mt {α:Type} {key:α→List UInt8} {t:List UInt8} {l:List α} (h:dR key t l=none):∀ x∈l,key x≠t:=by
 unfold dR at h
 rw[XB] at h
 intro x hx e
 have:=h x hx
 simp[e] at this
theorem Lp {α:Type} {key:α→List UInt8} {t:List UInt8} {l:List α} (hs:Asc key l) {k:Nat} {x:α} (hk:l[k]? =some x) (hx:key x=t):dR key t l=some k:=by
 cases h:dR key t l with
 | none=>exact absurd hx (Mt h x (Yj hk))
 | some j=>
  obtain⟨y,h1,h2⟩:=oO h
  rcases YU j k with hlt | rfl | hlt
  ·have:=hs j k y x hlt h1 hk
   rw[h2,hx,cr] at this;cases this
  ·rfl
  ·have:=hs k j x y hlt hk h1
   rw[h2,hx,cr] at this;cases this
def ixI:Option Nat→Int
 | some k=>(k:Int)
 | none=> -1
end Go.Md
namespace Go.Md
open Go.Dn
instance (d:ai):Decidable (bY d):=by unfold bY;exact inferInstance
def inR (d:ai) (lo hi pl:Int):Bool:=decide (bY d∧d.2≤pl∧lo*10 ^ d.2.toNat≤d.1∧d.1≤hi*10 ^ d.2.toNat)
theorem tr (d:ai):gP d=some (if bY d then 0 else 1,()):=by
 rw[BM]
 congr 2
 by_cases h:bY d
 ·rw[Zw h,Zw (by unfold bY at h;omega)]
 ·rw[Zv h,Zv (by unfold bY at h;omega)]
def Wh (pl:Int) (rates:List zN) (line:Bool) (x:tT):Int:=
 if bY x.2.1 then
  (if x.2.1.1=0 then 13
  else if (if x.1=true then inR x.2.1 (-100) 100 9 else inR x.2.1 (-1000000000) 1000000000 pl)=true then
   (if x.2.2=[] then 0 else if line=true then 3 else if (dR (·.1) x.2.2 rates).isSome=true then 0 else 5)
  else 1)
 else 1
def UG (pl:Int) (rates:List zN) (line:Bool) (l:List tT):Int:=if 20<l.length then 2 else cS (fun _ x=>Wh pl rates line x) 0 l
theorem R9 {γ:Type} (s:Int) (u:γ):aO (β:=Int×Unit) (γ:=γ) (if s=0 then some (Sum.inr u) else some (Sum.inl (s,()))) (fun _=>some (0,()))=some (s,()):=by
 by_cases h:s=0
 ·rw[Zw h,aF,h]
 ·rw[Zv h,fR]
theorem pF {X α:Type} {γ:Type} {f:X→(X→Option ((Int×Unit) ⊕ γ))→Option ((Int×Unit) ⊕ γ)} {x0:X} (mk:Nat→X) (l:List α) (g:Nat→α→Int) (u:γ) (h0:x0=mk 0)
 (hstep:∀ i y again,l[i]? =some y→f (mk i) again=if g i y=0 then again (mk (i+1)) else some (Sum.inl (g i y,()))) (hend:∀ again,f (mk l.length) again=some (Sum.inr u)) (n:Nat) (hn:l.length<n):
 iter n x0 f=if cS g 0 l=0 then some (Sum.inr u) else some (Sum.inl (cS g 0 l,())):=by
 rw[h0];exact Ms mk l g u hstep hend l 0 n rfl (Y5 _) hn
end Go.Md
namespace Go.Md
open Go.Dn
theorem LF (n:Int) (h0:0≤n) (h1:n≤18):B5 n=some (10 ^ n.toNat,()):=MY n h0 h1
end Go.Md
namespace Go.Md
open Go.Dn
theorem VS {γ:Type} (s:Int) (u:γ) (k:γ→Option (Int×Unit)) (z:Int) (hk:k u=some (z,())):aO (β:=Int×Unit) (γ:=γ) (if s=0 then some (Sum.inr u) else some (Sum.inl (s,()))) k=some (if s≠0 then s else z,()):=by
 by_cases h:s=0
 ·rw[Zw h,aF,hk,Zv (by simpa using h)]
 ·rw[Zv h,fR,Zw h]
end Go.Md
namespace Go.Md
open Go.Dn
structure Wq (pl:Int) (x:tT):Prop where
 dec:bY x.2.1
 place:x.1=false→x.2.1.2≤pl
 nz:x.2.1.1≠0
structure Vv (pl:Int) (rates:List zN) (x:Cf):Prop where
 q:bY x.2.2.2.1
 qp:x.2.2.2.1.2≤3
 qn:x.2.2.2.1.1≠0
 p:bY x.2.2.2.2.2.1
 pp:x.2.2.2.2.2.1.2≤4
 p0:0≤x.2.2.2.2.2.1.1
 per:1≤x.2.2.2.2.2.2.1∧x.2.2.2.2.2.2.1≤100000
 ext:UG pl rates true x.2.2.2.2.2.2.2.1=0
 rate:(dR (·.1) x.2.2.2.2.2.2.2.2 rates).isSome=true
structure Wr (v:MS):Prop where
 pl:0≤v.2.2.2.1∧v.2.2.2.1≤4
 way:1≤v.2.2.2.2.1∧v.2.2.2.2.1≤6
 rn:0<v.2.2.2.2.2.2.1.length∧v.2.2.2.2.2.2.1.length≤20
 asc:Asc (·.1) v.2.2.2.2.2.2.1
 rates:∀ r∈v.2.2.2.2.2.2.1,inR r.2 0 100 9=true
 ln:0<v.2.2.2.2.2.2.2.1.length∧v.2.2.2.2.2.2.2.1.length≤500
 lines:∀ x∈v.2.2.2.2.2.2.2.1,Vv v.2.2.2.1 v.2.2.2.2.2.2.1 x
 ext:UG v.2.2.2.1 v.2.2.2.2.2.2.1 false v.2.2.2.2.2.2.2.2=0
end Go.Md
namespace Go.Md
open Go.Dn
theorem Le.dec {d:ai} (h:bY d):Le 15 d.1:=by
 have:=h.1
 unfold Le;omega
theorem Le.i1 {n:Int} (h1: -9223372036854775808≤n) (h2:n≤9223372036854775807):n.natAbs<4294967296 ^ 99:=(Le.int h1 h2).w (by omega)
theorem O0 {n:Int} (h0:0≤n) (h1:n≤40):AQ n=some (N (10 ^ n.toNat),()):=by
 obtain⟨m,rfl⟩:∃ m:Nat,n=m:=⟨n.toNat,by omega⟩
 exact HU m (by omega)
theorem MI (d:ai) (p:Int) (hd:bY d) (hp:d.2≤p) (hp2:p≤9):BH d p=some (N (d.1*10 ^ (p - d.2).toNat),()):=by
 have h1:=hd.1;have h2:=hd.2
 have l2:=(Le.dec hd).n (by omega);have l3:=(Le.pow (p - d.2).toNat).n (by omega)
 unfold BH
 rw[DP _ (by omega) (by omega),Y7,aj (by omega) (by omega),O0 (by omega) (by omega),Y7]
 dsimp only
 rw[zx _ _ (by omega) (by omega),Y7]
end Go.Md
