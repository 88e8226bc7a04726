/-
  Plain facts: products, powers, rounding; the order of strings; decimals. No condition.
-/
import Derived.Test.YtcpmaicaibdafaaGreatDoorWq
import Derived.Test.YtcpmaicaibdafaaGreatDoorWn
import Derived.Test.YtcpmaicaibdafaaGreatDoorWp
set_option linter.all false
namespace Go.Md
open Go.Dn
theorem zne:((0:Int) != 0)=false:=rfl
theorem Ug (a b:List Int):IB a b=DJ a b:=rfl
theorem yl (x y:Int) (hx:x.natAbs<4294967296 ^ 99) (hy:y.natAbs<4294967296 ^ 99):nF (W x) (W y)=some (W (x+y),()):=by
 have hlx:=sE hx
 have hly:=sE hy
 unfold nF W
 dsimp only
 by_cases hs:decide (x<0)=decide (y<0)
 ·rw[show (decide (x<0)==decide (y<0))=true by simp[hs],aii,Ug]
  obtain⟨s,h1,h2,h3,h4⟩:=NR (bC x.natAbs) (bC y.natAbs) (eC _) (eC _) (by omega) (by omega)
  rw[h1,ah4]
  dsimp only
  rw[ki _ _ h2 (by omega),ah4,h3,ez,ez]
  simp only[aij] at hs
  show some (W _,())=some (W (x+y),())
  congr 3
  by_cases h:x<0
  ·simp only[h,aip,aiw];omega
  ·simp only[h,aio,afx,ait];omega
 ·rw[show (decide (x<0)==decide (y<0))=false by simp[hs],aih]
  obtain⟨c,h1,h2,h3⟩:=GG x.natAbs y.natAbs (by omega) (by omega)
  rw[h1,ah4]
  dsimp only
  simp only[aij] at hs
  have hlen:∀ a b:Nat,b≤a→(bC b).length≤(bC a).length:=fun a b h=>by
   rcases ahL (bC a).length (bC b).length with h' | h'
   ·have:=nx h';omega
   ·exact h'
  by_cases hc:c≥0
  ·rw[aK hc,Ea _ _ (eC _) (eC _) (by omega) (hlen _ _ (by omega)) (by rw[ez,ez];omega),ah4]
   dsimp only
   rw[ki _ _ (eC _) (by have:=hlen x.natAbs (v32 (bC x.natAbs) - v32 (bC y.natAbs)).toNat (by rw[ez,ez];omega);omega),ah4]
   rw[ez,ez,ez]
   show some (W _,())=some (W (x+y),())
   congr 3
   by_cases h:x<0
   ·simp only[h,aip,aiw];omega
   ·simp only[h,aio,afx,ait];omega
  ·rw[aN hc,Ea _ _ (eC _) (eC _) (by omega) (hlen _ _ (by omega)) (by rw[ez,ez];omega),ah4]
   dsimp only
   rw[ki _ _ (eC _) (by have:=hlen y.natAbs (v32 (bC y.natAbs) - v32 (bC x.natAbs)).toNat (by rw[ez,ez];omega);omega),ah4]
   rw[ez,ez,ez]
   show some (W _,())=some (W (x+y),())
   congr 3
   by_cases h:y<0
   ·simp only[h,aip,aiw];omega
   ·simp only[h,aio,afx,ait];omega
theorem Em (x y:Int) (hx:x.natAbs<4294967296 ^ 99) (hy:y.natAbs<4294967296 ^ 99):rV (W x) (W y)=some (W (x - y),()):=by
 unfold rV
 rw[DI y hy,ah4]
 dsimp only
 rw[yl x (-y) hx (by omega),ah4,Int.sub_eq_add_neg]
theorem BG (x y:Int) (hx:x.natAbs<4294967296 ^ 99) (hy:y.natAbs<4294967296 ^ 99):mW (W x) (W y)=some ((x - y).sign,()):=by
 unfold mW
 rw[Em x y hx hy,ah4]
 dsimp only
 rw[qS,ah4]
theorem YC {x y z c:Int} (hx:0≤x∧x<4294967296) (hy:0≤y∧y<4294967296) (hz:0≤z∧z<4294967296) (hc:0≤c∧c<4294967296):0≤x*y∧x*y≤18446744065119617025∧c+(z+x*y)≤18446744073709551615:=by
 have h1:0≤x*y:=afR hx.1 hy.1
 have h2:x*y≤4294967295*4294967295:=Int.mul_le_mul (by omega) (by omega) (by omega) (by omega)
 omega
theorem OQ (i:Nat) (x:Int) (ga:List Int) (gn gi:Int) (b:List Int) (s1:Bool) (l1:List Int) (s2:Bool) (l2:List Int) (s3:Bool) (l3:List Int) (out:List Int) (hx:0≤x∧x<4294967296) (hb:Dg b) (hbl:b.length<10000) (hil:i<10000) (ho:i+b.length≤out.length) (hol:out.length<100000) (hd:Dg out) (n:Nat) (hn:b.length<n):
 ∃ o c,iter n (((i:Int),x,(0:Int),ga,gn,gi,b,(b.length:Int),(0:Int),s1,l1,s2,l2,s3,l3,out,()):l6) qc=some (Sum.inr ((i:Int),c,ga,gn,gi,s1,l1,s2,l2,s3,l3,o,()))∧
  Dg o∧o.length=out.length∧0≤c∧c<4294967296∧v32 o+4294967296 ^ (i+b.length)*c=v32 out+4294967296 ^ i*x*v32 b∧∀ j,i+b.length≤j→o[j]? =out[j]? :=by
 refine cN (Inv:=fun k X=>∃ o c,X=(((i:Int),x,c,ga,gn,gi,b,(b.length:Int),(k:Int),s1,l1,s2,l2,s3,l3,o,()):l6)∧Dg o∧o.length=out.length∧0≤c∧c<4294967296∧v32 o+4294967296 ^ (i+k)*c=v32 out+4294967296 ^ i*x*v32 (b.take k)∧∀ j,i+k≤j→o[j]? =out[j]?) b.length
  (fun r=>∃ o c,r=some (Sum.inr ((i:Int),c,ga,gn,gi,s1,l1,s2,l2,s3,l3,o,()))∧Dg o∧o.length=out.length∧0≤c∧c<4294967296∧v32 o+4294967296 ^ (i+b.length)*c=v32 out+4294967296 ^ i*x*v32 b∧∀ j,i+b.length≤j→o[j]? =out[j]?) ?_ ?_ n 0 _ ⟨out,0,rfl,hd,rfl,by omega,by omega,by simp[Cm],fun _ _=>rfl⟩ (by omega) (by omega)
 ·rintro k _ again hk ⟨o,c,rfl,h1,h2,h3,h4,h5,h6⟩ ih
  unfold qc
  dsimp only
  have hy:b[k]? =some b[k]:=bq hk
  have hyd:=hb.get hy
  have hts:=iW hy
  have hz:o[i+k]? =some (o[i+k]'(by omega)):=bq (by omega)
  have hzd:=h1.get hz
  generalize b[k]=y at hy hyd hts
  generalize o[i+k]'(by omega)=z at hz hzd
  obtain⟨m1,m2,m3⟩:=YC hx hyd hzd ⟨h3,h4⟩
  have e1:w64 ((i:Int)+(k:Int))=((i+k:Nat):Int):=by rw[av (by omega) (by omega)];omega
  rw[aK (by omega),bH,hy,ah4,e1,bP (by simp only[afr,ain];omega),af4,hz,ah4,bP (by simp only[afr,ain];omega),ah4,
   dY (n:=x) (by omega) (by omega),dY (n:=y) (by omega) (by omega),dY (n:=z) (by omega) (by omega),dY (n:=x*y) (by omega) (by omega),dY (n:=z+x*y) (by omega) (by omega),dY (n:=c+(z+x*y)) (by omega) (by omega),Cs,WN,av (n:=(k:Int)+1) (by omega) (by omega)]
  generalize ht:c+(z+x*y)=t at*
  refine ih _ ⟨_,_,rfl,h1.set (by omega),by rw[agT];exact h2,by omega,by omega, ?_,fun j hj=> ?_⟩
  ·rw[Oh hz,hts]
   have e2:(4294967296:Int) ^ (i+(k+1))=4294967296 ^ i*4294967296 ^ k*4294967296:=by rw[← ahw,afZ,afY]
   have e3:(4294967296:Int) ^ (i+k)=4294967296 ^ i*4294967296 ^ k:=afY ..
   rw[e3] at h5
   rw[e2,e3]
   have e4:=Int.mul_ediv_add_emod t 4294967296
   generalize (4294967296:Int) ^ i=p at*
   generalize (4294967296:Int) ^ k=q at*
   generalize t / 4294967296=d at*
   generalize t % 4294967296=r at*
   grind
  ·rw[agI (by omega)];exact h6 j (by omega)
 ·rintro _ again ⟨o,c,rfl,h1,h2,h3,h4,h5,h6⟩
  unfold qc
  dsimp only
  rw[aN (by omega)]
  rw[ahu (ahF _)] at h5
  exact⟨o,c,rfl,h1,h2,h3,h4,h5,h6⟩
theorem OR (a b:List Int) (ha:Dg a) (hb:Dg b) (hal:a.length<1000) (hbl:b.length<1000) (s1 s2 s3:Bool) (l3:List Int) (n:Nat) (hn:a.length<n):
 ∃ o,iter n ((a,(a.length:Int),(0:Int),s1,a,s2,b,s3,l3,List.replicate (a.length+b.length) 0,()):lZ) qb=some (Sum.inr (s1,a,s2,b,s3,l3,o,()))∧Dg o∧o.length=a.length+b.length∧v32 o=v32 a*v32 b:=by
 refine cN (Inv:=fun i X=>∃ o,X=((a,(a.length:Int),(i:Int),s1,a,s2,b,s3,l3,o,()):lZ)∧Dg o∧o.length=a.length+b.length∧v32 o=v32 (a.take i)*v32 b∧∀ j,i+b.length≤j→j<a.length+b.length→o[j]? =some 0) a.length
  (fun r=>∃ o,r=some (Sum.inr (s1,a,s2,b,s3,l3,o,()))∧Dg o∧o.length=a.length+b.length∧v32 o=v32 a*v32 b) ?_ ?_ n 0 _ ⟨_,rfl,fun d hd=>by rw[List.mem_replicate] at hd;omega,by simp,by rw[Lu];simp[Cm],fun j _ hj=>by rw[agG,aiv hj]⟩ (by omega) (by omega)
 ·rintro i _ again hi ⟨o,rfl,h1,h2,h3,h4⟩ ih
  unfold qb
  dsimp only
  have hy:a[i]? =some a[i]:=bq hi
  have hyd:=ha.get hy
  have hts:=iW hy
  generalize a[i]=x at hy hyd hts
  rw[aK (by omega),bH,hy,ah4]
  obtain⟨o',c,k1,k2,k3,k4,k5,k6,k7⟩:=OQ i x a (a.length:Int) (i:Int) b s1 a s2 b s3 l3 o hyd hb (by omega) (by omega) (by omega) (by omega) h1 (Int.natAbs (i:Int)+(Int.natAbs x+(Int.natAbs (0:Int)+(List.length a+(Int.natAbs (a.length:Int)+(Int.natAbs (i:Int)+(List.length b+(Int.natAbs ((List.length b:Int))+(Int.natAbs (0:Int)+(List.length a+(List.length b+(List.length l3+(List.length o+2))))))))))))) (by omega)
  rw[k1,aU]
  dsimp only
  have e1:w64 ((i:Int)+(b.length:Int))=((i+b.length:Nat):Int):=by rw[av (by omega) (by omega)];omega
  have hz:o'[i+b.length]? =some 0:=by rw[k7 _ (ahF _)];exact h4 _ (ahF _) (by omega)
  rw[e1,bP (by simp only[afr,ain];omega),af4,hz,ah4,Cr (by omega) (by omega),av (n:=(i:Int)+1) (by omega) (by omega)]
  refine ih _ ⟨_,rfl,k2.set (by omega),by rw[agT];omega, ?_,fun j hj hj2=> ?_⟩
  ·rw[Oh hz,hts]
   have e3:(4294967296:Int) ^ (i+b.length)=4294967296 ^ i*4294967296 ^ b.length:=afY ..
   rw[e3] at k6 ⊢
   grind
  ·rw[agI (by omega),k7 j (by omega)];exact h4 j (by omega) hj2
 ·rintro _ again ⟨o,rfl,h1,h2,h3,h4⟩
  unfold qb
  dsimp only
  rw[aN (by omega)]
  rw[ahu (ahF _)] at h3
  exact⟨o,rfl,h1,h2,h3⟩
theorem jt (x y:Int) (hx:x.natAbs<4294967296 ^ 99) (hy:y.natAbs<4294967296 ^ 99):gq (W x) (W y)=some (W (x*y),()):=by
 have hlx:=sE hx
 have hly:=sE hy
 unfold gq W
 dsimp only
 have e1:w64 (((bC x.natAbs).length:Int)+((bC y.natAbs).length:Int))=(((bC x.natAbs).length+(bC y.natAbs).length:Nat):Int):=by rw[av (by omega) (by omega)];omega
 rw[e1,bP (by simp only[afr,ain];omega)]
 obtain⟨o,h1,h2,h3,h4⟩:=OR (bC x.natAbs) (bC y.natAbs) (eC _) (eC _) (by omega) (by omega) (decide (x<0)) (decide (y<0)) false [] (List.length (bC x.natAbs)+(Int.natAbs ((List.length (bC x.natAbs):Int))+(Int.natAbs (0:Int)+(List.length (bC x.natAbs)+(List.length (bC y.natAbs)+(List.length ([]:List Int)+(List.length ((List.replicate (Int.toNat (((bC x.natAbs).length+(bC y.natAbs).length:Nat):Int)) 0):List Int)+2))))))) (by omega)
 rw[af4] at h1 ⊢
 rw[h1,aU]
 dsimp only
 rw[ki _ _ h2 (by omega),ah4,h4,ez,ez]
 show some (W _,())=some (W (x*y),())
 congr 3
 rw[← Int.natCast_mul, ← afT]
 by_cases h:x<0<;>by_cases h':y<0
 ·have:=Int.mul_pos_of_neg_of_neg h h'
  simp[h,h'];omega
 ·have:=afR (show 0≤ -x by omega) (show 0≤y by omega)
  rw[Int.neg_mul] at this
  simp[h,h'];omega
 ·have:=afR (show 0≤x by omega) (show 0≤ -y by omega)
  rw[Int.mul_neg] at this
  simp[h,h'];omega
 ·have:=afR (show 0≤x by omega) (show 0≤y by omega)
  simp[h,h'];omega
end Go.Md
namespace Go.Md
open Go.Dn
def Le (k:Nat) (z:Int):Prop:=z.natAbs≤10 ^ k
theorem Le.mul {a b:Nat} {x y:Int} (hx:Le a x) (hy:Le b y):Le (a+b) (x*y):=by
 unfold Le at*
 rw[afT,ahY]
 exact ahT hx hy
theorem Le.mono {a b:Nat} {x:Int} (hx:Le a x) (h:a≤b):Le b x:=ahG hx (ahZ (by omega) h)
theorem Le.add {a:Nat} {x y:Int} (hx:Le a x) (hy:Le a y):Le (a+1) (x+y):=by
 unfold Le at*
 rw[ah0]
 omega
theorem Le.neg {a:Nat} {x:Int} (hx:Le a x):Le a (-x):=by unfold Le at *;omega
theorem Le.w {k:Nat} {z:Int} (h:Le k z) (hk:k≤900):z.natAbs<4294967296 ^ 99:=
 ahJ (h.mono hk) (by decide +kernel)
theorem Le.n {k:Nat} {z:Int} (h:Le k z) (hk:k≤500):(dg6 z.natAbs).length<90:=by
 have:=YL (k:=84) (n:=z.natAbs) (ahJ (h.mono hk) (by decide +kernel))
 omega
theorem Le.pow (n:Nat):Le n (10 ^ n):=by
 unfold Le
 rw[afV];exact ahF _
theorem Le.int {n:Int} (h1: -9223372036854775808≤n) (h2:n≤9223372036854775807):Le 19 n:=by unfold Le;omega
theorem Le.succ {k n:Nat} (h:Le k (n:Int)):Le (k+1) ((n+1:Nat):Int):=by
 unfold Le at*
 rw[ah0]
 have:1≤10 ^ k:=Nat.pow_pos (by omega)
 omega
theorem Ud (n:Nat) (hn:n≤60):CW (n:Int)=some (W (10 ^ n),()):=by
 unfold CW
 rw[nA 1 (by omega) (by omega),ah4]
 dsimp only
 have loop:∀ (f:Nat),n<f→iter f (((n:Int),(0:Int),false,([]:List Int),(W 1).1,(W 1).2,()):rW) xF=some (Sum.inr (false,[],(W (10 ^ n)).1,(W (10 ^ n)).2,())):=by
  intro f hf
  refine cN (Inv:=fun i X=>X=(((n:Int),(i:Int),false,([]:List Int),(W (10 ^ i)).1,(W (10 ^ i)).2,()):rW)) n (fun r=>r=some (Sum.inr (false,[],(W (10 ^ n)).1,(W (10 ^ n)).2,()))) ?_ ?_ f 0 _ rfl (by omega) (by omega)
  ·rintro i _ again hi rfl ih
   unfold xF
   dsimp only
   rw[aK (by omega),nA 10 (by omega) (by omega),ah4]
   dsimp only
   rw[jt (10 ^ i) 10 ((Le.pow i).w (by omega)) ((Le.int (n:=10) (by omega) (by omega)).w (by omega)),ah4,av (by omega) (by omega)]
   refine ih _ ?_
   rw[afZ]
   rfl
  ·rintro _ again rfl
   unfold xF
   dsimp only
   rw[aN (by omega)]
 rw[loop _ (by omega),aU]
theorem PD (d:ah) (p:Int) (h1: -9223372036854775808≤d.1) (h2:d.1≤9223372036854775807) (hp0:0≤p - d.2) (hp:p - d.2≤60) (hd: -1000≤d.2∧d.2≤1000):yT d p=some (W (d.1*10 ^ (p - d.2).toNat),()):=by
 unfold yT
 rw[nA _ h1 h2,ah4,av (by omega) (by omega)]
 obtain⟨n,hn⟩:∃ n:Nat,p - d.2=n:=⟨(p - d.2).toNat,by omega⟩
 rw[hn,Ud n (by omega),ah4]
 dsimp only
 rw[jt _ _ ((Le.int h1 h2).w (by omega)) ((Le.pow n).w (by omega)),ah4,af4]
end Go.Md
namespace Go.Md
open Go.Dn
end Go.Md
namespace Go.Md
open Go.Dn
end Go.Md
namespace Go.Md
open Go.Dn
theorem q8:∀ a:Bys,Op.bytesLess a a=false
 | []=>rfl
 | x::a=>by simp[Op.bytesLess,q8 a]
theorem Mc:∀ {a b:Bys},Lib.compareBytes a b=0↔a=b
 | [],[]=>by simp[Lib.compareBytes]
 | [],_::_=>by simp[Lib.compareBytes]
 | _::_,[]=>by simp[Lib.compareBytes]
 | x::a,y::b=>by
  simp only[Lib.compareBytes,List.cons.injEq]
  by_cases h1:x<y
  ·simp only[h1,aiw]
   constructor
   ·intro h;omega
   ·rintro⟨rfl,_⟩;exact absurd h1 (UInt8.lt_irrefl x)
  ·by_cases h2:y<x
   ·simp only[h1,h2,aiw,ait]
    constructor
    ·intro h;omega
    ·rintro⟨rfl,_⟩;exact absurd h2 (UInt8.lt_irrefl x)
   ·have:x=y:=UInt8.le_antisymm (aib.1 h2) (aib.1 h1)
    subst this
    simp only[h1,ait,true_and]
    exact Mc
theorem JU:∀ {a b:Bys},Lib.compareBytes a b<0↔Op.bytesLess a b=true
 | [],[]=>by simp[Lib.compareBytes,Op.bytesLess]
 | [],_::_=>by simp[Lib.compareBytes,Op.bytesLess]
 | _::_,[]=>by simp[Lib.compareBytes,Op.bytesLess]
 | x::a,y::b=>by
  have ih:= @JU a b
  simp only[Lib.compareBytes,Op.bytesLess]
  by_cases h1:x<y
  ·simp[h1]
  ·by_cases h2:y<x
   ·have hne:¬ x=y:=fun e=>by subst e;exact absurd h2 (UInt8.lt_irrefl x)
    simp[h1,h2,hne]
   ·have:x=y:=UInt8.le_antisymm (aib.1 h2) (aib.1 h1)
    subst this
    simp[h1,ih]
theorem Cy:∀ {a b c:Bys},Op.bytesLess a b=true→Op.bytesLess b c=true→Op.bytesLess a c=true
 | [],[],_,h,_=>by simp[Op.bytesLess] at h
 | [],_::_,[],_,h=>by simp[Op.bytesLess] at h
 | [],_::_,_::_,_,_=>rfl
 | _::_,[],_,h,_=>by simp[Op.bytesLess] at h
 | _::_,_::_,[],_,h=>by simp[Op.bytesLess] at h
 | x::a,y::b,z::c,h,k=>by
  simp only[Op.bytesLess,afG,afr,ain,beq_iff_eq] at h k ⊢
  rcases h with h | ⟨rfl,h⟩
  ·rcases k with k | ⟨rfl,k⟩
   ·exact .inl (UInt8.lt_trans h k)
   ·exact .inl h
  ·rcases k with k | ⟨rfl,k⟩
   ·exact .inl k
   ·exact .inr ⟨rfl,Cy h k⟩
theorem aaN (a b:Bys):Op.bytesLess a b=true∨a=b∨Op.bytesLess b a=true:=by
 induction a generalizing b with
 | nil=>cases b with
  | nil=>simp
  | cons y b=>simp[Op.bytesLess]
 | cons x a ih=>cases b with
  | nil=>simp[Op.bytesLess]
  | cons y b=>
   simp only[Op.bytesLess,afG,afr,ain,beq_iff_eq,List.cons.injEq]
   by_cases h1:x<y
   ·simp[h1]
   ·by_cases h2:y<x
    ·simp[h2]
    ·have:x=y:=UInt8.le_antisymm (aib.1 h2) (aib.1 h1)
     subst this
     rcases ih b with h | h | h<;>simp[h]
def Asc {α:Type} (key:α→Bys) (l:List α):Prop:=∀ (i j:Nat) (x y:α),i<j→l[i]? =some x→l[j]? =some y→Op.bytesLess (key x) (key y)=true
def gW {α:Type} (key:α→Bys) (t:Bys) (l:List α):Option Nat:=l.findIdx? (fun r=>key r==t)
theorem Hf {α:Type} {key:α→Bys} {t:Bys} {l:List α} {k:Nat} (h:gW key t l=some k):∃ x,l[k]? =some x∧key x=t:=by
 unfold gW at h
 rw[agt] at h
 obtain⟨h1,h2,_⟩:=h
 exact⟨_,agB h1,by simpa using h2⟩
theorem abo {α:Type} {key:α→Bys} {t:Bys} {l:List α} (h:gW key t l=none):∀ x∈l,key x≠t:=by
 unfold gW at h
 rw[ags] at h
 intro x hx e
 have:=h x hx
 simp[e] at this
theorem adB {α:Type} {key:α→Bys} {t:Bys} {l:List α} (hs:Asc key l) {k:Nat} {x:α} (hk:l[k]? =some x) (hx:key x=t):gW key t l=some k:=by
 cases h:gW key t l with
 | none=>exact absurd hx (abo h x (ahb hk))
 | some j=>
  obtain⟨y,h1,h2⟩:=Hf h
  rcases ahP j k with hlt | rfl | hlt
  ·have:=hs j k y x hlt h1 hk
   rw[h2,hx,q8] at this;cases this
  ·rfl
  ·have:=hs k j x y hlt hk h1
   rw[h2,hx,q8] at this;cases this
def ixI:Option Nat→Int
 | some k=>(k:Int)
 | none=> -1
theorem YV (o:Option Nat):decide (ixI o<0)= !o.isSome:=by
 cases o with
 | none=>rfl
 | some k=>exact aik (by simp only[ixI];omega)
theorem Lj (v:ai) (t:Bys) (hl:v.2.2.2.2.2.2.1.length<1000000000):gm v t=some (ixI (gW (·.1) t v.2.2.2.2.2.2.1),()):=by
 unfold gm
 generalize v.2.2.2.2.2.2.1=l at*
 have loop:∀ f,l.length<f→iter f ((t,l,(l.length:Int),(0:Int),()):tP) zh=(match gW (·.1) t l with | some k=>some (Sum.inl ((k:Int),())) | none=>some (Sum.inr ())):=by
  intro f hf
  refine cN (Inv:=fun i X=>X=((t,l,(l.length:Int),(i:Int),()):tP)∧∀ j x,j<i→l[j]? =some x→x.1≠t) l.length
   (fun r=>r=(match gW (·.1) t l with | some k=>some (Sum.inl ((k:Int),())) | none=>some (Sum.inr ()))) ?_ ?_ f 0 _ ⟨rfl,fun _ _ h=>absurd h (ahW _)⟩ (by omega) (by omega)
  ·rintro i _ again hi ⟨rfl,hb⟩ ih
   unfold zh
   dsimp only
   have hy:l[i]? =some l[i]:=bq hi
   generalize l[i]=y at hy
   rw[aK (by omega),bH,hy,ah4]
   by_cases he:y.1=t
   ·rw[show (y.1==t)=true by simpa using he,aii]
    have:gW (·.1) t l=some i:=by
     unfold gW
     rw[agt]
     refine⟨hi, ?_,fun j hj=> ?_⟩
     ·have:=(agD.1 hy).2
      rw[this];simpa using he
     ·have:=hb j l[j] hj (agB _)
      simpa using this
    rw[this]
   ·rw[show (y.1==t)=false by simpa using he,aih,av (by omega) (by omega)]
    refine ih _ ⟨rfl,fun j x hj hx=> ?_⟩
    rcases ahN.1 hj with h | h
    ·exact hb j x h hx
    ·subst h;rw[hy] at hx;cases hx;exact he
  ·rintro _ again ⟨rfl,hb⟩
   unfold zh
   dsimp only
   rw[aN (by omega)]
   have:gW (·.1) t l=none:=by
    unfold gW
    rw[ags]
    intro x hx
    obtain⟨j,hj⟩:=ag8.1 hx
    have:=hb j x (agD.1 hj).1 hj
    simpa using this
   rw[this]
 rw[loop _ (by omega)]
 cases gW (·.1) t l<;>rfl
theorem Wb (l:List aV) (t:Bys) (hl:l.length<1000000000) (hs:Asc (·.1) l):
 ∃ i:Nat,dV l t ()=some ((i:Int),(gW (·.1) t l).isSome,())∧∀ k,gW (·.1) t l=some k→i=k:=by
 unfold dV
 have loop:∀ f,l.length<f→∃ i:Nat,iter f ((l,t,(),(l.length:Int),(0:Int),(l.length:Int),()):cQ) fo=some (Sum.inr (l,t,(),(l.length:Int),(i:Int),()))∧i≤l.length∧(∀ k x,l[k]? =some x→k<i→Op.bytesLess x.1 t=true)∧∀ k x,l[k]? =some x→i≤k→Op.bytesLess x.1 t=false:=by
  intro f hf
  refine He (Inv:=fun X=>∃ i j:Nat,X=((l,t,(),(l.length:Int),(i:Int),(j:Int),()):cQ)∧i≤j∧j≤l.length∧(∀ k x,l[k]? =some x→k<i→Op.bytesLess x.1 t=true)∧∀ k x,l[k]? =some x→j≤k→Op.bytesLess x.1 t=false)
   (fun X=>(X.2.2.2.2.2.1 - X.2.2.2.2.1).toNat)
   (fun _ r=>∃ i:Nat,r=some (Sum.inr (l,t,(),(l.length:Int),(i:Int),()))∧i≤l.length∧(∀ k x,l[k]? =some x→k<i→Op.bytesLess x.1 t=true)∧∀ k x,l[k]? =some x→i≤k→Op.bytesLess x.1 t=false) ?_ f _ ⟨0,l.length,rfl,by omega,by omega,fun _ _ _ h=>absurd h (ahW _),fun k x hk hle=>by have:=(agD.1 hk).1;omega⟩ (by dsimp only;omega)
  rintro _ again ⟨i,j,rfl,hij,hj,h1,h2⟩ ih
  dsimp only at ih
  unfold fo
  dsimp only
  by_cases hlt:i<j
  ·rw[aK (by omega)]
   have em:w64 (Int.fdiv (cn (w64 ((i:Int)+(j:Int)))) (2 ^ 1))=(((i+j) / 2:Nat):Int):=by
    rw[av (n:=(i:Int)+(j:Int)) (by omega) (by omega),dY (by omega) (by omega),afL _ (by omega),av (by omega) (by omega)]
    omega
   rw[em]
   have hm:(i+j) / 2<l.length:=by omega
   have hy:l[(i+j) / 2]? =some l[(i+j) / 2]:=bq hm
   have hmi:i≤(i+j) / 2∧(i+j) / 2<j:=by omega
   generalize (i+j) / 2=m at*
   generalize l[m]=y at hy
   rw[bH,hy,ah4]
   show ∃ i,Option.bind (Option.bind (some (Lib.compareBytes y.1 t,())) fun r1=>some (r1.1,())) _=_∧_
   rw[ah4,ah4]
   dsimp only
   by_cases hc:Lib.compareBytes y.1 t<0
   ·rw[aK hc,av (by omega) (by omega)]
    refine ih _ ⟨m+1,j,rfl,by omega,hj,fun k x hk hkm=> ?_,h2⟩ (by dsimp only;omega)
    rcases ahN.1 hkm with h | h
    ·have:=hs k m x y h hk hy
     exact Cy this (JU.1 hc)
    ·subst h;rw[hy] at hk;cases hk;exact JU.1 hc
   ·rw[aN hc]
    refine ih _ ⟨i,m,rfl,by omega,by omega,h1,fun k x hk hkm=> ?_⟩ (by dsimp only;omega)
    have hc':Op.bytesLess y.1 t=false:=by
     cases h:Op.bytesLess y.1 t with
     | false=>rfl
     | true=>exact absurd (JU.2 h) hc
    rcases Nat.lt_or_eq_of_le hkm with h | h
    ·cases hx:Op.bytesLess x.1 t with
     | false=>rfl
     | true=>rw[Cy (hs m k y x h hy hk) hx] at hc';cases hc'
    ·subst h;rw[hy] at hk;cases hk;exact hc'
  ·rw[aN (by omega)]
   have:i=j:=by omega
   subst this
   exact⟨i,rfl,hj,h1,h2⟩
 obtain⟨i,h1,h2,h3,h4⟩:=loop (List.length l+(List.length t+(Int.natAbs ((List.length l:Int))+(Int.natAbs (0:Int)+(Int.natAbs ((List.length l:Int))+2))))) (by omega)
 refine⟨i, ?_,fun k hk=> ?_⟩
 ·rw[h1,aU]
  dsimp only
  by_cases hi:i<l.length
  ·have hy:l[i]? =some l[i]:=bq hi
   generalize l[i]=y at hy
   rw[aK (by omega),bH,hy,ah4]
   show Option.bind (Option.bind (some (Lib.compareBytes y.1 t,())) fun r1=>some (r1.1,())) _=_
   rw[ah4,ah4]
   congr 3
   by_cases he:y.1=t
   ·rw[adB hs hy he,Mc.2 he];rfl
   ·have hne:¬ Lib.compareBytes y.1 t=0:=fun h=>he (Mc.1 h)
    rw[show (Lib.compareBytes y.1 t==0)=false by simpa using hne]
    cases hx:gW (·.1) t l with
    | none=>rfl
    | some k=>
     exfalso
     obtain⟨x,k1,k2⟩:=Hf hx
     rcases ahP k i with h | h | h
     ·have:=h3 k x k1 h;rw[k2,q8] at this;cases this
     ·subst h;rw[hy] at k1;cases k1;exact he k2
     ·have:=hs i k y x h hy k1
      dsimp only at this
      rw[k2,h4 i y hy (ahF _)] at this;cases this
  ·rw[aN (by omega)]
   congr 3
   cases hx:gW (·.1) t l with
   | none=>rfl
   | some k=>
    exfalso
    obtain⟨x,k1,k2⟩:=Hf hx
    have:=h3 k x k1 (by have:=(agD.1 k1).1;omega)
    rw[k2,q8] at this;cases this
 ·obtain⟨x,k1,k2⟩:=Hf hk
  rcases ahP k i with h | h | h
  ·have:=h3 k x k1 h;rw[k2,q8] at this;cases this
  ·exact h.symm
  ·have hy:l[i]? =some (l[i]'(by have:=(agD.1 k1).1;omega)):=bq _
   have:=hs i k _ x h hy k1
   dsimp only at this
   rw[k2,h4 i _ hy (ahF _)] at this;cases this
theorem SX (l:List aV) (t:Bys) (hl:l.length<1000000000) (hs:Asc (·.1) l):
 ∃ i:Nat,Cw l t=some ((i:Int),(gW (·.1) t l).isSome,())∧∀ k,gW (·.1) t l=some k→i=k:=by
 obtain⟨i,h1,h2⟩:=Wb l t hl hs
 exact⟨i,by unfold Cw;rw[h1,ah4],h2⟩
theorem GR (v:ai) (t:Bys) (hl:v.2.2.2.2.2.2.1.length<1000000000) (hs:Asc (·.1) v.2.2.2.2.2.2.1):iN v t=some ((gW (·.1) t v.2.2.2.2.2.2.1).isSome,()):=by
 obtain⟨i,h1,h2⟩:=SX v.2.2.2.2.2.2.1 t hl hs
 unfold iN
 rw[h1,ah4]
end Go.Md
namespace Go.Md
open Go.Dn
instance (d:ah):Decidable (b8 d):=by unfold b8;exact inferInstance
def inR (d:ah) (lo hi pl:Int):Bool:=decide (b8 d∧d.2≤pl∧lo*10 ^ d.2.toNat≤d.1∧d.1≤hi*10 ^ d.2.toNat)
theorem Wx {d:ah} (h0:0≤d.2) (h1:d.2≤9) (k:Int):k*10 ^ 9=k*10 ^ d.2.toNat*10 ^ (9 - d.2).toNat:=by
 rw[afO, ← afY,show d.2.toNat+(9 - d.2).toNat=9 by omega]
theorem YK {d:ah} (h0:0≤d.2) (h1:d.2≤9) (k:Int):k*10 ^ 9≤bX d↔k*10 ^ d.2.toNat≤d.1:=by
 unfold bX
 rw[Wx h0 h1]
 exact Int.mul_le_mul_right (si _)
theorem Ti {d:ah} (h0:0≤d.2) (h1:d.2≤9) (k:Int):bX d≤k*10 ^ 9↔d.1≤k*10 ^ d.2.toNat:=by
 unfold bX
 rw[Wx h0 h1]
 exact Int.mul_le_mul_right (si _)
theorem vX (d:ah) (lo hi pl:Int) (hlo:lo.natAbs≤1000000000000000) (hhi:hi.natAbs≤1000000000000000):kO d lo hi pl=some (inR d lo hi pl,()):=by
 rw[Yt d lo hi pl hlo hhi]
 unfold inR
 congr 2
 rw[aij]
 constructor
 ·rintro⟨h1,h2,h3,h4⟩
  exact⟨h1,h2,(YK h1.2.1 h1.2.2 lo).1 h3,(Ti h1.2.1 h1.2.2 hi).1 h4⟩
 ·rintro⟨h1,h2,h3,h4⟩
  exact⟨h1,h2,(YK h1.2.1 h1.2.2 lo).2 h3,(Ti h1.2.1 h1.2.2 hi).2 h4⟩
theorem ig (d:ah):cD d=some (if b8 d then 0 else 1,()):=by
 rw[HM]
 congr 2
 by_cases h:b8 d
 ·rw[aiv h,aiv (by unfold b8 at h;omega)]
 ·rw[aiu h,aiu (by unfold b8 at h;omega)]
theorem uG (d:ah):iG d=some (if b8 d then 0 else 1,()):=by
 rw[Dw]
 congr 2
 by_cases h:b8 d
 ·rw[aiv h,aiv (by unfold b8 at h;omega)]
 ·rw[aiu h,aiu (by unfold b8 at h;omega)]
theorem sB {d:ah} (h:b8 d) (most:Int) (hm0:0≤most) (hm1:most≤1000000000):eH d most=some (inR d (-most) most 9,()):=by
 rw[QW d most h.2.1 h.2.2 hm0 hm1]
 unfold inR
 congr 2
 rw[aij,Int.neg_mul]
 constructor
 ·rintro⟨h1,h2⟩;exact⟨h,h.2.2,h1,h2⟩
 ·rintro⟨_,_,h1,h2⟩;exact⟨h1,h2⟩
def WD (pl:Int) (rates:List aV) (line:Bool) (x:bI):Int:=
 if b8 x.2.1 then
  (if x.2.1.1=0 then 13
  else if (if x.1=true then inR x.2.1 (-100) 100 9 else inR x.2.1 (-1000000000) 1000000000 pl)=true then
   (if x.2.2=[] then 0 else if line=true then 3 else if (gW (·.1) x.2.2 rates).isSome=true then 0 else 5)
  else 1)
 else 1
def lq (pl:Int) (rates:List aV) (line:Bool) (l:List bI):Int:=if 20<l.length then 2 else iH (fun _ x=>WD pl rates line x) 0 l
theorem aay {γ:Type} (s:Int) (u:γ):az (β:=Int×Unit) (γ:=γ) (if s=0 then some (Sum.inr u) else some (Sum.inl (s,()))) (fun _=>some (0,()))=some (s,()):=by
 by_cases h:s=0
 ·rw[aiv h,aU,h]
 ·rw[aiu h,Ag]
theorem abl {d:ah} {lo hi pl:Int} (h:b8 d):inR d lo hi pl=(inR d lo hi 9&&decide (d.2≤pl)):=by
 unfold inR
 rw[← afu,aij]
 constructor
 ·rintro⟨h1,h2,h3⟩;exact⟨⟨h1,h.2.2,h3⟩,h2⟩
 ·rintro⟨⟨h1,_,h3⟩,h2⟩;exact⟨h1,h2,h3⟩
theorem w8 {X α:Type} {γ:Type} {f:X→(X→Option ((Int×Unit) ⊕ γ))→Option ((Int×Unit) ⊕ γ)} {x0:X} (mk:Nat→X) (l:List α) (g:Nat→α→Int) (u:γ) (h0:x0=mk 0)
 (hstep:∀ i y again,l[i]? =some y→f (mk i) again=if g i y=0 then again (mk (i+1)) else some (Sum.inl (g i y,()))) (hend:∀ again,f (mk l.length) again=some (Sum.inr u)) (n:Nat) (hn:l.length<n):
 iter n x0 f=if iH g 0 l=0 then some (Sum.inr u) else some (Sum.inl (iH g 0 l,())):=by
 rw[h0];exact Ux mk l g u hstep hend l 0 n rfl (ah2 _) hn
theorem BK (v:ai) (l:List bI) (line:Bool) (hl:v.2.2.2.2.2.2.1.length<1000000000) (hs:Asc (·.1) v.2.2.2.2.2.2.1):iZ v l line=some (lq v.2.2.2.1 v.2.2.2.2.2.2.1 line l,()):=by
 unfold iZ lq
 by_cases hb:20<l.length
 ·rw[aK (by omega),aiv hb]
 ·rw[aN (by omega),aiu hb]
  obtain⟨a,b,c,d,e,f,g,h,k⟩:=v
  dsimp only at*
  have hR:∀ t,iN (a,b,c,d,e,f,g,h,k) t=some ((gW (·.1) t g).isSome,()):=fun t=>GR _ t hl hs
  rw[w8 (f:=oe) (fun i=>((line,l,(l.length:Int),(i:Int),a,b,c,d,e,f,g,h,k,()):og)) l (fun _ x=>WD d g line x) () ?_ ?_ ?_ _ ?_]
  ·exact aay _ _
  ·rfl
  ·intro i y again hy
   have hi:=(agD.1 hy).1
   unfold oe
   dsimp only
   rw[aK (by omega),bH,hy,ah4,ig,ah4]
   have hw:w64 ((i:Int)+1)=(i:Int)+1:=av (by omega) (by omega)
   unfold WD
   by_cases hd:b8 y.2.1
   ·rw[aiv hd,zne,aih,aiv hd]
    by_cases h0:y.2.1.1=0
    ·rw[show (y.2.1.1==0)=true by simpa using h0,aii,aiv h0];rfl
    ·rw[show (y.2.1.1==0)=false by simpa using h0,aih,aiu h0]
     rw[sB hd 100 (by omega) (by omega),sB hd 1000000000 (by omega) (by omega),abl (pl:=d) hd]
     have hgt:decide (y.2.1.2>d)= !decide (y.2.1.2≤d):=by
      by_cases hq:y.2.1.2≤d
      ·simp[hq]
      ·simp[hq];omega
     have hnil:∀ (s:Bys),(s==[])=decide (s=[]):=fun s=>by cases s<;>rfl
     simp only[hR,ah4,hgt,hnil]
     generalize inR y.2.1 (-100) 100 9=b1
     generalize inR y.2.1 (-1000000000) 1000000000 9=b2
     generalize decide (y.2.1.2≤d)=b3
     generalize y.1=p
     by_cases hn:y.2.2=[]
     ·cases p<;>cases b1<;>cases b2<;>cases b3<;>cases line<;>simp[az,hw,hnil,hn,hR]
     ·cases h4:(gW (fun x:aV=>x.1) y.2.2 g).isSome<;>cases p<;>cases b1<;>cases b2<;>cases b3<;>cases line<;>simp[az,hw,hnil,hn,hR,h4]
   ·rw[aiu hd,aiu hd];rfl
  ·intro again
   unfold oe
   dsimp only
   rw[aN (by omega)]
  ·omega
theorem Du (v:ai) (l:List bI) (line:Bool) (hl:v.2.2.2.2.2.2.1.length<1000000000) (hp:0≤v.2.2.2.1∧v.2.2.2.1≤9):jP v l line=some (lq v.2.2.2.1 v.2.2.2.2.2.2.1 line l,()):=by
 unfold jP lq
 by_cases hb:20<l.length
 ·rw[aK (by omega),aiv hb]
 ·rw[aN (by omega),aiu hb]
  obtain⟨a,b,c,d,e,f,g,h,k⟩:=v
  dsimp only at*
  have hR:∀ t,gm (a,b,c,d,e,f,g,h,k) t=some (ixI (gW (·.1) t g),()):=fun t=>Lj _ t hl
  rw[w8 (f:=pX) (fun i=>((line,l,(l.length:Int),(i:Int),a,b,c,d,e,f,g,h,k,()):pY)) l (fun _ x=>WD d g line x) () ?_ ?_ ?_ _ ?_]
  ·exact aay _ _
  ·rfl
  ·intro i y again hy
   have hi:=(agD.1 hy).1
   unfold pX
   dsimp only
   rw[aK (by omega),bH,hy,ah4,uG,ah4,av (n:=(i:Int)+1) (by omega) (by omega)]
   unfold WD
   by_cases hd:b8 y.2.1
   ·rw[aiv hd,zne,aih,aiv hd]
    by_cases h0:y.2.1.1=0
    ·rw[show (y.2.1.1==0)=true by simpa using h0,aii,aiv h0];rfl
    ·rw[show (y.2.1.1==0)=false by simpa using h0,aih,aiu h0]
     rw[vX y.2.1 (-100) 100 9 (by decide) (by decide),vX y.2.1 (-1000000000) 1000000000 d (by decide) (by decide)]
     have hnil:∀ (s:Bys),(s==[])=decide (s=[]):=fun s=>by cases s<;>rfl
     simp only[hR,YV,ah4,hnil]
     generalize inR y.2.1 (-100) 100 9=b1
     generalize inR y.2.1 (-1000000000) 1000000000 d=b2
     generalize y.1=p
     generalize (gW (fun x:aV=>x.1) y.2.2 g).isSome=b4
     by_cases hn:y.2.2=[]
     ·simp only[hn,aip,aiw]
      cases p<;>cases b1<;>cases b2<;>cases line<;>cases b4<;>simp
     ·simp only[hn,aio,ait]
      cases p<;>cases b1<;>cases b2<;>cases line<;>cases b4<;>simp
   ·rw[aiu hd,aiu hd];rfl
  ·intro again
   unfold pX
   dsimp only
   rw[aN (by omega)]
  ·omega
end Go.Md
namespace Go.Md
open Go.Dn
theorem E3 {α:Type} (l:List α):((l.length:Int)==0)=decide (l.length=0):=by
 cases l with
 | nil=>rfl
 | cons a r=>rw[show decide ((a::r).length=0)=false by simp,aid];simp only[agO];omega
def A5 (l:List aV) (i:Nat) (y:aV):Bool:=match i with
 | 0=>false
 | i+1=>match l[i]? with
  | some p=>Op.bytesLess y.1 p.1||y.1==p.1
  | none=>false
def KP (l:List aV) (i:Nat) (r:aV):Int:=if bV r.1=false then 5 else if A5 l i r=true then 8 else if inR r.2 0 100 9=true then 0 else 1
def tX (l:List aV):Int:=if l.length=0 then 9 else if 20<l.length then 2 else iH (KP l) 0 l
theorem XJ {l:List aV} (h:∀ i y,l[i]? =some y→A5 l i y=false):Asc (·.1) l:=by
 have step:∀ i x y,l[i]? =some x→l[i+1]? =some y→Op.bytesLess x.1 y.1=true:=fun i x y hx hy=>by
  have:=h (i+1) y hy
  simp only[A5,hx,afF,aid] at this
  rcases aaN x.1 y.1 with h1 | h1 | h1
  ·exact h1
  ·exact absurd h1.symm this.2
  ·rw[this.1] at h1;cases h1
 intro i j x y hij hx hy
 induction j generalizing y with
 | zero=>omega
 | succ j ih=>
  rcases ahN.1 hij with h1 | h1
  ·have hj:j<l.length:=by have:=(agD.1 hy).1;omega
   have hz:l[j]? =some l[j]:=bq hj
   exact Cy (ih _ h1 hz) (step j _ y hz hy)
  ·subst h1;exact step i x y hx hy
theorem Pj {l:List aV} (h:tX l=0):0<l.length∧l.length≤20∧Asc (·.1) l∧∀ r∈l,inR r.2 0 100 9=true:=by
 unfold tX at h
 split at h
 ·omega
 ·split at h
  ·omega
  ·have hz:=KU h
   refine⟨by omega,by omega,XJ fun i y hy=> ?_,fun r hr=> ?_⟩
   ·have:=hz i y hy
    rw[ah1] at this
    unfold KP at this
    split at this
    ·omega
    ·split at this
     ·omega
     ·rename_i h1;simpa using h1
   ·obtain⟨i,hi⟩:=ag8.1 hr
    have:=hz i r hi
    rw[ah1] at this
    unfold KP at this
    split at this
    ·omega
    ·split at this
     ·omega
     ·split at this
      ·assumption
      ·omega
theorem ZY {d:ah} (h:b8 d) (hi:Int):inR d 0 hi 9=(!decide (d.1<0)&&inR d (-hi) hi 9):=by
 have hp:=si d.2.toNat
 unfold inR
 rw[← decide_not, ← afu,aij]
 constructor
 ·rintro⟨h1,h2,h3,h4⟩
  rw[af5] at h3
  refine⟨by omega,h1,h2, ?_,h4⟩
  rw[Int.neg_mul]
  have:0≤hi*10 ^ d.2.toNat:=by omega
  omega
 ·rintro⟨h0,h1,h2,h3,h4⟩
  exact⟨h1,h2,by rw[af5];omega,h4⟩
theorem Xj {l:List aV} {i:Nat} (hi:i+1<l.length+1) (hl:l.length<1000000000):idx l (w64 (((i+1:Nat):Int) - 1))=l[i]? :=by
 rw[av (by omega) (by omega),show ((i+1:Nat):Int) - 1=((i:Nat):Int) by omega,bH]
theorem L5 (l:List aV) (hl:l.length<1000000000):mg l=some (tX l,()):=by
 unfold mg tX
 by_cases h0:l.length=0
 ·rw[E3,aim h0,aii,aiv h0]
 ·rw[E3,aik h0,aih,aiu h0]
  by_cases hb:20<l.length
  ·rw[aK (by omega),aiv hb]
  ·rw[aN (by omega),aiu hb]
   rw[w8 (f:=pF) (fun i=>((l,l,(l.length:Int),(i:Int),()):pG)) l (KP l) () ?_ ?_ ?_ _ ?_]
   ·exact aay _ _
   ·rfl
   ·intro i y again hy
    have hi:=(agD.1 hy).1
    unfold pF
    dsimp only
    rw[aK (by omega),bH,hy,ah4,oM,ah4,av (n:=(i:Int)+1) (by omega) (by omega)]
    unfold KP
    cases hn:bV y.1 with
    | false=>simp
    | true=>
     have tail:(Option.bind (cD y.2) fun r5=>bif r5.1 != 0 then some (Sum.inl (r5.1,())) else bif decide (y.2.1<0) then some (Sum.inl (1,())) else Option.bind (eH y.2 100) fun r6=>bif !r6.1 then some (Sum.inl (1,())) else again (l,l,(l.length:Int),(i:Int)+1,()))=if (if inR y.2 0 100 9=true then (0:Int) else 1)=0 then again (l,l,(l.length:Int),((i+1:Nat):Int),()) else some (Sum.inl (1,())):=by
      rw[ig,ah4]
      by_cases hd:b8 y.2
      ·rw[ZY hd 100,sB hd 100 (by omega) (by omega)]
       generalize inR y.2 (-100) 100 9=b
       by_cases hneg:y.2.1<0
       ·simp[hd,hneg]
       ·cases b<;>simp[hd,hneg]
      ·have:inR y.2 0 100 9=false:=by unfold inR;simp[hd]
       simp[hd,this]
     simp only[afE,aih,afI,ait]
     cases i with
     | zero=>
      rw[aN (by omega),tail]
      simp only[A5,afx,ait]
      split<;>simp_all
     | succ i=>
      have hp:l[i]? =some (l[i]'(by omega)):=bq (by omega)
      rw[aK (by omega),Xj (by omega) hl,hp,ah4]
      have ep:A5 l (i+1) y=(Op.bytesLess y.1 (l[i]'(by omega)).1||y.1==(l[i]'(by omega)).1):=by simp only[A5,hp]
      rw[ep]
      cases (Op.bytesLess y.1 (l[i]'(by omega)).1||y.1==(l[i]'(by omega)).1) with
      | true=>simp
      | false=>
       simp only[aih]
       rw[tail]
       simp only[afx,ait]
       split<;>simp_all
   ·intro again
    unfold pF
    dsimp only
    rw[aN (by omega)]
   ·omega
def Nu (l:List aD) (i:Nat) (y:aD):Bool:=match i with
 | 0=>false
 | i+1=>match l[i]? with
  | some p=>decide (y.1≤p.1)
  | none=>false
def xb (pl:Int) (rates:List aV) (lines:List aD) (i:Nat) (x:aD):Int:=
 if x.1<1∨99999<x.1 then 1
 else if Nu lines i x=true then 8
 else if x.2.1<1∨99999<x.2.1 then 1
 else if bV x.2.2.1=false then 5
 else if inR x.2.2.2.1 (-1000000000) 1000000000 3=false then 1
 else if x.2.2.2.1.1=0 then 13
 else if bV x.2.2.2.2.1=false then 5
 else if inR x.2.2.2.2.2.1 0 1000000000 4=false then 1
 else if x.2.2.2.2.2.2.1<1∨100000<x.2.2.2.2.2.2.1 then 1
 else if lq pl rates true x.2.2.2.2.2.2.2.1≠0 then lq pl rates true x.2.2.2.2.2.2.2.1
 else if (gW (·.1) x.2.2.2.2.2.2.2.2 rates).isSome=true then 0 else 5
theorem B9 (n:Int) (h0:0≤n) (h1:n≤18):CC n=some (10 ^ n.toNat,()):=K9 n h0 h1
theorem uF (d:ah):jd d=some (if inR d 0 1000000000 4=true then 0 else 1,()):=by
 unfold jd rB
 rw[ig,ah4]
 by_cases hd:b8 d
 ·have hp:=si d.2.toNat
  have hp2:(10:Int) ^ d.2.toNat≤1000000000:=by
   have:=ahZ (n:=10) (by omega) (show d.2.toNat≤9 by have:=hd.2.2;omega)
   have h2:=afX.2 this
   simpa using h2
  rw[B9 d.2 hd.2.1 (by have:=hd.2.2;omega)]
  dsimp only
  rw[aiv hd,zne,aih]
  have e:inR d 0 1000000000 4=(decide (d.2≤4)&&(decide (d.1≥0)&&decide (d.1≤1000000000*10 ^ d.2.toNat))):=by
   unfold inR
   rw[← afu, ← afu,aij,af5]
   constructor
   ·rintro⟨_,h2,h3,h4⟩;exact⟨h2,h3,h4⟩
   ·rintro⟨h2,h3,h4⟩;exact⟨hd,h2,h3,h4⟩
  rw[e,ah4,av (n:=1000000000*10 ^ d.2.toNat) (by omega) (by omega)]
  cases decide (d.2≤4)<;>cases decide (d.1≥0)<;>cases decide (d.1≤1000000000*10 ^ d.2.toNat)<;>rfl
 ·have:inR d 0 1000000000 4=false:=by unfold inR;simp[hd]
  simp[hd,this]
end Go.Md
namespace Go.Md
open Go.Dn
theorem Sd {l:List aD} {i:Nat} (hi:i<l.length) (hl:l.length<1000000000):idx l (w64 (((i+1:Nat):Int) - 1))=l[i]? :=by
 rw[av (by omega) (by omega),show ((i+1:Nat):Int) - 1=((i:Nat):Int) by omega,bH]
theorem aeP (d:ah):(if b8 d then (decide (d.2>3)|| !inR d (-1000000000) 1000000000 9) else true)= !inR d (-1000000000) 1000000000 3:=by
 by_cases h:b8 d
 ·rw[aiv h,abl (pl:=3) h]
  by_cases h3:d.2≤3
  ·have:¬ d.2>3:=by omega
   simp[h3,this]
  ·have:d.2>3:=by omega
   simp[h3,this]
 ·have:inR d (-1000000000) 1000000000 3=false:=by unfold inR;simp[h]
  simp[h,this]
theorem Oq (v:ai) (i:Nat) (y:aD) (hl:v.2.2.2.2.2.2.1.length<1000000000) (hs:Asc (·.1) v.2.2.2.2.2.2.1) (hll:v.2.2.2.2.2.2.2.1.length<1000000000) (hy:v.2.2.2.2.2.2.2.1[i]? =some y):
 qZ v (i:Int)=some (xb v.2.2.2.1 v.2.2.2.2.2.2.1 v.2.2.2.2.2.2.2.1 i y,()):=by
 unfold qZ xb
 have hR:=fun t=>GR v t hl hs
 have hE:=fun l=>BK v l true hl hs
 generalize v.2.2.2.2.2.2.1=rates at*
 generalize v.2.2.2.2.2.2.2.1=lines at*
 generalize v.2.2.2.1=pl at*
 have hi:=(agD.1 hy).1
 rw[bH,hy,ah4]
 simp only[eE,oM,uF,hR,hE,ah4,ig]
 by_cases c1:y.1<1∨99999<y.1
 ·simp only[c1,aip,aii,aiw]
 rw[aik c1,aih,aiu c1]
 have tail:(bif decide (y.2.1<1∨99999<y.2.1) then some ((1:Int),()) else bif !bV y.2.2.1 then some (5,()) else bif (if b8 y.2.2.2.1 then (0:Int) else 1) != 0 then some (if b8 y.2.2.2.1 then (0:Int) else 1,()) else bif decide (y.2.2.2.1.2>3) then some (1,()) else
  Option.bind (eH y.2.2.2.1 1000000000) fun r7=>bif !r7.1 then some (1,()) else bif y.2.2.2.1.1==0 then some (13,()) else bif !bV y.2.2.2.2.1 then some (5,()) else bif (if inR y.2.2.2.2.2.1 0 1000000000 4=true then (0:Int) else 1) != 0 then some (if inR y.2.2.2.2.2.1 0 1000000000 4=true then (0:Int) else 1,()) else
  bif decide (y.2.2.2.2.2.2.1<1∨100000<y.2.2.2.2.2.2.1) then some (1,()) else bif lq pl rates true y.2.2.2.2.2.2.2.1 != 0 then some (lq pl rates true y.2.2.2.2.2.2.2.1,()) else bif !(gW (fun x:aV=>x.1) y.2.2.2.2.2.2.2.2 rates).isSome then some (5,()) else some (0,()))=
  some (if y.2.1<1∨99999<y.2.1 then 1 else if bV y.2.2.1=false then 5 else if inR y.2.2.2.1 (-1000000000) 1000000000 3=false then 1 else if y.2.2.2.1.1=0 then 13 else if bV y.2.2.2.2.1=false then 5 else if inR y.2.2.2.2.2.1 0 1000000000 4=false then 1
   else if y.2.2.2.2.2.2.1<1∨100000<y.2.2.2.2.2.2.1 then 1 else if lq pl rates true y.2.2.2.2.2.2.2.1≠0 then lq pl rates true y.2.2.2.2.2.2.2.1 else if (gW (fun x:aV=>x.1) y.2.2.2.2.2.2.2.2 rates).isSome=true then 0 else 5,()):=by
  by_cases c2:y.2.1<1∨99999<y.2.1
  ·simp only[c2,aip,aii,aiw]
  rw[aik c2,aih,aiu c2]
  cases bV y.2.2.1 with
  | false=>rfl
  | true=>
  simp only[afE,aih,afI,ait]
  have hq:=aeP y.2.2.2.1
  by_cases hd:b8 y.2.2.2.1
  ·rw[aiv hd] at hq
   rw[sB hd 1000000000 (by omega) (by omega)]
   rw[aiv hd,zne,aih,ah4]
   dsimp only
   have hq':inR y.2.2.2.1 (-1000000000) 1000000000 3= !(decide (y.2.2.2.1.2>3)|| !inR y.2.2.2.1 (-1000000000) 1000000000 9):=by rw[hq,Bool.not_not]
   rw[hq']
   cases decide (y.2.2.2.1.2>3) with
   | true=>rfl
   | false=>
    cases inR y.2.2.2.1 (-1000000000) 1000000000 9 with
    | false=>rfl
    | true=>
     simp only[afE,Bool.or_false,afD,aih,afI,ait]
     by_cases c3:y.2.2.2.1.1=0
     ·rw[show (y.2.2.2.1.1==0)=true by simpa using c3,aii,aiv c3]
     ·rw[show (y.2.2.2.1.1==0)=false by simpa using c3,aih,aiu c3]
      cases bV y.2.2.2.2.1 with
      | false=>rfl
      | true=>
       cases inR y.2.2.2.2.2.1 0 1000000000 4 with
       | false=>rfl
       | true=>
        simp only[afE,aih,afI,ait,aiw]
        rw[zne,aih]
        by_cases c4:y.2.2.2.2.2.2.1<1∨100000<y.2.2.2.2.2.2.1
        ·simp only[c4,aip,aii,aiw]
        ·rw[aik c4,aih,aiu c4]
         by_cases c5:lq pl rates true y.2.2.2.2.2.2.2.1=0
         ·rw[c5,zne,aih,aiu (by simp)]
          cases (gW (fun x:aV=>x.1) y.2.2.2.2.2.2.2.2 rates).isSome<;>rfl
         ·rw[show (lq pl rates true y.2.2.2.2.2.2.2.1 != 0)=true by simpa using c5,aii,aiv c5]
  ·rw[aiu hd] at hq
   have:inR y.2.2.2.1 (-1000000000) 1000000000 3=false:=by simpa using hq.symm
   rw[this,aiu hd]
   rfl
 cases i with
 | zero=>
  rw[aN (by omega),tail]
  rfl
 | succ i=>
  have hp:lines[i]? =some (lines[i]'(by omega)):=bq (by omega)
  rw[aK (by omega),Sd (by omega) hll,hp,ah4]
  have ep:Nu lines (i+1) y=decide (y.1≤(lines[i]'(by omega)).1):=by simp only[Nu,hp]
  rw[ep]
  cases decide (y.1≤(lines[i]'(by omega)).1) with
  | true=>rfl
  | false=>
   rw[aih,tail]
   rfl
theorem Qz (v:ai) (i:Nat) (y:aD) (hl:v.2.2.2.2.2.2.1.length<1000000000) (hp:0≤v.2.2.2.1∧v.2.2.2.1≤9) (hll:v.2.2.2.2.2.2.2.1.length<1000000000) (hy:v.2.2.2.2.2.2.2.1[i]? =some y):
 tK v (i:Int)=some (xb v.2.2.2.1 v.2.2.2.2.2.2.1 v.2.2.2.2.2.2.2.1 i y,()):=by
 unfold tK xb
 have hR:=fun t=>Lj v t hl
 have hE:=fun l=>Du v l true hl hp
 generalize v.2.2.2.2.2.2.1=rates at*
 generalize v.2.2.2.2.2.2.2.1=lines at*
 generalize v.2.2.2.1=pl at*
 have hi:=(agD.1 hy).1
 have hW:∀ n lo hi':Int,(!decide (lo≤n∧n≤hi'))=decide (n<lo∨hi'<n):=fun n lo hi'=>by
  rw[← decide_not,aij];omega
 rw[bH,hy,ah4]
 simp only[zi,rL,vX _ (-1000000000) 1000000000 3 (by decide) (by decide),vX _ 0 1000000000 4 (by decide) (by decide),hR,hE,YV,ah4,hW]
 by_cases c1:y.1<1∨99999<y.1
 ·simp only[c1,aip,aii,aiw]
 rw[aik c1,aih,aiu c1]
 have tail:(bif decide (y.2.1<1∨99999<y.2.1) then some ((1:Int),()) else bif !bV y.2.2.1 then some (5,()) else bif !inR y.2.2.2.1 (-1000000000) 1000000000 3 then some (1,()) else bif y.2.2.2.1.1==0 then some (13,()) else bif !bV y.2.2.2.2.1 then some (5,()) else bif !inR y.2.2.2.2.2.1 0 1000000000 4 then some (1,()) else
  bif decide (y.2.2.2.2.2.2.1<1∨100000<y.2.2.2.2.2.2.1) then some (1,()) else bif lq pl rates true y.2.2.2.2.2.2.2.1 != 0 then some (lq pl rates true y.2.2.2.2.2.2.2.1,()) else bif !(gW (fun x:aV=>x.1) y.2.2.2.2.2.2.2.2 rates).isSome then some (5,()) else some (0,()))=
  some (if y.2.1<1∨99999<y.2.1 then 1 else if bV y.2.2.1=false then 5 else if inR y.2.2.2.1 (-1000000000) 1000000000 3=false then 1 else if y.2.2.2.1.1=0 then 13 else if bV y.2.2.2.2.1=false then 5 else if inR y.2.2.2.2.2.1 0 1000000000 4=false then 1
   else if y.2.2.2.2.2.2.1<1∨100000<y.2.2.2.2.2.2.1 then 1 else if lq pl rates true y.2.2.2.2.2.2.2.1≠0 then lq pl rates true y.2.2.2.2.2.2.2.1 else if (gW (fun x:aV=>x.1) y.2.2.2.2.2.2.2.2 rates).isSome=true then 0 else 5,()):=by
  by_cases c2:y.2.1<1∨99999<y.2.1
  ·simp only[c2,aip,aii,aiw]
  rw[aik c2,aih,aiu c2]
  cases bV y.2.2.1 with
  | false=>rfl
  | true=>
   cases inR y.2.2.2.1 (-1000000000) 1000000000 3 with
   | false=>rfl
   | true=>
    simp only[afE,aih,afI,ait]
    by_cases c3:y.2.2.2.1.1=0
    ·rw[show (y.2.2.2.1.1==0)=true by simpa using c3,aii,aiv c3]
    ·rw[show (y.2.2.2.1.1==0)=false by simpa using c3,aih,aiu c3]
     cases bV y.2.2.2.2.1 with
     | false=>rfl
     | true=>
      cases inR y.2.2.2.2.2.1 0 1000000000 4 with
      | false=>rfl
      | true=>
       simp only[afE,aih,afI,ait]
       by_cases c4:y.2.2.2.2.2.2.1<1∨100000<y.2.2.2.2.2.2.1
       ·simp only[c4,aip,aii,aiw]
       ·rw[aik c4,aih,aiu c4]
        by_cases c5:lq pl rates true y.2.2.2.2.2.2.2.1=0
        ·rw[c5,zne,aih,aiu (by simp)]
         cases (gW (fun x:aV=>x.1) y.2.2.2.2.2.2.2.2 rates).isSome<;>rfl
        ·rw[show (lq pl rates true y.2.2.2.2.2.2.2.1 != 0)=true by simpa using c5,aii,aiv c5]
 cases i with
 | zero=>
  rw[aN (by omega),tail]
  rfl
 | succ i=>
  have hp:lines[i]? =some (lines[i]'(by omega)):=bq (by omega)
  rw[aK (by omega),Sd (by omega) hll,hp,ah4]
  have ep:Nu lines (i+1) y=decide (y.1≤(lines[i]'(by omega)).1):=by simp only[Nu,hp]
  rw[ep]
  cases decide (y.1≤(lines[i]'(by omega)).1) with
  | true=>rfl
  | false=>
   rw[aih,tail]
   rfl
def M8 (v:ai):Int:=iH (xb v.2.2.2.1 v.2.2.2.2.2.2.1 v.2.2.2.2.2.2.2.1) 0 v.2.2.2.2.2.2.2.1
def vJ (v:ai):Int:=
 if bV v.1=false then 5 else if bV v.2.1=false then 5
 else if ¬(1≤v.2.2.1∧v.2.2.1≤3652059) then 1
 else if v.2.2.2.1<0∨4<v.2.2.2.1 then 1
 else if v.2.2.2.2.1<1∨6<v.2.2.2.2.1 then 4
 else if tX v.2.2.2.2.2.2.1≠0 then tX v.2.2.2.2.2.2.1
 else if v.2.2.2.2.2.2.2.1.length=0 then 9
 else if 500<v.2.2.2.2.2.2.2.1.length then 2
 else if M8 v≠0 then M8 v
 else lq v.2.2.2.1 v.2.2.2.2.2.2.1 false v.2.2.2.2.2.2.2.2
theorem Xr {γ:Type} (s:Int) (u:γ) (k:γ→Option (Int×Unit)) (z:Int) (hk:k u=some (z,())):az (β:=Int×Unit) (γ:=γ) (if s=0 then some (Sum.inr u) else some (Sum.inl (s,()))) k=some (if s≠0 then s else z,()):=by
 by_cases h:s=0
 ·rw[aiv h,aU,hk,aiu (by simpa using h)]
 ·rw[aiu h,Ag,aiv h]
theorem AI (v:ai):mM v=some (vJ v,()):=by
 unfold mM vJ
 simp only[oM,rq,eE,ah4,Ff]
 cases bV v.1 with
 | false=>rfl
 | true=>
 cases bV v.2.1 with
 | false=>rfl
 | true=>
 simp only[afE,aih,afI,ait]
 by_cases n_c1:¬(1≤v.2.2.1∧v.2.2.1≤3652059)
 ·rw[aik n_c1,aiv n_c1];rfl
 have c1:=afK n_c1
 rw[aim c1,aiu (by simpa using c1),afE,aih]
 by_cases c2:v.2.2.2.1<0∨4<v.2.2.2.1
 ·rw[aim c2,aiv c2];rfl
 rw[aik c2,aiu c2,aih]
 by_cases c3:v.2.2.2.2.1<1∨6<v.2.2.2.2.1
 ·rw[aim c3,aiv c3];rfl
 rw[aik c3,aiu c3,afD,afE,aih]
 by_cases n_hrl:¬(v.2.2.2.2.2.2.1.length<1000000000)
 ·have e:tX v.2.2.2.2.2.2.1=2:=by unfold tX;rw[aiu (by omega),aiv (by omega)]
  have e2:mg v.2.2.2.2.2.2.1=some (2,()):=by
   unfold mg
   rw[E3,aik (by omega),aih,aK (by omega)]
  rw[e,e2];rfl
 have hrl:=afK n_hrl
 rw[L5 _ hrl,ah4]
 dsimp only
 by_cases n_c4:¬(tX v.2.2.2.2.2.2.1=0)
 ·rw[show (tX v.2.2.2.2.2.2.1 != 0)=true by simpa using n_c4,aii,aiv n_c4]
 have c4:=afK n_c4
 obtain⟨_,_,hs,_⟩:=Pj c4
 rw[c4,zne,aih,aiu (by simp),E3]
 by_cases c5:v.2.2.2.2.2.2.2.1.length=0
 ·rw[aim c5,aii,aiv c5]
 rw[aik c5,aih,aiu c5]
 by_cases c6:500<v.2.2.2.2.2.2.2.1.length
 ·rw[aK (by omega),aiv c6]
 rw[aN (by omega),aiu c6]
 unfold M8
 rw[w8 (f:=l9) (fun i=>(((v.2.2.2.2.2.2.2.1.length:Int)),(i:Int),v.1,v.2.1,v.2.2.1,v.2.2.2.1,v.2.2.2.2.1,v.2.2.2.2.2.1,v.2.2.2.2.2.2.1,v.2.2.2.2.2.2.2.1,v.2.2.2.2.2.2.2.2,()) ) v.2.2.2.2.2.2.2.1 (xb v.2.2.2.1 v.2.2.2.2.2.2.1 v.2.2.2.2.2.2.2.1) (v.1,v.2.1,v.2.2.1,v.2.2.2.1,v.2.2.2.2.1,v.2.2.2.2.2.1,v.2.2.2.2.2.2.1,v.2.2.2.2.2.2.2.1,v.2.2.2.2.2.2.2.2,()) ?_ ?_ ?_ _ ?_]
 ·refine Xr _ _ _ _ ?_
  show Option.bind (iZ v v.2.2.2.2.2.2.2.2 false) _=_
  rw[BK v _ false hrl hs,ah4]
 ·rfl
 ·intro i y again hy
  have hi:=(agD.1 hy).1
  unfold l9
  show (bif decide ((i:Int)<(v.2.2.2.2.2.2.2.1.length:Int)) then Option.bind (qZ v (i:Int)) _ else _)=_
  rw[aK (by omega),Oq v i y hrl hs (by omega) hy,ah4]
  dsimp only
  rw[av (n:=(i:Int)+1) (by omega) (by omega)]
  by_cases hz:xb v.2.2.2.1 v.2.2.2.2.2.2.1 v.2.2.2.2.2.2.2.1 i y=0
  ·rw[hz];rfl
  ·rw[show (xb v.2.2.2.1 v.2.2.2.2.2.2.1 v.2.2.2.2.2.2.2.1 i y != 0)=true by simpa using hz,aii,aiu hz]
 ·intro again
  unfold l9
  dsimp only
  rw[aN (by omega)]
 ·omega
end Go.Md
namespace Go.Md
open Go.Dn
theorem LN (v:ai):sP v=some (vJ v,()):=by
 unfold sP vJ
 have hW:∀ n lo hi':Int,(!decide (lo≤n∧n≤hi'))=decide (n<lo∨hi'<n):=fun n lo hi'=>by
  rw[← decide_not,aij];omega
 simp only[rL,yE,zi,ah4]
 cases bV v.1 with
 | false=>rfl
 | true=>
 cases bV v.2.1 with
 | false=>rfl
 | true=>
 simp only[afE,aih,afI,ait]
 by_cases n_c1:¬(1≤v.2.2.1∧v.2.2.1≤3652059)
 ·rw[aik n_c1,aiv n_c1];rfl
 have c1:=afK n_c1
 rw[aim c1,aiu (by simpa using c1),afE,aih,hW,hW]
 by_cases c2:v.2.2.2.1<0∨4<v.2.2.2.1
 ·rw[aim c2,aiv c2];rfl
 rw[aik c2,aiu c2,aih]
 by_cases c3:v.2.2.2.2.1<1∨6<v.2.2.2.2.1
 ·rw[aim c3,aiv c3];rfl
 rw[aik c3,aiu c3,aih,E3]
 unfold tX
 by_cases c4:v.2.2.2.2.2.2.1.length=0
 ·rw[aim c4,aii,aiv c4];rfl
 rw[aik c4,aih,aiu c4]
 by_cases c5:20<v.2.2.2.2.2.2.1.length
 ·rw[aK (by omega),aiv c5];rfl
 rw[aN (by omega),aiu c5]
 rw[w8 (f:=nu) (fun i=>(v.2.2.2.2.2.2.1,((v.2.2.2.2.2.2.1.length:Int)),(i:Int),v.1,v.2.1,v.2.2.1,v.2.2.2.1,v.2.2.2.2.1,v.2.2.2.2.2.1,v.2.2.2.2.2.2.1,v.2.2.2.2.2.2.2.1,v.2.2.2.2.2.2.2.2,()) ) v.2.2.2.2.2.2.1 (KP v.2.2.2.2.2.2.1) (v.1,v.2.1,v.2.2.1,v.2.2.2.1,v.2.2.2.2.1,v.2.2.2.2.2.1,v.2.2.2.2.2.2.1,v.2.2.2.2.2.2.2.1,v.2.2.2.2.2.2.2.2,()) ?_ ?_ ?_ _ ?_]
 ·refine Xr _ _ _ _ ?_
  dsimp only
  rw[E3]
  by_cases c6:v.2.2.2.2.2.2.2.1.length=0
  ·rw[aim c6,aii,aiv c6]
  rw[aik c6,aih,aiu c6]
  by_cases c7:500<v.2.2.2.2.2.2.2.1.length
  ·rw[aK (by omega),aiv c7]
  rw[aN (by omega),aiu c7]
  unfold M8
  rw[w8 (f:=nv) (fun i=>(((v.2.2.2.2.2.2.2.1.length:Int)),(i:Int),v.1,v.2.1,v.2.2.1,v.2.2.2.1,v.2.2.2.2.1,v.2.2.2.2.2.1,v.2.2.2.2.2.2.1,v.2.2.2.2.2.2.2.1,v.2.2.2.2.2.2.2.2,()) ) v.2.2.2.2.2.2.2.1 (xb v.2.2.2.1 v.2.2.2.2.2.2.1 v.2.2.2.2.2.2.2.1) (v.1,v.2.1,v.2.2.1,v.2.2.2.1,v.2.2.2.2.1,v.2.2.2.2.2.1,v.2.2.2.2.2.2.1,v.2.2.2.2.2.2.2.1,v.2.2.2.2.2.2.2.2,()) ?_ ?_ ?_ _ ?_]
  ·refine Xr _ _ _ _ ?_
   show Option.bind (jP v v.2.2.2.2.2.2.2.2 false) _=_
   rw[Du v _ false (by omega) (by omega),ah4]
  ·rfl
  ·intro i y again hy
   have hi:=(agD.1 hy).1
   unfold nv
   show (bif decide ((i:Int)<(v.2.2.2.2.2.2.2.1.length:Int)) then Option.bind (tK v (i:Int)) _ else _)=_
   rw[aK (by omega),Qz v i y (by omega) (by omega) (by omega) hy,ah4]
   dsimp only
   rw[av (n:=(i:Int)+1) (by omega) (by omega)]
   by_cases hz:xb v.2.2.2.1 v.2.2.2.2.2.2.1 v.2.2.2.2.2.2.2.1 i y=0
   ·rw[hz];rfl
   ·rw[show (xb v.2.2.2.1 v.2.2.2.2.2.2.1 v.2.2.2.2.2.2.2.1 i y != 0)=true by simpa using hz,aii,aiu hz]
  ·intro again
   unfold nv
   dsimp only
   rw[aN (by omega)]
  ·omega
 ·rfl
 ·intro i y again hy
  have hi:=(agD.1 hy).1
  unfold nu
  dsimp only
  rw[aK (by omega),bH,hy,ah4,rL,ah4,av (n:=(i:Int)+1) (by omega) (by omega),vX y.2 0 100 9 (by decide) (by decide)]
  unfold KP
  cases hn:bV y.1 with
  | false=>simp
  | true=>
   simp only[afE,aih,afI,ait,ah4]
   cases i with
   | zero=>
    rw[aN (by omega)]
    simp only[A5,afx,ait]
    cases inR y.2 0 100 9<;>simp
   | succ i=>
    have hp:v.2.2.2.2.2.2.1[i]? =some (v.2.2.2.2.2.2.1[i]'(by omega)):=bq (by omega)
    rw[aK (by omega),Xj (by omega) (by omega),hp,ah4]
    have ep:A5 v.2.2.2.2.2.2.1 (i+1) y=(Op.bytesLess y.1 (v.2.2.2.2.2.2.1[i]'(by omega)).1||y.1==(v.2.2.2.2.2.2.1[i]'(by omega)).1):=by simp only[A5,hp]
    rw[ep]
    cases (Op.bytesLess y.1 (v.2.2.2.2.2.2.1[i]'(by omega)).1||y.1==(v.2.2.2.2.2.2.1[i]'(by omega)).1) with
    | true=>simp
    | false=>cases inR y.2 0 100 9<;>simp
 ·intro again
  unfold nu
  dsimp only
  rw[aN (by omega)]
 ·omega
structure afb (pl:Int) (x:bI):Prop where
 dec:b8 x.2.1
 place:x.1=false→x.2.1.2≤pl
 nz:x.2.1.1≠0
structure V3 (pl:Int) (rates:List aV) (x:aD):Prop where
 q:b8 x.2.2.2.1
 qp:x.2.2.2.1.2≤3
 qn:x.2.2.2.1.1≠0
 p:b8 x.2.2.2.2.2.1
 pp:x.2.2.2.2.2.1.2≤4
 p0:0≤x.2.2.2.2.2.1.1
 per:1≤x.2.2.2.2.2.2.1∧x.2.2.2.2.2.2.1≤100000
 ext:lq pl rates true x.2.2.2.2.2.2.2.1=0
 rate:(gW (·.1) x.2.2.2.2.2.2.2.2 rates).isSome=true
theorem Z4 {pl:Int} {rates:List aV} {lines:List aD} {i:Nat} {x:aD} (h:xb pl rates lines i x=0):V3 pl rates x:=by
 unfold xb at h
 split at h
 ·omega
 split at h
 ·omega
 split at h
 ·omega
 split at h
 ·omega
 split at h
 ·omega
 rename_i h1
 split at h
 ·omega
 rename_i h2
 split at h
 ·omega
 split at h
 ·omega
 rename_i h3
 split at h
 ·omega
 rename_i h4
 split at h
 ·omega
 rename_i h5
 split at h
 ·rename_i h6
  have h1':inR x.2.2.2.1 (-1000000000) 1000000000 3=true:=by simpa using h1
  have h3':inR x.2.2.2.2.2.1 0 1000000000 4=true:=by simpa using h3
  unfold inR at h1' h3'
  rw[ain] at h1' h3'
  exact⟨h1'.1,h1'.2.1,h2,h3'.1,h3'.2.1,by have:=h3'.2.2.1;rw[af5] at this;exact this,by omega,by omega,h6⟩
 ·omega
structure aeJ (v:ai):Prop where
 pl:0≤v.2.2.2.1∧v.2.2.2.1≤4
 way:1≤v.2.2.2.2.1∧v.2.2.2.2.1≤6
 rn:0<v.2.2.2.2.2.2.1.length∧v.2.2.2.2.2.2.1.length≤20
 asc:Asc (·.1) v.2.2.2.2.2.2.1
 rates:∀ r∈v.2.2.2.2.2.2.1,inR r.2 0 100 9=true
 ln:0<v.2.2.2.2.2.2.2.1.length∧v.2.2.2.2.2.2.2.1.length≤500
 lines:∀ x∈v.2.2.2.2.2.2.2.1,V3 v.2.2.2.1 v.2.2.2.2.2.2.1 x
 ext:lq v.2.2.2.1 v.2.2.2.2.2.2.1 false v.2.2.2.2.2.2.2.2=0
theorem G9 {v:ai} (h:vJ v=0):aeJ v:=by
 unfold vJ at h
 split at h
 ·omega
 split at h
 ·omega
 split at h
 ·omega
 split at h
 ·omega
 split at h
 ·omega
 split at h
 ·omega
 rename_i h1
 split at h
 ·omega
 split at h
 ·omega
 split at h
 ·omega
 rename_i h2
 have hr:=Pj (show tX v.2.2.2.2.2.2.1=0 by omega)
 refine⟨by omega,by omega,⟨hr.1,hr.2.1⟩,hr.2.2.1,hr.2.2.2,by omega,fun x hx=> ?_,h⟩
 obtain⟨i,hi⟩:=ag8.1 hx
 have:=KU (show M8 v=0 by omega) i x hi
 exact Z4 this
end Go.Md
namespace Go.Md
open Go.Dn
theorem Ni:∀ (n:Nat) (l:List Nat),l.Nodup→(∀ x∈l,x<n)→l.length≤n
 | 0,l,_,h=>by
  cases l with
  | nil=>simp
  | cons a r=>exact absurd (h a (by simp)) (ahW _)
 | n+1,l,hd,h=>by
  by_cases hm:n∈l
  ·have h1:=Ni n (l.erase n) (hd.erase n) (fun x hx=>by
    have:=(hd.mem_erase_iff).1 hx
    have:=h x this.2
    omega)
   rw[List.length_erase_of_mem hm] at h1
   omega
  ·have:=Ni n l hd (fun x hx=>by
    have h2:=h x hx
    have:x≠n:=fun e=>hm (e ▸ hx)
    omega)
   omega
def itp (par:Nat→Option Nat):Nat→Nat→Option Nat
 | 0,i=>some i
 | j+1,i=>(par i).bind (itp par j)
def DL (par:Nat→Option Nat) (i k d:Nat):Prop:=itp par (d+1) k=some i∧∀ e,e<d→itp par (e+1) k≠some i
theorem DL.uniq {par:Nat→Option Nat} {i k d e:Nat} (h:DL par i k d) (h':DL par i k e):d=e:=by
 rcases ahP d e with h1 | h1 | h1
 ·exact absurd h.1 (h'.2 d h1)
 ·exact h1
 ·exact absurd h'.1 (h.2 e h1)
theorem DL.step {par:Nat→Option Nat} {i k d:Nat} (h:DL par i k d):∃ k',par k=some k'∧((k'=i∧d=0)∨(k'≠i∧∃ e,d=e+1∧DL par i k' e)):=by
 obtain⟨h1,h2⟩:=h
 simp only[itp] at h1
 cases hp:par k with
 | none=>rw[hp] at h1;cases h1
 | some k'=>
  rw[hp] at h1
  refine⟨k',rfl, ?_⟩
  cases d with
  | zero=>simp only[ah4,itp,Option.some.injEq] at h1;exact .inl ⟨h1,rfl⟩
  | succ e=>
   right
   refine⟨fun e1=> ?_,e,rfl,by simpa using h1,fun f hf hx=> ?_⟩
   ·refine h2 0 (by omega) ?_
    simp only[itp,hp,ah4,e1]
   ·refine h2 (f+1) (by omega) ?_
    rw[show f+1+1=(f+1)+1 from rfl]
    show (par k).bind (itp par (f+1))=some i
    rw[hp];exact hx
theorem DL.list {par:Nat→Option Nat} {i n:Nat} (hn:∀ k k',par k=some k'→k'<n):∀ {d k:Nat},k<n→DL par i k d→∃ l:List Nat,l.length=d+1∧l.Nodup∧(∀ x∈l,x<n)∧∀ x∈l,∃ e,e≤d∧DL par i x e
 | 0,k,hk,h=>⟨[k],rfl,by simp,by simpa using hk,fun x hx=>by simp at hx;subst hx;exact⟨0,ahF _,h⟩⟩
 | d+1,k,hk,h=>by
  obtain⟨k',h1,h2⟩:=h.step
  rcases h2 with ⟨_,h2⟩ | ⟨_,e,h2,h3⟩
  ·omega
  ·have:e=d:=by omega
   subst this
   obtain⟨l,l1,l2,l3,l4⟩:=DL.list hn (hn _ _ h1) h3
   refine⟨k::l,by simp[l1],List.nodup_cons.2 ⟨fun hm=> ?_,l2⟩,fun x hx=> ?_,fun x hx=> ?_⟩
   ·obtain⟨f,f1,f2⟩:=l4 k hm
    have:=f2.uniq h
    omega
   ·rcases ag4.1 hx with rfl | hx
    ·exact hk
    ·exact l3 x hx
   ·rcases ag4.1 hx with rfl | hx
    ·exact⟨e+1,ahF _,h⟩
    ·obtain⟨f,f1,f2⟩:=l4 x hx;exact⟨f,by omega,f2⟩
theorem DL.le {par:Nat→Option Nat} {i n d k:Nat} (hn:∀ k k',par k=some k'→k'<n) (hk:k<n) (h:DL par i k d):d+1≤n:=by
 obtain⟨l,l1,l2,l3,_⟩:=h.list hn hk
 have:=Ni n l l2 l3
 omega
end Go.Md
namespace Go.Md
open Go.Dn
def qOk (d:ah) (zero:Bool):Bool:=inR d 0 1000000000 3&&(!(d.1==0)||zero)
theorem R5 {d:ah} (hd:b8 d):rB d 3 1000000000=some (inR d 0 1000000000 3,()):=by
 unfold rB
 have hp:=si d.2.toNat
 have hp2:(10:Int) ^ d.2.toNat≤1000000000:=by
  have:=ahZ (n:=10) (by omega) (show d.2.toNat≤9 by have:=hd.2.2;omega)
  have h2:=afX.2 this
  simpa using h2
 rw[B9 d.2 hd.2.1 (by have:=hd.2.2;omega)]
 have e:inR d 0 1000000000 3=(decide (d.2≤3)&&(decide (d.1≥0)&&decide (d.1≤1000000000*10 ^ d.2.toNat))):=by
  unfold inR
  rw[← afu, ← afu,aij,af5]
  constructor
  ·rintro⟨_,h2,h3,h4⟩;exact⟨h2,h3,h4⟩
  ·rintro⟨h2,h3,h4⟩;exact⟨hd,h2,h3,h4⟩
 rw[e,ah4,av (n:=1000000000*10 ^ d.2.toNat) (by omega) (by omega)]
 cases decide (d.2≤3)<;>cases decide (d.1≥0)<;>cases decide (d.1≤1000000000*10 ^ d.2.toNat)<;>rfl
theorem yB (d:ah) (z:Bool):kF d z=some (if qOk d z=true then 0 else 1,()):=by
 unfold kF qOk
 rw[ig,ah4]
 by_cases hd:b8 d
 ·rw[R5 hd,aiv hd]
  dsimp only
  rw[zne,aih,ah4]
  cases inR d 0 1000000000 3<;>cases (d.1==0)<;>cases z<;>rfl
 ·have:inR d 0 1000000000 3=false:=by unfold inR;simp[hd]
  simp[hd,this]
end Go.Md
