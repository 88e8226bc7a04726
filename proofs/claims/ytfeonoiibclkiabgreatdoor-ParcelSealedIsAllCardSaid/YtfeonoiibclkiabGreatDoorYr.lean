/-
  Plain facts: products, powers, rounding; the order of strings; decimals. No condition.
-/
import Derived.Test.YtfeonoiibclkiabGreatDoorYq
import Derived.Test.YtfeonoiibclkiabGreatDoorYn
set_option linter.all false
namespace Go.Md
open Go.Dn
theorem Ln (a b:List Int):BJ a b=yf a b:=rfl
theorem yS (x y:Int) (hx:x.natAbs<4294967296 ^ 99) (hy:y.natAbs<4294967296 ^ 99):gN (W x) (W y)=some (W (x+y),()):=by
 have hlx:=oZ hx
 have hly:=oZ hy
 unfold gN W
 dsimp only
 by_cases hs:decide (x<0)=decide (y<0)
 ·rw[show (decide (x<0)==decide (y<0))=true by simp[hs],WE,Ln]
  obtain⟨s,h1,h2,h3,h4⟩:=F9 (bf x.natAbs) (bf y.natAbs) (c9 _) (c9 _) (by omega) (by omega)
  rw[h1,Wt]
  dsimp only
  rw[iu _ _ h2 (by omega),Wt,h3,cW,cW]
  simp only[decide_eq_decide] at hs
  show some (W _,())=some (W (x+y),())
  congr 3
  by_cases h:x<0
  ·simp only[h,decide_true,WO];omega
  ·simp only[h,decide_false,Uv,WL];omega
 ·rw[show (decide (x<0)==decide (y<0))=false by simp[hs],WD]
  obtain⟨c,h1,h2,h3⟩:=AN x.natAbs y.natAbs (by omega) (by omega)
  rw[h1,Wt]
  dsimp only
  simp only[decide_eq_decide] at hs
  have hlen:∀ a b:Nat,b≤a→(bf b).length≤(bf a).length:=fun a b h=>by
   rcases Wd (bf a).length (bf b).length with h' | h'
   ·have:=kK h';omega
   ·exact h'
  by_cases hc:c≥0
  ·rw[aZ hc,yE _ _ (c9 _) (c9 _) (by omega) (hlen _ _ (by omega)) (by rw[cW,cW];omega),Wt]
   dsimp only
   rw[iu _ _ (c9 _) (by have:=hlen x.natAbs (v32 (bf x.natAbs) - v32 (bf y.natAbs)).toNat (by rw[cW,cW];omega);omega),Wt]
   rw[cW,cW,cW]
   show some (W _,())=some (W (x+y),())
   congr 3
   by_cases h:x<0
   ·simp only[h,decide_true,WO];omega
   ·simp only[h,decide_false,Uv,WL];omega
  ·rw[aX hc,yE _ _ (c9 _) (c9 _) (by omega) (hlen _ _ (by omega)) (by rw[cW,cW];omega),Wt]
   dsimp only
   rw[iu _ _ (c9 _) (by have:=hlen y.natAbs (v32 (bf y.natAbs) - v32 (bf x.natAbs)).toNat (by rw[cW,cW];omega);omega),Wt]
   rw[cW,cW,cW]
   show some (W _,())=some (W (x+y),())
   congr 3
   by_cases h:y<0
   ·simp only[h,decide_true,WO];omega
   ·simp only[h,decide_false,Uv,WL];omega
theorem OG {x y z c:Int} (hx:0≤x∧x<4294967296) (hy:0≤y∧y<4294967296) (hz:0≤z∧z<4294967296) (hc:0≤c∧c<4294967296):0≤x*y∧x*y≤18446744065119617025∧c+(z+x*y)≤18446744073709551615:=by
 have h1:0≤x*y:=UK hx.1 hy.1
 have h2:x*y≤4294967295*4294967295:=Int.mul_le_mul (by omega) (by omega) (by omega) (by omega)
 omega
theorem Hh (i:Nat) (x:Int) (ga:List Int) (gn gi:Int) (b:List Int) (s1:Bool) (l1:List Int) (s2:Bool) (l2:List Int) (s3:Bool) (l3:List Int) (out:List Int) (hx:0≤x∧x<4294967296) (hb:Dg b) (hbl:b.length<10000) (hil:i<10000) (ho:i+b.length≤out.length) (hol:out.length<100000) (hd:Dg out) (n:Nat) (hn:b.length<n):
 ∃ o c,iter n (((i:Int),x,(0:Int),ga,gn,gi,b,(b.length:Int),(0:Int),s1,l1,s2,l2,s3,l3,out,()):jr) nk=some (Sum.inr ((i:Int),c,ga,gn,gi,s1,l1,s2,l2,s3,l3,o,()))∧
  Dg o∧o.length=out.length∧0≤c∧c<4294967296∧v32 o+4294967296 ^ (i+b.length)*c=v32 out+4294967296 ^ i*x*v32 b∧∀ j,i+b.length≤j→o[j]? =out[j]? :=by
 refine cn (Inv:=fun k X=>∃ o c,X=(((i:Int),x,c,ga,gn,gi,b,(b.length:Int),(k:Int),s1,l1,s2,l2,s3,l3,o,()):jr)∧Dg o∧o.length=out.length∧0≤c∧c<4294967296∧v32 o+4294967296 ^ (i+k)*c=v32 out+4294967296 ^ i*x*v32 (b.take k)∧∀ j,i+k≤j→o[j]? =out[j]?) b.length
  (fun r=>∃ o c,r=some (Sum.inr ((i:Int),c,ga,gn,gi,s1,l1,s2,l2,s3,l3,o,()))∧Dg o∧o.length=out.length∧0≤c∧c<4294967296∧v32 o+4294967296 ^ (i+b.length)*c=v32 out+4294967296 ^ i*x*v32 b∧∀ j,i+b.length≤j→o[j]? =out[j]?) ?_ ?_ n 0 _ ⟨out,0,rfl,hd,rfl,by omega,by omega,by simp[xq],fun _ _=>rfl⟩ (by omega) (by omega)
 ·rintro k _ again hk ⟨o,c,rfl,h1,h2,h3,h4,h5,h6⟩ ih
  unfold nk
  dsimp only
  have hy:b[k]? =some b[k]:=aK hk
  have hyd:=hb.get hy
  have hts:=gv hy
  have hz:o[i+k]? =some (o[i+k]'(by omega)):=aK (by omega)
  have hzd:=h1.get hz
  generalize b[k]=y at hy hyd hts
  generalize o[i+k]'(by omega)=z at hz hzd
  obtain⟨m1,m2,m3⟩:=OG hx hyd hzd ⟨h3,h4⟩
  have e1:w64 ((i:Int)+(k:Int))=((i+k:Nat):Int):=by rw[br (by omega) (by omega)];omega
  rw[aZ (by omega),bN,hy,Wt,e1,cM (by simp only[Us,WI];omega),UM,hz,Wt,cM (by simp only[Us,WI];omega),Wt,
   cO (n:=x) (by omega) (by omega),cO (n:=y) (by omega) (by omega),cO (n:=z) (by omega) (by omega),cO (n:=x*y) (by omega) (by omega),cO (n:=z+x*y) (by omega) (by omega),cO (n:=c+(z+x*y)) (by omega) (by omega),xB,Nh,br (n:=(k:Int)+1) (by omega) (by omega)]
  generalize ht:c+(z+x*y)=t at*
  refine ih _ ⟨_,_,rfl,h1.set (by omega),by rw[Vs];exact h2,by omega,by omega, ?_,fun j hj=> ?_⟩
  ·rw[Gx hz,hts]
   have e2:(4294967296:Int) ^ (i+(k+1))=4294967296 ^ i*4294967296 ^ k*4294967296:=by rw[← VY,UL,Int.pow_add]
   have e3:(4294967296:Int) ^ (i+k)=4294967296 ^ i*4294967296 ^ k:=Int.pow_add ..
   rw[e3] at h5
   rw[e2,e3]
   have e4:=Int.mul_ediv_add_emod t 4294967296
   generalize (4294967296:Int) ^ i=p at*
   generalize (4294967296:Int) ^ k=q at*
   generalize t / 4294967296=d at*
   generalize t % 4294967296=r at*
   grind
  ·rw[Vi (by omega)];exact h6 j (by omega)
 ·rintro _ again ⟨o,c,rfl,h1,h2,h3,h4,h5,h6⟩
  unfold nk
  dsimp only
  rw[aX (by omega)]
  rw[VV (V7 _)] at h5
  exact⟨o,c,rfl,h1,h2,h3,h4,h5,h6⟩
theorem Hi (a b:List Int) (ha:Dg a) (hb:Dg b) (hal:a.length<1000) (hbl:b.length<1000) (s1 s2 s3:Bool) (l3:List Int) (n:Nat) (hn:a.length<n):
 ∃ o,iter n ((a,(a.length:Int),(0:Int),s1,a,s2,b,s3,l3,List.replicate (a.length+b.length) 0,()):jq) nj=some (Sum.inr (s1,a,s2,b,s3,l3,o,()))∧Dg o∧o.length=a.length+b.length∧v32 o=v32 a*v32 b:=by
 refine cn (Inv:=fun i X=>∃ o,X=((a,(a.length:Int),(i:Int),s1,a,s2,b,s3,l3,o,()):jq)∧Dg o∧o.length=a.length+b.length∧v32 o=v32 (a.take i)*v32 b∧∀ j,i+b.length≤j→j<a.length+b.length→o[j]? =some 0) a.length
  (fun r=>∃ o,r=some (Sum.inr (s1,a,s2,b,s3,l3,o,()))∧Dg o∧o.length=a.length+b.length∧v32 o=v32 a*v32 b) ?_ ?_ n 0 _ ⟨_,rfl,fun d hd=>by rw[List.mem_replicate] at hd;omega,by simp,by rw[D2];simp[xq],fun j _ hj=>by rw[List.getElem?_replicate,WN hj]⟩ (by omega) (by omega)
 ·rintro i _ again hi ⟨o,rfl,h1,h2,h3,h4⟩ ih
  unfold nj
  dsimp only
  have hy:a[i]? =some a[i]:=aK hi
  have hyd:=ha.get hy
  have hts:=gv hy
  generalize a[i]=x at hy hyd hts
  rw[aZ (by omega),bN,hy,Wt]
  obtain⟨o',c,k1,k2,k3,k4,k5,k6,k7⟩:=Hh i x a (a.length:Int) (i:Int) b s1 a s2 b s3 l3 o hyd hb (by omega) (by omega) (by omega) (by omega) h1 (Int.natAbs (i:Int)+(Int.natAbs x+(Int.natAbs (0:Int)+(List.length a+(Int.natAbs (a.length:Int)+(Int.natAbs (i:Int)+(List.length b+(Int.natAbs ((List.length b:Int))+(Int.natAbs (0:Int)+(List.length a+(List.length b+(List.length l3+(List.length o+2))))))))))))) (by omega)
  rw[k1,bD]
  dsimp only
  have e1:w64 ((i:Int)+(b.length:Int))=((i+b.length:Nat):Int):=by rw[br (by omega) (by omega)];omega
  have hz:o'[i+b.length]? =some 0:=by rw[k7 _ (V7 _)];exact h4 _ (V7 _) (by omega)
  rw[e1,cM (by simp only[Us,WI];omega),UM,hz,Wt,xA (by omega) (by omega),br (n:=(i:Int)+1) (by omega) (by omega)]
  refine ih _ ⟨_,rfl,k2.set (by omega),by rw[Vs];omega, ?_,fun j hj hj2=> ?_⟩
  ·rw[Gx hz,hts]
   have e3:(4294967296:Int) ^ (i+b.length)=4294967296 ^ i*4294967296 ^ b.length:=Int.pow_add ..
   rw[e3] at k6 ⊢
   grind
  ·rw[Vi (by omega),k7 j (by omega)];exact h4 j (by omega) hj2
 ·rintro _ again ⟨o,rfl,h1,h2,h3,h4⟩
  unfold nj
  dsimp only
  rw[aX (by omega)]
  rw[VV (V7 _)] at h3
  exact⟨o,rfl,h1,h2,h3⟩
theorem ye (x y:Int) (hx:x.natAbs<4294967296 ^ 99) (hy:y.natAbs<4294967296 ^ 99):ni (W x) (W y)=some (W (x*y),()):=by
 have hlx:=oZ hx
 have hly:=oZ hy
 unfold ni W
 dsimp only
 have e1:w64 (((bf x.natAbs).length:Int)+((bf y.natAbs).length:Int))=(((bf x.natAbs).length+(bf y.natAbs).length:Nat):Int):=by rw[br (by omega) (by omega)];omega
 rw[e1,cM (by simp only[Us,WI];omega)]
 obtain⟨o,h1,h2,h3,h4⟩:=Hi (bf x.natAbs) (bf y.natAbs) (c9 _) (c9 _) (by omega) (by omega) (decide (x<0)) (decide (y<0)) false [] (List.length (bf x.natAbs)+(Int.natAbs ((List.length (bf x.natAbs):Int))+(Int.natAbs (0:Int)+(List.length (bf x.natAbs)+(List.length (bf y.natAbs)+(List.length ([]:List Int)+(List.length ((List.replicate (Int.toNat (((bf x.natAbs).length+(bf y.natAbs).length:Nat):Int)) 0):List Int)+2))))))) (by omega)
 rw[UM] at h1 ⊢
 rw[h1,bD]
 dsimp only
 rw[iu _ _ h2 (by omega),Wt,h4,cW,cW]
 show some (W _,())=some (W (x*y),())
 congr 3
 rw[← Int.natCast_mul, ← Int.natAbs_mul]
 by_cases h:x<0<;>by_cases h':y<0
 ·have:=Int.mul_pos_of_neg_of_neg h h'
  simp[h,h'];omega
 ·have:=UK (show 0≤ -x by omega) (show 0≤y by omega)
  rw[Int.neg_mul] at this
  simp[h,h'];omega
 ·have:=UK (show 0≤x by omega) (show 0≤ -y by omega)
  rw[Int.mul_neg] at this
  simp[h,h'];omega
 ·have:=UK (show 0≤x by omega) (show 0≤y by omega)
  simp[h,h'];omega
end Go.Md
namespace Go.Md
open Go.Dn
def Le (k:Nat) (z:Int):Prop:=z.natAbs≤10 ^ k
theorem Le.mul {a b:Nat} {x y:Int} (hx:Le a x) (hy:Le b y):Le (a+b) (x*y):=by
 unfold Le at*
 rw[Int.natAbs_mul,Wn]
 exact Nat.mul_le_mul hx hy
theorem Le.mono {a b:Nat} {x:Int} (hx:Le a x) (h:a≤b):Le b x:=V8 hx (Wo (by omega) h)
theorem Le.add {a:Nat} {x y:Int} (hx:Le a x) (hy:Le a y):Le (a+1) (x+y):=by
 unfold Le at*
 rw[Wp]
 omega
theorem Le.neg {a:Nat} {x:Int} (hx:Le a x):Le a (-x):=by unfold Le at *;omega
theorem Le.w {k:Nat} {z:Int} (h:Le k z) (hk:k≤900):z.natAbs<4294967296 ^ 99:=
 Wb (h.mono hk) (by decide +kernel)
theorem Le.n {k:Nat} {z:Int} (h:Le k z) (hk:k≤500):(dg6 z.natAbs).length<90:=by
 have:=Sq (k:=84) (n:=z.natAbs) (Wb (h.mono hk) (by decide +kernel))
 omega
theorem Le.pow (n:Nat):Le n (10 ^ n):=by
 unfold Le
 rw[Int.natAbs_pow];exact V7 _
theorem Le.int {n:Int} (h1: -9223372036854775808≤n) (h2:n≤9223372036854775807):Le 19 n:=by unfold Le;omega
theorem Le.succ {k n:Nat} (h:Le k (n:Int)):Le (k+1) ((n+1:Nat):Int):=by
 unfold Le at*
 rw[Wp]
 have:1≤10 ^ k:=Nat.pow_pos (by omega)
 omega
theorem Lj (n:Nat) (hn:n≤60):xH (n:Int)=some (W (10 ^ n),()):=by
 unfold xH
 rw[uf 1 (by omega) (by omega),Wt]
 dsimp only
 have loop:∀ (f:Nat),n<f→iter f (((n:Int),(0:Int),false,([]:List Int),(W 1).1,(W 1).2,()):ov) sZ=some (Sum.inr (false,[],(W (10 ^ n)).1,(W (10 ^ n)).2,())):=by
  intro f hf
  refine cn (Inv:=fun i X=>X=(((n:Int),(i:Int),false,([]:List Int),(W (10 ^ i)).1,(W (10 ^ i)).2,()):ov)) n (fun r=>r=some (Sum.inr (false,[],(W (10 ^ n)).1,(W (10 ^ n)).2,()))) ?_ ?_ f 0 _ rfl (by omega) (by omega)
  ·rintro i _ again hi rfl ih
   unfold sZ
   dsimp only
   rw[aZ (by omega),uf 10 (by omega) (by omega),Wt]
   dsimp only
   rw[ye (10 ^ i) 10 ((Le.pow i).w (by omega)) ((Le.int (n:=10) (by omega) (by omega)).w (by omega)),Wt,br (by omega) (by omega)]
   refine ih _ ?_
   rw[UL]
   rfl
  ·rintro _ again rfl
   unfold sZ
   dsimp only
   rw[aX (by omega)]
 rw[loop _ (by omega),bD]
theorem HJ (d:az) (p:Int) (h1: -9223372036854775808≤d.1) (h2:d.1≤9223372036854775807) (hp0:0≤p - d.2) (hp:p - d.2≤60) (hd: -1000≤d.2∧d.2≤1000):gm d p=some (W (d.1*10 ^ (p - d.2).toNat),()):=by
 unfold gm
 rw[uf _ h1 h2,Wt,br (by omega) (by omega)]
 obtain⟨n,hn⟩:∃ n:Nat,p - d.2=n:=⟨(p - d.2).toNat,by omega⟩
 rw[hn,Lj n (by omega),Wt]
 dsimp only
 rw[ye _ _ ((Le.int h1 h2).w (by omega)) ((Le.pow n).w (by omega)),Wt,UM]
end Go.Md
namespace Go.Md
open Go.Dn
end Go.Md
namespace Go.Md
open Go.Dn
end Go.Md
namespace Go.Md
open Go.Dn
theorem di:∀ a:List UInt8,Op.bytesLess a a=false
 | []=>rfl
 | x::a=>by simp[Op.bytesLess,di a]
theorem rN:∀ {a b:List UInt8},Lib.compareBytes a b=0↔a=b
 | [],[]=>by simp[Lib.compareBytes]
 | [],_::_=>by simp[Lib.compareBytes]
 | _::_,[]=>by simp[Lib.compareBytes]
 | x::a,y::b=>by
  simp only[Lib.compareBytes,List.cons.injEq]
  by_cases h1:x<y
  ·simp only[h1,WO]
   constructor
   ·intro h;omega
   ·rintro⟨rfl,_⟩;exact absurd h1 (UInt8.lt_irrefl x)
  ·by_cases h2:y<x
   ·simp only[h1,h2,WO,WL]
    constructor
    ·intro h;omega
    ·rintro⟨rfl,_⟩;exact absurd h2 (UInt8.lt_irrefl x)
   ·have:x=y:=UInt8.le_antisymm (Wz.1 h2) (Wz.1 h1)
    subst this
    simp only[h1,WL,true_and]
    exact rN
theorem oV:∀ {a b:List UInt8},Lib.compareBytes a b<0↔Op.bytesLess a b=true
 | [],[]=>by simp[Lib.compareBytes,Op.bytesLess]
 | [],_::_=>by simp[Lib.compareBytes,Op.bytesLess]
 | _::_,[]=>by simp[Lib.compareBytes,Op.bytesLess]
 | x::a,y::b=>by
  have ih:= @oV a b
  simp only[Lib.compareBytes,Op.bytesLess]
  by_cases h1:x<y
  ·simp[h1]
  ·by_cases h2:y<x
   ·have hne:¬ x=y:=fun e=>by subst e;exact absurd h2 (UInt8.lt_irrefl x)
    simp[h1,h2,hne]
   ·have:x=y:=UInt8.le_antisymm (Wz.1 h2) (Wz.1 h1)
    subst this
    simp[h1,ih]
theorem iS:∀ {a b c:List UInt8},Op.bytesLess a b=true→Op.bytesLess b c=true→Op.bytesLess a c=true
 | [],[],_,h,_=>by simp[Op.bytesLess] at h
 | [],_::_,[],_,h=>by simp[Op.bytesLess] at h
 | [],_::_,_::_,_,_=>rfl
 | _::_,[],_,h,_=>by simp[Op.bytesLess] at h
 | _::_,_::_,[],_,h=>by simp[Op.bytesLess] at h
 | x::a,y::b,z::c,h,k=>by
  simp only[Op.bytesLess,UD,Us,WI,beq_iff_eq] at h k ⊢
  rcases h with h | ⟨rfl,h⟩
  ·rcases k with k | ⟨rfl,k⟩
   ·exact .inl (UInt8.lt_trans h k)
   ·exact .inl h
  ·rcases k with k | ⟨rfl,k⟩
   ·exact .inl k
   ·exact .inr ⟨rfl,iS h k⟩
theorem Od {a b:List UInt8} (h:Op.bytesLess a b=true):Op.bytesLess b a=false:=by
 cases hb:Op.bytesLess b a with
 | false=>rfl
 | true=>have:=iS h hb;rw[di] at this;cases this
theorem ER (a b:List UInt8):Op.bytesLess a b=true∨a=b∨Op.bytesLess b a=true:=by
 induction a generalizing b with
 | nil=>cases b with
  | nil=>simp
  | cons y b=>simp[Op.bytesLess]
 | cons x a ih=>cases b with
  | nil=>simp[Op.bytesLess]
  | cons y b=>
   simp only[Op.bytesLess,UD,Us,WI,beq_iff_eq,List.cons.injEq]
   by_cases h1:x<y
   ·simp[h1]
   ·by_cases h2:y<x
    ·simp[h2]
    ·have:x=y:=UInt8.le_antisymm (Wz.1 h2) (Wz.1 h1)
     subst this
     rcases ih b with h | h | h<;>simp[h]
def Asc {α:Type} (key:α→List UInt8) (l:List α):Prop:=∀ (i j:Nat) (x y:α),i<j→l[i]? =some x→l[j]? =some y→Op.bytesLess (key x) (key y)=true
def fG {α:Type} (key:α→List UInt8) (t:List UInt8) (l:List α):Option Nat:=l.findIdx? (fun r=>key r==t)
theorem kL {α:Type} {key:α→List UInt8} {t:List UInt8} {l:List α} {k:Nat} (h:fG key t l=some k):∃ x,l[k]? =some x∧key x=t:=by
 unfold fG at h
 rw[List.findIdx?_eq_some_iff_getElem] at h
 obtain⟨h1,h2,_⟩:=h
 exact⟨_,Vc h1,by simpa using h2⟩
theorem LG {α:Type} {key:α→List UInt8} {t:List UInt8} {l:List α} (h:fG key t l=none):∀ x∈l,key x≠t:=by
 unfold fG at h
 rw[List.findIdx?_eq_none_iff] at h
 intro x hx e
 have:=h x hx
 simp[e] at this
theorem Gm {α:Type} {key:α→List UInt8} {t:List UInt8} {l:List α} (hs:Asc key l) {k:Nat} {x:α} (hk:l[k]? =some x) (hx:key x=t):fG key t l=some k:=by
 cases h:fG key t l with
 | none=>exact absurd hx (LG h x (VG hk))
 | some j=>
  obtain⟨y,h1,h2⟩:=kL h
  rcases Wg j k with hlt | rfl | hlt
  ·have:=hs j k y x hlt h1 hk
   rw[h2,hx,di] at this;cases this
  ·rfl
  ·have:=hs k j x y hlt hk h1
   rw[h2,hx,di] at this;cases this
end Go.Md
namespace Go.Md
open Go.Dn
instance (d:az):Decidable (eN d):=by unfold eN;exact inferInstance
def inR (d:az) (lo hi pl:Int):Bool:=decide (eN d∧d.2≤pl∧lo*10 ^ d.2.toNat≤d.1∧d.1≤hi*10 ^ d.2.toNat)
theorem AP (d:az):iF d=some (if eN d then 0 else 1,()):=by
 rw[Bn]
 congr 2
 by_cases h:eN d
 ·rw[WN h,WN (by unfold eN at h;omega)]
 ·rw[WM h,WM (by unfold eN at h;omega)]
def TX (pl:Int) (rates:List yV) (line:Bool) (x:tD):Int:=
 if eN x.2.1 then
  (if x.2.1.1=0 then 13
  else if (if x.1=true then inR x.2.1 (-100) 100 9 else inR x.2.1 (-1000000000) 1000000000 pl)=true then
   (if x.2.2=[] then 0 else if line=true then 3 else if (fG (·.1) x.2.2 rates).isSome=true then 0 else 5)
  else 1)
 else 1
def Sa (pl:Int) (rates:List yV) (line:Bool) (l:List tD):Int:=if 20<l.length then 2 else fQ (fun _ x=>TX pl rates line x) 0 l
theorem Sg {γ:Type} (s:Int) (u:γ):aW (β:=Int×Unit) (γ:=γ) (if s=0 then some (Sum.inr u) else some (Sum.inl (s,()))) (fun _=>some (0,()))=some (s,()):=by
 by_cases h:s=0
 ·rw[WN h,bD,h]
 ·rw[WM h,rR]
theorem sR {X α:Type} {γ:Type} {f:X→(X→Option ((Int×Unit) ⊕ γ))→Option ((Int×Unit) ⊕ γ)} {x0:X} (mk:Nat→X) (l:List α) (g:Nat→α→Int) (u:γ) (h0:x0=mk 0)
 (hstep:∀ i y again,l[i]? =some y→f (mk i) again=if g i y=0 then again (mk (i+1)) else some (Sum.inl (g i y,()))) (hend:∀ again,f (mk l.length) again=some (Sum.inr u)) (n:Nat) (hn:l.length<n):
 iter n x0 f=if fQ g 0 l=0 then some (Sum.inr u) else some (Sum.inl (fQ g 0 l,())):=by
 rw[h0];exact LF mk l g u hstep hend l 0 n rfl (Wr _) hn
end Go.Md
namespace Go.Md
open Go.Dn
theorem K5 (n:Int) (h0:0≤n) (h1:n≤18):BG n=some (10 ^ n.toNat,()):=Ma n h0 h1
end Go.Md
namespace Go.Md
open Go.Dn
theorem Tx {γ:Type} (s:Int) (u:γ) (k:γ→Option (Int×Unit)) (z:Int) (hk:k u=some (z,())):aW (β:=Int×Unit) (γ:=γ) (if s=0 then some (Sum.inr u) else some (Sum.inl (s,()))) k=some (if s≠0 then s else z,()):=by
 by_cases h:s=0
 ·rw[WN h,bD,hk,WM (by simpa using h)]
 ·rw[WM h,rR,WN h]
end Go.Md
namespace Go.Md
open Go.Dn
structure Ua (pl:Int) (x:tD):Prop where
 dec:eN x.2.1
 place:x.1=false→x.2.1.2≤pl
 nz:x.2.1.1≠0
structure SZ (pl:Int) (rates:List yV) (x:BK):Prop where
 q:eN x.2.2.2.1
 qp:x.2.2.2.1.2≤3
 qn:x.2.2.2.1.1≠0
 p:eN x.2.2.2.2.2.1
 pp:x.2.2.2.2.2.1.2≤4
 p0:0≤x.2.2.2.2.2.1.1
 per:1≤x.2.2.2.2.2.2.1∧x.2.2.2.2.2.2.1≤100000
 ext:Sa pl rates true x.2.2.2.2.2.2.2.1=0
 rate:(fG (·.1) x.2.2.2.2.2.2.2.2 rates).isSome=true
structure Ub (v:L6):Prop where
 pl:0≤v.2.2.2.1∧v.2.2.2.1≤4
 way:1≤v.2.2.2.2.1∧v.2.2.2.2.1≤6
 rn:0<v.2.2.2.2.2.2.1.length∧v.2.2.2.2.2.2.1.length≤20
 asc:Asc (·.1) v.2.2.2.2.2.2.1
 rates:∀ r∈v.2.2.2.2.2.2.1,inR r.2 0 100 9=true
 ln:0<v.2.2.2.2.2.2.2.1.length∧v.2.2.2.2.2.2.2.1.length≤500
 lines:∀ x∈v.2.2.2.2.2.2.2.1,SZ v.2.2.2.1 v.2.2.2.2.2.2.1 x
 ext:Sa v.2.2.2.1 v.2.2.2.2.2.2.1 false v.2.2.2.2.2.2.2.2=0
end Go.Md
namespace Go.Md
open Go.Dn
theorem Le.dec {d:az} (h:eN d):Le 15 d.1:=by
 have:=h.1
 unfold Le;omega
theorem Le.i1 {n:Int} (h1: -9223372036854775808≤n) (h2:n≤9223372036854775807):n.natAbs<4294967296 ^ 99:=(Le.int h1 h2).w (by omega)
end Go.Md
