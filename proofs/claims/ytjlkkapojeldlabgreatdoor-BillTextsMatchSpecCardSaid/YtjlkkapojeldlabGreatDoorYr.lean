/-
  Plain facts: products, powers, rounding; digits. No condition.
-/
import Derived.Test.YtjlkkapojeldlabGreatDoorYq
import Derived.Test.YtjlkkapojeldlabGreatDoorYn
import Derived.Test.YtjlkkapojeldlabGreatDoorYp
set_option linter.all false
namespace Go.Md
open Go.Dn
theorem zne:((0:Int) != 0)=false:=rfl
theorem PK (a b:List Int):DK a b=zW a b:=rfl
theorem Kt (x y:Int) (hx:x.natAbs<4294967296 ^ 99) (hy:y.natAbs<4294967296 ^ 99):nY (W x) (W y)=some (W (x+y),()):=by
 have hlx:=qG hx
 have hly:=qG hy
 unfold nY W
 dsimp only
 by_cases hs:decide (x<0)=decide (y<0)
 ·rw[show (decide (x<0)==decide (y<0))=true by simp[hs],afX,PK]
  obtain⟨s,h1,h2,h3,h4⟩:=TT (bX x.natAbs) (bX y.natAbs) (gq _) (gq _) (by omega) (by omega)
  rw[h1,afJ]
  dsimp only
  rw[jW _ _ h2 (by omega),afJ,h3,fC,fC]
  simp only[afY] at hs
  show some (W _,())=some (W (x+y),())
  congr 3
  by_cases h:x<0
  ·simp only[h,af3,aga];omega
  ·simp only[h,af2,ado,af7];omega
 ·rw[show (decide (x<0)==decide (y<0))=false by simp[hs],afW]
  obtain⟨c,h1,h2,h3⟩:=Mk x.natAbs y.natAbs (by omega) (by omega)
  rw[h1,afJ]
  dsimp only
  simp only[afY] at hs
  have hlen:∀ a b:Nat,b<=a->(bX b).length<=(bX a).length:=fun a b h=>by
   rcases afu (bX a).length (bX b).length with h' | h'
   ·have:=tN h';omega
   ·exact h'
  by_cases hc:c>=0
  ·rw[aI hc,GM _ _ (gq _) (gq _) (by omega) (hlen _ _ (by omega)) (by rw[fC,fC];omega),afJ]
   dsimp only
   rw[jW _ _ (gq _) (by have:=hlen x.natAbs (v32 (bX x.natAbs) - v32 (bX y.natAbs)).toNat (by rw[fC,fC];omega);omega),afJ]
   rw[fC,fC,fC]
   show some (W _,())=some (W (x+y),())
   congr 3
   by_cases h:x<0
   ·simp only[h,af3,aga];omega
   ·simp only[h,af2,ado,af7];omega
  ·rw[aM hc,GM _ _ (gq _) (gq _) (by omega) (hlen _ _ (by omega)) (by rw[fC,fC];omega),afJ]
   dsimp only
   rw[jW _ _ (gq _) (by have:=hlen y.natAbs (v32 (bX y.natAbs) - v32 (bX x.natAbs)).toNat (by rw[fC,fC];omega);omega),afJ]
   rw[fC,fC,fC]
   show some (W _,())=some (W (x+y),())
   congr 3
   by_cases h:y<0
   ·simp only[h,af3,aga];omega
   ·simp only[h,af2,ado,af7];omega
theorem Vh {x y z c:Int} (hx:0<=x/\x<4294967296) (hy:0<=y/\y<4294967296) (hz:0<=z/\z<4294967296) (hc:0<=c/\c<4294967296):0<=x*y/\x*y<=18446744065119617025/\c+(z+x*y)<=18446744073709551615:=by
 have h1:0<=x*y:=adG hx.1 hy.1
 have h2:x*y<=4294967295*4294967295:=Int.mul_le_mul (by omega) (by omega) (by omega) (by omega)
 omega
theorem Kv (i:Nat) (x:Int) (ga:List Int) (gn gi:Int) (b:List Int) (s1:Bool) (l1:List Int) (s2:Bool) (l2:List Int) (s3:Bool) (l3:List Int) (out:List Int) (hx:0<=x/\x<4294967296) (hb:Dg b) (hbl:b.length<10000) (hil:i<10000) (ho:i+b.length<=out.length) (hol:out.length<100000) (hd:Dg out) (n:Nat) (hn:b.length<n): ∃ o c,iter n (((i:Int),x,(0:Int),ga,gn,gi,b,(b.length:Int),(0:Int),s1,l1,s2,l2,s3,l3,out,()):jG) mR=some (Sum.inr ((i:Int),c,ga,gn,gi,s1,l1,s2,l2,s3,l3,o,()))/\ Dg o/\o.length=out.length/\0<=c/\c<4294967296/\v32 o+4294967296 ^ (i+b.length)*c=v32 out+4294967296 ^ i*x*v32 b/\∀ j,i+b.length<=j->o[j]? =out[j]? :=by
 refine dG (Inv:=fun k X=>∃ o c,X=(((i:Int),x,c,ga,gn,gi,b,(b.length:Int),(k:Int),s1,l1,s2,l2,s3,l3,o,()):jG)/\Dg o/\o.length=out.length/\0<=c/\c<4294967296/\v32 o+4294967296 ^ (i+k)*c=v32 out+4294967296 ^ i*x*v32 (b.take k)/\∀ j,i+k<=j->o[j]? =out[j]?) b.length
  (fun r=>∃ o c,r=some (Sum.inr ((i:Int),c,ga,gn,gi,s1,l1,s2,l2,s3,l3,o,()))/\Dg o/\o.length=out.length/\0<=c/\c<4294967296/\v32 o+4294967296 ^ (i+b.length)*c=v32 out+4294967296 ^ i*x*v32 b/\∀ j,i+b.length<=j->o[j]? =out[j]?) ?_ ?_ n 0 _ ⟨out,0,rfl,hd,rfl,by omega,by omega,by simp[vP],fun _ _=>rfl⟩ (by omega) (by omega)
 ·rintro k _ again hk ⟨o,c,rfl,h1,h2,h3,h4,h5,h6⟩ ih
  unfold mR
  dsimp only
  have hy:b[k]? =some b[k]:=aP hk
  have hyd:=hb.get hy
  have hts:=ff hy
  have hz:o[i+k]? =some (o[i+k]'(by omega)):=aP (by omega)
  have hzd:=h1.get hz
  generalize b[k]=y at hy hyd hts
  generalize o[i+k]'(by omega)=z at hz hzd
  obtain⟨m1,m2,m3⟩:=Vh hx hyd hzd ⟨h3,h4⟩
  have e1:w64 ((i:Int)+(k:Int))=((i+k:Nat):Int):=by rw[aK (by omega) (by omega)];omega
  rw[aI (by omega),cr,hy,afJ,e1,aC (by simp only[adj,af1];omega),adN,hz,afJ,aC (by simp only[adj,af1];omega),afJ,
   cQ (n:=x) (by omega) (by omega),cQ (n:=y) (by omega) (by omega),cQ (n:=z) (by omega) (by omega),cQ (n:=x*y) (by omega) (by omega),cQ (n:=z+x*y) (by omega) (by omega),cQ (n:=c+(z+x*y)) (by omega) (by omega),Cn,SE,aK (n:=(k:Int)+1) (by omega) (by omega)]
  generalize ht:c+(z+x*y)=t at*
  refine ih _ ⟨_,_,rfl,h1.set (by omega),by rw[aeF];exact h2,by omega,by omega, ?_,fun j hj=> ?_⟩
  ·rw[V7 hz,hts]
   have e2:(4294967296:Int) ^ (i+(k+1))=4294967296 ^ i*4294967296 ^ k*4294967296:=by rw[<- afh,adK,adJ]
   have e3:(4294967296:Int) ^ (i+k)=4294967296 ^ i*4294967296 ^ k:=adJ ..
   rw[e3] at h5
   rw[e2,e3]
   have e4:=Int.mul_ediv_add_emod t 4294967296
   generalize (4294967296:Int) ^ i=p at*
   generalize (4294967296:Int) ^ k=q at*
   generalize t / 4294967296=d at*
   generalize t % 4294967296=r at*
   grind
  ·rw[aer (by omega)];exact h6 j (by omega)
 ·rintro _ again ⟨o,c,rfl,h1,h2,h3,h4,h5,h6⟩
  unfold mR
  dsimp only
  rw[aM (by omega)]
  rw[afd (afq _)] at h5
  exact⟨o,c,rfl,h1,h2,h3,h4,h5,h6⟩
theorem Kw (a b:List Int) (ha:Dg a) (hb:Dg b) (hal:a.length<1000) (hbl:b.length<1000) (s1 s2 s3:Bool) (l3:List Int) (n:Nat) (hn:a.length<n): ∃ o,iter n ((a,(a.length:Int),(0:Int),s1,a,s2,b,s3,l3,List.replicate (a.length+b.length) 0,()):jF) mQ=some (Sum.inr (s1,a,s2,b,s3,l3,o,()))/\Dg o/\o.length=a.length+b.length/\v32 o=v32 a*v32 b:=by
 refine dG (Inv:=fun i X=>∃ o,X=((a,(a.length:Int),(i:Int),s1,a,s2,b,s3,l3,o,()):jF)/\Dg o/\o.length=a.length+b.length/\v32 o=v32 (a.take i)*v32 b/\∀ j,i+b.length<=j->j<a.length+b.length->o[j]? =some 0) a.length
  (fun r=>∃ o,r=some (Sum.inr (s1,a,s2,b,s3,l3,o,()))/\Dg o/\o.length=a.length+b.length/\v32 o=v32 a*v32 b) ?_ ?_ n 0 _ ⟨_,rfl,fun d hd=>by rw[List.mem_replicate] at hd;omega,by simp,by rw[Rr];simp[vP],fun j _ hj=>by rw[List.getElem?_replicate,af9 hj]⟩ (by omega) (by omega)
 ·rintro i _ again hi ⟨o,rfl,h1,h2,h3,h4⟩ ih
  unfold mQ
  dsimp only
  have hy:a[i]? =some a[i]:=aP hi
  have hyd:=ha.get hy
  have hts:=ff hy
  generalize a[i]=x at hy hyd hts
  rw[aI (by omega),cr,hy,afJ]
  obtain⟨o',c,k1,k2,k3,k4,k5,k6,k7⟩:=Kv i x a (a.length:Int) (i:Int) b s1 a s2 b s3 l3 o hyd hb (by omega) (by omega) (by omega) (by omega) h1 (Int.natAbs (i:Int)+(Int.natAbs x+(Int.natAbs (0:Int)+(List.length a+(Int.natAbs (a.length:Int)+(Int.natAbs (i:Int)+(List.length b+(Int.natAbs ((List.length b:Int))+(Int.natAbs (0:Int)+(List.length a+(List.length b+(List.length l3+(List.length o+2))))))))))))) (by omega)
  rw[k1,aU]
  dsimp only
  have e1:w64 ((i:Int)+(b.length:Int))=((i+b.length:Nat):Int):=by rw[aK (by omega) (by omega)];omega
  have hz:o'[i+b.length]? =some 0:=by rw[k7 _ (afq _)];exact h4 _ (afq _) (by omega)
  rw[e1,aC (by simp only[adj,af1];omega),adN,hz,afJ,EN (by omega) (by omega),aK (n:=(i:Int)+1) (by omega) (by omega)]
  refine ih _ ⟨_,rfl,k2.set (by omega),by rw[aeF];omega, ?_,fun j hj hj2=> ?_⟩
  ·rw[V7 hz,hts]
   have e3:(4294967296:Int) ^ (i+b.length)=4294967296 ^ i*4294967296 ^ b.length:=adJ ..
   rw[e3] at k6 ⊢
   grind
  ·rw[aer (by omega),k7 j (by omega)];exact h4 j (by omega) hj2
 ·rintro _ again ⟨o,rfl,h1,h2,h3,h4⟩
  unfold mQ
  dsimp only
  rw[aM (by omega)]
  rw[afd (afq _)] at h3
  exact⟨o,rfl,h1,h2,h3⟩
theorem Jq (x y:Int) (hx:x.natAbs<4294967296 ^ 99) (hy:y.natAbs<4294967296 ^ 99):mP (W x) (W y)=some (W (x*y),()):=by
 have hlx:=qG hx
 have hly:=qG hy
 unfold mP W
 dsimp only
 have e1:w64 (((bX x.natAbs).length:Int)+((bX y.natAbs).length:Int))=(((bX x.natAbs).length+(bX y.natAbs).length:Nat):Int):=by rw[aK (by omega) (by omega)];omega
 rw[e1,aC (by simp only[adj,af1];omega)]
 obtain⟨o,h1,h2,h3,h4⟩:=Kw (bX x.natAbs) (bX y.natAbs) (gq _) (gq _) (by omega) (by omega) (decide (x<0)) (decide (y<0)) false [] (List.length (bX x.natAbs)+(Int.natAbs ((List.length (bX x.natAbs):Int))+(Int.natAbs (0:Int)+(List.length (bX x.natAbs)+(List.length (bX y.natAbs)+(List.length ([]:List Int)+(List.length ((List.replicate (Int.toNat (((bX x.natAbs).length+(bX y.natAbs).length:Nat):Int)) 0):List Int)+2))))))) (by omega)
 rw[adN] at h1 ⊢
 rw[h1,aU]
 dsimp only
 rw[jW _ _ h2 (by omega),afJ,h4,fC,fC]
 show some (W _,())=some (W (x*y),())
 congr 3
 rw[<- Int.natCast_mul, <- Int.natAbs_mul]
 by_cases h:x<0<;>by_cases h':y<0
 ·have:=Int.mul_pos_of_neg_of_neg h h'
  simp[h,h'];omega
 ·have:=adG (show 0<= -x by omega) (show 0<=y by omega)
  rw[Int.neg_mul] at this
  simp[h,h'];omega
 ·have:=adG (show 0<=x by omega) (show 0<= -y by omega)
  rw[Int.mul_neg] at this
  simp[h,h'];omega
 ·have:=adG (show 0<=x by omega) (show 0<=y by omega)
  simp[h,h'];omega
end Go.Md
namespace Go.Md
open Go.Dn
def Le (k:Nat) (z:Int):Prop:=z.natAbs<=10 ^ k
theorem Le.mul {a b:Nat} {x y:Int} (hx:Le a x) (hy:Le b y):Le (a+b) (x*y):=by
 unfold Le at*
 rw[Int.natAbs_mul,Nat.pow_add]
 exact Nat.mul_le_mul hx hy
theorem Le.mono {a b:Nat} {x:Int} (hx:Le a x) (h:a<=b):Le b x:=afs hx (afF (by omega) h)
theorem Le.add {a:Nat} {x y:Int} (hx:Le a x) (hy:Le a y):Le (a+1) (x+y):=by
 unfold Le at*
 rw[afG]
 omega
theorem Le.neg {a:Nat} {x:Int} (hx:Le a x):Le a (-x):=by unfold Le at *;omega
theorem Le.w {k:Nat} {z:Int} (h:Le k z) (hk:k<=900):z.natAbs<4294967296 ^ 99:=
 Nat.lt_of_le_of_lt (h.mono hk) (by decide +kernel)
theorem Le.n {k:Nat} {z:Int} (h:Le k z) (hk:k<=500):(dg6 z.natAbs).length<90:=by
 have:=Vq (k:=84) (n:=z.natAbs) (Nat.lt_of_le_of_lt (h.mono hk) (by decide +kernel))
 omega
theorem Le.pow (n:Nat):Le n (10 ^ n):=by
 unfold Le
 rw[Int.natAbs_pow];exact afq _
theorem Le.int {n:Int} (h1: -9223372036854775808<=n) (h2:n<=9223372036854775807):Le 19 n:=by unfold Le;omega
theorem Le.succ {k n:Nat} (h:Le k (n:Int)):Le (k+1) ((n+1:Nat):Int):=by
 unfold Le at*
 rw[afG]
 have:1<=10 ^ k:=Nat.pow_pos (by omega)
 omega
end Go.Md
namespace Go.Md
open Go.Dn
end Go.Md
namespace Go.Md
open Go.Dn
end Go.Md
namespace Go.Md
open Go.Dn
theorem nK:∀ a:Bys,Op.bytesLess a a=false
 | []=>rfl
 | x::a=>by simp[Op.bytesLess,nK a]
theorem HG:∀ {a b:Bys},Lib.compareBytes a b=0↔a=b
 | [],[]=>by simp[Lib.compareBytes]
 | [],_::_=>by simp[Lib.compareBytes]
 | _::_,[]=>by simp[Lib.compareBytes]
 | x::a,y::b=>by
  simp only[Lib.compareBytes,List.cons.injEq]
  by_cases h1:x<y
  ·simp only[h1,aga]
   constructor
   ·intro h;omega
   ·rintro⟨rfl,_⟩;exact absurd h1 (UInt8.lt_irrefl x)
  ·by_cases h2:y<x
   ·simp only[h1,h2,aga,af7]
    constructor
    ·intro h;omega
    ·rintro⟨rfl,_⟩;exact absurd h2 (UInt8.lt_irrefl x)
   ·have:x=y:=UInt8.le_antisymm (afQ.1 h2) (afQ.1 h1)
    subst this
    simp only[h1,af7,true_and]
    exact HG
theorem E8:∀ {a b:Bys},Lib.compareBytes a b<0↔Op.bytesLess a b=true
 | [],[]=>by simp[Lib.compareBytes,Op.bytesLess]
 | [],_::_=>by simp[Lib.compareBytes,Op.bytesLess]
 | _::_,[]=>by simp[Lib.compareBytes,Op.bytesLess]
 | x::a,y::b=>by
  have ih:= @E8 a b
  simp only[Lib.compareBytes,Op.bytesLess]
  by_cases h1:x<y
  ·simp[h1]
  ·by_cases h2:y<x
   ·have hne:¬ x=y:=fun e=>by subst e;exact absurd h2 (UInt8.lt_irrefl x)
    simp[h1,h2,hne]
   ·have:x=y:=UInt8.le_antisymm (afQ.1 h2) (afQ.1 h1)
    subst this
    simp[h1,ih]
theorem yE:∀ {a b c:Bys},Op.bytesLess a b=true->Op.bytesLess b c=true->Op.bytesLess a c=true
 | [],[],_,h,_=>by simp[Op.bytesLess] at h
 | [],_::_,[],_,h=>by simp[Op.bytesLess] at h
 | [],_::_,_::_,_,_=>rfl
 | _::_,[],_,h,_=>by simp[Op.bytesLess] at h
 | _::_,_::_,[],_,h=>by simp[Op.bytesLess] at h
 | x::a,y::b,z::c,h,k=>by
  simp only[Op.bytesLess,adx,adj,af1,beq_iff_eq] at h k ⊢
  rcases h with h | ⟨rfl,h⟩
  ·rcases k with k | ⟨rfl,k⟩
   ·exact .inl (UInt8.lt_trans h k)
   ·exact .inl h
  ·rcases k with k | ⟨rfl,k⟩
   ·exact .inl k
   ·exact .inr ⟨rfl,yE h k⟩
theorem X9 (a b:Bys):Op.bytesLess a b=true\/a=b\/Op.bytesLess b a=true:=by
 induction a generalizing b with
 | nil=>cases b with
  | nil=>simp
  | cons y b=>simp[Op.bytesLess]
 | cons x a ih=>cases b with
  | nil=>simp[Op.bytesLess]
  | cons y b=>
   simp only[Op.bytesLess,adx,adj,af1,beq_iff_eq,List.cons.injEq]
   by_cases h1:x<y
   ·simp[h1]
   ·by_cases h2:y<x
    ·simp[h2]
    ·have:x=y:=UInt8.le_antisymm (afQ.1 h2) (afQ.1 h1)
     subst this
     rcases ih b with h | h | h<;>simp[h]
def Asc {α:Type} (key:α->Bys) (l:List α):Prop:=∀ (i j:Nat) (x y:α),i<j->l[i]? =some x->l[j]? =some y->Op.bytesLess (key x) (key y)=true
def fe {α:Type} (key:α->Bys) (t:Bys) (l:List α):Option Nat:=l.findIdx? (fun r=>key r==t)
theorem zx {α:Type} {key:α->Bys} {t:Bys} {l:List α} {k:Nat} (h:fe key t l=some k):∃ x,l[k]? =some x/\key x=t:=by
 unfold fe at h
 rw[List.findIdx?_eq_some_iff_getElem] at h
 obtain⟨h1,h2,_⟩:=h
 exact⟨_,ael h1,by simpa using h2⟩
theorem YB {α:Type} {key:α->Bys} {t:Bys} {l:List α} (h:fe key t l=none):∀ x∈l,key x≠t:=by
 unfold fe at h
 rw[List.findIdx?_eq_none_iff] at h
 intro x hx e
 have:=h x hx
 simp[e] at this
theorem aa8 {α:Type} {key:α->Bys} {t:Bys} {l:List α} (hs:Asc key l) {k:Nat} {x:α} (hk:l[k]? =some x) (hx:key x=t):fe key t l=some k:=by
 cases h:fe key t l with
 | none=>exact absurd hx (YB h x (aeU hk))
 | some j=>
  obtain⟨y,h1,h2⟩:=zx h
  rcases afz j k with hlt | rfl | hlt
  ·have:=hs j k y x hlt h1 hk
   rw[h2,hx,nK] at this;cases this
  ·rfl
  ·have:=hs k j x y hlt hk h1
   rw[h2,hx,nK] at this;cases this
def ixI:Option Nat->Int
 | some k=>(k:Int)
 | none=> -1
theorem VA (o:Option Nat):decide (ixI o<0)= !o.isSome:=by
 cases o with
 | none=>rfl
 | some k=>exact afZ (by simp only[ixI];omega)
theorem GA (v:ai) (t:Bys) (hl:v.2.2.2.2.2.2.1.length<1000000000):fB v t=some (ixI (fe (·.1) t v.2.2.2.2.2.2.1),()):=by
 unfold fB
 generalize v.2.2.2.2.2.2.1=l at*
 have loop:∀ f,l.length<f->iter f ((t,l,(l.length:Int),(0:Int),()):pI) uC=(match fe (·.1) t l with | some k=>some (Sum.inl ((k:Int),())) | none=>some (Sum.inr ())):=by
  intro f hf
  refine dG (Inv:=fun i X=>X=((t,l,(l.length:Int),(i:Int),()):pI)/\∀ j x,j<i->l[j]? =some x->x.1≠t) l.length
   (fun r=>r=(match fe (·.1) t l with | some k=>some (Sum.inl ((k:Int),())) | none=>some (Sum.inr ()))) ?_ ?_ f 0 _ ⟨rfl,fun _ _ h=>absurd h (afE _)⟩ (by omega) (by omega)
  ·rintro i _ again hi ⟨rfl,hb⟩ ih
   unfold uC
   dsimp only
   have hy:l[i]? =some l[i]:=aP hi
   generalize l[i]=y at hy
   rw[aI (by omega),cr,hy,afJ]
   by_cases he:y.1=t
   ·rw[show (y.1==t)=true by simpa using he,afX]
    have:fe (·.1) t l=some i:=by
     unfold fe
     rw[List.findIdx?_eq_some_iff_getElem]
     refine⟨hi, ?_,fun j hj=> ?_⟩
     ·have:=(aen.1 hy).2
      rw[this];simpa using he
     ·have:=hb j l[j] hj (ael _)
      simpa using this
    rw[this]
   ·rw[show (y.1==t)=false by simpa using he,afW,aK (by omega) (by omega)]
    refine ih _ ⟨rfl,fun j x hj hx=> ?_⟩
    rcases afw.1 hj with h | h
    ·exact hb j x h hx
    ·subst h;rw[hy] at hx;cases hx;exact he
  ·rintro _ again ⟨rfl,hb⟩
   unfold uC
   dsimp only
   rw[aM (by omega)]
   have:fe (·.1) t l=none:=by
    unfold fe
    rw[List.findIdx?_eq_none_iff]
    intro x hx
    obtain⟨j,hj⟩:=aeS.1 hx
    have:=hb j x (aen.1 hj).1 hj
    simpa using this
   rw[this]
 rw[loop _ (by omega)]
 cases fe (·.1) t l<;>rfl
theorem R7 (l:List ak) (t:Bys) (hl:l.length<1000000000) (hs:Asc (·.1) l): ∃ i:Nat,dB l t ()=some ((i:Int),(fe (·.1) t l).isSome,())/\∀ k,fe (·.1) t l=some k->i=k:=by
 unfold dB
 have loop:∀ f,l.length<f->∃ i:Nat,iter f ((l,t,(),(l.length:Int),(0:Int),(l.length:Int),()):cx) eH=some (Sum.inr (l,t,(),(l.length:Int),(i:Int),()))/\i<=l.length/\(∀ k x,l[k]? =some x->k<i->Op.bytesLess x.1 t=true)/\∀ k x,l[k]? =some x->i<=k->Op.bytesLess x.1 t=false:=by
  intro f hf
  refine CN (Inv:=fun X=>∃ i j:Nat,X=((l,t,(),(l.length:Int),(i:Int),(j:Int),()):cx)/\i<=j/\j<=l.length/\(∀ k x,l[k]? =some x->k<i->Op.bytesLess x.1 t=true)/\∀ k x,l[k]? =some x->j<=k->Op.bytesLess x.1 t=false)
   (fun X=>(X.2.2.2.2.2.1 - X.2.2.2.2.1).toNat)
   (fun _ r=>∃ i:Nat,r=some (Sum.inr (l,t,(),(l.length:Int),(i:Int),()))/\i<=l.length/\(∀ k x,l[k]? =some x->k<i->Op.bytesLess x.1 t=true)/\∀ k x,l[k]? =some x->i<=k->Op.bytesLess x.1 t=false) ?_ f _ ⟨0,l.length,rfl,by omega,by omega,fun _ _ _ h=>absurd h (afE _),fun k x hk hle=>by have:=(aen.1 hk).1;omega⟩ (by dsimp only;omega)
  rintro _ again ⟨i,j,rfl,hij,hj,h1,h2⟩ ih
  dsimp only at ih
  unfold eH
  dsimp only
  by_cases hlt:i<j
  ·rw[aI (by omega)]
   have em:w64 (Int.fdiv (bB (w64 ((i:Int)+(j:Int)))) (2 ^ 1))=(((i+j) / 2:Nat):Int):=by
    rw[aK (n:=(i:Int)+(j:Int)) (by omega) (by omega),cQ (by omega) (by omega),adB _ (by omega),aK (by omega) (by omega)]
    omega
   rw[em]
   have hm:(i+j) / 2<l.length:=by omega
   have hy:l[(i+j) / 2]? =some l[(i+j) / 2]:=aP hm
   have hmi:i<=(i+j) / 2/\(i+j) / 2<j:=by omega
   generalize (i+j) / 2=m at*
   generalize l[m]=y at hy
   rw[cr,hy,afJ]
   show ∃ i,Option.bind (Option.bind (some (Lib.compareBytes y.1 t,())) fun r1=>some (r1.1,())) _=_/\_
   rw[afJ,afJ]
   dsimp only
   by_cases hc:Lib.compareBytes y.1 t<0
   ·rw[aI hc,aK (by omega) (by omega)]
    refine ih _ ⟨m+1,j,rfl,by omega,hj,fun k x hk hkm=> ?_,h2⟩ (by dsimp only;omega)
    rcases afw.1 hkm with h | h
    ·have:=hs k m x y h hk hy
     exact yE this (E8.1 hc)
    ·subst h;rw[hy] at hk;cases hk;exact E8.1 hc
   ·rw[aM hc]
    refine ih _ ⟨i,m,rfl,by omega,by omega,h1,fun k x hk hkm=> ?_⟩ (by dsimp only;omega)
    have hc':Op.bytesLess y.1 t=false:=by
     cases h:Op.bytesLess y.1 t with
     | false=>rfl
     | true=>exact absurd (E8.2 h) hc
    rcases Nat.lt_or_eq_of_le hkm with h | h
    ·cases hx:Op.bytesLess x.1 t with
     | false=>rfl
     | true=>rw[yE (hs m k y x h hy hk) hx] at hc';cases hc'
    ·subst h;rw[hy] at hk;cases hk;exact hc'
  ·rw[aM (by omega)]
   have:i=j:=by omega
   subst this
   exact⟨i,rfl,hj,h1,h2⟩
 obtain⟨i,h1,h2,h3,h4⟩:=loop (List.length l+(List.length t+(Int.natAbs ((List.length l:Int))+(Int.natAbs (0:Int)+(Int.natAbs ((List.length l:Int))+2))))) (by omega)
 refine⟨i, ?_,fun k hk=> ?_⟩
 ·rw[h1,aU]
  dsimp only
  by_cases hi:i<l.length
  ·have hy:l[i]? =some l[i]:=aP hi
   generalize l[i]=y at hy
   rw[aI (by omega),cr,hy,afJ]
   show Option.bind (Option.bind (some (Lib.compareBytes y.1 t,())) fun r1=>some (r1.1,())) _=_
   rw[afJ,afJ]
   congr 3
   by_cases he:y.1=t
   ·rw[aa8 hs hy he,HG.2 he];rfl
   ·have hne:¬ Lib.compareBytes y.1 t=0:=fun h=>he (HG.1 h)
    rw[show (Lib.compareBytes y.1 t==0)=false by simpa using hne]
    cases hx:fe (·.1) t l with
    | none=>rfl
    | some k=>
     exfalso
     obtain⟨x,k1,k2⟩:=zx hx
     rcases afz k i with h | h | h
     ·have:=h3 k x k1 h;rw[k2,nK] at this;cases this
     ·subst h;rw[hy] at k1;cases k1;exact he k2
     ·have:=hs i k y x h hy k1
      dsimp only at this
      rw[k2,h4 i y hy (afq _)] at this;cases this
  ·rw[aM (by omega)]
   congr 3
   cases hx:fe (·.1) t l with
   | none=>rfl
   | some k=>
    exfalso
    obtain⟨x,k1,k2⟩:=zx hx
    have:=h3 k x k1 (by have:=(aen.1 k1).1;omega)
    rw[k2,nK] at this;cases this
 ·obtain⟨x,k1,k2⟩:=zx hk
  rcases afz k i with h | h | h
  ·have:=h3 k x k1 h;rw[k2,nK] at this;cases this
  ·exact h.symm
  ·have hy:l[i]? =some (l[i]'(by have:=(aen.1 k1).1;omega)):=aP _
   have:=hs i k _ x h hy k1
   dsimp only at this
   rw[k2,h4 i _ hy (afq _)] at this;cases this
theorem Oq (l:List ak) (t:Bys) (hl:l.length<1000000000) (hs:Asc (·.1) l): ∃ i:Nat,yD l t=some ((i:Int),(fe (·.1) t l).isSome,())/\∀ k,fe (·.1) t l=some k->i=k:=by
 obtain⟨i,h1,h2⟩:=R7 l t hl hs
 exact⟨i,by unfold yD;rw[h1,afJ],h2⟩
theorem Cu (v:ai) (t:Bys) (hl:v.2.2.2.2.2.2.1.length<1000000000) (hs:Asc (·.1) v.2.2.2.2.2.2.1):gG v t=some ((fe (·.1) t v.2.2.2.2.2.2.1).isSome,()):=by
 obtain⟨i,h1,h2⟩:=Oq v.2.2.2.2.2.2.1 t hl hs
 unfold gG
 rw[h1,afJ]
end Go.Md
namespace Go.Md
open Go.Dn
instance (d:ah):Decidable (bY d):=by unfold bY;exact inferInstance
def inR (d:ah) (lo hi pl:Int):Bool:=decide (bY d/\d.2<=pl/\lo*10 ^ d.2.toNat<=d.1/\d.1<=hi*10 ^ d.2.toNat)
theorem Sp {d:ah} (h0:0<=d.2) (h1:d.2<=9) (k:Int):k*10 ^ 9=k*10 ^ d.2.toNat*10 ^ (9 - d.2).toNat:=by
 rw[adD, <- adJ,show d.2.toNat+(9 - d.2).toNat=9 by omega]
theorem Vo {d:ah} (h0:0<=d.2) (h1:d.2<=9) (k:Int):k*10 ^ 9<=lM d↔k*10 ^ d.2.toNat<=d.1:=by
 unfold lM
 rw[Sp h0 h1]
 exact Int.mul_le_mul_right (qS _)
theorem Vp {d:ah} (h0:0<=d.2) (h1:d.2<=9) (k:Int):lM d<=k*10 ^ 9↔d.1<=k*10 ^ d.2.toNat:=by
 unfold lM
 rw[Sp h0 h1]
 exact Int.mul_le_mul_right (qS _)
theorem rf (d:ah) (lo hi pl:Int) (hlo:lo.natAbs<=1000000000000000) (hhi:hi.natAbs<=1000000000000000):jb d lo hi pl=some (inR d lo hi pl,()):=by
 rw[UW d lo hi pl hlo hhi]
 unfold inR
 congr 2
 rw[afY]
 constructor
 ·rintro⟨h1,h2,h3,h4⟩
  exact⟨h1,h2,(Vo h1.2.1 h1.2.2 lo).1 h3,(Vp h1.2.1 h1.2.2 hi).1 h4⟩
 ·rintro⟨h1,h2,h3,h4⟩
  exact⟨h1,h2,(Vo h1.2.1 h1.2.2 lo).2 h3,(Vp h1.2.1 h1.2.2 hi).2 h4⟩
theorem gk (d:ah):b8 d=some (if bY d then 0 else 1,()):=by
 rw[C8]
 congr 2
 by_cases h:bY d
 ·rw[af9 h,af9 (by unfold bY at h;omega)]
 ·rw[af8 h,af8 (by unfold bY at h;omega)]
theorem xz (d:ah):iK d=some (if bY d then 0 else 1,()):=by
 rw[zL]
 congr 2
 by_cases h:bY d
 ·rw[af9 h,af9 (by unfold bY at h;omega)]
 ·rw[af8 h,af8 (by unfold bY at h;omega)]
theorem oA {d:ah} (h:bY d) (most:Int) (hm0:0<=most) (hm1:most<=1000000000):dR d most=some (inR d (-most) most 9,()):=by
 rw[Mw d most h.2.1 h.2.2 hm0 hm1]
 unfold inR
 congr 2
 rw[afY,Int.neg_mul]
 constructor
 ·rintro⟨h1,h2⟩;exact⟨h,h.2.2,h1,h2⟩
 ·rintro⟨_,_,h1,h2⟩;exact⟨h1,h2⟩
def OI (pl:Int) (rates:List ak) (line:Bool) (x:aj):Int:=
 if bY x.2.1 then
  (if x.2.1.1=0 then 13
  else if (if x.1=true then inR x.2.1 (-100) 100 9 else inR x.2.1 (-1000000000) 1000000000 pl)=true then
   (if x.2.2=[] then 0 else if line=true then 3 else if (fe (·.1) x.2.2 rates).isSome=true then 0 else 5)
  else 1)
 else 1
def iy (pl:Int) (rates:List ak) (line:Bool) (l:List aj):Int:=if 20<l.length then 2 else gC (fun _ x=>OI pl rates line x) 0 l
theorem XH {γ:Type} (s:Int) (u:γ):aJ (β:=Int×Unit) (γ:=γ) (if s=0 then some (Sum.inr u) else some (Sum.inl (s,()))) (fun _=>some (0,()))=some (s,()):=by
 by_cases h:s=0
 ·rw[af9 h,aU,h]
 ·rw[af8 h,zy]
theorem Yw {d:ah} {lo hi pl:Int} (h:bY d):inR d lo hi pl=(inR d lo hi 9&&decide (d.2<=pl)):=by
 unfold inR
 rw[<- Bool.decide_and,afY]
 constructor
 ·rintro⟨h1,h2,h3⟩;exact⟨⟨h1,h.2.2,h3⟩,h2⟩
 ·rintro⟨⟨h1,_,h3⟩,h2⟩;exact⟨h1,h2,h3⟩
theorem sw {X α:Type} {γ:Type} {f:X->(X->Option ((Int×Unit) ⊕ γ))->Option ((Int×Unit) ⊕ γ)} {x0:X} (mk:Nat->X) (l:List α) (g:Nat->α->Int) (u:γ) (h0:x0=mk 0) (hstep:∀ i y again,l[i]? =some y->f (mk i) again=if g i y=0 then again (mk (i+1)) else some (Sum.inl (g i y,()))) (hend:∀ again,f (mk l.length) again=some (Sum.inr u)) (n:Nat) (hn:l.length<n): iter n x0 f=if gC g 0 l=0 then some (Sum.inr u) else some (Sum.inl (gC g 0 l,())):=by
 rw[h0];exact Qd mk l g u hstep hend l 0 n rfl (afI _) hn
theorem xq (v:ai) (l:List aj) (line:Bool) (hl:v.2.2.2.2.2.2.1.length<1000000000) (hs:Asc (·.1) v.2.2.2.2.2.2.1):gR v l line=some (iy v.2.2.2.1 v.2.2.2.2.2.2.1 line l,()):=by
 unfold gR iy
 by_cases hb:20<l.length
 ·rw[aI (by omega),af9 hb]
 ·rw[aM (by omega),af8 hb]
  obtain⟨a,b,c,d,e,f,g,h,k⟩:=v
  dsimp only at*
  have hR:∀ t,gG (a,b,c,d,e,f,g,h,k) t=some ((fe (·.1) t g).isSome,()):=fun t=>Cu _ t hl hs
  rw[sw (f:=lB) (fun i=>((line,l,(l.length:Int),(i:Int),a,b,c,d,e,f,g,h,k,()):lC)) l (fun _ x=>OI d g line x) () ?_ ?_ ?_ _ ?_]
  ·exact XH _ _
  ·rfl
  ·intro i y again hy
   have hi:=(aen.1 hy).1
   unfold lB
   dsimp only
   rw[aI (by omega),cr,hy,afJ,gk,afJ]
   have hw:w64 ((i:Int)+1)=(i:Int)+1:=aK (by omega) (by omega)
   unfold OI
   by_cases hd:bY y.2.1
   ·rw[af9 hd,zne,afW,af9 hd]
    by_cases h0:y.2.1.1=0
    ·rw[show (y.2.1.1==0)=true by simpa using h0,afX,af9 h0];rfl
    ·rw[show (y.2.1.1==0)=false by simpa using h0,afW,af8 h0]
     rw[oA hd 100 (by omega) (by omega),oA hd 1000000000 (by omega) (by omega),Yw (pl:=d) hd]
     have hgt:decide (y.2.1.2>d)= !decide (y.2.1.2<=d):=by
      by_cases hq:y.2.1.2<=d
      ·simp[hq]
      ·simp[hq];omega
     have hnil:∀ (s:Bys),(s==[])=decide (s=[]):=fun s=>by cases s<;>rfl
     simp only[hR,afJ,hgt,hnil]
     generalize inR y.2.1 (-100) 100 9=b1
     generalize inR y.2.1 (-1000000000) 1000000000 9=b2
     generalize decide (y.2.1.2<=d)=b3
     generalize y.1=p
     by_cases hn:y.2.2=[]
     ·cases p<;>cases b1<;>cases b2<;>cases b3<;>cases line<;>simp[aJ,hw,hnil,hn,hR]
     ·cases h4:(fe (fun x:ak=>x.1) y.2.2 g).isSome<;>cases p<;>cases b1<;>cases b2<;>cases b3<;>cases line<;>simp[aJ,hw,hnil,hn,hR,h4]
   ·rw[af8 hd,af8 hd];rfl
  ·intro again
   unfold lB
   dsimp only
   rw[aM (by omega)]
  ·omega
theorem zK (v:ai) (l:List aj) (line:Bool) (hl:v.2.2.2.2.2.2.1.length<1000000000) (hp:0<=v.2.2.2.1/\v.2.2.2.1<=9):iJ v l line=some (iy v.2.2.2.1 v.2.2.2.2.2.2.1 line l,()):=by
 unfold iJ iy
 by_cases hb:20<l.length
 ·rw[aI (by omega),af9 hb]
 ·rw[aM (by omega),af8 hb]
  obtain⟨a,b,c,d,e,f,g,h,k⟩:=v
  dsimp only at*
  have hR:∀ t,fB (a,b,c,d,e,f,g,h,k) t=some (ixI (fe (·.1) t g),()):=fun t=>GA _ t hl
  rw[sw (f:=mG) (fun i=>((line,l,(l.length:Int),(i:Int),a,b,c,d,e,f,g,h,k,()):mH)) l (fun _ x=>OI d g line x) () ?_ ?_ ?_ _ ?_]
  ·exact XH _ _
  ·rfl
  ·intro i y again hy
   have hi:=(aen.1 hy).1
   unfold mG
   dsimp only
   rw[aI (by omega),cr,hy,afJ,xz,afJ,aK (n:=(i:Int)+1) (by omega) (by omega)]
   unfold OI
   by_cases hd:bY y.2.1
   ·rw[af9 hd,zne,afW,af9 hd]
    by_cases h0:y.2.1.1=0
    ·rw[show (y.2.1.1==0)=true by simpa using h0,afX,af9 h0];rfl
    ·rw[show (y.2.1.1==0)=false by simpa using h0,afW,af8 h0]
     rw[rf y.2.1 (-100) 100 9 (by decide) (by decide),rf y.2.1 (-1000000000) 1000000000 d (by decide) (by decide)]
     have hnil:∀ (s:Bys),(s==[])=decide (s=[]):=fun s=>by cases s<;>rfl
     simp only[hR,VA,afJ,hnil]
     generalize inR y.2.1 (-100) 100 9=b1
     generalize inR y.2.1 (-1000000000) 1000000000 d=b2
     generalize y.1=p
     generalize (fe (fun x:ak=>x.1) y.2.2 g).isSome=b4
     by_cases hn:y.2.2=[]
     ·simp only[hn,af3,aga]
      cases p<;>cases b1<;>cases b2<;>cases line<;>cases b4<;>simp
     ·simp only[hn,af2,af7]
      cases p<;>cases b1<;>cases b2<;>cases line<;>cases b4<;>simp
   ·rw[af8 hd,af8 hd];rfl
  ·intro again
   unfold mG
   dsimp only
   rw[aM (by omega)]
  ·omega
end Go.Md
namespace Go.Md
open Go.Dn
theorem Bb {α:Type} (l:List α):((l.length:Int)==0)=decide (l.length=0):=by
 cases l with
 | nil=>rfl
 | cons a r=>rw[show decide ((a::r).length=0)=false by simp,afS];simp only[aez];omega
def wN (l:List ak) (i:Nat) (y:ak):Bool:=match i with
 | 0=>false
 | i+1=>match l[i]? with
  | some p=>Op.bytesLess y.1 p.1||y.1==p.1
  | none=>false
def CQ (l:List ak) (i:Nat) (r:ak):Int:=if eG r.1=false then 5 else if wN l i r=true then 8 else if inR r.2 0 100 9=true then 0 else 1
def kY (l:List ak):Int:=if l.length=0 then 9 else if 20<l.length then 2 else gC (CQ l) 0 l
theorem TX {l:List ak} (h:∀ i y,l[i]? =some y->wN l i y=false):Asc (·.1) l:=by
 have step:∀ i x y,l[i]? =some x->l[i+1]? =some y->Op.bytesLess x.1 y.1=true:=fun i x y hx hy=>by
  have:=h (i+1) y hy
  simp only[wN,hx,adw,afS] at this
  rcases X9 x.1 y.1 with h1 | h1 | h1
  ·exact h1
  ·exact absurd h1.symm this.2
  ·rw[this.1] at h1;cases h1
 intro i j x y hij hx hy
 induction j generalizing y with
 | zero=>omega
 | succ j ih=>
  rcases afw.1 hij with h1 | h1
  ·have hj:j<l.length:=by have:=(aen.1 hy).1;omega
   have hz:l[j]? =some l[j]:=aP hj
   exact yE (ih _ h1 hz) (step j _ y hz hy)
  ·subst h1;exact step i x y hx hy
theorem DC {l:List ak} (h:kY l=0):0<l.length/\l.length<=20/\Asc (·.1) l/\∀ r∈l,inR r.2 0 100 9=true:=by
 unfold kY at h
 split at h
 ·omega
 ·split at h
  ·omega
  ·have hz:=sM h
   refine⟨by omega,by omega,TX fun i y hy=> ?_,fun r hr=> ?_⟩
   ·have:=hz i y hy
    rw[afH] at this
    unfold CQ at this
    split at this
    ·omega
    ·split at this
     ·omega
     ·rename_i h1;simpa using h1
   ·obtain⟨i,hi⟩:=aeS.1 hr
    have:=hz i r hi
    rw[afH] at this
    unfold CQ at this
    split at this
    ·omega
    ·split at this
     ·omega
     ·split at this
      ·assumption
      ·omega
theorem WO {d:ah} (h:bY d) (hi:Int):inR d 0 hi 9=(!decide (d.1<0)&&inR d (-hi) hi 9):=by
 have hp:=qS d.2.toNat
 unfold inR
 rw[<- decide_not, <- Bool.decide_and,afY]
 constructor
 ·rintro⟨h1,h2,h3,h4⟩
  rw[Int.zero_mul] at h3
  refine⟨by omega,h1,h2, ?_,h4⟩
  rw[Int.neg_mul]
  have:0<=hi*10 ^ d.2.toNat:=by omega
  omega
 ·rintro⟨h0,h1,h2,h3,h4⟩
  exact⟨h1,h2,by rw[Int.zero_mul];omega,h4⟩
theorem Tv {l:List ak} {i:Nat} (hi:i+1<l.length+1) (hl:l.length<1000000000):idx l (w64 (((i+1:Nat):Int) - 1))=l[i]? :=by
 rw[aK (by omega) (by omega),show ((i+1:Nat):Int) - 1=((i:Nat):Int) by omega,cr]
theorem Hu (l:List ak) (hl:l.length<1000000000):jK l=some (kY l,()):=by
 unfold jK kY
 by_cases h0:l.length=0
 ·rw[Bb,af0 h0,afX,af9 h0]
 ·rw[Bb,afZ h0,afW,af8 h0]
  by_cases hb:20<l.length
  ·rw[aI (by omega),af9 hb]
  ·rw[aM (by omega),af8 hb]
   rw[sw (f:=me) (fun i=>((l,l,(l.length:Int),(i:Int),()):mg)) l (CQ l) () ?_ ?_ ?_ _ ?_]
   ·exact XH _ _
   ·rfl
   ·intro i y again hy
    have hi:=(aen.1 hy).1
    unfold me
    dsimp only
    rw[aI (by omega),cr,hy,afJ,Aj,afJ,aK (n:=(i:Int)+1) (by omega) (by omega)]
    unfold CQ
    cases hn:eG y.1 with
    | false=>simp
    | true=>
     have tail:(Option.bind (b8 y.2) fun r5=>bif r5.1 != 0 then some (Sum.inl (r5.1,())) else bif decide (y.2.1<0) then some (Sum.inl (1,())) else Option.bind (dR y.2 100) fun r6=>bif !r6.1 then some (Sum.inl (1,())) else again (l,l,(l.length:Int),(i:Int)+1,()))=if (if inR y.2 0 100 9=true then (0:Int) else 1)=0 then again (l,l,(l.length:Int),((i+1:Nat):Int),()) else some (Sum.inl (1,())):=by
      rw[gk,afJ]
      by_cases hd:bY y.2
      ·rw[WO hd 100,oA hd 100 (by omega) (by omega)]
       generalize inR y.2 (-100) 100 9=b
       by_cases hneg:y.2.1<0
       ·simp[hd,hneg]
       ·cases b<;>simp[hd,hneg]
      ·have:inR y.2 0 100 9=false:=by unfold inR;simp[hd]
       simp[hd,this]
     simp only[adv,afW,adz,af7]
     cases i with
     | zero=>
      rw[aM (by omega),tail]
      simp only[wN,ado,af7]
      split<;>simp_all
     | succ i=>
      have hp:l[i]? =some (l[i]'(by omega)):=aP (by omega)
      rw[aI (by omega),Tv (by omega) hl,hp,afJ]
      have ep:wN l (i+1) y=(Op.bytesLess y.1 (l[i]'(by omega)).1||y.1==(l[i]'(by omega)).1):=by simp only[wN,hp]
      rw[ep]
      cases (Op.bytesLess y.1 (l[i]'(by omega)).1||y.1==(l[i]'(by omega)).1) with
      | true=>simp
      | false=>
       simp only[afW]
       rw[tail]
       simp only[ado,af7]
       split<;>simp_all
   ·intro again
    unfold me
    dsimp only
    rw[aM (by omega)]
   ·omega
def IX (l:List aa) (i:Nat) (y:aa):Bool:=match i with
 | 0=>false
 | i+1=>match l[i]? with
  | some p=>decide (y.1<=p.1)
  | none=>false
def oH (pl:Int) (rates:List ak) (lines:List aa) (i:Nat) (x:aa):Int:=
 if x.1<1\/99999<x.1 then 1
 else if IX lines i x=true then 8
 else if x.2.1<1\/99999<x.2.1 then 1
 else if eG x.2.2.1=false then 5
 else if inR x.2.2.2.1 (-1000000000) 1000000000 3=false then 1
 else if x.2.2.2.1.1=0 then 13
 else if eG x.2.2.2.2.1=false then 5
 else if inR x.2.2.2.2.2.1 0 1000000000 4=false then 1
 else if x.2.2.2.2.2.2.1<1\/100000<x.2.2.2.2.2.2.1 then 1
 else if iy pl rates true x.2.2.2.2.2.2.2.1≠0 then iy pl rates true x.2.2.2.2.2.2.2.1
 else if (fe (·.1) x.2.2.2.2.2.2.2.2 rates).isSome=true then 0 else 5
theorem Pk (n:Int) (h0:0<=n) (h1:n<=18):Dx n=some (10 ^ n.toNat,()):=Gk n h0 h1
theorem GY (d:ah):kW d=some (if inR d 0 1000000000 4=true then 0 else 1,()):=by
 unfold kW BK
 rw[gk,afJ]
 by_cases hd:bY d
 ·have hp:=qS d.2.toNat
  have hp2:(10:Int) ^ d.2.toNat<=1000000000:=by
   have:=afF (n:=10) (by omega) (show d.2.toNat<=9 by have:=hd.2.2;omega)
   have h2:=Int.ofNat_le.2 this
   simpa using h2
  rw[Pk d.2 hd.2.1 (by have:=hd.2.2;omega)]
  dsimp only
  rw[af9 hd,zne,afW]
  have e:inR d 0 1000000000 4=(decide (d.2<=4)&&(decide (d.1>=0)&&decide (d.1<=1000000000*10 ^ d.2.toNat))):=by
   unfold inR
   rw[<- Bool.decide_and, <- Bool.decide_and,afY,Int.zero_mul]
   constructor
   ·rintro⟨_,h2,h3,h4⟩;exact⟨h2,h3,h4⟩
   ·rintro⟨h2,h3,h4⟩;exact⟨hd,h2,h3,h4⟩
  rw[e,afJ,aK (n:=1000000000*10 ^ d.2.toNat) (by omega) (by omega)]
  cases decide (d.2<=4)<;>cases decide (d.1>=0)<;>cases decide (d.1<=1000000000*10 ^ d.2.toNat)<;>rfl
 ·have:inR d 0 1000000000 4=false:=by unfold inR;simp[hd]
  simp[hd,this]
end Go.Md
namespace Go.Md
open Go.Dn
theorem IK:∀ (n:Nat) (l:List Nat),l.Nodup->(∀ x∈l,x<n)->l.length<=n
 | 0,l,_,h=>by
  cases l with
  | nil=>simp
  | cons a r=>exact absurd (h a (by simp)) (afE _)
 | n+1,l,hd,h=>by
  by_cases hm:n∈l
  ·have h1:=IK n (l.erase n) (hd.erase n) (fun x hx=>by
    have:=(hd.mem_erase_iff).1 hx
    have:=h x this.2
    omega)
   rw[List.length_erase_of_mem hm] at h1
   omega
  ·have:=IK n l hd (fun x hx=>by
    have h2:=h x hx
    have:x≠n:=fun e=>hm (e ▸ hx)
    omega)
   omega
def itp (par:Nat->Option Nat):Nat->Nat->Option Nat
 | 0,i=>some i
 | j+1,i=>(par i).bind (itp par j)
def zY (par:Nat->Option Nat) (i k d:Nat):Prop:=itp par (d+1) k=some i/\∀ e,e<d->itp par (e+1) k≠some i
theorem zY.uniq {par:Nat->Option Nat} {i k d e:Nat} (h:zY par i k d) (h':zY par i k e):d=e:=by
 rcases afz d e with h1 | h1 | h1
 ·exact absurd h.1 (h'.2 d h1)
 ·exact h1
 ·exact absurd h'.1 (h.2 e h1)
theorem zY.step {par:Nat->Option Nat} {i k d:Nat} (h:zY par i k d):∃ k',par k=some k'/\((k'=i/\d=0)\/(k'≠i/\∃ e,d=e+1/\zY par i k' e)):=by
 obtain⟨h1,h2⟩:=h
 simp only[itp] at h1
 cases hp:par k with
 | none=>rw[hp] at h1;cases h1
 | some k'=>
  rw[hp] at h1
  refine⟨k',rfl, ?_⟩
  cases d with
  | zero=>simp only[afJ,itp,Option.some.injEq] at h1;exact .inl ⟨h1,rfl⟩
  | succ e=>
   right
   refine⟨fun e1=> ?_,e,rfl,by simpa using h1,fun f hf hx=> ?_⟩
   ·refine h2 0 (by omega) ?_
    simp only[itp,hp,afJ,e1]
   ·refine h2 (f+1) (by omega) ?_
    rw[show f+1+1=(f+1)+1 from rfl]
    show (par k).bind (itp par (f+1))=some i
    rw[hp];exact hx
theorem zY.list {par:Nat->Option Nat} {i n:Nat} (hn:∀ k k',par k=some k'->k'<n):∀ {d k:Nat},k<n->zY par i k d->∃ l:List Nat,l.length=d+1/\l.Nodup/\(∀ x∈l,x<n)/\∀ x∈l,∃ e,e<=d/\zY par i x e
 | 0,k,hk,h=>⟨[k],rfl,by simp,by simpa using hk,fun x hx=>by simp at hx;subst hx;exact⟨0,afq _,h⟩⟩
 | d+1,k,hk,h=>by
  obtain⟨k',h1,h2⟩:=h.step
  rcases h2 with ⟨_,h2⟩ | ⟨_,e,h2,h3⟩
  ·omega
  ·have:e=d:=by omega
   subst this
   obtain⟨l,l1,l2,l3,l4⟩:=zY.list hn (hn _ _ h1) h3
   refine⟨k::l,by simp[l1],ae1.2 ⟨fun hm=> ?_,l2⟩,fun x hx=> ?_,fun x hx=> ?_⟩
   ·obtain⟨f,f1,f2⟩:=l4 k hm
    have:=f2.uniq h
    omega
   ·rcases aeO.1 hx with rfl | hx
    ·exact hk
    ·exact l3 x hx
   ·rcases aeO.1 hx with rfl | hx
    ·exact⟨e+1,afq _,h⟩
    ·obtain⟨f,f1,f2⟩:=l4 x hx;exact⟨f,by omega,f2⟩
theorem zY.le {par:Nat->Option Nat} {i n d k:Nat} (hn:∀ k k',par k=some k'->k'<n) (hk:k<n) (h:zY par i k d):d+1<=n:=by
 obtain⟨l,l1,l2,l3,_⟩:=h.list hn hk
 have:=IK n l l2 l3
 omega
end Go.Md
namespace Go.Md
open Go.Dn
def dz (c:UInt8):Bool:=decide (48<=c.toNat)&&decide (c.toNat<=57)
theorem Sy {c:UInt8}:(decide ((c.toNat:Int)<48)=false/\decide ((c.toNat:Int)>57)=false)↔dz c=true:=by
 simp only[dz,adj,af1,decide_eq_false_iff_not]
 omega
theorem wz (s:Bys) (hs:s.length<=9223372036854775807):nO s=some (decide (s≠[])&&s.all dz,()):=by
 unfold nO Du
 by_cases h0:s=[]
 ·subst h0;rfl
 ·rw[show (!(s==[]))=true by cases s<;>simp_all,afX,af0 h0,ady]
  have loop:∀ f,s.length<f->iter f ((s,(48:Int),(57:Int),(s.length:Int),(0:Int),()):nN) sB=(if s.all dz=true then some (Sum.inr ()) else some (Sum.inl (false,()))):=by
   intro f hf
   refine dG (Inv:=fun i X=>X=((s,(48:Int),(57:Int),(s.length:Int),(i:Int),()):nN)/\(s.take i).all dz=true) s.length
    (fun r=>r=(if s.all dz=true then some (Sum.inr ()) else some (Sum.inl (false,())))) ?_ ?_ f 0 _ ⟨rfl,by simp⟩ (by omega) (by omega)
   ·rintro i _ again hi ⟨rfl,hb⟩ ih
    unfold sB
    dsimp only
    have hy:s[i]? =some s[i]:=aP hi
    have hym:s[i]∈s:=aew hi
    generalize s[i]=y at hy hym
    rw[aI (by omega),F6 hy,afJ,afJ,aK (by omega) (by omega)]
    cases hd:dz y with
    | true=>
     obtain⟨h1,h2⟩:=Sy.2 hd
     rw[h1,h2,afW,afW]
     refine ih _ ⟨rfl, ?_⟩
     rw[jV hy]
     simp[hb,hd]
    | false=>
     have hall:s.all dz=false:=by
      rw[List.all_eq_false]
      exact⟨y,hym,by simp[hd]⟩
     rw[hall]
     cases h1:decide ((y.toNat:Int)<48) with
     | true=>rfl
     | false=>
      cases h2:decide ((y.toNat:Int)>57) with
      | true=>rfl
      | false=>have:=Sy.1 ⟨h1,h2⟩;rw[hd] at this;cases this
   ·rintro _ again ⟨rfl,hb⟩
    unfold sB
    dsimp only
    rw[aM (by omega)]
    rw[afd (afq _)] at hb
    rw[af9 hb]
  rw[loop _ (by omega)]
  cases s.all dz<;>rfl
end Go.Md
