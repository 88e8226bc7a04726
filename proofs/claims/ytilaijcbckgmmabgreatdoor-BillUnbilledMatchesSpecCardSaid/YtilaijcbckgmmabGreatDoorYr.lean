/-
  Plain facts: products, powers, rounding; the order of strings; decimals. No condition.
-/
import Derived.Test.YtilaijcbckgmmabGreatDoorYq
import Derived.Test.YtilaijcbckgmmabGreatDoorYn
import Derived.Test.YtilaijcbckgmmabGreatDoorYp
set_option linter.all false
namespace Go.Md
open Go.Dn
theorem zne:((0:Int) != 0)=false:=rfl
theorem UG (a b:List Int):IY a b=DV a b:=rfl
theorem yG (x y:Int) (hx:x.natAbs<4294967296 ^ 99) (hy:y.natAbs<4294967296 ^ 99):nJ (W x) (W y)=some (W (x+y),()):=by
 have hlx:=sN hx
 have hly:=sN hy
 unfold nJ W
 dsimp only
 by_cases hs:decide (x<0)=decide (y<0)
 ·rw[show (decide (x<0)==decide (y<0))=true by simp[hs],aiz,UG]
  obtain⟨s,h1,h2,h3,h4⟩:=Od (bC x.natAbs) (bC y.natAbs) (er _) (er _) (by omega) (by omega)
  rw[h1,aim]
  dsimp only
  rw[kj _ _ h2 (by omega),aim,h3,ef,ef]
  simp only[aiA] at hs
  show some (W _,())=some (W (x+y),())
  congr 3
  by_cases h:x<0
  ·simp only[h,aiG,aiN];omega
  ·simp only[h,aiF,afV,aiK];omega
 ·rw[show (decide (x<0)==decide (y<0))=false by simp[hs],aiy]
  obtain⟨c,h1,h2,h3⟩:=He x.natAbs y.natAbs (by omega) (by omega)
  rw[h1,aim]
  dsimp only
  simp only[aiA] at hs
  have hlen:∀ a b:Nat,b<=a->(bC b).length<=(bC a).length:=fun a b h=>by
   rcases ah4 (bC a).length (bC b).length with h' | h'
   ·have:=nB h';omega
   ·exact h'
  by_cases hc:c>=0
  ·rw[aG hc,Et _ _ (er _) (er _) (by omega) (hlen _ _ (by omega)) (by rw[ef,ef];omega),aim]
   dsimp only
   rw[kj _ _ (er _) (by have:=hlen x.natAbs (v32 (bC x.natAbs) - v32 (bC y.natAbs)).toNat (by rw[ef,ef];omega);omega),aim]
   rw[ef,ef,ef]
   show some (W _,())=some (W (x+y),())
   congr 3
   by_cases h:x<0
   ·simp only[h,aiG,aiN];omega
   ·simp only[h,aiF,afV,aiK];omega
  ·rw[aK hc,Et _ _ (er _) (er _) (by omega) (hlen _ _ (by omega)) (by rw[ef,ef];omega),aim]
   dsimp only
   rw[kj _ _ (er _) (by have:=hlen y.natAbs (v32 (bC y.natAbs) - v32 (bC x.natAbs)).toNat (by rw[ef,ef];omega);omega),aim]
   rw[ef,ef,ef]
   show some (W _,())=some (W (x+y),())
   congr 3
   by_cases h:y<0
   ·simp only[h,aiG,aiN];omega
   ·simp only[h,aiF,afV,aiK];omega
theorem yF (x y:Int) (hx:x.natAbs<4294967296 ^ 99) (hy:y.natAbs<4294967296 ^ 99):nI (W x) (W y)=some (W (x - y),()):=by
 unfold nI
 rw[DU y hy,aim]
 dsimp only
 rw[yG x (-y) hx (by omega),aim,Int.sub_eq_add_neg]
theorem BU (x y:Int) (hx:x.natAbs<4294967296 ^ 99) (hy:y.natAbs<4294967296 ^ 99):mX (W x) (W y)=some ((x - y).sign,()):=by
 unfold mX
 rw[yF x y hx hy,aim]
 dsimp only
 rw[jZ,aim]
theorem Y3 {x y z c:Int} (hx:0<=x/\x<4294967296) (hy:0<=y/\y<4294967296) (hz:0<=z/\z<4294967296) (hc:0<=c/\c<4294967296):0<=x*y/\x*y<=18446744065119617025/\c+(z+x*y)<=18446744073709551615:=by
 have h1:0<=x*y:=agd hx.1 hy.1
 have h2:x*y<=4294967295*4294967295:=Int.mul_le_mul (by omega) (by omega) (by omega) (by omega)
 omega
theorem Pe (i:Nat) (x:Int) (ga:List Int) (gn gi:Int) (b:List Int) (s1:Bool) (l1:List Int) (s2:Bool) (l2:List Int) (s3:Bool) (l3:List Int) (out:List Int) (hx:0<=x/\x<4294967296) (hb:Dg b) (hbl:b.length<10000) (hil:i<10000) (ho:i+b.length<=out.length) (hol:out.length<100000) (hd:Dg out) (n:Nat) (hn:b.length<n): ∃ o c,iter n (((i:Int),x,(0:Int),ga,gn,gi,b,(b.length:Int),(0:Int),s1,l1,s2,l2,s3,l3,out,()):lX) qA=some (Sum.inr ((i:Int),c,ga,gn,gi,s1,l1,s2,l2,s3,l3,o,()))/\ Dg o/\o.length=out.length/\0<=c/\c<4294967296/\v32 o+4294967296 ^ (i+b.length)*c=v32 out+4294967296 ^ i*x*v32 b/\∀ j,i+b.length<=j->o[j]? =out[j]? :=by
 refine cx (Inv:=fun k X=>∃ o c,X=(((i:Int),x,c,ga,gn,gi,b,(b.length:Int),(k:Int),s1,l1,s2,l2,s3,l3,o,()):lX)/\Dg o/\o.length=out.length/\0<=c/\c<4294967296/\v32 o+4294967296 ^ (i+k)*c=v32 out+4294967296 ^ i*x*v32 (b.take k)/\∀ j,i+k<=j->o[j]? =out[j]?) b.length
  (fun r=>∃ o c,r=some (Sum.inr ((i:Int),c,ga,gn,gi,s1,l1,s2,l2,s3,l3,o,()))/\Dg o/\o.length=out.length/\0<=c/\c<4294967296/\v32 o+4294967296 ^ (i+b.length)*c=v32 out+4294967296 ^ i*x*v32 b/\∀ j,i+b.length<=j->o[j]? =out[j]?) ?_ ?_ n 0 _ ⟨out,0,rfl,hd,rfl,by omega,by omega,by simp[CA],fun _ _=>rfl⟩ (by omega) (by omega)
 ·rintro k _ again hk ⟨o,c,rfl,h1,h2,h3,h4,h5,h6⟩ ih
  unfold qA
  dsimp only
  have hy:b[k]? =some b[k]:=bp hk
  have hyd:=hb.get hy
  have hts:=iQ hy
  have hz:o[i+k]? =some (o[i+k]'(by omega)):=bp (by omega)
  have hzd:=h1.get hz
  generalize b[k]=y at hy hyd hts
  generalize o[i+k]'(by omega)=z at hz hzd
  obtain⟨m1,m2,m3⟩:=Y3 hx hyd hzd ⟨h3,h4⟩
  have e1:w64 ((i:Int)+(k:Int))=((i+k:Nat):Int):=by rw[ax (by omega) (by omega)];omega
  rw[aG (by omega),bD,hy,aim,e1,bG (by simp only[afP,aiE];omega),agq,hz,aim,bG (by simp only[afP,aiE];omega),aim,
   dU (n:=x) (by omega) (by omega),dU (n:=y) (by omega) (by omega),dU (n:=z) (by omega) (by omega),dU (n:=x*y) (by omega) (by omega),dU (n:=z+x*y) (by omega) (by omega),dU (n:=c+(z+x*y)) (by omega) (by omega),CG,Xa,ax (n:=(k:Int)+1) (by omega) (by omega)]
  generalize ht:c+(z+x*y)=t at*
  refine ih _ ⟨_,_,rfl,h1.set (by omega),by rw[ahd];exact h2,by omega,by omega, ?_,fun j hj=> ?_⟩
  ·rw[OD hz,hts]
   have e2:(4294967296:Int) ^ (i+(k+1))=4294967296 ^ i*4294967296 ^ k*4294967296:=by rw[<- ahQ,agl,agk]
   have e3:(4294967296:Int) ^ (i+k)=4294967296 ^ i*4294967296 ^ k:=agk ..
   rw[e3] at h5
   rw[e2,e3]
   have e4:=Int.mul_ediv_add_emod t 4294967296
   generalize (4294967296:Int) ^ i=p at*
   generalize (4294967296:Int) ^ k=q at*
   generalize t / 4294967296=d at*
   generalize t % 4294967296=r at*
   grind
  ·rw[ag1 (by omega)];exact h6 j (by omega)
 ·rintro _ again ⟨o,c,rfl,h1,h2,h3,h4,h5,h6⟩
  unfold qA
  dsimp only
  rw[aK (by omega)]
  rw[ahN (ahY _)] at h5
  exact⟨o,c,rfl,h1,h2,h3,h4,h5,h6⟩
theorem Pf (a b:List Int) (ha:Dg a) (hb:Dg b) (hal:a.length<1000) (hbl:b.length<1000) (s1 s2 s3:Bool) (l3:List Int) (n:Nat) (hn:a.length<n): ∃ o,iter n ((a,(a.length:Int),(0:Int),s1,a,s2,b,s3,l3,List.replicate (a.length+b.length) 0,()):lW) qz=some (Sum.inr (s1,a,s2,b,s3,l3,o,()))/\Dg o/\o.length=a.length+b.length/\v32 o=v32 a*v32 b:=by
 refine cx (Inv:=fun i X=>∃ o,X=((a,(a.length:Int),(i:Int),s1,a,s2,b,s3,l3,o,()):lW)/\Dg o/\o.length=a.length+b.length/\v32 o=v32 (a.take i)*v32 b/\∀ j,i+b.length<=j->j<a.length+b.length->o[j]? =some 0) a.length
  (fun r=>∃ o,r=some (Sum.inr (s1,a,s2,b,s3,l3,o,()))/\Dg o/\o.length=a.length+b.length/\v32 o=v32 a*v32 b) ?_ ?_ n 0 _ ⟨_,rfl,fun d hd=>by rw[List.mem_replicate] at hd;omega,by simp,by rw[LN];simp[CA],fun j _ hj=>by rw[agZ,aiM hj]⟩ (by omega) (by omega)
 ·rintro i _ again hi ⟨o,rfl,h1,h2,h3,h4⟩ ih
  unfold qz
  dsimp only
  have hy:a[i]? =some a[i]:=bp hi
  have hyd:=ha.get hy
  have hts:=iQ hy
  generalize a[i]=x at hy hyd hts
  rw[aG (by omega),bD,hy,aim]
  obtain⟨o',c,k1,k2,k3,k4,k5,k6,k7⟩:=Pe i x a (a.length:Int) (i:Int) b s1 a s2 b s3 l3 o hyd hb (by omega) (by omega) (by omega) (by omega) h1 (Int.natAbs (i:Int)+(Int.natAbs x+(Int.natAbs (0:Int)+(List.length a+(Int.natAbs (a.length:Int)+(Int.natAbs (i:Int)+(List.length b+(Int.natAbs ((List.length b:Int))+(Int.natAbs (0:Int)+(List.length a+(List.length b+(List.length l3+(List.length o+2))))))))))))) (by omega)
  rw[k1,aR]
  dsimp only
  have e1:w64 ((i:Int)+(b.length:Int))=((i+b.length:Nat):Int):=by rw[ax (by omega) (by omega)];omega
  have hz:o'[i+b.length]? =some 0:=by rw[k7 _ (ahY _)];exact h4 _ (ahY _) (by omega)
  rw[e1,bG (by simp only[afP,aiE];omega),agq,hz,aim,CF (by omega) (by omega),ax (n:=(i:Int)+1) (by omega) (by omega)]
  refine ih _ ⟨_,rfl,k2.set (by omega),by rw[ahd];omega, ?_,fun j hj hj2=> ?_⟩
  ·rw[OD hz,hts]
   have e3:(4294967296:Int) ^ (i+b.length)=4294967296 ^ i*4294967296 ^ b.length:=agk ..
   rw[e3] at k6 ⊢
   grind
  ·rw[ag1 (by omega),k7 j (by omega)];exact h4 j (by omega) hj2
 ·rintro _ again ⟨o,rfl,h1,h2,h3,h4⟩
  unfold qz
  dsimp only
  rw[aK (by omega)]
  rw[ahN (ahY _)] at h3
  exact⟨o,rfl,h1,h2,h3⟩
theorem jk (x y:Int) (hx:x.natAbs<4294967296 ^ 99) (hy:y.natAbs<4294967296 ^ 99):gd (W x) (W y)=some (W (x*y),()):=by
 have hlx:=sN hx
 have hly:=sN hy
 unfold gd W
 dsimp only
 have e1:w64 (((bC x.natAbs).length:Int)+((bC y.natAbs).length:Int))=(((bC x.natAbs).length+(bC y.natAbs).length:Nat):Int):=by rw[ax (by omega) (by omega)];omega
 rw[e1,bG (by simp only[afP,aiE];omega)]
 obtain⟨o,h1,h2,h3,h4⟩:=Pf (bC x.natAbs) (bC y.natAbs) (er _) (er _) (by omega) (by omega) (decide (x<0)) (decide (y<0)) false [] (List.length (bC x.natAbs)+(Int.natAbs ((List.length (bC x.natAbs):Int))+(Int.natAbs (0:Int)+(List.length (bC x.natAbs)+(List.length (bC y.natAbs)+(List.length ([]:List Int)+(List.length ((List.replicate (Int.toNat (((bC x.natAbs).length+(bC y.natAbs).length:Nat):Int)) 0):List Int)+2))))))) (by omega)
 rw[agq] at h1 ⊢
 rw[h1,aR]
 dsimp only
 rw[kj _ _ h2 (by omega),aim,h4,ef,ef]
 show some (W _,())=some (W (x*y),())
 congr 3
 rw[<- Int.natCast_mul, <- agf]
 by_cases h:x<0<;>by_cases h':y<0
 ·have:=Int.mul_pos_of_neg_of_neg h h'
  simp[h,h'];omega
 ·have:=agd (show 0<= -x by omega) (show 0<=y by omega)
  rw[Int.neg_mul] at this
  simp[h,h'];omega
 ·have:=agd (show 0<=x by omega) (show 0<= -y by omega)
  rw[Int.mul_neg] at this
  simp[h,h'];omega
 ·have:=agd (show 0<=x by omega) (show 0<=y by omega)
  simp[h,h'];omega
end Go.Md
namespace Go.Md
open Go.Dn
def Le (k:Nat) (z:Int):Prop:=z.natAbs<=10 ^ k
theorem Le.mono {a b:Nat} {x:Int} (hx:Le a x) (h:a<=b):Le b x:=ahZ hx (aih (by omega) h)
theorem Le.w {k:Nat} {z:Int} (h:Le k z) (hk:k<=900):z.natAbs<4294967296 ^ 99:=
 ah2 (h.mono hk) (by decide +kernel)
theorem Le.pow (n:Nat):Le n (10 ^ n):=by
 unfold Le
 rw[agi];exact ahY _
theorem Le.int {n:Int} (h1: -9223372036854775808<=n) (h2:n<=9223372036854775807):Le 19 n:=by unfold Le;omega
theorem UD (n:Nat) (hn:n<=60):Dc (n:Int)=some (W (10 ^ n),()):=by
 unfold Dc
 rw[nD 1 (by omega) (by omega),aim]
 dsimp only
 have loop:∀ (f:Nat),n<f->iter f (((n:Int),(0:Int),false,([]:List Int),(W 1).1,(W 1).2,()):sr) xV=some (Sum.inr (false,[],(W (10 ^ n)).1,(W (10 ^ n)).2,())):=by
  intro f hf
  refine cx (Inv:=fun i X=>X=(((n:Int),(i:Int),false,([]:List Int),(W (10 ^ i)).1,(W (10 ^ i)).2,()):sr)) n (fun r=>r=some (Sum.inr (false,[],(W (10 ^ n)).1,(W (10 ^ n)).2,()))) ?_ ?_ f 0 _ rfl (by omega) (by omega)
  ·rintro i _ again hi rfl ih
   unfold xV
   dsimp only
   rw[aG (by omega),nD 10 (by omega) (by omega),aim]
   dsimp only
   rw[jk (10 ^ i) 10 ((Le.pow i).w (by omega)) ((Le.int (n:=10) (by omega) (by omega)).w (by omega)),aim,ax (by omega) (by omega)]
   refine ih _ ?_
   rw[agl]
   rfl
  ·rintro _ again rfl
   unfold xV
   dsimp only
   rw[aK (by omega)]
 rw[loop _ (by omega),aR]
theorem PZ (d:ah) (p:Int) (h1: -9223372036854775808<=d.1) (h2:d.1<=9223372036854775807) (hp0:0<=p - d.2) (hp:p - d.2<=60) (hd: -1000<=d.2/\d.2<=1000):zj d p=some (W (d.1*10 ^ (p - d.2).toNat),()):=by
 unfold zj
 rw[nD _ h1 h2,aim,ax (by omega) (by omega)]
 obtain⟨n,hn⟩:∃ n:Nat,p - d.2=n:=⟨(p - d.2).toNat,by omega⟩
 rw[hn,UD n (by omega),aim]
 dsimp only
 rw[jk _ _ ((Le.int h1 h2).w (by omega)) ((Le.pow n).w (by omega)),aim,agq]
end Go.Md
namespace Go.Md
open Go.Dn
end Go.Md
namespace Go.Md
open Go.Dn
end Go.Md
namespace Go.Md
open Go.Dn
theorem rG:∀ a:Bys,Op.bytesLess a a=false
 | []=>rfl
 | x::a=>by simp[Op.bytesLess,rG a]
theorem My:∀ {a b:Bys},Lib.compareBytes a b=0↔a=b
 | [],[]=>by simp[Lib.compareBytes]
 | [],_::_=>by simp[Lib.compareBytes]
 | _::_,[]=>by simp[Lib.compareBytes]
 | x::a,y::b=>by
  simp only[Lib.compareBytes,List.cons.injEq]
  by_cases h1:x<y
  ·simp only[h1,aiN]
   constructor
   ·intro h;omega
   ·rintro⟨rfl,_⟩;exact absurd h1 (UInt8.lt_irrefl x)
  ·by_cases h2:y<x
   ·simp only[h1,h2,aiN,aiK]
    constructor
    ·intro h;omega
    ·rintro⟨rfl,_⟩;exact absurd h2 (UInt8.lt_irrefl x)
   ·have:x=y:=UInt8.le_antisymm (ait.1 h2) (ait.1 h1)
    subst this
    simp only[h1,aiK,true_and]
    exact My
theorem Ki:∀ {a b:Bys},Lib.compareBytes a b<0↔Op.bytesLess a b=true
 | [],[]=>by simp[Lib.compareBytes,Op.bytesLess]
 | [],_::_=>by simp[Lib.compareBytes,Op.bytesLess]
 | _::_,[]=>by simp[Lib.compareBytes,Op.bytesLess]
 | x::a,y::b=>by
  have ih:= @Ki a b
  simp only[Lib.compareBytes,Op.bytesLess]
  by_cases h1:x<y
  ·simp[h1]
  ·by_cases h2:y<x
   ·have hne:¬ x=y:=fun e=>by subst e;exact absurd h2 (UInt8.lt_irrefl x)
    simp[h1,h2,hne]
   ·have:x=y:=UInt8.le_antisymm (ait.1 h2) (ait.1 h1)
    subst this
    simp[h1,ih]
theorem CM:∀ {a b c:Bys},Op.bytesLess a b=true->Op.bytesLess b c=true->Op.bytesLess a c=true
 | [],[],_,h,_=>by simp[Op.bytesLess] at h
 | [],_::_,[],_,h=>by simp[Op.bytesLess] at h
 | [],_::_,_::_,_,_=>rfl
 | _::_,[],_,h,_=>by simp[Op.bytesLess] at h
 | _::_,_::_,[],_,h=>by simp[Op.bytesLess] at h
 | x::a,y::b,z::c,h,k=>by
  simp only[Op.bytesLess,af4,afP,aiE,beq_iff_eq] at h k ⊢
  rcases h with h | ⟨rfl,h⟩
  ·rcases k with k | ⟨rfl,k⟩
   ·exact .inl (UInt8.lt_trans h k)
   ·exact .inl h
  ·rcases k with k | ⟨rfl,k⟩
   ·exact .inl k
   ·exact .inr ⟨rfl,CM h k⟩
theorem aba (a b:Bys):Op.bytesLess a b=true\/a=b\/Op.bytesLess b a=true:=by
 induction a generalizing b with
 | nil=>cases b with
  | nil=>simp
  | cons y b=>simp[Op.bytesLess]
 | cons x a ih=>cases b with
  | nil=>simp[Op.bytesLess]
  | cons y b=>
   simp only[Op.bytesLess,af4,afP,aiE,beq_iff_eq,List.cons.injEq]
   by_cases h1:x<y
   ·simp[h1]
   ·by_cases h2:y<x
    ·simp[h2]
    ·have:x=y:=UInt8.le_antisymm (ait.1 h2) (ait.1 h1)
     subst this
     rcases ih b with h | h | h<;>simp[h]
def Asc {α:Type} (key:α->Bys) (l:List α):Prop:=∀ (i j:Nat) (x y:α),i<j->l[i]? =some x->l[j]? =some y->Op.bytesLess (key x) (key y)=true
def gf {α:Type} (key:α->Bys) (t:Bys) (l:List α):Option Nat:=l.findIdx? (fun r=>key r==t)
theorem HE {α:Type} {key:α->Bys} {t:Bys} {l:List α} {k:Nat} (h:gf key t l=some k):∃ x,l[k]? =some x/\key x=t:=by
 unfold gf at h
 rw[agM] at h
 obtain⟨h1,h2,_⟩:=h
 exact⟨_,agU h1,by simpa using h2⟩
theorem abN {α:Type} {key:α->Bys} {t:Bys} {l:List α} (h:gf key t l=none):∀ x∈l,key x≠t:=by
 unfold gf at h
 rw[agL] at h
 intro x hx e
 have:=h x hx
 simp[e] at this
theorem ad6 {α:Type} {key:α->Bys} {t:Bys} {l:List α} (hs:Asc key l) {k:Nat} {x:α} (hk:l[k]? =some x) (hx:key x=t):gf key t l=some k:=by
 cases h:gf key t l with
 | none=>exact absurd hx (abN h x (ahu hk))
 | some j=>
  obtain⟨y,h1,h2⟩:=HE h
  rcases ah8 j k with hlt | rfl | hlt
  ·have:=hs j k y x hlt h1 hk
   rw[h2,hx,rG] at this;cases this
  ·rfl
  ·have:=hs k j x y hlt hk h1
   rw[h2,hx,rG] at this;cases this
def ixI:Option Nat->Int
 | some k=>(k:Int)
 | none=> -1
theorem Zn (o:Option Nat):decide (ixI o<0)= !o.isSome:=by
 cases o with
 | none=>rfl
 | some k=>exact aiB (by simp only[ixI];omega)
theorem LG (v:ai) (t:Bys) (hl:v.2.2.2.2.2.2.1.length<1000000000):fZ v t=some (ixI (gf (·.1) t v.2.2.2.2.2.2.1),()):=by
 unfold fZ
 generalize v.2.2.2.2.2.2.1=l at*
 have loop:∀ f,l.length<f->iter f ((t,l,(l.length:Int),(0:Int),()):uf) zy=(match gf (·.1) t l with | some k=>some (Sum.inl ((k:Int),())) | none=>some (Sum.inr ())):=by
  intro f hf
  refine cx (Inv:=fun i X=>X=((t,l,(l.length:Int),(i:Int),()):uf)/\∀ j x,j<i->l[j]? =some x->x.1≠t) l.length
   (fun r=>r=(match gf (·.1) t l with | some k=>some (Sum.inl ((k:Int),())) | none=>some (Sum.inr ()))) ?_ ?_ f 0 _ ⟨rfl,fun _ _ h=>absurd h (aie _)⟩ (by omega) (by omega)
  ·rintro i _ again hi ⟨rfl,hb⟩ ih
   unfold zy
   dsimp only
   have hy:l[i]? =some l[i]:=bp hi
   generalize l[i]=y at hy
   rw[aG (by omega),bD,hy,aim]
   by_cases he:y.1=t
   ·rw[show (y.1==t)=true by simpa using he,aiz]
    have:gf (·.1) t l=some i:=by
     unfold gf
     rw[agM]
     refine⟨hi, ?_,fun j hj=> ?_⟩
     ·have:=(agW.1 hy).2
      rw[this];simpa using he
     ·have:=hb j l[j] hj (agU _)
      simpa using this
    rw[this]
   ·rw[show (y.1==t)=false by simpa using he,aiy,ax (by omega) (by omega)]
    refine ih _ ⟨rfl,fun j x hj hx=> ?_⟩
    rcases ah6.1 hj with h | h
    ·exact hb j x h hx
    ·subst h;rw[hy] at hx;cases hx;exact he
  ·rintro _ again ⟨rfl,hb⟩
   unfold zy
   dsimp only
   rw[aK (by omega)]
   have:gf (·.1) t l=none:=by
    unfold gf
    rw[agL]
    intro x hx
    obtain⟨j,hj⟩:=ahr.1 hx
    have:=hb j x (agW.1 hj).1 hj
    simpa using this
   rw[this]
 rw[loop _ (by omega)]
 cases gf (·.1) t l<;>rfl
theorem Ww (l:List aD) (t:Bys) (hl:l.length<1000000000) (hs:Asc (·.1) l): ∃ i:Nat,dP l t ()=some ((i:Int),(gf (·.1) t l).isSome,())/\∀ k,gf (·.1) t l=some k->i=k:=by
 unfold dP
 have loop:∀ f,l.length<f->∃ i:Nat,iter f ((l,t,(),(l.length:Int),(0:Int),(l.length:Int),()):cJ) fm=some (Sum.inr (l,t,(),(l.length:Int),(i:Int),()))/\i<=l.length/\(∀ k x,l[k]? =some x->k<i->Op.bytesLess x.1 t=true)/\∀ k x,l[k]? =some x->i<=k->Op.bytesLess x.1 t=false:=by
  intro f hf
  refine HD (Inv:=fun X=>∃ i j:Nat,X=((l,t,(),(l.length:Int),(i:Int),(j:Int),()):cJ)/\i<=j/\j<=l.length/\(∀ k x,l[k]? =some x->k<i->Op.bytesLess x.1 t=true)/\∀ k x,l[k]? =some x->j<=k->Op.bytesLess x.1 t=false)
   (fun X=>(X.2.2.2.2.2.1 - X.2.2.2.2.1).toNat)
   (fun _ r=>∃ i:Nat,r=some (Sum.inr (l,t,(),(l.length:Int),(i:Int),()))/\i<=l.length/\(∀ k x,l[k]? =some x->k<i->Op.bytesLess x.1 t=true)/\∀ k x,l[k]? =some x->i<=k->Op.bytesLess x.1 t=false) ?_ f _ ⟨0,l.length,rfl,by omega,by omega,fun _ _ _ h=>absurd h (aie _),fun k x hk hle=>by have:=(agW.1 hk).1;omega⟩ (by dsimp only;omega)
  rintro _ again ⟨i,j,rfl,hij,hj,h1,h2⟩ ih
  dsimp only at ih
  unfold fm
  dsimp only
  by_cases hlt:i<j
  ·rw[aG (by omega)]
   have em:w64 (Int.fdiv (cn (w64 ((i:Int)+(j:Int)))) (2 ^ 1))=(((i+j) / 2:Nat):Int):=by
    rw[ax (n:=(i:Int)+(j:Int)) (by omega) (by omega),dU (by omega) (by omega),af9 _ (by omega),ax (by omega) (by omega)]
    omega
   rw[em]
   have hm:(i+j) / 2<l.length:=by omega
   have hy:l[(i+j) / 2]? =some l[(i+j) / 2]:=bp hm
   have hmi:i<=(i+j) / 2/\(i+j) / 2<j:=by omega
   generalize (i+j) / 2=m at*
   generalize l[m]=y at hy
   rw[bD,hy,aim]
   show ∃ i,Option.bind (Option.bind (some (Lib.compareBytes y.1 t,())) fun r1=>some (r1.1,())) _=_/\_
   rw[aim,aim]
   dsimp only
   by_cases hc:Lib.compareBytes y.1 t<0
   ·rw[aG hc,ax (by omega) (by omega)]
    refine ih _ ⟨m+1,j,rfl,by omega,hj,fun k x hk hkm=> ?_,h2⟩ (by dsimp only;omega)
    rcases ah6.1 hkm with h | h
    ·have:=hs k m x y h hk hy
     exact CM this (Ki.1 hc)
    ·subst h;rw[hy] at hk;cases hk;exact Ki.1 hc
   ·rw[aK hc]
    refine ih _ ⟨i,m,rfl,by omega,by omega,h1,fun k x hk hkm=> ?_⟩ (by dsimp only;omega)
    have hc':Op.bytesLess y.1 t=false:=by
     cases h:Op.bytesLess y.1 t with
     | false=>rfl
     | true=>exact absurd (Ki.2 h) hc
    rcases Nat.lt_or_eq_of_le hkm with h | h
    ·cases hx:Op.bytesLess x.1 t with
     | false=>rfl
     | true=>rw[CM (hs m k y x h hy hk) hx] at hc';cases hc'
    ·subst h;rw[hy] at hk;cases hk;exact hc'
  ·rw[aK (by omega)]
   have:i=j:=by omega
   subst this
   exact⟨i,rfl,hj,h1,h2⟩
 obtain⟨i,h1,h2,h3,h4⟩:=loop (List.length l+(List.length t+(Int.natAbs ((List.length l:Int))+(Int.natAbs (0:Int)+(Int.natAbs ((List.length l:Int))+2))))) (by omega)
 refine⟨i, ?_,fun k hk=> ?_⟩
 ·rw[h1,aR]
  dsimp only
  by_cases hi:i<l.length
  ·have hy:l[i]? =some l[i]:=bp hi
   generalize l[i]=y at hy
   rw[aG (by omega),bD,hy,aim]
   show Option.bind (Option.bind (some (Lib.compareBytes y.1 t,())) fun r1=>some (r1.1,())) _=_
   rw[aim,aim]
   congr 3
   by_cases he:y.1=t
   ·rw[ad6 hs hy he,My.2 he];rfl
   ·have hne:¬ Lib.compareBytes y.1 t=0:=fun h=>he (My.1 h)
    rw[show (Lib.compareBytes y.1 t==0)=false by simpa using hne]
    cases hx:gf (·.1) t l with
    | none=>rfl
    | some k=>
     exfalso
     obtain⟨x,k1,k2⟩:=HE hx
     rcases ah8 k i with h | h | h
     ·have:=h3 k x k1 h;rw[k2,rG] at this;cases this
     ·subst h;rw[hy] at k1;cases k1;exact he k2
     ·have:=hs i k y x h hy k1
      dsimp only at this
      rw[k2,h4 i y hy (ahY _)] at this;cases this
  ·rw[aK (by omega)]
   congr 3
   cases hx:gf (·.1) t l with
   | none=>rfl
   | some k=>
    exfalso
    obtain⟨x,k1,k2⟩:=HE hx
    have:=h3 k x k1 (by have:=(agW.1 k1).1;omega)
    rw[k2,rG] at this;cases this
 ·obtain⟨x,k1,k2⟩:=HE hk
  rcases ah8 k i with h | h | h
  ·have:=h3 k x k1 h;rw[k2,rG] at this;cases this
  ·exact h.symm
  ·have hy:l[i]? =some (l[i]'(by have:=(agW.1 k1).1;omega)):=bp _
   have:=hs i k _ x h hy k1
   dsimp only at this
   rw[k2,h4 i _ hy (ahY _)] at this;cases this
theorem Tp (l:List aD) (t:Bys) (hl:l.length<1000000000) (hs:Asc (·.1) l): ∃ i:Nat,CL l t=some ((i:Int),(gf (·.1) t l).isSome,())/\∀ k,gf (·.1) t l=some k->i=k:=by
 obtain⟨i,h1,h2⟩:=Ww l t hl hs
 exact⟨i,by unfold CL;rw[h1,aim],h2⟩
theorem Hs (v:ai) (t:Bys) (hl:v.2.2.2.2.2.2.1.length<1000000000) (hs:Asc (·.1) v.2.2.2.2.2.2.1):iG v t=some ((gf (·.1) t v.2.2.2.2.2.2.1).isSome,()):=by
 obtain⟨i,h1,h2⟩:=Tp v.2.2.2.2.2.2.1 t hl hs
 unfold iG
 rw[h1,aim]
end Go.Md
namespace Go.Md
open Go.Dn
instance (d:ah):Decidable (b9 d):=by unfold b9;exact inferInstance
def inR (d:ah) (lo hi pl:Int):Bool:=decide (b9 d/\d.2<=pl/\lo*10 ^ d.2.toNat<=d.1/\d.1<=hi*10 ^ d.2.toNat)
theorem WU {d:ah} (h0:0<=d.2) (h1:d.2<=9) (k:Int):k*10 ^ 9=k*10 ^ d.2.toNat*10 ^ (9 - d.2).toNat:=by
 rw[agb, <- agk,show d.2.toNat+(9 - d.2).toNat=9 by omega]
theorem Zb {d:ah} (h0:0<=d.2) (h1:d.2<=9) (k:Int):k*10 ^ 9<=bZ d↔k*10 ^ d.2.toNat<=d.1:=by
 unfold bZ
 rw[WU h0 h1]
 exact Int.mul_le_mul_right (wu _)
theorem TH {d:ah} (h0:0<=d.2) (h1:d.2<=9) (k:Int):bZ d<=k*10 ^ 9↔d.1<=k*10 ^ d.2.toNat:=by
 unfold bZ
 rw[WU h0 h1]
 exact Int.mul_le_mul_right (wu _)
theorem wB (d:ah) (lo hi pl:Int) (hlo:lo.natAbs<=1000000000000000) (hhi:hi.natAbs<=1000000000000000):kU d lo hi pl=some (inR d lo hi pl,()):=by
 rw[YT d lo hi pl hlo hhi]
 unfold inR
 congr 2
 rw[aiA]
 constructor
 ·rintro⟨h1,h2,h3,h4⟩
  exact⟨h1,h2,(Zb h1.2.1 h1.2.2 lo).1 h3,(TH h1.2.1 h1.2.2 hi).1 h4⟩
 ·rintro⟨h1,h2,h3,h4⟩
  exact⟨h1,h2,(Zb h1.2.1 h1.2.2 lo).2 h3,(TH h1.2.1 h1.2.2 hi).2 h4⟩
theorem gS (d:ah):cA d=some (if b9 d then 0 else 1,()):=by
 rw[Ic]
 congr 2
 by_cases h:b9 d
 ·rw[aiM h,aiM (by unfold b9 at h;omega)]
 ·rw[aiL h,aiL (by unfold b9 at h;omega)]
theorem uS (d:ah):iB d=some (if b9 d then 0 else 1,()):=by
 rw[DI]
 congr 2
 by_cases h:b9 d
 ·rw[aiM h,aiM (by unfold b9 at h;omega)]
 ·rw[aiL h,aiL (by unfold b9 at h;omega)]
theorem sJ {d:ah} (h:b9 d) (most:Int) (hm0:0<=most) (hm1:most<=1000000000):eE d most=some (inR d (-most) most 9,()):=by
 rw[Rj d most h.2.1 h.2.2 hm0 hm1]
 unfold inR
 congr 2
 rw[aiA,Int.neg_mul]
 constructor
 ·rintro⟨h1,h2⟩;exact⟨h,h.2.2,h1,h2⟩
 ·rintro⟨_,_,h1,h2⟩;exact⟨h1,h2⟩
def TK (pl:Int) (rates:List aD) (line:Bool) (x:aQ):Int:=
 if b9 x.2.1 then
  (if x.2.1.1=0 then 13
  else if (if x.1=true then inR x.2.1 (-100) 100 9 else inR x.2.1 (-1000000000) 1000000000 pl)=true then
   (if x.2.2=[] then 0 else if line=true then 3 else if (gf (·.1) x.2.2 rates).isSome=true then 0 else 5)
  else 1)
 else 1
def jC (pl:Int) (rates:List aD) (line:Bool) (l:List aQ):Int:=if 20<l.length then 2 else iC (fun _ x=>TK pl rates line x) 0 l
theorem aaV {γ:Type} (s:Int) (u:γ):aB (β:=Int×Unit) (γ:=γ) (if s=0 then some (Sum.inr u) else some (Sum.inl (s,()))) (fun _=>some (0,()))=some (s,()):=by
 by_cases h:s=0
 ·rw[aiM h,aR,h]
 ·rw[aiL h,Av]
theorem abK {d:ah} {lo hi pl:Int} (h:b9 d):inR d lo hi pl=(inR d lo hi 9&&decide (d.2<=pl)):=by
 unfold inR
 rw[<- afT,aiA]
 constructor
 ·rintro⟨h1,h2,h3⟩;exact⟨⟨h1,h.2.2,h3⟩,h2⟩
 ·rintro⟨⟨h1,_,h3⟩,h2⟩;exact⟨h1,h2,h3⟩
theorem xB {X α:Type} {γ:Type} {f:X->(X->Option ((Int×Unit) ⊕ γ))->Option ((Int×Unit) ⊕ γ)} {x0:X} (mk:Nat->X) (l:List α) (g:Nat->α->Int) (u:γ) (h0:x0=mk 0) (hstep:∀ i y again,l[i]? =some y->f (mk i) again=if g i y=0 then again (mk (i+1)) else some (Sum.inl (g i y,()))) (hend:∀ again,f (mk l.length) again=some (Sum.inr u)) (n:Nat) (hn:l.length<n): iter n x0 f=if iC g 0 l=0 then some (Sum.inr u) else some (Sum.inl (iC g 0 l,())):=by
 rw[h0];exact UX mk l g u hstep hend l 0 n rfl (aik _) hn
theorem BX (v:ai) (l:List aQ) (line:Bool) (hl:v.2.2.2.2.2.2.1.length<1000000000) (hs:Asc (·.1) v.2.2.2.2.2.2.1):iT v l line=some (jC v.2.2.2.1 v.2.2.2.2.2.2.1 line l,()):=by
 unfold iT jC
 by_cases hb:20<l.length
 ·rw[aG (by omega),aiM hb]
 ·rw[aK (by omega),aiL hb]
  obtain⟨a,b,c,d,e,f,g,h,k⟩:=v
  dsimp only at*
  have hR:∀ t,iG (a,b,c,d,e,f,g,h,k) t=some ((gf (·.1) t g).isSome,()):=fun t=>Hs _ t hl hs
  rw[xB (f:=oF) (fun i=>((line,l,(l.length:Int),(i:Int),a,b,c,d,e,f,g,h,k,()):oG)) l (fun _ x=>TK d g line x) () ?_ ?_ ?_ _ ?_]
  ·exact aaV _ _
  ·rfl
  ·intro i y again hy
   have hi:=(agW.1 hy).1
   unfold oF
   dsimp only
   rw[aG (by omega),bD,hy,aim,gS,aim]
   have hw:w64 ((i:Int)+1)=(i:Int)+1:=ax (by omega) (by omega)
   unfold TK
   by_cases hd:b9 y.2.1
   ·rw[aiM hd,zne,aiy,aiM hd]
    by_cases h0:y.2.1.1=0
    ·rw[show (y.2.1.1==0)=true by simpa using h0,aiz,aiM h0];rfl
    ·rw[show (y.2.1.1==0)=false by simpa using h0,aiy,aiL h0]
     rw[sJ hd 100 (by omega) (by omega),sJ hd 1000000000 (by omega) (by omega),abK (pl:=d) hd]
     have hgt:decide (y.2.1.2>d)= !decide (y.2.1.2<=d):=by
      by_cases hq:y.2.1.2<=d
      ·simp[hq]
      ·simp[hq];omega
     have hnil:∀ (s:Bys),(s==[])=decide (s=[]):=fun s=>by cases s<;>rfl
     simp only[hR,aim,hgt,hnil]
     generalize inR y.2.1 (-100) 100 9=b1
     generalize inR y.2.1 (-1000000000) 1000000000 9=b2
     generalize decide (y.2.1.2<=d)=b3
     generalize y.1=p
     by_cases hn:y.2.2=[]
     ·cases p<;>cases b1<;>cases b2<;>cases b3<;>cases line<;>simp[aB,hw,hnil,hn,hR]
     ·cases h4:(gf (fun x:aD=>x.1) y.2.2 g).isSome<;>cases p<;>cases b1<;>cases b2<;>cases b3<;>cases line<;>simp[aB,hw,hnil,hn,hR,h4]
   ·rw[aiL hd,aiL hd];rfl
  ·intro again
   unfold oF
   dsimp only
   rw[aK (by omega)]
  ·omega
theorem DH (v:ai) (l:List aQ) (line:Bool) (hl:v.2.2.2.2.2.2.1.length<1000000000) (hp:0<=v.2.2.2.1/\v.2.2.2.1<=9):jM v l line=some (jC v.2.2.2.1 v.2.2.2.2.2.2.1 line l,()):=by
 unfold jM jC
 by_cases hb:20<l.length
 ·rw[aG (by omega),aiM hb]
 ·rw[aK (by omega),aiL hb]
  obtain⟨a,b,c,d,e,f,g,h,k⟩:=v
  dsimp only at*
  have hR:∀ t,fZ (a,b,c,d,e,f,g,h,k) t=some (ixI (gf (·.1) t g),()):=fun t=>LG _ t hl
  rw[xB (f:=qq) (fun i=>((line,l,(l.length:Int),(i:Int),a,b,c,d,e,f,g,h,k,()):qs)) l (fun _ x=>TK d g line x) () ?_ ?_ ?_ _ ?_]
  ·exact aaV _ _
  ·rfl
  ·intro i y again hy
   have hi:=(agW.1 hy).1
   unfold qq
   dsimp only
   rw[aG (by omega),bD,hy,aim,uS,aim,ax (n:=(i:Int)+1) (by omega) (by omega)]
   unfold TK
   by_cases hd:b9 y.2.1
   ·rw[aiM hd,zne,aiy,aiM hd]
    by_cases h0:y.2.1.1=0
    ·rw[show (y.2.1.1==0)=true by simpa using h0,aiz,aiM h0];rfl
    ·rw[show (y.2.1.1==0)=false by simpa using h0,aiy,aiL h0]
     rw[wB y.2.1 (-100) 100 9 (by decide) (by decide),wB y.2.1 (-1000000000) 1000000000 d (by decide) (by decide)]
     have hnil:∀ (s:Bys),(s==[])=decide (s=[]):=fun s=>by cases s<;>rfl
     simp only[hR,Zn,aim,hnil]
     generalize inR y.2.1 (-100) 100 9=b1
     generalize inR y.2.1 (-1000000000) 1000000000 d=b2
     generalize y.1=p
     generalize (gf (fun x:aD=>x.1) y.2.2 g).isSome=b4
     by_cases hn:y.2.2=[]
     ·simp only[hn,aiG,aiN]
      cases p<;>cases b1<;>cases b2<;>cases line<;>cases b4<;>simp
     ·simp only[hn,aiF,aiK]
      cases p<;>cases b1<;>cases b2<;>cases line<;>cases b4<;>simp
   ·rw[aiL hd,aiL hd];rfl
  ·intro again
   unfold qq
   dsimp only
   rw[aK (by omega)]
  ·omega
end Go.Md
namespace Go.Md
open Go.Dn
theorem Fl {α:Type} (l:List α):((l.length:Int)==0)=decide (l.length=0):=by
 cases l with
 | nil=>rfl
 | cons a r=>rw[show decide ((a::r).length=0)=false by simp,aiv];simp only[ag8];omega
def Bk (l:List aD) (i:Nat) (y:aD):Bool:=match i with
 | 0=>false
 | i+1=>match l[i]? with
  | some p=>Op.bytesLess y.1 p.1||y.1==p.1
  | none=>false
def Lb (l:List aD) (i:Nat) (r:aD):Int:=if bU r.1=false then 5 else if Bk l i r=true then 8 else if inR r.2 0 100 9=true then 0 else 1
def uo (l:List aD):Int:=if l.length=0 then 9 else if 20<l.length then 2 else iC (Lb l) 0 l
theorem X8 {l:List aD} (h:∀ i y,l[i]? =some y->Bk l i y=false):Asc (·.1) l:=by
 have step:∀ i x y,l[i]? =some x->l[i+1]? =some y->Op.bytesLess x.1 y.1=true:=fun i x y hx hy=>by
  have:=h (i+1) y hy
  simp only[Bk,hx,af3,aiv] at this
  rcases aba x.1 y.1 with h1 | h1 | h1
  ·exact h1
  ·exact absurd h1.symm this.2
  ·rw[this.1] at h1;cases h1
 intro i j x y hij hx hy
 induction j generalizing y with
 | zero=>omega
 | succ j ih=>
  rcases ah6.1 hij with h1 | h1
  ·have hj:j<l.length:=by have:=(agW.1 hy).1;omega
   have hz:l[j]? =some l[j]:=bp hj
   exact CM (ih _ h1 hz) (step j _ y hz hy)
  ·subst h1;exact step i x y hx hy
theorem PF {l:List aD} (h:uo l=0):0<l.length/\l.length<=20/\Asc (·.1) l/\∀ r∈l,inR r.2 0 100 9=true:=by
 unfold uo at h
 split at h
 ·omega
 ·split at h
  ·omega
  ·have hz:=E6 h
   refine⟨by omega,by omega,X8 fun i y hy=> ?_,fun r hr=> ?_⟩
   ·have:=hz i y hy
    rw[aij] at this
    unfold Lb at this
    split at this
    ·omega
    ·split at this
     ·omega
     ·rename_i h1;simpa using h1
   ·obtain⟨i,hi⟩:=ahr.1 hr
    have:=hz i r hi
    rw[aij] at this
    unfold Lb at this
    split at this
    ·omega
    ·split at this
     ·omega
     ·split at this
      ·assumption
      ·omega
theorem aap {d:ah} (h:b9 d) (hi:Int):inR d 0 hi 9=(!decide (d.1<0)&&inR d (-hi) hi 9):=by
 have hp:=wu d.2.toNat
 unfold inR
 rw[<- decide_not, <- afT,aiA]
 constructor
 ·rintro⟨h1,h2,h3,h4⟩
  rw[ags] at h3
  refine⟨by omega,h1,h2, ?_,h4⟩
  rw[Int.neg_mul]
  have:0<=hi*10 ^ d.2.toNat:=by omega
  omega
 ·rintro⟨h0,h1,h2,h3,h4⟩
  exact⟨h1,h2,by rw[ags];omega,h4⟩
theorem XD {l:List aD} {i:Nat} (hi:i+1<l.length+1) (hl:l.length<1000000000):idx l (w64 (((i+1:Nat):Int) - 1))=l[i]? :=by
 rw[ax (by omega) (by omega),show ((i+1:Nat):Int) - 1=((i:Nat):Int) by omega,bD]
theorem Mo (l:List aD) (hl:l.length<1000000000):l8 l=some (uo l,()):=by
 unfold l8 uo
 by_cases h0:l.length=0
 ·rw[Fl,aiD h0,aiz,aiM h0]
 ·rw[Fl,aiB h0,aiy,aiL h0]
  by_cases hb:20<l.length
  ·rw[aG (by omega),aiM hb]
  ·rw[aK (by omega),aiL hb]
   rw[xB (f:=pQ) (fun i=>((l,l,(l.length:Int),(i:Int),()):pR)) l (Lb l) () ?_ ?_ ?_ _ ?_]
   ·exact aaV _ _
   ·rfl
   ·intro i y again hy
    have hi:=(agW.1 hy).1
    unfold pQ
    dsimp only
    rw[aG (by omega),bD,hy,aim,mH,aim,ax (n:=(i:Int)+1) (by omega) (by omega)]
    unfold Lb
    cases hn:bU y.1 with
    | false=>simp
    | true=>
     have tail:(Option.bind (cA y.2) fun r5=>bif r5.1 != 0 then some (Sum.inl (r5.1,())) else bif decide (y.2.1<0) then some (Sum.inl (1,())) else Option.bind (eE y.2 100) fun r6=>bif !r6.1 then some (Sum.inl (1,())) else again (l,l,(l.length:Int),(i:Int)+1,()))=if (if inR y.2 0 100 9=true then (0:Int) else 1)=0 then again (l,l,(l.length:Int),((i+1:Nat):Int),()) else some (Sum.inl (1,())):=by
      rw[gS,aim]
      by_cases hd:b9 y.2
      ·rw[aap hd 100,sJ hd 100 (by omega) (by omega)]
       generalize inR y.2 (-100) 100 9=b
       by_cases hneg:y.2.1<0
       ·simp[hd,hneg]
       ·cases b<;>simp[hd,hneg]
      ·have:inR y.2 0 100 9=false:=by unfold inR;simp[hd]
       simp[hd,this]
     simp only[af2,aiy,af6,aiK]
     cases i with
     | zero=>
      rw[aK (by omega),tail]
      simp only[Bk,afV,aiK]
      split<;>simp_all
     | succ i=>
      have hp:l[i]? =some (l[i]'(by omega)):=bp (by omega)
      rw[aG (by omega),XD (by omega) hl,hp,aim]
      have ep:Bk l (i+1) y=(Op.bytesLess y.1 (l[i]'(by omega)).1||y.1==(l[i]'(by omega)).1):=by simp only[Bk,hp]
      rw[ep]
      cases (Op.bytesLess y.1 (l[i]'(by omega)).1||y.1==(l[i]'(by omega)).1) with
      | true=>simp
      | false=>
       simp only[aiy]
       rw[tail]
       simp only[afV,aiK]
       split<;>simp_all
   ·intro again
    unfold pQ
    dsimp only
    rw[aK (by omega)]
   ·omega
def NQ (l:List ay) (i:Nat) (y:ay):Bool:=match i with
 | 0=>false
 | i+1=>match l[i]? with
  | some p=>decide (y.1<=p.1)
  | none=>false
def xD (pl:Int) (rates:List aD) (lines:List ay) (i:Nat) (x:ay):Int:=
 if x.1<1\/99999<x.1 then 1
 else if NQ lines i x=true then 8
 else if x.2.1<1\/99999<x.2.1 then 1
 else if bU x.2.2.1=false then 5
 else if inR x.2.2.2.1 (-1000000000) 1000000000 3=false then 1
 else if x.2.2.2.1.1=0 then 13
 else if bU x.2.2.2.2.1=false then 5
 else if inR x.2.2.2.2.2.1 0 1000000000 4=false then 1
 else if x.2.2.2.2.2.2.1<1\/100000<x.2.2.2.2.2.2.1 then 1
 else if jC pl rates true x.2.2.2.2.2.2.2.1≠0 then jC pl rates true x.2.2.2.2.2.2.2.1
 else if (gf (·.1) x.2.2.2.2.2.2.2.2 rates).isSome=true then 0 else 5
theorem Cl (n:Int) (h0:0<=n) (h1:n<=18):CQ n=some (10 ^ n.toNat,()):=Lu n h0 h1
theorem uQ (d:ah):iY d=some (if inR d 0 1000000000 4=true then 0 else 1,()):=by
 unfold iY rQ
 rw[gS,aim]
 by_cases hd:b9 d
 ·have hp:=wu d.2.toNat
  have hp2:(10:Int) ^ d.2.toNat<=1000000000:=by
   have:=aih (n:=10) (by omega) (show d.2.toNat<=9 by have:=hd.2.2;omega)
   have h2:=Int.ofNat_le.2 this
   simpa using h2
  rw[Cl d.2 hd.2.1 (by have:=hd.2.2;omega)]
  dsimp only
  rw[aiM hd,zne,aiy]
  have e:inR d 0 1000000000 4=(decide (d.2<=4)&&(decide (d.1>=0)&&decide (d.1<=1000000000*10 ^ d.2.toNat))):=by
   unfold inR
   rw[<- afT, <- afT,aiA,ags]
   constructor
   ·rintro⟨_,h2,h3,h4⟩;exact⟨h2,h3,h4⟩
   ·rintro⟨h2,h3,h4⟩;exact⟨hd,h2,h3,h4⟩
  rw[e,aim,ax (n:=1000000000*10 ^ d.2.toNat) (by omega) (by omega)]
  cases decide (d.2<=4)<;>cases decide (d.1>=0)<;>cases decide (d.1<=1000000000*10 ^ d.2.toNat)<;>rfl
 ·have:inR d 0 1000000000 4=false:=by unfold inR;simp[hd]
  simp[hd,this]
end Go.Md
namespace Go.Md
open Go.Dn
theorem SB {l:List ay} {i:Nat} (hi:i<l.length) (hl:l.length<1000000000):idx l (w64 (((i+1:Nat):Int) - 1))=l[i]? :=by
 rw[ax (by omega) (by omega),show ((i+1:Nat):Int) - 1=((i:Nat):Int) by omega,bD]
theorem afe (d:ah):(if b9 d then (decide (d.2>3)|| !inR d (-1000000000) 1000000000 9) else true)= !inR d (-1000000000) 1000000000 3:=by
 by_cases h:b9 d
 ·rw[aiM h,abK (pl:=3) h]
  by_cases h3:d.2<=3
  ·have:¬ d.2>3:=by omega
   simp[h3,this]
  ·have:d.2>3:=by omega
   simp[h3,this]
 ·have:inR d (-1000000000) 1000000000 3=false:=by unfold inR;simp[h]
  simp[h,this]
theorem OK (v:ai) (i:Nat) (y:ay) (hl:v.2.2.2.2.2.2.1.length<1000000000) (hs:Asc (·.1) v.2.2.2.2.2.2.1) (hll:v.2.2.2.2.2.2.2.1.length<1000000000) (hy:v.2.2.2.2.2.2.2.1[i]? =some y): rE v (i:Int)=some (xD v.2.2.2.1 v.2.2.2.2.2.2.1 v.2.2.2.2.2.2.2.1 i y,()):=by
 unfold rE xD
 have hR:=fun t=>Hs v t hl hs
 have hE:=fun l=>BX v l true hl hs
 generalize v.2.2.2.2.2.2.1=rates at*
 generalize v.2.2.2.2.2.2.2.1=lines at*
 generalize v.2.2.2.1=pl at*
 have hi:=(agW.1 hy).1
 rw[bD,hy,aim]
 simp only[eA,mH,uQ,hR,hE,aim,gS]
 by_cases c1:y.1<1\/99999<y.1
 ·simp only[c1,aiG,aiz,aiN]
 rw[aiB c1,aiy,aiL c1]
 have tail:(bif decide (y.2.1<1\/99999<y.2.1) then some ((1:Int),()) else bif !bU y.2.2.1 then some (5,()) else bif (if b9 y.2.2.2.1 then (0:Int) else 1) != 0 then some (if b9 y.2.2.2.1 then (0:Int) else 1,()) else bif decide (y.2.2.2.1.2>3) then some (1,()) else
  Option.bind (eE y.2.2.2.1 1000000000) fun r7=>bif !r7.1 then some (1,()) else bif y.2.2.2.1.1==0 then some (13,()) else bif !bU y.2.2.2.2.1 then some (5,()) else bif (if inR y.2.2.2.2.2.1 0 1000000000 4=true then (0:Int) else 1) != 0 then some (if inR y.2.2.2.2.2.1 0 1000000000 4=true then (0:Int) else 1,()) else
  bif decide (y.2.2.2.2.2.2.1<1\/100000<y.2.2.2.2.2.2.1) then some (1,()) else bif jC pl rates true y.2.2.2.2.2.2.2.1 != 0 then some (jC pl rates true y.2.2.2.2.2.2.2.1,()) else bif !(gf (fun x:aD=>x.1) y.2.2.2.2.2.2.2.2 rates).isSome then some (5,()) else some (0,()))=
  some (if y.2.1<1\/99999<y.2.1 then 1 else if bU y.2.2.1=false then 5 else if inR y.2.2.2.1 (-1000000000) 1000000000 3=false then 1 else if y.2.2.2.1.1=0 then 13 else if bU y.2.2.2.2.1=false then 5 else if inR y.2.2.2.2.2.1 0 1000000000 4=false then 1
   else if y.2.2.2.2.2.2.1<1\/100000<y.2.2.2.2.2.2.1 then 1 else if jC pl rates true y.2.2.2.2.2.2.2.1≠0 then jC pl rates true y.2.2.2.2.2.2.2.1 else if (gf (fun x:aD=>x.1) y.2.2.2.2.2.2.2.2 rates).isSome=true then 0 else 5,()):=by
  by_cases c2:y.2.1<1\/99999<y.2.1
  ·simp only[c2,aiG,aiz,aiN]
  rw[aiB c2,aiy,aiL c2]
  cases bU y.2.2.1 with
  | false=>rfl
  | true=>
  simp only[af2,aiy,af6,aiK]
  have hq:=afe y.2.2.2.1
  by_cases hd:b9 y.2.2.2.1
  ·rw[aiM hd] at hq
   rw[sJ hd 1000000000 (by omega) (by omega)]
   rw[aiM hd,zne,aiy,aim]
   dsimp only
   have hq':inR y.2.2.2.1 (-1000000000) 1000000000 3= !(decide (y.2.2.2.1.2>3)|| !inR y.2.2.2.1 (-1000000000) 1000000000 9):=by rw[hq,Bool.not_not]
   rw[hq']
   cases decide (y.2.2.2.1.2>3) with
   | true=>rfl
   | false=>
    cases inR y.2.2.2.1 (-1000000000) 1000000000 9 with
    | false=>rfl
    | true=>
     simp only[af2,Bool.or_false,af1,aiy,af6,aiK]
     by_cases c3:y.2.2.2.1.1=0
     ·rw[show (y.2.2.2.1.1==0)=true by simpa using c3,aiz,aiM c3]
     ·rw[show (y.2.2.2.1.1==0)=false by simpa using c3,aiy,aiL c3]
      cases bU y.2.2.2.2.1 with
      | false=>rfl
      | true=>
       cases inR y.2.2.2.2.2.1 0 1000000000 4 with
       | false=>rfl
       | true=>
        simp only[af2,aiy,af6,aiK,aiN]
        rw[zne,aiy]
        by_cases c4:y.2.2.2.2.2.2.1<1\/100000<y.2.2.2.2.2.2.1
        ·simp only[c4,aiG,aiz,aiN]
        ·rw[aiB c4,aiy,aiL c4]
         by_cases c5:jC pl rates true y.2.2.2.2.2.2.2.1=0
         ·rw[c5,zne,aiy,aiL (by simp)]
          cases (gf (fun x:aD=>x.1) y.2.2.2.2.2.2.2.2 rates).isSome<;>rfl
         ·rw[show (jC pl rates true y.2.2.2.2.2.2.2.1 != 0)=true by simpa using c5,aiz,aiM c5]
  ·rw[aiL hd] at hq
   have:inR y.2.2.2.1 (-1000000000) 1000000000 3=false:=by simpa using hq.symm
   rw[this,aiL hd]
   rfl
 cases i with
 | zero=>
  rw[aK (by omega),tail]
  rfl
 | succ i=>
  have hp:lines[i]? =some (lines[i]'(by omega)):=bp (by omega)
  rw[aG (by omega),SB (by omega) hll,hp,aim]
  have ep:NQ lines (i+1) y=decide (y.1<=(lines[i]'(by omega)).1):=by simp only[NQ,hp]
  rw[ep]
  cases decide (y.1<=(lines[i]'(by omega)).1) with
  | true=>rfl
  | false=>
   rw[aiy,tail]
   rfl
theorem QV (v:ai) (i:Nat) (y:ay) (hl:v.2.2.2.2.2.2.1.length<1000000000) (hp:0<=v.2.2.2.1/\v.2.2.2.1<=9) (hll:v.2.2.2.2.2.2.2.1.length<1000000000) (hy:v.2.2.2.2.2.2.2.1[i]? =some y): tX v (i:Int)=some (xD v.2.2.2.1 v.2.2.2.2.2.2.1 v.2.2.2.2.2.2.2.1 i y,()):=by
 unfold tX xD
 have hR:=fun t=>LG v t hl
 have hE:=fun l=>DH v l true hl hp
 generalize v.2.2.2.2.2.2.1=rates at*
 generalize v.2.2.2.2.2.2.2.1=lines at*
 generalize v.2.2.2.1=pl at*
 have hi:=(agW.1 hy).1
 have hW:∀ n lo hi':Int,(!decide (lo<=n/\n<=hi'))=decide (n<lo\/hi'<n):=fun n lo hi'=>by
  rw[<- decide_not,aiA];omega
 rw[bD,hy,aim]
 simp only[zz,nX,wB _ (-1000000000) 1000000000 3 (by decide) (by decide),wB _ 0 1000000000 4 (by decide) (by decide),hR,hE,Zn,aim,hW]
 by_cases c1:y.1<1\/99999<y.1
 ·simp only[c1,aiG,aiz,aiN]
 rw[aiB c1,aiy,aiL c1]
 have tail:(bif decide (y.2.1<1\/99999<y.2.1) then some ((1:Int),()) else bif !bU y.2.2.1 then some (5,()) else bif !inR y.2.2.2.1 (-1000000000) 1000000000 3 then some (1,()) else bif y.2.2.2.1.1==0 then some (13,()) else bif !bU y.2.2.2.2.1 then some (5,()) else bif !inR y.2.2.2.2.2.1 0 1000000000 4 then some (1,()) else
  bif decide (y.2.2.2.2.2.2.1<1\/100000<y.2.2.2.2.2.2.1) then some (1,()) else bif jC pl rates true y.2.2.2.2.2.2.2.1 != 0 then some (jC pl rates true y.2.2.2.2.2.2.2.1,()) else bif !(gf (fun x:aD=>x.1) y.2.2.2.2.2.2.2.2 rates).isSome then some (5,()) else some (0,()))=
  some (if y.2.1<1\/99999<y.2.1 then 1 else if bU y.2.2.1=false then 5 else if inR y.2.2.2.1 (-1000000000) 1000000000 3=false then 1 else if y.2.2.2.1.1=0 then 13 else if bU y.2.2.2.2.1=false then 5 else if inR y.2.2.2.2.2.1 0 1000000000 4=false then 1
   else if y.2.2.2.2.2.2.1<1\/100000<y.2.2.2.2.2.2.1 then 1 else if jC pl rates true y.2.2.2.2.2.2.2.1≠0 then jC pl rates true y.2.2.2.2.2.2.2.1 else if (gf (fun x:aD=>x.1) y.2.2.2.2.2.2.2.2 rates).isSome=true then 0 else 5,()):=by
  by_cases c2:y.2.1<1\/99999<y.2.1
  ·simp only[c2,aiG,aiz,aiN]
  rw[aiB c2,aiy,aiL c2]
  cases bU y.2.2.1 with
  | false=>rfl
  | true=>
   cases inR y.2.2.2.1 (-1000000000) 1000000000 3 with
   | false=>rfl
   | true=>
    simp only[af2,aiy,af6,aiK]
    by_cases c3:y.2.2.2.1.1=0
    ·rw[show (y.2.2.2.1.1==0)=true by simpa using c3,aiz,aiM c3]
    ·rw[show (y.2.2.2.1.1==0)=false by simpa using c3,aiy,aiL c3]
     cases bU y.2.2.2.2.1 with
     | false=>rfl
     | true=>
      cases inR y.2.2.2.2.2.1 0 1000000000 4 with
      | false=>rfl
      | true=>
       simp only[af2,aiy,af6,aiK]
       by_cases c4:y.2.2.2.2.2.2.1<1\/100000<y.2.2.2.2.2.2.1
       ·simp only[c4,aiG,aiz,aiN]
       ·rw[aiB c4,aiy,aiL c4]
        by_cases c5:jC pl rates true y.2.2.2.2.2.2.2.1=0
        ·rw[c5,zne,aiy,aiL (by simp)]
         cases (gf (fun x:aD=>x.1) y.2.2.2.2.2.2.2.2 rates).isSome<;>rfl
        ·rw[show (jC pl rates true y.2.2.2.2.2.2.2.1 != 0)=true by simpa using c5,aiz,aiM c5]
 cases i with
 | zero=>
  rw[aK (by omega),tail]
  rfl
 | succ i=>
  have hp:lines[i]? =some (lines[i]'(by omega)):=bp (by omega)
  rw[aG (by omega),SB (by omega) hll,hp,aim]
  have ep:NQ lines (i+1) y=decide (y.1<=(lines[i]'(by omega)).1):=by simp only[NQ,hp]
  rw[ep]
  cases decide (y.1<=(lines[i]'(by omega)).1) with
  | true=>rfl
  | false=>
   rw[aiy,tail]
   rfl
def Nw (v:ai):Int:=iC (xD v.2.2.2.1 v.2.2.2.2.2.2.1 v.2.2.2.2.2.2.2.1) 0 v.2.2.2.2.2.2.2.1
def jr (v:ai):Int:=
 if bU v.1=false then 5 else if bU v.2.1=false then 5
 else if ¬(1<=v.2.2.1/\v.2.2.1<=3652059) then 1
 else if v.2.2.2.1<0\/4<v.2.2.2.1 then 1
 else if v.2.2.2.2.1<1\/6<v.2.2.2.2.1 then 4
 else if uo v.2.2.2.2.2.2.1≠0 then uo v.2.2.2.2.2.2.1
 else if v.2.2.2.2.2.2.2.1.length=0 then 9
 else if 500<v.2.2.2.2.2.2.2.1.length then 2
 else if Nw v≠0 then Nw v
 else jC v.2.2.2.1 v.2.2.2.2.2.2.1 false v.2.2.2.2.2.2.2.2
theorem XM {γ:Type} (s:Int) (u:γ) (k:γ->Option (Int×Unit)) (z:Int) (hk:k u=some (z,())):aB (β:=Int×Unit) (γ:=γ) (if s=0 then some (Sum.inr u) else some (Sum.inl (s,()))) k=some (if s≠0 then s else z,()):=by
 by_cases h:s=0
 ·rw[aiM h,aR,hk,aiL (by simpa using h)]
 ·rw[aiL h,Av,aiM h]
theorem nc (v:ai):gW v=some (jr v,()):=by
 unfold gW jr
 simp only[mH,nM,eA,aim,FC]
 cases bU v.1 with
 | false=>rfl
 | true=>
 cases bU v.2.1 with
 | false=>rfl
 | true=>
 simp only[af2,aiy,af6,aiK]
 by_cases n_c1:¬(1<=v.2.2.1/\v.2.2.1<=3652059)
 ·rw[aiB n_c1,aiM n_c1];rfl
 have c1:=af8 n_c1
 rw[aiD c1,aiL (by simpa using c1),af2,aiy]
 by_cases c2:v.2.2.2.1<0\/4<v.2.2.2.1
 ·rw[aiD c2,aiM c2];rfl
 rw[aiB c2,aiL c2,aiy]
 by_cases c3:v.2.2.2.2.1<1\/6<v.2.2.2.2.1
 ·rw[aiD c3,aiM c3];rfl
 rw[aiB c3,aiL c3,af1,af2,aiy]
 by_cases n_hrl:¬(v.2.2.2.2.2.2.1.length<1000000000)
 ·have e:uo v.2.2.2.2.2.2.1=2:=by unfold uo;rw[aiL (by omega),aiM (by omega)]
  have e2:l8 v.2.2.2.2.2.2.1=some (2,()):=by
   unfold l8
   rw[Fl,aiB (by omega),aiy,aG (by omega)]
  rw[e,e2];rfl
 have hrl:=af8 n_hrl
 rw[Mo _ hrl,aim]
 dsimp only
 by_cases n_c4:¬(uo v.2.2.2.2.2.2.1=0)
 ·rw[show (uo v.2.2.2.2.2.2.1 != 0)=true by simpa using n_c4,aiz,aiM n_c4]
 have c4:=af8 n_c4
 obtain⟨_,_,hs,_⟩:=PF c4
 rw[c4,zne,aiy,aiL (by simp),Fl]
 by_cases c5:v.2.2.2.2.2.2.2.1.length=0
 ·rw[aiD c5,aiz,aiM c5]
 rw[aiB c5,aiy,aiL c5]
 by_cases c6:500<v.2.2.2.2.2.2.2.1.length
 ·rw[aG (by omega),aiM c6]
 rw[aK (by omega),aiL c6]
 unfold Nw
 rw[xB (f:=l7) (fun i=>(((v.2.2.2.2.2.2.2.1.length:Int)),(i:Int),v.1,v.2.1,v.2.2.1,v.2.2.2.1,v.2.2.2.2.1,v.2.2.2.2.2.1,v.2.2.2.2.2.2.1,v.2.2.2.2.2.2.2.1,v.2.2.2.2.2.2.2.2,()) ) v.2.2.2.2.2.2.2.1 (xD v.2.2.2.1 v.2.2.2.2.2.2.1 v.2.2.2.2.2.2.2.1) (v.1,v.2.1,v.2.2.1,v.2.2.2.1,v.2.2.2.2.1,v.2.2.2.2.2.1,v.2.2.2.2.2.2.1,v.2.2.2.2.2.2.2.1,v.2.2.2.2.2.2.2.2,()) ?_ ?_ ?_ _ ?_]
 ·refine XM _ _ _ _ ?_
  show Option.bind (iT v v.2.2.2.2.2.2.2.2 false) _=_
  rw[BX v _ false hrl hs,aim]
 ·rfl
 ·intro i y again hy
  have hi:=(agW.1 hy).1
  unfold l7
  show (bif decide ((i:Int)<(v.2.2.2.2.2.2.2.1.length:Int)) then Option.bind (rE v (i:Int)) _ else _)=_
  rw[aG (by omega),OK v i y hrl hs (by omega) hy,aim]
  dsimp only
  rw[ax (n:=(i:Int)+1) (by omega) (by omega)]
  by_cases hz:xD v.2.2.2.1 v.2.2.2.2.2.2.1 v.2.2.2.2.2.2.2.1 i y=0
  ·rw[hz];rfl
  ·rw[show (xD v.2.2.2.1 v.2.2.2.2.2.2.1 v.2.2.2.2.2.2.2.1 i y != 0)=true by simpa using hz,aiz,aiL hz]
 ·intro again
  unfold l7
  dsimp only
  rw[aK (by omega)]
 ·omega
end Go.Md
namespace Go.Md
open Go.Dn
theorem uR (v:ai):kS v=some (jr v,()):=by
 unfold kS jr
 have hW:∀ n lo hi':Int,(!decide (lo<=n/\n<=hi'))=decide (n<lo\/hi'<n):=fun n lo hi'=>by
  rw[<- decide_not,aiA];omega
 simp only[nX,uD,zz,aim]
 cases bU v.1 with
 | false=>rfl
 | true=>
 cases bU v.2.1 with
 | false=>rfl
 | true=>
 simp only[af2,aiy,af6,aiK]
 by_cases n_c1:¬(1<=v.2.2.1/\v.2.2.1<=3652059)
 ·rw[aiB n_c1,aiM n_c1];rfl
 have c1:=af8 n_c1
 rw[aiD c1,aiL (by simpa using c1),af2,aiy,hW,hW]
 by_cases c2:v.2.2.2.1<0\/4<v.2.2.2.1
 ·rw[aiD c2,aiM c2];rfl
 rw[aiB c2,aiL c2,aiy]
 by_cases c3:v.2.2.2.2.1<1\/6<v.2.2.2.2.1
 ·rw[aiD c3,aiM c3];rfl
 rw[aiB c3,aiL c3,aiy,Fl]
 unfold uo
 by_cases c4:v.2.2.2.2.2.2.1.length=0
 ·rw[aiD c4,aiz,aiM c4];rfl
 rw[aiB c4,aiy,aiL c4]
 by_cases c5:20<v.2.2.2.2.2.2.1.length
 ·rw[aG (by omega),aiM c5];rfl
 rw[aK (by omega),aiL c5]
 rw[xB (f:=nv) (fun i=>(v.2.2.2.2.2.2.1,((v.2.2.2.2.2.2.1.length:Int)),(i:Int),v.1,v.2.1,v.2.2.1,v.2.2.2.1,v.2.2.2.2.1,v.2.2.2.2.2.1,v.2.2.2.2.2.2.1,v.2.2.2.2.2.2.2.1,v.2.2.2.2.2.2.2.2,()) ) v.2.2.2.2.2.2.1 (Lb v.2.2.2.2.2.2.1) (v.1,v.2.1,v.2.2.1,v.2.2.2.1,v.2.2.2.2.1,v.2.2.2.2.2.1,v.2.2.2.2.2.2.1,v.2.2.2.2.2.2.2.1,v.2.2.2.2.2.2.2.2,()) ?_ ?_ ?_ _ ?_]
 ·refine XM _ _ _ _ ?_
  dsimp only
  rw[Fl]
  by_cases c6:v.2.2.2.2.2.2.2.1.length=0
  ·rw[aiD c6,aiz,aiM c6]
  rw[aiB c6,aiy,aiL c6]
  by_cases c7:500<v.2.2.2.2.2.2.2.1.length
  ·rw[aG (by omega),aiM c7]
  rw[aK (by omega),aiL c7]
  unfold Nw
  rw[xB (f:=nw) (fun i=>(((v.2.2.2.2.2.2.2.1.length:Int)),(i:Int),v.1,v.2.1,v.2.2.1,v.2.2.2.1,v.2.2.2.2.1,v.2.2.2.2.2.1,v.2.2.2.2.2.2.1,v.2.2.2.2.2.2.2.1,v.2.2.2.2.2.2.2.2,()) ) v.2.2.2.2.2.2.2.1 (xD v.2.2.2.1 v.2.2.2.2.2.2.1 v.2.2.2.2.2.2.2.1) (v.1,v.2.1,v.2.2.1,v.2.2.2.1,v.2.2.2.2.1,v.2.2.2.2.2.1,v.2.2.2.2.2.2.1,v.2.2.2.2.2.2.2.1,v.2.2.2.2.2.2.2.2,()) ?_ ?_ ?_ _ ?_]
  ·refine XM _ _ _ _ ?_
   show Option.bind (jM v v.2.2.2.2.2.2.2.2 false) _=_
   rw[DH v _ false (by omega) (by omega),aim]
  ·rfl
  ·intro i y again hy
   have hi:=(agW.1 hy).1
   unfold nw
   show (bif decide ((i:Int)<(v.2.2.2.2.2.2.2.1.length:Int)) then Option.bind (tX v (i:Int)) _ else _)=_
   rw[aG (by omega),QV v i y (by omega) (by omega) (by omega) hy,aim]
   dsimp only
   rw[ax (n:=(i:Int)+1) (by omega) (by omega)]
   by_cases hz:xD v.2.2.2.1 v.2.2.2.2.2.2.1 v.2.2.2.2.2.2.2.1 i y=0
   ·rw[hz];rfl
   ·rw[show (xD v.2.2.2.1 v.2.2.2.2.2.2.1 v.2.2.2.2.2.2.2.1 i y != 0)=true by simpa using hz,aiz,aiL hz]
  ·intro again
   unfold nw
   dsimp only
   rw[aK (by omega)]
  ·omega
 ·rfl
 ·intro i y again hy
  have hi:=(agW.1 hy).1
  unfold nv
  dsimp only
  rw[aG (by omega),bD,hy,aim,nX,aim,ax (n:=(i:Int)+1) (by omega) (by omega),wB y.2 0 100 9 (by decide) (by decide)]
  unfold Lb
  cases hn:bU y.1 with
  | false=>simp
  | true=>
   simp only[af2,aiy,af6,aiK,aim]
   cases i with
   | zero=>
    rw[aK (by omega)]
    simp only[Bk,afV,aiK]
    cases inR y.2 0 100 9<;>simp
   | succ i=>
    have hp:v.2.2.2.2.2.2.1[i]? =some (v.2.2.2.2.2.2.1[i]'(by omega)):=bp (by omega)
    rw[aG (by omega),XD (by omega) (by omega),hp,aim]
    have ep:Bk v.2.2.2.2.2.2.1 (i+1) y=(Op.bytesLess y.1 (v.2.2.2.2.2.2.1[i]'(by omega)).1||y.1==(v.2.2.2.2.2.2.1[i]'(by omega)).1):=by simp only[Bk,hp]
    rw[ep]
    cases (Op.bytesLess y.1 (v.2.2.2.2.2.2.1[i]'(by omega)).1||y.1==(v.2.2.2.2.2.2.1[i]'(by omega)).1) with
    | true=>simp
    | false=>cases inR y.2 0 100 9<;>simp
 ·intro again
  unfold nv
  dsimp only
  rw[aK (by omega)]
 ·omega
structure ae7 (pl:Int) (x:aQ):Prop where
 dec:b9 x.2.1
 place:x.1=false->x.2.1.2<=pl
 nz:x.2.1.1≠0
theorem RR {pl:Int} {rates:List aD} {line:Bool} {l:List aQ} (h:jC pl rates line l=0):l.length<=20/\∀ x∈l,ae7 pl x/\(line=true->x.2.2=[])/\(x.2.2=[]\/(gf (·.1) x.2.2 rates).isSome=true):=by
 unfold jC at h
 split at h
 ·omega
 ·refine⟨by omega,fun x hx=> ?_⟩
  obtain⟨i,hi⟩:=ahr.1 hx
  have:=E6 h i x hi
  unfold TK at this
  by_cases hd:b9 x.2.1
  ·rw[aiM hd] at this
   by_cases h0:x.2.1.1=0
   ·rw[aiM h0] at this;omega
   ·rw[aiL h0] at this
    by_cases hr:(if x.1=true then inR x.2.1 (-100) 100 9 else inR x.2.1 (-1000000000) 1000000000 pl)=true
    ·rw[aiM hr] at this
     refine⟨⟨hd,fun hp=> ?_,h0⟩,fun hline=> ?_, ?_⟩
     ·rw[hp] at hr
      simp only[afV,aiK,inR,aiE] at hr
      exact hr.2.1
     ·rw[hline] at this
      by_cases hn:x.2.2=[]
      ·exact hn
      ·rw[aiL hn] at this;simp at this
     ·by_cases hn:x.2.2=[]
      ·exact .inl hn
      ·rw[aiL hn] at this
       right
       cases hx2:(gf (fun x:aD=>x.1) x.2.2 rates).isSome with
       | true=>rfl
       | false=>rw[hx2] at this;cases line<;>simp at this
    ·rw[aiL hr] at this;omega
  ·rw[aiL hd] at this;omega
structure Q6 (pl:Int) (rates:List aD) (x:ay):Prop where
 q:b9 x.2.2.2.1
 qp:x.2.2.2.1.2<=3
 qn:x.2.2.2.1.1≠0
 p:b9 x.2.2.2.2.2.1
 pp:x.2.2.2.2.2.1.2<=4
 p0:0<=x.2.2.2.2.2.1.1
 per:1<=x.2.2.2.2.2.2.1/\x.2.2.2.2.2.2.1<=100000
 ext:jC pl rates true x.2.2.2.2.2.2.2.1=0
 rate:(gf (·.1) x.2.2.2.2.2.2.2.2 rates).isSome=true
theorem aau {pl:Int} {rates:List aD} {lines:List ay} {i:Nat} {x:ay} (h:xD pl rates lines i x=0):Q6 pl rates x:=by
 unfold xD at h
 split at h
 ·omega
 split at h
 ·omega
 split at h
 ·omega
 split at h
 ·omega
 split at h
 ·omega
 rename_i h1
 split at h
 ·omega
 rename_i h2
 split at h
 ·omega
 split at h
 ·omega
 rename_i h3
 split at h
 ·omega
 rename_i h4
 split at h
 ·omega
 rename_i h5
 split at h
 ·rename_i h6
  have h1':inR x.2.2.2.1 (-1000000000) 1000000000 3=true:=by simpa using h1
  have h3':inR x.2.2.2.2.2.1 0 1000000000 4=true:=by simpa using h3
  unfold inR at h1' h3'
  rw[aiE] at h1' h3'
  exact⟨h1'.1,h1'.2.1,h2,h3'.1,h3'.2.1,by have:=h3'.2.2.1;rw[ags] at this;exact this,by omega,by omega,h6⟩
 ·omega
structure ae8 (v:ai):Prop where
 pl:0<=v.2.2.2.1/\v.2.2.2.1<=4
 way:1<=v.2.2.2.2.1/\v.2.2.2.2.1<=6
 rn:0<v.2.2.2.2.2.2.1.length/\v.2.2.2.2.2.2.1.length<=20
 asc:Asc (·.1) v.2.2.2.2.2.2.1
 rates:∀ r∈v.2.2.2.2.2.2.1,inR r.2 0 100 9=true
 ln:0<v.2.2.2.2.2.2.2.1.length/\v.2.2.2.2.2.2.2.1.length<=500
 lines:∀ x∈v.2.2.2.2.2.2.2.1,Q6 v.2.2.2.1 v.2.2.2.2.2.2.1 x
 ext:jC v.2.2.2.1 v.2.2.2.2.2.2.1 false v.2.2.2.2.2.2.2.2=0
theorem vX {v:ai} (h:jr v=0):ae8 v:=by
 unfold jr at h
 split at h
 ·omega
 split at h
 ·omega
 split at h
 ·omega
 split at h
 ·omega
 split at h
 ·omega
 split at h
 ·omega
 rename_i h1
 split at h
 ·omega
 split at h
 ·omega
 split at h
 ·omega
 rename_i h2
 have hr:=PF (show uo v.2.2.2.2.2.2.1=0 by omega)
 refine⟨by omega,by omega,⟨hr.1,hr.2.1⟩,hr.2.2.1,hr.2.2.2,by omega,fun x hx=> ?_,h⟩
 obtain⟨i,hi⟩:=ahr.1 hx
 have:=E6 (show Nw v=0 by omega) i x hi
 exact aau this
end Go.Md
namespace Go.Md
open Go.Dn
end Go.Md
namespace Go.Md
open Go.Dn
def qOk (d:ah) (zero:Bool):Bool:=inR d 0 1000000000 3&&(!(d.1==0)||zero)
theorem Su {d:ah} (hd:b9 d):rQ d 3 1000000000=some (inR d 0 1000000000 3,()):=by
 unfold rQ
 have hp:=wu d.2.toNat
 have hp2:(10:Int) ^ d.2.toNat<=1000000000:=by
  have:=aih (n:=10) (by omega) (show d.2.toNat<=9 by have:=hd.2.2;omega)
  have h2:=Int.ofNat_le.2 this
  simpa using h2
 rw[Cl d.2 hd.2.1 (by have:=hd.2.2;omega)]
 have e:inR d 0 1000000000 3=(decide (d.2<=3)&&(decide (d.1>=0)&&decide (d.1<=1000000000*10 ^ d.2.toNat))):=by
  unfold inR
  rw[<- afT, <- afT,aiA,ags]
  constructor
  ·rintro⟨_,h2,h3,h4⟩;exact⟨h2,h3,h4⟩
  ·rintro⟨h2,h3,h4⟩;exact⟨hd,h2,h3,h4⟩
 rw[e,aim,ax (n:=1000000000*10 ^ d.2.toNat) (by omega) (by omega)]
 cases decide (d.2<=3)<;>cases decide (d.1>=0)<;>cases decide (d.1<=1000000000*10 ^ d.2.toNat)<;>rfl
theorem yQ (d:ah) (z:Bool):kJ d z=some (if qOk d z=true then 0 else 1,()):=by
 unfold kJ qOk
 rw[gS,aim]
 by_cases hd:b9 d
 ·rw[Su hd,aiM hd]
  dsimp only
  rw[zne,aiy,aim]
  cases inR d 0 1000000000 3<;>cases (d.1==0)<;>cases z<;>rfl
 ·have:inR d 0 1000000000 3=false:=by unfold inR;simp[hd]
  simp[hd,this]
end Go.Md
