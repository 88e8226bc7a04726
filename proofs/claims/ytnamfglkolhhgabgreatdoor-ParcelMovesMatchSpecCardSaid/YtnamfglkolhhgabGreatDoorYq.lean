/-
  Plain facts, small ones. No condition.
-/
import Derived.Test.YtnamfglkolhhgabGreatDoorYp
import Derived.Test.YtnamfglkolhhgabGreatDoorYm
set_option linter.all false
namespace Go.Md
open Go.Dn
structure tq {α:Type} (k:α→Int) (l l':List α):Prop where
 perm:l.Perm l'
 keys:∀ v,l'.filter (fun x=>k x==v)=l.filter (fun x=>k x==v)
theorem tq.refl {α:Type} (k:α→Int) (l:List α):tq k l l:=⟨List.Perm.refl _,fun _=>rfl⟩
theorem tq.trans {α:Type} {k:α→Int} {a b c:List α} (h:tq k a b) (g:tq k b c):tq k a c:=⟨h.perm.trans g.perm,fun v=>(g.keys v).trans (h.keys v)⟩
theorem tq.append {α:Type} {k:α→Int} {a b c d:List α} (h:tq k a b) (g:tq k c d):tq k (a++c) (b++d):=
 ⟨h.perm.append g.perm,fun v=>by rw[List.filter_append,List.filter_append,h.keys,g.keys]⟩
theorem tq.mem {α:Type} {k:α→Int} {a b:List α} (h:tq k a b) {x:α}:x∈b↔x∈a:=h.perm.mem_iff.symm
theorem tq.length {α:Type} {k:α→Int} {a b:List α} (h:tq k a b):b.length=a.length:=h.perm.length_eq.symm
def Srt {α:Type} (k:α→Int) (l:List α):Prop:=l.Pairwise fun x y=>k x≤k y
theorem Srt.append {α:Type} {k:α→Int} {a b:List α} (ha:Srt k a) (hb:Srt k b) (h:∀ x∈a,∀ y∈b,k x≤k y):Srt k (a++b):=aaK.2 ⟨ha,hb,h⟩
theorem Srt.left {α:Type} {k:α→Int} {a b:List α} (h:Srt k (a++b)):Srt k a:=(aaK.1 h).1
theorem Srt.right {α:Type} {k:α→Int} {a b:List α} (h:Srt k (a++b)):Srt k b:=(aaK.1 h).2.1
section
variable {k:Option Nat→Int} {ar:List o8} {ok:Option Nat→Prop}
end
end Go.Md
namespace Go.Md
open Go.Dn
section
variable {k:Option Nat→Int} {ar:List o8} {ok:Option Nat→Prop}
end
end Go.Md
namespace Go.Md
open Go.Dn
theorem Srt.get {α:Type} {k:α→Int} {l:List α} (h:Srt k l) {i j:Nat} (hij:i≤j) (hj:j<l.length):k (l[i]'(by omega))≤k l[j]:=by
 rcases Nat.lt_or_eq_of_le hij with h1 | h1
 ·exact aaM.1 h i j (by omega) hj h1
 ·subst h1;exact Zt _
section
variable {k:Option Nat→Int} {ar:List o8} {ok:Option Nat→Prop}
end
end Go.Md
namespace Go.Md
open Go.Dn
section
variable {k:Option Nat→Int} {ar:List o8} {ok:Option Nat→Prop}
end
end Go.Md
namespace Go.Md
open Go.Dn
def ChS {α:Type} (k:α→Int) (bs:Nat) (l:List α):Prop:=∀ j:Nat,Srt k ((l.drop (j*bs)).take bs)
theorem ChS.nil {α:Type} (k:α→Int) (bs:Nat):ChS k bs []:=fun _=>by simp[Srt]
theorem ChS.snoc {α:Type} {k:α→Int} {bs:Nat} {A S:List α} {j:Nat} (h:ChS k bs A) (hA:A.length=j*bs) (hS:Srt k S) (hl:S.length≤bs):ChS k bs (A++S):=by
 intro i
 rcases abe i j with hij | hij | hij
 ·have h1:(i+1)*bs≤j*bs:=abg _ hij
  rw[aa0,abi] at h1
  rw[List.drop_append_of_le_length (by omega),aaV (by rw[aak];omega)]
  exact h i
 ·subst hij
  rw[← hA,ZQ,aaX hl]
  exact hS
 ·have h1:(j+1)*bs≤i*bs:=abg _ hij
  rw[aa0,abi] at h1
  rw[ZR (by rw[aai];omega)]
  simp[Srt]
theorem ChS.drop {α:Type} {k:α→Int} {bs:Nat} {l:List α} (h:ChS k bs l) (i:Nat):ChS k bs (l.drop (i*bs)):=by
 intro j
 rw[ZO, ← aa0]
 exact h (i+j)
theorem Srt.take {α:Type} {k:α→Int} {l:List α} (h:Srt k l) (n:Nat):Srt k (l.take n):=by
 rw[← aaU n l] at h;exact h.left
section
variable {k:Option Nat→Int} {ar:List o8} {ok:Option Nat→Prop}
end
end Go.Md
namespace Go.Md
open Go.Dn
def bS {α:Type} (g:Nat→α→Int):Nat→List α→Int
 | _,[]=>0
 | i,y::r=>if g i y=0 then bS g (i+1) r else g i y
theorem dO {α:Type} {g:Nat→α→Int}:∀ {l:List α} {i:Nat},bS g i l=0→∀ j y,l[j]? =some y→g (i+j) y=0
 | [],_,_,_,_,h=>by simp at h
 | y::r,i,h,j,z,hz=>by
  simp only[bS] at h
  by_cases hg:g i y=0
  ·rw[abO hg] at h
   cases j with
   | zero=>simp at hz;subst hz;exact hg
   | succ j=>have:=dO h j z (by simpa using hz);rw[show i+(j+1)=i+1+j by omega];exact this
  ·rw[abN hg] at h;exact absurd h hg
theorem NA {X α:Type} {γ:Type} {f:X→(X→Option ((Int×Unit) ⊕ γ))→Option ((Int×Unit) ⊕ γ)} (mk:Nat→X) (l:List α) (g:Nat→α→Int) (u:γ)
 (hstep:∀ i y again,l[i]? =some y→f (mk i) again=if g i y=0 then again (mk (i+1)) else some (Sum.inl (g i y,()))) (hend:∀ again,f (mk l.length) again=some (Sum.inr u)):
 ∀ (r:List α) (i n:Nat),l.drop i=r→i≤l.length→r.length<n→iter n (mk i) f=if bS g i r=0 then some (Sum.inr u) else some (Sum.inl (bS g i r,()))
 | _,_,0,_,_,hn=>absurd hn (abh _)
 | [],i,n+1,hd,hi,_=>by
  have:i=l.length:=by
   have:=congrArg List.length hd
   simp at this;omega
  subst this
  rw[br,hend];rfl
 | y::r,i,n+1,hd,hi,hn=>by
  have hy:l[i]? =some y:=by
   have:=congrArg (·[0]?) hd
   simpa [Z3] using this
  have hr:l.drop (i+1)=r:=by
   have:=congrArg List.tail hd
   simpa [aaS] using this
  have hi':i<l.length:=(Z6.1 hy).1
  rw[br,hstep i y _ hy]
  by_cases hg:g i y=0
  ·have e:bS g i (y::r)=bS g (i+1) r:=by simp[bS,hg]
   rw[abO hg,e]
   exact NA mk l g u hstep hend r (i+1) n hr hi' (by simp at hn;omega)
  ·have e:bS g i (y::r)=g i y:=by simp[bS,hg]
   rw[abN hg,e,abN hg]
theorem qZ (a b c:Int):kr a b c=some (decide (a<b∨c<a),()):=by
 unfold kr
 by_cases h:a<b
 ·rw[aB h];simp[h]
 ·rw[aF h];simp[h]
theorem QU (n:Int):Bq n=some (decide (1≤n∧n≤3652059),()):=by
 unfold Bq
 rw[qZ,abo]
 congr 2
 simp only[← decide_not]
 congr 1
 simp only[eq_iff_iff];omega
def jy (s:List UInt8):Bool:=((gH s).map (·.1)).getD false
theorem EK (s:List UInt8):gH s=some (jy s,()):=by
 have:∃ b,gH s=some (b,()):=by
  unfold gH
  by_cases h1:(s.length:Int)<1
  ·rw[aB h1];exact⟨_,rfl⟩
  ·rw[aF h1]
   by_cases h2:(s.length:Int)>40
   ·rw[aB h2];exact⟨_,rfl⟩
   ·rw[aF h2]
    have hs:nA s 0=some (s[0]'(by omega)):=by simp[nA]
    rw[hs]
    simp only[abo]
    have ht:jd s [97,98,99,100,101,102,103,104,105,106,107,108,109,110,111,112,113,114,115,116,117,118,119,120,121,122,48,49,50,51,52,53,54,55,56,57,45]=some (Lib.trimS s [97,98,99,100,101,102,103,104,105,106,107,108,109,110,111,112,113,114,115,116,117,118,119,120,121,122,48,49,50,51,52,53,54,55,56,57,45],()):=by
     unfold jd
     rw[show (decide (s.length≤9223372036854775807))=true by simp;omega]
     rfl
    rw[ht]
    simp only[abo]
    generalize (decide ((((s[0]'(by omega)).toNat:Int))<97))=b1
    generalize (decide ((((s[0]'(by omega)).toNat:Int))>122))=b2
    cases b1<;>cases b2<;>exact⟨_,rfl⟩
 obtain⟨b,hb⟩:=this
 unfold jy
 rw[hb];rfl
theorem BL (d:ai):iA d=some (if -1000000000000000≤d.1∧d.1≤1000000000000000∧0≤d.2∧d.2≤9 then 0 else 1,()):=by
 unfold iA
 rw[qZ,abo,qZ]
 simp only[abo]
 by_cases h1:d.1< -1000000000000000∨1000000000000000<d.1
 ·rw[aB h1,abN (by omega)]
 ·rw[aF h1]
  by_cases h2:d.2<0∨9<d.2
  ·rw[aB h2,abN (by omega)]
  ·rw[aF h2,abO (by omega)]
theorem WR {n:Nat} (h:n≤18):(10:Int) ^ n≤1000000000000000000:=by
 have:=abj (n:=10) (by omega) h
 have h2:=Int.ofNat_le.2 this
 simpa using h2
theorem Bu (n:Nat):(0:Int)<10 ^ n:=D8 (by omega) n
theorem N9 (n:Int) (h0:0≤n) (h1:n≤18):JW n=some (10 ^ n.toNat,()):=by
 obtain⟨m,rfl⟩:∃ m:Nat,n=m:=⟨n.toNat,by omega⟩
 unfold JW
 have:iter (X:=su) (β:=sr) (Int.natAbs (1:Int)+(Int.natAbs (m:Int)+(Int.natAbs (0:Int)+2))) (1,(m:Int),0,()) sk=some (Sum.inr (10 ^ m,())):=by
  refine bI (Inv:=fun i x=>x=(10 ^ i,(m:Int),(i:Int),())) m (fun r=>r=some (Sum.inr (10 ^ m,()))) ?_ ?_ _ 0 _ (by simp) (by omega) (by omega)
  ·rintro i _ again hi rfl ih
   unfold sk
   dsimp only
   have h10:=WR (n:=i+1) (by omega)
   have hp:=Bu (i+1)
   rw[ZA] at h10 hp
   rw[aB (by omega),aC (by omega) (by omega),aC (by omega) (by omega)]
   exact ih _ (by rw[ZA];rfl)
  ·rintro _ again rfl
   unfold sk
   dsimp only
   rw[aF (by omega)]
 rw[this,aM]
 simp
def Bh (d:ai):Prop:=0<d.1∧0≤d.2∧d.2≤4∧d.1≤1000000000*10 ^ d.2.toNat
instance (d:ai):Decidable (Bh d):=by unfold Bh;exact inferInstance
theorem zn (l:List (List UInt8)) (y:List UInt8) (hl:l.length<1000000000):iO l y=some (l.any (fun o=>o==y),()):=by
 unfold iO pL
 have loop:iter (X:=fI) (β:=fH) (List.length l+(List.length y+(Int.natAbs ((List.length l:Int))+(Int.natAbs (0:Int)+2)))) (l,y,(List.length l:Int),0,()) fG=some (Sum.inr ())∧l.any (fun o=>o==y)=false∨
  ∃ i:Nat,iter (X:=fI) (β:=fH) (List.length l+(List.length y+(Int.natAbs ((List.length l:Int))+(Int.natAbs (0:Int)+2)))) (l,y,(List.length l:Int),0,()) fG=some (Sum.inl ((i:Int),()))∧l.any (fun o=>o==y)=true:=by
  refine bI (Inv:=fun i x=>x=(l,y,(List.length l:Int),(i:Int),())∧(l.take i).any (fun o=>o==y)=false) l.length (fun r=>r=some (Sum.inr ())∧l.any (fun o=>o==y)=false∨∃ i:Nat,r=some (Sum.inl ((i:Int),()))∧l.any (fun o=>o==y)=true) ?_ ?_ _ 0 _ ⟨rfl,by simp⟩ (by omega) (by omega)
  ·rintro i _ again hi ⟨rfl,hn⟩ ih
   unfold fG
   dsimp only
   have hy:l[i]? =some l[i]:=aJ hi
   rw[aB (by omega),bq,hy,abo]
   cases hb:(y==l[i]) with
   | true=>
    right
    exact⟨i,rfl,ZI.2 ⟨l[i],aaf _,by rw[eq_of_beq hb];simp⟩⟩
   | false=>
    rw[abA,aC (by omega) (by omega)]
    refine ih _ ⟨rfl, ?_⟩
    rw[aaT,hy,List.any_append,hn]
    have:(l[i]==y)=false:=by
     cases h:(l[i]==y) with
     | false=>rfl
     | true=>rw[eq_of_beq h] at hb;simp at hb
    simp[this]
  ·rintro _ again ⟨rfl,hn⟩
   unfold fG
   dsimp only
   rw[aF (by omega)]
   rw[aaX (aa7 _)] at hn
   exact .inl ⟨rfl,hn⟩
 rcases loop with ⟨h1,h2⟩ | ⟨i,h1,h2⟩
 ·rw[h1,aM,abo,h2];rfl
 ·rw[h1,gu,abo,h2];simp
structure X1 (d:nQ):Prop where
 day0:1≤d.2.1
 day1:d.2.1≤3652059
 mon:Bh d.2.2.1
 days0:0≤d.2.2.2.1
 days1:d.2.2.2.1≤10000
 with0:0≤d.2.2.2.2.1
 with1:d.2.2.2.2.1≤d.2.2.2.1
 disc0:0≤d.2.2.2.2.2
 disc1:d.2.2.2.2.2≤1000
structure YW (p:N3):Prop where
 day0:1≤p.1
 day1:p.1≤3652059
 mon:Bh p.2.1
 names:p.2.2.length≤100
end Go.Md
namespace Go.Md
open Go.Dn
def He (d:ai):Int:=d.1*10 ^ (4 - d.2).toNat
theorem Bh.He {d:ai} (h:Bh d):0<He d∧He d≤10000000000000:=by
 obtain⟨h1,h2,h3,h4⟩:=h
 unfold Md.He
 have hp:=Bu (4 - d.2).toNat
 refine⟨Int.mul_pos h1 hp, ?_⟩
 have a1:d.1*10 ^ (4 - d.2).toNat≤1000000000*10 ^ d.2.toNat*10 ^ (4 - d.2).toNat:=Int.mul_le_mul_of_nonneg_right h4 (by omega)
 rw[Zv, ← Zz,show d.2.toNat+(4 - d.2).toNat=4 by omega] at a1
 omega
abbrev Bd:=o8
def Uq (x:Bd):Int:=x.2.1
def Uu (x:Bd):Int:=x.2.2.1
def taken (x:Bd):Int:=x.2.2.2.1
def done (x:Bd):Int:=x.2.2.2.2
structure Py (x:Bd):Prop where
 d:X1 x.1
 owes0:0≤Uq x
 paid0:0≤Uu x
 taken0:0≤taken x
 sum:Uq x+Uu x+taken x=He x.1.2.2.1
 none:done x=0→taken x=0
 done0:done x=0∨x.1.2.1≤done x
 iff:Uq x=0↔done x≠0
theorem Py.le {x:Bd} (h:Py x):Uq x≤10000000000000∧Uu x≤10000000000000∧taken x≤10000000000000:=by
 have:=h.d.mon.He;have:=h.sum;have:=h.owes0;have:=h.paid0;have:=h.taken0;omega
section
variable {ar:List Bd} {h:Nat} {x:Bd}
theorem XU {α:Type} {l:List α} {i:Nat} {x y:α} (h:l[i]? =some x):(l.set i y)[i]? =some y:=aab (Z6.1 h).1
end
end Go.Md
namespace Go.Md
open Go.Dn
structure jr (ds:List nQ) (ar:List Bd):Prop where
 ds:ar.map (·.1)=ds
 ok:∀ x∈ar,Py x
theorem jr.len {ds:List nQ} {ar:List Bd} (h:jr ds ar):ar.length=ds.length:=by rw[← h.ds];simp
theorem jr.set {ds:List nQ} {ar:List Bd} (h:jr ds ar) {i:Nat} {x y:Bd} (hx:ar[i]? =some x) (hy:Py y) (he:y.1=x.1):jr ds (ar.set i y):=by
 refine⟨?_,fun z hz=> ?_⟩
 ·rw[List.map_set,he, ← h.ds]
  apply ZV
  intro j
  by_cases hj:i=j
  ·subst hj
   rw[aab (by simp;exact (Z6.1 hx).1),Z7,hx];rfl
  ·rw[aaa hj]
 ·rcases aaE hz with hz | rfl
  ·exact h.ok z hz
  ·exact hy
theorem jr.get {ds:List nQ} {ar:List Bd} (h:jr ds ar) {i:Nat} {x:Bd} (hx:ar[i]? =some x):Py x:=h.ok x (aaC hx)
def XX (ar:List Bd):Int:=(ar.map Uu).sum
structure YY (ds:List nQ) (L T:Int) (s:Int×List Bd):Prop where
 ar:jr ds s.2
 l0:0≤s.1
 l1:s.1≤L
 tot:s.1+XX s.2=T
end Go.Md
namespace Go.Md
open Go.Dn
theorem Lw (z:Int) (p:Int):wQ (W z) p=some (if z.natAbs≤1000000000000000 then ((z,p),0,()) else ((0,0),1,())):=by
 unfold wQ
 rw[JC z 1000000000000000 (by omega) (by omega),abo]
 by_cases h:(z.natAbs:Int)≤1000000000000000
 ·rw[abO h,abO (by omega)];rfl
 ·rw[abN h,abN (by omega)];rfl
def tu (d:ai):Int:=d.1*10 ^ (9 - d.2).toNat
def cK (d:ai):Prop:=d.1.natAbs≤1000000000000000∧0≤d.2∧d.2≤9
theorem Bh.dec {d:ai} (h:Bh d):cK d:=by
 obtain⟨h1,h2,h3,h4⟩:=h
 have hq:(10:Int) ^ d.2.toNat≤10000:=by
  have:=abj (n:=10) (by omega) (show d.2.toNat≤4 by omega)
  have h2:=Int.ofNat_le.2 this
  simpa using h2
 exact⟨by omega,h2,by omega⟩
theorem Mx {z:Int} (h:z.natAbs<1000000000000000000000000000000000000000000000000000000000000):(dg6 z.natAbs).length≤10:=S8 (k:=10) (by simpa using h)
theorem Iy (n:Nat) (hn:n≤40):Au (n:Int)=some (N (10 ^ n),()):=by
 unfold Au
 rw[Aq 1 (by omega) (by omega),abo]
 dsimp only
 have hb:∀ i:Nat,i≤41→(dg6 ((10:Int) ^ i).natAbs).length≤10:=by
  intro i hi
  refine Mx ?_
  have h1:((10:Int) ^ i).natAbs=10 ^ i:=by rw[Int.natAbs_pow];rfl
  have h2:=abj (n:=10) (by omega) hi
  omega
 have loop:iter (X:=w6) (β:=w5) (Int.natAbs (n:Int)+(Int.natAbs (0:Int)+(List.length ([]:List Int)+(List.length (N 1).2+2)))) ((n:Int),0,false,[],(N 1).1,(N 1).2,()) wZ=some (Sum.inr (false,[],(N (10 ^ n)).1,(N (10 ^ n)).2,())):=by
  refine bI (Inv:=fun i x=>x=((n:Int),(i:Int),false,[],(N (10 ^ i)).1,(N (10 ^ i)).2,())) n (fun r=>r=some (Sum.inr (false,[],(N (10 ^ n)).1,(N (10 ^ n)).2,()))) ?_ ?_ _ 0 _ (by simp) (by omega) (by omega)
  ·rintro i _ again hi rfl ih
   unfold wZ
   dsimp only
   rw[aB (by omega),Aq 10 (by omega) (by omega),abo]
   change (Option.bind (ry (N (10 ^ i)) (N 10)) _)=_
   have h10:(dg6 (10:Int).natAbs).length≤10:=Mx (by decide)
   rw[yy _ _ (by have:=hb i (by omega);omega) (by omega),abo]
   dsimp only
   rw[aC (by omega) (by omega)]
   exact ih _ (by rw[ZA];rfl)
  ·rintro _ again rfl
   unfold wZ
   dsimp only
   rw[aF (by omega)]
 rw[loop,aM]
theorem Rr (d:ai) (hd:cK d):wV d 9=some (N (tu d),()):=by
 obtain⟨h1,h2,h3⟩:=hd
 unfold wV
 rw[Aq _ (by omega) (by omega),abo,aC (by omega) (by omega)]
 dsimp only
 obtain⟨m,hm⟩:∃ m:Nat,9 - d.2=m:=⟨(9 - d.2).toNat,by omega⟩
 rw[hm,Iy m (by omega),abo]
 dsimp only
 have hl1:(dg6 d.1.natAbs).length≤10:=Mx (by omega)
 have hl2:(dg6 ((10:Int) ^ m).natAbs).length≤10:=by
  refine Mx ?_
  have h1:((10:Int) ^ m).natAbs=10 ^ m:=by rw[Int.natAbs_pow];rfl
  have h2:=abj (n:=10) (by omega) (show m≤9 by omega)
  omega
 rw[yy _ _ (by omega) (by omega),abo]
 unfold tu
 rw[hm];rfl
theorem J7 {d:ai} (hd:cK d):(tu d).natAbs≤1000000000000000000000000:=by
 obtain⟨h1,h2,h3⟩:=hd
 unfold tu
 rw[Int.natAbs_mul,Int.natAbs_pow]
 have h4:=abj (n:=10) (by omega) (show (9 - d.2).toNat≤9 by omega)
 have h5:d.1.natAbs*(10:Int).natAbs ^ (9 - d.2).toNat≤1000000000000000*1000000000:=Nat.mul_le_mul h1 (by simpa using h4)
 omega
end Go.Md
namespace Go.Md
open Go.Dn
end Go.Md
namespace Go.Md
open Go.Dn
end Go.Md
namespace Go.Md
open Go.Dn
theorem KK {X α B:Type} {f:X→(X→Option B)→Option B} (mk:Nat→X) (l:List α) (g:Nat→α→Int) (fin:Option B) (out:Int→Option B)
 (hstep:∀ i y again,l[i]? =some y→f (mk i) again=if g i y=0 then again (mk (i+1)) else out (g i y)) (hend:∀ again,f (mk l.length) again=fin):
 ∀ (r:List α) (i n:Nat),l.drop i=r→i≤l.length→r.length<n→iter n (mk i) f=if bS g i r=0 then fin else out (bS g i r)
 | _,_,0,_,_,hn=>absurd hn (abh _)
 | [],i,n+1,hd,hi,_=>by
  have:i=l.length:=by
   have:=congrArg List.length hd
   simp at this;omega
  subst this
  rw[br,hend];rfl
 | y::r,i,n+1,hd,hi,hn=>by
  have hy:l[i]? =some y:=by
   have:=congrArg (·[0]?) hd
   simpa [Z3] using this
  have hr:l.drop (i+1)=r:=by
   have:=congrArg List.tail hd
   simpa [aaS] using this
  have hi':i<l.length:=(Z6.1 hy).1
  rw[br,hstep i y _ hy]
  by_cases hg:g i y=0
  ·have e:bS g i (y::r)=bS g (i+1) r:=by simp[bS,hg]
   rw[abO hg,e]
   exact KK mk l g fin out hstep hend r (i+1) n hr hi' (by simp at hn;omega)
  ·have e:bS g i (y::r)=g i y:=by simp[bS,hg]
   rw[abN hg,e,abN hg]
end Go.Md
namespace Go.Md
open Go.Dn
def Pz (D:Int) (S:Nat→Prop) (ar:List Bd):Prop:=∀ i x,S i→ar[i]? =some x→done x=0∨D<done x
theorem Pz.set {D:Int} {S:Nat→Prop} {ar:List Bd} {h:Nat} {x y:Bd} (hq:Pz D S ar) (hx:ar[h]? =some x) (hy:(done x=0∨D<done x)→(done y=0∨D<done y)):Pz D S (ar.set h y):=by
 intro i z hi hz
 by_cases e:h=i
 ·subst e
  rw[XU hx] at hz
  cases hz
  exact hy (hq h x hi hx)
 ·rw[aaa e] at hz
  exact hq i z hi hz
end Go.Md
namespace Go.Md
open Go.Dn
def nmC:List UInt8:=[97,98,99,100,101,102,103,104,105,106,107,108,109,110,111,112,113,114,115,116,117,118,119,120,121,122,48,49,50,51,52,53,54,55,56,57,45]
def nmB (c:UInt8):Bool:=nmC.contains c
set_option maxRecDepth 100000 in
theorem XJ:∀ n:Fin 256,nmB (UInt8.ofNat n.1)=((decide (97≤n.1)&&decide (n.1≤122))||((decide (48≤n.1)&&decide (n.1≤57))||decide (n.1=45))):=by decide
theorem Ye (c:UInt8):nmB c=((decide (97≤c.toNat)&&decide (c.toNat≤122))||((decide (48≤c.toNat)&&decide (c.toNat≤57))||decide (c.toNat=45))):=by
 have:=XJ ⟨c.toNat,UInt8.toNat_lt c⟩
 simpa using this
theorem Bl {α:Type} {p:α→Bool}:∀ {l:List α},l.dropWhile p=[]↔∀ x∈l,p x=true
 | []=>by simp
 | y::r=>by
  cases hp:p y with
  | true=>rw[List.dropWhile_cons_of_pos hp,Bl];simp[hp]
  | false=>rw[List.dropWhile_cons_of_neg (by simp[hp])];simp[hp]
theorem Ko {α:Type} {p:α→Bool} {y:α} {r:List α}:∀ {l:List α},l.dropWhile p=y::r→p y=false
 | [],h=>by simp at h
 | z::t,h=>by
  cases hp:p z with
  | true=>rw[List.dropWhile_cons_of_pos hp] at h;exact Ko h
  | false=>rw[List.dropWhile_cons_of_neg (by simp[hp])] at h;cases h;exact hp
theorem We (s c:List UInt8):(Lib.trimS s c==[])=s.all (c.contains ·):=by
 rw[Zg]
 simp only[beq_iff_eq,ZF]
 unfold Lib.trimS Lib.trimLeftS Lib.trimRightS
 constructor
 ·intro h
  rw[Bl] at h
  cases hd:s.reverse.dropWhile (c.contains ·) with
  | nil=>
   rw[Bl] at hd
   intro x hx
   exact hd x (by simpa using hx)
  | cons y r=>
   exfalso
   have h1:=h y (by rw[hd];simp)
   have h2:=Ko hd
   rw[h1] at h2
   cases h2
 ·intro h
  have:s.reverse.dropWhile (c.contains ·)=[]:=Bl.2 fun x hx=>h x (by simpa using hx)
  rw[this];rfl
theorem NX {α:Type} (p:α→Bool) (e:Int) (he:e≠0):∀ (l:List α) (i:Nat),bS (fun _ c=>if p c=true then 0 else e) i l=if l.all p=true then 0 else e
 | [],i=>by simp[bS]
 | y::r,i=>by
  have ih:=NX p e he r (i+1)
  cases hp:p y with
  | true=>simp only[bS,hp,abP,ZE,Zr];exact ih
  | false=>simp[bS,hp,he]
theorem AG {s:List UInt8} {i:Nat} {c:UInt8} (h:s[i]? =some c):nA s (i:Int)=some c:=by simp[nA,h]
theorem GJ (s:List UInt8):nK s=some (jy s,()):=by
 unfold nK jy gH GM
 by_cases h0:s=[]
 ·subst h0;rfl
 have hb:(s==[])=false:=by simpa using h0
 have hl:0<s.length:=List.length_pos_iff.2 h0
 rw[hb,abA,aF (show ¬((s.length:Int)<1) by omega)]
 by_cases h2:(s.length:Int)>40
 ·rw[aB h2,aB h2];rfl
 rw[aF h2,aF h2]
 have hs:nA s 0=some (s[0]'hl):=AG (i:=0) (aJ hl)
 simp only[hs,abo]
 by_cases h3:(((s[0]'hl).toNat:Int))<97
 ·simp only[aB h3];rfl
 simp only[aF h3]
 by_cases h4:(((s[0]'hl).toNat:Int))>122
 ·simp only[aB h4];rfl
 simp only[aF h4]
 have ht:jd s [97,98,99,100,101,102,103,104,105,106,107,108,109,110,111,112,113,114,115,116,117,118,119,120,121,122,48,49,50,51,52,53,54,55,56,57,45]=some (Lib.trimS s nmC,()):=by
  unfold jd
  rw[show (decide (s.length≤9223372036854775807))=true by simp;omega]
  rfl
 rw[ht,abo]
 have loop:=KK (f:=u9) (fun i=>(s,(s.length:Int),(i:Int),())) s (fun _ c=>if nmB c=true then 0 else 1) (some (Sum.inr ())) (fun _=>some (Sum.inl (false,())))
  (fun i c again hi=>by
    have hil:=(Z6.1 hi).1
    unfold u9
    dsimp only
    rw[aB (show (i:Int)<(s.length:Int) by omega),AG hi,abo,Ye c,aC (by omega) (by omega)]
    by_cases a1:(c.toNat:Int)<97<;>by_cases a2:(c.toNat:Int)>122<;>by_cases a3:(c.toNat:Int)<48<;>by_cases a4:(c.toNat:Int)>57<;>by_cases a5:(c.toNat:Int)=45<;>
      first
      | omega
      | (have b1:(97≤c.toNat)=¬ ((c.toNat:Int)<97):=by simp only[eq_iff_iff];omega
         have b2:(c.toNat≤122)=¬ ((c.toNat:Int)>122):=by simp only[eq_iff_iff];omega
         have b3:(48≤c.toNat)=¬ ((c.toNat:Int)<48):=by simp only[eq_iff_iff];omega
         have b4:(c.toNat≤57)=¬ ((c.toNat:Int)>57):=by simp only[eq_iff_iff];omega
         have b5:(c.toNat=45)=((c.toNat:Int)=45):=by simp only[eq_iff_iff];omega
         simp only[b1,b2,b3,b4,b5,a1,a2,a3,a4,a5,bne,abI,abH,not_true_eq_false,not_false_eq_true,Zf,Zr,Ze,Bool.false_and,Bool.or_true,Bool.true_or,Bool.or_false,Zj,abB,abA,abP,Zh,abM,Int.one_ne_zero,aby,Zo]
         first | rfl | (have a6:((c.toNat:Int)==45)=false:=(by simp only[abx,ne_eq];exact a5);rw[a6];rfl)))
  (fun again=>by
    unfold u9
    dsimp only
    rw[aF (by omega)])
  s 0 (List.length s+(Int.natAbs ((List.length s:Int))+(Int.natAbs (0:Int)+2))) rfl (abn _) (by omega)
 rw[show ((0:Nat):Int)=0 from rfl] at loop
 rw[loop,NX nmB 1 (by omega),We]
 have e:(s.all fun x=>nmC.contains x)=s.all nmB:=rfl
 rw[e]
 cases s.all nmB<;>rfl
theorem vf (a b c:Int):nM a b c=some (decide (b≤a∧a≤c),()):=by
 unfold nM
 by_cases h:b≤a
 ·rw[aB h];simp[h]
 ·rw[aF h];simp[h]
theorem SJ (n:Int):Eb n=some (decide (1≤n∧n≤3652059),()):=by
 unfold Eb Jx
 rw[vf];rfl
theorem GH (d:ai):jq d=some (if -1000000000000000≤d.1∧d.1≤1000000000000000∧0≤d.2∧d.2≤9 then 0 else 1,()):=by
 unfold jq
 rw[vf,abo]
 by_cases h1: -1000000000000000≤d.1∧d.1≤1000000000000000
 ·rw[abF h1]
  simp only[Zo,abA]
  rw[vf,abo]
  by_cases h2:0≤d.2∧d.2≤9
  ·rw[abF h2,abO ⟨h1.1,h1.2,h2⟩];rfl
  ·rw[abD h2,abN (fun h=>h2 h.2.2)];rfl
 ·rw[abD h1,abN (fun h=>h1 ⟨h.1,h.2.1⟩)];rfl
theorem Ux {a b:ai} (ha:cK a) (hb:cK b):TD a b=some ((tu a - tu b).sign,()):=by
 unfold TD
 have l1:=J7 ha
 have l2:=J7 hb
 have m1:=Mx (z:=tu a) (by omega)
 have m2:=Mx (z:=tu b) (by omega)
 rw[Rr a ha,abo,Rr b hb,abo,V3 _ _ (by omega) (by omega)]
 rfl
instance (d:ai):Decidable (cK d):=by unfold cK;infer_instance
end Go.Md
