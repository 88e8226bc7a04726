/-
  Plain facts, small ones. No condition.
-/
import Derived.Test.YtnamfglkolhhgadGreatDoorYp
import Derived.Test.YtnamfglkolhhgadGreatDoorYm
set_option linter.all false
namespace Go.Md
open Go.Dn
structure bE {α:Type} (k:α→Int) (l l':List α):Prop where
 perm:l.Perm l'
 keys:∀ v,l'.filter (fun x=>k x==v)=l.filter (fun x=>k x==v)
theorem bE.refl {α:Type} (k:α→Int) (l:List α):bE k l l:=⟨List.Perm.refl _,fun _=>rfl⟩
theorem bE.trans {α:Type} {k:α→Int} {a b c:List α} (h:bE k a b) (g:bE k b c):bE k a c:=⟨h.perm.trans g.perm,fun v=>(g.keys v).trans (h.keys v)⟩
theorem bE.append {α:Type} {k:α→Int} {a b c d:List α} (h:bE k a b) (g:bE k c d):bE k (a++c) (b++d):=
 ⟨h.perm.append g.perm,fun v=>by rw[ahz,ahz,h.keys,g.keys]⟩
theorem bE.mem {α:Type} {k:α→Int} {a b:List α} (h:bE k a b) {x:α}:x∈b↔x∈a:=h.perm.mem_iff.symm
theorem bE.length {α:Type} {k:α→Int} {a b:List α} (h:bE k a b):b.length=a.length:=h.perm.length_eq.symm
theorem bE.swap {α:Type} {k:α→Int} {u v:List α} (h:∀ x∈u,∀ y∈v,k x≠k y):bE k (u++v) (v++u):=by
 refine⟨List.perm_append_comm,fun w=> ?_⟩
 rw[ahz,ahz]
 by_cases hu:∃ x∈u,k x=w
 ·obtain⟨x,hx,rfl⟩:=hu
  have:v.filter (fun y=>k y==k x)=[]:=by
   rw[List.filter_eq_nil_iff]
   intro y hy
   simpa using fun e=>h x hx y hy e.symm
  rw[this];simp
 ·have:u.filter (fun y=>k y==w)=[]:=by
   rw[List.filter_eq_nil_iff]
   intro y hy
   simpa using fun e=>hu ⟨y,hy,e⟩
  rw[this];simp
def Srt {α:Type} (k:α→Int) (l:List α):Prop:=l.Pairwise fun x y=>k x≤k y
theorem Srt.append {α:Type} {k:α→Int} {a b:List α} (ha:Srt k a) (hb:Srt k b) (h:∀ x∈a,∀ y∈b,k x≤k y):Srt k (a++b):=aiz.2 ⟨ha,hb,h⟩
theorem Srt.left {α:Type} {k:α→Int} {a b:List α} (h:Srt k (a++b)):Srt k a:=(aiz.1 h).1
theorem Srt.right {α:Type} {k:α→Int} {a b:List α} (h:Srt k (a++b)):Srt k b:=(aiz.1 h).2.1
theorem Srt.Nh {α:Type} {k:α→Int} {a b:List α} (h:Srt k (a++b)):∀ x∈a,∀ y∈b,k x≤k y:=(aiz.1 h).2.2
theorem YA {α:Type} (A B:List α) (x y:α):((A++y::x::B).set (A.length+1) y).set A.length x=A++x::y::B:=by
 induction A with
 | nil=>rfl
 | cons a A ih=>simp only[ahm,ah1,aiG,ih]
theorem adm {α:Type} (A B:List α) (x y:α):((A++x::y::B).set A.length y).set (A.length+1) x=A++y::x::B:=by
 induction A with
 | nil=>rfl
 | cons a A ih=>simp only[ahm,ah1,aiG,ih]
theorem get_at {α:Type} (A B:List α) (y:α):(A++y::B)[A.length]? =some y:=by simp
theorem No {α:Type} (A B:List α) (x y:α):(A++y::x::B)[A.length+1]? =some x:=by simp
theorem qv {α:Type} {l:List α} {n:Nat} (h:n≤l.length):∃ A B,l=A++B∧A.length=n:=⟨l.take n,l.drop n,by simp,by simp;omega⟩
section
variable {k:Option Nat→Int} {ar:List tY} {ok:Option Nat→Prop}
theorem aee {α:Type} {k:α→Int} {P:List α} (h:Srt k P) {v:Int} (hl:∀ y,P.getLast? =some y→k y≤v):∀ y∈P,k y≤v:=by
 rcases List.eq_nil_or_concat P with rfl | ⟨Q,z,rfl⟩
 ·simp
 ·rw[List.concat_eq_append] at*
  have hz:=hl z (by simp)
  intro y hy
  rcases aii.1 hy with hy | hy
  ·have:=h.Nh y hy z (by simp);omega
  ·rw[aiv.1 hy];exact hz
theorem PL {α:Type} {k:α→Int} {P2 P3:List α} {x:α} (hs:Srt k (P2++P3)) (h3:∀ y∈P3,k x<k y) (h2:∀ y,P2.getLast? =some y→k y≤k x):Srt k (P2++x::P3)∧bE k (P2++P3++[x]) (P2++x::P3):=by
 constructor
 ·refine hs.left.append (aiA.2 ⟨fun y hy=>by have:=h3 y hy;omega,hs.right⟩) ?_
  intro y hy z hz
  have hy':=aee hs.left h2 y hy
  rcases aij.1 hz with rfl | hz
  ·exact hy'
  ·exact hs.Nh y hy z hz
 ·rw[ahk]
  refine (bE.refl k P2).append ?_
  have:=bE.swap (k:=k) (u:=P3) (v:=[x]) (fun y hy z hz=>by rw[aiv.1 hz];have:=h3 y hy;omega)
  simpa using this
end
end Go.Md
namespace Go.Md
open Go.Dn
theorem aap {α:Type} (A B:List α) (x y:α):(A++x::B).set A.length y=A++y::B:=by
 induction A with
 | nil=>rfl
 | cons a A ih=>simp only[ahm,ah1,aiG,ih]
section
variable {k:Option Nat→Int} {ar:List tY} {ok:Option Nat→Prop}
end
end Go.Md
namespace Go.Md
open Go.Dn
theorem bsearch {X β:Type} {f:X→(X→Option β)→Option β} (mk:Nat→Nat→X) (fin:Nat→Option β) (P:Nat→Prop) [DecidablePred P] (lo hi:Nat)
 (hstep:∀ i j again,lo≤i→i<j→j≤hi→f (mk i j) again=if P ((i+j) / 2) then again (mk ((i+j) / 2+1) j) else again (mk i ((i+j) / 2)))
 (hend:∀ i again,lo≤i→i≤hi→f (mk i i) again=fin i) (mono:∀ s t,lo≤s→s≤t→t<hi→P t→P s):
 ∀ n i j,j - i<n→lo≤i→i≤j→j≤hi→(∀ t,lo≤t→t<i→P t)→(∀ t,j≤t→t<hi→¬P t)→∃ r,iter n (mk i j) f=fin r∧lo≤r∧r≤hi∧(∀ t,lo≤t→t<r→P t)∧(∀ t,r≤t→t<hi→¬P t)
 | 0,i,j,hn,_,_,_,_,_=>by omega
 | n+1,i,j,hn,h1,h2,h3,h4,h5=>by
  rw[aZ]
  by_cases hij:i=j
  ·subst hij
   exact⟨i,hend i _ h1 h3,h1,h3,h4,h5⟩
  ·rw[hstep i j _ h1 (by omega) h3]
   by_cases hP:P ((i+j) / 2)
   ·rw[ajQ hP]
    exact bsearch mk fin P lo hi hstep hend mono n _ _ (by omega) (by omega) (by omega) h3 (fun t ht1 ht2=>mono t _ ht1 (show t≤(i+j) / 2 by omega) (by omega) hP) h5
   ·rw[ajP hP]
    exact bsearch mk fin P lo hi hstep hend mono n _ _ (by omega) h1 (by omega) (by omega) h4 (fun t ht1 ht2 hPt=>hP (mono _ t (by omega) ht1 ht2 hPt))
theorem Np (i j:Nat) (h:i+j<4000000000000000000):w64 (Int.fdiv (bR (w64 ((i:Int)+(j:Int)))) (2 ^ 1))=(((i+j) / 2:Nat):Int):=by
 rw[aq (n:=(i:Int)+(j:Int)) (by omega) (by omega),dF (by omega) (by omega),agU _ (by omega),aq (by omega) (by omega)]
 omega
theorem aeq {α:Type} (X L R Y:List α) {i:Nat} (h:i<L.length):(X++L++R++Y)[X.length+i]? =some L[i]:=by
 rw[ahk,ahk,ahK (by omega),ahJ (by omega),show X.length+i - X.length=i by omega,ahO h]
theorem aaM {α:Type} (X L R Y:List α) {i:Nat} (h:i<R.length):(X++L++R++Y)[X.length+L.length+i]? =some R[i]:=by
 rw[ahk,ahk,ahK (by omega),ahK (by omega),ahJ (by omega),show X.length+L.length+i - X.length - L.length=i by omega,ahO h]
theorem Srt.get {α:Type} {k:α→Int} {l:List α} (h:Srt k l) {i j:Nat} (hij:i≤j) (hj:j<l.length):k (l[i]'(by omega))≤k l[j]:=by
 rcases Nat.lt_or_eq_of_le hij with h1 | h1
 ·exact aiB.1 h i j (by omega) hj h1
 ·subst h1;exact agV _
section
variable {k:Option Nat→Int} {ar:List tY} {ok:Option Nat→Prop}
end
end Go.Md
namespace Go.Md
open Go.Dn
section
variable {k:Option Nat→Int} {ar:List tY} {ok:Option Nat→Prop}
end
end Go.Md
namespace Go.Md
open Go.Dn
def ChS {α:Type} (k:α→Int) (bs:Nat) (l:List α):Prop:=∀ j:Nat,Srt k ((l.drop (j*bs)).take bs)
theorem ChS.nil {α:Type} (k:α→Int) (bs:Nat):ChS k bs []:=fun _=>by simp[Srt]
theorem ChS.snoc {α:Type} {k:α→Int} {bs:Nat} {A S:List α} {j:Nat} (h:ChS k bs A) (hA:A.length=j*bs) (hS:Srt k S) (hl:S.length≤bs):ChS k bs (A++S):=by
 intro i
 rcases ai9 i j with hij | hij | hij
 ·have h1:(i+1)*bs≤j*bs:=aje _ hij
  rw[aiS,ajh] at h1
  rw[ahp (by omega),aiM (by rw[ah2];omega)]
  exact h i
 ·subst hij
  rw[← hA,ahs,aiP hl]
  exact hS
 ·have h1:(j+1)*bs≤i*bs:=aje _ hij
  rw[aiS,ajh] at h1
  rw[ahu (by rw[ah0];omega)]
  simp[Srt]
theorem ChS.drop {α:Type} {k:α→Int} {bs:Nat} {l:List α} (h:ChS k bs l) (i:Nat):ChS k bs (l.drop (i*bs)):=by
 intro j
 rw[ahq, ← aiS]
 exact h (i+j)
theorem Srt.take {α:Type} {k:α→Int} {l:List α} (h:Srt k l) (n:Nat):Srt k (l.take n):=by
 rw[← aiL n l] at h;exact h.left
section
variable {k:Option Nat→Int} {ar:List tY} {ok:Option Nat→Prop}
end
end Go.Md
namespace Go.Md
open Go.Dn
def cD {α:Type} (g:Nat→α→Int):Nat→List α→Int
 | _,[]=>0
 | i,y::r=>if g i y=0 then cD g (i+1) r else g i y
theorem lQ {α:Type} {g:Nat→α→Int}:∀ {l:List α} {i:Nat},cD g i l=0→∀ j y,l[j]? =some y→g (i+j) y=0
 | [],_,_,_,_,h=>by simp at h
 | y::r,i,h,j,z,hz=>by
  simp only[cD] at h
  by_cases hg:g i y=0
  ·rw[ajQ hg] at h
   cases j with
   | zero=>simp at hz;subst hz;exact hg
   | succ j=>have:=lQ h j z (by simpa using hz);rw[show i+(j+1)=i+1+j by omega];exact this
  ·rw[ajP hg] at h;exact absurd h hg
theorem UN {X α:Type} {γ:Type} {f:X→(X→Option ((Int×Unit) ⊕ γ))→Option ((Int×Unit) ⊕ γ)} (mk:Nat→X) (l:List α) (g:Nat→α→Int) (u:γ)
 (hstep:∀ i y again,l[i]? =some y→f (mk i) again=if g i y=0 then again (mk (i+1)) else some (Sum.inl (g i y,()))) (hend:∀ again,f (mk l.length) again=some (Sum.inr u)):
 ∀ (r:List α) (i n:Nat),l.drop i=r→i≤l.length→r.length<n→iter n (mk i) f=if cD g i r=0 then some (Sum.inr u) else some (Sum.inl (cD g i r,()))
 | _,_,0,_,_,hn=>absurd hn (ajg _)
 | [],i,n+1,hd,hi,_=>by
  have:i=l.length:=by
   have:=congrArg List.length hd
   simp at this;omega
  subst this
  rw[aZ,hend];rfl
 | y::r,i,n+1,hd,hi,hn=>by
  have hy:l[i]? =some y:=by
   have:=congrArg (·[0]?) hd
   simpa [ahN] using this
  have hr:l.drop (i+1)=r:=by
   have:=congrArg List.tail hd
   simpa [aiJ] using this
  have hi':i<l.length:=(ahQ.1 hy).1
  rw[aZ,hstep i y _ hy]
  by_cases hg:g i y=0
  ·have e:cD g i (y::r)=cD g (i+1) r:=by simp[cD,hg]
   rw[ajQ hg,e]
   exact UN mk l g u hstep hend r (i+1) n hr hi' (by simp at hn;omega)
  ·have e:cD g i (y::r)=g i y:=by simp[cD,hg]
   rw[ajP hg,e,ajP hg]
theorem eP (a b c:Int):nc a b c=some (decide (a<b∨c<a),()):=by
 unfold nc
 by_cases h:a<b
 ·rw[ax h];simp[h]
 ·rw[av h];simp[h]
theorem XH (n:Int):Gu n=some (decide (1≤n∧n≤3652059),()):=by
 unfold Gu
 rw[eP,ajq]
 congr 2
 simp only[← decide_not]
 congr 1
 simp only[eq_iff_iff];omega
def eH (s:List UInt8):Bool:=((gj s).map (·.1)).getD false
theorem tu (s:List UInt8):gj s=some (eH s,()):=by
 have:∃ b,gj s=some (b,()):=by
  unfold gj
  by_cases h1:(s.length:Int)<1
  ·rw[ax h1];exact⟨_,rfl⟩
  ·rw[av h1]
   by_cases h2:(s.length:Int)>40
   ·rw[ax h2];exact⟨_,rfl⟩
   ·rw[av h2]
    have hs:rI s 0=some (s[0]'(by omega)):=by simp[rI]
    rw[hs]
    simp only[ajq]
    have ht:iA s [97,98,99,100,101,102,103,104,105,106,107,108,109,110,111,112,113,114,115,116,117,118,119,120,121,122,48,49,50,51,52,53,54,55,56,57,45]=some (Lib.trimS s [97,98,99,100,101,102,103,104,105,106,107,108,109,110,111,112,113,114,115,116,117,118,119,120,121,122,48,49,50,51,52,53,54,55,56,57,45],()):=by
     unfold iA
     rw[show (decide (s.length≤9223372036854775807))=true by simp;omega]
     rfl
    rw[ht]
    simp only[ajq]
    generalize (decide ((((s[0]'(by omega)).toNat:Int))<97))=b1
    generalize (decide ((((s[0]'(by omega)).toNat:Int))>122))=b2
    cases b1<;>cases b2<;>exact⟨_,rfl⟩
 obtain⟨b,hb⟩:=this
 unfold eH
 rw[hb];rfl
theorem GS (d:ak):iQ d=some (if -1000000000000000≤d.1∧d.1≤1000000000000000∧0≤d.2∧d.2≤9 then 0 else 1,()):=by
 unfold iQ
 rw[eP,ajq,eP]
 simp only[ajq]
 by_cases h1:d.1< -1000000000000000∨1000000000000000<d.1
 ·rw[ax h1,ajP (by omega)]
 ·rw[av h1]
  by_cases h2:d.2<0∨9<d.2
  ·rw[ax h2,ajP (by omega)]
  ·rw[av h2,ajQ (by omega)]
theorem ad7 {n:Nat} (h:n≤18):(10:Int) ^ n≤1000000000000000000:=by
 have:=ajj (n:=10) (by omega) h
 have h2:=ag5.2 this
 simpa using h2
theorem GC (n:Nat):(0:Int)<10 ^ n:=P8 (by omega) n
theorem Vo (n:Int) (h0:0≤n) (h1:n≤18):Qt n=some (10 ^ n.toNat,()):=by
 obtain⟨m,rfl⟩:∃ m:Nat,n=m:=⟨n.toNat,by omega⟩
 unfold Qt
 have:iter (X:=yw) (β:=yu) (Int.natAbs (1:Int)+(Int.natAbs (m:Int)+(Int.natAbs (0:Int)+2))) (1,(m:Int),0,()) yt=some (Sum.inr (10 ^ m,())):=by
  refine bf (Inv:=fun i x=>x=(10 ^ i,(m:Int),(i:Int),())) m (fun r=>r=some (Sum.inr (10 ^ m,()))) ?_ ?_ _ 0 _ (by simp) (by omega) (by omega)
  ·rintro i _ again hi rfl ih
   unfold yt
   dsimp only
   have h10:=ad7 (n:=i+1) (by omega)
   have hp:=GC (i+1)
   rw[ag8] at h10 hp
   rw[ax (by omega),aq (by omega) (by omega),aq (by omega) (by omega)]
   exact ih _ (by rw[ag8];rfl)
  ·rintro _ again rfl
   unfold yt
   dsimp only
   rw[av (by omega)]
 rw[this,aB]
 simp
def Gj (d:ak):Prop:=0<d.1∧0≤d.2∧d.2≤4∧d.1≤1000000000*10 ^ d.2.toNat
instance (d:ak):Decidable (Gj d):=by unfold Gj;exact inferInstance
structure aff (d:sd):Prop where
 day0:1≤d.2.1
 day1:d.2.1≤3652059
 mon:Gj d.2.2.1
 days0:0≤d.2.2.2.1
 days1:d.2.2.2.1≤10000
 with0:0≤d.2.2.2.2.1
 with1:d.2.2.2.2.1≤d.2.2.2.1
 disc0:0≤d.2.2.2.2.2
 disc1:d.2.2.2.2.2≤1000
structure agj (p:Vj):Prop where
 day0:1≤p.1
 day1:p.1≤3652059
 mon:Gj p.2.1
 names:p.2.2.length≤100
end Go.Md
namespace Go.Md
open Go.Dn
def Nf (d:ak):Int:=d.1*10 ^ (4 - d.2).toNat
theorem Gj.Nf {d:ak} (h:Gj d):0<Nf d∧Nf d≤10000000000000:=by
 obtain⟨h1,h2,h3,h4⟩:=h
 unfold Md.Nf
 have hp:=GC (4 - d.2).toNat
 refine⟨Int.mul_pos h1 hp, ?_⟩
 have a1:d.1*10 ^ (4 - d.2).toNat≤1000000000*10 ^ d.2.toNat*10 ^ (4 - d.2).toNat:=ag0 h4 (by omega)
 rw[agY, ← ag6,show d.2.toNat+(4 - d.2).toNat=4 by omega] at a1
 omega
abbrev Bd:=tY
def aa7 (x:Bd):Int:=x.2.1
def abc (x:Bd):Int:=x.2.2.1
def taken (x:Bd):Int:=x.2.2.2.1
def done (x:Bd):Int:=x.2.2.2.2
structure Wx (x:Bd):Prop where
 d:aff x.1
 owes0:0≤aa7 x
 paid0:0≤abc x
 taken0:0≤taken x
 sum:aa7 x+abc x+taken x=Nf x.1.2.2.1
 none:done x=0→taken x=0
 done0:done x=0∨x.1.2.1≤done x
 iff:aa7 x=0↔done x≠0
theorem Wx.le {x:Bd} (h:Wx x):aa7 x≤10000000000000∧abc x≤10000000000000∧taken x≤10000000000000:=by
 have:=h.d.mon.Nf;have:=h.sum;have:=h.owes0;have:=h.paid0;have:=h.taken0;omega
section
variable {ar:List Bd} {h:Nat} {x:Bd}
theorem ae3 {α:Type} {l:List α} {i:Nat} {x y:α} (h:l[i]? =some x):(l.set i y)[i]? =some y:=ahV (ahQ.1 h).1
end
end Go.Md
namespace Go.Md
open Go.Dn
structure mz (ds:List sd) (ar:List Bd):Prop where
 ds:ar.map (·.1)=ds
 ok:∀ x∈ar,Wx x
theorem mz.len {ds:List sd} {ar:List Bd} (h:mz ds ar):ar.length=ds.length:=by rw[← h.ds];simp
theorem mz.set {ds:List sd} {ar:List Bd} (h:mz ds ar) {i:Nat} {x y:Bd} (hx:ar[i]? =some x) (hy:Wx y) (he:y.1=x.1):mz ds (ar.set i y):=by
 refine⟨?_,fun z hz=> ?_⟩
 ·rw[List.map_set,he, ← h.ds]
  apply ahy
  intro j
  by_cases hj:i=j
  ·subst hj
   rw[ahV (by simp;exact (ahQ.1 hx).1),ahR,hx];rfl
  ·rw[ahU hj]
 ·rcases ait hz with hz | rfl
  ·exact h.ok z hz
  ·exact hy
theorem mz.get {ds:List sd} {ar:List Bd} (h:mz ds ar) {i:Nat} {x:Bd} (hx:ar[i]? =some x):Wx x:=h.ok x (air hx)
def afb (ar:List Bd):Int:=(ar.map abc).sum
structure agl (ds:List sd) (L T:Int) (s:Int×List Bd):Prop where
 ar:mz ds s.2
 l0:0≤s.1
 l1:s.1≤L
 tot:s.1+afb s.2=T
theorem z6 {k v:Ty} (p:k.den×v.den) (m:List (k.den×v.den)) (n:k.den):cw (p::m) n=bif k.beq n p.1 then some p.2 else cw m n:=by
 unfold cw
 rw[List.find?_cons]
 cases k.beq n p.1<;>rfl
theorem acH {k v:Ty} (p:k.den×v.den) (m:List (k.den×v.den)) (x:k.den) (y:v.den):oa (p::m) x y=bif k.beq x p.1 then (x,y)::m else p::oa m x y:=rfl
theorem acF {k v:Ty} (hb:∀ a b:k.den,k.beq a b=true↔a=b) (m:List (k.den×v.den)) (x:k.den) (y:v.den) (n:k.den):cw (oa m x y) n=bif k.beq x n then some y else cw m n:=by
 have hcomm:∀ a b:k.den,k.beq a b=k.beq b a:=fun a b=>by
  rw[agH,hb,hb];exact eq_comm
 induction m with
 | nil=>
  change cw [(x,y)] n=_
  rw[z6,hcomm n x]
 | cons p m ih=>
  rw[acH]
  cases hp:k.beq x p.1 with
  | true=>
   rw[ajE,z6,z6,hcomm n p.1, ← (hb _ _).1 hp,hcomm n x]
   cases k.beq x n<;>rfl
  | false=>
   rw[ajD,z6,z6,ih]
   cases hn:k.beq n p.1 with
   | true=>
    have:k.beq x n=false:=by
     cases h:k.beq x n with
     | false=>rfl
     | true=>rw[(hb _ _).1 h,hn] at hp;cases hp
    rw[this];rfl
   | false=>rfl
end Go.Md
namespace Go.Md
open Go.Dn
def few:Nat→Int→Int×Nat
 | 0,z=>(z,0)
 | p+1,z=>if z % 10=0 then few p (z / 10) else (z,p+1)
theorem ZX:∀ (p:Nat) (z:Int),(few p z).2≤p∧(few p z).1*10 ^ (p - (few p z).2)=z∧(few p z).1.natAbs≤z.natAbs
 | 0,z=>by simp[few]
 | p+1,z=>by
  unfold few
  split
  ·rename_i h
   obtain⟨h1,h2,h3⟩:=ZX p (z / 10)
   refine⟨by omega, ?_,by omega⟩
   rw[show p+1 - (few p (z / 10)).2=(p - (few p (z / 10)).2)+1 by omega,ag8, ← agY,h2]
   omega
  ·simp
theorem Su (z:Int) (p:Int):xW (W z) p=some (if z.natAbs≤1000000000000000 then ((z,p),0,()) else ((0,0),1,())):=by
 unfold xW
 rw[FW z 1000000000000000 (by omega) (by omega),ajq]
 by_cases h:(z.natAbs:Int)≤1000000000000000
 ·rw[ajQ h,ajQ (by omega)];rfl
 ·rw[ajP h,ajP (by omega)];rfl
theorem OX (z:Int) (hz:z.natAbs<4294967296 ^ 99) (p:Nat) (hp:p≤1000):yq (W z) (p:Int)=some (if (few p z).1.natAbs≤1000000000000000 then (((few p z).1,((few p z).2:Int)),0,()) else ((0,0),1,())):=by
 unfold yq
 rw[qx 10 (by omega) (by omega),ajq]
 dsimp only
 have loop:∀ (n:Nat) (z:Int) (p:Nat),z.natAbs<4294967296 ^ 99→p≤1000→p<n→iter (X:=sj) (β:=si) n ((p:Int),(W z).1,(W z).2,0,0,(W 10).1,(W 10).2,()) sg=some (Sum.inr (((few p z).2:Int),(W (few p z).1).1,(W (few p z).1).2,0,0,())):=by
  intro n
  induction n with
  | zero=>intro z p _ _ h;omega
  | succ n ih=>
   intro z p hz hp hn
   rw[aZ]
   generalize hag:(fun y=>iter n y sg)=again
   unfold sg
   dsimp only
   cases p with
   | zero=>rw[av (by omega)];rfl
   | succ p=>
    have e10:(10:Int).natAbs=10:=rfl
    rw[ax (by omega)]
    change (Option.bind (wA (W z) (W 10)) _)=_
    rw[Sl z 10 hz (by rw[e10];exact ai3 (by omega) (ajj (n:=4294967296) (by omega) (show 1≤99 by omega))) (by omega),ajq]
    dsimp only
    rw[xS,ajq]
    dsimp only
    rw[e10]
    by_cases hm:z % 10=0
    ·have hm2:z.natAbs % 10=0:=by omega
     rw[hm2,show ((((0:Nat):Int).sign) != 0)=false from rfl,ajD]
     change (Option.bind (lD (W z)) _)=_
     rw[xS,ajq]
     dsimp only
     have hf:few (p+1) z=few p (z / 10):=by simp[few,hm]
     rw[hf]
     have hz':(z / 10).natAbs<4294967296 ^ 99:=ai2 (by omega) hz
     by_cases hneg:z<0
     ·rw[ax (by rw[ag9 hneg];omega),DJ _ (by simp only[ag4];exact ai2 (Nat.div_le_self _ _) hz),ajq]
      dsimp only
      rw[show -((z.natAbs / 10:Nat):Int)=z / 10 by omega,aq (by omega) (by omega),show ((p+1:Nat):Int) - 1=(p:Int) by omega, ← hag]
      exact ih (z / 10) p hz' (by omega) (by omega)
     ·rw[av (by
       rcases (show z=0∨0<z by omega) with h | h
       ·subst h;decide
       ·rw[aha h];omega),show ((z.natAbs / 10:Nat):Int)=z / 10 by omega,aq (by omega) (by omega),show ((p+1:Nat):Int) - 1=(p:Int) by omega, ← hag]
      exact ih (z / 10) p hz' (by omega) (by omega)
    ·have hm2:0<z.natAbs % 10:=by omega
     have:(((z.natAbs % 10:Nat):Int).sign != 0)=true:=by
      rw[aha (by omega)];rfl
     rw[this,ajE]
     have hf:few (p+1) z=(z,p+1):=by simp[few,hm]
     rw[hf]
 have:=loop (Int.natAbs (p:Int)+(List.length (W z).2+(Int.natAbs (0:Int)+(Int.natAbs (0:Int)+(List.length (W 10).2+2))))) z p hz hp (by omega)
 rw[this,aB]
 dsimp only
 change (Option.bind (xW (W (few p z).1) ((few p z).2:Int)) _)=_
 rw[Su,ajq]
def zk (d:ak):Int:=d.1*10 ^ (9 - d.2).toNat
def cq (d:ak):Prop:=d.1.natAbs≤1000000000000000∧0≤d.2∧d.2≤9
theorem Gj.dec {d:ak} (h:Gj d):cq d:=by
 obtain⟨h1,h2,h3,h4⟩:=h
 have hq:(10:Int) ^ d.2.toNat≤10000:=by
  have:=ajj (n:=10) (by omega) (show d.2.toNat≤4 by omega)
  have h2:=ag5.2 this
  simpa using h2
 exact⟨by omega,h2,by omega⟩
theorem TK {z:Int} (h:z.natAbs<1000000000000000000000000000000000000000000000000000000000000):(dg6 z.natAbs).length≤10:=ZV (k:=10) (by simpa using h)
theorem OM (n:Nat) (hn:n≤40):B8 (n:Int)=some (N (10 ^ n),()):=by
 unfold B8
 rw[B7 1 (by omega) (by omega),ajq]
 dsimp only
 have hb:∀ i:Nat,i≤41→(dg6 ((10:Int) ^ i).natAbs).length≤10:=by
  intro i hi
  refine TK ?_
  have h1:((10:Int) ^ i).natAbs=10 ^ i:=by rw[Int.natAbs_pow];rfl
  have h2:=ajj (n:=10) (by omega) hi
  omega
 have loop:iter (X:=CR) (β:=CQ) (Int.natAbs (n:Int)+(Int.natAbs (0:Int)+(List.length ([]:List Int)+(List.length (N 1).2+2)))) ((n:Int),0,false,[],(N 1).1,(N 1).2,()) CP=some (Sum.inr (false,[],(N (10 ^ n)).1,(N (10 ^ n)).2,())):=by
  refine bf (Inv:=fun i x=>x=((n:Int),(i:Int),false,[],(N (10 ^ i)).1,(N (10 ^ i)).2,())) n (fun r=>r=some (Sum.inr (false,[],(N (10 ^ n)).1,(N (10 ^ n)).2,()))) ?_ ?_ _ 0 _ (by simp) (by omega) (by omega)
  ·rintro i _ again hi rfl ih
   unfold CP
   dsimp only
   rw[ax (by omega),B7 10 (by omega) (by omega),ajq]
   change (Option.bind (pP (N (10 ^ i)) (N 10)) _)=_
   have h10:(dg6 (10:Int).natAbs).length≤10:=TK (by decide)
   rw[tT _ _ (by have:=hb i (by omega);omega) (by omega),ajq]
   dsimp only
   rw[aq (by omega) (by omega)]
   exact ih _ (by rw[ag8];rfl)
  ·rintro _ again rfl
   unfold CP
   dsimp only
   rw[av (by omega)]
 rw[loop,aB]
theorem Yq (d:ak) (hd:cq d):CI d 9=some (N (zk d),()):=by
 obtain⟨h1,h2,h3⟩:=hd
 unfold CI
 rw[B7 _ (by omega) (by omega),ajq,aq (by omega) (by omega)]
 dsimp only
 obtain⟨m,hm⟩:∃ m:Nat,9 - d.2=m:=⟨(9 - d.2).toNat,by omega⟩
 rw[hm,OM m (by omega),ajq]
 dsimp only
 have hl1:(dg6 d.1.natAbs).length≤10:=TK (by omega)
 have hl2:(dg6 ((10:Int) ^ m).natAbs).length≤10:=by
  refine TK ?_
  have h1:((10:Int) ^ m).natAbs=10 ^ m:=by rw[Int.natAbs_pow];rfl
  have h2:=ajj (n:=10) (by omega) (show m≤9 by omega)
  omega
 rw[tT _ _ (by omega) (by omega),ajq]
 unfold zk
 rw[hm];rfl
theorem QM {d:ak} (hd:cq d):(zk d).natAbs≤1000000000000000000000000:=by
 obtain⟨h1,h2,h3⟩:=hd
 unfold zk
 rw[ag3,Int.natAbs_pow]
 have h4:=ajj (n:=10) (by omega) (show (9 - d.2).toNat≤9 by omega)
 have h5:d.1.natAbs*(10:Int).natAbs ^ (9 - d.2).toNat≤1000000000000000*1000000000:=Nat.mul_le_mul h1 (by simpa using h4)
 omega
end Go.Md
namespace Go.Md
open Go.Dn
end Go.Md
namespace Go.Md
open Go.Dn
end Go.Md
namespace Go.Md
open Go.Dn
theorem RC {X α B:Type} {f:X→(X→Option B)→Option B} (mk:Nat→X) (l:List α) (g:Nat→α→Int) (fin:Option B) (out:Int→Option B)
 (hstep:∀ i y again,l[i]? =some y→f (mk i) again=if g i y=0 then again (mk (i+1)) else out (g i y)) (hend:∀ again,f (mk l.length) again=fin):
 ∀ (r:List α) (i n:Nat),l.drop i=r→i≤l.length→r.length<n→iter n (mk i) f=if cD g i r=0 then fin else out (cD g i r)
 | _,_,0,_,_,hn=>absurd hn (ajg _)
 | [],i,n+1,hd,hi,_=>by
  have:i=l.length:=by
   have:=congrArg List.length hd
   simp at this;omega
  subst this
  rw[aZ,hend];rfl
 | y::r,i,n+1,hd,hi,hn=>by
  have hy:l[i]? =some y:=by
   have:=congrArg (·[0]?) hd
   simpa [ahN] using this
  have hr:l.drop (i+1)=r:=by
   have:=congrArg List.tail hd
   simpa [aiJ] using this
  have hi':i<l.length:=(ahQ.1 hy).1
  rw[aZ,hstep i y _ hy]
  by_cases hg:g i y=0
  ·have e:cD g i (y::r)=cD g (i+1) r:=by simp[cD,hg]
   rw[ajQ hg,e]
   exact RC mk l g fin out hstep hend r (i+1) n hr hi' (by simp at hn;omega)
  ·have e:cD g i (y::r)=g i y:=by simp[cD,hg]
   rw[ajP hg,e,ajP hg]
end Go.Md
namespace Go.Md
open Go.Dn
def Wy (D:Int) (S:Nat→Prop) (ar:List Bd):Prop:=∀ i x,S i→ar[i]? =some x→done x=0∨D<done x
theorem Wy.set {D:Int} {S:Nat→Prop} {ar:List Bd} {h:Nat} {x y:Bd} (hq:Wy D S ar) (hx:ar[h]? =some x) (hy:(done x=0∨D<done x)→(done y=0∨D<done y)):Wy D S (ar.set h y):=by
 intro i z hi hz
 by_cases e:h=i
 ·subst e
  rw[ae3 hx] at hz
  cases hz
  exact hy (hq h x hi hx)
 ·rw[ahU e] at hz
  exact hq i z hi hz
theorem Yd {α:Type} {k:α→Int} {l a b:List α} (ha:Srt k a) (hb:Srt k b) (ka:bE k l a) (kb:bE k l b):a=b:=by
 have key:∀ (a b:List α),Srt k a→Srt k b→(∀ v,a.filter (fun x=>k x==v)=b.filter (fun x=>k x==v))→a.length=b.length→a=b:=by
  intro a
  induction a with
  | nil=>intro b _ _ _ hl;exact (ahx hl.symm).symm
  | cons x a ih=>
   intro b sa sb hf hl
   cases b with
   | nil=>simp at hl
   | cons y b=>
    have sa':=aiA.1 sa
    have sb':=aiA.1 sb
    have hxb:x∈(y::b):=by
     have:x∈(x::a).filter (fun z=>k z==k x):=by simp
     rw[hf (k x)] at this
     exact (List.mem_filter.1 this).1
    have hya:y∈(x::a):=by
     have:y∈(y::b).filter (fun z=>k z==k y):=by simp
     rw[← hf (k y)] at this
     exact (List.mem_filter.1 this).1
    have hk:k x=k y:=by
     have h1:k y≤k x:=by
      rcases aij.1 hxb with h | h
      ·rw[h];exact agV _
      ·exact sb'.1 x h
     have h2:k x≤k y:=by
      rcases aij.1 hya with h | h
      ·rw[h];exact agV _
      ·exact sa'.1 y h
     omega
    have hxy:x=y:=by
     have:=hf (k x)
     rw[ahB (by simp),ahB (by simp[hk])] at this
     exact (List.cons.inj this).1
    subst hxy
    congr 1
    refine ih b sa'.2 sb'.2 (fun v=> ?_) (by simpa using hl)
    have:=hf v
    by_cases hv:k x=v
    ·rw[ahB (by simp[hv]),ahB (by simp[hv])] at this
     exact (List.cons.inj this).2
    ·rw[List.filter_cons_of_neg (by simp[hv]),List.filter_cons_of_neg (by simp[hv])] at this
     exact this
 exact key a b ha hb (fun v=>by rw[ka.keys,kb.keys]) (by rw[ka.length,kb.length])
end Go.Md
namespace Go.Md
open Go.Dn
def nmC:List UInt8:=[97,98,99,100,101,102,103,104,105,106,107,108,109,110,111,112,113,114,115,116,117,118,119,120,121,122,48,49,50,51,52,53,54,55,56,57,45]
def nmB (c:UInt8):Bool:=nmC.contains c
set_option maxRecDepth 100000 in
theorem aeT:∀ n:Fin 256,nmB (UInt8.ofNat n.1)=((decide (97≤n.1)&&decide (n.1≤122))||((decide (48≤n.1)&&decide (n.1≤57))||decide (n.1=45))):=by decide
theorem afu (c:UInt8):nmB c=((decide (97≤c.toNat)&&decide (c.toNat≤122))||((decide (48≤c.toNat)&&decide (c.toNat≤57))||decide (c.toNat=45))):=by
 have:=aeT ⟨c.toNat,UInt8.toNat_lt c⟩
 simpa using this
theorem Gm {α:Type} {p:α→Bool}:∀ {l:List α},l.dropWhile p=[]↔∀ x∈l,p x=true
 | []=>by simp
 | y::r=>by
  cases hp:p y with
  | true=>rw[List.dropWhile_cons_of_pos hp,Gm];simp[hp]
  | false=>rw[List.dropWhile_cons_of_neg (by simp[hp])];simp[hp]
theorem Ra {α:Type} {p:α→Bool} {y:α} {r:List α}:∀ {l:List α},l.dropWhile p=y::r→p y=false
 | [],h=>by simp at h
 | z::t,h=>by
  cases hp:p z with
  | true=>rw[List.dropWhile_cons_of_pos hp] at h;exact Ra h
  | false=>rw[List.dropWhile_cons_of_neg (by simp[hp])] at h;cases h;exact hp
theorem Vf (s c:List UInt8):(Lib.trimS s c==[])=s.all (c.contains ·):=by
 rw[agH]
 simp only[ajA,ahg]
 unfold Lib.trimS Lib.trimLeftS Lib.trimRightS
 constructor
 ·intro h
  rw[Gm] at h
  cases hd:s.reverse.dropWhile (c.contains ·) with
  | nil=>
   rw[Gm] at hd
   intro x hx
   exact hd x (by simpa using hx)
  | cons y r=>
   exfalso
   have h1:=h y (by rw[hd];simp)
   have h2:=Ra hd
   rw[h1] at h2
   cases h2
 ·intro h
  have:s.reverse.dropWhile (c.contains ·)=[]:=Gm.2 fun x hx=>h x (by simpa using hx)
  rw[this];rfl
theorem Vc {α:Type} (p:α→Bool) (e:Int) (he:e≠0):∀ (l:List α) (i:Nat),cD (fun _ c=>if p c=true then 0 else e) i l=if l.all p=true then 0 else e
 | [],i=>by simp[cD]
 | y::r,i=>by
  have ih:=Vc p e he r (i+1)
  cases hp:p y with
  | true=>simp only[cD,hp,ajR,ahf,agT];exact ih
  | false=>simp[cD,hp,he]
theorem Cd {s:List UInt8} {i:Nat} {c:UInt8} (h:s[i]? =some c):rI s (i:Int)=some c:=by simp[rI,h]
theorem vW (s:List UInt8):kL s=some (eH s,()):=by
 unfold kL eH gj MT
 by_cases h0:s=[]
 ·subst h0;rfl
 have hb:(s==[])=false:=by simpa using h0
 have hl:0<s.length:=ah5.2 h0
 rw[hb,ajD,av (show ¬((s.length:Int)<1) by omega)]
 by_cases h2:(s.length:Int)>40
 ·rw[ax h2,ax h2];rfl
 rw[av h2,av h2]
 have hs:rI s 0=some (s[0]'hl):=Cd (i:=0) (aM hl)
 simp only[hs,ajq]
 by_cases h3:(((s[0]'hl).toNat:Int))<97
 ·simp only[ax h3];rfl
 simp only[av h3]
 by_cases h4:(((s[0]'hl).toNat:Int))>122
 ·simp only[ax h4];rfl
 simp only[av h4]
 have ht:iA s [97,98,99,100,101,102,103,104,105,106,107,108,109,110,111,112,113,114,115,116,117,118,119,120,121,122,48,49,50,51,52,53,54,55,56,57,45]=some (Lib.trimS s nmC,()):=by
  unfold iA
  rw[show (decide (s.length≤9223372036854775807))=true by simp;omega]
  rfl
 rw[ht,ajq]
 have loop:=RC (f:=Bi) (fun i=>(s,(s.length:Int),(i:Int),())) s (fun _ c=>if nmB c=true then 0 else 1) (some (Sum.inr ())) (fun _=>some (Sum.inl (false,())))
  (fun i c again hi=>by
    have hil:=(ahQ.1 hi).1
    unfold Bi
    dsimp only
    rw[ax (show (i:Int)<(s.length:Int) by omega),Cd hi,ajq,afu c,aq (by omega) (by omega)]
    by_cases a1:(c.toNat:Int)<97<;>by_cases a2:(c.toNat:Int)>122<;>by_cases a3:(c.toNat:Int)<48<;>by_cases a4:(c.toNat:Int)>57<;>by_cases a5:(c.toNat:Int)=45<;>
      first
      | omega
      | (have b1:(97≤c.toNat)=¬ ((c.toNat:Int)<97):=by simp only[eq_iff_iff];omega
         have b2:(c.toNat≤122)=¬ ((c.toNat:Int)>122):=by simp only[eq_iff_iff];omega
         have b3:(48≤c.toNat)=¬ ((c.toNat:Int)<48):=by simp only[eq_iff_iff];omega
         have b4:(c.toNat≤57)=¬ ((c.toNat:Int)>57):=by simp only[eq_iff_iff];omega
         have b5:(c.toNat=45)=((c.toNat:Int)=45):=by simp only[eq_iff_iff];omega
         simp only[b1,b2,b3,b4,b5,a1,a2,a3,a4,a5,bne,ajL,ajK,not_true_eq_false,not_false_eq_true,agG,agT,agF,Bool.false_and,Bool.or_true,Bool.true_or,agS,agK,ajE,ajD,ajR,agI,ajO,Int.one_ne_zero,ajB,agP]
         first | rfl | (have a6:((c.toNat:Int)==45)=false:=(by simp only[ajz,ne_eq];exact a5);rw[a6];rfl)))
  (fun again=>by
    unfold Bi
    dsimp only
    rw[av (by omega)])
  s 0 (List.length s+(Int.natAbs ((List.length s:Int))+(Int.natAbs (0:Int)+2))) rfl (ajo _) (by omega)
 rw[show ((0:Nat):Int)=0 from rfl] at loop
 rw[loop,Vc nmB 1 (by omega),Vf]
 have e:(s.all fun x=>nmC.contains x)=s.all nmB:=rfl
 rw[e]
 cases s.all nmB<;>rfl
theorem rH (a b c:Int):rV a b c=some (decide (b≤a∧a≤c),()):=by
 unfold rV
 by_cases h:b≤a
 ·rw[ax h];simp[h]
 ·rw[av h];simp[h]
theorem ZA (n:Int):J4 n=some (decide (1≤n∧n≤3652059),()):=by
 unfold J4 Qa
 rw[rH];rfl
theorem MR (d:ak):jZ d=some (if -1000000000000000≤d.1∧d.1≤1000000000000000∧0≤d.2∧d.2≤9 then 0 else 1,()):=by
 unfold jZ
 rw[rH,ajq]
 by_cases h1: -1000000000000000≤d.1∧d.1≤1000000000000000
 ·rw[ajI h1]
  simp only[agP,ajD]
  rw[rH,ajq]
  by_cases h2:0≤d.2∧d.2≤9
  ·rw[ajI h2,ajQ ⟨h1.1,h1.2,h2⟩];rfl
  ·rw[ajG h2,ajP (fun h=>h2 h.2.2)];rfl
 ·rw[ajG h1,ajP (fun h=>h1 ⟨h.1,h.2.1⟩)];rfl
theorem abg {a b:ak} (ha:cq a) (hb:cq b):aan a b=some ((zk a - zk b).sign,()):=by
 unfold aan
 have l1:=QM ha
 have l2:=QM hb
 have m1:=TK (z:=zk a) (by omega)
 have m2:=TK (z:=zk b) (by omega)
 rw[Yq a ha,ajq,Yq b hb,ajq,GI _ _ (by omega) (by omega)]
 rfl
instance (d:ak):Decidable (cq d):=by unfold cq;infer_instance
end Go.Md
