/-
  Plain facts, small ones. No condition.
-/
import Derived.Test.YtilaijcbckgmmaaGreatDoorYp
import Derived.Test.YtilaijcbckgmmaaGreatDoorYm
set_option linter.all false
namespace Go.Md
open Go.Dn
structure bD {α:Type} (k:α→Int) (l l':List α):Prop where
 perm:l.Perm l'
 keys:∀ v,l'.filter (fun x=>k x==v)=l.filter (fun x=>k x==v)
theorem bD.refl {α:Type} (k:α→Int) (l:List α):bD k l l:=⟨List.Perm.refl _,fun _=>rfl⟩
theorem bD.trans {α:Type} {k:α→Int} {a b c:List α} (h:bD k a b) (g:bD k b c):bD k a c:=⟨h.perm.trans g.perm,fun v=>(g.keys v).trans (h.keys v)⟩
theorem bD.append {α:Type} {k:α→Int} {a b c d:List α} (h:bD k a b) (g:bD k c d):bD k (a++c) (b++d):=
 ⟨h.perm.append g.perm,fun v=>by rw[Xz,Xz,h.keys,g.keys]⟩
theorem bD.mem {α:Type} {k:α→Int} {a b:List α} (h:bD k a b) {x:α}:x∈b↔x∈a:=h.perm.mem_iff.symm
theorem bD.length {α:Type} {k:α→Int} {a b:List α} (h:bD k a b):b.length=a.length:=h.perm.length_eq.symm
theorem bD.swap {α:Type} {k:α→Int} {u v:List α} (h:∀ x∈u,∀ y∈v,k x≠k y):bD k (u++v) (v++u):=by
 refine⟨List.perm_append_comm,fun w=> ?_⟩
 rw[Xz,Xz]
 by_cases hu:∃ x∈u,k x=w
 ·obtain⟨x,hx,rfl⟩:=hu
  have:v.filter (fun y=>k y==k x)=[]:=by
   rw[List.filter_eq_nil_iff]
   intro y hy
   simpa using fun e=>h x hx y hy e.symm
  rw[this];simp
 ·have:u.filter (fun y=>k y==w)=[]:=by
   rw[List.filter_eq_nil_iff]
   intro y hy
   simpa using fun e=>hu ⟨y,hy,e⟩
  rw[this];simp
def Srt {α:Type} (k:α→Int) (l:List α):Prop:=l.Pairwise fun x y=>k x≤k y
theorem Srt.append {α:Type} {k:α→Int} {a b:List α} (ha:Srt k a) (hb:Srt k b) (h:∀ x∈a,∀ y∈b,k x≤k y):Srt k (a++b):=Yn.2 ⟨ha,hb,h⟩
theorem Srt.left {α:Type} {k:α→Int} {a b:List α} (h:Srt k (a++b)):Srt k a:=(Yn.1 h).1
theorem Srt.right {α:Type} {k:α→Int} {a b:List α} (h:Srt k (a++b)):Srt k b:=(Yn.1 h).2.1
theorem Srt.Gp {α:Type} {k:α→Int} {a b:List α} (h:Srt k (a++b)):∀ x∈a,∀ y∈b,k x≤k y:=(Yn.1 h).2.2
theorem Pd {α:Type} (A B:List α) (x y:α):((A++y::x::B).set (A.length+1) y).set A.length x=A++x::y::B:=by
 induction A with
 | nil=>rfl
 | cons a A ih=>simp only[Xo,XY,Yt,ih]
theorem TO {α:Type} (A B:List α) (x y:α):((A++x::y::B).set A.length y).set (A.length+1) x=A++y::x::B:=by
 induction A with
 | nil=>rfl
 | cons a A ih=>simp only[Xo,XY,Yt,ih]
theorem get_at {α:Type} (A B:List α) (y:α):(A++y::B)[A.length]? =some y:=by simp
theorem Gu {α:Type} (A B:List α) (x y:α):(A++y::x::B)[A.length+1]? =some x:=by simp
theorem nS {α:Type} {l:List α} {n:Nat} (h:n≤l.length):∃ A B,l=A++B∧A.length=n:=⟨l.take n,l.drop n,by simp,by simp;omega⟩
section
variable {k:Option Nat→Int} {ar:List qD} {ok:Option Nat→Prop}
theorem Uv {α:Type} {k:α→Int} {P:List α} (h:Srt k P) {v:Int} (hl:∀ y,P.getLast? =some y→k y≤v):∀ y∈P,k y≤v:=by
 rcases List.eq_nil_or_concat P with rfl | ⟨Q,z,rfl⟩
 ·simp
 ·rw[List.concat_eq_append] at*
  have hz:=hl z (by simp)
  intro y hy
  rcases Yb.1 hy with hy | hy
  ·have:=h.Gp y hy z (by simp);omega
  ·rw[Ym.1 hy];exact hz
theorem Ov {α:Type} {k:α→Int} {P2 P3:List α} {x:α} (hs:Srt k (P2++P3)) (h3:∀ y∈P3,k x<k y) (h2:∀ y,P2.getLast? =some y→k y≤k x):Srt k (P2++x::P3)∧bD k (P2++P3++[x]) (P2++x::P3):=by
 constructor
 ·refine hs.left.append (Yo.2 ⟨fun y hy=>by have:=h3 y hy;omega,hs.right⟩) ?_
  intro y hy z hz
  have hy':=Uv hs.left h2 y hy
  rcases Yc.1 hz with rfl | hz
  ·exact hy'
  ·exact hs.Gp y hy z hz
 ·rw[Xm]
  refine (bD.refl k P2).append ?_
  have:=bD.swap (k:=k) (u:=P3) (v:=[x]) (fun y hy z hz=>by rw[Ym.1 hz];have:=h3 y hy;omega)
  simpa using this
end
end Go.Md
namespace Go.Md
open Go.Dn
theorem Q9 {α:Type} (A B:List α) (x y:α):(A++x::B).set A.length y=A++y::B:=by
 induction A with
 | nil=>rfl
 | cons a A ih=>simp only[Xo,XY,Yt,ih]
section
variable {k:Option Nat→Int} {ar:List qD} {ok:Option Nat→Prop}
end
end Go.Md
namespace Go.Md
open Go.Dn
theorem bsearch {X β:Type} {f:X→(X→Option β)→Option β} (mk:Nat→Nat→X) (fin:Nat→Option β) (P:Nat→Prop) [DecidablePred P] (lo hi:Nat)
 (hstep:∀ i j again,lo≤i→i<j→j≤hi→f (mk i j) again=if P ((i+j) / 2) then again (mk ((i+j) / 2+1) j) else again (mk i ((i+j) / 2)))
 (hend:∀ i again,lo≤i→i≤hi→f (mk i i) again=fin i) (mono:∀ s t,lo≤s→s≤t→t<hi→P t→P s):
 ∀ n i j,j - i<n→lo≤i→i≤j→j≤hi→(∀ t,lo≤t→t<i→P t)→(∀ t,j≤t→t<hi→¬P t)→∃ r,iter n (mk i j) f=fin r∧lo≤r∧r≤hi∧(∀ t,lo≤t→t<r→P t)∧(∀ t,r≤t→t<hi→¬P t)
 | 0,i,j,hn,_,_,_,_,_=>by omega
 | n+1,i,j,hn,h1,h2,h3,h4,h5=>by
  rw[bF]
  by_cases hij:i=j
  ·subst hij
   exact⟨i,hend i _ h1 h3,h1,h3,h4,h5⟩
  ·rw[hstep i j _ h1 (by omega) h3]
   by_cases hP:P ((i+j) / 2)
   ·rw[Zw hP]
    exact bsearch mk fin P lo hi hstep hend mono n _ _ (by omega) (by omega) (by omega) h3 (fun t ht1 ht2=>mono t _ ht1 (show t≤(i+j) / 2 by omega) (by omega) hP) h5
   ·rw[Zv hP]
    exact bsearch mk fin P lo hi hstep hend mono n _ _ (by omega) h1 (by omega) (by omega) h4 (fun t ht1 ht2 hPt=>hP (mono _ t (by omega) ht1 ht2 hPt))
theorem Gv (i j:Nat) (h:i+j<4000000000000000000):w64 (Int.fdiv (bK (w64 ((i:Int)+(j:Int)))) (2 ^ 1))=(((i+j) / 2:Nat):Int):=by
 rw[aj (n:=(i:Int)+(j:Int)) (by omega) (by omega),cR (by omega) (by omega),WZ _ (by omega),aj (by omega) (by omega)]
 omega
theorem UI {α:Type} (X L R Y:List α) {i:Nat} (h:i<L.length):(X++L++R++Y)[X.length+i]? =some L[i]:=by
 rw[Xm,Xm,XH (by omega),XG (by omega),show X.length+i - X.length=i by omega,XL h]
theorem Ry {α:Type} (X L R Y:List α) {i:Nat} (h:i<R.length):(X++L++R++Y)[X.length+L.length+i]? =some R[i]:=by
 rw[Xm,Xm,XH (by omega),XH (by omega),XG (by omega),show X.length+L.length+i - X.length - L.length=i by omega,XL h]
theorem Srt.get {α:Type} {k:α→Int} {l:List α} (h:Srt k l) {i j:Nat} (hij:i≤j) (hj:j<l.length):k (l[i]'(by omega))≤k l[j]:=by
 rcases Nat.lt_or_eq_of_le hij with h1 | h1
 ·exact Yp.1 h i j (by omega) hj h1
 ·subst h1;exact W0 _
section
variable {k:Option Nat→Int} {ar:List qD} {ok:Option Nat→Prop}
end
end Go.Md
namespace Go.Md
open Go.Dn
section
variable {k:Option Nat→Int} {ar:List qD} {ok:Option Nat→Prop}
end
end Go.Md
namespace Go.Md
open Go.Dn
def ChS {α:Type} (k:α→Int) (bs:Nat) (l:List α):Prop:=∀ j:Nat,Srt k ((l.drop (j*bs)).take bs)
theorem ChS.nil {α:Type} (k:α→Int) (bs:Nat):ChS k bs []:=fun _=>by simp[Srt]
theorem ChS.snoc {α:Type} {k:α→Int} {bs:Nat} {A S:List α} {j:Nat} (h:ChS k bs A) (hA:A.length=j*bs) (hS:Srt k S) (hl:S.length≤bs):ChS k bs (A++S):=by
 intro i
 rcases YU i j with hij | hij | hij
 ·have h1:(i+1)*bs≤j*bs:=YY _ hij
  rw[YE,Y0] at h1
  rw[List.drop_append_of_le_length (by omega),List.take_append_of_le_length (by rw[List.length_drop];omega)]
  exact h i
 ·subst hij
  rw[← hA,Xt,YB hl]
  exact hS
 ·have h1:(j+1)*bs≤i*bs:=YY _ hij
  rw[YE,Y0] at h1
  rw[Xu (by rw[XX];omega)]
  simp[Srt]
theorem ChS.drop {α:Type} {k:α→Int} {bs:Nat} {l:List α} (h:ChS k bs l) (i:Nat):ChS k bs (l.drop (i*bs)):=by
 intro j
 rw[Xr, ← YE]
 exact h (i+j)
theorem Srt.take {α:Type} {k:α→Int} {l:List α} (h:Srt k l) (n:Nat):Srt k (l.take n):=by
 rw[← Yz n l] at h;exact h.left
section
variable {k:Option Nat→Int} {ar:List qD} {ok:Option Nat→Prop}
end
end Go.Md
namespace Go.Md
open Go.Dn
def cS {α:Type} (g:Nat→α→Int):Nat→List α→Int
 | _,[]=>0
 | i,y::r=>if g i y=0 then cS g (i+1) r else g i y
theorem jW {α:Type} {g:Nat→α→Int}:∀ {l:List α} {i:Nat},cS g i l=0→∀ j y,l[j]? =some y→g (i+j) y=0
 | [],_,_,_,_,h=>by simp at h
 | y::r,i,h,j,z,hz=>by
  simp only[cS] at h
  by_cases hg:g i y=0
  ·rw[Zw hg] at h
   cases j with
   | zero=>simp at hz;subst hz;exact hg
   | succ j=>have:=jW h j z (by simpa using hz);rw[show i+(j+1)=i+1+j by omega];exact this
  ·rw[Zv hg] at h;exact absurd h hg
theorem Ms {X α:Type} {γ:Type} {f:X→(X→Option ((Int×Unit) ⊕ γ))→Option ((Int×Unit) ⊕ γ)} (mk:Nat→X) (l:List α) (g:Nat→α→Int) (u:γ)
 (hstep:∀ i y again,l[i]? =some y→f (mk i) again=if g i y=0 then again (mk (i+1)) else some (Sum.inl (g i y,()))) (hend:∀ again,f (mk l.length) again=some (Sum.inr u)):
 ∀ (r:List α) (i n:Nat),l.drop i=r→i≤l.length→r.length<n→iter n (mk i) f=if cS g i r=0 then some (Sum.inr u) else some (Sum.inl (cS g i r,()))
 | _,_,0,_,_,hn=>absurd hn (YZ _)
 | [],i,n+1,hd,hi,_=>by
  have:i=l.length:=by
   have:=congrArg List.length hd
   simp at this;omega
  subst this
  rw[bF,hend];rfl
 | y::r,i,n+1,hd,hi,hn=>by
  have hy:l[i]? =some y:=by
   have:=congrArg (·[0]?) hd
   simpa [XK] using this
  have hr:l.drop (i+1)=r:=by
   have:=congrArg List.tail hd
   simpa [Yx] using this
  have hi':i<l.length:=(XN.1 hy).1
  rw[bF,hstep i y _ hy]
  by_cases hg:g i y=0
  ·have e:cS g i (y::r)=cS g (i+1) r:=by simp[cS,hg]
   rw[Zw hg,e]
   exact Ms mk l g u hstep hend r (i+1) n hr hi' (by simp at hn;omega)
  ·have e:cS g i (y::r)=g i y:=by simp[cS,hg]
   rw[Zv hg,e,Zv hg]
theorem jK (a b c:Int):lS a b c=some (decide (a<b∨c<a),()):=by
 unfold lS
 by_cases h:a<b
 ·rw[az h];simp[h]
 ·rw[aA h];simp[h]
theorem Oz (n:Int):BA n=some (decide (1≤n∧n≤3652059),()):=by
 unfold BA
 rw[jK,Y7]
 congr 2
 simp only[← decide_not]
 congr 1
 simp only[eq_iff_iff];omega
def nI (s:List UInt8):Bool:=((ij s).map (·.1)).getD false
theorem zo (s:List UInt8):ij s=some (nI s,()):=by
 have:∃ b,ij s=some (b,()):=by
  unfold ij
  by_cases h1:(s.length:Int)<1
  ·rw[az h1];exact⟨_,rfl⟩
  ·rw[aA h1]
   by_cases h2:(s.length:Int)>40
   ·rw[az h2];exact⟨_,rfl⟩
   ·rw[aA h2]
    have hs:zA s 0=some (s[0]'(by omega)):=by simp[zA]
    rw[hs]
    simp only[Y7]
    have ht:oK s [97,98,99,100,101,102,103,104,105,106,107,108,109,110,111,112,113,114,115,116,117,118,119,120,121,122,48,49,50,51,52,53,54,55,56,57,45]=some (Lib.trimS s [97,98,99,100,101,102,103,104,105,106,107,108,109,110,111,112,113,114,115,116,117,118,119,120,121,122,48,49,50,51,52,53,54,55,56,57,45],()):=by
     unfold oK
     rw[show (decide (s.length≤9223372036854775807))=true by simp;omega]
     rfl
    rw[ht]
    simp only[Y7]
    generalize (decide ((((s[0]'(by omega)).toNat:Int))<97))=b1
    generalize (decide ((((s[0]'(by omega)).toNat:Int))>122))=b2
    cases b1<;>cases b2<;>exact⟨_,rfl⟩
 obtain⟨b,hb⟩:=this
 unfold nI
 rw[hb];rfl
theorem BM (d:ai):gP d=some (if -1000000000000000≤d.1∧d.1≤1000000000000000∧0≤d.2∧d.2≤9 then 0 else 1,()):=by
 unfold gP
 rw[jK,Y7,jK]
 simp only[Y7]
 by_cases h1:d.1< -1000000000000000∨1000000000000000<d.1
 ·rw[az h1,Zv (by omega)]
 ·rw[aA h1]
  by_cases h2:d.2<0∨9<d.2
  ·rw[az h2,Zv (by omega)]
  ·rw[aA h2,Zw (by omega)]
theorem Up {n:Nat} (h:n≤18):(10:Int) ^ n≤1000000000000000000:=by
 have:=Y2 (n:=10) (by omega) h
 have h2:=W9.2 this
 simpa using h2
theorem FY (n:Nat):(0:Int)<10 ^ n:=I1 (by omega) n
theorem MY (n:Int) (h0:0≤n) (h1:n≤18):Ji n=some (10 ^ n.toNat,()):=by
 obtain⟨m,rfl⟩:∃ m:Nat,n=m:=⟨n.toNat,by omega⟩
 unfold Ji
 have:iter (X:=uE) (β:=uD) (Int.natAbs (1:Int)+(Int.natAbs (m:Int)+(Int.natAbs (0:Int)+2))) (1,(m:Int),0,()) uC=some (Sum.inr (10 ^ m,())):=by
  refine bJ (Inv:=fun i x=>x=(10 ^ i,(m:Int),(i:Int),())) m (fun r=>r=some (Sum.inr (10 ^ m,()))) ?_ ?_ _ 0 _ (by simp) (by omega) (by omega)
  ·rintro i _ again hi rfl ih
   unfold uC
   dsimp only
   have h10:=Up (n:=i+1) (by omega)
   have hp:=FY (i+1)
   rw[Xb] at h10 hp
   rw[az (by omega),aj (by omega) (by omega),aj (by omega) (by omega)]
   exact ih _ (by rw[Xb];rfl)
  ·rintro _ again rfl
   unfold uC
   dsimp only
   rw[aA (by omega)]
 rw[this,aF]
 simp
def Bu (d:ai):Prop:=0<d.1∧0≤d.2∧d.2≤4∧d.1≤1000000000*10 ^ d.2.toNat
instance (d:ai):Decidable (Bu d):=by unfold Bu;exact inferInstance
structure Vu (d:oU):Prop where
 day0:1≤d.2.1
 day1:d.2.1≤3652059
 mon:Bu d.2.2.1
 days0:0≤d.2.2.2.1
 days1:d.2.2.2.1≤10000
 with0:0≤d.2.2.2.2.1
 with1:d.2.2.2.2.1≤d.2.2.2.1
 disc0:0≤d.2.2.2.2.2
 disc1:d.2.2.2.2.2≤1000
structure Ws (p:MT):Prop where
 day0:1≤p.1
 day1:p.1≤3652059
 mon:Bu p.2.1
 names:p.2.2.length≤100
end Go.Md
namespace Go.Md
open Go.Dn
def Gm (d:ai):Int:=d.1*10 ^ (4 - d.2).toNat
theorem Bu.Gm {d:ai} (h:Bu d):0<Gm d∧Gm d≤10000000000000:=by
 obtain⟨h1,h2,h3,h4⟩:=h
 unfold Md.Gm
 have hp:=FY (4 - d.2).toNat
 refine⟨Int.mul_pos h1 hp, ?_⟩
 have a1:d.1*10 ^ (4 - d.2).toNat≤1000000000*10 ^ d.2.toNat*10 ^ (4 - d.2).toNat:=Int.mul_le_mul_of_nonneg_right h4 (by omega)
 rw[W3, ← Xa,show d.2.toNat+(4 - d.2).toNat=4 by omega] at a1
 omega
abbrev Bd:=qD
def RP (x:Bd):Int:=x.2.1
def RT (x:Bd):Int:=x.2.2.1
def taken (x:Bd):Int:=x.2.2.2.1
def done (x:Bd):Int:=x.2.2.2.2
structure NK (x:Bd):Prop where
 d:Vu x.1
 owes0:0≤RP x
 paid0:0≤RT x
 taken0:0≤taken x
 sum:RP x+RT x+taken x=Gm x.1.2.2.1
 none:done x=0→taken x=0
 done0:done x=0∨x.1.2.1≤done x
 iff:RP x=0↔done x≠0
theorem NK.le {x:Bd} (h:NK x):RP x≤10000000000000∧RT x≤10000000000000∧taken x≤10000000000000:=by
 have:=h.d.mon.Gm;have:=h.sum;have:=h.owes0;have:=h.paid0;have:=h.taken0;omega
section
variable {ar:List Bd} {h:Nat} {x:Bd}
theorem Vi {α:Type} {l:List α} {i:Nat} {x y:α} (h:l[i]? =some x):(l.set i y)[i]? =some y:=XS (XN.1 h).1
end
end Go.Md
namespace Go.Md
open Go.Dn
structure kU (ds:List oU) (ar:List Bd):Prop where
 ds:ar.map (·.1)=ds
 ok:∀ x∈ar,NK x
theorem kU.len {ds:List oU} {ar:List Bd} (h:kU ds ar):ar.length=ds.length:=by rw[← h.ds];simp
theorem kU.set {ds:List oU} {ar:List Bd} (h:kU ds ar) {i:Nat} {x y:Bd} (hx:ar[i]? =some x) (hy:NK y) (he:y.1=x.1):kU ds (ar.set i y):=by
 refine⟨?_,fun z hz=> ?_⟩
 ·rw[List.map_set,he, ← h.ds]
  apply Xy
  intro j
  by_cases hj:i=j
  ·subst hj
   rw[XS (by simp;exact (XN.1 hx).1),XO,hx];rfl
  ·rw[XR hj]
 ·rcases Yk hz with hz | rfl
  ·exact h.ok z hz
  ·exact hy
theorem kU.get {ds:List oU} {ar:List Bd} (h:kU ds ar) {i:Nat} {x:Bd} (hx:ar[i]? =some x):NK x:=h.ok x (Yj hx)
def Vq (ar:List Bd):Int:=(ar.map RT).sum
structure Wt (ds:List oU) (L T:Int) (s:Int×List Bd):Prop where
 ar:kU ds s.2
 l0:0≤s.1
 l1:s.1≤L
 tot:s.1+Vq s.2=T
theorem Tj {k v:Ty} (p:k.den×v.den) (m:List (k.den×v.den)) (n:k.den):cD (p::m) n=bif k.beq n p.1 then some p.2 else cD m n:=by
 unfold cD
 rw[List.find?_cons]
 cases k.beq n p.1<;>rfl
end Go.Md
namespace Go.Md
open Go.Dn
def few:Nat→Int→Int×Nat
 | 0,z=>(z,0)
 | p+1,z=>if z % 10=0 then few p (z / 10) else (z,p+1)
theorem QF:∀ (p:Nat) (z:Int),(few p z).2≤p∧(few p z).1*10 ^ (p - (few p z).2)=z∧(few p z).1.natAbs≤z.natAbs
 | 0,z=>by simp[few]
 | p+1,z=>by
  unfold few
  split
  ·rename_i h
   obtain⟨h1,h2,h3⟩:=QF p (z / 10)
   refine⟨by omega, ?_,by omega⟩
   rw[show p+1 - (few p (z / 10)).2=(p - (few p (z / 10)).2)+1 by omega,Xb, ← W3,h2]
   omega
  ·simp
theorem KP (z:Int) (p:Int):tW (W z) p=some (if z.natAbs≤1000000000000000 then ((z,p),0,()) else ((0,0),1,())):=by
 unfold tW
 rw[I5 z 1000000000000000 (by omega) (by omega),Y7]
 by_cases h:(z.natAbs:Int)≤1000000000000000
 ·rw[Zw h,Zw (by omega)];rfl
 ·rw[Zv h,Zv (by omega)];rfl
theorem H6 (z:Int) (hz:z.natAbs<4294967296 ^ 99) (p:Nat) (hp:p≤1000):qj (W z) (p:Int)=some (if (few p z).1.natAbs≤1000000000000000 then (((few p z).1,((few p z).2:Int)),0,()) else ((0,0),1,())):=by
 unfold qj
 rw[qN 10 (by omega) (by omega),Y7]
 dsimp only
 have loop:∀ (n:Nat) (z:Int) (p:Nat),z.natAbs<4294967296 ^ 99→p≤1000→p<n→iter (X:=o9) (β:=o8) n ((p:Int),(W z).1,(W z).2,0,0,(W 10).1,(W 10).2,()) oZ=some (Sum.inr (((few p z).2:Int),(W (few p z).1).1,(W (few p z).1).2,0,0,())):=by
  intro n
  induction n with
  | zero=>intro z p _ _ h;omega
  | succ n ih=>
   intro z p hz hp hn
   rw[bF]
   generalize hag:(fun y=>iter n y oZ)=again
   unfold oZ
   dsimp only
   cases p with
   | zero=>rw[aA (by omega)];rfl
   | succ p=>
    have e10:(10:Int).natAbs=10:=rfl
    rw[az (by omega)]
    change (Option.bind (sE (W z) (W 10)) _)=_
    rw[KK z 10 hz (by rw[e10];exact YP (by omega) (Y2 (n:=4294967296) (by omega) (show 1≤99 by omega))) (by omega),Y7]
    dsimp only
    rw[tQ,Y7]
    dsimp only
    rw[e10]
    by_cases hm:z % 10=0
    ·have hm2:z.natAbs % 10=0:=by omega
     rw[hm2,show ((((0:Nat):Int).sign) != 0)=false from rfl,Zj]
     change (Option.bind (jP (W z)) _)=_
     rw[tQ,Y7]
     dsimp only
     have hf:few (p+1) z=few p (z / 10):=by simp[few,hm]
     rw[hf]
     have hz':(z / 10).natAbs<4294967296 ^ 99:=YO (by omega) hz
     by_cases hneg:z<0
     ·rw[az (by rw[Xc hneg];omega),za _ (by simp only[W8];exact YO (Nat.div_le_self _ _) hz),Y7]
      dsimp only
      rw[show -((z.natAbs / 10:Nat):Int)=z / 10 by omega,aj (by omega) (by omega),show ((p+1:Nat):Int) - 1=(p:Int) by omega, ← hag]
      exact ih (z / 10) p hz' (by omega) (by omega)
     ·rw[aA (by
       rcases (show z=0∨0<z by omega) with h | h
       ·subst h;decide
       ·rw[Xd h];omega),show ((z.natAbs / 10:Nat):Int)=z / 10 by omega,aj (by omega) (by omega),show ((p+1:Nat):Int) - 1=(p:Int) by omega, ← hag]
      exact ih (z / 10) p hz' (by omega) (by omega)
    ·have hm2:0<z.natAbs % 10:=by omega
     have:(((z.natAbs % 10:Nat):Int).sign != 0)=true:=by
      rw[Xd (by omega)];rfl
     rw[this,Zk]
     have hf:few (p+1) z=(z,p+1):=by simp[few,hm]
     rw[hf]
 have:=loop (Int.natAbs (p:Int)+(List.length (W z).2+(Int.natAbs (0:Int)+(Int.natAbs (0:Int)+(List.length (W 10).2+2))))) z p hz hp (by omega)
 rw[this,aF]
 dsimp only
 change (Option.bind (tW (W (few p z).1) ((few p z).2:Int)) _)=_
 rw[KP,Y7]
def Da (d:ai):Int:=d.1*10 ^ (9 - d.2).toNat
def bY (d:ai):Prop:=d.1.natAbs≤1000000000000000∧0≤d.2∧d.2≤9
theorem Bu.dec {d:ai} (h:Bu d):bY d:=by
 obtain⟨h1,h2,h3,h4⟩:=h
 have hq:(10:Int) ^ d.2.toNat≤10000:=by
  have:=Y2 (n:=10) (by omega) (show d.2.toNat≤4 by omega)
  have h2:=W9.2 this
  simpa using h2
 exact⟨by omega,h2,by omega⟩
theorem IM {z:Int} (h:z.natAbs<1000000000000000000000000000000000000000000000000000000000000):(dg6 z.natAbs).length≤10:=QD (k:=10) (by simpa using h)
theorem HU (n:Nat) (hn:n≤40):AQ (n:Int)=some (N (10 ^ n),()):=by
 unfold AQ
 rw[DP 1 (by omega) (by omega),Y7]
 dsimp only
 have hb:∀ i:Nat,i≤41→(dg6 ((10:Int) ^ i).natAbs).length≤10:=by
  intro i hi
  refine IM ?_
  have h1:((10:Int) ^ i).natAbs=10 ^ i:=by rw[Int.natAbs_pow];rfl
  have h2:=Y2 (n:=10) (by omega) hi
  omega
 have loop:iter (X:=yo) (β:=ym) (Int.natAbs (n:Int)+(Int.natAbs (0:Int)+(List.length ([]:List Int)+(List.length (N 1).2+2)))) ((n:Int),0,false,[],(N 1).1,(N 1).2,()) yl=some (Sum.inr (false,[],(N (10 ^ n)).1,(N (10 ^ n)).2,())):=by
  refine bJ (Inv:=fun i x=>x=((n:Int),(i:Int),false,[],(N (10 ^ i)).1,(N (10 ^ i)).2,())) n (fun r=>r=some (Sum.inr (false,[],(N (10 ^ n)).1,(N (10 ^ n)).2,()))) ?_ ?_ _ 0 _ (by simp) (by omega) (by omega)
  ·rintro i _ again hi rfl ih
   unfold yl
   dsimp only
   rw[az (by omega),DP 10 (by omega) (by omega),Y7]
   change (Option.bind (s7 (N (10 ^ i)) (N 10)) _)=_
   have h10:(dg6 (10:Int).natAbs).length≤10:=IM (by decide)
   rw[zx _ _ (by have:=hb i (by omega);omega) (by omega),Y7]
   dsimp only
   rw[aj (by omega) (by omega)]
   exact ih _ (by rw[Xb];rfl)
  ·rintro _ again rfl
   unfold yl
   dsimp only
   rw[aA (by omega)]
 rw[loop,aF]
theorem Ur (d:ai) (hd:bY d):BH d 9=some (N (Da d),()):=by
 obtain⟨h1,h2,h3⟩:=hd
 unfold BH
 rw[DP _ (by omega) (by omega),Y7,aj (by omega) (by omega)]
 dsimp only
 obtain⟨m,hm⟩:∃ m:Nat,9 - d.2=m:=⟨(9 - d.2).toNat,by omega⟩
 rw[hm,HU m (by omega),Y7]
 dsimp only
 have hl1:(dg6 d.1.natAbs).length≤10:=IM (by omega)
 have hl2:(dg6 ((10:Int) ^ m).natAbs).length≤10:=by
  refine IM ?_
  have h1:((10:Int) ^ m).natAbs=10 ^ m:=by rw[Int.natAbs_pow];rfl
  have h2:=Y2 (n:=10) (by omega) (show m≤9 by omega)
  omega
 rw[zx _ _ (by omega) (by omega),Y7]
 unfold Da
 rw[hm];rfl
theorem Jw {d:ai} (hd:bY d):(Da d).natAbs≤1000000000000000000000000:=by
 obtain⟨h1,h2,h3⟩:=hd
 unfold Da
 rw[W7,Int.natAbs_pow]
 have h4:=Y2 (n:=10) (by omega) (show (9 - d.2).toNat≤9 by omega)
 have h5:d.1.natAbs*(10:Int).natAbs ^ (9 - d.2).toNat≤1000000000000000*1000000000:=Nat.mul_le_mul h1 (by simpa using h4)
 omega
def lP (l:List ai):Int:=(l.map Da).sum
theorem D2:∀ {l:List ai},(∀ d∈l,bY d)→(lP l).natAbs≤l.length*1000000000000000000000000
 | [],_=>by simp[lP]
 | d::l,h=>by
  have h1:=Jw (h d (by simp))
  have h2:=D2 (l:=l) (fun x hx=>h x (by simp[hx]))
  have e:lP (d::l)=Da d+lP l:=by simp[lP]
  rw[e,XY]
  omega
theorem OZ (l:List ai) (hl:l.length≤1000000) (hok:∀ d∈l,bY d):F0 l=some (N (lP l),()):=by
 unfold F0 vm
 have loop:iter (X:=yf) (β:=ye) (List.length l+(Int.natAbs ((List.length l:Int))+(Int.natAbs (0:Int)+(List.length ([]:List Int)+(List.length ([]:List Int)+2))))) (l,(List.length l:Int),0,false,[],false,[],()) yd=some (Sum.inr (false,[],(N (lP l)).1,(N (lP l)).2,())):=by
  refine bJ (Inv:=fun i x=>x=(l,(List.length l:Int),(i:Int),false,[],(N (lP (l.take i))).1,(N (lP (l.take i))).2,())) l.length (fun r=>r=some (Sum.inr (false,[],(N (lP l)).1,(N (lP l)).2,()))) ?_ ?_ _ 0 _ (by simp[lP,N,xz]) (by omega) (by omega)
  ·rintro i _ again hi rfl ih
   unfold yd
   dsimp only
   have hy:l[i]? =some l[i]:=aG hi
   have hdk:=hok l[i] (XW _)
   have hb:=D2 (l:=l.take i) (fun d hd=>hok d (List.mem_of_mem_take hd))
   rw[X5] at hb
   have hb2:=Jw hdk
   rw[az (by omega),bA,hy,Y7,Ur _ hdk,Y7]
   change (Option.bind (Ak (N (lP (l.take i))) (N (Da l[i]))) _)=_
   have l1:(dg6 (lP (l.take i)).natAbs).length≤10:=IM (by omega)
   have l2:(dg6 (Da l[i]).natAbs).length≤10:=IM (by omega)
   rw[Kv _ _ (by omega) (by omega),Y7]
   dsimp only
   rw[aj (by omega) (by omega)]
   refine ih _ ?_
   have e:lP (l.take (i+1))=lP (l.take i)+Da l[i]:=by rw[lg hy];unfold lP;rw[X6,Yv];simp
   rw[e];rfl
  ·rintro _ again rfl
   unfold yd
   dsimp only
   rw[aA (by omega),YB (YM _)]
 rw[loop,aF];rfl
theorem Pc {l:List ai} (hl:l.length≤1000000) (hok:∀ d∈l,bY d):(dg6 (lP l).natAbs).length≤10:=IM (by have:=D2 hok;omega)
end Go.Md
namespace Go.Md
open Go.Dn
end Go.Md
namespace Go.Md
open Go.Dn
end Go.Md
namespace Go.Md
open Go.Dn
end Go.Md
namespace Go.Md
open Go.Dn
def NM (D:Int) (S:Nat→Prop) (ar:List Bd):Prop:=∀ i x,S i→ar[i]? =some x→done x=0∨D<done x
theorem NM.set {D:Int} {S:Nat→Prop} {ar:List Bd} {h:Nat} {x y:Bd} (hq:NM D S ar) (hx:ar[h]? =some x) (hy:(done x=0∨D<done x)→(done y=0∨D<done y)):NM D S (ar.set h y):=by
 intro i z hi hz
 by_cases e:h=i
 ·subst e
  rw[Vi hx] at hz
  cases hz
  exact hy (hq h x hi hx)
 ·rw[XR e] at hz
  exact hq i z hi hz
end Go.Md
namespace Go.Md
open Go.Dn
theorem O7 {s:List UInt8} {i:Nat} {c:UInt8} (h:s[i]? =some c):zA s (i:Int)=some c:=by simp[zA,h]
instance (d:ai):Decidable (bY d):=by unfold bY;infer_instance
end Go.Md
