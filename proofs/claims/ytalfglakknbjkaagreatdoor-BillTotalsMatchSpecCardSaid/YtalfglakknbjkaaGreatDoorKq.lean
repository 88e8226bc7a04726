/-
  Plain facts: stable sorting, debts and payments. No condition.
-/
import Derived.Test.YtalfglakknbjkaaGreatDoorKp
import Derived.Test.YtalfglakknbjkaaGreatDoorKm
set_option linter.all false
namespace Go.Md
open Go.Dn
structure cF {α:Type} (k:α→Int) (l l':List α):Prop where
 perm:l.Perm l'
 keys:∀ v,l'.filter (fun x=>k x==v)=l.filter (fun x=>k x==v)
theorem cF.refl {α:Type} (k:α→Int) (l:List α):cF k l l:=⟨List.Perm.refl _,fun _=>rfl⟩
theorem cF.trans {α:Type} {k:α→Int} {a b c:List α} (h:cF k a b) (g:cF k b c):cF k a c:=⟨h.perm.trans g.perm,fun v=>(g.keys v).trans (h.keys v)⟩
theorem cF.append {α:Type} {k:α→Int} {a b c d:List α} (h:cF k a b) (g:cF k c d):cF k (a++c) (b++d):=
 ⟨h.perm.append g.perm,fun v=>by rw [aeX,aeX,h.keys,g.keys]⟩
theorem cF.mem {α:Type} {k:α→Int} {a b:List α} (h:cF k a b) {x:α}:x∈b↔x∈a:=h.perm.mem_iff.symm
theorem cF.length {α:Type} {k:α→Int} {a b:List α} (h:cF k a b):b.length=a.length:=h.perm.length_eq.symm
theorem cF.swap {α:Type} {k:α→Int} {u v:List α} (h:∀ x∈u,∀ y∈v,k x≠k y):cF k (u++v) (v++u):=by
 refine ⟨List.perm_append_comm,fun w=> ?_⟩
 rw [aeX,aeX]
 by_cases hu:∃ x∈u,k x=w
 ·obtain ⟨x,hx,rfl⟩:=hu
  have:v.filter (fun y=>k y==k x)=[]:=by
   rw [List.filter_eq_nil_iff]
   intro y hy
   simpa using fun e=>h x hx y hy e.symm
  rw [this];simp
 ·have:u.filter (fun y=>k y==w)=[]:=by
   rw [List.filter_eq_nil_iff]
   intro y hy
   simpa using fun e=>hu ⟨y,hy,e⟩
  rw [this];simp
def Srt {α:Type} (k:α→Int) (l:List α):Prop:=l.Pairwise fun x y=>k x≤k y
theorem Srt.append {α:Type} {k:α→Int} {a b:List α} (ha:Srt k a) (hb:Srt k b) (h:∀ x∈a,∀ y∈b,k x≤k y):Srt k (a++b):=afE.2 ⟨ha,hb,h⟩
theorem Srt.left {α:Type} {k:α→Int} {a b:List α} (h:Srt k (a++b)):Srt k a:=(afE.1 h).1
theorem Srt.right {α:Type} {k:α→Int} {a b:List α} (h:Srt k (a++b)):Srt k b:=(afE.1 h).2.1
theorem Srt.Qo {α:Type} {k:α→Int} {a b:List α} (h:Srt k (a++b)):∀ x∈a,∀ y∈b,k x≤k y:=(afE.1 h).2.2
theorem Xx {α:Type} (A B:List α) (x y:α):((A++y::x::B).set (A.length+1) y).set A.length x=A++x::y::B:=by
 induction A with
 | nil=>rfl
 | cons a A ih=>simp only [aeN,afd,afJ,ih]
theorem ab3 {α:Type} (A B:List α) (x y:α):((A++x::y::B).set A.length y).set (A.length+1) x=A++y::x::B:=by
 induction A with
 | nil=>rfl
 | cons a A ih=>simp only [aeN,afd,afJ,ih]
theorem get_at {α:Type} (A B:List α) (y:α):(A++y::B)[A.length]? =some y:=by simp
theorem QB {α:Type} (A B:List α) (x y:α):(A++y::x::B)[A.length+1]? =some x:=by simp
theorem rW {α:Type} {l:List α} {n:Nat} (h:n≤l.length):∃ A B,l=A++B∧A.length=n:=⟨l.take n,l.drop n,by simp,by simp;omega⟩
section
variable {k:Option Nat→Int} {ar:List aC} {ok:Option Nat→Prop}
theorem acF {α:Type} {k:α→Int} {P:List α} (h:Srt k P) {v:Int} (hl:∀ y,P.getLast? =some y→k y≤v):∀ y∈P,k y≤v:=by
 rcases List.eq_nil_or_concat P with rfl | ⟨Q,z,rfl⟩
 ·simp
 ·rw [List.concat_eq_append] at*
  have hz:=hl z (by simp)
  intro y hy
  rcases afp.1 hy with hy | hy
  ·have:=h.Qo y hy z (by simp);omega
  ·rw [afB.1 hy];exact hz
theorem acH {α:Type} {k:α→Int} {P2 P3:List α} {x:α} (hs:Srt k (P2++P3)) (h3:∀ y∈P3,k x<k y) (h2:∀ y,P2.getLast? =some y→k y≤k x):Srt k (P2++x::P3)∧cF k (P2++P3++[x]) (P2++x::P3):=by
 constructor
 ·refine hs.left.append (afF.2 ⟨fun y hy=>by have:=h3 y hy;omega,hs.right⟩) ?_
  intro y hy z hz
  have hy':=acF hs.left h2 y hy
  rcases afq.1 hz with rfl | hz
  ·exact hy'
  ·exact hs.Qo y hy z hz
 ·rw [aeL]
  refine (cF.refl k P2).append ?_
  have:=cF.swap (k:=k) (u:=P3) (v:=[x]) (fun y hy z hz=>by rw [afB.1 hz];have:=h3 y hy;omega)
  simpa using this
end
end Go.Md
namespace Go.Md
open Go.Dn
theorem ZM {α:Type} (A B:List α) (x y:α):(A++x::B).set A.length y=A++y::B:=by
 induction A with
 | nil=>rfl
 | cons a A ih=>simp only [aeN,afd,afJ,ih]
section
variable {k:Option Nat→Int} {ar:List aC} {ok:Option Nat→Prop}
end
end Go.Md
namespace Go.Md
open Go.Dn
theorem bsearch {X β:Type} {f:X→(X→Option β)→Option β} (mk:Nat→Nat→X) (fin:Nat→Option β) (P:Nat→Prop) [DecidablePred P] (lo hi:Nat)
 (hstep:∀ i j again,lo≤i→i<j→j≤hi→f (mk i j) again=if P ((i+j) / 2) then again (mk ((i+j) / 2+1) j) else again (mk i ((i+j) / 2)))
 (hend:∀ i again,lo≤i→i≤hi→f (mk i i) again=fin i) (mono:∀ s t,lo≤s→s≤t→t<hi→P t→P s):
 ∀ n i j,j - i<n→lo≤i→i≤j→j≤hi→(∀ t,lo≤t→t<i→P t)→(∀ t,j≤t→t<hi→¬P t)→∃ r,iter n (mk i j) f=fin r∧lo≤r∧r≤hi∧(∀ t,lo≤t→t<r→P t)∧(∀ t,r≤t→t<hi→¬P t)
 | 0,i,j,hn,_,_,_,_,_=>by omega
 | n+1,i,j,hn,h1,h2,h3,h4,h5=>by
  rw [eS]
  by_cases hij:i=j
  ·subst hij
   exact ⟨i,hend i _ h1 h3,h1,h3,h4,h5⟩
  ·rw [hstep i j _ h1 (by omega) h3]
   by_cases hP:P ((i+j) / 2)
   ·rw [if_pos hP]
    exact bsearch mk fin P lo hi hstep hend mono n _ _ (by omega) (by omega) (by omega) h3 (fun t ht1 ht2=>mono t _ ht1 (show t≤(i+j) / 2 by omega) (by omega) hP) h5
   ·rw [if_neg hP]
    exact bsearch mk fin P lo hi hstep hend mono n _ _ (by omega) h1 (by omega) (by omega) h4 (fun t ht1 ht2 hPt=>hP (mono _ t (by omega) ht1 ht2 hPt))
theorem Qj (i j:Nat) (h:i+j<4000000000000000000):w64 (Int.fdiv (bV (w64 ((i:Int)+(j:Int)))) (2 ^ 1))=(((i+j) / 2:Nat):Int):=by
 rw [aA (n:=(i:Int)+(j:Int)) (by omega) (by omega),dW (by omega) (by omega),aem _ (by omega),aA (by omega) (by omega)]
 omega
theorem acO {α:Type} (X L R Y:List α) {i:Nat} (h:i<L.length):(X++L++R++Y)[X.length+i]? =some L[i]:=by
 rw [aeL,aeL,aeZ (by omega),aeY (by omega),show X.length+i - X.length=i by omega,List.getElem?_eq_getElem h]
theorem aa1 {α:Type} (X L R Y:List α) {i:Nat} (h:i<R.length):(X++L++R++Y)[X.length+L.length+i]? =some R[i]:=by
 rw [aeL,aeL,aeZ (by omega),aeZ (by omega),aeY (by omega),show X.length+L.length+i - X.length - L.length=i by omega,List.getElem?_eq_getElem h]
theorem Srt.get {α:Type} {k:α→Int} {l:List α} (h:Srt k l) {i j:Nat} (hij:i≤j) (hj:j<l.length):k (l[i]'(by omega))≤k l[j]:=by
 rcases Nat.lt_or_eq_of_le hij with h1 | h1
 ·exact afG.1 h i j (by omega) hj h1
 ·subst h1;exact Int.le_refl _
section
variable {k:Option Nat→Int} {ar:List aC} {ok:Option Nat→Prop}
end
end Go.Md
namespace Go.Md
open Go.Dn
section
variable {k:Option Nat→Int} {ar:List aC} {ok:Option Nat→Prop}
set_option maxHeartbeats 4000000 in
end
end Go.Md
namespace Go.Md
open Go.Dn
def ChS {α:Type} (k:α→Int) (bs:Nat) (l:List α):Prop:=∀ j:Nat,Srt k ((l.drop (j*bs)).take bs)
theorem ChS.nil {α:Type} (k:α→Int) (bs:Nat):ChS k bs []:=fun _=>by simp [Srt]
theorem ChS.snoc {α:Type} {k:α→Int} {bs:Nat} {A S:List α} {j:Nat} (h:ChS k bs A) (hA:A.length=j*bs) (hS:Srt k S) (hl:S.length≤bs):ChS k bs (A++S):=by
 intro i
 rcases af8 i j with hij | hij | hij
 ·have h1:(i+1)*bs≤j*bs:=age _ hij
  rw [afS,agh] at h1
  rw [List.drop_append_of_le_length (by omega),List.take_append_of_le_length (by rw [List.length_drop];omega)]
  exact h i
 ·subst hij
  rw [← hA,aeS,afP hl]
  exact hS
 ·have h1:(j+1)*bs≤i*bs:=age _ hij
  rw [afS,agh] at h1
  rw [aeT (by rw [afc];omega)]
  simp [Srt]
theorem ChS.drop {α:Type} {k:α→Int} {bs:Nat} {l:List α} (h:ChS k bs l) (i:Nat):ChS k bs (l.drop (i*bs)):=by
 intro j
 rw [aeQ, ← afS]
 exact h (i+j)
theorem Srt.take {α:Type} {k:α→Int} {l:List α} (h:Srt k l) (n:Nat):Srt k (l.take n):=by
 rw [← afN n l] at h;exact h.left
section
variable {k:Option Nat→Int} {ar:List aC} {ok:Option Nat→Prop}
end
end Go.Md
namespace Go.Md
open Go.Dn
def jJ {α:Type} (g:Nat→α→Int):Nat→List α→Int
 | _,[]=>0
 | i,y::r=>if g i y=0 then jJ g (i+1) r else g i y
theorem CG {α:Type} {g:Nat→α→Int}:∀ {l:List α} {i:Nat},jJ g i l=0→∀ j y,l[j]? =some y→g (i+j) y=0
 | [],_,_,_,_,h=>by simp at h
 | y::r,i,h,j,z,hz=>by
  simp only [jJ] at h
  by_cases hg:g i y=0
  ·rw [if_pos hg] at h
   cases j with
   | zero=>simp at hz;subst hz;exact hg
   | succ j=>have:=CG h j z (by simpa using hz);rw [show i+(j+1)=i+1+j by omega];exact this
  ·rw [if_neg hg] at h;exact absurd h hg
theorem Vn {X α:Type} {γ:Type} {f:X→(X→Option ((Int×Unit) ⊕ γ))→Option ((Int×Unit) ⊕ γ)} (mk:Nat→X) (l:List α) (g:Nat→α→Int) (u:γ)
 (hstep:∀ i y again,l[i]? =some y→f (mk i) again=if g i y=0 then again (mk (i+1)) else some (Sum.inl (g i y,()))) (hend:∀ again,f (mk l.length) again=some (Sum.inr u)):
 ∀ (r:List α) (i n:Nat),l.drop i=r→i≤l.length→r.length<n→iter n (mk i) f=if jJ g i r=0 then some (Sum.inr u) else some (Sum.inl (jJ g i r,()))
 | _,_,0,_,_,hn=>absurd hn (agf _)
 | [],i,n+1,hd,hi,_=>by
  have:i=l.length:=by
   have:=congrArg List.length hd
   simp at this;omega
  subst this
  rw [eS,hend];rfl
 | y::r,i,n+1,hd,hi,hn=>by
  have hy:l[i]? =some y:=by
   have:=congrArg (·[0]?) hd
   simpa [ae2] using this
  have hr:l.drop (i+1)=r:=by
   have:=congrArg List.tail hd
   simpa [List.tail_drop] using this
  have hi':i<l.length:=(List.getElem?_eq_some_iff.1 hy).1
  rw [eS,hstep i y _ hy]
  by_cases hg:g i y=0
  ·have e:jJ g i (y::r)=jJ g (i+1) r:=by simp [jJ,hg]
   rw [if_pos hg,e]
   exact Vn mk l g u hstep hend r (i+1) n hr hi' (by simp at hn;omega)
  ·have e:jJ g i (y::r)=g i y:=by simp [jJ,hg]
   rw [if_neg hg,e,if_neg hg]
theorem mX (a b c:Int):cE a b c=some (decide (a<b∨c<a),()):=by
 unfold cE
 by_cases h:a<b
 ·rw [aE h];simp [h]
 ·rw [aF h];simp [h]
theorem W7 (n:Int):Bv n=some (decide (1≤n∧n≤3652059),()):=by
 unfold Bv
 rw [mX,Option.bind_some]
 congr 2
 simp only [← decide_not]
 congr 1
 simp only [agH];omega
def l8 (s:List UInt8):Bool:=((gP s).map (·.1)).getD false
theorem Gu (s:List UInt8):gP s=some (l8 s,()):=by
 have:∃ b,gP s=some (b,()):=by
  unfold gP
  by_cases h1:(s.length:Int)<1
  ·rw [aE h1];exact ⟨_,rfl⟩
  ·rw [aF h1]
   by_cases h2:(s.length:Int)>40
   ·rw [aE h2];exact ⟨_,rfl⟩
   ·rw [aF h2]
    have hs:Gx s 0=some (s[0]'(by omega)):=by simp [Gx]
    rw [hs]
    simp only [Option.bind_some]
    have ht:nS s [97,98,99,100,101,102,103,104,105,106,107,108,109,110,111,112,113,114,115,116,117,118,119,120,121,122,48,49,50,51,52,53,54,55,56,57,45]=some (Lib.trimS s [97,98,99,100,101,102,103,104,105,106,107,108,109,110,111,112,113,114,115,116,117,118,119,120,121,122,48,49,50,51,52,53,54,55,56,57,45],()):=by
     unfold nS
     rw [show (decide (s.length≤9223372036854775807))=true by simp;omega]
     rfl
    rw [ht]
    simp only [Option.bind_some]
    generalize (decide ((((s[0]'(by omega)).toNat:Int))<97))=b1
    generalize (decide ((((s[0]'(by omega)).toNat:Int))>122))=b2
    cases b1<;>cases b2<;>exact ⟨_,rfl⟩
 obtain ⟨b,hb⟩:=this
 unfold l8
 rw [hb];rfl
theorem KQ (d:ak):b9 d=some (if -1000000000000000≤d.1∧d.1≤1000000000000000∧0≤d.2∧d.2≤9 then 0 else 1,()):=by
 unfold b9
 rw [mX,Option.bind_some,mX]
 simp only [Option.bind_some]
 by_cases h1:d.1< -1000000000000000∨1000000000000000<d.1
 ·rw [aE h1,if_neg (by omega)]
 ·rw [aF h1]
  by_cases h2:d.2<0∨9<d.2
  ·rw [aE h2,if_neg (by omega)]
  ·rw [aF h2,if_pos (by omega)]
theorem ack {n:Nat} (h:n≤18):(10:Int) ^ n≤1000000000000000000:=by
 have:=agj (n:=10) (by omega) h
 have h2:=Int.ofNat_le.2 this
 simpa using h2
theorem xC (n:Nat):(0:Int)<10 ^ n:=Il (by omega) n
theorem NG (n:Int) (h0:0≤n) (h1:n≤18):yz n=some (10 ^ n.toNat,()):=by
 obtain ⟨m,rfl⟩:∃ m:Nat,n=m:=⟨n.toNat,by omega⟩
 unfold yz
 have:iter (X:=AH) (β:=AM) (Int.natAbs (1:Int)+(Int.natAbs (m:Int)+(Int.natAbs (0:Int)+2))) (1,(m:Int),0,()) Ax=some (Sum.inr (10 ^ m,())):=by
  refine bn (Inv:=fun i x=>x=(10 ^ i,(m:Int),(i:Int),())) m (fun r=>r=some (Sum.inr (10 ^ m,()))) ?_ ?_ _ 0 _ (by simp) (by omega) (by omega)
  ·rintro i _ again hi rfl ih
   unfold Ax
   dsimp only
   have h10:=ack (n:=i+1) (by omega)
   have hp:=xC (i+1)
   rw [aey] at h10 hp
   rw [aE (by omega),aA (by omega) (by omega),aA (by omega) (by omega)]
   exact ih _ (by rw [aey];rfl)
  ·rintro _ again rfl
   unfold Ax
   dsimp only
   rw [aF (by omega)]
 rw [this,aG]
 simp
theorem T4 (d:ak) (most:Int) (h0:0≤d.2) (h1:d.2≤9) (hm0:0≤most) (hm1:most≤1000000000):fR d most=some (decide (-(most*10 ^ d.2.toNat)≤d.1∧d.1≤most*10 ^ d.2.toNat),()):=by
 unfold fR
 rw [NG _ h0 (by omega),Option.bind_some]
 dsimp only
 have hp:=xC d.2.toNat
 have hq:(10:Int) ^ d.2.toNat≤1000000000:=by
  have:=agj (n:=10) (by omega) (show d.2.toNat≤9 by omega)
  have h2:=Int.ofNat_le.2 this
  simpa using h2
 have h3:most*10 ^ d.2.toNat≤1000000000*1000000000:=by
  have a1:most*10 ^ d.2.toNat≤1000000000*10 ^ d.2.toNat:=aeq hm1 (by omega)
  omega
 have h4:0≤most*10 ^ d.2.toNat:=aer hm0 (by omega)
 rw [aA (n:=most*10 ^ d.2.toNat) (by omega) (by omega),aA (by omega) (by omega),mX,Option.bind_some]
 congr 2
 simp only [← decide_not]
 congr 1
 simp only [agH];omega
def J5 (d:ak):Prop:=0<d.1∧0≤d.2∧d.2≤4∧d.1≤1000000000*10 ^ d.2.toNat
instance (d:ak):Decidable (J5 d):=by unfold J5;exact inferInstance
structure adn (d:cR):Prop where
 day0:1≤d.2.1
 day1:d.2.1≤3652059
 mon:J5 d.2.2.1
 days0:0≤d.2.2.2.1
 days1:d.2.2.2.1≤10000
 with0:0≤d.2.2.2.2.1
 with1:d.2.2.2.2.1≤d.2.2.2.1
 disc0:0≤d.2.2.2.2.2
 disc1:d.2.2.2.2.2≤1000
structure adT (p:bP):Prop where
 day0:1≤p.1
 day1:p.1≤3652059
 mon:J5 p.2.1
 names:p.2.2.length≤100
end Go.Md
namespace Go.Md
open Go.Dn
def QK (d:ak):Int:=d.1*10 ^ (4 - d.2).toNat
theorem J5.QK {d:ak} (h:J5 d):0<QK d∧QK d≤10000000000000:=by
 obtain ⟨h1,h2,h3,h4⟩:=h
 unfold Md.QK
 have hp:=xC (4 - d.2).toNat
 refine ⟨Int.mul_pos h1 hp, ?_⟩
 have a1:d.1*10 ^ (4 - d.2).toNat≤1000000000*10 ^ d.2.toNat*10 ^ (4 - d.2).toNat:=aeq h4 (by omega)
 rw [aeo, ← aex,show d.2.toNat+(4 - d.2).toNat=4 by omega] at a1
 omega
abbrev Bd:=aC
def aab (x:Bd):Int:=x.2.1
def aaD (x:Bd):Int:=x.2.2.1
def taken (x:Bd):Int:=x.2.2.2.1
def done (x:Bd):Int:=x.2.2.2.2
structure XE (x:Bd):Prop where
 d:adn x.1
 owes0:0≤aab x
 paid0:0≤aaD x
 taken0:0≤taken x
 sum:aab x+aaD x+taken x=QK x.1.2.2.1
 none:done x=0→taken x=0
 done0:done x=0∨x.1.2.1≤done x
 iff:aab x=0↔done x≠0
theorem XE.le {x:Bd} (h:XE x):aab x≤10000000000000∧aaD x≤10000000000000∧taken x≤10000000000000:=by
 have:=h.d.mon.QK;have:=h.sum;have:=h.owes0;have:=h.paid0;have:=h.taken0;omega
section
variable {ar:List Bd} {h:Nat} {x:Bd}
theorem ac4 {α:Type} {l:List α} {i:Nat} {x y:α} (h:l[i]? =some x):(l.set i y)[i]? =some y:=ae8 (List.getElem?_eq_some_iff.1 h).1
end
end Go.Md
namespace Go.Md
open Go.Dn
structure oG (ds:List cR) (ar:List Bd):Prop where
 ds:ar.map (·.1)=ds
 ok:∀ x∈ar,XE x
theorem oG.len {ds:List cR} {ar:List Bd} (h:oG ds ar):ar.length=ds.length:=by rw [← h.ds];simp
theorem oG.set {ds:List cR} {ar:List Bd} (h:oG ds ar) {i:Nat} {x y:Bd} (hx:ar[i]? =some x) (hy:XE y) (he:y.1=x.1):oG ds (ar.set i y):=by
 refine ⟨?_,fun z hz=> ?_⟩
 ·rw [List.map_set,he, ← h.ds]
  apply aeW
  intro j
  by_cases hj:i=j
  ·subst hj
   rw [ae8 (by simp;exact (List.getElem?_eq_some_iff.1 hx).1),List.getElem?_map,hx];rfl
  ·rw [ae7 hj]
 ·rcases afy hz with hz | rfl
  ·exact h.ok z hz
  ·exact hy
theorem oG.get {ds:List cR} {ar:List Bd} (h:oG ds ar) {i:Nat} {x:Bd} (hx:ar[i]? =some x):XE x:=h.ok x (List.mem_of_getElem? hx)
def adh (ar:List Bd):Int:=(ar.map aaD).sum
structure adU (ds:List cR) (L T:Int) (s:Int×List Bd):Prop where
 ar:oG ds s.2
 l0:0≤s.1
 l1:s.1≤L
 tot:s.1+adh s.2=T
theorem abd {β:Type} (a:Option β):both a a=a:=abr a
end Go.Md
namespace Go.Md
open Go.Dn
theorem K7 (z:Int) (p:Int):r0 (W z) p=some (if z.natAbs≤1000000000000000 then ((z,p),0,()) else ((0,0),1,())):=by
 unfold r0
 rw [ur z 1000000000000000 (by omega) (by omega),Option.bind_some]
 by_cases h:(z.natAbs:Int)≤1000000000000000
 ·rw [if_pos h,if_pos (by omega)];rfl
 ·rw [if_neg h,if_neg (by omega)];rfl
def qM (d:ak):Int:=d.1*10 ^ (9 - d.2).toNat
def b6 (d:ak):Prop:=d.1.natAbs≤1000000000000000∧0≤d.2∧d.2≤9
theorem J5.dec {d:ak} (h:J5 d):b6 d:=by
 obtain ⟨h1,h2,h3,h4⟩:=h
 have hq:(10:Int) ^ d.2.toNat≤10000:=by
  have:=agj (n:=10) (by omega) (show d.2.toNat≤4 by omega)
  have h2:=Int.ofNat_le.2 this
  simpa using h2
 exact ⟨by omega,h2,by omega⟩
theorem Uu {z:Int} (h:z.natAbs<1000000000000000000000000000000000000000000000000000000000000):(dg6 z.natAbs).length≤10:=ZF (k:=10) (by simpa using h)
theorem RN (n:Nat) (hn:n≤40):wQ (n:Int)=some (N (10 ^ n),()):=by
 unfold wQ
 rw [gQ 1 (by omega) (by omega),Option.bind_some]
 dsimp only
 have hb:∀ i:Nat,i≤41→(dg6 ((10:Int) ^ i).natAbs).length≤10:=by
  intro i hi
  refine Uu ?_
  have h1:((10:Int) ^ i).natAbs=10 ^ i:=by rw [Int.natAbs_pow];rfl
  have h2:=agj (n:=10) (by omega) hi
  omega
 have loop:iter (X:=EH) (β:=ET) (Int.natAbs (n:Int)+(Int.natAbs (0:Int)+(List.length ([]:List Int)+(List.length (N 1).2+2)))) ((n:Int),0,false,[],(N 1).1,(N 1).2,()) EY=some (Sum.inr (false,[],(N (10 ^ n)).1,(N (10 ^ n)).2,())):=by
  refine bn (Inv:=fun i x=>x=((n:Int),(i:Int),false,[],(N (10 ^ i)).1,(N (10 ^ i)).2,())) n (fun r=>r=some (Sum.inr (false,[],(N (10 ^ n)).1,(N (10 ^ n)).2,()))) ?_ ?_ _ 0 _ (by simp) (by omega) (by omega)
  ·rintro i _ again hi rfl ih
   unfold EY
   dsimp only
   rw [aE (by omega),gQ 10 (by omega) (by omega),Option.bind_some]
   change (Option.bind (gO (N (10 ^ i)) (N 10)) _)=_
   have h10:(dg6 (10:Int).natAbs).length≤10:=Uu (by decide)
   rw [gw _ _ (by have:=hb i (by omega);omega) (by omega),Option.bind_some]
   dsimp only
   rw [aA (by omega) (by omega)]
   exact ih _ (by rw [aey];rfl)
  ·rintro _ again rfl
   unfold EY
   dsimp only
   rw [aF (by omega)]
 rw [loop,aG]
theorem Xu (d:ak) (hd:b6 d):J2 d 9=some (N (qM d),()):=by
 obtain ⟨h1,h2,h3⟩:=hd
 unfold J2
 rw [gQ _ (by omega) (by omega),Option.bind_some,aA (by omega) (by omega)]
 dsimp only
 obtain ⟨m,hm⟩:∃ m:Nat,9 - d.2=m:=⟨(9 - d.2).toNat,by omega⟩
 rw [hm,RN m (by omega),Option.bind_some]
 dsimp only
 have hl1:(dg6 d.1.natAbs).length≤10:=Uu (by omega)
 have hl2:(dg6 ((10:Int) ^ m).natAbs).length≤10:=by
  refine Uu ?_
  have h1:((10:Int) ^ m).natAbs=10 ^ m:=by rw [Int.natAbs_pow];rfl
  have h2:=agj (n:=10) (by omega) (show m≤9 by omega)
  omega
 rw [gw _ _ (by omega) (by omega),Option.bind_some]
 unfold qM
 rw [hm];rfl
theorem SX {d:ak} (hd:b6 d):(qM d).natAbs≤1000000000000000000000000:=by
 obtain ⟨h1,h2,h3⟩:=hd
 unfold qM
 rw [Int.natAbs_mul,Int.natAbs_pow]
 have h4:=agj (n:=10) (by omega) (show (9 - d.2).toNat≤9 by omega)
 have h5:d.1.natAbs*(10:Int).natAbs ^ (9 - d.2).toNat≤1000000000000000*1000000000:=Nat.mul_le_mul h1 (by simpa using h4)
 omega
end Go.Md
namespace Go.Md
open Go.Dn
end Go.Md
namespace Go.Md
open Go.Dn
end Go.Md
namespace Go.Md
open Go.Dn
theorem T6 {X α B:Type} {f:X→(X→Option B)→Option B} (mk:Nat→X) (l:List α) (g:Nat→α→Int) (fin:Option B) (out:Int→Option B)
 (hstep:∀ i y again,l[i]? =some y→f (mk i) again=if g i y=0 then again (mk (i+1)) else out (g i y)) (hend:∀ again,f (mk l.length) again=fin):
 ∀ (r:List α) (i n:Nat),l.drop i=r→i≤l.length→r.length<n→iter n (mk i) f=if jJ g i r=0 then fin else out (jJ g i r)
 | _,_,0,_,_,hn=>absurd hn (agf _)
 | [],i,n+1,hd,hi,_=>by
  have:i=l.length:=by
   have:=congrArg List.length hd
   simp at this;omega
  subst this
  rw [eS,hend];rfl
 | y::r,i,n+1,hd,hi,hn=>by
  have hy:l[i]? =some y:=by
   have:=congrArg (·[0]?) hd
   simpa [ae2] using this
  have hr:l.drop (i+1)=r:=by
   have:=congrArg List.tail hd
   simpa [List.tail_drop] using this
  have hi':i<l.length:=(List.getElem?_eq_some_iff.1 hy).1
  rw [eS,hstep i y _ hy]
  by_cases hg:g i y=0
  ·have e:jJ g i (y::r)=jJ g (i+1) r:=by simp [jJ,hg]
   rw [if_pos hg,e]
   exact T6 mk l g fin out hstep hend r (i+1) n hr hi' (by simp at hn;omega)
  ·have e:jJ g i (y::r)=g i y:=by simp [jJ,hg]
   rw [if_neg hg,e,if_neg hg]
end Go.Md
namespace Go.Md
open Go.Dn
def Yk (D:Int) (S:Nat→Prop) (ar:List Bd):Prop:=∀ i x,S i→ar[i]? =some x→done x=0∨D<done x
theorem Yk.set {D:Int} {S:Nat→Prop} {ar:List Bd} {h:Nat} {x y:Bd} (hq:Yk D S ar) (hx:ar[h]? =some x) (hy:(done x=0∨D<done x)→(done y=0∨D<done y)):Yk D S (ar.set h y):=by
 intro i z hi hz
 by_cases e:h=i
 ·subst e
  rw [ac4 hx] at hz
  cases hz
  exact hy (hq h x hi hx)
 ·rw [ae7 e] at hz
  exact hq i z hi hz
end Go.Md
namespace Go.Md
open Go.Dn
def nmC:List UInt8:=[97,98,99,100,101,102,103,104,105,106,107,108,109,110,111,112,113,114,115,116,117,118,119,120,121,122,48,49,50,51,52,53,54,55,56,57,45]
def nmB (c:UInt8):Bool:=nmC.contains c
set_option maxRecDepth 100000 in
theorem acW:∀ n:Fin 256,nmB (UInt8.ofNat n.1)=((decide (97≤n.1)&&decide (n.1≤122))||((decide (48≤n.1)&&decide (n.1≤57))||decide (n.1=45))):=by decide
theorem adk (c:UInt8):nmB c=((decide (97≤c.toNat)&&decide (c.toNat≤122))||((decide (48≤c.toNat)&&decide (c.toNat≤57))||decide (c.toNat=45))):=by
 have:=acW ⟨c.toNat,UInt8.toNat_lt c⟩
 simpa using this
theorem Ju {α:Type} {p:α→Bool}:∀ {l:List α},l.dropWhile p=[]↔∀ x∈l,p x=true
 | []=>by simp
 | y::r=>by
  cases hp:p y with
  | true=>rw [List.dropWhile_cons_of_pos hp,Ju];simp [hp]
  | false=>rw [List.dropWhile_cons_of_neg (by simp [hp])];simp [hp]
theorem TR {α:Type} {p:α→Bool} {y:α} {r:List α}:∀ {l:List α},l.dropWhile p=y::r→p y=false
 | [],h=>by simp at h
 | z::t,h=>by
  cases hp:p z with
  | true=>rw [List.dropWhile_cons_of_pos hp] at h;exact TR h
  | false=>rw [List.dropWhile_cons_of_neg (by simp [hp])] at h;cases h;exact hp
theorem abT (s c:List UInt8):(Lib.trimS s c==[])=s.all (c.contains ·):=by
 rw [Bool.eq_iff_iff]
 simp only [agz,aeI]
 unfold Lib.trimS Lib.trimLeftS Lib.trimRightS
 constructor
 ·intro h
  rw [Ju] at h
  cases hd:s.reverse.dropWhile (c.contains ·) with
  | nil=>
   rw [Ju] at hd
   intro x hx
   exact hd x (by simpa using hx)
  | cons y r=>
   exfalso
   have h1:=h y (by rw [hd];simp)
   have h2:=TR hd
   rw [h1] at h2
   cases h2
 ·intro h
  have:s.reverse.dropWhile (c.contains ·)=[]:=Ju.2 fun x hx=>h x (by simpa using hx)
  rw [this];rfl
theorem Vo {α:Type} (p:α→Bool) (e:Int) (he:e≠0):∀ (l:List α) (i:Nat),jJ (fun _ c=>if p c=true then 0 else e) i l=if l.all p=true then 0 else e
 | [],i=>by simp [jJ]
 | y::r,i=>by
  have ih:=Vo p e he r (i+1)
  cases hp:p y with
  | true=>simp only [jJ,hp,agL,aeH,aei];exact ih
  | false=>simp [jJ,hp,he]
theorem X8 {s:List UInt8} {i:Nat} {c:UInt8} (h:s[i]? =some c):Gx s (i:Int)=some c:=by simp [Gx,h]
theorem IK (s:List UInt8):pH s=some (l8 s,()):=by
 unfold pH l8 gP Ou
 by_cases h0:s=[]
 ·subst h0;rfl
 have hb:(s==[])=false:=by simpa using h0
 have hl:0<s.length:=List.length_pos_iff.2 h0
 rw [hb,cond_false,aF (show ¬((s.length:Int)<1) by omega)]
 by_cases h2:(s.length:Int)>40
 ·rw [aE h2,aE h2];rfl
 rw [aF h2,aF h2]
 have hs:Gx s 0=some (s[0]'hl):=X8 (i:=0) (aH hl)
 simp only [hs,Option.bind_some]
 by_cases h3:(((s[0]'hl).toNat:Int))<97
 ·simp only [aE h3];rfl
 simp only [aF h3]
 by_cases h4:(((s[0]'hl).toNat:Int))>122
 ·simp only [aE h4];rfl
 simp only [aF h4]
 have ht:nS s [97,98,99,100,101,102,103,104,105,106,107,108,109,110,111,112,113,114,115,116,117,118,119,120,121,122,48,49,50,51,52,53,54,55,56,57,45]=some (Lib.trimS s nmC,()):=by
  unfold nS
  rw [show (decide (s.length≤9223372036854775807))=true by simp;omega]
  rfl
 rw [ht,Option.bind_some]
 have loop:=T6 (f:=CR) (fun i=>(s,(s.length:Int),(i:Int),())) s (fun _ c=>if nmB c=true then 0 else 1) (some (Sum.inr ())) (fun _=>some (Sum.inl (false,())))
  (fun i c again hi=>by
    have hil:=(List.getElem?_eq_some_iff.1 hi).1
    unfold CR
    dsimp only
    rw [aE (show (i:Int)<(s.length:Int) by omega),X8 hi,Option.bind_some,adk c,aA (by omega) (by omega)]
    by_cases a1:(c.toNat:Int)<97<;>by_cases a2:(c.toNat:Int)>122<;>by_cases a3:(c.toNat:Int)<48<;>by_cases a4:(c.toNat:Int)>57<;>by_cases a5:(c.toNat:Int)=45<;>
      first
      | omega
      | (have b1:(97≤c.toNat)=¬ ((c.toNat:Int)<97):=by simp only [agH];omega
         have b2:(c.toNat≤122)=¬ ((c.toNat:Int)>122):=by simp only [agH];omega
         have b3:(48≤c.toNat)=¬ ((c.toNat:Int)<48):=by simp only [agH];omega
         have b4:(c.toNat≤57)=¬ ((c.toNat:Int)>57):=by simp only [agH];omega
         have b5:(c.toNat=45)=((c.toNat:Int)=45):=by simp only [agH];omega
         simp only [b1,b2,b3,b4,b5,a1,a2,a3,a4,a5,bne,agG,agF,not_true_eq_false,not_false_eq_true,ad7,aei,ad6,Bool.false_and,Bool.or_true,Bool.true_or,aeh,aea,cond_true,cond_false,agL,ad8,agK,Int.one_ne_zero,agA,Bool.not_true]
         first | rfl | (have a6:((c.toNat:Int)==45)=false:=by simp only [agy,ne_eq];exact a5
                        rw [a6];rfl)))
  (fun again=>by
    unfold CR
    dsimp only
    rw [aF (by omega)])
  s 0 (List.length s+(Int.natAbs ((List.length s:Int))+(Int.natAbs (0:Int)+2))) rfl (agn _) (by omega)
 rw [show ((0:Nat):Int)=0 from rfl] at loop
 rw [loop,Vo nmB 1 (by omega),abT]
 have e:(s.all fun x=>nmC.contains x)=s.all nmB:=rfl
 rw [e]
 cases s.all nmB<;>rfl
theorem xk (a b c:Int):wX a b c=some (decide (b≤a∧a≤c),()):=by
 unfold wX
 by_cases h:b≤a
 ·rw [aE h];simp [h]
 ·rw [aF h];simp [h]
theorem Gj (a b c:Int):nu a b c=some (decide (b≤a∧a≤c),()):=xk a b c
theorem Zt (n:Int):Ms n=some (decide (1≤n∧n≤3652059),()):=by
 unfold Ms SQ
 rw [xk];rfl
theorem FL (d:ak):lO d=some (if -1000000000000000≤d.1∧d.1≤1000000000000000∧0≤d.2∧d.2≤9 then 0 else 1,()):=by
 unfold lO
 rw [xk,Option.bind_some]
 by_cases h1: -1000000000000000≤d.1∧d.1≤1000000000000000
 ·rw [agE h1]
  simp only [Bool.not_true,cond_false]
  rw [xk,Option.bind_some]
  by_cases h2:0≤d.2∧d.2≤9
  ·rw [agE h2,if_pos ⟨h1.1,h1.2,h2⟩];rfl
  ·rw [agD h2,if_neg (fun h=>h2 h.2.2)];rfl
 ·rw [agD h1,if_neg (fun h=>h1 ⟨h.1,h.2.1⟩)];rfl
theorem TO {a b:ak} (ha:b6 a) (hb:b6 b):Lp a b=some ((qM a - qM b).sign,()):=by
 unfold Lp
 have l1:=SX ha
 have l2:=SX hb
 have m1:=Uu (z:=qM a) (by omega)
 have m2:=Uu (z:=qM b) (by omega)
 rw [Xu a ha,Option.bind_some,Xu b hb,Option.bind_some,O8 _ _ (by omega) (by omega)]
 rfl
instance (d:ak):Decidable (b6 d):=by unfold b6;infer_instance
theorem Y1 (d:ak) (lo hi pl:Int) (hlo:lo.natAbs≤1000000000000000) (hhi:hi.natAbs≤1000000000000000):mZ d lo hi pl=some (decide (b6 d∧d.2≤pl∧lo*10 ^ 9≤qM d∧qM d≤hi*10 ^ 9),()):=by
 unfold mZ
 rw [FL,Option.bind_some]
 have hd:b6 d↔(-1000000000000000≤d.1∧d.1≤1000000000000000∧0≤d.2∧d.2≤9):=by unfold b6;omega
 have z:∀ n:Int,n.natAbs≤1000000000000000→b6 (n,0)∧qM (n,0)=n*10 ^ 9:=fun n hn=>⟨⟨hn,by simp,by simp⟩,by simp [qM]⟩
 by_cases h1:b6 d
 ·rw [if_pos (hd.1 h1)]
  dsimp only
  rw [show ((0:Int)==0)=true from rfl,cond_true]
  by_cases h2:d.2≤pl
  ·rw [aE h2,TO h1 (z lo hlo).1,Option.bind_some,(z lo hlo).2]
   dsimp only
   by_cases h3:lo*10 ^ 9≤qM d
   ·rw [aE (by rw [ge_iff_le,aeC];omega),TO h1 (z hi hhi).1,Option.bind_some,(z hi hhi).2]
    have:((qM d - hi*10 ^ 9).sign≤0)=(b6 d∧d.2≤pl∧lo*10 ^ 9≤qM d∧qM d≤hi*10 ^ 9):=by
     rw [Int.sign_nonpos_iff,agH]
     constructor
     ·intro h;exact ⟨h1,h2,h3,by omega⟩
     ·intro h;omega
    simp only [this]
   ·rw [aF (by rw [ge_iff_le,aeC];omega),agD (fun h=>h3 h.2.2.1)]
  ·rw [aF h2,agD (fun h=>h2 h.2.1)]
 ·rw [if_neg (fun h=>h1 (hd.2 h)),agD (p:=b6 d∧d.2≤pl∧lo*10 ^ 9≤qM d∧qM d≤hi*10 ^ 9) (fun h=>h1 h.1)];rfl
end Go.Md
