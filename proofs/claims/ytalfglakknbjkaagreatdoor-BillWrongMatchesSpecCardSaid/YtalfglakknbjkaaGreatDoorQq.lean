/-
  Plain facts: sorting, debts. No condition.
-/
import Derived.Test.YtalfglakknbjkaaGreatDoorQp
import Derived.Test.YtalfglakknbjkaaGreatDoorQm
set_option linter.all false
namespace Go.Md
open Go.Dn
structure cQ {α:Type} (k:α→Int) (l l':List α):Prop where
 perm:l.Perm l'
 keys:∀ v,l'.filter (fun x=>k x==v)=l.filter (fun x=>k x==v)
theorem cQ.refl {α:Type} (k:α→Int) (l:List α):cQ k l l:=⟨List.Perm.refl _,fun _=>rfl⟩
theorem cQ.trans {α:Type} {k:α→Int} {a b c:List α} (h:cQ k a b) (g:cQ k b c):cQ k a c:=⟨h.perm.trans g.perm,fun v=>(g.keys v).trans (h.keys v)⟩
theorem cQ.append {α:Type} {k:α→Int} {a b c d:List α} (h:cQ k a b) (g:cQ k c d):cQ k (a++c) (b++d):=
 ⟨h.perm.append g.perm,fun v=>by rw[akI,akI,h.keys,g.keys]⟩
theorem cQ.mem {α:Type} {k:α→Int} {a b:List α} (h:cQ k a b) {x:α}:x∈b↔x∈a:=h.perm.mem_iff.symm
theorem cQ.length {α:Type} {k:α→Int} {a b:List α} (h:cQ k a b):b.length=a.length:=h.perm.length_eq.symm
theorem cQ.swap {α:Type} {k:α→Int} {u v:List α} (h:∀ x∈u,∀ y∈v,k x≠k y):cQ k (u++v) (v++u):=by
 refine⟨List.perm_append_comm,fun w=> ?_⟩
 rw[akI,akI]
 by_cases hu:∃ x∈u,k x=w
 ·obtain⟨x,hx,rfl⟩:=hu
  have:v.filter (fun y=>k y==k x)=[]:=by
   rw[List.filter_eq_nil_iff]
   intro y hy
   simpa using fun e=>h x hx y hy e.symm
  rw[this];simp
 ·have:u.filter (fun y=>k y==w)=[]:=by
   rw[List.filter_eq_nil_iff]
   intro y hy
   simpa using fun e=>hu ⟨y,hy,e⟩
  rw[this];simp
def Srt {α:Type} (k:α→Int) (l:List α):Prop:=l.Pairwise fun x y=>k x≤k y
theorem Srt.append {α:Type} {k:α→Int} {a b:List α} (ha:Srt k a) (hb:Srt k b) (h:∀ x∈a,∀ y∈b,k x≤k y):Srt k (a++b):=alA.2 ⟨ha,hb,h⟩
theorem Srt.left {α:Type} {k:α→Int} {a b:List α} (h:Srt k (a++b)):Srt k a:=(alA.1 h).1
theorem Srt.right {α:Type} {k:α→Int} {a b:List α} (h:Srt k (a++b)):Srt k b:=(alA.1 h).2.1
theorem Srt.SY {α:Type} {k:α→Int} {a b:List α} (h:Srt k (a++b)):∀ x∈a,∀ y∈b,k x≤k y:=(alA.1 h).2.2
theorem adk {α:Type} (A B:List α) (x y:α):((A++y::x::B).set (A.length+1) y).set A.length x=A++x::y::B:=by
 induction A with
 | nil=>rfl
 | cons a A ih=>simp only[aky,ak3,alF,ih]
theorem agw {α:Type} (A B:List α) (x y:α):((A++x::y::B).set A.length y).set (A.length+1) x=A++y::x::B:=by
 induction A with
 | nil=>rfl
 | cons a A ih=>simp only[aky,ak3,alF,ih]
theorem get_at {α:Type} (A B:List α) (y:α):(A++y::B)[A.length]? =some y:=by simp
theorem SP {α:Type} (A B:List α) (x y:α):(A++y::x::B)[A.length+1]? =some x:=by simp
theorem rR {α:Type} {l:List α} {n:Nat} (h:n≤l.length):∃ A B,l=A++B∧A.length=n:=⟨l.take n,l.drop n,by simp,by simp;omega⟩
section
variable {k:Option Nat→Int} {ar:List aV} {ok:Option Nat→Prop}
theorem ahQ {α:Type} {k:α→Int} {P:List α} (h:Srt k P) {v:Int} (hl:∀ y,P.getLast? =some y→k y≤v):∀ y∈P,k y≤v:=by
 rcases List.eq_nil_or_concat P with rfl | ⟨Q,z,rfl⟩
 ·simp
 ·rw[List.concat_eq_append] at*
  have hz:=hl z (by simp)
  intro y hy
  rcases alh.1 hy with hy | hy
  ·have:=h.SY y hy z (by simp);omega
  ·rw[alx.1 hy];exact hz
theorem ahP {α:Type} {k:α→Int} {P2 P3:List α} {x:α} (hs:Srt k (P2++P3)) (h3:∀ y∈P3,k x<k y) (h2:∀ y,P2.getLast? =some y→k y≤k x):Srt k (P2++x::P3)∧cQ k (P2++P3++[x]) (P2++x::P3):=by
 constructor
 ·refine hs.left.append (alB.2 ⟨fun y hy=>by have:=h3 y hy;omega,hs.right⟩) ?_
  intro y hy z hz
  have hy':=ahQ hs.left h2 y hy
  rcases ali.1 hz with rfl | hz
  ·exact hy'
  ·exact hs.SY y hy z hz
 ·rw[akw]
  refine (cQ.refl k P2).append ?_
  have:=cQ.swap (k:=k) (u:=P3) (v:=[x]) (fun y hy z hz=>by rw[alx.1 hz];have:=h3 y hy;omega)
  simpa using this
end
end Go.Md
namespace Go.Md
open Go.Dn
theorem ae3 {α:Type} (A B:List α) (x y:α):(A++x::B).set A.length y=A++y::B:=by
 induction A with
 | nil=>rfl
 | cons a A ih=>simp only[aky,ak3,alF,ih]
section
variable {k:Option Nat→Int} {ar:List aV} {ok:Option Nat→Prop}
end
end Go.Md
namespace Go.Md
open Go.Dn
theorem bsearch {X β:Type} {f:X→(X→Option β)→Option β} (mk:Nat→Nat→X) (fin:Nat→Option β) (P:Nat→Prop) [DecidablePred P] (lo hi:Nat)
 (hstep:∀ i j again,lo≤i→i<j→j≤hi→f (mk i j) again=if P ((i+j) / 2) then again (mk ((i+j) / 2+1) j) else again (mk i ((i+j) / 2)))
 (hend:∀ i again,lo≤i→i≤hi→f (mk i i) again=fin i) (mono:∀ s t,lo≤s→s≤t→t<hi→P t→P s):
 ∀ n i j,j - i<n→lo≤i→i≤j→j≤hi→(∀ t,lo≤t→t<i→P t)→(∀ t,j≤t→t<hi→¬P t)→∃ r,iter n (mk i j) f=fin r∧lo≤r∧r≤hi∧(∀ t,lo≤t→t<r→P t)∧(∀ t,r≤t→t<hi→¬P t)
 | 0,i,j,hn,_,_,_,_,_=>by omega
 | n+1,i,j,hn,h1,h2,h3,h4,h5=>by
  rw[dx]
  by_cases hij:i=j
  ·subst hij
   exact⟨i,hend i _ h1 h3,h1,h3,h4,h5⟩
  ·rw[hstep i j _ h1 (by omega) h3]
   by_cases hP:P ((i+j) / 2)
   ·rw[amQ hP]
    exact bsearch mk fin P lo hi hstep hend mono n _ _ (by omega) (by omega) (by omega) h3 (fun t ht1 ht2=>mono t _ ht1 (show t≤(i+j) / 2 by omega) (by omega) hP) h5
   ·rw[amP hP]
    exact bsearch mk fin P lo hi hstep hend mono n _ _ (by omega) h1 (by omega) (by omega) h4 (fun t ht1 ht2 hPt=>hP (mono _ t (by omega) ht1 ht2 hPt))
theorem SQ (i j:Nat) (h:i+j<4000000000000000000):w64 (Int.fdiv (b8 (w64 ((i:Int)+(j:Int)))) (2 ^ 1))=(((i+j) / 2:Nat):Int):=by
 rw[az (n:=(i:Int)+(j:Int)) (by omega) (by omega),eD (by omega) (by omega),aj5 _ (by omega),az (by omega) (by omega)]
 omega
theorem aiq {α:Type} (X L R Y:List α) {i:Nat} (h:i<L.length):(X++L++R++Y)[X.length+i]? =some L[i]:=by
 rw[akw,akw,akM (by omega),akL (by omega),show X.length+i - X.length=i by omega,akQ h]
theorem afu {α:Type} (X L R Y:List α) {i:Nat} (h:i<R.length):(X++L++R++Y)[X.length+L.length+i]? =some R[i]:=by
 rw[akw,akw,akM (by omega),akM (by omega),akL (by omega),show X.length+L.length+i - X.length - L.length=i by omega,akQ h]
theorem Srt.get {α:Type} {k:α→Int} {l:List α} (h:Srt k l) {i j:Nat} (hij:i≤j) (hj:j<l.length):k (l[i]'(by omega))≤k l[j]:=by
 rcases Nat.lt_or_eq_of_le hij with h1 | h1
 ·exact alC.1 h i j (by omega) hj h1
 ·subst h1;exact Int.le_refl _
section
variable {k:Option Nat→Int} {ar:List aV} {ok:Option Nat→Prop}
end
end Go.Md
namespace Go.Md
open Go.Dn
section
variable {k:Option Nat→Int} {ar:List aV} {ok:Option Nat→Prop}
set_option maxHeartbeats 4000000 in
end
end Go.Md
namespace Go.Md
open Go.Dn
def ChS {α:Type} (k:α→Int) (bs:Nat) (l:List α):Prop:=∀ j:Nat,Srt k ((l.drop (j*bs)).take bs)
theorem ChS.nil {α:Type} (k:α→Int) (bs:Nat):ChS k bs []:=fun _=>by simp[Srt]
theorem ChS.snoc {α:Type} {k:α→Int} {bs:Nat} {A S:List α} {j:Nat} (h:ChS k bs A) (hA:A.length=j*bs) (hS:Srt k S) (hl:S.length≤bs):ChS k bs (A++S):=by
 intro i
 rcases al7 i j with hij | hij | hij
 ·have h1:(i+1)*bs≤j*bs:=amd _ hij
  rw[alQ,amf] at h1
  rw[List.drop_append_of_le_length (by omega),List.take_append_of_le_length (by rw[List.length_drop];omega)]
  exact h i
 ·subst hij
  rw[← hA,akD,alN hl]
  exact hS
 ·have h1:(j+1)*bs≤i*bs:=amd _ hij
  rw[alQ,amf] at h1
  rw[akE (by rw[ak2];omega)]
  simp[Srt]
theorem ChS.drop {α:Type} {k:α→Int} {bs:Nat} {l:List α} (h:ChS k bs l) (i:Nat):ChS k bs (l.drop (i*bs)):=by
 intro j
 rw[akB, ← alQ]
 exact h (i+j)
theorem Srt.take {α:Type} {k:α→Int} {l:List α} (h:Srt k l) (n:Nat):Srt k (l.take n):=by
 rw[← alL n l] at h;exact h.left
section
variable {k:Option Nat→Int} {ar:List aV} {ok:Option Nat→Prop}
end
end Go.Md
namespace Go.Md
open Go.Dn
def cT {α:Type} (g:Nat→α→Int):Nat→List α→Int
 | _,[]=>0
 | i,y::r=>if g i y=0 then cT g (i+1) r else g i y
theorem uV {α:Type} {g:Nat→α→Int}:∀ {l:List α} {i:Nat},cT g i l=0→∀ j y,l[j]? =some y→g (i+j) y=0
 | [],_,_,_,_,h=>by simp at h
 | y::r,i,h,j,z,hz=>by
  simp only[cT] at h
  by_cases hg:g i y=0
  ·rw[amQ hg] at h
   cases j with
   | zero=>simp at hz;subst hz;exact hg
   | succ j=>have:=uV h j z (by simpa using hz);rw[show i+(j+1)=i+1+j by omega];exact this
  ·rw[amP hg] at h;exact absurd h hg
theorem La {X α:Type} {γ:Type} {f:X→(X→Option ((Int×Unit) ⊕ γ))→Option ((Int×Unit) ⊕ γ)} (mk:Nat→X) (l:List α) (g:Nat→α→Int) (u:γ)
 (hstep:∀ i y again,l[i]? =some y→f (mk i) again=if g i y=0 then again (mk (i+1)) else some (Sum.inl (g i y,()))) (hend:∀ again,f (mk l.length) again=some (Sum.inr u)):
 ∀ (r:List α) (i n:Nat),l.drop i=r→i≤l.length→r.length<n→iter n (mk i) f=if cT g i r=0 then some (Sum.inr u) else some (Sum.inl (cT g i r,()))
 | _,_,0,_,_,hn=>absurd hn (ame _)
 | [],i,n+1,hd,hi,_=>by
  have:i=l.length:=by
   have:=congrArg List.length hd
   simp at this;omega
  subst this
  rw[dx,hend];rfl
 | y::r,i,n+1,hd,hi,hn=>by
  have hy:l[i]? =some y:=by
   have:=congrArg (·[0]?) hd
   simpa [akP] using this
  have hr:l.drop (i+1)=r:=by
   have:=congrArg List.tail hd
   simpa [alJ] using this
  have hi':i<l.length:=(akS.1 hy).1
  rw[dx,hstep i y _ hy]
  by_cases hg:g i y=0
  ·have e:cT g i (y::r)=cT g (i+1) r:=by simp[cT,hg]
   rw[amQ hg,e]
   exact La mk l g u hstep hend r (i+1) n hr hi' (by simp at hn;omega)
  ·have e:cT g i (y::r)=g i y:=by simp[cT,hg]
   rw[amP hg,e,amP hg]
theorem kY (a b c:Int):cD a b c=some (decide (a<b∨c<a),()):=by
 unfold cD
 by_cases h:a<b
 ·rw[aD h];simp[h]
 ·rw[aE h];simp[h]
theorem abW (n:Int):CY n=some (decide (1≤n∧n≤3652059),()):=by
 unfold CY
 rw[kY,amq]
 congr 2
 simp only[← decide_not]
 congr 1
 simp only[amL];omega
def iC (s:Bys):Bool:=((gd s).map (·.1)).getD false
theorem qD (s:Bys):gd s=some (iC s,()):=by
 have:∃ b,gd s=some (b,()):=by
  unfold gd
  by_cases h1:(s.length:Int)<1
  ·rw[aD h1];exact⟨_,rfl⟩
  ·rw[aE h1]
   by_cases h2:(s.length:Int)>40
   ·rw[aD h2];exact⟨_,rfl⟩
   ·rw[aE h2]
    have hs:HW s 0=some (s[0]'(by omega)):=by simp[HW]
    rw[hs]
    simp only[amq]
    have ht:nO s [97,98,99,100,101,102,103,104,105,106,107,108,109,110,111,112,113,114,115,116,117,118,119,120,121,122,48,49,50,51,52,53,54,55,56,57,45]=some (Lib.trimS s [97,98,99,100,101,102,103,104,105,106,107,108,109,110,111,112,113,114,115,116,117,118,119,120,121,122,48,49,50,51,52,53,54,55,56,57,45],()):=by
     unfold nO
     rw[show (decide (s.length≤9223372036854775807))=true by simp;omega]
     rfl
    rw[ht]
    simp only[amq]
    generalize (decide ((((s[0]'(by omega)).toNat:Int))<97))=b1
    generalize (decide ((((s[0]'(by omega)).toNat:Int))>122))=b2
    cases b1<;>cases b2<;>exact⟨_,rfl⟩
 obtain⟨b,hb⟩:=this
 unfold iC
 rw[hb];rfl
theorem LL (d:aj):cl d=some (if -1000000000000000≤d.1∧d.1≤1000000000000000∧0≤d.2∧d.2≤9 then 0 else 1,()):=by
 unfold cl
 rw[kY,amq,kY]
 simp only[amq]
 by_cases h1:d.1< -1000000000000000∨1000000000000000<d.1
 ·rw[aD h1,amP (by omega)]
 ·rw[aE h1]
  by_cases h2:d.2<0∨9<d.2
  ·rw[aD h2,amP (by omega)]
  ·rw[aE h2,amQ (by omega)]
theorem aik {n:Nat} (h:n≤18):(10:Int) ^ n≤1000000000000000000:=by
 have:=amh (n:=10) (by omega) h
 have h2:=Int.ofNat_le.2 this
 simpa using h2
theorem xO (n:Nat):(0:Int)<10 ^ n:=Jk (by omega) n
theorem PE (n:Int) (h0:0≤n) (h1:n≤18):yX n=some (10 ^ n.toNat,()):=by
 obtain⟨m,rfl⟩:∃ m:Nat,n=m:=⟨n.toNat,by omega⟩
 unfold yX
 have:iter (X:=A9) (β:=BT) (Int.natAbs (1:Int)+(Int.natAbs (m:Int)+(Int.natAbs (0:Int)+2))) (1,(m:Int),0,()) Bc=some (Sum.inr (10 ^ m,())):=by
  refine aZ (Inv:=fun i x=>x=(10 ^ i,(m:Int),(i:Int),())) m (fun r=>r=some (Sum.inr (10 ^ m,()))) ?_ ?_ _ 0 _ (by simp) (by omega) (by omega)
  ·rintro i _ again hi rfl ih
   unfold Bc
   dsimp only
   have h10:=aik (n:=i+1) (by omega)
   have hp:=xO (i+1)
   rw[akj] at h10 hp
   rw[aD (by omega),az (by omega) (by omega),az (by omega) (by omega)]
   exact ih _ (by rw[akj];rfl)
  ·rintro _ again rfl
   unfold Bc
   dsimp only
   rw[aE (by omega)]
 rw[this,aF]
 simp
theorem Wp (d:aj) (most:Int) (h0:0≤d.2) (h1:d.2≤9) (hm0:0≤most) (hm1:most≤1000000000):fJ d most=some (decide (-(most*10 ^ d.2.toNat)≤d.1∧d.1≤most*10 ^ d.2.toNat),()):=by
 unfold fJ
 rw[PE _ h0 (by omega),amq]
 dsimp only
 have hp:=xO d.2.toNat
 have hq:(10:Int) ^ d.2.toNat≤1000000000:=by
  have:=amh (n:=10) (by omega) (show d.2.toNat≤9 by omega)
  have h2:=Int.ofNat_le.2 this
  simpa using h2
 have h3:most*10 ^ d.2.toNat≤1000000000*1000000000:=by
  have a1:most*10 ^ d.2.toNat≤1000000000*10 ^ d.2.toNat:=aj9 hm1 (by omega)
  omega
 have h4:0≤most*10 ^ d.2.toNat:=aka hm0 (by omega)
 rw[az (n:=most*10 ^ d.2.toNat) (by omega) (by omega),az (by omega) (by omega),kY,amq]
 congr 2
 simp only[← decide_not]
 congr 1
 simp only[amL];omega
def KT (d:aj):Prop:=0<d.1∧0≤d.2∧d.2≤4∧d.1≤1000000000*10 ^ d.2.toNat
instance (d:aj):Decidable (KT d):=by unfold KT;exact inferInstance
structure aja (d:c9):Prop where
 day0:1≤d.2.1
 day1:d.2.1≤3652059
 mon:KT d.2.2.1
 days0:0≤d.2.2.2.1
 days1:d.2.2.2.1≤10000
 with0:0≤d.2.2.2.2.1
 with1:d.2.2.2.2.1≤d.2.2.2.1
 disc0:0≤d.2.2.2.2.2
 disc1:d.2.2.2.2.2≤1000
structure ajy (p:cO):Prop where
 day0:1≤p.1
 day1:p.1≤3652059
 mon:KT p.2.1
 names:p.2.2.length≤100
end Go.Md
namespace Go.Md
open Go.Dn
def SF (d:aj):Int:=d.1*10 ^ (4 - d.2).toNat
theorem KT.SF {d:aj} (h:KT d):0<SF d∧SF d≤10000000000000:=by
 obtain⟨h1,h2,h3,h4⟩:=h
 unfold Md.SF
 have hp:=xO (4 - d.2).toNat
 refine⟨Int.mul_pos h1 hp, ?_⟩
 have a1:d.1*10 ^ (4 - d.2).toNat≤1000000000*10 ^ d.2.toNat*10 ^ (4 - d.2).toNat:=aj9 h4 (by omega)
 rw[aj7, ← aki,show d.2.toNat+(4 - d.2).toNat=4 by omega] at a1
 omega
abbrev Bd:=aV
def af5 (x:Bd):Int:=x.2.1
def agd (x:Bd):Int:=x.2.2.1
def taken (x:Bd):Int:=x.2.2.2.1
def done (x:Bd):Int:=x.2.2.2.2
structure ack (x:Bd):Prop where
 d:aja x.1
 owes0:0≤af5 x
 paid0:0≤agd x
 taken0:0≤taken x
 sum:af5 x+agd x+taken x=SF x.1.2.2.1
 none:done x=0→taken x=0
 done0:done x=0∨x.1.2.1≤done x
 iff:af5 x=0↔done x≠0
theorem ack.le {x:Bd} (h:ack x):af5 x≤10000000000000∧agd x≤10000000000000∧taken x≤10000000000000:=by
 have:=h.d.mon.SF;have:=h.sum;have:=h.owes0;have:=h.paid0;have:=h.taken0;omega
section
variable {ar:List Bd} {h:Nat} {x:Bd}
theorem aiC {α:Type} {l:List α} {i:Nat} {x y:α} (h:l[i]? =some x):(l.set i y)[i]? =some y:=akY (akS.1 h).1
end
end Go.Md
namespace Go.Md
open Go.Dn
structure oq (ds:List c9) (ar:List Bd):Prop where
 ds:ar.map (·.1)=ds
 ok:∀ x∈ar,ack x
theorem oq.len {ds:List c9} {ar:List Bd} (h:oq ds ar):ar.length=ds.length:=by rw[← h.ds];simp
theorem oq.set {ds:List c9} {ar:List Bd} (h:oq ds ar) {i:Nat} {x y:Bd} (hx:ar[i]? =some x) (hy:ack y) (he:y.1=x.1):oq ds (ar.set i y):=by
 refine⟨?_,fun z hz=> ?_⟩
 ·rw[List.map_set,he, ← h.ds]
  apply akH
  intro j
  by_cases hj:i=j
  ·subst hj
   rw[akY (by simp;exact (akS.1 hx).1),akT,hx];rfl
  ·rw[akX hj]
 ·rcases alu hz with hz | rfl
  ·exact h.ok z hz
  ·exact hy
theorem oq.get {ds:List c9} {ar:List Bd} (h:oq ds ar) {i:Nat} {x:Bd} (hx:ar[i]? =some x):ack x:=h.ok x (alr hx)
def aiE (ar:List Bd):Int:=(ar.map agd).sum
structure ajz (ds:List c9) (L T:Int) (s:Int×List Bd):Prop where
 ar:oq ds s.2
 l0:0≤s.1
 l1:s.1≤L
 tot:s.1+aiE s.2=T
theorem GO {k v:Ty} (p:k.den×v.den) (m:List (k.den×v.den)) (n:k.den):jP (p::m) n=bif k.beq n p.1 then some p.2 else jP m n:=by
 unfold jP
 rw[List.find?_cons]
 cases k.beq n p.1<;>rfl
theorem ag2 {k v:Ty} (p:k.den×v.den) (m:List (k.den×v.den)) (x:k.den) (y:v.den):vi (p::m) x y=bif k.beq x p.1 then (x,y)::m else p::vi m x y:=rfl
theorem Y6 {k v:Ty} (hb:∀ a b:k.den,k.beq a b=true↔a=b) (m:List (k.den×v.den)) (x:k.den) (y:v.den) (n:k.den):jP (vi m x y) n=bif k.beq x n then some y else jP m n:=by
 have hcomm:∀ a b:k.den,k.beq a b=k.beq b a:=fun a b=>by
  rw[ajO,hb,hb];exact eq_comm
 induction m with
 | nil=>
  change jP [(x,y)] n=_
  rw[GO,hcomm n x]
 | cons p m ih=>
  rw[ag2]
  cases hp:k.beq x p.1 with
  | true=>
   rw[amE,GO,GO,hcomm n p.1, ← (hb _ _).1 hp,hcomm n x]
   cases k.beq x n<;>rfl
  | false=>
   rw[amD,GO,GO,ih]
   cases hn:k.beq n p.1 with
   | true=>
    have:k.beq x n=false:=by
     cases h:k.beq x n with
     | false=>rfl
     | true=>rw[(hb _ _).1 h,hn] at hp;cases hp
    rw[this];rfl
   | false=>rfl
theorem ae0 (a b:(Ty.str).den):Ty.beq .str a b=true↔a=b:=by
 show ((show Bys from a)==(show Bys from b))=true↔_
 exact amA
theorem agH {β:Type} (a:Option β):both a a=a:=Lm a
end Go.Md
namespace Go.Md
open Go.Dn
theorem M8 (z:Int) (p:Int):rP (W z) p=some (if z.natAbs≤1000000000000000 then ((z,p),0,()) else ((0,0),1,())):=by
 unfold rP
 rw[uK z 1000000000000000 (by omega) (by omega),amq]
 by_cases h:(z.natAbs:Int)≤1000000000000000
 ·rw[amQ h,amQ (by omega)];rfl
 ·rw[amP h,amP (by omega)];rfl
def eg (d:aj):Int:=d.1*10 ^ (9 - d.2).toNat
def aY (d:aj):Prop:=d.1.natAbs≤1000000000000000∧0≤d.2∧d.2≤9
theorem KT.dec {d:aj} (h:KT d):aY d:=by
 obtain⟨h1,h2,h3,h4⟩:=h
 have hq:(10:Int) ^ d.2.toNat≤10000:=by
  have:=amh (n:=10) (by omega) (show d.2.toNat≤4 by omega)
  have h2:=Int.ofNat_le.2 this
  simpa using h2
 exact⟨by omega,h2,by omega⟩
theorem Yq {z:Int} (h:z.natAbs<1000000000000000000000000000000000000000000000000000000000000):(dg6 z.natAbs).length≤10:=afl (k:=10) (by simpa using h)
theorem Un (n:Nat) (hn:n≤40):xH (n:Int)=some (N (10 ^ n),()):=by
 unfold xH
 rw[iy 1 (by omega) (by omega),amq]
 dsimp only
 have hb:∀ i:Nat,i≤41→(dg6 ((10:Int) ^ i).natAbs).length≤10:=by
  intro i hi
  refine Yq ?_
  have h1:((10:Int) ^ i).natAbs=10 ^ i:=by rw[akf];rfl
  have h2:=amh (n:=10) (by omega) hi
  omega
 have loop:iter (X:=Gl) (β:=Gf) (Int.natAbs (n:Int)+(Int.natAbs (0:Int)+(List.length ([]:List Int)+(List.length (N 1).2+2)))) ((n:Int),0,false,[],(N 1).1,(N 1).2,()) FQ=some (Sum.inr (false,[],(N (10 ^ n)).1,(N (10 ^ n)).2,())):=by
  refine aZ (Inv:=fun i x=>x=((n:Int),(i:Int),false,[],(N (10 ^ i)).1,(N (10 ^ i)).2,())) n (fun r=>r=some (Sum.inr (false,[],(N (10 ^ n)).1,(N (10 ^ n)).2,()))) ?_ ?_ _ 0 _ (by simp) (by omega) (by omega)
  ·rintro i _ again hi rfl ih
   unfold FQ
   dsimp only
   rw[aD (by omega),iy 10 (by omega) (by omega),amq]
   change (Option.bind (iA (N (10 ^ i)) (N 10)) _)=_
   have h10:(dg6 (10:Int).natAbs).length≤10:=Yq (by decide)
   rw[gH _ _ (by have:=hb i (by omega);omega) (by omega),amq]
   dsimp only
   rw[az (by omega) (by omega)]
   exact ih _ (by rw[akj];rfl)
  ·rintro _ again rfl
   unfold FQ
   dsimp only
   rw[aE (by omega)]
 rw[loop,aF]
theorem adh (d:aj) (hd:aY d):Lr d 9=some (N (eg d),()):=by
 obtain⟨h1,h2,h3⟩:=hd
 unfold Lr
 rw[iy _ (by omega) (by omega),amq,az (by omega) (by omega)]
 dsimp only
 obtain⟨m,hm⟩:∃ m:Nat,9 - d.2=m:=⟨(9 - d.2).toNat,by omega⟩
 rw[hm,Un m (by omega),amq]
 dsimp only
 have hl1:(dg6 d.1.natAbs).length≤10:=Yq (by omega)
 have hl2:(dg6 ((10:Int) ^ m).natAbs).length≤10:=by
  refine Yq ?_
  have h1:((10:Int) ^ m).natAbs=10 ^ m:=by rw[akf];rfl
  have h2:=amh (n:=10) (by omega) (show m≤9 by omega)
  omega
 rw[gH _ _ (by omega) (by omega),amq]
 unfold eg
 rw[hm];rfl
theorem VU {d:aj} (hd:aY d):(eg d).natAbs≤1000000000000000000000000:=by
 obtain⟨h1,h2,h3⟩:=hd
 unfold eg
 rw[akd,akf]
 have h4:=amh (n:=10) (by omega) (show (9 - d.2).toNat≤9 by omega)
 have h5:d.1.natAbs*(10:Int).natAbs ^ (9 - d.2).toNat≤1000000000000000*1000000000:=Nat.mul_le_mul h1 (by simpa using h4)
 omega
end Go.Md
namespace Go.Md
open Go.Dn
end Go.Md
namespace Go.Md
open Go.Dn
end Go.Md
namespace Go.Md
open Go.Dn
theorem V9 {X α B:Type} {f:X→(X→Option B)→Option B} (mk:Nat→X) (l:List α) (g:Nat→α→Int) (fin:Option B) (out:Int→Option B)
 (hstep:∀ i y again,l[i]? =some y→f (mk i) again=if g i y=0 then again (mk (i+1)) else out (g i y)) (hend:∀ again,f (mk l.length) again=fin):
 ∀ (r:List α) (i n:Nat),l.drop i=r→i≤l.length→r.length<n→iter n (mk i) f=if cT g i r=0 then fin else out (cT g i r)
 | _,_,0,_,_,hn=>absurd hn (ame _)
 | [],i,n+1,hd,hi,_=>by
  have:i=l.length:=by
   have:=congrArg List.length hd
   simp at this;omega
  subst this
  rw[dx,hend];rfl
 | y::r,i,n+1,hd,hi,hn=>by
  have hy:l[i]? =some y:=by
   have:=congrArg (·[0]?) hd
   simpa [akP] using this
  have hr:l.drop (i+1)=r:=by
   have:=congrArg List.tail hd
   simpa [alJ] using this
  have hi':i<l.length:=(akS.1 hy).1
  rw[dx,hstep i y _ hy]
  by_cases hg:g i y=0
  ·have e:cT g i (y::r)=cT g (i+1) r:=by simp[cT,hg]
   rw[amQ hg,e]
   exact V9 mk l g fin out hstep hend r (i+1) n hr hi' (by simp at hn;omega)
  ·have e:cT g i (y::r)=g i y:=by simp[cT,hg]
   rw[amP hg,e,amP hg]
end Go.Md
namespace Go.Md
open Go.Dn
def abG (D:Int) (S:Nat→Prop) (ar:List Bd):Prop:=∀ i x,S i→ar[i]? =some x→done x=0∨D<done x
theorem abG.set {D:Int} {S:Nat→Prop} {ar:List Bd} {h:Nat} {x y:Bd} (hq:abG D S ar) (hx:ar[h]? =some x) (hy:(done x=0∨D<done x)→(done y=0∨D<done y)):abG D S (ar.set h y):=by
 intro i z hi hz
 by_cases e:h=i
 ·subst e
  rw[aiC hx] at hz
  cases hz
  exact hy (hq h x hi hx)
 ·rw[akX e] at hz
  exact hq i z hi hz
end Go.Md
namespace Go.Md
open Go.Dn
def nmC:Bys:=[97,98,99,100,101,102,103,104,105,106,107,108,109,110,111,112,113,114,115,116,117,118,119,120,121,122,48,49,50,51,52,53,54,55,56,57,45]
def nmB (c:UInt8):Bool:=nmC.contains c
set_option maxRecDepth 100000 in
theorem aiF:∀ n:Fin 256,nmB (UInt8.ofNat n.1)=((decide (97≤n.1)&&decide (n.1≤122))||((decide (48≤n.1)&&decide (n.1≤57))||decide (n.1=45))):=by decide
theorem ajd (c:UInt8):nmB c=((decide (97≤c.toNat)&&decide (c.toNat≤122))||((decide (48≤c.toNat)&&decide (c.toNat≤57))||decide (c.toNat=45))):=by
 have:=aiF ⟨c.toNat,UInt8.toNat_lt c⟩
 simpa using this
theorem Li {α:Type} {p:α→Bool}:∀ {l:List α},l.dropWhile p=[]↔∀ x∈l,p x=true
 | []=>by simp
 | y::r=>by
  cases hp:p y with
  | true=>rw[List.dropWhile_cons_of_pos hp,Li];simp[hp]
  | false=>rw[List.dropWhile_cons_of_neg (by simp[hp])];simp[hp]
theorem WL {α:Type} {p:α→Bool} {y:α} {r:List α}:∀ {l:List α},l.dropWhile p=y::r→p y=false
 | [],h=>by simp at h
 | z::t,h=>by
  cases hp:p z with
  | true=>rw[List.dropWhile_cons_of_pos hp] at h;exact WL h
  | false=>rw[List.dropWhile_cons_of_neg (by simp[hp])] at h;cases h;exact hp
theorem ahb (s c:Bys):(Lib.trimS s c==[])=s.all (c.contains ·):=by
 rw[ajO]
 simp only[amA,akt]
 unfold Lib.trimS Lib.trimLeftS Lib.trimRightS
 constructor
 ·intro h
  rw[Li] at h
  cases hd:s.reverse.dropWhile (c.contains ·) with
  | nil=>
   rw[Li] at hd
   intro x hx
   exact hd x (by simpa using hx)
  | cons y r=>
   exfalso
   have h1:=h y (by rw[hd];simp)
   have h2:=WL hd
   rw[h1] at h2
   cases h2
 ·intro h
  have:s.reverse.dropWhile (c.contains ·)=[]:=Li.2 fun x hx=>h x (by simpa using hx)
  rw[this];rfl
theorem YZ {α:Type} (p:α→Bool) (e:Int) (he:e≠0):∀ (l:List α) (i:Nat),cT (fun _ c=>if p c=true then 0 else e) i l=if l.all p=true then 0 else e
 | [],i=>by simp[cT]
 | y::r,i=>by
  have ih:=YZ p e he r (i+1)
  cases hp:p y with
  | true=>simp only[cT,hp,amR,aks,aj0];exact ih
  | false=>simp[cT,hp,he]
theorem aa6 {s:Bys} {i:Nat} {c:UInt8} (h:s[i]? =some c):HW s (i:Int)=some c:=by simp[HW,h]
theorem yQ (s:Bys):mu s=some (iC s,()):=by
 unfold mu iC gd Sc
 by_cases h0:s=[]
 ·subst h0;rfl
 have hb:(s==[])=false:=by simpa using h0
 have hl:0<s.length:=List.length_pos_iff.2 h0
 rw[hb,amD,aE (show ¬((s.length:Int)<1) by omega)]
 by_cases h2:(s.length:Int)>40
 ·rw[aD h2,aD h2];rfl
 rw[aE h2,aE h2]
 have hs:HW s 0=some (s[0]'hl):=aa6 (i:=0) (aC hl)
 simp only[hs,amq]
 by_cases h3:(((s[0]'hl).toNat:Int))<97
 ·simp only[aD h3];rfl
 simp only[aE h3]
 by_cases h4:(((s[0]'hl).toNat:Int))>122
 ·simp only[aD h4];rfl
 simp only[aE h4]
 have ht:nO s [97,98,99,100,101,102,103,104,105,106,107,108,109,110,111,112,113,114,115,116,117,118,119,120,121,122,48,49,50,51,52,53,54,55,56,57,45]=some (Lib.trimS s nmC,()):=by
  unfold nO
  rw[show (decide (s.length≤9223372036854775807))=true by simp;omega]
  rfl
 rw[ht,amq]
 have loop:=V9 (f:=DN) (fun i=>(s,(s.length:Int),(i:Int),())) s (fun _ c=>if nmB c=true then 0 else 1) (some (Sum.inr ())) (fun _=>some (Sum.inl (false,())))
  (fun i c again hi=>by
    have hil:=(akS.1 hi).1
    unfold DN
    dsimp only
    rw[aD (show (i:Int)<(s.length:Int) by omega),aa6 hi,amq,ajd c,az (by omega) (by omega)]
    by_cases a1:(c.toNat:Int)<97<;>by_cases a2:(c.toNat:Int)>122<;>by_cases a3:(c.toNat:Int)<48<;>by_cases a4:(c.toNat:Int)>57<;>by_cases a5:(c.toNat:Int)=45<;>
      first
      | omega
      | (have b1:(97≤c.toNat)=¬ ((c.toNat:Int)<97):=by simp only[amL];omega
         have b2:(c.toNat≤122)=¬ ((c.toNat:Int)>122):=by simp only[amL];omega
         have b3:(48≤c.toNat)=¬ ((c.toNat:Int)<48):=by simp only[amL];omega
         have b4:(c.toNat≤57)=¬ ((c.toNat:Int)>57):=by simp only[amL];omega
         have b5:(c.toNat=45)=((c.toNat:Int)=45):=by simp only[amL];omega
         simp only[b1,b2,b3,b4,b5,a1,a2,a3,a4,a5,bne,amK,amJ,not_true_eq_false,not_false_eq_true,ajN,aj0,ajL,Bool.false_and,Bool.or_true,Bool.true_or,ajZ,ajR,amE,amD,amR,ajP,amO,Int.one_ne_zero,amB,ajW]
         first | rfl | (have a6:((c.toNat:Int)==45)=false:=by simp only[amz,ne_eq];exact a5
                        rw[a6];rfl)))
  (fun again=>by
    unfold DN
    dsimp only
    rw[aE (by omega)])
  s 0 (List.length s+(Int.natAbs ((List.length s:Int))+(Int.natAbs (0:Int)+2))) rfl (amm _) (by omega)
 rw[show ((0:Nat):Int)=0 from rfl] at loop
 rw[loop,YZ nmB 1 (by omega),ahb]
 have e:(s.all fun x=>nmC.contains x)=s.all nmB:=rfl
 rw[e]
 cases s.all nmB<;>rfl
theorem x2 (a b c:Int):yL a b c=some (decide (b≤a∧a≤c),()):=by
 unfold yL
 by_cases h:b≤a
 ·rw[aD h];simp[h]
 ·rw[aE h];simp[h]
theorem Bt (a b c:Int):lP a b c=some (decide (b≤a∧a≤c),()):=x2 a b c
theorem aeg (n:Int):NQ n=some (decide (1≤n∧n≤3652059),()):=by
 unfold NQ Ve
 rw[x2];rfl
theorem GH (d:aj):di d=some (if -1000000000000000≤d.1∧d.1≤1000000000000000∧0≤d.2∧d.2≤9 then 0 else 1,()):=by
 unfold di
 rw[x2,amq]
 by_cases h1: -1000000000000000≤d.1∧d.1≤1000000000000000
 ·rw[amH h1]
  simp only[ajW,amD]
  rw[x2,amq]
  by_cases h2:0≤d.2∧d.2≤9
  ·rw[amH h2,amQ ⟨h1.1,h1.2,h2⟩];rfl
  ·rw[amG h2,amP (fun h=>h2 h.2.2)];rfl
 ·rw[amG h1,amP (fun h=>h1 ⟨h.1,h.2.1⟩)];rfl
theorem OM {a b:aj} (ha:aY a) (hb:aY b):yZ a b=some ((eg a - eg b).sign,()):=by
 unfold yZ
 have l1:=VU ha
 have l2:=VU hb
 have m1:=Yq (z:=eg a) (by omega)
 have m2:=Yq (z:=eg b) (by omega)
 rw[adh a ha,amq,adh b hb,amq,R9 _ _ (by omega) (by omega)]
 rfl
instance (d:aj):Decidable (aY d):=by unfold aY;infer_instance
theorem adM (d:aj) (lo hi pl:Int) (hlo:lo.natAbs≤1000000000000000) (hhi:hi.natAbs≤1000000000000000):m6 d lo hi pl=some (decide (aY d∧d.2≤pl∧lo*10 ^ 9≤eg d∧eg d≤hi*10 ^ 9),()):=by
 unfold m6
 rw[GH,amq]
 have hd:aY d↔(-1000000000000000≤d.1∧d.1≤1000000000000000∧0≤d.2∧d.2≤9):=by unfold aY;omega
 have z:∀ n:Int,n.natAbs≤1000000000000000→aY (n,0)∧eg (n,0)=n*10 ^ 9:=fun n hn=>⟨⟨hn,by simp,by simp⟩,by simp[eg]⟩
 by_cases h1:aY d
 ·rw[amQ (hd.1 h1)]
  dsimp only
  rw[show ((0:Int)==0)=true from rfl,amE]
  by_cases h2:d.2≤pl
  ·rw[aD h2,OM h1 (z lo hlo).1,amq,(z lo hlo).2]
   dsimp only
   by_cases h3:lo*10 ^ 9≤eg d
   ·rw[aD (by rw[ge_iff_le,akn];omega),OM h1 (z hi hhi).1,amq,(z hi hhi).2]
    have:((eg d - hi*10 ^ 9).sign≤0)=(aY d∧d.2≤pl∧lo*10 ^ 9≤eg d∧eg d≤hi*10 ^ 9):=by
     rw[Int.sign_nonpos_iff,amL]
     constructor
     ·intro h;exact⟨h1,h2,h3,by omega⟩
     ·intro h;omega
    simp only[this]
   ·rw[aE (by rw[ge_iff_le,akn];omega),amG (fun h=>h3 h.2.2.1)]
  ·rw[aE h2,amG (fun h=>h2 h.2.1)]
 ·rw[amP (fun h=>h1 (hd.2 h)),amG (p:=aY d∧d.2≤pl∧lo*10 ^ 9≤eg d∧eg d≤hi*10 ^ 9) (fun h=>h1 h.1)];rfl
end Go.Md
