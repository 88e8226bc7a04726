/-
  Plain facts, small ones. No condition.
-/
import Derived.Test.YtfghdjdpccoleabGreatDoorYp
import Derived.Test.YtfghdjdpccoleabGreatDoorYm
set_option linter.all false
namespace Go.Md
open Go.Dn
structure bK {α:Type} (k:α->Int) (l l':List α):Prop where
 perm:l.Perm l'
 keys:∀ v,l'.filter (fun x=>k x==v)=l.filter (fun x=>k x==v)
theorem bK.refl {α:Type} (k:α->Int) (l:List α):bK k l l:=⟨List.Perm.refl _,fun _=>rfl⟩
theorem bK.trans {α:Type} {k:α->Int} {a b c:List α} (h:bK k a b) (g:bK k b c):bK k a c:=⟨h.perm.trans g.perm,fun v=>(g.keys v).trans (h.keys v)⟩
theorem bK.append {α:Type} {k:α->Int} {a b c d:List α} (h:bK k a b) (g:bK k c d):bK k (a++c) (b++d):=
 ⟨h.perm.append g.perm,fun v=>by rw[agl,agl,h.keys,g.keys]⟩
theorem bK.mem {α:Type} {k:α->Int} {a b:List α} (h:bK k a b) {x:α}:x∈b↔x∈a:=h.perm.mem_iff.symm
theorem bK.length {α:Type} {k:α->Int} {a b:List α} (h:bK k a b):b.length=a.length:=h.perm.length_eq.symm
theorem bK.swap {α:Type} {k:α->Int} {u v:List α} (h:∀ x∈u,∀ y∈v,k x≠k y):bK k (u++v) (v++u):=by
 refine⟨List.perm_append_comm,fun w=> ?_⟩
 rw[agl,agl]
 by_cases hu:∃ x∈u,k x=w
 ·obtain⟨x,hx,rfl⟩:=hu
  have:v.filter (fun y=>k y==k x)=[]:=by
   rw[List.filter_eq_nil_iff]
   intro y hy
   simpa using fun e=>h x hx y hy e.symm
  rw[this];simp
 ·have:u.filter (fun y=>k y==w)=[]:=by
   rw[List.filter_eq_nil_iff]
   intro y hy
   simpa using fun e=>hu ⟨y,hy,e⟩
  rw[this];simp
def Srt {α:Type} (k:α->Int) (l:List α):Prop:=l.Pairwise fun x y=>k x<=k y
theorem Srt.append {α:Type} {k:α->Int} {a b:List α} (ha:Srt k a) (hb:Srt k b) (h:∀ x∈a,∀ y∈b,k x<=k y):Srt k (a++b):=ahj.2 ⟨ha,hb,h⟩
theorem Srt.left {α:Type} {k:α->Int} {a b:List α} (h:Srt k (a++b)):Srt k a:=(ahj.1 h).1
theorem Srt.right {α:Type} {k:α->Int} {a b:List α} (h:Srt k (a++b)):Srt k b:=(ahj.1 h).2.1
theorem Srt.NX {α:Type} {k:α->Int} {a b:List α} (h:Srt k (a++b)):∀ x∈a,∀ y∈b,k x<=k y:=(ahj.1 h).2.2
theorem XP {α:Type} (A B:List α) (x y:α):((A++y::x::B).set (A.length+1) y).set A.length x=A++x::y::B:=by
 induction A with
 | nil=>rfl
 | cons a A ih=>simp only[af5,agN,ahp,ih]
theorem abY {α:Type} (A B:List α) (x y:α):((A++x::y::B).set A.length y).set (A.length+1) x=A++y::x::B:=by
 induction A with
 | nil=>rfl
 | cons a A ih=>simp only[af5,agN,ahp,ih]
theorem get_at {α:Type} (A B:List α) (y:α):(A++y::B)[A.length]? =some y:=by simp
theorem N5 {α:Type} (A B:List α) (x y:α):(A++y::x::B)[A.length+1]? =some x:=by simp
theorem ry {α:Type} {l:List α} {n:Nat} (h:n<=l.length):∃ A B,l=A++B/\A.length=n:=⟨l.take n,l.drop n,by simp,by simp;omega⟩
section
variable {k:Option Nat->Int} {ar:List ve} {ok:Option Nat->Prop}
theorem acS {α:Type} {k:α->Int} {P:List α} (h:Srt k P) {v:Int} (hl:∀ y,P.getLast? =some y->k y<=v):∀ y∈P,k y<=v:=by
 rcases List.eq_nil_or_concat P with rfl | ⟨Q,z,rfl⟩
 ·simp
 ·rw[List.concat_eq_append] at*
  have hz:=hl z (by simp)
  intro y hy
  rcases ag0.1 hy with hy | hy
  ·have:=h.NX y hy z (by simp);omega
  ·rw[ahf.1 hy];exact hz
theorem Qp {α:Type} {k:α->Int} {P2 P3:List α} {x:α} (hs:Srt k (P2++P3)) (h3:∀ y∈P3,k x<k y) (h2:∀ y,P2.getLast? =some y->k y<=k x):Srt k (P2++x::P3)/\bK k (P2++P3++[x]) (P2++x::P3):=by
 constructor
 ·refine hs.left.append (ahk.2 ⟨fun y hy=>by have:=h3 y hy;omega,hs.right⟩) ?_
  intro y hy z hz
  have hy':=acS hs.left h2 y hy
  rcases ag3.1 hz with rfl | hz
  ·exact hy'
  ·exact hs.NX y hy z hz
 ·rw[af3]
  refine (bK.refl k P2).append ?_
  have:=bK.swap (k:=k) (u:=P3) (v:=[x]) (fun y hy z hz=>by rw[ahf.1 hz];have:=h3 y hy;omega)
  simpa using this
end
end Go.Md
namespace Go.Md
open Go.Dn
theorem Zu {α:Type} (A B:List α) (x y:α):(A++x::B).set A.length y=A++y::B:=by
 induction A with
 | nil=>rfl
 | cons a A ih=>simp only[af5,agN,ahp,ih]
section
variable {k:Option Nat->Int} {ar:List ve} {ok:Option Nat->Prop}
end
end Go.Md
namespace Go.Md
open Go.Dn
theorem bsearch {X β:Type} {f:X->(X->Option β)->Option β} (mk:Nat->Nat->X) (fin:Nat->Option β) (P:Nat->Prop) [DecidablePred P] (lo hi:Nat) (hstep:∀ i j again,lo<=i->i<j->j<=hi->f (mk i j) again=if P ((i+j) / 2) then again (mk ((i+j) / 2+1) j) else again (mk i ((i+j) / 2))) (hend:∀ i again,lo<=i->i<=hi->f (mk i i) again=fin i) (mono:∀ s t,lo<=s->s<=t->t<hi->P t->P s): ∀ n i j,j - i<n->lo<=i->i<=j->j<=hi->(∀ t,lo<=t->t<i->P t)->(∀ t,j<=t->t<hi->¬P t)->∃ r,iter n (mk i j) f=fin r/\lo<=r/\r<=hi/\(∀ t,lo<=t->t<r->P t)/\(∀ t,r<=t->t<hi->¬P t)
 | 0,i,j,hn,_,_,_,_,_=>by omega
 | n+1,i,j,hn,h1,h2,h3,h4,h5=>by
  rw[aY]
  by_cases hij:i=j
  ·subst hij
   exact⟨i,hend i _ h1 h3,h1,h3,h4,h5⟩
  ·rw[hstep i j _ h1 (by omega) h3]
   by_cases hP:P ((i+j) / 2)
   ·rw[aiB hP]
    exact bsearch mk fin P lo hi hstep hend mono n _ _ (by omega) (by omega) (by omega) h3 (fun t ht1 ht2=>mono t _ ht1 (show t<=(i+j) / 2 by omega) (by omega) hP) h5
   ·rw[aiA hP]
    exact bsearch mk fin P lo hi hstep hend mono n _ _ (by omega) h1 (by omega) (by omega) h4 (fun t ht1 ht2 hPt=>hP (mono _ t (by omega) ht1 ht2 hPt))
theorem N7 (i j:Nat) (h:i+j<4000000000000000000):w64 (Int.fdiv (bS (w64 ((i:Int)+(j:Int)))) (2 ^ 1))=(((i+j) / 2:Nat):Int):=by
 rw[au (n:=(i:Int)+(j:Int)) (by omega) (by omega),de (by omega) (by omega),afK _ (by omega),au (by omega) (by omega)]
 omega
theorem ac5 {α:Type} (X L R Y:List α) {i:Nat} (h:i<L.length):(X++L++R++Y)[X.length+i]? =some L[i]:=by
 rw[af3,af3,agv (by omega),agu (by omega),show X.length+i - X.length=i by omega,agz h]
theorem ZQ {α:Type} (X L R Y:List α) {i:Nat} (h:i<R.length):(X++L++R++Y)[X.length+L.length+i]? =some R[i]:=by
 rw[af3,af3,agv (by omega),agv (by omega),agu (by omega),show X.length+L.length+i - X.length - L.length=i by omega,agz h]
theorem Srt.get {α:Type} {k:α->Int} {l:List α} (h:Srt k l) {i j:Nat} (hij:i<=j) (hj:j<l.length):k (l[i]'(by omega))<=k l[j]:=by
 rcases ahP hij with h1 | h1
 ·exact ahl.1 h i j (by omega) hj h1
 ·subst h1;exact afL _
section
variable {k:Option Nat->Int} {ar:List ve} {ok:Option Nat->Prop}
end
end Go.Md
namespace Go.Md
open Go.Dn
section
variable {k:Option Nat->Int} {ar:List ve} {ok:Option Nat->Prop}
end
end Go.Md
namespace Go.Md
open Go.Dn
def ChS {α:Type} (k:α->Int) (bs:Nat) (l:List α):Prop:=∀ j:Nat,Srt k ((l.drop (j*bs)).take bs)
theorem ChS.nil {α:Type} (k:α->Int) (bs:Nat):ChS k bs []:=fun _=>by simp[Srt]
theorem ChS.snoc {α:Type} {k:α->Int} {bs:Nat} {A S:List α} {j:Nat} (h:ChS k bs A) (hA:A.length=j*bs) (hS:Srt k S) (hl:S.length<=bs):ChS k bs (A++S):=by
 intro i
 rcases ahV i j with hij | hij | hij
 ·have h1:(i+1)*bs<=j*bs:=ahZ _ hij
  rw[ahB,ah1] at h1
  rw[List.drop_append_of_le_length (by omega),aht (by rw[agO];omega)]
  exact h i
 ·subst hij
  rw[<- hA,agb,ahw hl]
  exact hS
 ·have h1:(j+1)*bs<=i*bs:=ahZ _ hij
  rw[ahB,ah1] at h1
  rw[agd (by rw[agM];omega)]
  simp[Srt]
theorem ChS.drop {α:Type} {k:α->Int} {bs:Nat} {l:List α} (h:ChS k bs l) (i:Nat):ChS k bs (l.drop (i*bs)):=by
 intro j
 rw[af9, <- ahB]
 exact h (i+j)
theorem Srt.take {α:Type} {k:α->Int} {l:List α} (h:Srt k l) (n:Nat):Srt k (l.take n):=by
 rw[<- ahs n l] at h;exact h.left
section
variable {k:Option Nat->Int} {ar:List ve} {ok:Option Nat->Prop}
end
end Go.Md
namespace Go.Md
open Go.Dn
def bV {α:Type} (g:Nat->α->Int):Nat->List α->Int
 | _,[]=>0
 | i,y::r=>if g i y=0 then bV g (i+1) r else g i y
theorem gF {α:Type} {g:Nat->α->Int}:∀ {l:List α} {i:Nat},bV g i l=0->∀ j y,l[j]? =some y->g (i+j) y=0
 | [],_,_,_,_,h=>by simp at h
 | y::r,i,h,j,z,hz=>by
  simp only[bV] at h
  by_cases hg:g i y=0
  ·rw[aiB hg] at h
   cases j with
   | zero=>simp at hz;subst hz;exact hg
   | succ j=>have:=gF h j z (by simpa using hz);rw[show i+(j+1)=i+1+j by omega];exact this
  ·rw[aiA hg] at h;exact absurd h hg
theorem UE {X α:Type} {γ:Type} {f:X->(X->Option ((Int×Unit) ⊕ γ))->Option ((Int×Unit) ⊕ γ)} (mk:Nat->X) (l:List α) (g:Nat->α->Int) (u:γ) (hstep:∀ i y again,l[i]? =some y->f (mk i) again=if g i y=0 then again (mk (i+1)) else some (Sum.inl (g i y,()))) (hend:∀ again,f (mk l.length) again=some (Sum.inr u)): ∀ (r:List α) (i n:Nat),l.drop i=r->i<=l.length->r.length<n->iter n (mk i) f=if bV g i r=0 then some (Sum.inr u) else some (Sum.inl (bV g i r,()))
 | _,_,0,_,_,hn=>absurd hn (ah0 _)
 | [],i,n+1,hd,hi,_=>by
  have:i=l.length:=by
   have:=congrArg List.length hd
   simp at this;omega
  subst this
  rw[aY,hend];rfl
 | y::r,i,n+1,hd,hi,hn=>by
  have hy:l[i]? =some y:=by
   have:=congrArg (·[0]?) hd
   simpa [agy] using this
  have hr:l.drop (i+1)=r:=by
   have:=congrArg List.tail hd
   simpa [ahr] using this
  have hi':i<l.length:=(agB.1 hy).1
  rw[aY,hstep i y _ hy]
  by_cases hg:g i y=0
  ·have e:bV g i (y::r)=bV g (i+1) r:=by simp[bV,hg]
   rw[aiB hg,e]
   exact UE mk l g u hstep hend r (i+1) n hr hi' (by simp at hn;omega)
  ·have e:bV g i (y::r)=g i y:=by simp[bV,hg]
   rw[aiA hg,e,aiA hg]
theorem xZ (a b c:Int):nP a b c=some (decide (a<b\/c<a),()):=by
 unfold nP
 by_cases h:a<b
 ·rw[av h];simp[h]
 ·rw[ay h];simp[h]
theorem Xc (n:Int):Ht n=some (decide (1<=n/\n<=3652059),()):=by
 unfold Ht
 rw[xZ,aib]
 congr 2
 simp only[<- decide_not]
 congr 1
 simp only[eq_iff_iff];omega
def lN (s:Bys):Bool:=((ij s).map (·.1)).getD false
theorem Lc (s:Bys):ij s=some (lN s,()):=by
 have:∃ b,ij s=some (b,()):=by
  unfold ij
  by_cases h1:(s.length:Int)<1
  ·rw[av h1];exact⟨_,rfl⟩
  ·rw[ay h1]
   by_cases h2:(s.length:Int)>40
   ·rw[av h2];exact⟨_,rfl⟩
   ·rw[ay h2]
    have hs:sj s 0=some (s[0]'(by omega)):=by simp[sj]
    rw[hs]
    simp only[aib]
    have ht:mH s [97,98,99,100,101,102,103,104,105,106,107,108,109,110,111,112,113,114,115,116,117,118,119,120,121,122,48,49,50,51,52,53,54,55,56,57,45]=some (Lib.trimS s [97,98,99,100,101,102,103,104,105,106,107,108,109,110,111,112,113,114,115,116,117,118,119,120,121,122,48,49,50,51,52,53,54,55,56,57,45],()):=by
     unfold mH
     rw[show (decide (s.length<=9223372036854775807))=true by simp;omega]
     rfl
    rw[ht]
    simp only[aib]
    generalize (decide ((((s[0]'(by omega)).toNat:Int))<97))=b1
    generalize (decide ((((s[0]'(by omega)).toNat:Int))>122))=b2
    cases b1<;>cases b2<;>exact⟨_,rfl⟩
 obtain⟨b,hb⟩:=this
 unfold lN
 rw[hb];rfl
theorem H6 (d:ax):lu d=some (if -1000000000000000<=d.1/\d.1<=1000000000000000/\0<=d.2/\d.2<=9 then 0 else 1,()):=by
 unfold lu
 rw[xZ,aib,xZ]
 simp only[aib]
 by_cases h1:d.1< -1000000000000000\/1000000000000000<d.1
 ·rw[av h1,aiA (by omega)]
 ·rw[ay h1]
  by_cases h2:d.2<0\/9<d.2
  ·rw[av h2,aiA (by omega)]
  ·rw[ay h2,aiB (by omega)]
theorem acK {n:Nat} (h:n<=18):(10:Int) ^ n<=1000000000000000000:=by
 have:=ah3 (n:=10) (by omega) h
 have h2:=Int.ofNat_le.2 this
 simpa using h2
theorem Hz (n:Nat):(0:Int)<10 ^ n:=Gj (by omega) n
theorem Ve (n:Int) (h0:0<=n) (h1:n<=18):Q4 n=some (10 ^ n.toNat,()):=by
 obtain⟨m,rfl⟩:∃ m:Nat,n=m:=⟨n.toNat,by omega⟩
 unfold Q4
 have:iter (X:=zB) (β:=zA) (Int.natAbs (1:Int)+(Int.natAbs (m:Int)+(Int.natAbs (0:Int)+2))) (1,(m:Int),0,()) zz=some (Sum.inr (10 ^ m,())):=by
  refine bn (Inv:=fun i x=>x=(10 ^ i,(m:Int),(i:Int),())) m (fun r=>r=some (Sum.inr (10 ^ m,()))) ?_ ?_ _ 0 _ (by simp) (by omega) (by omega)
  ·rintro i _ again hi rfl ih
   unfold zz
   dsimp only
   have h10:=acK (n:=i+1) (by omega)
   have hp:=Hz (i+1)
   rw[afT] at h10 hp
   rw[av (by omega),au (by omega) (by omega),au (by omega) (by omega)]
   exact ih _ (by rw[afT];rfl)
  ·rintro _ again rfl
   unfold zz
   dsimp only
   rw[ay (by omega)]
 rw[this,az]
 simp
def He (d:ax):Prop:=0<d.1/\0<=d.2/\d.2<=4/\d.1<=1000000000*10 ^ d.2.toNat
instance (d:ax):Decidable (He d):=by unfold He;exact inferInstance
structure adV (d:s8):Prop where
 day0:1<=d.2.1
 day1:d.2.1<=3652059
 mon:He d.2.2.1
 days0:0<=d.2.2.2.1
 days1:d.2.2.2.1<=10000
 with0:0<=d.2.2.2.2.1
 with1:d.2.2.2.2.1<=d.2.2.2.1
 disc0:0<=d.2.2.2.2.2
 disc1:d.2.2.2.2.2<=1000
structure afc (p:U7):Prop where
 day0:1<=p.1
 day1:p.1<=3652059
 mon:He p.2.1
 names:p.2.2.length<=100
end Go.Md
namespace Go.Md
open Go.Dn
def NW (d:ax):Int:=d.1*10 ^ (4 - d.2).toNat
theorem He.NW {d:ax} (h:He d):0<NW d/\NW d<=10000000000000:=by
 obtain⟨h1,h2,h3,h4⟩:=h
 unfold Md.NW
 have hp:=Hz (4 - d.2).toNat
 refine⟨Int.mul_pos h1 hp, ?_⟩
 have a1:d.1*10 ^ (4 - d.2).toNat<=1000000000*10 ^ d.2.toNat*10 ^ (4 - d.2).toNat:=Int.mul_le_mul_of_nonneg_right h4 (by omega)
 rw[afN, <- afS,show d.2.toNat+(4 - d.2).toNat=4 by omega] at a1
 omega
abbrev Bd:=ve
def Z9 (x:Bd):Int:=x.2.1
def aad (x:Bd):Int:=x.2.2.1
def taken (x:Bd):Int:=x.2.2.2.1
def done (x:Bd):Int:=x.2.2.2.2
structure VV (x:Bd):Prop where
 d:adV x.1
 owes0:0<=Z9 x
 paid0:0<=aad x
 taken0:0<=taken x
 sum:Z9 x+aad x+taken x=NW x.1.2.2.1
 none:done x=0->taken x=0
 done0:done x=0\/x.1.2.1<=done x
 iff:Z9 x=0↔done x≠0
theorem VV.le {x:Bd} (h:VV x):Z9 x<=10000000000000/\aad x<=10000000000000/\taken x<=10000000000000:=by
 have:=h.d.mon.NW;have:=h.sum;have:=h.owes0;have:=h.paid0;have:=h.taken0;omega
section
variable {ar:List Bd} {h:Nat} {x:Bd}
theorem adO {α:Type} {l:List α} {i:Nat} {x y:α} (h:l[i]? =some x):(l.set i y)[i]? =some y:=agH (agB.1 h).1
end
end Go.Md
namespace Go.Md
open Go.Dn
structure mV (ds:List s8) (ar:List Bd):Prop where
 ds:ar.map (·.1)=ds
 ok:∀ x∈ar,VV x
theorem mV.len {ds:List s8} {ar:List Bd} (h:mV ds ar):ar.length=ds.length:=by rw[<- h.ds];simp
theorem mV.set {ds:List s8} {ar:List Bd} (h:mV ds ar) {i:Nat} {x y:Bd} (hx:ar[i]? =some x) (hy:VV y) (he:y.1=x.1):mV ds (ar.set i y):=by
 refine⟨?_,fun z hz=> ?_⟩
 ·rw[List.map_set,he, <- h.ds]
  apply agj
  intro j
  by_cases hj:i=j
  ·subst hj
   rw[agH (by simp;exact (agB.1 hx).1),agC,hx];rfl
  ·rw[agG hj]
 ·rcases ahc hz with hz | rfl
  ·exact h.ok z hz
  ·exact hy
theorem mV.get {ds:List s8} {ar:List Bd} (h:mV ds ar) {i:Nat} {x:Bd} (hx:ar[i]? =some x):VV x:=h.ok x (aha hx)
def adQ (ar:List Bd):Int:=(ar.map aad).sum
structure aff (ds:List s8) (L T:Int) (s:Int×List Bd):Prop where
 ar:mV ds s.2
 l0:0<=s.1
 l1:s.1<=L
 tot:s.1+adQ s.2=T
theorem abo {k v:Ty} (p:k.den×v.den) (m:List (k.den×v.den)) (n:k.den):je (p::m) n=bif k.beq n p.1 then some p.2 else je m n:=by
 unfold je
 rw[List.find?_cons]
 cases k.beq n p.1<;>rfl
theorem UH {k v:Ty} (p:k.den×v.den) (m:List (k.den×v.den)) (x:k.den) (y:v.den):oc (p::m) x y=bif k.beq x p.1 then (x,y)::m else p::oc m x y:=rfl
end Go.Md
namespace Go.Md
open Go.Dn
def few:Nat->Int->Int×Nat
 | 0,z=>(z,0)
 | p+1,z=>if z % 10=0 then few p (z / 10) else (z,p+1)
theorem I9:∀ (p:Nat) (z:Int),(few p z).2<=p/\(few p z).1*10 ^ (p - (few p z).2)=z/\(few p z).1.natAbs<=z.natAbs
 | 0,z=>by simp[few]
 | p+1,z=>by
  unfold few
  split
  ·rename_i h
   obtain⟨h1,h2,h3⟩:=I9 p (z / 10)
   refine⟨by omega, ?_,by omega⟩
   rw[show p+1 - (few p (z / 10)).2=(p - (few p (z / 10)).2)+1 by omega,afT, <- afN,h2]
   omega
  ·simp
theorem WW:∀ p,few p 0=(0,0)
 | 0=>rfl
 | p+1=>by unfold few;simp[WW p]
theorem SL (z:Int) (p:Int):yT (W z) p=some (if z.natAbs<=1000000000000000 then ((z,p),0,()) else ((0,0),1,())):=by
 unfold yT
 rw[QL z 1000000000000000 (by omega) (by omega),aib]
 by_cases h:(z.natAbs:Int)<=1000000000000000
 ·rw[aiB h,aiB (by omega)];rfl
 ·rw[aiA h,aiA (by omega)];rfl
theorem PD (z:Int) (hz:z.natAbs<4294967296 ^ 99) (p:Nat) (hp:p<=1000):zx (W z) (p:Int)=some (if (few p z).1.natAbs<=1000000000000000 then (((few p z).1,((few p z).2:Int)),0,()) else ((0,0),1,())):=by
 unfold zx
 rw[vp 10 (by omega) (by omega),aib]
 dsimp only
 have loop:∀ (n:Nat) (z:Int) (p:Nat),z.natAbs<4294967296 ^ 99->p<=1000->p<n->iter (X:=tu) (β:=tq) n ((p:Int),(W z).1,(W z).2,0,0,(W 10).1,(W 10).2,()) tj=some (Sum.inr (((few p z).2:Int),(W (few p z).1).1,(W (few p z).1).2,0,0,())):=by
  intro n
  induction n with
  | zero=>intro z p _ _ h;omega
  | succ n ih=>
   intro z p hz hp hn
   rw[aY]
   generalize hag:(fun y=>iter n y tj)=again
   unfold tj
   dsimp only
   cases p with
   | zero=>rw[ay (by omega)];rfl
   | succ p=>
    have e10:(10:Int).natAbs=10:=rfl
    rw[av (by omega)]
    change (Option.bind (xI (W z) (W 10)) _)=_
    rw[SB z 10 hz (by rw[e10];exact ahO (by omega) (ah3 (n:=4294967296) (by omega) (show 1<=99 by omega))) (by omega),aib]
    dsimp only
    rw[rI,aib]
    dsimp only
    rw[e10]
    by_cases hm:z % 10=0
    ·have hm2:z.natAbs % 10=0:=by omega
     rw[hm2,show ((((0:Nat):Int).sign) != 0)=false from rfl,ain]
     change (Option.bind (jH (W z)) _)=_
     rw[rI,aib]
     dsimp only
     have hf:few (p+1) z=few p (z / 10):=by simp[few,hm]
     rw[hf]
     have hz':(z / 10).natAbs<4294967296 ^ 99:=ahN (by omega) hz
     by_cases hneg:z<0
     ·rw[av (by rw[afU hneg];omega),Ee _ (by simp only[Int.natAbs_natCast];exact ahN (Nat.div_le_self _ _) hz),aib]
      dsimp only
      rw[show -((z.natAbs / 10:Nat):Int)=z / 10 by omega,au (by omega) (by omega),show ((p+1:Nat):Int) - 1=(p:Int) by omega, <- hag]
      exact ih (z / 10) p hz' (by omega) (by omega)
     ·rw[ay (by
       rcases (show z=0\/0<z by omega) with h | h
       ·subst h;decide
       ·rw[afV h];omega),show ((z.natAbs / 10:Nat):Int)=z / 10 by omega,au (by omega) (by omega),show ((p+1:Nat):Int) - 1=(p:Int) by omega, <- hag]
      exact ih (z / 10) p hz' (by omega) (by omega)
    ·have hm2:0<z.natAbs % 10:=by omega
     have:(((z.natAbs % 10:Nat):Int).sign != 0)=true:=by
      rw[afV (by omega)];rfl
     rw[this,aio]
     have hf:few (p+1) z=(z,p+1):=by simp[few,hm]
     rw[hf]
 have:=loop (Int.natAbs (p:Int)+(List.length (W z).2+(Int.natAbs (0:Int)+(Int.natAbs (0:Int)+(List.length (W 10).2+2))))) z p hz hp (by omega)
 rw[this,az]
 dsimp only
 change (Option.bind (yT (W (few p z).1) ((few p z).2:Int)) _)=_
 rw[SL,aib]
def Ag (d:ax):Int:=d.1*10 ^ (9 - d.2).toNat
def cc (d:ax):Prop:=d.1.natAbs<=1000000000000000/\0<=d.2/\d.2<=9
theorem He.dec {d:ax} (h:He d):cc d:=by
 obtain⟨h1,h2,h3,h4⟩:=h
 have hq:(10:Int) ^ d.2.toNat<=10000:=by
  have:=ah3 (n:=10) (by omega) (show d.2.toNat<=4 by omega)
  have h2:=Int.ofNat_le.2 this
  simpa using h2
 exact⟨by omega,h2,by omega⟩
theorem TI {z:Int} (h:z.natAbs<1000000000000000000000000000000000000000000000000000000000000):(dg6 z.natAbs).length<=10:=YZ (k:=10) (by simpa using h)
theorem Pk (n:Nat) (hn:n<=40):Gs (n:Int)=some (N (10 ^ n),()):=by
 unfold Gs
 rw[uq 1 (by omega) (by omega),aib]
 dsimp only
 have hb:∀ i:Nat,i<=41->(dg6 ((10:Int) ^ i).natAbs).length<=10:=by
  intro i hi
  refine TI ?_
  have h1:((10:Int) ^ i).natAbs=10 ^ i:=by rw[Int.natAbs_pow];rfl
  have h2:=ah3 (n:=10) (by omega) hi
  omega
 have loop:iter (X:=Dv) (β:=Du) (Int.natAbs (n:Int)+(Int.natAbs (0:Int)+(List.length ([]:List Int)+(List.length (N 1).2+2)))) ((n:Int),0,false,[],(N 1).1,(N 1).2,()) Dt=some (Sum.inr (false,[],(N (10 ^ n)).1,(N (10 ^ n)).2,())):=by
  refine bn (Inv:=fun i x=>x=((n:Int),(i:Int),false,[],(N (10 ^ i)).1,(N (10 ^ i)).2,())) n (fun r=>r=some (Sum.inr (false,[],(N (10 ^ n)).1,(N (10 ^ n)).2,()))) ?_ ?_ _ 0 _ (by simp) (by omega) (by omega)
  ·rintro i _ again hi rfl ih
   unfold Dt
   dsimp only
   rw[av (by omega),uq 10 (by omega) (by omega),aib]
   change (Option.bind (qP (N (10 ^ i)) (N 10)) _)=_
   have h10:(dg6 (10:Int).natAbs).length<=10:=TI (by decide)
   rw[uW _ _ (by have:=hb i (by omega);omega) (by omega),aib]
   dsimp only
   rw[au (by omega) (by omega)]
   exact ih _ (by rw[afT];rfl)
  ·rintro _ again rfl
   unfold Dt
   dsimp only
   rw[ay (by omega)]
 rw[loop,az]
theorem XE (d:ax) (hd:cc d):Dm d 9=some (N (Ag d),()):=by
 obtain⟨h1,h2,h3⟩:=hd
 unfold Dm
 rw[uq _ (by omega) (by omega),aib,au (by omega) (by omega)]
 dsimp only
 obtain⟨m,hm⟩:∃ m:Nat,9 - d.2=m:=⟨(9 - d.2).toNat,by omega⟩
 rw[hm,Pk m (by omega),aib]
 dsimp only
 have hl1:(dg6 d.1.natAbs).length<=10:=TI (by omega)
 have hl2:(dg6 ((10:Int) ^ m).natAbs).length<=10:=by
  refine TI ?_
  have h1:((10:Int) ^ m).natAbs=10 ^ m:=by rw[Int.natAbs_pow];rfl
  have h2:=ah3 (n:=10) (by omega) (show m<=9 by omega)
  omega
 rw[uW _ _ (by omega) (by omega),aib]
 unfold Ag
 rw[hm];rfl
theorem Rm {d:ax} (hd:cc d):(Ag d).natAbs<=1000000000000000000000000:=by
 obtain⟨h1,h2,h3⟩:=hd
 unfold Ag
 rw[Int.natAbs_mul,Int.natAbs_pow]
 have h4:=ah3 (n:=10) (by omega) (show (9 - d.2).toNat<=9 by omega)
 have h5:d.1.natAbs*(10:Int).natAbs ^ (9 - d.2).toNat<=1000000000000000*1000000000:=Nat.mul_le_mul h1 (by simpa using h4)
 omega
end Go.Md
namespace Go.Md
open Go.Dn
end Go.Md
namespace Go.Md
open Go.Dn
end Go.Md
namespace Go.Md
open Go.Dn
theorem RP {X α B:Type} {f:X->(X->Option B)->Option B} (mk:Nat->X) (l:List α) (g:Nat->α->Int) (fin:Option B) (out:Int->Option B) (hstep:∀ i y again,l[i]? =some y->f (mk i) again=if g i y=0 then again (mk (i+1)) else out (g i y)) (hend:∀ again,f (mk l.length) again=fin): ∀ (r:List α) (i n:Nat),l.drop i=r->i<=l.length->r.length<n->iter n (mk i) f=if bV g i r=0 then fin else out (bV g i r)
 | _,_,0,_,_,hn=>absurd hn (ah0 _)
 | [],i,n+1,hd,hi,_=>by
  have:i=l.length:=by
   have:=congrArg List.length hd
   simp at this;omega
  subst this
  rw[aY,hend];rfl
 | y::r,i,n+1,hd,hi,hn=>by
  have hy:l[i]? =some y:=by
   have:=congrArg (·[0]?) hd
   simpa [agy] using this
  have hr:l.drop (i+1)=r:=by
   have:=congrArg List.tail hd
   simpa [ahr] using this
  have hi':i<l.length:=(agB.1 hy).1
  rw[aY,hstep i y _ hy]
  by_cases hg:g i y=0
  ·have e:bV g i (y::r)=bV g (i+1) r:=by simp[bV,hg]
   rw[aiB hg,e]
   exact RP mk l g fin out hstep hend r (i+1) n hr hi' (by simp at hn;omega)
  ·have e:bV g i (y::r)=g i y:=by simp[bV,hg]
   rw[aiA hg,e,aiA hg]
end Go.Md
namespace Go.Md
open Go.Dn
def VW (D:Int) (S:Nat->Prop) (ar:List Bd):Prop:=∀ i x,S i->ar[i]? =some x->done x=0\/D<done x
theorem VW.set {D:Int} {S:Nat->Prop} {ar:List Bd} {h:Nat} {x y:Bd} (hq:VW D S ar) (hx:ar[h]? =some x) (hy:(done x=0\/D<done x)->(done y=0\/D<done y)):VW D S (ar.set h y):=by
 intro i z hi hz
 by_cases e:h=i
 ·subst e
  rw[adO hx] at hz
  cases hz
  exact hy (hq h x hi hx)
 ·rw[agG e] at hz
  exact hq i z hi hz
theorem Xs {α:Type} {k:α->Int} {l a b:List α} (ha:Srt k a) (hb:Srt k b) (ka:bK k l a) (kb:bK k l b):a=b:=by
 have key:∀ (a b:List α),Srt k a->Srt k b->(∀ v,a.filter (fun x=>k x==v)=b.filter (fun x=>k x==v))->a.length=b.length->a=b:=by
  intro a
  induction a with
  | nil=>intro b _ _ _ hl;exact (agi hl.symm).symm
  | cons x a ih=>
   intro b sa sb hf hl
   cases b with
   | nil=>simp at hl
   | cons y b=>
    have sa':=ahk.1 sa
    have sb':=ahk.1 sb
    have hxb:x∈(y::b):=by
     have:x∈(x::a).filter (fun z=>k z==k x):=by simp
     rw[hf (k x)] at this
     exact (List.mem_filter.1 this).1
    have hya:y∈(x::a):=by
     have:y∈(y::b).filter (fun z=>k z==k y):=by simp
     rw[<- hf (k y)] at this
     exact (List.mem_filter.1 this).1
    have hk:k x=k y:=by
     have h1:k y<=k x:=by
      rcases ag3.1 hxb with h | h
      ·rw[h];exact afL _
      ·exact sb'.1 x h
     have h2:k x<=k y:=by
      rcases ag3.1 hya with h | h
      ·rw[h];exact afL _
      ·exact sa'.1 y h
     omega
    have hxy:x=y:=by
     have:=hf (k x)
     rw[agm (by simp),agm (by simp[hk])] at this
     exact (List.cons.inj this).1
    subst hxy
    congr 1
    refine ih b sa'.2 sb'.2 (fun v=> ?_) (by simpa using hl)
    have:=hf v
    by_cases hv:k x=v
    ·rw[agm (by simp[hv]),agm (by simp[hv])] at this
     exact (List.cons.inj this).2
    ·rw[List.filter_cons_of_neg (by simp[hv]),List.filter_cons_of_neg (by simp[hv])] at this
     exact this
 exact key a b ha hb (fun v=>by rw[ka.keys,kb.keys]) (by rw[ka.length,kb.length])
end Go.Md
namespace Go.Md
open Go.Dn
def nmC:Bys:=[97,98,99,100,101,102,103,104,105,106,107,108,109,110,111,112,113,114,115,116,117,118,119,120,121,122,48,49,50,51,52,53,54,55,56,57,45]
def nmB (c:UInt8):Bool:=nmC.contains c
set_option maxRecDepth 100000 in
theorem adA:∀ n:Fin 256,nmB (UInt8.ofNat n.1)=((decide (97<=n.1)&&decide (n.1<=122))||((decide (48<=n.1)&&decide (n.1<=57))||decide (n.1=45))):=by decide
theorem aeg (c:UInt8):nmB c=((decide (97<=c.toNat)&&decide (c.toNat<=122))||((decide (48<=c.toNat)&&decide (c.toNat<=57))||decide (c.toNat=45))):=by
 have:=adA ⟨c.toNat,UInt8.toNat_lt c⟩
 simpa using this
theorem Hl {α:Type} {p:α->Bool}:∀ {l:List α},l.dropWhile p=[]↔∀ x∈l,p x=true
 | []=>by simp
 | y::r=>by
  cases hp:p y with
  | true=>rw[List.dropWhile_cons_of_pos hp,Hl];simp[hp]
  | false=>rw[List.dropWhile_cons_of_neg (by simp[hp])];simp[hp]
theorem Rt {α:Type} {p:α->Bool} {y:α} {r:List α}:∀ {l:List α},l.dropWhile p=y::r->p y=false
 | [],h=>by simp at h
 | z::t,h=>by
  cases hp:p z with
  | true=>rw[List.dropWhile_cons_of_pos hp] at h;exact Rt h
  | false=>rw[List.dropWhile_cons_of_neg (by simp[hp])] at h;cases h;exact hp
theorem abZ (s c:Bys):(Lib.trimS s c==[])=s.all (c.contains ·):=by
 rw[Bool.eq_iff_iff]
 simp only[beq_iff_eq,af0]
 unfold Lib.trimS Lib.trimLeftS Lib.trimRightS
 constructor
 ·intro h
  rw[Hl] at h
  cases hd:s.reverse.dropWhile (c.contains ·) with
  | nil=>
   rw[Hl] at hd
   intro x hx
   exact hd x (by simpa using hx)
  | cons y r=>
   exfalso
   have h1:=h y (by rw[hd];simp)
   have h2:=Rt hd
   rw[h1] at h2
   cases h2
 ·intro h
  have:s.reverse.dropWhile (c.contains ·)=[]:=Hl.2 fun x hx=>h x (by simpa using hx)
  rw[this];rfl
theorem UY {α:Type} (p:α->Bool) (e:Int) (he:e≠0):∀ (l:List α) (i:Nat),bV (fun _ c=>if p c=true then 0 else e) i l=if l.all p=true then 0 else e
 | [],i=>by simp[bV]
 | y::r,i=>by
  have ih:=UY p e he r (i+1)
  cases hp:p y with
  | true=>simp only[bV,hp,aiC,afZ,afJ];exact ih
  | false=>simp[bV,hp,he]
theorem GC {s:Bys} {i:Nat} {c:UInt8} (h:s[i]? =some c):sj s (i:Int)=some c:=by simp[sj,h]
theorem Nk (s:Bys):sU s=some (lN s,()):=by
 unfold sU lN ij Nn
 by_cases h0:s=[]
 ·subst h0;rfl
 have hb:(s==[])=false:=by simpa using h0
 have hl:0<s.length:=List.length_pos_iff.2 h0
 rw[hb,ain,ay (show ¬((s.length:Int)<1) by omega)]
 by_cases h2:(s.length:Int)>40
 ·rw[av h2,av h2];rfl
 rw[ay h2,ay h2]
 have hs:sj s 0=some (s[0]'hl):=GC (i:=0) (aD hl)
 simp only[hs,aib]
 by_cases h3:(((s[0]'hl).toNat:Int))<97
 ·simp only[av h3];rfl
 simp only[ay h3]
 by_cases h4:(((s[0]'hl).toNat:Int))>122
 ·simp only[av h4];rfl
 simp only[ay h4]
 have ht:mH s [97,98,99,100,101,102,103,104,105,106,107,108,109,110,111,112,113,114,115,116,117,118,119,120,121,122,48,49,50,51,52,53,54,55,56,57,45]=some (Lib.trimS s nmC,()):=by
  unfold mH
  rw[show (decide (s.length<=9223372036854775807))=true by simp;omega]
  rfl
 rw[ht,aib]
 have loop:=RP (f:=BT) (fun i=>(s,(s.length:Int),(i:Int),())) s (fun _ c=>if nmB c=true then 0 else 1) (some (Sum.inr ())) (fun _=>some (Sum.inl (false,())))
  (fun i c again hi=>by
    have hil:=(agB.1 hi).1
    unfold BT
    dsimp only
    rw[av (show (i:Int)<(s.length:Int) by omega),GC hi,aib,aeg c,au (by omega) (by omega)]
    by_cases a1:(c.toNat:Int)<97<;>by_cases a2:(c.toNat:Int)>122<;>by_cases a3:(c.toNat:Int)<48<;>by_cases a4:(c.toNat:Int)>57<;>by_cases a5:(c.toNat:Int)=45<;>
      first
      | omega
      | (have b1:(97<=c.toNat)=¬ ((c.toNat:Int)<97):=by simp only[eq_iff_iff];omega
         have b2:(c.toNat<=122)=¬ ((c.toNat:Int)>122):=by simp only[eq_iff_iff];omega
         have b3:(48<=c.toNat)=¬ ((c.toNat:Int)<48):=by simp only[eq_iff_iff];omega
         have b4:(c.toNat<=57)=¬ ((c.toNat:Int)>57):=by simp only[eq_iff_iff];omega
         have b5:(c.toNat=45)=((c.toNat:Int)=45):=by simp only[eq_iff_iff];omega
         simp only[b1,b2,b3,b4,b5,a1,a2,a3,a4,a5,bne,aiv,aiu,not_true_eq_false,not_false_eq_true,afx,afJ,afw,afy,Bool.or_true,Bool.true_or,Bool.or_false,afB,aio,ain,aiC,afz,aiz,Int.one_ne_zero,ail,afG]
         first | rfl | (have a6:((c.toNat:Int)==45)=false:=(by simp only[aik,ne_eq];exact a5);rw[a6];rfl)))
  (fun again=>by
    unfold BT
    dsimp only
    rw[ay (by omega)])
  s 0 (List.length s+(Int.natAbs ((List.length s:Int))+(Int.natAbs (0:Int)+2))) rfl (ah8 _) (by omega)
 rw[show ((0:Nat):Int)=0 from rfl] at loop
 rw[loop,UY nmB 1 (by omega),abZ]
 have e:(s.all fun x=>nmC.contains x)=s.all nmB:=rfl
 rw[e]
 cases s.all nmB<;>rfl
theorem BV (a b c:Int):sW a b c=some (decide (b<=a/\a<=c),()):=by
 unfold sW
 by_cases h:b<=a
 ·rw[av h];simp[h]
 ·rw[ay h];simp[h]
theorem YE (n:Int):KK n=some (decide (1<=n/\n<=3652059),()):=by
 unfold KK QB
 rw[BV];rfl
theorem Ni (d:ax):qO d=some (if -1000000000000000<=d.1/\d.1<=1000000000000000/\0<=d.2/\d.2<=9 then 0 else 1,()):=by
 unfold qO
 rw[BV,aib]
 by_cases h1: -1000000000000000<=d.1/\d.1<=1000000000000000
 ·rw[ais h1]
  simp only[afG,ain]
  rw[BV,aib]
  by_cases h2:0<=d.2/\d.2<=9
  ·rw[ais h2,aiB ⟨h1.1,h1.2,h2⟩];rfl
  ·rw[aiq h2,aiA (fun h=>h2 h.2.2)];rfl
 ·rw[aiq h1,aiA (fun h=>h1 ⟨h.1,h.2.1⟩)];rfl
theorem aah {a b:ax} (ha:cc a) (hb:cc b):Zq a b=some ((Ag a - Ag b).sign,()):=by
 unfold Zq
 have l1:=Rm ha
 have l2:=Rm hb
 have m1:=TI (z:=Ag a) (by omega)
 have m2:=TI (z:=Ag b) (by omega)
 rw[XE a ha,aib,XE b hb,aib,Nj _ _ (by omega) (by omega)]
 rfl
instance (d:ax):Decidable (cc d):=by unfold cc;infer_instance
end Go.Md
