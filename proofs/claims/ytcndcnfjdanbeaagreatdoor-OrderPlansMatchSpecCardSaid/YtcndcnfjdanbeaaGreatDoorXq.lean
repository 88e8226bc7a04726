/-
  Plain facts, small ones. No condition.
-/
import Derived.Test.YtcndcnfjdanbeaaGreatDoorXp
import Derived.Test.YtcndcnfjdanbeaaGreatDoorXm
set_option linter.all false
namespace Go.Md
open Go.Dn
structure bM {α:Type} (k:α→Int) (l l':List α):Prop where
 perm:l.Perm l'
 keys:∀ v,l'.filter (fun x=>k x==v)=l.filter (fun x=>k x==v)
theorem bM.refl {α:Type} (k:α→Int) (l:List α):bM k l l:=⟨List.Perm.refl _,fun _=>rfl⟩
theorem bM.trans {α:Type} {k:α→Int} {a b c:List α} (h:bM k a b) (g:bM k b c):bM k a c:=⟨h.perm.trans g.perm,fun v=>(g.keys v).trans (h.keys v)⟩
theorem bM.append {α:Type} {k:α→Int} {a b c d:List α} (h:bM k a b) (g:bM k c d):bM k (a++c) (b++d):=
 ⟨h.perm.append g.perm,fun v=>by rw[ahl,ahl,h.keys,g.keys]⟩
theorem bM.mem {α:Type} {k:α→Int} {a b:List α} (h:bM k a b) {x:α}:x∈b↔x∈a:=h.perm.mem_iff.symm
theorem bM.length {α:Type} {k:α→Int} {a b:List α} (h:bM k a b):b.length=a.length:=h.perm.length_eq.symm
theorem bM.swap {α:Type} {k:α→Int} {u v:List α} (h:∀ x∈u,∀ y∈v,k x≠k y):bM k (u++v) (v++u):=by
 refine⟨List.perm_append_comm,fun w=> ?_⟩
 rw[ahl,ahl]
 by_cases hu:∃ x∈u,k x=w
 ·obtain⟨x,hx,rfl⟩:=hu
  have:v.filter (fun y=>k y==k x)=[]:=by
   rw[List.filter_eq_nil_iff]
   intro y hy
   simpa using fun e=>h x hx y hy e.symm
  rw[this];simp
 ·have:u.filter (fun y=>k y==w)=[]:=by
   rw[List.filter_eq_nil_iff]
   intro y hy
   simpa using fun e=>hu ⟨y,hy,e⟩
  rw[this];simp
def Srt {α:Type} (k:α→Int) (l:List α):Prop:=l.Pairwise fun x y=>k x≤k y
theorem Srt.append {α:Type} {k:α→Int} {a b:List α} (ha:Srt k a) (hb:Srt k b) (h:∀ x∈a,∀ y∈b,k x≤k y):Srt k (a++b):=aid.2 ⟨ha,hb,h⟩
theorem Srt.left {α:Type} {k:α→Int} {a b:List α} (h:Srt k (a++b)):Srt k a:=(aid.1 h).1
theorem Srt.right {α:Type} {k:α→Int} {a b:List α} (h:Srt k (a++b)):Srt k b:=(aid.1 h).2.1
theorem Srt.Km {α:Type} {k:α→Int} {a b:List α} (h:Srt k (a++b)):∀ x∈a,∀ y∈b,k x≤k y:=(aid.1 h).2.2
theorem Yx {α:Type} (A B:List α) (x y:α):((A++y::x::B).set (A.length+1) y).set A.length x=A++x::y::B:=by
 induction A with
 | nil=>rfl
 | cons a A ih=>simp only[aha,ahI,aik,ih]
theorem adk {α:Type} (A B:List α) (x y:α):((A++x::y::B).set A.length y).set (A.length+1) x=A++y::x::B:=by
 induction A with
 | nil=>rfl
 | cons a A ih=>simp only[aha,ahI,aik,ih]
theorem get_at {α:Type} (A B:List α) (y:α):(A++y::B)[A.length]? =some y:=by simp
theorem O7 {α:Type} (A B:List α) (x y:α):(A++y::x::B)[A.length+1]? =some x:=by simp
theorem qL {α:Type} {l:List α} {n:Nat} (h:n≤l.length):∃ A B,l=A++B∧A.length=n:=⟨l.take n,l.drop n,by simp,by simp;omega⟩
section
variable {k:Option Nat→Int} {ar:List tW} {ok:Option Nat→Prop}
theorem aed {α:Type} {k:α→Int} {P:List α} (h:Srt k P) {v:Int} (hl:∀ y,P.getLast? =some y→k y≤v):∀ y∈P,k y≤v:=by
 rcases List.eq_nil_or_concat P with rfl | ⟨Q,z,rfl⟩
 ·simp
 ·rw[List.concat_eq_append] at*
  have hz:=hl z (by simp)
  intro y hy
  rcases ahX.1 hy with hy | hy
  ·have:=h.Km y hy z (by simp);omega
  ·rw[aib.1 hy];exact hz
theorem adI {α:Type} {k:α→Int} {P2 P3:List α} {x:α} (hs:Srt k (P2++P3)) (h3:∀ y∈P3,k x<k y) (h2:∀ y,P2.getLast? =some y→k y≤k x):Srt k (P2++x::P3)∧bM k (P2++P3++[x]) (P2++x::P3):=by
 constructor
 ·refine hs.left.append (aie.2 ⟨fun y hy=>by have:=h3 y hy;omega,hs.right⟩) ?_
  intro y hy z hz
  have hy':=aed hs.left h2 y hy
  rcases ah0.1 hz with rfl | hz
  ·exact hy'
  ·exact hs.Km y hy z hz
 ·rw[ag8]
  refine (bM.refl k P2).append ?_
  have:=bM.swap (k:=k) (u:=P3) (v:=[x]) (fun y hy z hz=>by rw[aib.1 hz];have:=h3 y hy;omega)
  simpa using this
end
end Go.Md
namespace Go.Md
open Go.Dn
theorem aam {α:Type} (A B:List α) (x y:α):(A++x::B).set A.length y=A++y::B:=by
 induction A with
 | nil=>rfl
 | cons a A ih=>simp only[aha,ahI,aik,ih]
section
variable {k:Option Nat→Int} {ar:List tW} {ok:Option Nat→Prop}
end
end Go.Md
namespace Go.Md
open Go.Dn
theorem bsearch {X β:Type} {f:X→(X→Option β)→Option β} (mk:Nat→Nat→X) (fin:Nat→Option β) (P:Nat→Prop) [DecidablePred P] (lo hi:Nat)
 (hstep:∀ i j again,lo≤i→i<j→j≤hi→f (mk i j) again=if P ((i+j) / 2) then again (mk ((i+j) / 2+1) j) else again (mk i ((i+j) / 2)))
 (hend:∀ i again,lo≤i→i≤hi→f (mk i i) again=fin i) (mono:∀ s t,lo≤s→s≤t→t<hi→P t→P s):
 ∀ n i j,j - i<n→lo≤i→i≤j→j≤hi→(∀ t,lo≤t→t<i→P t)→(∀ t,j≤t→t<hi→¬P t)→∃ r,iter n (mk i j) f=fin r∧lo≤r∧r≤hi∧(∀ t,lo≤t→t<r→P t)∧(∀ t,r≤t→t<hi→¬P t)
 | 0,i,j,hn,_,_,_,_,_=>by omega
 | n+1,i,j,hn,h1,h2,h3,h4,h5=>by
  rw[bH]
  by_cases hij:i=j
  ·subst hij
   exact⟨i,hend i _ h1 h3,h1,h3,h4,h5⟩
  ·rw[hstep i j _ h1 (by omega) h3]
   by_cases hP:P ((i+j) / 2)
   ·rw[ajp hP]
    exact bsearch mk fin P lo hi hstep hend mono n _ _ (by omega) (by omega) (by omega) h3 (fun t ht1 ht2=>mono t _ ht1 (show t≤(i+j) / 2 by omega) (by omega) hP) h5
   ·rw[ajo hP]
    exact bsearch mk fin P lo hi hstep hend mono n _ _ (by omega) h1 (by omega) (by omega) h4 (fun t ht1 ht2 hPt=>hP (mono _ t (by omega) ht1 ht2 hPt))
theorem Pb (i j:Nat) (h:i+j<4000000000000000000):w64 (Int.fdiv (cc (w64 ((i:Int)+(j:Int)))) (2 ^ 1))=(((i+j) / 2:Nat):Int):=by
 rw[av (n:=(i:Int)+(j:Int)) (by omega) (by omega),gL (by omega) (by omega),agN _ (by omega),av (by omega) (by omega)]
 omega
theorem aem {α:Type} (X L R Y:List α) {i:Nat} (h:i<L.length):(X++L++R++Y)[X.length+i]? =some L[i]:=by
 rw[ag8,ag8,ahr (by omega),ahq (by omega),show X.length+i - X.length=i by omega,ahv h]
theorem aaR {α:Type} (X L R Y:List α) {i:Nat} (h:i<R.length):(X++L++R++Y)[X.length+L.length+i]? =some R[i]:=by
 rw[ag8,ag8,ahr (by omega),ahr (by omega),ahq (by omega),show X.length+L.length+i - X.length - L.length=i by omega,ahv h]
theorem Srt.get {α:Type} {k:α→Int} {l:List α} (h:Srt k l) {i j:Nat} (hij:i≤j) (hj:j<l.length):k (l[i]'(by omega))≤k l[j]:=by
 rcases Nat.lt_or_eq_of_le hij with h1 | h1
 ·exact aif.1 h i j (by omega) hj h1
 ·subst h1;exact agO _
section
variable {k:Option Nat→Int} {ar:List tW} {ok:Option Nat→Prop}
end
end Go.Md
namespace Go.Md
open Go.Dn
section
variable {k:Option Nat→Int} {ar:List tW} {ok:Option Nat→Prop}
end
end Go.Md
namespace Go.Md
open Go.Dn
def ChS {α:Type} (k:α→Int) (bs:Nat) (l:List α):Prop:=∀ j:Nat,Srt k ((l.drop (j*bs)).take bs)
theorem ChS.nil {α:Type} (k:α→Int) (bs:Nat):ChS k bs []:=fun _=>by simp[Srt]
theorem ChS.snoc {α:Type} {k:α→Int} {bs:Nat} {A S:List α} {j:Nat} (h:ChS k bs A) (hA:A.length=j*bs) (hS:Srt k S) (hl:S.length≤bs):ChS k bs (A++S):=by
 intro i
 rcases aiM i j with hij | hij | hij
 ·have h1:(i+1)*bs≤j*bs:=aiQ _ hij
  rw[aix,aiT] at h1
  rw[List.drop_append_of_le_length (by omega),aip (by rw[ahJ];omega)]
  exact h i
 ·subst hij
  rw[← hA,ahf,ais hl]
  exact hS
 ·have h1:(j+1)*bs≤i*bs:=aiQ _ hij
  rw[aix,aiT] at h1
  rw[ahg (by rw[ahH];omega)]
  simp[Srt]
theorem ChS.drop {α:Type} {k:α→Int} {bs:Nat} {l:List α} (h:ChS k bs l) (i:Nat):ChS k bs (l.drop (i*bs)):=by
 intro j
 rw[ahd, ← aix]
 exact h (i+j)
theorem Srt.take {α:Type} {k:α→Int} {l:List α} (h:Srt k l) (n:Nat):Srt k (l.take n):=by
 rw[← aio n l] at h;exact h.left
section
variable {k:Option Nat→Int} {ar:List tW} {ok:Option Nat→Prop}
end
end Go.Md
namespace Go.Md
open Go.Dn
def yQ {α:Type} (g:Nat→α→Int):Nat→List α→Int
 | _,[]=>0
 | i,y::r=>if g i y=0 then yQ g (i+1) r else g i y
theorem kT (a b c:Int):fy a b c=some (decide (a<b∨c<a),()):=by
 unfold fy
 by_cases h:a<b
 ·rw[aY h];simp[h]
 ·rw[bh h];simp[h]
theorem vB (n:Int):pZ n=some (decide (1≤n∧n≤3652059),()):=by
 unfold pZ
 rw[kT,ai1]
 congr 2
 simp only[← decide_not]
 congr 1
 simp only[eq_iff_iff];omega
def cM (s:Bys):Bool:=((fT s).map (·.1)).getD false
theorem tD (s:Bys):fT s=some (cM s,()):=by
 have:∃ b,fT s=some (b,()):=by
  unfold fT
  by_cases h1:(s.length:Int)<1
  ·rw[aY h1];exact⟨_,rfl⟩
  ·rw[bh h1]
   by_cases h2:(s.length:Int)>40
   ·rw[aY h2];exact⟨_,rfl⟩
   ·rw[bh h2]
    have hs:vU s 0=some (s[0]'(by omega)):=by simp[vU]
    rw[hs]
    simp only[ai1]
    have ht:mg s [97,98,99,100,101,102,103,104,105,106,107,108,109,110,111,112,113,114,115,116,117,118,119,120,121,122,48,49,50,51,52,53,54,55,56,57,45]=some (Lib.trimS s [97,98,99,100,101,102,103,104,105,106,107,108,109,110,111,112,113,114,115,116,117,118,119,120,121,122,48,49,50,51,52,53,54,55,56,57,45],()):=by
     unfold mg
     rw[show (decide (s.length≤9223372036854775807))=true by simp;omega]
     rfl
    rw[ht]
    simp only[ai1]
    generalize (decide ((((s[0]'(by omega)).toNat:Int))<97))=b1
    generalize (decide ((((s[0]'(by omega)).toNat:Int))>122))=b2
    cases b1<;>cases b2<;>exact⟨_,rfl⟩
 obtain⟨b,hb⟩:=this
 unfold cM
 rw[hb];rfl
theorem HZ (d:ah):iG d=some (if -1000000000000000≤d.1∧d.1≤1000000000000000∧0≤d.2∧d.2≤9 then 0 else 1,()):=by
 unfold iG
 rw[kT,ai1,kT]
 simp only[ai1]
 by_cases h1:d.1< -1000000000000000∨1000000000000000<d.1
 ·rw[aY h1,ajo (by omega)]
 ·rw[bh h1]
  by_cases h2:d.2<0∨9<d.2
  ·rw[aY h2,ajo (by omega)]
  ·rw[bh h2,ajp (by omega)]
theorem ad1 {n:Nat} (h:n≤18):(10:Int) ^ n≤1000000000000000000:=by
 have:=aiV (n:=10) (by omega) h
 have h2:=Int.ofNat_le.2 this
 simpa using h2
theorem Dx (n:Nat):(0:Int)<10 ^ n:=Rv (by omega) n
theorem VS (n:Int) (h0:0≤n) (h1:n≤18):RV n=some (10 ^ n.toNat,()):=by
 obtain⟨m,rfl⟩:∃ m:Nat,n=m:=⟨n.toNat,by omega⟩
 unfold RV
 have:iter (X:=yy) (β:=yx) (Int.natAbs (1:Int)+(Int.natAbs (m:Int)+(Int.natAbs (0:Int)+2))) (1,(m:Int),0,()) yu=some (Sum.inr (10 ^ m,())):=by
  refine cO (Inv:=fun i x=>x=(10 ^ i,(m:Int),(i:Int),())) m (fun r=>r=some (Sum.inr (10 ^ m,()))) ?_ ?_ _ 0 _ (by simp) (by omega) (by omega)
  ·rintro i _ again hi rfl ih
   unfold yu
   dsimp only
   have h10:=ad1 (n:=i+1) (by omega)
   have hp:=Dx (i+1)
   rw[agX] at h10 hp
   rw[aY (by omega),av (by omega) (by omega),av (by omega) (by omega)]
   exact ih _ (by rw[agX];rfl)
  ·rintro _ again rfl
   unfold yu
   dsimp only
   rw[bh (by omega)]
 rw[this,aM]
 simp
def OR (d:ah):Prop:=0<d.1∧0≤d.2∧d.2≤4∧d.1≤1000000000*10 ^ d.2.toNat
instance (d:ah):Decidable (OR d):=by unfold OR;exact inferInstance
structure afg (d:sB):Prop where
 day0:1≤d.2.1
 day1:d.2.1≤3652059
 mon:OR d.2.2.1
 days0:0≤d.2.2.2.1
 days1:d.2.2.2.1≤10000
 with0:0≤d.2.2.2.2.1
 with1:d.2.2.2.2.1≤d.2.2.2.1
 disc0:0≤d.2.2.2.2.2
 disc1:d.2.2.2.2.2≤1000
structure agi (p:VQ):Prop where
 day0:1≤p.1
 day1:p.1≤3652059
 mon:OR p.2.1
 names:p.2.2.length≤100
end Go.Md
namespace Go.Md
open Go.Dn
def OW (d:ah):Int:=d.1*10 ^ (4 - d.2).toNat
theorem OR.OW {d:ah} (h:OR d):0<OW d∧OW d≤10000000000000:=by
 obtain⟨h1,h2,h3,h4⟩:=h
 unfold Md.OW
 have hp:=Dx (4 - d.2).toNat
 refine⟨Int.mul_pos h1 hp, ?_⟩
 have a1:d.1*10 ^ (4 - d.2).toNat≤1000000000*10 ^ d.2.toNat*10 ^ (4 - d.2).toNat:=Int.mul_le_mul_of_nonneg_right h4 (by omega)
 rw[agQ, ← Int.pow_add,show d.2.toNat+(4 - d.2).toNat=4 by omega] at a1
 omega
abbrev Bd:=tW
def abf (x:Bd):Int:=x.2.1
def abj (x:Bd):Int:=x.2.2.1
def taken (x:Bd):Int:=x.2.2.2.1
def done (x:Bd):Int:=x.2.2.2.2
structure WT (x:Bd):Prop where
 d:afg x.1
 owes0:0≤abf x
 paid0:0≤abj x
 taken0:0≤taken x
 sum:abf x+abj x+taken x=OW x.1.2.2.1
 none:done x=0→taken x=0
 done0:done x=0∨x.1.2.1≤done x
 iff:abf x=0↔done x≠0
theorem WT.le {x:Bd} (h:WT x):abf x≤10000000000000∧abj x≤10000000000000∧taken x≤10000000000000:=by
 have:=h.d.mon.OW;have:=h.sum;have:=h.owes0;have:=h.paid0;have:=h.taken0;omega
section
variable {ar:List Bd} {h:Nat} {x:Bd}
theorem ae9 {α:Type} {l:List α} {i:Nat} {x y:α} (h:l[i]? =some x):(l.set i y)[i]? =some y:=ahC (ahx.1 h).1
end
end Go.Md
namespace Go.Md
open Go.Dn
structure mN (ds:List sB) (ar:List Bd):Prop where
 ds:ar.map (·.1)=ds
 ok:∀ x∈ar,WT x
theorem mN.len {ds:List sB} {ar:List Bd} (h:mN ds ar):ar.length=ds.length:=by rw[← h.ds];simp
theorem mN.set {ds:List sB} {ar:List Bd} (h:mN ds ar) {i:Nat} {x y:Bd} (hx:ar[i]? =some x) (hy:WT y) (he:y.1=x.1):mN ds (ar.set i y):=by
 refine⟨?_,fun z hz=> ?_⟩
 ·rw[List.map_set,he, ← h.ds]
  apply ahk
  intro j
  by_cases hj:i=j
  ·subst hj
   rw[ahC (by simp;exact (ahx.1 hx).1),ahy,hx];rfl
  ·rw[ahB hj]
 ·rcases ah9 hz with hz | rfl
  ·exact h.ok z hz
  ·exact hy
theorem mN.get {ds:List sB} {ar:List Bd} (h:mN ds ar) {i:Nat} {x:Bd} (hx:ar[i]? =some x):WT x:=h.ok x (ah7 hx)
def afd (ar:List Bd):Int:=(ar.map abj).sum
structure agj (ds:List sB) (L T:Int) (s:Int×List Bd):Prop where
 ar:mN ds s.2
 l0:0≤s.1
 l1:s.1≤L
 tot:s.1+afd s.2=T
theorem Vw {k v:Ty} (p:k.den×v.den) (m:List (k.den×v.den)) (n:k.den):bU (p::m) n=bif k.beq n p.1 then some p.2 else bU m n:=by
 unfold bU
 rw[List.find?_cons]
 cases k.beq n p.1<;>rfl
theorem acL {k v:Ty} (p:k.den×v.den) (m:List (k.den×v.den)) (x:k.den) (y:v.den):kF (p::m) x y=bif k.beq x p.1 then (x,y)::m else p::kF m x y:=rfl
end Go.Md
namespace Go.Md
open Go.Dn
def few:Nat→Int→Int×Nat
 | 0,z=>(z,0)
 | p+1,z=>if z % 10=0 then few p (z / 10) else (z,p+1)
theorem OY:∀ (p:Nat) (z:Int),(few p z).2≤p∧(few p z).1*10 ^ (p - (few p z).2)=z∧(few p z).1.natAbs≤z.natAbs
 | 0,z=>by simp[few]
 | p+1,z=>by
  unfold few
  split
  ·rename_i h
   obtain⟨h1,h2,h3⟩:=OY p (z / 10)
   refine⟨by omega, ?_,by omega⟩
   rw[show p+1 - (few p (z / 10)).2=(p - (few p (z / 10)).2)+1 by omega,agX, ← agQ,h2]
   omega
  ·simp
theorem Q7:∀ p,few p 0=(0,0)
 | 0=>rfl
 | p+1=>by unfold few;simp[Q7 p]
theorem TS (z:Int) (p:Int):qu (W z) p=some (if z.natAbs≤1000000000000000 then ((z,p),0,()) else ((0,0),1,())):=by
 unfold qu
 rw[RI z 1000000000000000 (by omega) (by omega),ai1]
 by_cases h:(z.natAbs:Int)≤1000000000000000
 ·rw[ajp h,ajp (by omega)];rfl
 ·rw[ajo h,ajo (by omega)];rfl
theorem QL (z:Int) (hz:z.natAbs<4294967296 ^ 99) (p:Nat) (hp:p≤1000):yt (W z) (p:Int)=some (if (few p z).1.natAbs≤1000000000000000 then (((few p z).1,((few p z).2:Int)),0,()) else ((0,0),1,())):=by
 unfold yt
 rw[QG 10 (by omega) (by omega),ai1]
 dsimp only
 have loop:∀ (n:Nat) (z:Int) (p:Nat),z.natAbs<4294967296 ^ 99→p≤1000→p<n→iter (X:=sE) (β:=sD) n ((p:Int),(W z).1,(W z).2,0,0,(W 10).1,(W 10).2,()) sC=some (Sum.inr (((few p z).2:Int),(W (few p z).1).1,(W (few p z).1).2,0,0,())):=by
  intro n
  induction n with
  | zero=>intro z p _ _ h;omega
  | succ n ih=>
   intro z p hz hp hn
   rw[bH]
   generalize hag:(fun y=>iter n y sC)=again
   unfold sC
   dsimp only
   cases p with
   | zero=>rw[bh (by omega)];rfl
   | succ p=>
    have e10:(10:Int).natAbs=10:=rfl
    rw[aY (by omega)]
    change (Option.bind (wm (W z) (W 10)) _)=_
    rw[TN z 10 hz (by rw[e10];exact aiI (by omega) (aiV (n:=4294967296) (by omega) (show 1≤99 by omega))) (by omega),ai1]
    dsimp only
    rw[Es,ai1]
    dsimp only
    rw[e10]
    by_cases hm:z % 10=0
    ·have hm2:z.natAbs % 10=0:=by omega
     rw[hm2,show ((((0:Nat):Int).sign) != 0)=false from rfl,ajc]
     change (Option.bind (lu (W z)) _)=_
     rw[Es,ai1]
     dsimp only
     have hf:few (p+1) z=few p (z / 10):=by simp[few,hm]
     rw[hf]
     have hz':(z / 10).natAbs<4294967296 ^ 99:=aiH (by omega) hz
     by_cases hneg:z<0
     ·rw[aY (by rw[agY hneg];omega),OM _ (by simp only[Int.natAbs_natCast];exact aiH (Nat.div_le_self _ _) hz),ai1]
      dsimp only
      rw[show -((z.natAbs / 10:Nat):Int)=z / 10 by omega,av (by omega) (by omega),show ((p+1:Nat):Int) - 1=(p:Int) by omega, ← hag]
      exact ih (z / 10) p hz' (by omega) (by omega)
     ·rw[bh (by
       rcases (show z=0∨0<z by omega) with h | h
       ·subst h;decide
       ·rw[agZ h];omega),show ((z.natAbs / 10:Nat):Int)=z / 10 by omega,av (by omega) (by omega),show ((p+1:Nat):Int) - 1=(p:Int) by omega, ← hag]
      exact ih (z / 10) p hz' (by omega) (by omega)
    ·have hm2:0<z.natAbs % 10:=by omega
     have:(((z.natAbs % 10:Nat):Int).sign != 0)=true:=by
      rw[agZ (by omega)];rfl
     rw[this,ajd]
     have hf:few (p+1) z=(z,p+1):=by simp[few,hm]
     rw[hf]
 have:=loop (Int.natAbs (p:Int)+(List.length (W z).2+(Int.natAbs (0:Int)+(Int.natAbs (0:Int)+(List.length (W 10).2+2))))) z p hz hp (by omega)
 rw[this,aM]
 dsimp only
 change (Option.bind (qu (W (few p z).1) ((few p z).2:Int)) _)=_
 rw[TS,ai1]
def nA (d:ah):Int:=d.1*10 ^ (9 - d.2).toNat
def ig (d:ah):Prop:=d.1.natAbs≤1000000000000000∧0≤d.2∧d.2≤9
theorem Ir {z:Int} (h:z.natAbs<1000000000000000000000000000000000000000000000000000000000000):(dg6 z.natAbs).length≤10:=ZK (k:=10) (by simpa using h)
theorem Qy (n:Nat) (hn:n≤40):Lm (n:Int)=some (N (10 ^ n),()):=by
 unfold Lm
 rw[Ll 1 (by omega) (by omega),ai1]
 dsimp only
 have hb:∀ i:Nat,i≤41→(dg6 ((10:Int) ^ i).natAbs).length≤10:=by
  intro i hi
  refine Ir ?_
  have h1:((10:Int) ^ i).natAbs=10 ^ i:=by rw[agV];rfl
  have h2:=aiV (n:=10) (by omega) hi
  omega
 have loop:iter (X:=Cr) (β:=Cq) (Int.natAbs (n:Int)+(Int.natAbs (0:Int)+(List.length ([]:List Int)+(List.length (N 1).2+2)))) ((n:Int),0,false,[],(N 1).1,(N 1).2,()) Cp=some (Sum.inr (false,[],(N (10 ^ n)).1,(N (10 ^ n)).2,())):=by
  refine cO (Inv:=fun i x=>x=((n:Int),(i:Int),false,[],(N (10 ^ i)).1,(N (10 ^ i)).2,())) n (fun r=>r=some (Sum.inr (false,[],(N (10 ^ n)).1,(N (10 ^ n)).2,()))) ?_ ?_ _ 0 _ (by simp) (by omega) (by omega)
  ·rintro i _ again hi rfl ih
   unfold Cp
   dsimp only
   rw[aY (by omega),Ll 10 (by omega) (by omega),ai1]
   change (Option.bind (wR (N (10 ^ i)) (N 10)) _)=_
   have h10:(dg6 (10:Int).natAbs).length≤10:=Ir (by decide)
   rw[DW _ _ (by have:=hb i (by omega);omega) (by omega),ai1]
   dsimp only
   rw[av (by omega) (by omega)]
   exact ih _ (by rw[agX];rfl)
  ·rintro _ again rfl
   unfold Cp
   dsimp only
   rw[bh (by omega)]
 rw[loop,aM]
theorem Yo (d:ah) (hd:ig d):EP d 9=some (N (nA d),()):=by
 obtain⟨h1,h2,h3⟩:=hd
 unfold EP
 rw[Ll _ (by omega) (by omega),ai1,av (by omega) (by omega)]
 dsimp only
 obtain⟨m,hm⟩:∃ m:Nat,9 - d.2=m:=⟨(9 - d.2).toNat,by omega⟩
 rw[hm,Qy m (by omega),ai1]
 dsimp only
 have hl1:(dg6 d.1.natAbs).length≤10:=Ir (by omega)
 have hl2:(dg6 ((10:Int) ^ m).natAbs).length≤10:=by
  refine Ir ?_
  have h1:((10:Int) ^ m).natAbs=10 ^ m:=by rw[agV];rfl
  have h2:=aiV (n:=10) (by omega) (show m≤9 by omega)
  omega
 rw[DW _ _ (by omega) (by omega),ai1]
 unfold nA
 rw[hm];rfl
theorem Sf {d:ah} (hd:ig d):(nA d).natAbs≤1000000000000000000000000:=by
 obtain⟨h1,h2,h3⟩:=hd
 unfold nA
 rw[agU,agV]
 have h4:=aiV (n:=10) (by omega) (show (9 - d.2).toNat≤9 by omega)
 have h5:d.1.natAbs*(10:Int).natAbs ^ (9 - d.2).toNat≤1000000000000000*1000000000:=Nat.mul_le_mul h1 (by simpa using h4)
 omega
end Go.Md
namespace Go.Md
open Go.Dn
end Go.Md
namespace Go.Md
open Go.Dn
end Go.Md
namespace Go.Md
open Go.Dn
theorem SW {X α B:Type} {f:X→(X→Option B)→Option B} (mk:Nat→X) (l:List α) (g:Nat→α→Int) (fin:Option B) (out:Int→Option B)
 (hstep:∀ i y again,l[i]? =some y→f (mk i) again=if g i y=0 then again (mk (i+1)) else out (g i y)) (hend:∀ again,f (mk l.length) again=fin):
 ∀ (r:List α) (i n:Nat),l.drop i=r→i≤l.length→r.length<n→iter n (mk i) f=if yQ g i r=0 then fin else out (yQ g i r)
 | _,_,0,_,_,hn=>absurd hn (aiS _)
 | [],i,n+1,hd,hi,_=>by
  have:i=l.length:=by
   have:=congrArg List.length hd
   simp at this;omega
  subst this
  rw[bH,hend];rfl
 | y::r,i,n+1,hd,hi,hn=>by
  have hy:l[i]? =some y:=by
   have:=congrArg (·[0]?) hd
   simpa [ahu] using this
  have hr:l.drop (i+1)=r:=by
   have:=congrArg List.tail hd
   simpa [ain] using this
  have hi':i<l.length:=(ahx.1 hy).1
  rw[bH,hstep i y _ hy]
  by_cases hg:g i y=0
  ·have e:yQ g i (y::r)=yQ g (i+1) r:=by simp[yQ,hg]
   rw[ajp hg,e]
   exact SW mk l g fin out hstep hend r (i+1) n hr hi' (by simp at hn;omega)
  ·have e:yQ g i (y::r)=g i y:=by simp[yQ,hg]
   rw[ajo hg,e,ajo hg]
end Go.Md
namespace Go.Md
open Go.Dn
def WV (D:Int) (S:Nat→Prop) (ar:List Bd):Prop:=∀ i x,S i→ar[i]? =some x→done x=0∨D<done x
theorem WV.set {D:Int} {S:Nat→Prop} {ar:List Bd} {h:Nat} {x y:Bd} (hq:WV D S ar) (hx:ar[h]? =some x) (hy:(done x=0∨D<done x)→(done y=0∨D<done y)):WV D S (ar.set h y):=by
 intro i z hi hz
 by_cases e:h=i
 ·subst e
  rw[ae9 hx] at hz
  cases hz
  exact hy (hq h x hi hx)
 ·rw[ahB e] at hz
  exact hq i z hi hz
theorem Ot {α:Type} {k:α→Int} {l a b:List α} (ha:Srt k a) (hb:Srt k b) (ka:bM k l a) (kb:bM k l b):a=b:=by
 have key:∀ (a b:List α),Srt k a→Srt k b→(∀ v,a.filter (fun x=>k x==v)=b.filter (fun x=>k x==v))→a.length=b.length→a=b:=by
  intro a
  induction a with
  | nil=>intro b _ _ _ hl;exact (ahj hl.symm).symm
  | cons x a ih=>
   intro b sa sb hf hl
   cases b with
   | nil=>simp at hl
   | cons y b=>
    have sa':=aie.1 sa
    have sb':=aie.1 sb
    have hxb:x∈(y::b):=by
     have:x∈(x::a).filter (fun z=>k z==k x):=by simp
     rw[hf (k x)] at this
     exact (ah2.1 this).1
    have hya:y∈(x::a):=by
     have:y∈(y::b).filter (fun z=>k z==k y):=by simp
     rw[← hf (k y)] at this
     exact (ah2.1 this).1
    have hk:k x=k y:=by
     have h1:k y≤k x:=by
      rcases ah0.1 hxb with h | h
      ·rw[h];exact agO _
      ·exact sb'.1 x h
     have h2:k x≤k y:=by
      rcases ah0.1 hya with h | h
      ·rw[h];exact agO _
      ·exact sa'.1 y h
     omega
    have hxy:x=y:=by
     have:=hf (k x)
     rw[ahn (by simp),ahn (by simp[hk])] at this
     exact (List.cons.inj this).1
    subst hxy
    congr 1
    refine ih b sa'.2 sb'.2 (fun v=> ?_) (by simpa using hl)
    have:=hf v
    by_cases hv:k x=v
    ·rw[ahn (by simp[hv]),ahn (by simp[hv])] at this
     exact (List.cons.inj this).2
    ·rw[List.filter_cons_of_neg (by simp[hv]),List.filter_cons_of_neg (by simp[hv])] at this
     exact this
 exact key a b ha hb (fun v=>by rw[ka.keys,kb.keys]) (by rw[ka.length,kb.length])
end Go.Md
namespace Go.Md
open Go.Dn
def nmC:Bys:=[97,98,99,100,101,102,103,104,105,106,107,108,109,110,111,112,113,114,115,116,117,118,119,120,121,122,48,49,50,51,52,53,54,55,56,57,45]
def nmB (c:UInt8):Bool:=nmC.contains c
set_option maxRecDepth 100000 in
theorem aeZ:∀ n:Fin 256,nmB (UInt8.ofNat n.1)=((decide (97≤n.1)&&decide (n.1≤122))||((decide (48≤n.1)&&decide (n.1≤57))||decide (n.1=45))):=by decide
theorem afA (c:UInt8):nmB c=((decide (97≤c.toNat)&&decide (c.toNat≤122))||((decide (48≤c.toNat)&&decide (c.toNat≤57))||decide (c.toNat=45))):=by
 have:=aeZ ⟨c.toNat,UInt8.toNat_lt c⟩
 simpa using this
theorem Hu {α:Type} {p:α→Bool}:∀ {l:List α},l.dropWhile p=[]↔∀ x∈l,p x=true
 | []=>by simp
 | y::r=>by
  cases hp:p y with
  | true=>rw[List.dropWhile_cons_of_pos hp,Hu];simp[hp]
  | false=>rw[List.dropWhile_cons_of_neg (by simp[hp])];simp[hp]
theorem Sx {α:Type} {p:α→Bool} {y:α} {r:List α}:∀ {l:List α},l.dropWhile p=y::r→p y=false
 | [],h=>by simp at h
 | z::t,h=>by
  cases hp:p z with
  | true=>rw[List.dropWhile_cons_of_pos hp] at h;exact Sx h
  | false=>rw[List.dropWhile_cons_of_neg (by simp[hp])] at h;cases h;exact hp
theorem adl (s c:Bys):(Lib.trimS s c==[])=s.all (c.contains ·):=by
 rw[agA]
 simp only[beq_iff_eq,ag4]
 unfold Lib.trimS Lib.trimLeftS Lib.trimRightS
 constructor
 ·intro h
  rw[Hu] at h
  cases hd:s.reverse.dropWhile (c.contains ·) with
  | nil=>
   rw[Hu] at hd
   intro x hx
   exact hd x (by simpa using hx)
  | cons y r=>
   exfalso
   have h1:=h y (by rw[hd];simp)
   have h2:=Sx hd
   rw[h1] at h2
   cases h2
 ·intro h
  have:s.reverse.dropWhile (c.contains ·)=[]:=Hu.2 fun x hx=>h x (by simpa using hx)
  rw[this];rfl
theorem VL {α:Type} (p:α→Bool) (e:Int) (he:e≠0):∀ (l:List α) (i:Nat),yQ (fun _ c=>if p c=true then 0 else e) i l=if l.all p=true then 0 else e
 | [],i=>by simp[yQ]
 | y::r,i=>by
  have ih:=VL p e he r (i+1)
  cases hp:p y with
  | true=>simp only[yQ,hp,ajq,ag3,agL];exact ih
  | false=>simp[yQ,hp,he]
theorem RF {s:Bys} {i:Nat} {c:UInt8} (h:s[i]? =some c):vU s (i:Int)=some c:=by simp[vU,h]
theorem vP (s:Bys):kD s=some (cM s,()):=by
 unfold kD cM fT OC
 by_cases h0:s=[]
 ·subst h0;rfl
 have hb:(s==[])=false:=by simpa using h0
 have hl:0<s.length:=List.length_pos_iff.2 h0
 rw[hb,ajc,bh (show ¬((s.length:Int)<1) by omega)]
 by_cases h2:(s.length:Int)>40
 ·rw[aY h2,aY h2];rfl
 rw[bh h2,bh h2]
 have hs:vU s 0=some (s[0]'hl):=RF (i:=0) (bQ hl)
 simp only[hs,ai1]
 by_cases h3:(((s[0]'hl).toNat:Int))<97
 ·simp only[aY h3];rfl
 simp only[bh h3]
 by_cases h4:(((s[0]'hl).toNat:Int))>122
 ·simp only[aY h4];rfl
 simp only[bh h4]
 have ht:mg s [97,98,99,100,101,102,103,104,105,106,107,108,109,110,111,112,113,114,115,116,117,118,119,120,121,122,48,49,50,51,52,53,54,55,56,57,45]=some (Lib.trimS s nmC,()):=by
  unfold mg
  rw[show (decide (s.length≤9223372036854775807))=true by simp;omega]
  rfl
 rw[ht,ai1]
 have loop:=SW (f:=AN) (fun i=>(s,(s.length:Int),(i:Int),())) s (fun _ c=>if nmB c=true then 0 else 1) (some (Sum.inr ())) (fun _=>some (Sum.inl (false,())))
  (fun i c again hi=>by
    have hil:=(ahx.1 hi).1
    unfold AN
    dsimp only
    rw[aY (show (i:Int)<(s.length:Int) by omega),RF hi,ai1,afA c,av (by omega) (by omega)]
    by_cases a1:(c.toNat:Int)<97<;>by_cases a2:(c.toNat:Int)>122<;>by_cases a3:(c.toNat:Int)<48<;>by_cases a4:(c.toNat:Int)>57<;>by_cases a5:(c.toNat:Int)=45<;>
      first
      | omega
      | (have b1:(97≤c.toNat)=¬ ((c.toNat:Int)<97):=by simp only[eq_iff_iff];omega
         have b2:(c.toNat≤122)=¬ ((c.toNat:Int)>122):=by simp only[eq_iff_iff];omega
         have b3:(48≤c.toNat)=¬ ((c.toNat:Int)<48):=by simp only[eq_iff_iff];omega
         have b4:(c.toNat≤57)=¬ ((c.toNat:Int)>57):=by simp only[eq_iff_iff];omega
         have b5:(c.toNat=45)=((c.toNat:Int)=45):=by simp only[eq_iff_iff];omega
         simp only[b1,b2,b3,b4,b5,a1,a2,a3,a4,a5,bne,ajk,ajj,not_true_eq_false,ajt,agz,agL,agy,Bool.false_and,Bool.or_true,Bool.true_or,Bool.or_false,agD,ajd,ajc,ajq,agB,ajn,Int.one_ne_zero,aja,agI]
         first | rfl | (have a6:((c.toNat:Int)==45)=false:=(by simp only[ai9,ne_eq];exact a5);rw[a6];rfl)))
  (fun again=>by
    unfold AN
    dsimp only
    rw[bh (by omega)])
  s 0 (List.length s+(Int.natAbs ((List.length s:Int))+(Int.natAbs (0:Int)+2))) rfl (aiY _) (by omega)
 rw[show ((0:Nat):Int)=0 from rfl] at loop
 rw[loop,VL nmB 1 (by omega),adl]
 have e:(s.all fun x=>nmC.contains x)=s.all nmB:=rfl
 rw[e]
 cases s.all nmB<;>rfl
theorem Gr (a b c:Int):zO a b c=some (decide (b≤a∧a≤c),()):=by
 unfold zO
 by_cases h:b≤a
 ·rw[aY h];simp[h]
 ·rw[bh h];simp[h]
theorem Cl (n:Int):zf n=some (decide (1≤n∧n≤3652059),()):=by
 unfold zf Ry
 rw[Gr];rfl
theorem OA (d:ah):mG d=some (if -1000000000000000≤d.1∧d.1≤1000000000000000∧0≤d.2∧d.2≤9 then 0 else 1,()):=by
 unfold mG
 rw[Gr,ai1]
 by_cases h1: -1000000000000000≤d.1∧d.1≤1000000000000000
 ·rw[ajh h1]
  simp only[agI,ajc]
  rw[Gr,ai1]
  by_cases h2:0≤d.2∧d.2≤9
  ·rw[ajh h2,ajp ⟨h1.1,h1.2,h2⟩];rfl
  ·rw[ajf h2,ajo (fun h=>h2 h.2.2)];rfl
 ·rw[ajf h1,ajo (fun h=>h1 ⟨h.1,h.2.1⟩)];rfl
theorem abn {a b:ah} (ha:ig a) (hb:ig b):aak a b=some ((nA a - nA b).sign,()):=by
 unfold aak
 have l1:=Sf ha
 have l2:=Sf hb
 have m1:=Ir (z:=nA a) (by omega)
 have m2:=Ir (z:=nA b) (by omega)
 rw[Yo a ha,ai1,Yo b hb,ai1,VF _ _ (by omega) (by omega)]
 rfl
instance (d:ah):Decidable (ig d):=by unfold ig;infer_instance
end Go.Md
