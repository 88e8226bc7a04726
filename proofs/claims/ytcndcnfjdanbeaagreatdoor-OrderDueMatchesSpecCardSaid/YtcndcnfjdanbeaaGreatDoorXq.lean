/-
  Plain facts, small ones. No condition.
-/
import Derived.Test.YtcndcnfjdanbeaaGreatDoorXp
import Derived.Test.YtcndcnfjdanbeaaGreatDoorXm
set_option linter.all false
namespace Go.Md
open Go.Dn
structure bL {α:Type} (k:α→Int) (l l':List α):Prop where
 perm:l.Perm l'
 keys:∀ v,l'.filter (fun x=>k x==v)=l.filter (fun x=>k x==v)
theorem bL.refl {α:Type} (k:α→Int) (l:List α):bL k l l:=⟨List.Perm.refl _,fun _=>rfl⟩
theorem bL.trans {α:Type} {k:α→Int} {a b c:List α} (h:bL k a b) (g:bL k b c):bL k a c:=⟨h.perm.trans g.perm,fun v=>(g.keys v).trans (h.keys v)⟩
theorem bL.append {α:Type} {k:α→Int} {a b c d:List α} (h:bL k a b) (g:bL k c d):bL k (a++c) (b++d):=
 ⟨h.perm.append g.perm,fun v=>by rw[ahK,ahK,h.keys,g.keys]⟩
theorem bL.mem {α:Type} {k:α→Int} {a b:List α} (h:bL k a b) {x:α}:x∈b↔x∈a:=h.perm.mem_iff.symm
theorem bL.length {α:Type} {k:α→Int} {a b:List α} (h:bL k a b):b.length=a.length:=h.perm.length_eq.symm
theorem bL.swap {α:Type} {k:α→Int} {u v:List α} (h:∀ x∈u,∀ y∈v,k x≠k y):bL k (u++v) (v++u):=by
 refine⟨List.perm_append_comm,fun w=> ?_⟩
 rw[ahK,ahK]
 by_cases hu:∃ x∈u,k x=w
 ·obtain⟨x,hx,rfl⟩:=hu
  have:v.filter (fun y=>k y==k x)=[]:=by
   rw[List.filter_eq_nil_iff]
   intro y hy
   simpa using fun e=>h x hx y hy e.symm
  rw[this];simp
 ·have:u.filter (fun y=>k y==w)=[]:=by
   rw[List.filter_eq_nil_iff]
   intro y hy
   simpa using fun e=>hu ⟨y,hy,e⟩
  rw[this];simp
def Srt {α:Type} (k:α→Int) (l:List α):Prop:=l.Pairwise fun x y=>k x≤k y
theorem Srt.append {α:Type} {k:α→Int} {a b:List α} (ha:Srt k a) (hb:Srt k b) (h:∀ x∈a,∀ y∈b,k x≤k y):Srt k (a++b):=aiF.2 ⟨ha,hb,h⟩
theorem Srt.left {α:Type} {k:α→Int} {a b:List α} (h:Srt k (a++b)):Srt k a:=(aiF.1 h).1
theorem Srt.right {α:Type} {k:α→Int} {a b:List α} (h:Srt k (a++b)):Srt k b:=(aiF.1 h).2.1
theorem Srt.La {α:Type} {k:α→Int} {a b:List α} (h:Srt k (a++b)):∀ x∈a,∀ y∈b,k x≤k y:=(aiF.1 h).2.2
theorem Zm {α:Type} (A B:List α) (x y:α):((A++y::x::B).set (A.length+1) y).set A.length x=A++x::y::B:=by
 induction A with
 | nil=>rfl
 | cons a A ih=>simp only[ahz,aia,aiK,ih]
theorem adT {α:Type} (A B:List α) (x y:α):((A++x::y::B).set A.length y).set (A.length+1) x=A++y::x::B:=by
 induction A with
 | nil=>rfl
 | cons a A ih=>simp only[ahz,aia,aiK,ih]
theorem get_at {α:Type} (A B:List α) (y:α):(A++y::B)[A.length]? =some y:=by simp
theorem PY {α:Type} (A B:List α) (x y:α):(A++y::x::B)[A.length+1]? =some x:=by simp
theorem qN {α:Type} {l:List α} {n:Nat} (h:n≤l.length):∃ A B,l=A++B∧A.length=n:=⟨l.take n,l.drop n,by simp,by simp;omega⟩
section
variable {k:Option Nat→Int} {ar:List tZ} {ok:Option Nat→Prop}
theorem aeO {α:Type} {k:α→Int} {P:List α} (h:Srt k P) {v:Int} (hl:∀ y,P.getLast? =some y→k y≤v):∀ y∈P,k y≤v:=by
 rcases List.eq_nil_or_concat P with rfl | ⟨Q,z,rfl⟩
 ·simp
 ·rw[List.concat_eq_append] at*
  have hz:=hl z (by simp)
  intro y hy
  rcases aip.1 hy with hy | hy
  ·have:=h.La y hy z (by simp);omega
  ·rw[aiD.1 hy];exact hz
theorem aek {α:Type} {k:α→Int} {P2 P3:List α} {x:α} (hs:Srt k (P2++P3)) (h3:∀ y∈P3,k x<k y) (h2:∀ y,P2.getLast? =some y→k y≤k x):Srt k (P2++x::P3)∧bL k (P2++P3++[x]) (P2++x::P3):=by
 constructor
 ·refine hs.left.append (aiG.2 ⟨fun y hy=>by have:=h3 y hy;omega,hs.right⟩) ?_
  intro y hy z hz
  have hy':=aeO hs.left h2 y hy
  rcases ais.1 hz with rfl | hz
  ·exact hy'
  ·exact hs.La y hy z hz
 ·rw[ahx]
  refine (bL.refl k P2).append ?_
  have:=bL.swap (k:=k) (u:=P3) (v:=[x]) (fun y hy z hz=>by rw[aiD.1 hz];have:=h3 y hy;omega)
  simpa using this
end
end Go.Md
namespace Go.Md
open Go.Dn
theorem aa8 {α:Type} (A B:List α) (x y:α):(A++x::B).set A.length y=A++y::B:=by
 induction A with
 | nil=>rfl
 | cons a A ih=>simp only[ahz,aia,aiK,ih]
section
variable {k:Option Nat→Int} {ar:List tZ} {ok:Option Nat→Prop}
end
end Go.Md
namespace Go.Md
open Go.Dn
theorem bsearch {X β:Type} {f:X→(X→Option β)→Option β} (mk:Nat→Nat→X) (fin:Nat→Option β) (P:Nat→Prop) [DecidablePred P] (lo hi:Nat)
 (hstep:∀ i j again,lo≤i→i<j→j≤hi→f (mk i j) again=if P ((i+j) / 2) then again (mk ((i+j) / 2+1) j) else again (mk i ((i+j) / 2)))
 (hend:∀ i again,lo≤i→i≤hi→f (mk i i) again=fin i) (mono:∀ s t,lo≤s→s≤t→t<hi→P t→P s):
 ∀ n i j,j - i<n→lo≤i→i≤j→j≤hi→(∀ t,lo≤t→t<i→P t)→(∀ t,j≤t→t<hi→¬P t)→∃ r,iter n (mk i j) f=fin r∧lo≤r∧r≤hi∧(∀ t,lo≤t→t<r→P t)∧(∀ t,r≤t→t<hi→¬P t)
 | 0,i,j,hn,_,_,_,_,_=>by omega
 | n+1,i,j,hn,h1,h2,h3,h4,h5=>by
  rw[cl]
  by_cases hij:i=j
  ·subst hij
   exact⟨i,hend i _ h1 h3,h1,h3,h4,h5⟩
  ·rw[hstep i j _ h1 (by omega) h3]
   by_cases hP:P ((i+j) / 2)
   ·rw[ajO hP]
    exact bsearch mk fin P lo hi hstep hend mono n _ _ (by omega) (by omega) (by omega) h3 (fun t ht1 ht2=>mono t _ ht1 (show t≤(i+j) / 2 by omega) (by omega) hP) h5
   ·rw[ajN hP]
    exact bsearch mk fin P lo hi hstep hend mono n _ _ (by omega) h1 (by omega) (by omega) h4 (fun t ht1 ht2 hPt=>hP (mono _ t (by omega) ht1 ht2 hPt))
theorem P7 (i j:Nat) (h:i+j<4000000000000000000):w64 (Int.fdiv (b9 (w64 ((i:Int)+(j:Int)))) (2 ^ 1))=(((i+j) / 2:Nat):Int):=by
 rw[av (n:=(i:Int)+(j:Int)) (by omega) (by omega),gJ (by omega) (by omega),ahc _ (by omega),av (by omega) (by omega)]
 omega
theorem aeW {α:Type} (X L R Y:List α) {i:Nat} (h:i<L.length):(X++L++R++Y)[X.length+i]? =some L[i]:=by
 rw[ahx,ahx,ahT (by omega),ahS (by omega),show X.length+i - X.length=i by omega,ahX h]
theorem abB {α:Type} (X L R Y:List α) {i:Nat} (h:i<R.length):(X++L++R++Y)[X.length+L.length+i]? =some R[i]:=by
 rw[ahx,ahx,ahT (by omega),ahT (by omega),ahS (by omega),show X.length+L.length+i - X.length - L.length=i by omega,ahX h]
theorem Srt.get {α:Type} {k:α→Int} {l:List α} (h:Srt k l) {i j:Nat} (hij:i≤j) (hj:j<l.length):k (l[i]'(by omega))≤k l[j]:=by
 rcases Nat.lt_or_eq_of_le hij with h1 | h1
 ·exact aiH.1 h i j (by omega) hj h1
 ·subst h1;exact ahd _
section
variable {k:Option Nat→Int} {ar:List tZ} {ok:Option Nat→Prop}
end
end Go.Md
namespace Go.Md
open Go.Dn
section
variable {k:Option Nat→Int} {ar:List tZ} {ok:Option Nat→Prop}
end
end Go.Md
namespace Go.Md
open Go.Dn
def ChS {α:Type} (k:α→Int) (bs:Nat) (l:List α):Prop:=∀ j:Nat,Srt k ((l.drop (j*bs)).take bs)
theorem ChS.nil {α:Type} (k:α→Int) (bs:Nat):ChS k bs []:=fun _=>by simp[Srt]
theorem ChS.snoc {α:Type} {k:α→Int} {bs:Nat} {A S:List α} {j:Nat} (h:ChS k bs A) (hA:A.length=j*bs) (hS:Srt k S) (hl:S.length≤bs):ChS k bs (A++S):=by
 intro i
 rcases ajc i j with hij | hij | hij
 ·have h1:(i+1)*bs≤j*bs:=ajg _ hij
  rw[aiX,ajj] at h1
  rw[List.drop_append_of_le_length (by omega),aiQ (by rw[aib];omega)]
  exact h i
 ·subst hij
  rw[← hA,ahE,aiT hl]
  exact hS
 ·have h1:(j+1)*bs≤i*bs:=ajg _ hij
  rw[aiX,ajj] at h1
  rw[ahF (by rw[ah9];omega)]
  simp[Srt]
theorem ChS.drop {α:Type} {k:α→Int} {bs:Nat} {l:List α} (h:ChS k bs l) (i:Nat):ChS k bs (l.drop (i*bs)):=by
 intro j
 rw[ahC, ← aiX]
 exact h (i+j)
theorem Srt.take {α:Type} {k:α→Int} {l:List α} (h:Srt k l) (n:Nat):Srt k (l.take n):=by
 rw[← aiP n l] at h;exact h.left
section
variable {k:Option Nat→Int} {ar:List tZ} {ok:Option Nat→Prop}
end
end Go.Md
namespace Go.Md
open Go.Dn
def yT {α:Type} (g:Nat→α→Int):Nat→List α→Int
 | _,[]=>0
 | i,y::r=>if g i y=0 then yT g (i+1) r else g i y
theorem kQ (a b c:Int):fo a b c=some (decide (a<b∨c<a),()):=by
 unfold fo
 by_cases h:a<b
 ·rw[aX h];simp[h]
 ·rw[bh h];simp[h]
theorem rz (n:Int):nG n=some (decide (1≤n∧n≤3652059),()):=by
 unfold nG
 rw[kQ,ajq]
 congr 2
 simp only[← decide_not]
 congr 1
 simp only[eq_iff_iff];omega
def c9 (s:Bys):Bool:=((gz s).map (·.1)).getD false
theorem Eo (s:Bys):gz s=some (c9 s,()):=by
 have:∃ b,gz s=some (b,()):=by
  unfold gz
  by_cases h1:(s.length:Int)<1
  ·rw[aX h1];exact⟨_,rfl⟩
  ·rw[bh h1]
   by_cases h2:(s.length:Int)>40
   ·rw[aX h2];exact⟨_,rfl⟩
   ·rw[bh h2]
    have hs:vV s 0=some (s[0]'(by omega)):=by simp[vV]
    rw[hs]
    simp only[ajq]
    have ht:lZ s [97,98,99,100,101,102,103,104,105,106,107,108,109,110,111,112,113,114,115,116,117,118,119,120,121,122,48,49,50,51,52,53,54,55,56,57,45]=some (Lib.trimS s [97,98,99,100,101,102,103,104,105,106,107,108,109,110,111,112,113,114,115,116,117,118,119,120,121,122,48,49,50,51,52,53,54,55,56,57,45],()):=by
     unfold lZ
     rw[show (decide (s.length≤9223372036854775807))=true by simp;omega]
     rfl
    rw[ht]
    simp only[ajq]
    generalize (decide ((((s[0]'(by omega)).toNat:Int))<97))=b1
    generalize (decide ((((s[0]'(by omega)).toNat:Int))>122))=b2
    cases b1<;>cases b2<;>exact⟨_,rfl⟩
 obtain⟨b,hb⟩:=this
 unfold c9
 rw[hb];rfl
theorem IQ (d:ah):iD d=some (if -1000000000000000≤d.1∧d.1≤1000000000000000∧0≤d.2∧d.2≤9 then 0 else 1,()):=by
 unfold iD
 rw[kQ,ajq,kQ]
 simp only[ajq]
 by_cases h1:d.1< -1000000000000000∨1000000000000000<d.1
 ·rw[aX h1,ajN (by omega)]
 ·rw[bh h1]
  by_cases h2:d.2<0∨9<d.2
  ·rw[aX h2,ajN (by omega)]
  ·rw[bh h2,ajO (by omega)]
theorem aeC {n:Nat} (h:n≤18):(10:Int) ^ n≤1000000000000000000:=by
 have:=ajl (n:=10) (by omega) h
 have h2:=Int.ofNat_le.2 this
 simpa using h2
theorem DT (n:Nat):(0:Int)<10 ^ n:=Sy (by omega) n
theorem WU (n:Int) (h0:0≤n) (h1:n≤18):SW n=some (10 ^ n.toNat,()):=by
 obtain⟨m,rfl⟩:∃ m:Nat,n=m:=⟨n.toNat,by omega⟩
 unfold SW
 have:iter (X:=yG) (β:=yF) (Int.natAbs (1:Int)+(Int.natAbs (m:Int)+(Int.natAbs (0:Int)+2))) (1,(m:Int),0,()) yE=some (Sum.inr (10 ^ m,())):=by
  refine bS (Inv:=fun i x=>x=(10 ^ i,(m:Int),(i:Int),())) m (fun r=>r=some (Sum.inr (10 ^ m,()))) ?_ ?_ _ 0 _ (by simp) (by omega) (by omega)
  ·rintro i _ again hi rfl ih
   unfold yE
   dsimp only
   have h10:=aeC (n:=i+1) (by omega)
   have hp:=DT (i+1)
   rw[ahn] at h10 hp
   rw[aX (by omega),av (by omega) (by omega),av (by omega) (by omega)]
   exact ih _ (by rw[ahn];rfl)
  ·rintro _ again rfl
   unfold yE
   dsimp only
   rw[bh (by omega)]
 rw[this,aK]
 simp
def PN (d:ah):Prop:=0<d.1∧0≤d.2∧d.2≤4∧d.1≤1000000000*10 ^ d.2.toNat
instance (d:ah):Decidable (PN d):=by unfold PN;exact inferInstance
structure afP (d:sM):Prop where
 day0:1≤d.2.1
 day1:d.2.1≤3652059
 mon:PN d.2.2.1
 days0:0≤d.2.2.2.1
 days1:d.2.2.2.1≤10000
 with0:0≤d.2.2.2.2.1
 with1:d.2.2.2.2.1≤d.2.2.2.1
 disc0:0≤d.2.2.2.2.2
 disc1:d.2.2.2.2.2≤1000
structure agK (p:WS):Prop where
 day0:1≤p.1
 day1:p.1≤3652059
 mon:PN p.2.1
 names:p.2.2.length≤100
end Go.Md
namespace Go.Md
open Go.Dn
def PT (d:ah):Int:=d.1*10 ^ (4 - d.2).toNat
theorem PN.PT {d:ah} (h:PN d):0<PT d∧PT d≤10000000000000:=by
 obtain⟨h1,h2,h3,h4⟩:=h
 unfold Md.PT
 have hp:=DT (4 - d.2).toNat
 refine⟨Int.mul_pos h1 hp, ?_⟩
 have a1:d.1*10 ^ (4 - d.2).toNat≤1000000000*10 ^ d.2.toNat*10 ^ (4 - d.2).toNat:=Int.mul_le_mul_of_nonneg_right h4 (by omega)
 rw[ahf, ← Int.pow_add,show d.2.toNat+(4 - d.2).toNat=4 by omega] at a1
 omega
abbrev Bd:=tZ
def abT (x:Bd):Int:=x.2.1
def abX (x:Bd):Int:=x.2.2.1
def taken (x:Bd):Int:=x.2.2.2.1
def done (x:Bd):Int:=x.2.2.2.2
structure XO (x:Bd):Prop where
 d:afP x.1
 owes0:0≤abT x
 paid0:0≤abX x
 taken0:0≤taken x
 sum:abT x+abX x+taken x=PT x.1.2.2.1
 none:done x=0→taken x=0
 done0:done x=0∨x.1.2.1≤done x
 iff:abT x=0↔done x≠0
theorem XO.le {x:Bd} (h:XO x):abT x≤10000000000000∧abX x≤10000000000000∧taken x≤10000000000000:=by
 have:=h.d.mon.PT;have:=h.sum;have:=h.owes0;have:=h.paid0;have:=h.taken0;omega
section
variable {ar:List Bd} {h:Nat} {x:Bd}
theorem afI {α:Type} {l:List α} {i:Nat} {x y:α} (h:l[i]? =some x):(l.set i y)[i]? =some y:=ah4 (ahZ.1 h).1
end
end Go.Md
namespace Go.Md
open Go.Dn
structure mG (ds:List sM) (ar:List Bd):Prop where
 ds:ar.map (·.1)=ds
 ok:∀ x∈ar,XO x
theorem mG.len {ds:List sM} {ar:List Bd} (h:mG ds ar):ar.length=ds.length:=by rw[← h.ds];simp
theorem mG.set {ds:List sM} {ar:List Bd} (h:mG ds ar) {i:Nat} {x y:Bd} (hx:ar[i]? =some x) (hy:XO y) (he:y.1=x.1):mG ds (ar.set i y):=by
 refine⟨?_,fun z hz=> ?_⟩
 ·rw[List.map_set,he, ← h.ds]
  apply ahJ
  intro j
  by_cases hj:i=j
  ·subst hj
   rw[ah4 (by simp;exact (ahZ.1 hx).1),ah0,hx];rfl
  ·rw[ah3 hj]
 ·rcases aiB hz with hz | rfl
  ·exact h.ok z hz
  ·exact hy
theorem mG.get {ds:List sM} {ar:List Bd} (h:mG ds ar) {i:Nat} {x:Bd} (hx:ar[i]? =some x):XO x:=h.ok x (aiz hx)
def afM (ar:List Bd):Int:=(ar.map abX).sum
structure agL (ds:List sM) (L T:Int) (s:Int×List Bd):Prop where
 ar:mG ds s.2
 l0:0≤s.1
 l1:s.1≤L
 tot:s.1+afM s.2=T
theorem adp {k v:Ty} (p:k.den×v.den) (m:List (k.den×v.den)) (n:k.den):nr (p::m) n=bif k.beq n p.1 then some p.2 else nr m n:=by
 unfold nr
 rw[List.find?_cons]
 cases k.beq n p.1<;>rfl
end Go.Md
namespace Go.Md
open Go.Dn
def few:Nat→Int→Int×Nat
 | 0,z=>(z,0)
 | p+1,z=>if z % 10=0 then few p (z / 10) else (z,p+1)
theorem PV:∀ (p:Nat) (z:Int),(few p z).2≤p∧(few p z).1*10 ^ (p - (few p z).2)=z∧(few p z).1.natAbs≤z.natAbs
 | 0,z=>by simp[few]
 | p+1,z=>by
  unfold few
  split
  ·rename_i h
   obtain⟨h1,h2,h3⟩:=PV p (z / 10)
   refine⟨by omega, ?_,by omega⟩
   rw[show p+1 - (few p (z / 10)).2=(p - (few p (z / 10)).2)+1 by omega,ahn, ← ahf,h2]
   omega
  ·simp
theorem R6:∀ p,few p 0=(0,0)
 | 0=>rfl
 | p+1=>by unfold few;simp[R6 p]
theorem UQ (z:Int) (p:Int):qA (W z) p=some (if z.natAbs≤1000000000000000 then ((z,p),0,()) else ((0,0),1,())):=by
 unfold qA
 rw[SI z 1000000000000000 (by omega) (by omega),ajq]
 by_cases h:(z.natAbs:Int)≤1000000000000000
 ·rw[ajO h,ajO (by omega)];rfl
 ·rw[ajN h,ajN (by omega)];rfl
theorem RJ (z:Int) (hz:z.natAbs<4294967296 ^ 99) (p:Nat) (hp:p≤1000):yD (W z) (p:Int)=some (if (few p z).1.natAbs≤1000000000000000 then (((few p z).1,((few p z).2:Int)),0,()) else ((0,0),1,())):=by
 unfold yD
 rw[RF 10 (by omega) (by omega),ajq]
 dsimp only
 have loop:∀ (n:Nat) (z:Int) (p:Nat),z.natAbs<4294967296 ^ 99→p≤1000→p<n→iter (X:=sP) (β:=sO) n ((p:Int),(W z).1,(W z).2,0,0,(W 10).1,(W 10).2,()) sN=some (Sum.inr (((few p z).2:Int),(W (few p z).1).1,(W (few p z).1).2,0,0,())):=by
  intro n
  induction n with
  | zero=>intro z p _ _ h;omega
  | succ n ih=>
   intro z p hz hp hn
   rw[cl]
   generalize hag:(fun y=>iter n y sN)=again
   unfold sN
   dsimp only
   cases p with
   | zero=>rw[bh (by omega)];rfl
   | succ p=>
    have e10:(10:Int).natAbs=10:=rfl
    rw[aX (by omega)]
    change (Option.bind (wA (W z) (W 10)) _)=_
    rw[UK z 10 hz (by rw[e10];exact ai8 (by omega) (ajl (n:=4294967296) (by omega) (show 1≤99 by omega))) (by omega),ajq]
    dsimp only
    rw[Fa,ajq]
    dsimp only
    rw[e10]
    by_cases hm:z % 10=0
    ·have hm2:z.natAbs % 10=0:=by omega
     rw[hm2,show ((((0:Nat):Int).sign) != 0)=false from rfl,ajB]
     change (Option.bind (kX (W z)) _)=_
     rw[Fa,ajq]
     dsimp only
     have hf:few (p+1) z=few p (z / 10):=by simp[few,hm]
     rw[hf]
     have hz':(z / 10).natAbs<4294967296 ^ 99:=ai7 (by omega) hz
     by_cases hneg:z<0
     ·rw[aX (by rw[aho hneg];omega),PF _ (by simp only[ahk];exact ai7 (Nat.div_le_self _ _) hz),ajq]
      dsimp only
      rw[show -((z.natAbs / 10:Nat):Int)=z / 10 by omega,av (by omega) (by omega),show ((p+1:Nat):Int) - 1=(p:Int) by omega, ← hag]
      exact ih (z / 10) p hz' (by omega) (by omega)
     ·rw[bh (by
       rcases (show z=0∨0<z by omega) with h | h
       ·subst h;decide
       ·rw[ahp h];omega),show ((z.natAbs / 10:Nat):Int)=z / 10 by omega,av (by omega) (by omega),show ((p+1:Nat):Int) - 1=(p:Int) by omega, ← hag]
      exact ih (z / 10) p hz' (by omega) (by omega)
    ·have hm2:0<z.natAbs % 10:=by omega
     have:(((z.natAbs % 10:Nat):Int).sign != 0)=true:=by
      rw[ahp (by omega)];rfl
     rw[this,ajC]
     have hf:few (p+1) z=(z,p+1):=by simp[few,hm]
     rw[hf]
 have:=loop (Int.natAbs (p:Int)+(List.length (W z).2+(Int.natAbs (0:Int)+(Int.natAbs (0:Int)+(List.length (W 10).2+2))))) z p hz hp (by omega)
 rw[this,aK]
 dsimp only
 change (Option.bind (qA (W (few p z).1) ((few p z).2:Int)) _)=_
 rw[UQ,ajq]
def nk (d:ah):Int:=d.1*10 ^ (9 - d.2).toNat
def ic (d:ah):Prop:=d.1.natAbs≤1000000000000000∧0≤d.2∧d.2≤9
theorem Jg {z:Int} (h:z.natAbs<1000000000000000000000000000000000000000000000000000000000000):(dg6 z.natAbs).length≤10:=aaD (k:=10) (by simpa using h)
theorem Rx (n:Nat) (hn:n≤40):Mc (n:Int)=some (N (10 ^ n),()):=by
 unfold Mc
 rw[Mb 1 (by omega) (by omega),ajq]
 dsimp only
 have hb:∀ i:Nat,i≤41→(dg6 ((10:Int) ^ i).natAbs).length≤10:=by
  intro i hi
  refine Jg ?_
  have h1:((10:Int) ^ i).natAbs=10 ^ i:=by rw[ahl];rfl
  have h2:=ajl (n:=10) (by omega) hi
  omega
 have loop:iter (X:=CQ) (β:=CP) (Int.natAbs (n:Int)+(Int.natAbs (0:Int)+(List.length ([]:List Int)+(List.length (N 1).2+2)))) ((n:Int),0,false,[],(N 1).1,(N 1).2,()) CO=some (Sum.inr (false,[],(N (10 ^ n)).1,(N (10 ^ n)).2,())):=by
  refine bS (Inv:=fun i x=>x=((n:Int),(i:Int),false,[],(N (10 ^ i)).1,(N (10 ^ i)).2,())) n (fun r=>r=some (Sum.inr (false,[],(N (10 ^ n)).1,(N (10 ^ n)).2,()))) ?_ ?_ _ 0 _ (by simp) (by omega) (by omega)
  ·rintro i _ again hi rfl ih
   unfold CO
   dsimp only
   rw[aX (by omega),Mb 10 (by omega) (by omega),ajq]
   change (Option.bind (w6 (N (10 ^ i)) (N 10)) _)=_
   have h10:(dg6 (10:Int).natAbs).length≤10:=Jg (by decide)
   rw[Ey _ _ (by have:=hb i (by omega);omega) (by omega),ajq]
   dsimp only
   rw[av (by omega) (by omega)]
   exact ih _ (by rw[ahn];rfl)
  ·rintro _ again rfl
   unfold CO
   dsimp only
   rw[bh (by omega)]
 rw[loop,aK]
theorem Zh (d:ah) (hd:ic d):Fv d 9=some (N (nk d),()):=by
 obtain⟨h1,h2,h3⟩:=hd
 unfold Fv
 rw[Mb _ (by omega) (by omega),ajq,av (by omega) (by omega)]
 dsimp only
 obtain⟨m,hm⟩:∃ m:Nat,9 - d.2=m:=⟨(9 - d.2).toNat,by omega⟩
 rw[hm,Rx m (by omega),ajq]
 dsimp only
 have hl1:(dg6 d.1.natAbs).length≤10:=Jg (by omega)
 have hl2:(dg6 ((10:Int) ^ m).natAbs).length≤10:=by
  refine Jg ?_
  have h1:((10:Int) ^ m).natAbs=10 ^ m:=by rw[ahl];rfl
  have h2:=ajl (n:=10) (by omega) (show m≤9 by omega)
  omega
 rw[Ey _ _ (by omega) (by omega),ajq]
 unfold nk
 rw[hm];rfl
theorem Tc {d:ah} (hd:ic d):(nk d).natAbs≤1000000000000000000000000:=by
 obtain⟨h1,h2,h3⟩:=hd
 unfold nk
 rw[ahj,ahl]
 have h4:=ajl (n:=10) (by omega) (show (9 - d.2).toNat≤9 by omega)
 have h5:d.1.natAbs*(10:Int).natAbs ^ (9 - d.2).toNat≤1000000000000000*1000000000:=Nat.mul_le_mul h1 (by simpa using h4)
 omega
end Go.Md
namespace Go.Md
open Go.Dn
end Go.Md
namespace Go.Md
open Go.Dn
end Go.Md
namespace Go.Md
open Go.Dn
theorem TU {X α B:Type} {f:X→(X→Option B)→Option B} (mk:Nat→X) (l:List α) (g:Nat→α→Int) (fin:Option B) (out:Int→Option B)
 (hstep:∀ i y again,l[i]? =some y→f (mk i) again=if g i y=0 then again (mk (i+1)) else out (g i y)) (hend:∀ again,f (mk l.length) again=fin):
 ∀ (r:List α) (i n:Nat),l.drop i=r→i≤l.length→r.length<n→iter n (mk i) f=if yT g i r=0 then fin else out (yT g i r)
 | _,_,0,_,_,hn=>absurd hn (aji _)
 | [],i,n+1,hd,hi,_=>by
  have:i=l.length:=by
   have:=congrArg List.length hd
   simp at this;omega
  subst this
  rw[cl,hend];rfl
 | y::r,i,n+1,hd,hi,hn=>by
  have hy:l[i]? =some y:=by
   have:=congrArg (·[0]?) hd
   simpa [ahW] using this
  have hr:l.drop (i+1)=r:=by
   have:=congrArg List.tail hd
   simpa [aiN] using this
  have hi':i<l.length:=(ahZ.1 hy).1
  rw[cl,hstep i y _ hy]
  by_cases hg:g i y=0
  ·have e:yT g i (y::r)=yT g (i+1) r:=by simp[yT,hg]
   rw[ajO hg,e]
   exact TU mk l g fin out hstep hend r (i+1) n hr hi' (by simp at hn;omega)
  ·have e:yT g i (y::r)=g i y:=by simp[yT,hg]
   rw[ajN hg,e,ajN hg]
end Go.Md
namespace Go.Md
open Go.Dn
def XQ (D:Int) (S:Nat→Prop) (ar:List Bd):Prop:=∀ i x,S i→ar[i]? =some x→done x=0∨D<done x
theorem XQ.set {D:Int} {S:Nat→Prop} {ar:List Bd} {h:Nat} {x y:Bd} (hq:XQ D S ar) (hx:ar[h]? =some x) (hy:(done x=0∨D<done x)→(done y=0∨D<done y)):XQ D S (ar.set h y):=by
 intro i z hi hz
 by_cases e:h=i
 ·subst e
  rw[afI hx] at hz
  cases hz
  exact hy (hq h x hi hx)
 ·rw[ah3 e] at hz
  exact hq i z hi hz
theorem Pj {α:Type} {k:α→Int} {l a b:List α} (ha:Srt k a) (hb:Srt k b) (ka:bL k l a) (kb:bL k l b):a=b:=by
 have key:∀ (a b:List α),Srt k a→Srt k b→(∀ v,a.filter (fun x=>k x==v)=b.filter (fun x=>k x==v))→a.length=b.length→a=b:=by
  intro a
  induction a with
  | nil=>intro b _ _ _ hl;exact (ahI hl.symm).symm
  | cons x a ih=>
   intro b sa sb hf hl
   cases b with
   | nil=>simp at hl
   | cons y b=>
    have sa':=aiG.1 sa
    have sb':=aiG.1 sb
    have hxb:x∈(y::b):=by
     have:x∈(x::a).filter (fun z=>k z==k x):=by simp
     rw[hf (k x)] at this
     exact (aiu.1 this).1
    have hya:y∈(x::a):=by
     have:y∈(y::b).filter (fun z=>k z==k y):=by simp
     rw[← hf (k y)] at this
     exact (aiu.1 this).1
    have hk:k x=k y:=by
     have h1:k y≤k x:=by
      rcases ais.1 hxb with h | h
      ·rw[h];exact ahd _
      ·exact sb'.1 x h
     have h2:k x≤k y:=by
      rcases ais.1 hya with h | h
      ·rw[h];exact ahd _
      ·exact sa'.1 y h
     omega
    have hxy:x=y:=by
     have:=hf (k x)
     rw[ahM (by simp),ahM (by simp[hk])] at this
     exact (List.cons.inj this).1
    subst hxy
    congr 1
    refine ih b sa'.2 sb'.2 (fun v=> ?_) (by simpa using hl)
    have:=hf v
    by_cases hv:k x=v
    ·rw[ahM (by simp[hv]),ahM (by simp[hv])] at this
     exact (List.cons.inj this).2
    ·rw[List.filter_cons_of_neg (by simp[hv]),List.filter_cons_of_neg (by simp[hv])] at this
     exact this
 exact key a b ha hb (fun v=>by rw[ka.keys,kb.keys]) (by rw[ka.length,kb.length])
end Go.Md
namespace Go.Md
open Go.Dn
def nmC:Bys:=[97,98,99,100,101,102,103,104,105,106,107,108,109,110,111,112,113,114,115,116,117,118,119,120,121,122,48,49,50,51,52,53,54,55,56,57,45]
def nmB (c:UInt8):Bool:=nmC.contains c
set_option maxRecDepth 100000 in
theorem afz:∀ n:Fin 256,nmB (UInt8.ofNat n.1)=((decide (97≤n.1)&&decide (n.1≤122))||((decide (48≤n.1)&&decide (n.1≤57))||decide (n.1=45))):=by decide
theorem af6 (c:UInt8):nmB c=((decide (97≤c.toNat)&&decide (c.toNat≤122))||((decide (48≤c.toNat)&&decide (c.toNat≤57))||decide (c.toNat=45))):=by
 have:=afz ⟨c.toNat,UInt8.toNat_lt c⟩
 simpa using this
theorem Ic {α:Type} {p:α→Bool}:∀ {l:List α},l.dropWhile p=[]↔∀ x∈l,p x=true
 | []=>by simp
 | y::r=>by
  cases hp:p y with
  | true=>rw[List.dropWhile_cons_of_pos hp,Ic];simp[hp]
  | false=>rw[List.dropWhile_cons_of_neg (by simp[hp])];simp[hp]
theorem Tu {α:Type} {p:α→Bool} {y:α} {r:List α}:∀ {l:List α},l.dropWhile p=y::r→p y=false
 | [],h=>by simp at h
 | z::t,h=>by
  cases hp:p z with
  | true=>rw[List.dropWhile_cons_of_pos hp] at h;exact Tu h
  | false=>rw[List.dropWhile_cons_of_neg (by simp[hp])] at h;cases h;exact hp
theorem adU (s c:Bys):(Lib.trimS s c==[])=s.all (c.contains ·):=by
 rw[agZ]
 simp only[beq_iff_eq,ahu]
 unfold Lib.trimS Lib.trimLeftS Lib.trimRightS
 constructor
 ·intro h
  rw[Ic] at h
  cases hd:s.reverse.dropWhile (c.contains ·) with
  | nil=>
   rw[Ic] at hd
   intro x hx
   exact hd x (by simpa using hx)
  | cons y r=>
   exfalso
   have h1:=h y (by rw[hd];simp)
   have h2:=Tu hd
   rw[h1] at h2
   cases h2
 ·intro h
  have:s.reverse.dropWhile (c.contains ·)=[]:=Ic.2 fun x hx=>h x (by simpa using hx)
  rw[this];rfl
theorem WN {α:Type} (p:α→Bool) (e:Int) (he:e≠0):∀ (l:List α) (i:Nat),yT (fun _ c=>if p c=true then 0 else e) i l=if l.all p=true then 0 else e
 | [],i=>by simp[yT]
 | y::r,i=>by
  have ih:=WN p e he r (i+1)
  cases hp:p y with
  | true=>simp only[yT,hp,ajP,aht,aha];exact ih
  | false=>simp[yT,hp,he]
theorem SF {s:Bys} {i:Nat} {c:UInt8} (h:s[i]? =some c):vV s (i:Int)=some c:=by simp[vV,h]
theorem GS (s:Bys):nI s=some (c9 s,()):=by
 unfold nI c9 gz Pu
 by_cases h0:s=[]
 ·subst h0;rfl
 have hb:(s==[])=false:=by simpa using h0
 have hl:0<s.length:=List.length_pos_iff.2 h0
 rw[hb,ajB,bh (show ¬((s.length:Int)<1) by omega)]
 by_cases h2:(s.length:Int)>40
 ·rw[aX h2,aX h2];rfl
 rw[bh h2,bh h2]
 have hs:vV s 0=some (s[0]'hl):=SF (i:=0) (bP hl)
 simp only[hs,ajq]
 by_cases h3:(((s[0]'hl).toNat:Int))<97
 ·simp only[aX h3];rfl
 simp only[bh h3]
 by_cases h4:(((s[0]'hl).toNat:Int))>122
 ·simp only[aX h4];rfl
 simp only[bh h4]
 have ht:lZ s [97,98,99,100,101,102,103,104,105,106,107,108,109,110,111,112,113,114,115,116,117,118,119,120,121,122,48,49,50,51,52,53,54,55,56,57,45]=some (Lib.trimS s nmC,()):=by
  unfold lZ
  rw[show (decide (s.length≤9223372036854775807))=true by simp;omega]
  rfl
 rw[ht,ajq]
 have loop:=TU (f:=AT) (fun i=>(s,(s.length:Int),(i:Int),())) s (fun _ c=>if nmB c=true then 0 else 1) (some (Sum.inr ())) (fun _=>some (Sum.inl (false,())))
  (fun i c again hi=>by
    have hil:=(ahZ.1 hi).1
    unfold AT
    dsimp only
    rw[aX (show (i:Int)<(s.length:Int) by omega),SF hi,ajq,af6 c,av (by omega) (by omega)]
    by_cases a1:(c.toNat:Int)<97<;>by_cases a2:(c.toNat:Int)>122<;>by_cases a3:(c.toNat:Int)<48<;>by_cases a4:(c.toNat:Int)>57<;>by_cases a5:(c.toNat:Int)=45<;>
      first
      | omega
      | (have b1:(97≤c.toNat)=¬ ((c.toNat:Int)<97):=by simp only[eq_iff_iff];omega
         have b2:(c.toNat≤122)=¬ ((c.toNat:Int)>122):=by simp only[eq_iff_iff];omega
         have b3:(48≤c.toNat)=¬ ((c.toNat:Int)<48):=by simp only[eq_iff_iff];omega
         have b4:(c.toNat≤57)=¬ ((c.toNat:Int)>57):=by simp only[eq_iff_iff];omega
         have b5:(c.toNat=45)=((c.toNat:Int)=45):=by simp only[eq_iff_iff];omega
         simp only[b1,b2,b3,b4,b5,a1,a2,a3,a4,a5,bne,ajJ,ajI,not_true_eq_false,ajS,agY,aha,agX,Bool.false_and,Bool.or_true,Bool.true_or,Bool.or_false,ag2,ajC,ajB,ajP,ag0,ajM,Int.one_ne_zero,ajz,ag7]
         first | rfl | (have a6:((c.toNat:Int)==45)=false:=(by simp only[ajy,ne_eq];exact a5);rw[a6];rfl)))
  (fun again=>by
    unfold AT
    dsimp only
    rw[bh (by omega)])
  s 0 (List.length s+(Int.natAbs ((List.length s:Int))+(Int.natAbs (0:Int)+2))) rfl (ajo _) (by omega)
 rw[show ((0:Nat):Int)=0 from rfl] at loop
 rw[loop,WN nmB 1 (by omega),adU]
 have e:(s.all fun x=>nmC.contains x)=s.all nmB:=rfl
 rw[e]
 cases s.all nmB<;>rfl
theorem GY (a b c:Int):zQ a b c=some (decide (b≤a∧a≤c),()):=by
 unfold zQ
 by_cases h:b≤a
 ·rw[aX h];simp[h]
 ·rw[bh h];simp[h]
theorem CJ (n:Int):zk n=some (decide (1≤n∧n≤3652059),()):=by
 unfold zk SA
 rw[GY];rfl
theorem Pr (d:ah):mz d=some (if -1000000000000000≤d.1∧d.1≤1000000000000000∧0≤d.2∧d.2≤9 then 0 else 1,()):=by
 unfold mz
 rw[GY,ajq]
 by_cases h1: -1000000000000000≤d.1∧d.1≤1000000000000000
 ·rw[ajG h1]
  simp only[ag7,ajB]
  rw[GY,ajq]
  by_cases h2:0≤d.2∧d.2≤9
  ·rw[ajG h2,ajO ⟨h1.1,h1.2,h2⟩];rfl
  ·rw[ajE h2,ajN (fun h=>h2 h.2.2)];rfl
 ·rw[ajE h1,ajN (fun h=>h1 ⟨h.1,h.2.1⟩)];rfl
theorem ab0 {a b:ah} (ha:ic a) (hb:ic b):aa6 a b=some ((nk a - nk b).sign,()):=by
 unfold aa6
 have l1:=Tc ha
 have l2:=Tc hb
 have m1:=Jg (z:=nk a) (by omega)
 have m2:=Jg (z:=nk b) (by omega)
 rw[Zh a ha,ajq,Zh b hb,ajq,WH _ _ (by omega) (by omega)]
 rfl
instance (d:ah):Decidable (ic d):=by unfold ic;infer_instance
end Go.Md
