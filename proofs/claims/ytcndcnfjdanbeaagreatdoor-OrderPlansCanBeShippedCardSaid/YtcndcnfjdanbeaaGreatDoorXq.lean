/-
  Plain facts, small ones. No condition.
-/
import Derived.Test.YtcndcnfjdanbeaaGreatDoorXp
import Derived.Test.YtcndcnfjdanbeaaGreatDoorXm
set_option linter.all false
namespace Go.Md
open Go.Dn
structure bn {α:Type} (k:α→Int) (l l':List α):Prop where
 perm:l.Perm l'
 keys:∀ v,l'.filter (fun x=>k x==v)=l.filter (fun x=>k x==v)
theorem bn.refl {α:Type} (k:α→Int) (l:List α):bn k l l:=⟨List.Perm.refl _,fun _=>rfl⟩
theorem bn.trans {α:Type} {k:α→Int} {a b c:List α} (h:bn k a b) (g:bn k b c):bn k a c:=⟨h.perm.trans g.perm,fun v=>(g.keys v).trans (h.keys v)⟩
theorem bn.append {α:Type} {k:α→Int} {a b c d:List α} (h:bn k a b) (g:bn k c d):bn k (a++c) (b++d):=
 ⟨h.perm.append g.perm,fun v=>by rw[WL,WL,h.keys,g.keys]⟩
theorem bn.mem {α:Type} {k:α→Int} {a b:List α} (h:bn k a b) {x:α}:x∈b↔x∈a:=h.perm.mem_iff.symm
theorem bn.length {α:Type} {k:α→Int} {a b:List α} (h:bn k a b):b.length=a.length:=h.perm.length_eq.symm
theorem bn.swap {α:Type} {k:α→Int} {u v:List α} (h:∀ x∈u,∀ y∈v,k x≠k y):bn k (u++v) (v++u):=by
 refine⟨List.perm_append_comm,fun w=> ?_⟩
 rw[WL,WL]
 by_cases hu:∃ x∈u,k x=w
 ·obtain⟨x,hx,rfl⟩:=hu
  have:v.filter (fun y=>k y==k x)=[]:=by
   rw[List.filter_eq_nil_iff]
   intro y hy
   simpa using fun e=>h x hx y hy e.symm
  rw[this];simp
 ·have:u.filter (fun y=>k y==w)=[]:=by
   rw[List.filter_eq_nil_iff]
   intro y hy
   simpa using fun e=>hu ⟨y,hy,e⟩
  rw[this];simp
def Srt {α:Type} (k:α→Int) (l:List α):Prop:=l.Pairwise fun x y=>k x≤k y
theorem Srt.append {α:Type} {k:α→Int} {a b:List α} (ha:Srt k a) (hb:Srt k b) (h:∀ x∈a,∀ y∈b,k x≤k y):Srt k (a++b):=XB.2 ⟨ha,hb,h⟩
theorem Srt.left {α:Type} {k:α→Int} {a b:List α} (h:Srt k (a++b)):Srt k a:=(XB.1 h).1
theorem Srt.right {α:Type} {k:α→Int} {a b:List α} (h:Srt k (a++b)):Srt k b:=(XB.1 h).2.1
theorem Srt.Ef {α:Type} {k:α→Int} {a b:List α} (h:Srt k (a++b)):∀ x∈a,∀ y∈b,k x≤k y:=(XB.1 h).2.2
theorem OZ {α:Type} (A B:List α) (x y:α):((A++y::x::B).set (A.length+1) y).set A.length x=A++x::y::B:=by
 induction A with
 | nil=>rfl
 | cons a A ih=>simp only[WA,Xe,XH,ih]
theorem SY {α:Type} (A B:List α) (x y:α):((A++x::y::B).set A.length y).set (A.length+1) x=A++y::x::B:=by
 induction A with
 | nil=>rfl
 | cons a A ih=>simp only[WA,Xe,XH,ih]
theorem get_at {α:Type} (A B:List α) (y:α):(A++y::B)[A.length]? =some y:=by simp
theorem H6 {α:Type} (A B:List α) (x y:α):(A++y::x::B)[A.length+1]? =some x:=by simp
theorem oW {α:Type} {l:List α} {n:Nat} (h:n≤l.length):∃ A B,l=A++B∧A.length=n:=⟨l.take n,l.drop n,by simp,by simp;omega⟩
section
variable {k:Option Nat→Int} {ar:List ry} {ok:Option Nat→Prop}
theorem TR {α:Type} {k:α→Int} {P:List α} (h:Srt k P) {v:Int} (hl:∀ y,P.getLast? =some y→k y≤v):∀ y∈P,k y≤v:=by
 rcases List.eq_nil_or_concat P with rfl | ⟨Q,z,rfl⟩
 ·simp
 ·rw[List.concat_eq_append] at*
  have hz:=hl z (by simp)
  intro y hy
  rcases Xo.1 hy with hy | hy
  ·have:=h.Ef y hy z (by simp);omega
  ·rw[Xz.1 hy];exact hz
theorem Tk {α:Type} {k:α→Int} {P2 P3:List α} {x:α} (hs:Srt k (P2++P3)) (h3:∀ y∈P3,k x<k y) (h2:∀ y,P2.getLast? =some y→k y≤k x):Srt k (P2++x::P3)∧bn k (P2++P3++[x]) (P2++x::P3):=by
 constructor
 ·refine hs.left.append (XC.2 ⟨fun y hy=>by have:=h3 y hy;omega,hs.right⟩) ?_
  intro y hy z hz
  have hy':=TR hs.left h2 y hy
  rcases Xp.1 hz with rfl | hz
  ·exact hy'
  ·exact hs.Ef y hy z hz
 ·rw[Wy]
  refine (bn.refl k P2).append ?_
  have:=bn.swap (k:=k) (u:=P3) (v:=[x]) (fun y hy z hz=>by rw[Xz.1 hz];have:=h3 y hy;omega)
  simpa using this
end
end Go.Md
namespace Go.Md
open Go.Dn
theorem Qn {α:Type} (A B:List α) (x y:α):(A++x::B).set A.length y=A++y::B:=by
 induction A with
 | nil=>rfl
 | cons a A ih=>simp only[WA,Xe,XH,ih]
section
variable {k:Option Nat→Int} {ar:List ry} {ok:Option Nat→Prop}
end
end Go.Md
namespace Go.Md
open Go.Dn
theorem bsearch {X β:Type} {f:X→(X→Option β)→Option β} (mk:Nat→Nat→X) (fin:Nat→Option β) (P:Nat→Prop) [DecidablePred P] (lo hi:Nat)
 (hstep:∀ i j again,lo≤i→i<j→j≤hi→f (mk i j) again=if P ((i+j) / 2) then again (mk ((i+j) / 2+1) j) else again (mk i ((i+j) / 2)))
 (hend:∀ i again,lo≤i→i≤hi→f (mk i i) again=fin i) (mono:∀ s t,lo≤s→s≤t→t<hi→P t→P s):
 ∀ n i j,j - i<n→lo≤i→i≤j→j≤hi→(∀ t,lo≤t→t<i→P t)→(∀ t,j≤t→t<hi→¬P t)→∃ r,iter n (mk i j) f=fin r∧lo≤r∧r≤hi∧(∀ t,lo≤t→t<r→P t)∧(∀ t,r≤t→t<hi→¬P t)
 | 0,i,j,hn,_,_,_,_,_=>by omega
 | n+1,i,j,hn,h1,h2,h3,h4,h5=>by
  rw[cI]
  by_cases hij:i=j
  ·subst hij
   exact⟨i,hend i _ h1 h3,h1,h3,h4,h5⟩
  ·rw[hstep i j _ h1 (by omega) h3]
   by_cases hP:P ((i+j) / 2)
   ·rw[YJ hP]
    exact bsearch mk fin P lo hi hstep hend mono n _ _ (by omega) (by omega) (by omega) h3 (fun t ht1 ht2=>mono t _ ht1 (show t≤(i+j) / 2 by omega) (by omega) hP) h5
   ·rw[YI hP]
    exact bsearch mk fin P lo hi hstep hend mono n _ _ (by omega) h1 (by omega) (by omega) h4 (fun t ht1 ht2 hPt=>hP (mono _ t (by omega) ht1 ht2 hPt))
theorem H8 (i j:Nat) (h:i+j<4000000000000000000):w64 (Int.fdiv (bH (w64 ((i:Int)+(j:Int)))) (2 ^ 1))=(((i+j) / 2:Nat):Int):=by
 rw[aC (n:=(i:Int)+(j:Int)) (by omega) (by omega),gz (by omega) (by omega),Wl _ (by omega),aC (by omega) (by omega)]
 omega
theorem TZ {α:Type} (X L R Y:List α) {i:Nat} (h:i<L.length):(X++L++R++Y)[X.length+i]? =some L[i]:=by
 rw[Wy,Wy,WR (by omega),WQ (by omega),show X.length+i - X.length=i by omega,WV h]
theorem QI {α:Type} (X L R Y:List α) {i:Nat} (h:i<R.length):(X++L++R++Y)[X.length+L.length+i]? =some R[i]:=by
 rw[Wy,Wy,WR (by omega),WR (by omega),WQ (by omega),show X.length+L.length+i - X.length - L.length=i by omega,WV h]
theorem Srt.get {α:Type} {k:α→Int} {l:List α} (h:Srt k l) {i j:Nat} (hij:i≤j) (hj:j<l.length):k (l[i]'(by omega))≤k l[j]:=by
 rcases Nat.lt_or_eq_of_le hij with h1 | h1
 ·exact XD.1 h i j (by omega) hj h1
 ·subst h1;exact Int.le_refl _
section
variable {k:Option Nat→Int} {ar:List ry} {ok:Option Nat→Prop}
end
end Go.Md
namespace Go.Md
open Go.Dn
section
variable {k:Option Nat→Int} {ar:List ry} {ok:Option Nat→Prop}
end
end Go.Md
namespace Go.Md
open Go.Dn
def ChS {α:Type} (k:α→Int) (bs:Nat) (l:List α):Prop:=∀ j:Nat,Srt k ((l.drop (j*bs)).take bs)
theorem ChS.nil {α:Type} (k:α→Int) (bs:Nat):ChS k bs []:=fun _=>by simp[Srt]
theorem ChS.snoc {α:Type} {k:α→Int} {bs:Nat} {A S:List α} {j:Nat} (h:ChS k bs A) (hA:A.length=j*bs) (hS:Srt k S) (hl:S.length≤bs):ChS k bs (A++S):=by
 intro i
 rcases Yb i j with hij | hij | hij
 ·have h1:(i+1)*bs≤j*bs:=Yf _ hij
  rw[XR,Yh] at h1
  rw[List.drop_append_of_le_length (by omega),List.take_append_of_le_length (by rw[List.length_drop];omega)]
  exact h i
 ·subst hij
  rw[← hA,WG,XO hl]
  exact hS
 ·have h1:(j+1)*bs≤i*bs:=Yf _ hij
  rw[XR,Yh] at h1
  rw[List.drop_of_length_le (by rw[Xd];omega)]
  simp[Srt]
theorem ChS.drop {α:Type} {k:α→Int} {bs:Nat} {l:List α} (h:ChS k bs l) (i:Nat):ChS k bs (l.drop (i*bs)):=by
 intro j
 rw[WD, ← XR]
 exact h (i+j)
theorem Srt.take {α:Type} {k:α→Int} {l:List α} (h:Srt k l) (n:Nat):Srt k (l.take n):=by
 rw[← XL n l] at h;exact h.left
section
variable {k:Option Nat→Int} {ar:List ry} {ok:Option Nat→Prop}
end
end Go.Md
namespace Go.Md
open Go.Dn
theorem jW (a b c:Int):eN a b c=some (decide (a<b∨c<a),()):=by
 unfold eN
 by_cases h:a<b
 ·rw[bp h];simp[h]
 ·rw[bu h];simp[h]
theorem sY (n:Int):ov n=some (decide (1≤n∧n≤3652059),()):=by
 unfold ov
 rw[jW,Yo]
 congr 2
 simp only[← decide_not]
 congr 1
 simp only[eq_iff_iff];omega
def ef (s:Bys):Bool:=((fP s).map (·.1)).getD false
theorem qX (s:Bys):fP s=some (ef s,()):=by
 have:∃ b,fP s=some (b,()):=by
  unfold fP
  by_cases h1:(s.length:Int)<1
  ·rw[bp h1];exact⟨_,rfl⟩
  ·rw[bu h1]
   by_cases h2:(s.length:Int)>40
   ·rw[bp h2];exact⟨_,rfl⟩
   ·rw[bu h2]
    have hs:yl s 0=some (s[0]'(by omega)):=by simp[yl]
    rw[hs]
    simp only[Yo]
    have ht:p9 s [97,98,99,100,101,102,103,104,105,106,107,108,109,110,111,112,113,114,115,116,117,118,119,120,121,122,48,49,50,51,52,53,54,55,56,57,45]=some (Lib.trimS s [97,98,99,100,101,102,103,104,105,106,107,108,109,110,111,112,113,114,115,116,117,118,119,120,121,122,48,49,50,51,52,53,54,55,56,57,45],()):=by
     unfold p9
     rw[show (decide (s.length≤9223372036854775807))=true by simp;omega]
     rfl
    rw[ht]
    simp only[Yo]
    generalize (decide ((((s[0]'(by omega)).toNat:Int))<97))=b1
    generalize (decide ((((s[0]'(by omega)).toNat:Int))>122))=b2
    cases b1<;>cases b2<;>exact⟨_,rfl⟩
 obtain⟨b,hb⟩:=this
 unfold ef
 rw[hb];rfl
theorem Cp (d:ah):gY d=some (if -1000000000000000≤d.1∧d.1≤1000000000000000∧0≤d.2∧d.2≤9 then 0 else 1,()):=by
 unfold gY
 rw[jW,Yo,jW]
 simp only[Yo]
 by_cases h1:d.1< -1000000000000000∨1000000000000000<d.1
 ·rw[bp h1,YI (by omega)]
 ·rw[bu h1]
  by_cases h2:d.2<0∨9<d.2
  ·rw[bp h2,YI (by omega)]
  ·rw[bu h2,YJ (by omega)]
theorem TF {n:Nat} (h:n≤18):(10:Int) ^ n≤1000000000000000000:=by
 have:=Yj (n:=10) (by omega) h
 have h2:=Int.ofNat_le.2 this
 simpa using h2
theorem Ci (n:Nat):(0:Int)<10 ^ n:=OS (by omega) n
theorem M6 (n:Int) (h0:0≤n) (h1:n≤18):JU n=some (10 ^ n.toNat,()):=by
 obtain⟨m,rfl⟩:∃ m:Nat,n=m:=⟨n.toNat,by omega⟩
 unfold JU
 have:iter (X:=vo) (β:=vn) (Int.natAbs (1:Int)+(Int.natAbs (m:Int)+(Int.natAbs (0:Int)+2))) (1,(m:Int),0,()) vm=some (Sum.inr (10 ^ m,())):=by
  refine kO (Inv:=fun i x=>x=(10 ^ i,(m:Int),(i:Int),())) m (fun r=>r=some (Sum.inr (10 ^ m,()))) ?_ ?_ _ 0 _ (by simp) (by omega) (by omega)
  ·rintro i _ again hi rfl ih
   unfold vm
   dsimp only
   have h10:=TF (n:=i+1) (by omega)
   have hp:=Ci (i+1)
   rw[Wq] at h10 hp
   rw[bp (by omega),aC (by omega) (by omega),aC (by omega) (by omega)]
   exact ih _ (by rw[Wq];rfl)
  ·rintro _ again rfl
   unfold vm
   dsimp only
   rw[bu (by omega)]
 rw[this,bq]
 simp
def HR (d:ah):Prop:=0<d.1∧0≤d.2∧d.2≤4∧d.1≤1000000000*10 ^ d.2.toNat
instance (d:ah):Decidable (HR d):=by unfold HR;exact inferInstance
structure UR (d:qq):Prop where
 day0:1≤d.2.1
 day1:d.2.1≤3652059
 mon:HR d.2.2.1
 days0:0≤d.2.2.2.1
 days1:d.2.2.2.1≤10000
 with0:0≤d.2.2.2.2.1
 with1:d.2.2.2.2.1≤d.2.2.2.1
 disc0:0≤d.2.2.2.2.2
 disc1:d.2.2.2.2.2≤1000
structure VM (p:MY):Prop where
 day0:1≤p.1
 day1:p.1≤3652059
 mon:HR p.2.1
 names:p.2.2.length≤100
end Go.Md
namespace Go.Md
open Go.Dn
def HU (d:ah):Int:=d.1*10 ^ (4 - d.2).toNat
theorem HR.HU {d:ah} (h:HR d):0<HU d∧HU d≤10000000000000:=by
 obtain⟨h1,h2,h3,h4⟩:=h
 unfold Md.HU
 have hp:=Ci (4 - d.2).toNat
 refine⟨Int.mul_pos h1 hp, ?_⟩
 have a1:d.1*10 ^ (4 - d.2).toNat≤1000000000*10 ^ d.2.toNat*10 ^ (4 - d.2).toNat:=Int.mul_le_mul_of_nonneg_right h4 (by omega)
 rw[Wn, ← Int.pow_add,show d.2.toNat+(4 - d.2).toNat=4 by omega] at a1
 omega
abbrev Bd:=ry
def QZ (x:Bd):Int:=x.2.1
def Q9 (x:Bd):Int:=x.2.2.1
def taken (x:Bd):Int:=x.2.2.2.1
def done (x:Bd):Int:=x.2.2.2.2
structure NM (x:Bd):Prop where
 d:UR x.1
 owes0:0≤QZ x
 paid0:0≤Q9 x
 taken0:0≤taken x
 sum:QZ x+Q9 x+taken x=HU x.1.2.2.1
 none:done x=0→taken x=0
 done0:done x=0∨x.1.2.1≤done x
 iff:QZ x=0↔done x≠0
theorem NM.le {x:Bd} (h:NM x):QZ x≤10000000000000∧Q9 x≤10000000000000∧taken x≤10000000000000:=by
 have:=h.d.mon.HU;have:=h.sum;have:=h.owes0;have:=h.paid0;have:=h.taken0;omega
section
variable {ar:List Bd} {h:Nat} {x:Bd}
theorem UL {α:Type} {l:List α} {i:Nat} {x y:α} (h:l[i]? =some x):(l.set i y)[i]? =some y:=W8 (WX.1 h).1
end
end Go.Md
namespace Go.Md
open Go.Dn
structure lV (ds:List qq) (ar:List Bd):Prop where
 ds:ar.map (·.1)=ds
 ok:∀ x∈ar,NM x
theorem lV.len {ds:List qq} {ar:List Bd} (h:lV ds ar):ar.length=ds.length:=by rw[← h.ds];simp
theorem lV.set {ds:List qq} {ar:List Bd} (h:lV ds ar) {i:Nat} {x y:Bd} (hx:ar[i]? =some x) (hy:NM y) (he:y.1=x.1):lV ds (ar.set i y):=by
 refine⟨?_,fun z hz=> ?_⟩
 ·rw[List.map_set,he, ← h.ds]
  apply WK
  intro j
  by_cases hj:i=j
  ·subst hj
   rw[W8 (by simp;exact (WX.1 hx).1),WY,hx];rfl
  ·rw[W7 hj]
 ·rcases Xx hz with hz | rfl
  ·exact h.ok z hz
  ·exact hy
theorem lV.get {ds:List qq} {ar:List Bd} (h:lV ds ar) {i:Nat} {x:Bd} (hx:ar[i]? =some x):NM x:=h.ok x (Xw hx)
def UO (ar:List Bd):Int:=(ar.map Q9).sum
structure VN (ds:List qq) (L T:Int) (s:Int×List Bd):Prop where
 ar:lV ds s.2
 l0:0≤s.1
 l1:s.1≤L
 tot:s.1+UO s.2=T
theorem MF {k v:Ty} (p:k.den×v.den) (m:List (k.den×v.den)) (n:k.den):bA (p::m) n=bif k.beq n p.1 then some p.2 else bA m n:=by
 unfold bA
 rw[List.find?_cons]
 cases k.beq n p.1<;>rfl
theorem Sr {k v:Ty} (p:k.den×v.den) (m:List (k.den×v.den)) (x:k.den) (y:v.den):jH (p::m) x y=bif k.beq x p.1 then (x,y)::m else p::jH m x y:=rfl
end Go.Md
namespace Go.Md
open Go.Dn
def few:Nat→Int→Int×Nat
 | 0,z=>(z,0)
 | p+1,z=>if z % 10=0 then few p (z / 10) else (z,p+1)
theorem DB:∀ (p:Nat) (z:Int),(few p z).2≤p∧(few p z).1*10 ^ (p - (few p z).2)=z∧(few p z).1.natAbs≤z.natAbs
 | 0,z=>by simp[few]
 | p+1,z=>by
  unfold few
  split
  ·rename_i h
   obtain⟨h1,h2,h3⟩:=DB p (z / 10)
   refine⟨by omega, ?_,by omega⟩
   rw[show p+1 - (few p (z / 10)).2=(p - (few p (z / 10)).2)+1 by omega,Wq, ← Wn,h2]
   omega
  ·simp
theorem Lj (z:Int) (p:Int):oI (W z) p=some (if z.natAbs≤1000000000000000 then ((z,p),0,()) else ((0,0),1,())):=by
 unfold oI
 rw[JM z 1000000000000000 (by omega) (by omega),Yo]
 by_cases h:(z.natAbs:Int)≤1000000000000000
 ·rw[YJ h,YJ (by omega)];rfl
 ·rw[YI h,YI (by omega)];rfl
theorem Ja (z:Int) (hz:z.natAbs<4294967296 ^ 99) (p:Nat) (hp:p≤1000):vl (W z) (p:Int)=some (if (few p z).1.natAbs≤1000000000000000 then (((few p z).1,((few p z).2:Int)),0,()) else ((0,0),1,())):=by
 unfold vl
 rw[I7 10 (by omega) (by omega),Yo]
 dsimp only
 have loop:∀ (n:Nat) (z:Int) (p:Nat),z.natAbs<4294967296 ^ 99→p≤1000→p<n→iter (X:=qv) (β:=qu) n ((p:Int),(W z).1,(W z).2,0,0,(W 10).1,(W 10).2,()) qs=some (Sum.inr (((few p z).2:Int),(W (few p z).1).1,(W (few p z).1).2,0,0,())):=by
  intro n
  induction n with
  | zero=>intro z p _ _ h;omega
  | succ n ih=>
   intro z p hz hp hn
   rw[cI]
   generalize hag:(fun y=>iter n y qs)=again
   unfold qs
   dsimp only
   cases p with
   | zero=>rw[bu (by omega)];rfl
   | succ p=>
    have e10:(10:Int).natAbs=10:=rfl
    rw[bp (by omega)]
    change (Option.bind (tH (W z) (W 10)) _)=_
    rw[Lf z 10 hz (by rw[e10];exact X8 (by omega) (Yj (n:=4294967296) (by omega) (show 1≤99 by omega))) (by omega),Yo]
    dsimp only
    rw[zU,Yo]
    dsimp only
    rw[e10]
    by_cases hm:z % 10=0
    ·have hm2:z.natAbs % 10=0:=by omega
     rw[hm2,show ((((0:Nat):Int).sign) != 0)=false from rfl,Yy]
     change (Option.bind (kr (W z)) _)=_
     rw[zU,Yo]
     dsimp only
     have hf:few (p+1) z=few p (z / 10):=by simp[few,hm]
     rw[hf]
     have hz':(z / 10).natAbs<4294967296 ^ 99:=X7 (by omega) hz
     by_cases hneg:z<0
     ·rw[bp (by rw[Int.sign_eq_neg_one_of_neg hneg];omega),HL _ (by simp only[Int.natAbs_natCast];exact X7 (Nat.div_le_self _ _) hz),Yo]
      dsimp only
      rw[show -((z.natAbs / 10:Nat):Int)=z / 10 by omega,aC (by omega) (by omega),show ((p+1:Nat):Int) - 1=(p:Int) by omega, ← hag]
      exact ih (z / 10) p hz' (by omega) (by omega)
     ·rw[bu (by
       rcases (show z=0∨0<z by omega) with h | h
       ·subst h;decide
       ·rw[Int.sign_eq_one_of_pos h];omega),show ((z.natAbs / 10:Nat):Int)=z / 10 by omega,aC (by omega) (by omega),show ((p+1:Nat):Int) - 1=(p:Int) by omega, ← hag]
      exact ih (z / 10) p hz' (by omega) (by omega)
    ·have hm2:0<z.natAbs % 10:=by omega
     have:(((z.natAbs % 10:Nat):Int).sign != 0)=true:=by
      rw[Int.sign_eq_one_of_pos (by omega)];rfl
     rw[this,Yz]
     have hf:few (p+1) z=(z,p+1):=by simp[few,hm]
     rw[hf]
 have:=loop (Int.natAbs (p:Int)+(List.length (W z).2+(Int.natAbs (0:Int)+(Int.natAbs (0:Int)+(List.length (W 10).2+2))))) z p hz hp (by omega)
 rw[this,bq]
 dsimp only
 change (Option.bind (oI (W (few p z).1) ((few p z).2:Int)) _)=_
 rw[Lj,Yo]
def vj (d:ah):Prop:=d.1.natAbs≤1000000000000000∧0≤d.2∧d.2≤9
end Go.Md
namespace Go.Md
open Go.Dn
end Go.Md
namespace Go.Md
open Go.Dn
end Go.Md
namespace Go.Md
open Go.Dn
end Go.Md
namespace Go.Md
open Go.Dn
def NP (D:Int) (S:Nat→Prop) (ar:List Bd):Prop:=∀ i x,S i→ar[i]? =some x→done x=0∨D<done x
theorem NP.set {D:Int} {S:Nat→Prop} {ar:List Bd} {h:Nat} {x y:Bd} (hq:NP D S ar) (hx:ar[h]? =some x) (hy:(done x=0∨D<done x)→(done y=0∨D<done y)):NP D S (ar.set h y):=by
 intro i z hi hz
 by_cases e:h=i
 ·subst e
  rw[UL hx] at hz
  cases hz
  exact hy (hq h x hi hx)
 ·rw[W7 e] at hz
  exact hq i z hi hz
theorem OM {α:Type} {k:α→Int} {l a b:List α} (ha:Srt k a) (hb:Srt k b) (ka:bn k l a) (kb:bn k l b):a=b:=by
 have key:∀ (a b:List α),Srt k a→Srt k b→(∀ v,a.filter (fun x=>k x==v)=b.filter (fun x=>k x==v))→a.length=b.length→a=b:=by
  intro a
  induction a with
  | nil=>intro b _ _ _ hl;exact (WJ hl.symm).symm
  | cons x a ih=>
   intro b sa sb hf hl
   cases b with
   | nil=>simp at hl
   | cons y b=>
    have sa':=XC.1 sa
    have sb':=XC.1 sb
    have hxb:x∈(y::b):=by
     have:x∈(x::a).filter (fun z=>k z==k x):=by simp
     rw[hf (k x)] at this
     exact (Xr.1 this).1
    have hya:y∈(x::a):=by
     have:y∈(y::b).filter (fun z=>k z==k y):=by simp
     rw[← hf (k y)] at this
     exact (Xr.1 this).1
    have hk:k x=k y:=by
     have h1:k y≤k x:=by
      rcases Xp.1 hxb with h | h
      ·rw[h];exact Int.le_refl _
      ·exact sb'.1 x h
     have h2:k x≤k y:=by
      rcases Xp.1 hya with h | h
      ·rw[h];exact Int.le_refl _
      ·exact sa'.1 y h
     omega
    have hxy:x=y:=by
     have:=hf (k x)
     rw[WM (by simp),WM (by simp[hk])] at this
     exact (List.cons.inj this).1
    subst hxy
    congr 1
    refine ih b sa'.2 sb'.2 (fun v=> ?_) (by simpa using hl)
    have:=hf v
    by_cases hv:k x=v
    ·rw[WM (by simp[hv]),WM (by simp[hv])] at this
     exact (List.cons.inj this).2
    ·rw[List.filter_cons_of_neg (by simp[hv]),List.filter_cons_of_neg (by simp[hv])] at this
     exact this
 exact key a b ha hb (fun v=>by rw[ka.keys,kb.keys]) (by rw[ka.length,kb.length])
end Go.Md
namespace Go.Md
open Go.Dn
theorem TO {s:Bys} {i:Nat} {c:UInt8} (h:s[i]? =some c):yl s (i:Int)=some c:=by simp[yl,h]
instance (d:ah):Decidable (vj d):=by unfold vj;infer_instance
end Go.Md
