/-
  Plain facts, small ones. No condition.
-/
import Derived.Test.YtcpmaicaibdafaaGreatDoorWp
import Derived.Test.YtcpmaicaibdafaaGreatDoorWm
set_option linter.all false
namespace Go.Md
open Go.Dn
structure xK {α:Type} (k:α→Int) (l l':List α):Prop where
 perm:l.Perm l'
 keys:∀ v,l'.filter (fun x=>k x==v)=l.filter (fun x=>k x==v)
theorem xK.refl {α:Type} (k:α→Int) (l:List α):xK k l l:=⟨List.Perm.refl _,fun _=>rfl⟩
theorem xK.trans {α:Type} {k:α→Int} {a b c:List α} (h:xK k a b) (g:xK k b c):xK k a c:=⟨h.perm.trans g.perm,fun v=>(g.keys v).trans (h.keys v)⟩
theorem xK.append {α:Type} {k:α→Int} {a b c d:List α} (h:xK k a b) (g:xK k c d):xK k (a++c) (b++d):=
 ⟨h.perm.append g.perm,fun v=>by rw[agp,agp,h.keys,g.keys]⟩
theorem xK.mem {α:Type} {k:α→Int} {a b:List α} (h:xK k a b) {x:α}:x∈b↔x∈a:=h.perm.mem_iff.symm
theorem xK.length {α:Type} {k:α→Int} {a b:List α} (h:xK k a b):b.length=a.length:=h.perm.length_eq.symm
theorem xK.swap {α:Type} {k:α→Int} {u v:List α} (h:∀ x∈u,∀ y∈v,k x≠k y):xK k (u++v) (v++u):=by
 refine⟨List.perm_append_comm,fun w=> ?_⟩
 rw[agp,agp]
 by_cases hu:∃ x∈u,k x=w
 ·obtain⟨x,hx,rfl⟩:=hu
  have:v.filter (fun y=>k y==k x)=[]:=by
   rw[List.filter_eq_nil_iff]
   intro y hy
   simpa using fun e=>h x hx y hy e.symm
  rw[this];simp
 ·have:u.filter (fun y=>k y==w)=[]:=by
   rw[List.filter_eq_nil_iff]
   intro y hy
   simpa using fun e=>hu ⟨y,hy,e⟩
  rw[this];simp
def Srt {α:Type} (k:α→Int) (l:List α):Prop:=l.Pairwise fun x y=>k x≤k y
theorem Srt.append {α:Type} {k:α→Int} {a b:List α} (ha:Srt k a) (hb:Srt k b) (h:∀ x∈a,∀ y∈b,k x≤k y):Srt k (a++b):=ahh.2 ⟨ha,hb,h⟩
theorem Srt.left {α:Type} {k:α→Int} {a b:List α} (h:Srt k (a++b)):Srt k a:=(ahh.1 h).1
theorem Srt.right {α:Type} {k:α→Int} {a b:List α} (h:Srt k (a++b)):Srt k b:=(ahh.1 h).2.1
section
variable {k:Option Nat→Int} {ar:List aB} {ok:Option Nat→Prop}
end
end Go.Md
namespace Go.Md
open Go.Dn
section
variable {k:Option Nat→Int} {ar:List aB} {ok:Option Nat→Prop}
end
end Go.Md
namespace Go.Md
open Go.Dn
theorem Srt.get {α:Type} {k:α→Int} {l:List α} (h:Srt k l) {i j:Nat} (hij:i≤j) (hj:j<l.length):k (l[i]'(by omega))≤k l[j]:=by
 rcases Nat.lt_or_eq_of_le hij with h1 | h1
 ·exact ahi.1 h i j (by omega) hj h1
 ·subst h1;exact afM _
section
variable {k:Option Nat→Int} {ar:List aB} {ok:Option Nat→Prop}
end
end Go.Md
namespace Go.Md
open Go.Dn
section
variable {k:Option Nat→Int} {ar:List aB} {ok:Option Nat→Prop}
end
end Go.Md
namespace Go.Md
open Go.Dn
def ChS {α:Type} (k:α→Int) (bs:Nat) (l:List α):Prop:=∀ j:Nat,Srt k ((l.drop (j*bs)).take bs)
theorem ChS.nil {α:Type} (k:α→Int) (bs:Nat):ChS k bs []:=fun _=>by simp[Srt]
theorem ChS.snoc {α:Type} {k:α→Int} {bs:Nat} {A S:List α} {j:Nat} (h:ChS k bs A) (hA:A.length=j*bs) (hS:Srt k S) (hl:S.length≤bs):ChS k bs (A++S):=by
 intro i
 rcases ahP i j with hij | hij | hij
 ·have h1:(i+1)*bs≤j*bs:=ahV _ hij
  rw[ahx,ahX] at h1
  rw[List.drop_append_of_le_length (by omega),ahr (by rw[agP];omega)]
  exact h i
 ·subst hij
  rw[← hA,agj,ahu hl]
  exact hS
 ·have h1:(j+1)*bs≤i*bs:=ahV _ hij
  rw[ahx,ahX] at h1
  rw[agk (by rw[agN];omega)]
  simp[Srt]
theorem ChS.drop {α:Type} {k:α→Int} {bs:Nat} {l:List α} (h:ChS k bs l) (i:Nat):ChS k bs (l.drop (i*bs)):=by
 intro j
 rw[agh, ← ahx]
 exact h (i+j)
theorem Srt.take {α:Type} {k:α→Int} {l:List α} (h:Srt k l) (n:Nat):Srt k (l.take n):=by
 rw[← ahq n l] at h;exact h.left
section
variable {k:Option Nat→Int} {ar:List aB} {ok:Option Nat→Prop}
end
end Go.Md
namespace Go.Md
open Go.Dn
def iH {α:Type} (g:Nat→α→Int):Nat→List α→Int
 | _,[]=>0
 | i,y::r=>if g i y=0 then iH g (i+1) r else g i y
theorem KU {α:Type} {g:Nat→α→Int}:∀ {l:List α} {i:Nat},iH g i l=0→∀ j y,l[j]? =some y→g (i+j) y=0
 | [],_,_,_,_,h=>by simp at h
 | y::r,i,h,j,z,hz=>by
  simp only[iH] at h
  by_cases hg:g i y=0
  ·rw[aiv hg] at h
   cases j with
   | zero=>simp at hz;subst hz;exact hg
   | succ j=>have:=KU h j z (by simpa using hz);rw[show i+(j+1)=i+1+j by omega];exact this
  ·rw[aiu hg] at h;exact absurd h hg
theorem Ux {X α:Type} {γ:Type} {f:X→(X→Option ((Int×Unit) ⊕ γ))→Option ((Int×Unit) ⊕ γ)} (mk:Nat→X) (l:List α) (g:Nat→α→Int) (u:γ)
 (hstep:∀ i y again,l[i]? =some y→f (mk i) again=if g i y=0 then again (mk (i+1)) else some (Sum.inl (g i y,()))) (hend:∀ again,f (mk l.length) again=some (Sum.inr u)):
 ∀ (r:List α) (i n:Nat),l.drop i=r→i≤l.length→r.length<n→iter n (mk i) f=if iH g i r=0 then some (Sum.inr u) else some (Sum.inl (iH g i r,()))
 | _,_,0,_,_,hn=>absurd hn (ahW _)
 | [],i,n+1,hd,hi,_=>by
  have:i=l.length:=by
   have:=congrArg List.length hd
   simp at this;omega
  subst this
  rw[br,hend];rfl
 | y::r,i,n+1,hd,hi,hn=>by
  have hy:l[i]? =some y:=by
   have:=congrArg (·[0]?) hd
   simpa [agA] using this
  have hr:l.drop (i+1)=r:=by
   have:=congrArg List.tail hd
   simpa [aho] using this
  have hi':i<l.length:=(agD.1 hy).1
  rw[br,hstep i y _ hy]
  by_cases hg:g i y=0
  ·have e:iH g i (y::r)=iH g (i+1) r:=by simp[iH,hg]
   rw[aiv hg,e]
   exact Ux mk l g u hstep hend r (i+1) n hr hi' (by simp at hn;omega)
  ·have e:iH g i (y::r)=g i y:=by simp[iH,hg]
   rw[aiu hg,e,aiu hg]
theorem eE (a b c:Int):bO a b c=some (decide (a<b∨c<a),()):=by
 unfold bO
 by_cases h:a<b
 ·rw[aK h];simp[h]
 ·rw[aN h];simp[h]
theorem rq (n:Int):jZ n=some (decide (1≤n∧n≤3652059),()):=by
 unfold jZ
 rw[eE,ah4]
 congr 2
 simp only[← decide_not]
 congr 1
 simp only[aiq];omega
def bV (s:Bys):Bool:=((cW s).map (·.1)).getD false
theorem oM (s:Bys):cW s=some (bV s,()):=by
 have:∃ b,cW s=some (b,()):=by
  unfold cW
  by_cases h1:(s.length:Int)<1
  ·rw[aK h1];exact⟨_,rfl⟩
  ·rw[aN h1]
   by_cases h2:(s.length:Int)>40
   ·rw[aK h2];exact⟨_,rfl⟩
   ·rw[aN h2]
    have hs:D5 s 0=some (s[0]'(by omega)):=by simp[D5]
    rw[hs]
    simp only[ah4]
    have ht:lX s [97,98,99,100,101,102,103,104,105,106,107,108,109,110,111,112,113,114,115,116,117,118,119,120,121,122,48,49,50,51,52,53,54,55,56,57,45]=some (Lib.trimS s [97,98,99,100,101,102,103,104,105,106,107,108,109,110,111,112,113,114,115,116,117,118,119,120,121,122,48,49,50,51,52,53,54,55,56,57,45],()):=by
     unfold lX
     rw[show (decide (s.length≤9223372036854775807))=true by simp;omega]
     rfl
    rw[ht]
    simp only[ah4]
    generalize (decide ((((s[0]'(by omega)).toNat:Int))<97))=b1
    generalize (decide ((((s[0]'(by omega)).toNat:Int))>122))=b2
    cases b1<;>cases b2<;>exact⟨_,rfl⟩
 obtain⟨b,hb⟩:=this
 unfold bV
 rw[hb];rfl
theorem HM (d:ah):cD d=some (if -1000000000000000≤d.1∧d.1≤1000000000000000∧0≤d.2∧d.2≤9 then 0 else 1,()):=by
 unfold cD
 rw[eE,ah4,eE]
 simp only[ah4]
 by_cases h1:d.1< -1000000000000000∨1000000000000000<d.1
 ·rw[aK h1,aiu (by omega)]
 ·rw[aN h1]
  by_cases h2:d.2<0∨9<d.2
  ·rw[aK h2,aiu (by omega)]
  ·rw[aN h2,aiv (by omega)]
theorem acO {n:Nat} (h:n≤18):(10:Int) ^ n≤1000000000000000000:=by
 have:=ahZ (n:=10) (by omega) h
 have h2:=afX.2 this
 simpa using h2
theorem si (n:Nat):(0:Int)<10 ^ n:=Qw (by omega) n
theorem K9 (n:Int) (h0:0≤n) (h1:n≤18):wU n=some (10 ^ n.toNat,()):=by
 obtain⟨m,rfl⟩:∃ m:Nat,n=m:=⟨n.toNat,by omega⟩
 unfold wU
 have:iter (X:=yZ) (β:=yY) (Int.natAbs (1:Int)+(Int.natAbs (m:Int)+(Int.natAbs (0:Int)+2))) (1,(m:Int),0,()) yX=some (Sum.inr (10 ^ m,())):=by
  refine cN (Inv:=fun i x=>x=(10 ^ i,(m:Int),(i:Int),())) m (fun r=>r=some (Sum.inr (10 ^ m,()))) ?_ ?_ _ 0 _ (by simp) (by omega) (by omega)
  ·rintro i _ again hi rfl ih
   unfold yX
   dsimp only
   have h10:=acO (n:=i+1) (by omega)
   have hp:=si (i+1)
   rw[afZ] at h10 hp
   rw[aK (by omega),av (by omega) (by omega),av (by omega) (by omega)]
   exact ih _ (by rw[afZ];rfl)
  ·rintro _ again rfl
   unfold yX
   dsimp only
   rw[aN (by omega)]
 rw[this,aU]
 simp
theorem QW (d:ah) (most:Int) (h0:0≤d.2) (h1:d.2≤9) (hm0:0≤most) (hm1:most≤1000000000):eH d most=some (decide (-(most*10 ^ d.2.toNat)≤d.1∧d.1≤most*10 ^ d.2.toNat),()):=by
 unfold eH
 rw[K9 _ h0 (by omega),ah4]
 dsimp only
 have hp:=si d.2.toNat
 have hq:(10:Int) ^ d.2.toNat≤1000000000:=by
  have:=ahZ (n:=10) (by omega) (show d.2.toNat≤9 by omega)
  have h2:=afX.2 this
  simpa using h2
 have h3:most*10 ^ d.2.toNat≤1000000000*1000000000:=by
  have a1:most*10 ^ d.2.toNat≤1000000000*10 ^ d.2.toNat:=afQ hm1 (by omega)
  omega
 have h4:0≤most*10 ^ d.2.toNat:=afR hm0 (by omega)
 rw[av (n:=most*10 ^ d.2.toNat) (by omega) (by omega),av (by omega) (by omega),eE,ah4]
 congr 2
 simp only[← decide_not]
 congr 1
 simp only[aiq];omega
def GO (d:ah):Prop:=0<d.1∧0≤d.2∧d.2≤4∧d.1≤1000000000*10 ^ d.2.toNat
instance (d:ah):Decidable (GO d):=by unfold GO;exact inferInstance
structure ad8 (d:de):Prop where
 day0:1≤d.2.1
 day1:d.2.1≤3652059
 mon:GO d.2.2.1
 days0:0≤d.2.2.2.1
 days1:d.2.2.2.1≤10000
 with0:0≤d.2.2.2.2.1
 with1:d.2.2.2.2.1≤d.2.2.2.1
 disc0:0≤d.2.2.2.2.2
 disc1:d.2.2.2.2.2≤1000
structure afc (p:cT):Prop where
 day0:1≤p.1
 day1:p.1≤3652059
 mon:GO p.2.1
 names:p.2.2.length≤100
end Go.Md
namespace Go.Md
open Go.Dn
def NU (d:ah):Int:=d.1*10 ^ (4 - d.2).toNat
theorem GO.NU {d:ah} (h:GO d):0<NU d∧NU d≤10000000000000:=by
 obtain⟨h1,h2,h3,h4⟩:=h
 unfold Md.NU
 have hp:=si (4 - d.2).toNat
 refine⟨Int.mul_pos h1 hp, ?_⟩
 have a1:d.1*10 ^ (4 - d.2).toNat≤1000000000*10 ^ d.2.toNat*10 ^ (4 - d.2).toNat:=afQ h4 (by omega)
 rw[afO, ← afY,show d.2.toNat+(4 - d.2).toNat=4 by omega] at a1
 omega
abbrev Bd:=aB
def aae (x:Bd):Int:=x.2.1
def aah (x:Bd):Int:=x.2.2.1
def taken (x:Bd):Int:=x.2.2.2.1
def done (x:Bd):Int:=x.2.2.2.2
structure VY (x:Bd):Prop where
 d:ad8 x.1
 owes0:0≤aae x
 paid0:0≤aah x
 taken0:0≤taken x
 sum:aae x+aah x+taken x=NU x.1.2.2.1
 none:done x=0→taken x=0
 done0:done x=0∨x.1.2.1≤done x
 iff:aae x=0↔done x≠0
theorem VY.le {x:Bd} (h:VY x):aae x≤10000000000000∧aah x≤10000000000000∧taken x≤10000000000000:=by
 have:=h.d.mon.NU;have:=h.sum;have:=h.owes0;have:=h.paid0;have:=h.taken0;omega
section
variable {ar:List Bd} {h:Nat} {x:Bd}
theorem ad0 {α:Type} {l:List α} {i:Nat} {x y:α} (h:l[i]? =some x):(l.set i y)[i]? =some y:=agJ (agD.1 h).1
end
end Go.Md
namespace Go.Md
open Go.Dn
structure mG (ds:List de) (ar:List Bd):Prop where
 ds:ar.map (·.1)=ds
 ok:∀ x∈ar,VY x
theorem mG.len {ds:List de} {ar:List Bd} (h:mG ds ar):ar.length=ds.length:=by rw[← h.ds];simp
theorem mG.set {ds:List de} {ar:List Bd} (h:mG ds ar) {i:Nat} {x y:Bd} (hx:ar[i]? =some x) (hy:VY y) (he:y.1=x.1):mG ds (ar.set i y):=by
 refine⟨?_,fun z hz=> ?_⟩
 ·rw[List.map_set,he, ← h.ds]
  apply ago
  intro j
  by_cases hj:i=j
  ·subst hj
   rw[agJ (by simp;exact (agD.1 hx).1),agE,hx];rfl
  ·rw[agI hj]
 ·rcases ahd hz with hz | rfl
  ·exact h.ok z hz
  ·exact hy
theorem mG.get {ds:List de} {ar:List Bd} (h:mG ds ar) {i:Nat} {x:Bd} (hx:ar[i]? =some x):VY x:=h.ok x (ahb hx)
def ad5 (ar:List Bd):Int:=(ar.map aah).sum
structure afd (ds:List de) (L T:Int) (s:Int×List Bd):Prop where
 ar:mG ds s.2
 l0:0≤s.1
 l1:s.1≤L
 tot:s.1+ad5 s.2=T
theorem Ah {k v:Ty} (p:k.den×v.den) (m:List (k.den×v.den)) (n:k.den):b9 (p::m) n=bif k.beq n p.1 then some p.2 else b9 m n:=by
 unfold b9
 rw[List.find?_cons]
 cases k.beq n p.1<;>rfl
theorem abE {k v:Ty} (p:k.den×v.den) (m:List (k.den×v.den)) (x:k.den) (y:v.den):jJ (p::m) x y=bif k.beq x p.1 then (x,y)::m else p::jJ m x y:=rfl
theorem Nf {k v:Ty} (hb:∀ a b:k.den,k.beq a b=true↔a=b) (m:List (k.den×v.den)) (x:k.den) (y:v.den) (n:k.den):b9 (jJ m x y) n=bif k.beq x n then some y else b9 m n:=by
 have hcomm:∀ a b:k.den,k.beq a b=k.beq b a:=fun a b=>by
  rw[afv,hb,hb];exact eq_comm
 induction m with
 | nil=>
  change b9 [(x,y)] n=_
  rw[Ah,hcomm n x]
 | cons p m ih=>
  rw[abE]
  cases hp:k.beq x p.1 with
  | true=>
   rw[aii,Ah,Ah,hcomm n p.1, ← (hb _ _).1 hp,hcomm n x]
   cases k.beq x n<;>rfl
  | false=>
   rw[aih,Ah,Ah,ih]
   cases hn:k.beq n p.1 with
   | true=>
    have:k.beq x n=false:=by
     cases h:k.beq x n with
     | false=>rfl
     | true=>rw[(hb _ _).1 h,hn] at hp;cases hp
    rw[this];rfl
   | false=>rfl
end Go.Md
namespace Go.Md
open Go.Dn
def few:Nat→Int→Int×Nat
 | 0,z=>(z,0)
 | p+1,z=>if z % 10=0 then few p (z / 10) else (z,p+1)
theorem EY:∀ (p:Nat) (z:Int),(few p z).2≤p∧(few p z).1*10 ^ (p - (few p z).2)=z∧(few p z).1.natAbs≤z.natAbs
 | 0,z=>by simp[few]
 | p+1,z=>by
  unfold few
  split
  ·rename_i h
   obtain⟨h1,h2,h3⟩:=EY p (z / 10)
   refine⟨by omega, ?_,by omega⟩
   rw[show p+1 - (few p (z / 10)).2=(p - (few p (z / 10)).2)+1 by omega,afZ, ← afO,h2]
   omega
  ·simp
theorem Qh:∀ p,few p 0=(0,0)
 | 0=>rfl
 | p+1=>by unfold few;simp[Qh p]
theorem SL (z:Int) (p:Int):yp (W z) p=some (if z.natAbs≤1000000000000000 then ((z,p),0,()) else ((0,0),1,())):=by
 unfold yp
 rw[QF z 1000000000000000 (by omega) (by omega),ah4]
 by_cases h:(z.natAbs:Int)≤1000000000000000
 ·rw[aiv h,aiv (by omega)];rfl
 ·rw[aiu h,aiu (by omega)];rfl
theorem PC (z:Int) (hz:z.natAbs<4294967296 ^ 99) (p:Nat) (hp:p≤1000):tr (W z) (p:Int)=some (if (few p z).1.natAbs≤1000000000000000 then (((few p z).1,((few p z).2:Int)),0,()) else ((0,0),1,())):=by
 unfold tr
 rw[nA 10 (by omega) (by omega),ah4]
 dsimp only
 have loop:∀ (n:Nat) (z:Int) (p:Nat),z.natAbs<4294967296 ^ 99→p≤1000→p<n→iter (X:=sA) (β:=sw) n ((p:Int),(W z).1,(W z).2,0,0,(W 10).1,(W 10).2,()) su=some (Sum.inr (((few p z).2:Int),(W (few p z).1).1,(W (few p z).1).2,0,0,())):=by
  intro n
  induction n with
  | zero=>intro z p _ _ h;omega
  | succ n ih=>
   intro z p hz hp hn
   rw[br]
   generalize hag:(fun y=>iter n y su)=again
   unfold su
   dsimp only
   cases p with
   | zero=>rw[aN (by omega)];rfl
   | succ p=>
    have e10:(10:Int).natAbs=10:=rfl
    rw[aK (by omega)]
    change (Option.bind (wN (W z) (W 10)) _)=_
    rw[SF z 10 hz (by rw[e10];exact ahK (by omega) (ahZ (n:=4294967296) (by omega) (show 1≤99 by omega))) (by omega),ah4]
    dsimp only
    rw[qS,ah4]
    dsimp only
    rw[e10]
    by_cases hm:z % 10=0
    ·have hm2:z.natAbs % 10=0:=by omega
     rw[hm2,show ((((0:Nat):Int).sign) != 0)=false from rfl,aih]
     change (Option.bind (jr (W z)) _)=_
     rw[qS,ah4]
     dsimp only
     have hf:few (p+1) z=few p (z / 10):=by simp[few,hm]
     rw[hf]
     have hz':(z / 10).natAbs<4294967296 ^ 99:=ahJ (by omega) hz
     by_cases hneg:z<0
     ·rw[aK (by rw[af0 hneg];omega),DI _ (by simp only[afU];exact ahJ (Nat.div_le_self _ _) hz),ah4]
      dsimp only
      rw[show -((z.natAbs / 10:Nat):Int)=z / 10 by omega,av (by omega) (by omega),show ((p+1:Nat):Int) - 1=(p:Int) by omega, ← hag]
      exact ih (z / 10) p hz' (by omega) (by omega)
     ·rw[aN (by
       rcases (show z=0∨0<z by omega) with h | h
       ·subst h;decide
       ·rw[af1 h];omega),show ((z.natAbs / 10:Nat):Int)=z / 10 by omega,av (by omega) (by omega),show ((p+1:Nat):Int) - 1=(p:Int) by omega, ← hag]
      exact ih (z / 10) p hz' (by omega) (by omega)
    ·have hm2:0<z.natAbs % 10:=by omega
     have:(((z.natAbs % 10:Nat):Int).sign != 0)=true:=by
      rw[af1 (by omega)];rfl
     rw[this,aii]
     have hf:few (p+1) z=(z,p+1):=by simp[few,hm]
     rw[hf]
 have:=loop (Int.natAbs (p:Int)+(List.length (W z).2+(Int.natAbs (0:Int)+(Int.natAbs (0:Int)+(List.length (W 10).2+2))))) z p hz hp (by omega)
 rw[this,aU]
 dsimp only
 change (Option.bind (yp (W (few p z).1) ((few p z).2:Int)) _)=_
 rw[SL,ah4]
def bX (d:ah):Int:=d.1*10 ^ (9 - d.2).toNat
def b8 (d:ah):Prop:=d.1.natAbs≤1000000000000000∧0≤d.2∧d.2≤9
theorem GO.dec {d:ah} (h:GO d):b8 d:=by
 obtain⟨h1,h2,h3,h4⟩:=h
 have hq:(10:Int) ^ d.2.toNat≤10000:=by
  have:=ahZ (n:=10) (by omega) (show d.2.toNat≤4 by omega)
  have h2:=afX.2 this
  simpa using h2
 exact⟨by omega,h2,by omega⟩
theorem FO {z:Int} (h:z.natAbs<1000000000000000000000000000000000000000000000000000000000000):(dg6 z.natAbs).length≤10:=YL (k:=10) (by simpa using h)
theorem Pg (n:Nat) (hn:n≤40):KN (n:Int)=some (N (10 ^ n),()):=by
 unfold KN
 rw[nR 1 (by omega) (by omega),ah4]
 dsimp only
 have hb:∀ i:Nat,i≤41→(dg6 ((10:Int) ^ i).natAbs).length≤10:=by
  intro i hi
  refine FO ?_
  have h1:((10:Int) ^ i).natAbs=10 ^ i:=by rw[afV];rfl
  have h2:=ahZ (n:=10) (by omega) hi
  omega
 have loop:iter (X:=CM) (β:=CL) (Int.natAbs (n:Int)+(Int.natAbs (0:Int)+(List.length ([]:List Int)+(List.length (N 1).2+2)))) ((n:Int),0,false,[],(N 1).1,(N 1).2,()) CJ=some (Sum.inr (false,[],(N (10 ^ n)).1,(N (10 ^ n)).2,())):=by
  refine cN (Inv:=fun i x=>x=((n:Int),(i:Int),false,[],(N (10 ^ i)).1,(N (10 ^ i)).2,())) n (fun r=>r=some (Sum.inr (false,[],(N (10 ^ n)).1,(N (10 ^ n)).2,()))) ?_ ?_ _ 0 _ (by simp) (by omega) (by omega)
  ·rintro i _ again hi rfl ih
   unfold CJ
   dsimp only
   rw[aK (by omega),nR 10 (by omega) (by omega),ah4]
   change (Option.bind (lC (N (10 ^ i)) (N 10)) _)=_
   have h10:(dg6 (10:Int).natAbs).length≤10:=FO (by decide)
   rw[tQ _ _ (by have:=hb i (by omega);omega) (by omega),ah4]
   dsimp only
   rw[av (by omega) (by omega)]
   exact ih _ (by rw[afZ];rfl)
  ·rintro _ again rfl
   unfold CJ
   dsimp only
   rw[aN (by omega)]
 rw[loop,aU]
theorem KL (d:ah) (hd:b8 d):A8 d 9=some (N (bX d),()):=by
 obtain⟨h1,h2,h3⟩:=hd
 unfold A8
 rw[nR _ (by omega) (by omega),ah4,av (by omega) (by omega)]
 dsimp only
 obtain⟨m,hm⟩:∃ m:Nat,9 - d.2=m:=⟨(9 - d.2).toNat,by omega⟩
 rw[hm,Pg m (by omega),ah4]
 dsimp only
 have hl1:(dg6 d.1.natAbs).length≤10:=FO (by omega)
 have hl2:(dg6 ((10:Int) ^ m).natAbs).length≤10:=by
  refine FO ?_
  have h1:((10:Int) ^ m).natAbs=10 ^ m:=by rw[afV];rfl
  have h2:=ahZ (n:=10) (by omega) (show m≤9 by omega)
  omega
 rw[tQ _ _ (by omega) (by omega),ah4]
 unfold bX
 rw[hm];rfl
theorem Ro {d:ah} (hd:b8 d):(bX d).natAbs≤1000000000000000000000000:=by
 obtain⟨h1,h2,h3⟩:=hd
 unfold bX
 rw[afT,afV]
 have h4:=ahZ (n:=10) (by omega) (show (9 - d.2).toNat≤9 by omega)
 have h5:d.1.natAbs*(10:Int).natAbs ^ (9 - d.2).toNat≤1000000000000000*1000000000:=ahT h1 (by simpa using h4)
 omega
end Go.Md
namespace Go.Md
open Go.Dn
end Go.Md
namespace Go.Md
open Go.Dn
end Go.Md
namespace Go.Md
open Go.Dn
theorem RT {X α B:Type} {f:X→(X→Option B)→Option B} (mk:Nat→X) (l:List α) (g:Nat→α→Int) (fin:Option B) (out:Int→Option B)
 (hstep:∀ i y again,l[i]? =some y→f (mk i) again=if g i y=0 then again (mk (i+1)) else out (g i y)) (hend:∀ again,f (mk l.length) again=fin):
 ∀ (r:List α) (i n:Nat),l.drop i=r→i≤l.length→r.length<n→iter n (mk i) f=if iH g i r=0 then fin else out (iH g i r)
 | _,_,0,_,_,hn=>absurd hn (ahW _)
 | [],i,n+1,hd,hi,_=>by
  have:i=l.length:=by
   have:=congrArg List.length hd
   simp at this;omega
  subst this
  rw[br,hend];rfl
 | y::r,i,n+1,hd,hi,hn=>by
  have hy:l[i]? =some y:=by
   have:=congrArg (·[0]?) hd
   simpa [agA] using this
  have hr:l.drop (i+1)=r:=by
   have:=congrArg List.tail hd
   simpa [aho] using this
  have hi':i<l.length:=(agD.1 hy).1
  rw[br,hstep i y _ hy]
  by_cases hg:g i y=0
  ·have e:iH g i (y::r)=iH g (i+1) r:=by simp[iH,hg]
   rw[aiv hg,e]
   exact RT mk l g fin out hstep hend r (i+1) n hr hi' (by simp at hn;omega)
  ·have e:iH g i (y::r)=g i y:=by simp[iH,hg]
   rw[aiu hg,e,aiu hg]
end Go.Md
namespace Go.Md
open Go.Dn
def V2 (D:Int) (S:Nat→Prop) (ar:List Bd):Prop:=∀ i x,S i→ar[i]? =some x→done x=0∨D<done x
theorem V2.set {D:Int} {S:Nat→Prop} {ar:List Bd} {h:Nat} {x y:Bd} (hq:V2 D S ar) (hx:ar[h]? =some x) (hy:(done x=0∨D<done x)→(done y=0∨D<done y)):V2 D S (ar.set h y):=by
 intro i z hi hz
 by_cases e:h=i
 ·subst e
  rw[ad0 hx] at hz
  cases hz
  exact hy (hq h x hi hx)
 ·rw[agI e] at hz
  exact hq i z hi hz
end Go.Md
namespace Go.Md
open Go.Dn
def nmC:Bys:=[97,98,99,100,101,102,103,104,105,106,107,108,109,110,111,112,113,114,115,116,117,118,119,120,121,122,48,49,50,51,52,53,54,55,56,57,45]
def nmB (c:UInt8):Bool:=nmC.contains c
set_option maxRecDepth 100000 in
theorem adQ:∀ n:Fin 256,nmB (UInt8.ofNat n.1)=((decide (97≤n.1)&&decide (n.1≤122))||((decide (48≤n.1)&&decide (n.1≤57))||decide (n.1=45))):=by decide
theorem aep (c:UInt8):nmB c=((decide (97≤c.toNat)&&decide (c.toNat≤122))||((decide (48≤c.toNat)&&decide (c.toNat≤57))||decide (c.toNat=45))):=by
 have:=adQ ⟨c.toNat,UInt8.toNat_lt c⟩
 simpa using this
theorem GX {α:Type} {p:α→Bool}:∀ {l:List α},l.dropWhile p=[]↔∀ x∈l,p x=true
 | []=>by simp
 | y::r=>by
  cases hp:p y with
  | true=>rw[List.dropWhile_cons_of_pos hp,GX];simp[hp]
  | false=>rw[List.dropWhile_cons_of_neg (by simp[hp])];simp[hp]
theorem Rs {α:Type} {p:α→Bool} {y:α} {r:List α}:∀ {l:List α},l.dropWhile p=y::r→p y=false
 | [],h=>by simp at h
 | z::t,h=>by
  cases hp:p z with
  | true=>rw[List.dropWhile_cons_of_pos hp] at h;exact Rs h
  | false=>rw[List.dropWhile_cons_of_neg (by simp[hp])] at h;cases h;exact hp
theorem ab7 (s c:Bys):(Lib.trimS s c==[])=s.all (c.contains ·):=by
 rw[afv]
 simp only[beq_iff_eq,af7]
 unfold Lib.trimS Lib.trimLeftS Lib.trimRightS
 constructor
 ·intro h
  rw[GX] at h
  cases hd:s.reverse.dropWhile (c.contains ·) with
  | nil=>
   rw[GX] at hd
   intro x hx
   exact hd x (by simpa using hx)
  | cons y r=>
   exfalso
   have h1:=h y (by rw[hd];simp)
   have h2:=Rs hd
   rw[h1] at h2
   cases h2
 ·intro h
  have:s.reverse.dropWhile (c.contains ·)=[]:=GX.2 fun x hx=>h x (by simpa using hx)
  rw[this];rfl
theorem UP {α:Type} (p:α→Bool) (e:Int) (he:e≠0):∀ (l:List α) (i:Nat),iH (fun _ c=>if p c=true then 0 else e) i l=if l.all p=true then 0 else e
 | [],i=>by simp[iH]
 | y::r,i=>by
  have ih:=UP p e he r (i+1)
  cases hp:p y with
  | true=>simp only[iH,hp,aiw,af6,afH];exact ih
  | false=>simp[iH,hp,he]
theorem Xs {s:Bys} {i:Nat} {c:UInt8} (h:s[i]? =some c):D5 s (i:Int)=some c:=by simp[D5,h]
theorem rL (s:Bys):fJ s=some (bV s,()):=by
 unfold fJ bV cW Ny
 by_cases h0:s=[]
 ·subst h0;rfl
 have hb:(s==[])=false:=by simpa using h0
 have hl:0<s.length:=List.length_pos_iff.2 h0
 rw[hb,aih,aN (show ¬((s.length:Int)<1) by omega)]
 by_cases h2:(s.length:Int)>40
 ·rw[aK h2,aK h2];rfl
 rw[aN h2,aN h2]
 have hs:D5 s 0=some (s[0]'hl):=Xs (i:=0) (bq hl)
 simp only[hs,ah4]
 by_cases h3:(((s[0]'hl).toNat:Int))<97
 ·simp only[aK h3];rfl
 simp only[aN h3]
 by_cases h4:(((s[0]'hl).toNat:Int))>122
 ·simp only[aK h4];rfl
 simp only[aN h4]
 have ht:lX s [97,98,99,100,101,102,103,104,105,106,107,108,109,110,111,112,113,114,115,116,117,118,119,120,121,122,48,49,50,51,52,53,54,55,56,57,45]=some (Lib.trimS s nmC,()):=by
  unfold lX
  rw[show (decide (s.length≤9223372036854775807))=true by simp;omega]
  rfl
 rw[ht,ah4]
 have loop:=RT (f:=Bg) (fun i=>(s,(s.length:Int),(i:Int),())) s (fun _ c=>if nmB c=true then 0 else 1) (some (Sum.inr ())) (fun _=>some (Sum.inl (false,())))
  (fun i c again hi=>by
    have hil:=(agD.1 hi).1
    unfold Bg
    dsimp only
    rw[aK (show (i:Int)<(s.length:Int) by omega),Xs hi,ah4,aep c,av (by omega) (by omega)]
    by_cases a1:(c.toNat:Int)<97<;>by_cases a2:(c.toNat:Int)>122<;>by_cases a3:(c.toNat:Int)<48<;>by_cases a4:(c.toNat:Int)>57<;>by_cases a5:(c.toNat:Int)=45<;>
      first
      | omega
      | (have b1:(97≤c.toNat)=¬ ((c.toNat:Int)<97):=by simp only[aiq];omega
         have b2:(c.toNat≤122)=¬ ((c.toNat:Int)>122):=by simp only[aiq];omega
         have b3:(48≤c.toNat)=¬ ((c.toNat:Int)<48):=by simp only[aiq];omega
         have b4:(c.toNat≤57)=¬ ((c.toNat:Int)>57):=by simp only[aiq];omega
         have b5:(c.toNat=45)=((c.toNat:Int)=45):=by simp only[aiq];omega
         simp only[b1,b2,b3,b4,b5,a1,a2,a3,a4,a5,bne,aip,aio,not_true_eq_false,aiz,aft,afH,afs,afw,Bool.or_true,Bool.true_or,Bool.or_false,afz,aii,aih,aiw,afx,ait,Int.one_ne_zero,aie,afE]
         first | rfl | (have a6:((c.toNat:Int)==45)=false:=(by simp only[aid,ne_eq];exact a5);rw[a6];rfl)))
  (fun again=>by
    unfold Bg
    dsimp only
    rw[aN (by omega)])
  s 0 (List.length s+(Int.natAbs ((List.length s:Int))+(Int.natAbs (0:Int)+2))) rfl (ah2 _) (by omega)
 rw[show ((0:Nat):Int)=0 from rfl] at loop
 rw[loop,UP nmB 1 (by omega),ab7]
 have e:(s.all fun x=>nmC.contains x)=s.all nmB:=rfl
 rw[e]
 cases s.all nmB<;>rfl
theorem Bh (a b c:Int):Ak a b c=some (decide (b≤a∧a≤c),()):=by
 unfold Ak
 by_cases h:b≤a
 ·rw[aK h];simp[h]
 ·rw[aN h];simp[h]
theorem zi (a b c:Int):jQ a b c=some (decide (b≤a∧a≤c),()):=Bh a b c
theorem yE (n:Int):we n=some (decide (1≤n∧n≤3652059),()):=by
 unfold we QA
 rw[Bh];rfl
theorem Dw (d:ah):iG d=some (if -1000000000000000≤d.1∧d.1≤1000000000000000∧0≤d.2∧d.2≤9 then 0 else 1,()):=by
 unfold iG
 rw[Bh,ah4]
 by_cases h1: -1000000000000000≤d.1∧d.1≤1000000000000000
 ·rw[aim h1]
  simp only[afE,aih]
  rw[Bh,ah4]
  by_cases h2:0≤d.2∧d.2≤9
  ·rw[aim h2,aiv ⟨h1.1,h1.2,h2⟩];rfl
  ·rw[aik h2,aiu (fun h=>h2 h.2.2)];rfl
 ·rw[aik h1,aiu (fun h=>h1 ⟨h.1,h.2.1⟩)];rfl
theorem KJ {a b:ah} (ha:b8 a) (hb:b8 b):Jq a b=some ((bX a - bX b).sign,()):=by
 unfold Jq
 have l1:=Ro ha
 have l2:=Ro hb
 have m1:=FO (z:=bX a) (by omega)
 have m2:=FO (z:=bX b) (by omega)
 rw[KL a ha,ah4,KL b hb,ah4,Nx _ _ (by omega) (by omega)]
 rfl
instance (d:ah):Decidable (b8 d):=by unfold b8;infer_instance
theorem Yt (d:ah) (lo hi pl:Int) (hlo:lo.natAbs≤1000000000000000) (hhi:hi.natAbs≤1000000000000000):kO d lo hi pl=some (decide (b8 d∧d.2≤pl∧lo*10 ^ 9≤bX d∧bX d≤hi*10 ^ 9),()):=by
 unfold kO
 rw[Dw,ah4]
 have hd:b8 d↔(-1000000000000000≤d.1∧d.1≤1000000000000000∧0≤d.2∧d.2≤9):=by unfold b8;omega
 have z:∀ n:Int,n.natAbs≤1000000000000000→b8 (n,0)∧bX (n,0)=n*10 ^ 9:=fun n hn=>⟨⟨hn,by simp,by simp⟩,by simp[bX]⟩
 by_cases h1:b8 d
 ·rw[aiv (hd.1 h1)]
  dsimp only
  rw[show ((0:Int)==0)=true from rfl,aii]
  by_cases h2:d.2≤pl
  ·rw[aK h2,KJ h1 (z lo hlo).1,ah4,(z lo hlo).2]
   dsimp only
   by_cases h3:lo*10 ^ 9≤bX d
   ·rw[aK (by rw[ge_iff_le,Int.sign_nonneg_iff];omega),KJ h1 (z hi hhi).1,ah4,(z hi hhi).2]
    have:((bX d - hi*10 ^ 9).sign≤0)=(b8 d∧d.2≤pl∧lo*10 ^ 9≤bX d∧bX d≤hi*10 ^ 9):=by
     rw[Int.sign_nonpos_iff,aiq]
     constructor
     ·intro h;exact⟨h1,h2,h3,by omega⟩
     ·intro h;omega
    simp only[this]
   ·rw[aN (by rw[ge_iff_le,Int.sign_nonneg_iff];omega),aik (fun h=>h3 h.2.2.1)]
  ·rw[aN h2,aik (fun h=>h2 h.2.1)]
 ·rw[aiu (fun h=>h1 (hd.2 h)),aik (p:=b8 d∧d.2≤pl∧lo*10 ^ 9≤bX d∧bX d≤hi*10 ^ 9) (fun h=>h1 h.1)];rfl
end Go.Md
