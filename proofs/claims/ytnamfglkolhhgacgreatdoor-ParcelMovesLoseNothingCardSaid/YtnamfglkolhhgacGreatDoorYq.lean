/-
  Plain facts, small ones. No condition.
-/
import Derived.Test.YtnamfglkolhhgacGreatDoorYp
import Derived.Test.YtnamfglkolhhgacGreatDoorYm
set_option linter.all false
namespace Go.Md
open Go.Dn
structure rE {α:Type} (k:α→Int) (l l':List α):Prop where
 perm:l.Perm l'
 keys:∀ v,l'.filter (fun x=>k x==v)=l.filter (fun x=>k x==v)
theorem rE.refl {α:Type} (k:α→Int) (l:List α):rE k l l:=⟨List.Perm.refl _,fun _=>rfl⟩
theorem rE.trans {α:Type} {k:α→Int} {a b c:List α} (h:rE k a b) (g:rE k b c):rE k a c:=⟨h.perm.trans g.perm,fun v=>(g.keys v).trans (h.keys v)⟩
theorem rE.append {α:Type} {k:α→Int} {a b c d:List α} (h:rE k a b) (g:rE k c d):rE k (a++c) (b++d):=
 ⟨h.perm.append g.perm,fun v=>by rw[List.filter_append,List.filter_append,h.keys,g.keys]⟩
theorem rE.mem {α:Type} {k:α→Int} {a b:List α} (h:rE k a b) {x:α}:x∈b↔x∈a:=h.perm.mem_iff.symm
theorem rE.length {α:Type} {k:α→Int} {a b:List α} (h:rE k a b):b.length=a.length:=h.perm.length_eq.symm
def Srt {α:Type} (k:α→Int) (l:List α):Prop:=l.Pairwise fun x y=>k x≤k y
theorem Srt.append {α:Type} {k:α→Int} {a b:List α} (ha:Srt k a) (hb:Srt k b) (h:∀ x∈a,∀ y∈b,k x≤k y):Srt k (a++b):=Uz.2 ⟨ha,hb,h⟩
theorem Srt.left {α:Type} {k:α→Int} {a b:List α} (h:Srt k (a++b)):Srt k a:=(Uz.1 h).1
theorem Srt.right {α:Type} {k:α→Int} {a b:List α} (h:Srt k (a++b)):Srt k b:=(Uz.1 h).2.1
section
variable {k:Option Nat→Int} {ar:List nS} {ok:Option Nat→Prop}
end
end Go.Md
namespace Go.Md
open Go.Dn
section
variable {k:Option Nat→Int} {ar:List nS} {ok:Option Nat→Prop}
end
end Go.Md
namespace Go.Md
open Go.Dn
theorem Srt.get {α:Type} {k:α→Int} {l:List α} (h:Srt k l) {i j:Nat} (hij:i≤j) (hj:j<l.length):k (l[i]'(by omega))≤k l[j]:=by
 rcases Nat.lt_or_eq_of_le hij with h1 | h1
 ·exact UB.1 h i j (by omega) hj h1
 ·subst h1;exact Ti _
section
variable {k:Option Nat→Int} {ar:List nS} {ok:Option Nat→Prop}
end
end Go.Md
namespace Go.Md
open Go.Dn
section
variable {k:Option Nat→Int} {ar:List nS} {ok:Option Nat→Prop}
end
end Go.Md
namespace Go.Md
open Go.Dn
def ChS {α:Type} (k:α→Int) (bs:Nat) (l:List α):Prop:=∀ j:Nat,Srt k ((l.drop (j*bs)).take bs)
theorem ChS.nil {α:Type} (k:α→Int) (bs:Nat):ChS k bs []:=fun _=>by simp[Srt]
theorem ChS.snoc {α:Type} {k:α→Int} {bs:Nat} {A S:List α} {j:Nat} (h:ChS k bs A) (hA:A.length=j*bs) (hS:Srt k S) (hl:S.length≤bs):ChS k bs (A++S):=by
 intro i
 rcases U8 i j with hij | hij | hij
 ·have h1:(i+1)*bs≤j*bs:=Vc _ hij
  rw[UR,Ve] at h1
  rw[List.drop_append_of_le_length (by omega),UL (by rw[T9];omega)]
  exact h i
 ·subst hij
  rw[← hA,TD,UN hl]
  exact hS
 ·have h1:(j+1)*bs≤i*bs:=Vc _ hij
  rw[UR,Ve] at h1
  rw[TE (by rw[T7];omega)]
  simp[Srt]
theorem ChS.drop {α:Type} {k:α→Int} {bs:Nat} {l:List α} (h:ChS k bs l) (i:Nat):ChS k bs (l.drop (i*bs)):=by
 intro j
 rw[TB, ← UR]
 exact h (i+j)
theorem Srt.take {α:Type} {k:α→Int} {l:List α} (h:Srt k l) (n:Nat):Srt k (l.take n):=by
 rw[← UK n l] at h;exact h.left
section
variable {k:Option Nat→Int} {ar:List nS} {ok:Option Nat→Prop}
end
end Go.Md
namespace Go.Md
open Go.Dn
def eA {α:Type} (g:Nat→α→Int):Nat→List α→Int
 | _,[]=>0
 | i,y::r=>if g i y=0 then eA g (i+1) r else g i y
theorem eU {α:Type} {g:Nat→α→Int}:∀ {l:List α} {i:Nat},eA g i l=0→∀ j y,l[j]? =some y→g (i+j) y=0
 | [],_,_,_,_,h=>by simp at h
 | y::r,i,h,j,z,hz=>by
  simp only[eA] at h
  by_cases hg:g i y=0
  ·rw[VH hg] at h
   cases j with
   | zero=>simp at hz;subst hz;exact hg
   | succ j=>have:=eU h j z (by simpa using hz);rw[show i+(j+1)=i+1+j by omega];exact this
  ·rw[VG hg] at h;exact absurd h hg
theorem Jt {X α:Type} {γ:Type} {f:X→(X→Option ((Int×Unit) ⊕ γ))→Option ((Int×Unit) ⊕ γ)} (mk:Nat→X) (l:List α) (g:Nat→α→Int) (u:γ)
 (hstep:∀ i y again,l[i]? =some y→f (mk i) again=if g i y=0 then again (mk (i+1)) else some (Sum.inl (g i y,()))) (hend:∀ again,f (mk l.length) again=some (Sum.inr u)):
 ∀ (r:List α) (i n:Nat),l.drop i=r→i≤l.length→r.length<n→iter n (mk i) f=if eA g i r=0 then some (Sum.inr u) else some (Sum.inl (eA g i r,()))
 | _,_,0,_,_,hn=>absurd hn (Vd _)
 | [],i,n+1,hd,hi,_=>by
  have:i=l.length:=by
   have:=congrArg List.length hd
   simp at this;omega
  subst this
  rw[fZ,hend];rfl
 | y::r,i,n+1,hd,hi,hn=>by
  have hy:l[i]? =some y:=by
   have:=congrArg (·[0]?) hd
   simpa [TR] using this
  have hr:l.drop (i+1)=r:=by
   have:=congrArg List.tail hd
   simpa [List.tail_drop] using this
  have hi':i<l.length:=(TU.1 hy).1
  rw[fZ,hstep i y _ hy]
  by_cases hg:g i y=0
  ·have e:eA g i (y::r)=eA g (i+1) r:=by simp[eA,hg]
   rw[VH hg,e]
   exact Jt mk l g u hstep hend r (i+1) n hr hi' (by simp at hn;omega)
  ·have e:eA g i (y::r)=g i y:=by simp[eA,hg]
   rw[VG hg,e,VG hg]
theorem pY (a b c:Int):jM a b c=some (decide (a<b∨c<a),()):=by
 unfold jM
 by_cases h:a<b
 ·rw[aO h];simp[h]
 ·rw[aX h];simp[h]
theorem LA (n:Int):yZ n=some (decide (1≤n∧n≤3652059),()):=by
 unfold yZ
 rw[pY,Vl]
 congr 2
 simp only[← decide_not]
 congr 1
 simp only[eq_iff_iff];omega
def oT (s:List UInt8):Bool:=((fI s).map (·.1)).getD false
theorem BQ (s:List UInt8):fI s=some (oT s,()):=by
 have:∃ b,fI s=some (b,()):=by
  unfold fI
  by_cases h1:(s.length:Int)<1
  ·rw[aO h1];exact⟨_,rfl⟩
  ·rw[aX h1]
   by_cases h2:(s.length:Int)>40
   ·rw[aO h2];exact⟨_,rfl⟩
   ·rw[aX h2]
    have hs:wD s 0=some (s[0]'(by omega)):=by simp[wD]
    rw[hs]
    simp only[Vl]
    have ht:mF s [97,98,99,100,101,102,103,104,105,106,107,108,109,110,111,112,113,114,115,116,117,118,119,120,121,122,48,49,50,51,52,53,54,55,56,57,45]=some (Lib.trimS s [97,98,99,100,101,102,103,104,105,106,107,108,109,110,111,112,113,114,115,116,117,118,119,120,121,122,48,49,50,51,52,53,54,55,56,57,45],()):=by
     unfold mF
     rw[show (decide (s.length≤9223372036854775807))=true by simp;omega]
     rfl
    rw[ht]
    simp only[Vl]
    generalize (decide ((((s[0]'(by omega)).toNat:Int))<97))=b1
    generalize (decide ((((s[0]'(by omega)).toNat:Int))>122))=b2
    cases b1<;>cases b2<;>exact⟨_,rfl⟩
 obtain⟨b,hb⟩:=this
 unfold oT
 rw[hb];rfl
theorem zk (d:aj):ic d=some (if -1000000000000000≤d.1∧d.1≤1000000000000000∧0≤d.2∧d.2≤9 then 0 else 1,()):=by
 unfold ic
 rw[pY,Vl,pY]
 simp only[Vl]
 by_cases h1:d.1< -1000000000000000∨1000000000000000<d.1
 ·rw[aO h1,VG (by omega)]
 ·rw[aX h1]
  by_cases h2:d.2<0∨9<d.2
  ·rw[aO h2,VG (by omega)]
  ·rw[aX h2,VH (by omega)]
theorem Qi {n:Nat} (h:n≤18):(10:Int) ^ n≤1000000000000000000:=by
 have:=Vg (n:=10) (by omega) h
 have h2:=Int.ofNat_le.2 this
 simpa using h2
theorem Dz (n:Nat):(0:Int)<10 ^ n:=L0 (by omega) n
theorem JZ (n:Int) (h0:0≤n) (h1:n≤18):Gp n=some (10 ^ n.toNat,()):=by
 obtain⟨m,rfl⟩:∃ m:Nat,n=m:=⟨n.toNat,by omega⟩
 unfold Gp
 have:iter (X:=q7) (β:=qZ) (Int.natAbs (1:Int)+(Int.natAbs (m:Int)+(Int.natAbs (0:Int)+2))) (1,(m:Int),0,()) qY=some (Sum.inr (10 ^ m,())):=by
  refine cN (Inv:=fun i x=>x=(10 ^ i,(m:Int),(i:Int),())) m (fun r=>r=some (Sum.inr (10 ^ m,()))) ?_ ?_ _ 0 _ (by simp) (by omega) (by omega)
  ·rintro i _ again hi rfl ih
   unfold qY
   dsimp only
   have h10:=Qi (n:=i+1) (by omega)
   have hp:=Dz (i+1)
   rw[Tn] at h10 hp
   rw[aO (by omega),aR (by omega) (by omega),aR (by omega) (by omega)]
   exact ih _ (by rw[Tn];rfl)
  ·rintro _ again rfl
   unfold qY
   dsimp only
   rw[aX (by omega)]
 rw[this,aZ]
 simp
def yS (d:aj):Prop:=0<d.1∧0≤d.2∧d.2≤4∧d.1≤1000000000*10 ^ d.2.toNat
instance (d:aj):Decidable (yS d):=by unfold yS;exact inferInstance
structure Rp (d:mM):Prop where
 day0:1≤d.2.1
 day1:d.2.1≤3652059
 mon:yS d.2.2.1
 days0:0≤d.2.2.2.1
 days1:d.2.2.2.1≤10000
 with0:0≤d.2.2.2.2.1
 with1:d.2.2.2.2.1≤d.2.2.2.1
 disc0:0≤d.2.2.2.2.2
 disc1:d.2.2.2.2.2≤1000
structure SA (p:JV):Prop where
 day0:1≤p.1
 day1:p.1≤3652059
 mon:yS p.2.1
 names:p.2.2.length≤100
end Go.Md
namespace Go.Md
open Go.Dn
def DO (d:aj):Int:=d.1*10 ^ (4 - d.2).toNat
theorem yS.DO {d:aj} (h:yS d):0<DO d∧DO d≤10000000000000:=by
 obtain⟨h1,h2,h3,h4⟩:=h
 unfold Md.DO
 have hp:=Dz (4 - d.2).toNat
 refine⟨Int.mul_pos h1 hp, ?_⟩
 have a1:d.1*10 ^ (4 - d.2).toNat≤1000000000*10 ^ d.2.toNat*10 ^ (4 - d.2).toNat:=Int.mul_le_mul_of_nonneg_right h4 (by omega)
 rw[Tk, ← Int.pow_add,show d.2.toNat+(4 - d.2).toNat=4 by omega] at a1
 omega
abbrev Bd:=nS
def NZ (x:Bd):Int:=x.2.1
def N3 (x:Bd):Int:=x.2.2.1
def taken (x:Bd):Int:=x.2.2.2.1
def done (x:Bd):Int:=x.2.2.2.2
structure KF (x:Bd):Prop where
 d:Rp x.1
 owes0:0≤NZ x
 paid0:0≤N3 x
 taken0:0≤taken x
 sum:NZ x+N3 x+taken x=DO x.1.2.2.1
 none:done x=0→taken x=0
 done0:done x=0∨x.1.2.1≤done x
 iff:NZ x=0↔done x≠0
theorem KF.le {x:Bd} (h:KF x):NZ x≤10000000000000∧N3 x≤10000000000000∧taken x≤10000000000000:=by
 have:=h.d.mon.DO;have:=h.sum;have:=h.owes0;have:=h.paid0;have:=h.taken0;omega
section
variable {ar:List Bd} {h:Nat} {x:Bd}
theorem Rh {α:Type} {l:List α} {i:Nat} {x y:α} (h:l[i]? =some x):(l.set i y)[i]? =some y:=TZ (TU.1 h).1
end
end Go.Md
namespace Go.Md
open Go.Dn
structure iW (ds:List mM) (ar:List Bd):Prop where
 ds:ar.map (·.1)=ds
 ok:∀ x∈ar,KF x
theorem iW.len {ds:List mM} {ar:List Bd} (h:iW ds ar):ar.length=ds.length:=by rw[← h.ds];simp
theorem iW.set {ds:List mM} {ar:List Bd} (h:iW ds ar) {i:Nat} {x y:Bd} (hx:ar[i]? =some x) (hy:KF y) (he:y.1=x.1):iW ds (ar.set i y):=by
 refine⟨?_,fun z hz=> ?_⟩
 ·rw[List.map_set,he, ← h.ds]
  apply TJ
  intro j
  by_cases hj:i=j
  ·subst hj
   rw[TZ (by simp;exact (TU.1 hx).1),TV,hx];rfl
  ·rw[TY hj]
 ·rcases Ut hz with hz | rfl
  ·exact h.ok z hz
  ·exact hy
theorem iW.get {ds:List mM} {ar:List Bd} (h:iW ds ar) {i:Nat} {x:Bd} (hx:ar[i]? =some x):KF x:=h.ok x (Uq hx)
def Rj (ar:List Bd):Int:=(ar.map N3).sum
structure SB (ds:List mM) (L T:Int) (s:Int×List Bd):Prop where
 ar:iW ds s.2
 l0:0≤s.1
 l1:s.1≤L
 tot:s.1+Rj s.2=T
theorem Pc {k v:Ty} (p:k.den×v.den) (m:List (k.den×v.den)) (n:k.den):bW (p::m) n=bif k.beq n p.1 then some p.2 else bW m n:=by
 unfold bW
 rw[List.find?_cons]
 cases k.beq n p.1<;>rfl
theorem Jy {k v:Ty} (p:k.den×v.den) (m:List (k.den×v.den)) (x:k.den) (y:v.den):iY (p::m) x y=bif k.beq x p.1 then (x,y)::m else p::iY m x y:=rfl
end Go.Md
namespace Go.Md
open Go.Dn
def few:Nat→Int→Int×Nat
 | 0,z=>(z,0)
 | p+1,z=>if z % 10=0 then few p (z / 10) else (z,p+1)
theorem Lj:∀ p,few p 0=(0,0)
 | 0=>rfl
 | p+1=>by unfold few;simp[Lj p]
theorem tK (z:Int) (p:Int):nU (W z) p=some (if z.natAbs≤1000000000000000 then ((z,p),0,()) else ((0,0),1,())):=by
 unfold nU
 rw[Ga z 1000000000000000 (by omega) (by omega),Vl]
 by_cases h:(z.natAbs:Int)≤1000000000000000
 ·rw[VH h,VH (by omega)];rfl
 ·rw[VG h,VG (by omega)];rfl
theorem E7 (z:Int) (hz:z.natAbs<4294967296 ^ 99) (p:Nat) (hp:p≤1000):qW (W z) (p:Int)=some (if (few p z).1.natAbs≤1000000000000000 then (((few p z).1,((few p z).2:Int)),0,()) else ((0,0),1,())):=by
 unfold qW
 rw[qT 10 (by omega) (by omega),Vl]
 dsimp only
 have loop:∀ (n:Nat) (z:Int) (p:Nat),z.natAbs<4294967296 ^ 99→p≤1000→p<n→iter (X:=mU) (β:=mT) n ((p:Int),(W z).1,(W z).2,0,0,(W 10).1,(W 10).2,()) mS=some (Sum.inr (((few p z).2:Int),(W (few p z).1).1,(W (few p z).1).2,0,0,())):=by
  intro n
  induction n with
  | zero=>intro z p _ _ h;omega
  | succ n ih=>
   intro z p hz hp hn
   rw[fZ]
   generalize hag:(fun y=>iter n y mS)=again
   unfold mS
   dsimp only
   cases p with
   | zero=>rw[aX (by omega)];rfl
   | succ p=>
    have e10:(10:Int).natAbs=10:=rfl
    rw[aO (by omega)]
    change (Option.bind (pL (W z) (W 10)) _)=_
    rw[HS z 10 hz (by rw[e10];exact U4 (by omega) (Vg (n:=4294967296) (by omega) (show 1≤99 by omega))) (by omega),Vl]
    dsimp only
    rw[wN,Vl]
    dsimp only
    rw[e10]
    by_cases hm:z % 10=0
    ·have hm2:z.natAbs % 10=0:=by omega
     rw[hm2,show ((((0:Nat):Int).sign) != 0)=false from rfl,Vw]
     change (Option.bind (jP (W z)) _)=_
     rw[wN,Vl]
     dsimp only
     have hf:few (p+1) z=few p (z / 10):=by simp[few,hm]
     rw[hf]
     have hz':(z / 10).natAbs<4294967296 ^ 99:=U3 (by omega) hz
     by_cases hneg:z<0
     ·rw[aO (by rw[Int.sign_eq_neg_one_of_neg hneg];omega),DJ _ (by simp only[Int.natAbs_natCast];exact U3 (Nat.div_le_self _ _) hz),Vl]
      dsimp only
      rw[show -((z.natAbs / 10:Nat):Int)=z / 10 by omega,aR (by omega) (by omega),show ((p+1:Nat):Int) - 1=(p:Int) by omega, ← hag]
      exact ih (z / 10) p hz' (by omega) (by omega)
     ·rw[aX (by
       rcases (show z=0∨0<z by omega) with h | h
       ·subst h;decide
       ·rw[Int.sign_eq_one_of_pos h];omega),show ((z.natAbs / 10:Nat):Int)=z / 10 by omega,aR (by omega) (by omega),show ((p+1:Nat):Int) - 1=(p:Int) by omega, ← hag]
      exact ih (z / 10) p hz' (by omega) (by omega)
    ·have hm2:0<z.natAbs % 10:=by omega
     have:(((z.natAbs % 10:Nat):Int).sign != 0)=true:=by
      rw[Int.sign_eq_one_of_pos (by omega)];rfl
     rw[this,Vx]
     have hf:few (p+1) z=(z,p+1):=by simp[few,hm]
     rw[hf]
 have:=loop (Int.natAbs (p:Int)+(List.length (W z).2+(Int.natAbs (0:Int)+(Int.natAbs (0:Int)+(List.length (W 10).2+2))))) z p hz hp (by omega)
 rw[this,aZ]
 dsimp only
 change (Option.bind (nU (W (few p z).1) ((few p z).2:Int)) _)=_
 rw[tK,Vl]
def er (d:aj):Prop:=d.1.natAbs≤1000000000000000∧0≤d.2∧d.2≤9
theorem yS.dec {d:aj} (h:yS d):er d:=by
 obtain⟨h1,h2,h3,h4⟩:=h
 have hq:(10:Int) ^ d.2.toNat≤10000:=by
  have:=Vg (n:=10) (by omega) (show d.2.toNat≤4 by omega)
  have h2:=Int.ofNat_le.2 this
  simpa using h2
 exact⟨by omega,h2,by omega⟩
end Go.Md
namespace Go.Md
open Go.Dn
end Go.Md
namespace Go.Md
open Go.Dn
end Go.Md
namespace Go.Md
open Go.Dn
end Go.Md
namespace Go.Md
open Go.Dn
def KH (D:Int) (S:Nat→Prop) (ar:List Bd):Prop:=∀ i x,S i→ar[i]? =some x→done x=0∨D<done x
theorem KH.set {D:Int} {S:Nat→Prop} {ar:List Bd} {h:Nat} {x y:Bd} (hq:KH D S ar) (hx:ar[h]? =some x) (hy:(done x=0∨D<done x)→(done y=0∨D<done y)):KH D S (ar.set h y):=by
 intro i z hi hz
 by_cases e:h=i
 ·subst e
  rw[Rh hx] at hz
  cases hz
  exact hy (hq h x hi hx)
 ·rw[TY e] at hz
  exact hq i z hi hz
end Go.Md
namespace Go.Md
open Go.Dn
theorem L7 {s:List UInt8} {i:Nat} {c:UInt8} (h:s[i]? =some c):wD s (i:Int)=some c:=by simp[wD,h]
instance (d:aj):Decidable (er d):=by unfold er;infer_instance
end Go.Md
