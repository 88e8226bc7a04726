/-
  Plain facts, small ones. No condition.
-/
import Derived.Test.YtnamfglkolhhgaaGreatDoorYp
import Derived.Test.YtnamfglkolhhgaaGreatDoorYm
set_option linter.all false
namespace Go.Md
open Go.Dn
structure tu {α:Type} (k:α→Int) (l l':List α):Prop where
 perm:l.Perm l'
 keys:∀ v,l'.filter (fun x=>k x==v)=l.filter (fun x=>k x==v)
theorem tu.refl {α:Type} (k:α→Int) (l:List α):tu k l l:=⟨List.Perm.refl _,fun _=>rfl⟩
theorem tu.trans {α:Type} {k:α→Int} {a b c:List α} (h:tu k a b) (g:tu k b c):tu k a c:=⟨h.perm.trans g.perm,fun v=>(g.keys v).trans (h.keys v)⟩
theorem tu.append {α:Type} {k:α→Int} {a b c d:List α} (h:tu k a b) (g:tu k c d):tu k (a++c) (b++d):=
 ⟨h.perm.append g.perm,fun v=>by rw[aaz,aaz,h.keys,g.keys]⟩
theorem tu.mem {α:Type} {k:α→Int} {a b:List α} (h:tu k a b) {x:α}:x∈b↔x∈a:=h.perm.mem_iff.symm
theorem tu.length {α:Type} {k:α→Int} {a b:List α} (h:tu k a b):b.length=a.length:=h.perm.length_eq.symm
def Srt {α:Type} (k:α→Int) (l:List α):Prop:=l.Pairwise fun x y=>k x≤k y
theorem Srt.append {α:Type} {k:α→Int} {a b:List α} (ha:Srt k a) (hb:Srt k b) (h:∀ x∈a,∀ y∈b,k x≤k y):Srt k (a++b):=abo.2 ⟨ha,hb,h⟩
theorem Srt.left {α:Type} {k:α→Int} {a b:List α} (h:Srt k (a++b)):Srt k a:=(abo.1 h).1
theorem Srt.right {α:Type} {k:α→Int} {a b:List α} (h:Srt k (a++b)):Srt k b:=(abo.1 h).2.1
section
variable {k:Option Nat→Int} {ar:List oN} {ok:Option Nat→Prop}
end
end Go.Md
namespace Go.Md
open Go.Dn
section
variable {k:Option Nat→Int} {ar:List oN} {ok:Option Nat→Prop}
end
end Go.Md
namespace Go.Md
open Go.Dn
theorem Srt.get {α:Type} {k:α→Int} {l:List α} (h:Srt k l) {i j:Nat} (hij:i≤j) (hj:j<l.length):k (l[i]'(by omega))≤k l[j]:=by
 rcases Nat.lt_or_eq_of_le hij with h1 | h1
 ·exact abq.1 h i j (by omega) hj h1
 ·subst h1;exact Z2 _
section
variable {k:Option Nat→Int} {ar:List oN} {ok:Option Nat→Prop}
end
end Go.Md
namespace Go.Md
open Go.Dn
section
variable {k:Option Nat→Int} {ar:List oN} {ok:Option Nat→Prop}
end
end Go.Md
namespace Go.Md
open Go.Dn
def ChS {α:Type} (k:α→Int) (bs:Nat) (l:List α):Prop:=∀ j:Nat,Srt k ((l.drop (j*bs)).take bs)
theorem ChS.nil {α:Type} (k:α→Int) (bs:Nat):ChS k bs []:=fun _=>by simp[Srt]
theorem ChS.snoc {α:Type} {k:α→Int} {bs:Nat} {A S:List α} {j:Nat} (h:ChS k bs A) (hA:A.length=j*bs) (hS:Srt k S) (hl:S.length≤bs):ChS k bs (A++S):=by
 intro i
 rcases abZ i j with hij | hij | hij
 ·have h1:(i+1)*bs≤j*bs:=ab3 _ hij
  rw[abH,ab5] at h1
  rw[List.drop_append_of_le_length (by omega),abB (by rw[aaY];omega)]
  exact h i
 ·subst hij
  rw[← hA,aas,abD hl]
  exact hS
 ·have h1:(j+1)*bs≤i*bs:=ab3 _ hij
  rw[abH,ab5] at h1
  rw[aat (by rw[aaW];omega)]
  simp[Srt]
theorem ChS.drop {α:Type} {k:α→Int} {bs:Nat} {l:List α} (h:ChS k bs l) (i:Nat):ChS k bs (l.drop (i*bs)):=by
 intro j
 rw[aaq, ← abH]
 exact h (i+j)
theorem Srt.take {α:Type} {k:α→Int} {l:List α} (h:Srt k l) (n:Nat):Srt k (l.take n):=by
 rw[← abA n l] at h;exact h.left
section
variable {k:Option Nat→Int} {ar:List oN} {ok:Option Nat→Prop}
end
end Go.Md
namespace Go.Md
open Go.Dn
def cr {α:Type} (g:Nat→α→Int):Nat→List α→Int
 | _,[]=>0
 | i,y::r=>if g i y=0 then cr g (i+1) r else g i y
theorem gT {α:Type} {g:Nat→α→Int}:∀ {l:List α} {i:Nat},cr g i l=0→∀ j y,l[j]? =some y→g (i+j) y=0
 | [],_,_,_,_,h=>by simp at h
 | y::r,i,h,j,z,hz=>by
  simp only[cr] at h
  by_cases hg:g i y=0
  ·rw[acF hg] at h
   cases j with
   | zero=>simp at hz;subst hz;exact hg
   | succ j=>have:=gT h j z (by simpa using hz);rw[show i+(j+1)=i+1+j by omega];exact this
  ·rw[acE hg] at h;exact absurd h hg
theorem Oo {X α:Type} {γ:Type} {f:X→(X→Option ((Int×Unit) ⊕ γ))→Option ((Int×Unit) ⊕ γ)} (mk:Nat→X) (l:List α) (g:Nat→α→Int) (u:γ)
 (hstep:∀ i y again,l[i]? =some y→f (mk i) again=if g i y=0 then again (mk (i+1)) else some (Sum.inl (g i y,()))) (hend:∀ again,f (mk l.length) again=some (Sum.inr u)):
 ∀ (r:List α) (i n:Nat),l.drop i=r→i≤l.length→r.length<n→iter n (mk i) f=if cr g i r=0 then some (Sum.inr u) else some (Sum.inl (cr g i r,()))
 | _,_,0,_,_,hn=>absurd hn (ab4 _)
 | [],i,n+1,hd,hi,_=>by
  have:i=l.length:=by
   have:=congrArg List.length hd
   simp at this;omega
  subst this
  rw[bO,hend];rfl
 | y::r,i,n+1,hd,hi,hn=>by
  have hy:l[i]? =some y:=by
   have:=congrArg (·[0]?) hd
   simpa [aaI] using this
  have hr:l.drop (i+1)=r:=by
   have:=congrArg List.tail hd
   simpa [abz] using this
  have hi':i<l.length:=(aaL.1 hy).1
  rw[bO,hstep i y _ hy]
  by_cases hg:g i y=0
  ·have e:cr g i (y::r)=cr g (i+1) r:=by simp[cr,hg]
   rw[acF hg,e]
   exact Oo mk l g u hstep hend r (i+1) n hr hi' (by simp at hn;omega)
  ·have e:cr g i (y::r)=g i y:=by simp[cr,hg]
   rw[acE hg,e,acE hg]
theorem qZ (a b c:Int):jA a b c=some (decide (a<b∨c<a),()):=by
 unfold jA
 by_cases h:a<b
 ·rw[aC h];simp[h]
 ·rw[aH h];simp[h]
theorem Rr (n:Int):B1 n=some (decide (1≤n∧n≤3652059),()):=by
 unfold B1
 rw[qZ,ace]
 congr 2
 simp only[← decide_not]
 congr 1
 simp only[eq_iff_iff];omega
def eZ (s:List UInt8):Bool:=((dQ s).map (·.1)).getD false
theorem yU (s:List UInt8):dQ s=some (eZ s,()):=by
 have:∃ b,dQ s=some (b,()):=by
  unfold dQ
  by_cases h1:(s.length:Int)<1
  ·rw[aC h1];exact⟨_,rfl⟩
  ·rw[aH h1]
   by_cases h2:(s.length:Int)>40
   ·rw[aC h2];exact⟨_,rfl⟩
   ·rw[aH h2]
    have hs:mW s 0=some (s[0]'(by omega)):=by simp[mW]
    rw[hs]
    simp only[ace]
    have ht:iA s [97,98,99,100,101,102,103,104,105,106,107,108,109,110,111,112,113,114,115,116,117,118,119,120,121,122,48,49,50,51,52,53,54,55,56,57,45]=some (Lib.trimS s [97,98,99,100,101,102,103,104,105,106,107,108,109,110,111,112,113,114,115,116,117,118,119,120,121,122,48,49,50,51,52,53,54,55,56,57,45],()):=by
     unfold iA
     rw[show (decide (s.length≤9223372036854775807))=true by simp;omega]
     rfl
    rw[ht]
    simp only[ace]
    generalize (decide ((((s[0]'(by omega)).toNat:Int))<97))=b1
    generalize (decide ((((s[0]'(by omega)).toNat:Int))>122))=b2
    cases b1<;>cases b2<;>exact⟨_,rfl⟩
 obtain⟨b,hb⟩:=this
 unfold eZ
 rw[hb];rfl
theorem Cl (d:ak):gG d=some (if -1000000000000000≤d.1∧d.1≤1000000000000000∧0≤d.2∧d.2≤9 then 0 else 1,()):=by
 unfold gG
 rw[qZ,ace,qZ]
 simp only[ace]
 by_cases h1:d.1< -1000000000000000∨1000000000000000<d.1
 ·rw[aC h1,acE (by omega)]
 ·rw[aH h1]
  by_cases h2:d.2<0∨9<d.2
  ·rw[aC h2,acE (by omega)]
  ·rw[aH h2,acF (by omega)]
theorem Xl {n:Nat} (h:n≤18):(10:Int) ^ n≤1000000000000000000:=by
 have:=ab7 (n:=10) (by omega) h
 have h2:=Int.ofNat_le.2 this
 simpa using h2
theorem B6 (n:Nat):(0:Int)<10 ^ n:=AQ (by omega) n
theorem O4 (n:Int) (h0:0≤n) (h1:n≤18):KM n=some (10 ^ n.toNat,()):=by
 obtain⟨m,rfl⟩:∃ m:Nat,n=m:=⟨n.toNat,by omega⟩
 unfold KM
 have:iter (X:=sI) (β:=sH) (Int.natAbs (1:Int)+(Int.natAbs (m:Int)+(Int.natAbs (0:Int)+2))) (1,(m:Int),0,()) sG=some (Sum.inr (10 ^ m,())):=by
  refine bI (Inv:=fun i x=>x=(10 ^ i,(m:Int),(i:Int),())) m (fun r=>r=some (Sum.inr (10 ^ m,()))) ?_ ?_ _ 0 _ (by simp) (by omega) (by omega)
  ·rintro i _ again hi rfl ih
   unfold sG
   dsimp only
   have h10:=Xl (n:=i+1) (by omega)
   have hp:=B6 (i+1)
   rw[aaa] at h10 hp
   rw[aC (by omega),aA (by omega) (by omega),aA (by omega) (by omega)]
   exact ih _ (by rw[aaa];rfl)
  ·rintro _ again rfl
   unfold sG
   dsimp only
   rw[aH (by omega)]
 rw[this,aV]
 simp
def BO (d:ak):Prop:=0<d.1∧0≤d.2∧d.2≤4∧d.1≤1000000000*10 ^ d.2.toNat
instance (d:ak):Decidable (BO d):=by unfold BO;exact inferInstance
structure Yp (d:nu):Prop where
 day0:1≤d.2.1
 day1:d.2.1≤3652059
 mon:BO d.2.2.1
 days0:0≤d.2.2.2.1
 days1:d.2.2.2.1≤10000
 with0:0≤d.2.2.2.2.1
 with1:d.2.2.2.2.1≤d.2.2.2.1
 disc0:0≤d.2.2.2.2.2
 disc1:d.2.2.2.2.2≤1000
structure Zt (p:OW):Prop where
 day0:1≤p.1
 day1:p.1≤3652059
 mon:BO p.2.1
 names:p.2.2.length≤100
end Go.Md
namespace Go.Md
open Go.Dn
def HW (d:ak):Int:=d.1*10 ^ (4 - d.2).toNat
theorem BO.HW {d:ak} (h:BO d):0<HW d∧HW d≤10000000000000:=by
 obtain⟨h1,h2,h3,h4⟩:=h
 unfold Md.HW
 have hp:=B6 (4 - d.2).toNat
 refine⟨Int.mul_pos h1 hp, ?_⟩
 have a1:d.1*10 ^ (4 - d.2).toNat≤1000000000*10 ^ d.2.toNat*10 ^ (4 - d.2).toNat:=Int.mul_le_mul_of_nonneg_right h4 (by omega)
 rw[Z4, ← Z9,show d.2.toNat+(4 - d.2).toNat=4 by omega] at a1
 omega
abbrev Bd:=oN
def U1 (x:Bd):Int:=x.2.1
def U5 (x:Bd):Int:=x.2.2.1
def taken (x:Bd):Int:=x.2.2.2.1
def done (x:Bd):Int:=x.2.2.2.2
structure Qe (x:Bd):Prop where
 d:Yp x.1
 owes0:0≤U1 x
 paid0:0≤U5 x
 taken0:0≤taken x
 sum:U1 x+U5 x+taken x=HW x.1.2.2.1
 none:done x=0→taken x=0
 done0:done x=0∨x.1.2.1≤done x
 iff:U1 x=0↔done x≠0
theorem Qe.le {x:Bd} (h:Qe x):U1 x≤10000000000000∧U5 x≤10000000000000∧taken x≤10000000000000:=by
 have:=h.d.mon.HW;have:=h.sum;have:=h.owes0;have:=h.paid0;have:=h.taken0;omega
section
variable {ar:List Bd} {h:Nat} {x:Bd}
theorem Yi {α:Type} {l:List α} {i:Nat} {x y:α} (h:l[i]? =some x):(l.set i y)[i]? =some y:=aaR (aaL.1 h).1
end
end Go.Md
namespace Go.Md
open Go.Dn
structure iN (ds:List nu) (ar:List Bd):Prop where
 ds:ar.map (·.1)=ds
 ok:∀ x∈ar,Qe x
theorem iN.len {ds:List nu} {ar:List Bd} (h:iN ds ar):ar.length=ds.length:=by rw[← h.ds];simp
theorem iN.set {ds:List nu} {ar:List Bd} (h:iN ds ar) {i:Nat} {x y:Bd} (hx:ar[i]? =some x) (hy:Qe y) (he:y.1=x.1):iN ds (ar.set i y):=by
 refine⟨?_,fun z hz=> ?_⟩
 ·rw[List.map_set,he, ← h.ds]
  apply aay
  intro j
  by_cases hj:i=j
  ·subst hj
   rw[aaR (by simp;exact (aaL.1 hx).1),aaM,hx];rfl
  ·rw[aaQ hj]
 ·rcases abh hz with hz | rfl
  ·exact h.ok z hz
  ·exact hy
theorem iN.get {ds:List nu} {ar:List Bd} (h:iN ds ar) {i:Nat} {x:Bd} (hx:ar[i]? =some x):Qe x:=h.ok x (abf hx)
def Yk (ar:List Bd):Int:=(ar.map U5).sum
structure Zu (ds:List nu) (L T:Int) (s:Int×List Bd):Prop where
 ar:iN ds s.2
 l0:0≤s.1
 l1:s.1≤L
 tot:s.1+Yk s.2=T
theorem Wg {k v:Ty} (p:k.den×v.den) (m:List (k.den×v.den)) (n:k.den):bZ (p::m) n=bif k.beq n p.1 then some p.2 else bZ m n:=by
 unfold bZ
 rw[List.find?_cons]
 cases k.beq n p.1<;>rfl
theorem Ow {k v:Ty} (p:k.den×v.den) (m:List (k.den×v.den)) (x:k.den) (y:v.den):gJ (p::m) x y=bif k.beq x p.1 then (x,y)::m else p::gJ m x y:=rfl
end Go.Md
namespace Go.Md
open Go.Dn
def few:Nat→Int→Int×Nat
 | 0,z=>(z,0)
 | p+1,z=>if z % 10=0 then few p (z / 10) else (z,p+1)
theorem TP:∀ (p:Nat) (z:Int),(few p z).2≤p∧(few p z).1*10 ^ (p - (few p z).2)=z∧(few p z).1.natAbs≤z.natAbs
 | 0,z=>by simp[few]
 | p+1,z=>by
  unfold few
  split
  ·rename_i h
   obtain⟨h1,h2,h3⟩:=TP p (z / 10)
   refine⟨by omega, ?_,by omega⟩
   rw[show p+1 - (few p (z / 10)).2=(p - (few p (z / 10)).2)+1 by omega,aaa, ← Z4,h2]
   omega
  ·simp
theorem Mq (z:Int) (p:Int):rX (W z) p=some (if z.natAbs≤1000000000000000 then ((z,p),0,()) else ((0,0),1,())):=by
 unfold rX
 rw[Ky z 1000000000000000 (by omega) (by omega),ace]
 by_cases h:(z.natAbs:Int)≤1000000000000000
 ·rw[acF h,acF (by omega)];rfl
 ·rw[acE h,acE (by omega)];rfl
theorem JD (z:Int) (hz:z.natAbs<4294967296 ^ 99) (p:Nat) (hp:p≤1000):sE (W z) (p:Int)=some (if (few p z).1.natAbs≤1000000000000000 then (((few p z).1,((few p z).2:Int)),0,()) else ((0,0),1,())):=by
 unfold sE
 rw[sC 10 (by omega) (by omega),ace]
 dsimp only
 have loop:∀ (n:Nat) (z:Int) (p:Nat),z.natAbs<4294967296 ^ 99→p≤1000→p<n→iter (X:=nD) (β:=nC) n ((p:Int),(W z).1,(W z).2,0,0,(W 10).1,(W 10).2,()) nB=some (Sum.inr (((few p z).2:Int),(W (few p z).1).1,(W (few p z).1).2,0,0,())):=by
  intro n
  induction n with
  | zero=>intro z p _ _ h;omega
  | succ n ih=>
   intro z p hz hp hn
   rw[bO]
   generalize hag:(fun y=>iter n y nB)=again
   unfold nB
   dsimp only
   cases p with
   | zero=>rw[aH (by omega)];rfl
   | succ p=>
    have e10:(10:Int).natAbs=10:=rfl
    rw[aC (by omega)]
    change (Option.bind (qO (W z) (W 10)) _)=_
    rw[Ml z 10 hz (by rw[e10];exact abU (by omega) (ab7 (n:=4294967296) (by omega) (show 1≤99 by omega))) (by omega),ace]
    dsimp only
    rw[zq,ace]
    dsimp only
    rw[e10]
    by_cases hm:z % 10=0
    ·have hm2:z.natAbs % 10=0:=by omega
     rw[hm2,show ((((0:Nat):Int).sign) != 0)=false from rfl,acq]
     change (Option.bind (jF (W z)) _)=_
     rw[zq,ace]
     dsimp only
     have hf:few (p+1) z=few p (z / 10):=by simp[few,hm]
     rw[hf]
     have hz':(z / 10).natAbs<4294967296 ^ 99:=abT (by omega) hz
     by_cases hneg:z<0
     ·rw[aC (by rw[aab hneg];omega),HQ _ (by simp only[Int.natAbs_natCast];exact abT (Nat.div_le_self _ _) hz),ace]
      dsimp only
      rw[show -((z.natAbs / 10:Nat):Int)=z / 10 by omega,aA (by omega) (by omega),show ((p+1:Nat):Int) - 1=(p:Int) by omega, ← hag]
      exact ih (z / 10) p hz' (by omega) (by omega)
     ·rw[aH (by
       rcases (show z=0∨0<z by omega) with h | h
       ·subst h;decide
       ·rw[aac h];omega),show ((z.natAbs / 10:Nat):Int)=z / 10 by omega,aA (by omega) (by omega),show ((p+1:Nat):Int) - 1=(p:Int) by omega, ← hag]
      exact ih (z / 10) p hz' (by omega) (by omega)
    ·have hm2:0<z.natAbs % 10:=by omega
     have:(((z.natAbs % 10:Nat):Int).sign != 0)=true:=by
      rw[aac (by omega)];rfl
     rw[this,acr]
     have hf:few (p+1) z=(z,p+1):=by simp[few,hm]
     rw[hf]
 have:=loop (Int.natAbs (p:Int)+(List.length (W z).2+(Int.natAbs (0:Int)+(Int.natAbs (0:Int)+(List.length (W 10).2+2))))) z p hz hp (by omega)
 rw[this,aV]
 dsimp only
 change (Option.bind (rX (W (few p z).1) ((few p z).2:Int)) _)=_
 rw[Mq,ace]
def tv (d:ak):Int:=d.1*10 ^ (9 - d.2).toNat
def cD (d:ak):Prop:=d.1.natAbs≤1000000000000000∧0≤d.2∧d.2≤9
theorem BO.dec {d:ak} (h:BO d):cD d:=by
 obtain⟨h1,h2,h3,h4⟩:=h
 have hq:(10:Int) ^ d.2.toNat≤10000:=by
  have:=ab7 (n:=10) (by omega) (show d.2.toNat≤4 by omega)
  have h2:=Int.ofNat_le.2 this
  simpa using h2
 exact⟨by omega,h2,by omega⟩
theorem Nl {z:Int} (h:z.natAbs<1000000000000000000000000000000000000000000000000000000000000):(dg6 z.natAbs).length≤10:=TN (k:=10) (by simpa using h)
theorem Jt (n:Nat) (hn:n≤40):A0 (n:Int)=some (N (10 ^ n),()):=by
 unfold A0
 rw[nR 1 (by omega) (by omega),ace]
 dsimp only
 have hb:∀ i:Nat,i≤41→(dg6 ((10:Int) ^ i).natAbs).length≤10:=by
  intro i hi
  refine Nl ?_
  have h1:((10:Int) ^ i).natAbs=10 ^ i:=by rw[Int.natAbs_pow];rfl
  have h2:=ab7 (n:=10) (by omega) hi
  omega
 have loop:iter (X:=xM) (β:=xL) (Int.natAbs (n:Int)+(Int.natAbs (0:Int)+(List.length ([]:List Int)+(List.length (N 1).2+2)))) ((n:Int),0,false,[],(N 1).1,(N 1).2,()) xK=some (Sum.inr (false,[],(N (10 ^ n)).1,(N (10 ^ n)).2,())):=by
  refine bI (Inv:=fun i x=>x=((n:Int),(i:Int),false,[],(N (10 ^ i)).1,(N (10 ^ i)).2,())) n (fun r=>r=some (Sum.inr (false,[],(N (10 ^ n)).1,(N (10 ^ n)).2,()))) ?_ ?_ _ 0 _ (by simp) (by omega) (by omega)
  ·rintro i _ again hi rfl ih
   unfold xK
   dsimp only
   rw[aC (by omega),nR 10 (by omega) (by omega),ace]
   change (Option.bind (lS (N (10 ^ i)) (N 10)) _)=_
   have h10:(dg6 (10:Int).natAbs).length≤10:=Nl (by decide)
   rw[oG _ _ (by have:=hb i (by omega);omega) (by omega),ace]
   dsimp only
   rw[aA (by omega) (by omega)]
   exact ih _ (by rw[aaa];rfl)
  ·rintro _ again rfl
   unfold xK
   dsimp only
   rw[aH (by omega)]
 rw[loop,aV]
theorem R6 (d:ak) (hd:cD d):xG d 9=some (N (tv d),()):=by
 obtain⟨h1,h2,h3⟩:=hd
 unfold xG
 rw[nR _ (by omega) (by omega),ace,aA (by omega) (by omega)]
 dsimp only
 obtain⟨m,hm⟩:∃ m:Nat,9 - d.2=m:=⟨(9 - d.2).toNat,by omega⟩
 rw[hm,Jt m (by omega),ace]
 dsimp only
 have hl1:(dg6 d.1.natAbs).length≤10:=Nl (by omega)
 have hl2:(dg6 ((10:Int) ^ m).natAbs).length≤10:=by
  refine Nl ?_
  have h1:((10:Int) ^ m).natAbs=10 ^ m:=by rw[Int.natAbs_pow];rfl
  have h2:=ab7 (n:=10) (by omega) (show m≤9 by omega)
  omega
 rw[oG _ _ (by omega) (by omega),ace]
 unfold tv
 rw[hm];rfl
theorem KY {d:ak} (hd:cD d):(tv d).natAbs≤1000000000000000000000000:=by
 obtain⟨h1,h2,h3⟩:=hd
 unfold tv
 rw[Int.natAbs_mul,Int.natAbs_pow]
 have h4:=ab7 (n:=10) (by omega) (show (9 - d.2).toNat≤9 by omega)
 have h5:d.1.natAbs*(10:Int).natAbs ^ (9 - d.2).toNat≤1000000000000000*1000000000:=Nat.mul_le_mul h1 (by simpa using h4)
 omega
end Go.Md
namespace Go.Md
open Go.Dn
end Go.Md
namespace Go.Md
open Go.Dn
end Go.Md
namespace Go.Md
open Go.Dn
theorem LH {X α B:Type} {f:X→(X→Option B)→Option B} (mk:Nat→X) (l:List α) (g:Nat→α→Int) (fin:Option B) (out:Int→Option B)
 (hstep:∀ i y again,l[i]? =some y→f (mk i) again=if g i y=0 then again (mk (i+1)) else out (g i y)) (hend:∀ again,f (mk l.length) again=fin):
 ∀ (r:List α) (i n:Nat),l.drop i=r→i≤l.length→r.length<n→iter n (mk i) f=if cr g i r=0 then fin else out (cr g i r)
 | _,_,0,_,_,hn=>absurd hn (ab4 _)
 | [],i,n+1,hd,hi,_=>by
  have:i=l.length:=by
   have:=congrArg List.length hd
   simp at this;omega
  subst this
  rw[bO,hend];rfl
 | y::r,i,n+1,hd,hi,hn=>by
  have hy:l[i]? =some y:=by
   have:=congrArg (·[0]?) hd
   simpa [aaI] using this
  have hr:l.drop (i+1)=r:=by
   have:=congrArg List.tail hd
   simpa [abz] using this
  have hi':i<l.length:=(aaL.1 hy).1
  rw[bO,hstep i y _ hy]
  by_cases hg:g i y=0
  ·have e:cr g i (y::r)=cr g (i+1) r:=by simp[cr,hg]
   rw[acF hg,e]
   exact LH mk l g fin out hstep hend r (i+1) n hr hi' (by simp at hn;omega)
  ·have e:cr g i (y::r)=g i y:=by simp[cr,hg]
   rw[acE hg,e,acE hg]
end Go.Md
namespace Go.Md
open Go.Dn
def Qf (D:Int) (S:Nat→Prop) (ar:List Bd):Prop:=∀ i x,S i→ar[i]? =some x→done x=0∨D<done x
theorem Qf.set {D:Int} {S:Nat→Prop} {ar:List Bd} {h:Nat} {x y:Bd} (hq:Qf D S ar) (hx:ar[h]? =some x) (hy:(done x=0∨D<done x)→(done y=0∨D<done y)):Qf D S (ar.set h y):=by
 intro i z hi hz
 by_cases e:h=i
 ·subst e
  rw[Yi hx] at hz
  cases hz
  exact hy (hq h x hi hx)
 ·rw[aaQ e] at hz
  exact hq i z hi hz
end Go.Md
namespace Go.Md
open Go.Dn
def nmC:List UInt8:=[97,98,99,100,101,102,103,104,105,106,107,108,109,110,111,112,113,114,115,116,117,118,119,120,121,122,48,49,50,51,52,53,54,55,56,57,45]
def nmB (c:UInt8):Bool:=nmC.contains c
set_option maxRecDepth 100000 in
theorem X6:∀ n:Fin 256,nmB (UInt8.ofNat n.1)=((decide (97≤n.1)&&decide (n.1≤122))||((decide (48≤n.1)&&decide (n.1≤57))||decide (n.1=45))):=by decide
theorem YP (c:UInt8):nmB c=((decide (97≤c.toNat)&&decide (c.toNat≤122))||((decide (48≤c.toNat)&&decide (c.toNat≤57))||decide (c.toNat=45))):=by
 have:=X6 ⟨c.toNat,UInt8.toNat_lt c⟩
 simpa using this
theorem BV {α:Type} {p:α→Bool}:∀ {l:List α},l.dropWhile p=[]↔∀ x∈l,p x=true
 | []=>by simp
 | y::r=>by
  cases hp:p y with
  | true=>rw[List.dropWhile_cons_of_pos hp,BV];simp[hp]
  | false=>rw[List.dropWhile_cons_of_neg (by simp[hp])];simp[hp]
theorem Li {α:Type} {p:α→Bool} {y:α} {r:List α}:∀ {l:List α},l.dropWhile p=y::r→p y=false
 | [],h=>by simp at h
 | z::t,h=>by
  cases hp:p z with
  | true=>rw[List.dropWhile_cons_of_pos hp] at h;exact Li h
  | false=>rw[List.dropWhile_cons_of_neg (by simp[hp])] at h;cases h;exact hp
theorem WI (s c:List UInt8):(Lib.trimS s c==[])=s.all (c.contains ·):=by
 rw[Bool.eq_iff_iff]
 simp only[beq_iff_eq,aah]
 unfold Lib.trimS Lib.trimLeftS Lib.trimRightS
 constructor
 ·intro h
  rw[BV] at h
  cases hd:s.reverse.dropWhile (c.contains ·) with
  | nil=>
   rw[BV] at hd
   intro x hx
   exact hd x (by simpa using hx)
  | cons y r=>
   exfalso
   have h1:=h y (by rw[hd];simp)
   have h2:=Li hd
   rw[h1] at h2
   cases h2
 ·intro h
  have:s.reverse.dropWhile (c.contains ·)=[]:=BV.2 fun x hx=>h x (by simpa using hx)
  rw[this];rfl
theorem OP {α:Type} (p:α→Bool) (e:Int) (he:e≠0):∀ (l:List α) (i:Nat),cr (fun _ c=>if p c=true then 0 else e) i l=if l.all p=true then 0 else e
 | [],i=>by simp[cr]
 | y::r,i=>by
  have ih:=OP p e he r (i+1)
  cases hp:p y with
  | true=>simp only[cr,hp,acG,aag,Z0];exact ih
  | false=>simp[cr,hp,he]
theorem A9 {s:List UInt8} {i:Nat} {c:UInt8} (h:s[i]? =some c):mW s (i:Int)=some c:=by simp[mW,h]
theorem AW (s:List UInt8):lR s=some (eZ s,()):=by
 unfold lR eZ dQ HE
 by_cases h0:s=[]
 ·subst h0;rfl
 have hb:(s==[])=false:=by simpa using h0
 have hl:0<s.length:=List.length_pos_iff.2 h0
 rw[hb,acq,aH (show ¬((s.length:Int)<1) by omega)]
 by_cases h2:(s.length:Int)>40
 ·rw[aC h2,aC h2];rfl
 rw[aH h2,aH h2]
 have hs:mW s 0=some (s[0]'hl):=A9 (i:=0) (aF hl)
 simp only[hs,ace]
 by_cases h3:(((s[0]'hl).toNat:Int))<97
 ·simp only[aC h3];rfl
 simp only[aH h3]
 by_cases h4:(((s[0]'hl).toNat:Int))>122
 ·simp only[aC h4];rfl
 simp only[aH h4]
 have ht:iA s [97,98,99,100,101,102,103,104,105,106,107,108,109,110,111,112,113,114,115,116,117,118,119,120,121,122,48,49,50,51,52,53,54,55,56,57,45]=some (Lib.trimS s nmC,()):=by
  unfold iA
  rw[show (decide (s.length≤9223372036854775807))=true by simp;omega]
  rfl
 rw[ht,ace]
 have loop:=LH (f:=vz) (fun i=>(s,(s.length:Int),(i:Int),())) s (fun _ c=>if nmB c=true then 0 else 1) (some (Sum.inr ())) (fun _=>some (Sum.inl (false,())))
  (fun i c again hi=>by
    have hil:=(aaL.1 hi).1
    unfold vz
    dsimp only
    rw[aC (show (i:Int)<(s.length:Int) by omega),A9 hi,ace,YP c,aA (by omega) (by omega)]
    by_cases a1:(c.toNat:Int)<97<;>by_cases a2:(c.toNat:Int)>122<;>by_cases a3:(c.toNat:Int)<48<;>by_cases a4:(c.toNat:Int)>57<;>by_cases a5:(c.toNat:Int)=45<;>
      first
      | omega
      | (have b1:(97≤c.toNat)=¬ ((c.toNat:Int)<97):=by simp only[eq_iff_iff];omega
         have b2:(c.toNat≤122)=¬ ((c.toNat:Int)>122):=by simp only[eq_iff_iff];omega
         have b3:(48≤c.toNat)=¬ ((c.toNat:Int)<48):=by simp only[eq_iff_iff];omega
         have b4:(c.toNat≤57)=¬ ((c.toNat:Int)>57):=by simp only[eq_iff_iff];omega
         have b5:(c.toNat=45)=((c.toNat:Int)=45):=by simp only[eq_iff_iff];omega
         simp only[b1,b2,b3,b4,b5,a1,a2,a3,a4,a5,bne,acA,acz,not_true_eq_false,not_false_eq_true,ZP,Z0,ZO,Bool.false_and,Bool.or_true,Bool.true_or,Bool.or_false,ZS,acr,acq,acG,ZQ,acD,Int.one_ne_zero,aco,ZX]
         first | rfl | (have a6:((c.toNat:Int)==45)=false:=(by simp only[acn,ne_eq];exact a5);rw[a6];rfl)))
  (fun again=>by
    unfold vz
    dsimp only
    rw[aH (by omega)])
  s 0 (List.length s+(Int.natAbs ((List.length s:Int))+(Int.natAbs (0:Int)+2))) rfl (acd _) (by omega)
 rw[show ((0:Nat):Int)=0 from rfl] at loop
 rw[loop,OP nmB 1 (by omega),WI]
 have e:(s.all fun x=>nmC.contains x)=s.all nmB:=rfl
 rw[e]
 cases s.all nmB<;>rfl
theorem vB (a b c:Int):nr a b c=some (decide (b≤a∧a≤c),()):=by
 unfold nr
 by_cases h:b≤a
 ·rw[aC h];simp[h]
 ·rw[aH h];simp[h]
theorem Tx (n:Int):EP n=some (decide (1≤n∧n≤3652059),()):=by
 unfold EP Kt
 rw[vB];rfl
theorem HC (d:ak):lQ d=some (if -1000000000000000≤d.1∧d.1≤1000000000000000∧0≤d.2∧d.2≤9 then 0 else 1,()):=by
 unfold lQ
 rw[vB,ace]
 by_cases h1: -1000000000000000≤d.1∧d.1≤1000000000000000
 ·rw[acw h1]
  simp only[ZX,acq]
  rw[vB,ace]
  by_cases h2:0≤d.2∧d.2≤9
  ·rw[acw h2,acF ⟨h1.1,h1.2,h2⟩];rfl
  ·rw[acu h2,acE (fun h=>h2 h.2.2)];rfl
 ·rw[acu h1,acE (fun h=>h1 ⟨h.1,h.2.1⟩)];rfl
theorem U8 {a b:ak} (ha:cD a) (hb:cD b):Uf a b=some ((tv a - tv b).sign,()):=by
 unfold Uf
 have l1:=KY ha
 have l2:=KY hb
 have m1:=Nl (z:=tv a) (by omega)
 have m2:=Nl (z:=tv b) (by omega)
 rw[R6 a ha,ace,R6 b hb,ace,OJ _ _ (by omega) (by omega)]
 rfl
instance (d:ak):Decidable (cD d):=by unfold cD;infer_instance
end Go.Md
