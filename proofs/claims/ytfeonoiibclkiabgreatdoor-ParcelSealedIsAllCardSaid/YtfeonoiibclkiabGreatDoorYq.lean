/-
  Plain facts, small ones. No condition.
-/
import Derived.Test.YtfeonoiibclkiabGreatDoorYp
import Derived.Test.YtfeonoiibclkiabGreatDoorYm
set_option linter.all false
namespace Go.Md
open Go.Dn
structure rL {α:Type} (k:α→Int) (l l':List α):Prop where
 perm:l.Perm l'
 keys:∀ v,l'.filter (fun x=>k x==v)=l.filter (fun x=>k x==v)
theorem rL.refl {α:Type} (k:α→Int) (l:List α):rL k l l:=⟨List.Perm.refl _,fun _=>rfl⟩
theorem rL.trans {α:Type} {k:α→Int} {a b c:List α} (h:rL k a b) (g:rL k b c):rL k a c:=⟨h.perm.trans g.perm,fun v=>(g.keys v).trans (h.keys v)⟩
theorem rL.append {α:Type} {k:α→Int} {a b c d:List α} (h:rL k a b) (g:rL k c d):rL k (a++c) (b++d):=
 ⟨h.perm.append g.perm,fun v=>by rw[U3,U3,h.keys,g.keys]⟩
theorem rL.mem {α:Type} {k:α→Int} {a b:List α} (h:rL k a b) {x:α}:x∈b↔x∈a:=h.perm.mem_iff.symm
theorem rL.length {α:Type} {k:α→Int} {a b:List α} (h:rL k a b):b.length=a.length:=h.perm.length_eq.symm
theorem rL.swap {α:Type} {k:α→Int} {u v:List α} (h:∀ x∈u,∀ y∈v,k x≠k y):rL k (u++v) (v++u):=by
 refine⟨List.perm_append_comm,fun w=> ?_⟩
 rw[U3,U3]
 by_cases hu:∃ x∈u,k x=w
 ·obtain⟨x,hx,rfl⟩:=hu
  have:v.filter (fun y=>k y==k x)=[]:=by
   rw[List.filter_eq_nil_iff]
   intro y hy
   simpa using fun e=>h x hx y hy e.symm
  rw[this];simp
 ·have:u.filter (fun y=>k y==w)=[]:=by
   rw[List.filter_eq_nil_iff]
   intro y hy
   simpa using fun e=>hu ⟨y,hy,e⟩
  rw[this];simp
def Srt {α:Type} (k:α→Int) (l:List α):Prop:=l.Pairwise fun x y=>k x≤k y
theorem Srt.append {α:Type} {k:α→Int} {a b:List α} (ha:Srt k a) (hb:Srt k b) (h:∀ x∈a,∀ y∈b,k x≤k y):Srt k (a++b):=VO.2 ⟨ha,hb,h⟩
theorem Srt.left {α:Type} {k:α→Int} {a b:List α} (h:Srt k (a++b)):Srt k a:=(VO.1 h).1
theorem Srt.right {α:Type} {k:α→Int} {a b:List α} (h:Srt k (a++b)):Srt k b:=(VO.1 h).2.1
section
variable {k:Option Nat→Int} {ar:List qA} {ok:Option Nat→Prop}
end
end Go.Md
namespace Go.Md
open Go.Dn
section
variable {k:Option Nat→Int} {ar:List qA} {ok:Option Nat→Prop}
end
end Go.Md
namespace Go.Md
open Go.Dn
theorem Srt.get {α:Type} {k:α→Int} {l:List α} (h:Srt k l) {i j:Nat} (hij:i≤j) (hj:j<l.length):k (l[i]'(by omega))≤k l[j]:=by
 rcases Nat.lt_or_eq_of_le hij with h1 | h1
 ·exact VP.1 h i j (by omega) hj h1
 ·subst h1;exact UG _
section
variable {k:Option Nat→Int} {ar:List qA} {ok:Option Nat→Prop}
end
end Go.Md
namespace Go.Md
open Go.Dn
section
variable {k:Option Nat→Int} {ar:List qA} {ok:Option Nat→Prop}
end
end Go.Md
namespace Go.Md
open Go.Dn
def ChS {α:Type} (k:α→Int) (bs:Nat) (l:List α):Prop:=∀ j:Nat,Srt k ((l.drop (j*bs)).take bs)
theorem ChS.nil {α:Type} (k:α→Int) (bs:Nat):ChS k bs []:=fun _=>by simp[Srt]
theorem ChS.snoc {α:Type} {k:α→Int} {bs:Nat} {A S:List α} {j:Nat} (h:ChS k bs A) (hA:A.length=j*bs) (hS:Srt k S) (hl:S.length≤bs):ChS k bs (A++S):=by
 intro i
 rcases Wg i j with hij | hij | hij
 ·have h1:(i+1)*bs≤j*bs:=Wk _ hij
  rw[VZ,Wm] at h1
  rw[List.drop_append_of_le_length (by omega),List.take_append_of_le_length (by rw[List.length_drop];omega)]
  exact h i
 ·subst hij
  rw[← hA,UY,VV hl]
  exact hS
 ·have h1:(j+1)*bs≤i*bs:=Wk _ hij
  rw[VZ,Wm] at h1
  rw[List.drop_of_length_le (by rw[Vo];omega)]
  simp[Srt]
theorem ChS.drop {α:Type} {k:α→Int} {bs:Nat} {l:List α} (h:ChS k bs l) (i:Nat):ChS k bs (l.drop (i*bs)):=by
 intro j
 rw[UW, ← VZ]
 exact h (i+j)
theorem Srt.take {α:Type} {k:α→Int} {l:List α} (h:Srt k l) (n:Nat):Srt k (l.take n):=by
 rw[← VT n l] at h;exact h.left
section
variable {k:Option Nat→Int} {ar:List qA} {ok:Option Nat→Prop}
end
end Go.Md
namespace Go.Md
open Go.Dn
def fQ {α:Type} (g:Nat→α→Int):Nat→List α→Int
 | _,[]=>0
 | i,y::r=>if g i y=0 then fQ g (i+1) r else g i y
theorem ku {α:Type} {g:Nat→α→Int}:∀ {l:List α} {i:Nat},fQ g i l=0→∀ j y,l[j]? =some y→g (i+j) y=0
 | [],_,_,_,_,h=>by simp at h
 | y::r,i,h,j,z,hz=>by
  simp only[fQ] at h
  by_cases hg:g i y=0
  ·rw[WN hg] at h
   cases j with
   | zero=>simp at hz;subst hz;exact hg
   | succ j=>have:=ku h j z (by simpa using hz);rw[show i+(j+1)=i+1+j by omega];exact this
  ·rw[WM hg] at h;exact absurd h hg
theorem LF {X α:Type} {γ:Type} {f:X→(X→Option ((Int×Unit) ⊕ γ))→Option ((Int×Unit) ⊕ γ)} (mk:Nat→X) (l:List α) (g:Nat→α→Int) (u:γ)
 (hstep:∀ i y again,l[i]? =some y→f (mk i) again=if g i y=0 then again (mk (i+1)) else some (Sum.inl (g i y,()))) (hend:∀ again,f (mk l.length) again=some (Sum.inr u)):
 ∀ (r:List α) (i n:Nat),l.drop i=r→i≤l.length→r.length<n→iter n (mk i) f=if fQ g i r=0 then some (Sum.inr u) else some (Sum.inl (fQ g i r,()))
 | _,_,0,_,_,hn=>absurd hn (Wl _)
 | [],i,n+1,hd,hi,_=>by
  have:i=l.length:=by
   have:=congrArg List.length hd
   simp at this;omega
  subst this
  rw[jf,hend];rfl
 | y::r,i,n+1,hd,hi,hn=>by
  have hy:l[i]? =some y:=by
   have:=congrArg (·[0]?) hd
   simpa [Vb] using this
  have hr:l.drop (i+1)=r:=by
   have:=congrArg List.tail hd
   simpa [List.tail_drop] using this
  have hi':i<l.length:=(Ve.1 hy).1
  rw[jf,hstep i y _ hy]
  by_cases hg:g i y=0
  ·have e:fQ g i (y::r)=fQ g (i+1) r:=by simp[fQ,hg]
   rw[WN hg,e]
   exact LF mk l g u hstep hend r (i+1) n hr hi' (by simp at hn;omega)
  ·have e:fQ g i (y::r)=g i y:=by simp[fQ,hg]
   rw[WM hg,e,WM hg]
theorem sU (a b c:Int):kM a b c=some (decide (a<b∨c<a),()):=by
 unfold kM
 by_cases h:a<b
 ·rw[aZ h];simp[h]
 ·rw[aX h];simp[h]
theorem Nu (n:Int):Ba n=some (decide (1≤n∧n≤3652059),()):=by
 unfold Ba
 rw[sU,Wt]
 congr 2
 simp only[← decide_not]
 congr 1
 simp only[eq_iff_iff];omega
def rQ (s:List UInt8):Bool:=((gp s).map (·.1)).getD false
theorem DT (s:List UInt8):gp s=some (rQ s,()):=by
 have:∃ b,gp s=some (b,()):=by
  unfold gp
  by_cases h1:(s.length:Int)<1
  ·rw[aZ h1];exact⟨_,rfl⟩
  ·rw[aX h1]
   by_cases h2:(s.length:Int)>40
   ·rw[aZ h2];exact⟨_,rfl⟩
   ·rw[aX h2]
    have hs:yB s 0=some (s[0]'(by omega)):=by simp[yB]
    rw[hs]
    simp only[Wt]
    have ht:ou s [97,98,99,100,101,102,103,104,105,106,107,108,109,110,111,112,113,114,115,116,117,118,119,120,121,122,48,49,50,51,52,53,54,55,56,57,45]=some (Lib.trimS s [97,98,99,100,101,102,103,104,105,106,107,108,109,110,111,112,113,114,115,116,117,118,119,120,121,122,48,49,50,51,52,53,54,55,56,57,45],()):=by
     unfold ou
     rw[show (decide (s.length≤9223372036854775807))=true by simp;omega]
     rfl
    rw[ht]
    simp only[Wt]
    generalize (decide ((((s[0]'(by omega)).toNat:Int))<97))=b1
    generalize (decide ((((s[0]'(by omega)).toNat:Int))>122))=b2
    cases b1<;>cases b2<;>exact⟨_,rfl⟩
 obtain⟨b,hb⟩:=this
 unfold rQ
 rw[hb];rfl
theorem Bn (d:az):iF d=some (if -1000000000000000≤d.1∧d.1≤1000000000000000∧0≤d.2∧d.2≤9 then 0 else 1,()):=by
 unfold iF
 rw[sU,Wt,sU]
 simp only[Wt]
 by_cases h1:d.1< -1000000000000000∨1000000000000000<d.1
 ·rw[aZ h1,WM (by omega)]
 ·rw[aX h1]
  by_cases h2:d.2<0∨9<d.2
  ·rw[aZ h2,WM (by omega)]
  ·rw[aX h2,WN (by omega)]
theorem RT {n:Nat} (h:n≤18):(10:Int) ^ n≤1000000000000000000:=by
 have:=Wo (n:=10) (by omega) h
 have h2:=Int.ofNat_le.2 this
 simpa using h2
theorem FV (n:Nat):(0:Int)<10 ^ n:=NS (by omega) n
theorem Ma (n:Int) (h0:0≤n) (h1:n≤18):I2 n=some (10 ^ n.toNat,()):=by
 obtain⟨m,rfl⟩:∃ m:Nat,n=m:=⟨n.toNat,by omega⟩
 unfold I2
 have:iter (X:=uq) (β:=uo) (Int.natAbs (1:Int)+(Int.natAbs (m:Int)+(Int.natAbs (0:Int)+2))) (1,(m:Int),0,()) um=some (Sum.inr (10 ^ m,())):=by
  refine cn (Inv:=fun i x=>x=(10 ^ i,(m:Int),(i:Int),())) m (fun r=>r=some (Sum.inr (10 ^ m,()))) ?_ ?_ _ 0 _ (by simp) (by omega) (by omega)
  ·rintro i _ again hi rfl ih
   unfold um
   dsimp only
   have h10:=RT (n:=i+1) (by omega)
   have hp:=FV (i+1)
   rw[UL] at h10 hp
   rw[aZ (by omega),br (by omega) (by omega),br (by omega) (by omega)]
   exact ih _ (by rw[UL];rfl)
  ·rintro _ again rfl
   unfold um
   dsimp only
   rw[aX (by omega)]
 rw[this,bD]
 simp
def A2 (d:az):Prop:=0<d.1∧0≤d.2∧d.2≤4∧d.1≤1000000000*10 ^ d.2.toNat
instance (d:az):Decidable (A2 d):=by unfold A2;exact inferInstance
structure SY (d:oI):Prop where
 day0:1≤d.2.1
 day1:d.2.1≤3652059
 mon:A2 d.2.2.1
 days0:0≤d.2.2.2.1
 days1:d.2.2.2.1≤10000
 with0:0≤d.2.2.2.2.1
 with1:d.2.2.2.2.1≤d.2.2.2.1
 disc0:0≤d.2.2.2.2.2
 disc1:d.2.2.2.2.2≤1000
structure Uc (p:L7):Prop where
 day0:1≤p.1
 day1:p.1≤3652059
 mon:A2 p.2.1
 names:p.2.2.length≤100
end Go.Md
namespace Go.Md
open Go.Dn
def Ge (d:az):Int:=d.1*10 ^ (4 - d.2).toNat
theorem A2.Ge {d:az} (h:A2 d):0<Ge d∧Ge d≤10000000000000:=by
 obtain⟨h1,h2,h3,h4⟩:=h
 unfold Md.Ge
 have hp:=FV (4 - d.2).toNat
 refine⟨Int.mul_pos h1 hp, ?_⟩
 have a1:d.1*10 ^ (4 - d.2).toNat≤1000000000*10 ^ d.2.toNat*10 ^ (4 - d.2).toNat:=Int.mul_le_mul_of_nonneg_right h4 (by omega)
 rw[UI, ← Int.pow_add,show d.2.toNat+(4 - d.2).toNat=4 by omega] at a1
 omega
abbrev Bd:=qA
def PU (x:Bd):Int:=x.2.1
def PY (x:Bd):Int:=x.2.2.1
def taken (x:Bd):Int:=x.2.2.2.1
def done (x:Bd):Int:=x.2.2.2.2
structure MM (x:Bd):Prop where
 d:SY x.1
 owes0:0≤PU x
 paid0:0≤PY x
 taken0:0≤taken x
 sum:PU x+PY x+taken x=Ge x.1.2.2.1
 none:done x=0→taken x=0
 done0:done x=0∨x.1.2.1≤done x
 iff:PU x=0↔done x≠0
theorem MM.le {x:Bd} (h:MM x):PU x≤10000000000000∧PY x≤10000000000000∧taken x≤10000000000000:=by
 have:=h.d.mon.Ge;have:=h.sum;have:=h.owes0;have:=h.paid0;have:=h.taken0;omega
section
variable {ar:List Bd} {h:Nat} {x:Bd}
theorem SO {α:Type} {l:List α} {i:Nat} {x y:α} (h:l[i]? =some x):(l.set i y)[i]? =some y:=Vj (Ve.1 h).1
end
end Go.Md
namespace Go.Md
open Go.Dn
structure jC (ds:List oI) (ar:List Bd):Prop where
 ds:ar.map (·.1)=ds
 ok:∀ x∈ar,MM x
theorem jC.len {ds:List oI} {ar:List Bd} (h:jC ds ar):ar.length=ds.length:=by rw[← h.ds];simp
theorem jC.set {ds:List oI} {ar:List Bd} (h:jC ds ar) {i:Nat} {x y:Bd} (hx:ar[i]? =some x) (hy:MM y) (he:y.1=x.1):jC ds (ar.set i y):=by
 refine⟨?_,fun z hz=> ?_⟩
 ·rw[List.map_set,he, ← h.ds]
  apply U2
  intro j
  by_cases hj:i=j
  ·subst hj
   rw[Vj (by simp;exact (Ve.1 hx).1),Vf,hx];rfl
  ·rw[Vi hj]
 ·rcases VI hz with hz | rfl
  ·exact h.ok z hz
  ·exact hy
theorem jC.get {ds:List oI} {ar:List Bd} (h:jC ds ar) {i:Nat} {x:Bd} (hx:ar[i]? =some x):MM x:=h.ok x (VG hx)
def SR (ar:List Bd):Int:=(ar.map PY).sum
structure Ud (ds:List oI) (L T:Int) (s:Int×List Bd):Prop where
 ar:jC ds s.2
 l0:0≤s.1
 l1:s.1≤L
 tot:s.1+SR s.2=T
theorem Q5 {k v:Ty} (p:k.den×v.den) (m:List (k.den×v.den)) (n:k.den):b9 (p::m) n=bif k.beq n p.1 then some p.2 else b9 m n:=by
 unfold b9
 rw[List.find?_cons]
 cases k.beq n p.1<;>rfl
theorem LL {k v:Ty} (p:k.den×v.den) (m:List (k.den×v.den)) (x:k.den) (y:v.den):jE (p::m) x y=bif k.beq x p.1 then (x,y)::m else p::jE m x y:=rfl
end Go.Md
namespace Go.Md
open Go.Dn
def few:Nat→Int→Int×Nat
 | 0,z=>(z,0)
 | p+1,z=>if z % 10=0 then few p (z / 10) else (z,p+1)
theorem Gi:∀ (p:Nat) (z:Int),(few p z).2≤p∧(few p z).1*10 ^ (p - (few p z).2)=z∧(few p z).1.natAbs≤z.natAbs
 | 0,z=>by simp[few]
 | p+1,z=>by
  unfold few
  split
  ·rename_i h
   obtain⟨h1,h2,h3⟩:=Gi p (z / 10)
   refine⟨by omega, ?_,by omega⟩
   rw[show p+1 - (few p (z / 10)).2=(p - (few p (z / 10)).2)+1 by omega,UL, ← UI,h2]
   omega
  ·simp
theorem Kk (z:Int) (p:Int):tG (W z) p=some (if z.natAbs≤1000000000000000 then ((z,p),0,()) else ((0,0),1,())):=by
 unfold tG
 rw[IP z 1000000000000000 (by omega) (by omega),Wt]
 by_cases h:(z.natAbs:Int)≤1000000000000000
 ·rw[WN h,WN (by omega)];rfl
 ·rw[WM h,WM (by omega)];rfl
theorem HH (z:Int) (hz:z.natAbs<4294967296 ^ 99) (p:Nat) (hp:p≤1000):uj (W z) (p:Int)=some (if (few p z).1.natAbs≤1000000000000000 then (((few p z).1,((few p z).2:Int)),0,()) else ((0,0),1,())):=by
 unfold uj
 rw[uf 10 (by omega) (by omega),Wt]
 dsimp only
 have loop:∀ (n:Nat) (z:Int) (p:Nat),z.natAbs<4294967296 ^ 99→p≤1000→p<n→iter (X:=oQ) (β:=oP) n ((p:Int),(W z).1,(W z).2,0,0,(W 10).1,(W 10).2,()) oO=some (Sum.inr (((few p z).2:Int),(W (few p z).1).1,(W (few p z).1).2,0,0,())):=by
  intro n
  induction n with
  | zero=>intro z p _ _ h;omega
  | succ n ih=>
   intro z p hz hp hn
   rw[jf]
   generalize hag:(fun y=>iter n y oO)=again
   unfold oO
   dsimp only
   cases p with
   | zero=>rw[aX (by omega)];rfl
   | succ p=>
    have e10:(10:Int).natAbs=10:=rfl
    rw[aZ (by omega)]
    change (Option.bind (sG (W z) (W 10)) _)=_
    rw[Ke z 10 hz (by rw[e10];exact Wc (by omega) (Wo (n:=4294967296) (by omega) (show 1≤99 by omega))) (by omega),Wt]
    dsimp only
    rw[yT,Wt]
    dsimp only
    rw[e10]
    by_cases hm:z % 10=0
    ·have hm2:z.natAbs % 10=0:=by omega
     rw[hm2,show ((((0:Nat):Int).sign) != 0)=false from rfl,WD]
     change (Option.bind (iR (W z)) _)=_
     rw[yT,Wt]
     dsimp only
     have hf:few (p+1) z=few p (z / 10):=by simp[few,hm]
     rw[hf]
     have hz':(z / 10).natAbs<4294967296 ^ 99:=Wb (by omega) hz
     by_cases hneg:z<0
     ·rw[aZ (by rw[Int.sign_eq_neg_one_of_neg hneg];omega),F7 _ (by simp only[Int.natAbs_natCast];exact Wb (Nat.div_le_self _ _) hz),Wt]
      dsimp only
      rw[show -((z.natAbs / 10:Nat):Int)=z / 10 by omega,br (by omega) (by omega),show ((p+1:Nat):Int) - 1=(p:Int) by omega, ← hag]
      exact ih (z / 10) p hz' (by omega) (by omega)
     ·rw[aX (by
       rcases (show z=0∨0<z by omega) with h | h
       ·subst h;decide
       ·rw[Int.sign_eq_one_of_pos h];omega),show ((z.natAbs / 10:Nat):Int)=z / 10 by omega,br (by omega) (by omega),show ((p+1:Nat):Int) - 1=(p:Int) by omega, ← hag]
      exact ih (z / 10) p hz' (by omega) (by omega)
    ·have hm2:0<z.natAbs % 10:=by omega
     have:(((z.natAbs % 10:Nat):Int).sign != 0)=true:=by
      rw[Int.sign_eq_one_of_pos (by omega)];rfl
     rw[this,WE]
     have hf:few (p+1) z=(z,p+1):=by simp[few,hm]
     rw[hf]
 have:=loop (Int.natAbs (p:Int)+(List.length (W z).2+(Int.natAbs (0:Int)+(Int.natAbs (0:Int)+(List.length (W 10).2+2))))) z p hz hp (by omega)
 rw[this,bD]
 dsimp only
 change (Option.bind (tG (W (few p z).1) ((few p z).2:Int)) _)=_
 rw[Kk,Wt]
def eN (d:az):Prop:=d.1.natAbs≤1000000000000000∧0≤d.2∧d.2≤9
theorem A2.dec {d:az} (h:A2 d):eN d:=by
 obtain⟨h1,h2,h3,h4⟩:=h
 have hq:(10:Int) ^ d.2.toNat≤10000:=by
  have:=Wo (n:=10) (by omega) (show d.2.toNat≤4 by omega)
  have h2:=Int.ofNat_le.2 this
  simpa using h2
 exact⟨by omega,h2,by omega⟩
end Go.Md
namespace Go.Md
open Go.Dn
end Go.Md
namespace Go.Md
open Go.Dn
end Go.Md
namespace Go.Md
open Go.Dn
end Go.Md
namespace Go.Md
open Go.Dn
def MO (D:Int) (S:Nat→Prop) (ar:List Bd):Prop:=∀ i x,S i→ar[i]? =some x→done x=0∨D<done x
theorem MO.set {D:Int} {S:Nat→Prop} {ar:List Bd} {h:Nat} {x y:Bd} (hq:MO D S ar) (hx:ar[h]? =some x) (hy:(done x=0∨D<done x)→(done y=0∨D<done y)):MO D S (ar.set h y):=by
 intro i z hi hz
 by_cases e:h=i
 ·subst e
  rw[SO hx] at hz
  cases hz
  exact hy (hq h x hi hx)
 ·rw[Vi e] at hz
  exact hq i z hi hz
end Go.Md
namespace Go.Md
open Go.Dn
theorem N0 {s:List UInt8} {i:Nat} {c:UInt8} (h:s[i]? =some c):yB s (i:Int)=some c:=by simp[yB,h]
instance (d:az):Decidable (eN d):=by unfold eN;infer_instance
end Go.Md
