/-
  Plain facts, small ones. No condition.
-/
import Derived.Test.YtcpmaicaibdafaaGreatDoorZp
import Derived.Test.YtcpmaicaibdafaaGreatDoorZm
set_option linter.all false
namespace Go.Md
open Go.Dn
structure cR {α:Type} (k:α→Int) (l l':List α):Prop where
 perm:l.Perm l'
 keys:∀ v,l'.filter (fun x=>k x==v)=l.filter (fun x=>k x==v)
theorem cR.refl {α:Type} (k:α→Int) (l:List α):cR k l l:=⟨List.Perm.refl _,fun _=>rfl⟩
theorem cR.trans {α:Type} {k:α→Int} {a b c:List α} (h:cR k a b) (g:cR k b c):cR k a c:=⟨h.perm.trans g.perm,fun v=>(g.keys v).trans (h.keys v)⟩
theorem cR.append {α:Type} {k:α→Int} {a b c d:List α} (h:cR k a b) (g:cR k c d):cR k (a++c) (b++d):=
 ⟨h.perm.append g.perm,fun v=>by rw[ahu,ahu,h.keys,g.keys]⟩
theorem cR.mem {α:Type} {k:α→Int} {a b:List α} (h:cR k a b) {x:α}:x∈b↔x∈a:=h.perm.mem_iff.symm
theorem cR.length {α:Type} {k:α→Int} {a b:List α} (h:cR k a b):b.length=a.length:=h.perm.length_eq.symm
theorem cR.swap {α:Type} {k:α→Int} {u v:List α} (h:∀ x∈u,∀ y∈v,k x≠k y):cR k (u++v) (v++u):=by
 refine⟨List.perm_append_comm,fun w=> ?_⟩
 rw[ahu,ahu]
 by_cases hu:∃ x∈u,k x=w
 ·obtain⟨x,hx,rfl⟩:=hu
  have:v.filter (fun y=>k y==k x)=[]:=by
   rw[List.filter_eq_nil_iff]
   intro y hy
   simpa using fun e=>h x hx y hy e.symm
  rw[this];simp
 ·have:u.filter (fun y=>k y==w)=[]:=by
   rw[List.filter_eq_nil_iff]
   intro y hy
   simpa using fun e=>hu ⟨y,hy,e⟩
  rw[this];simp
def Srt {α:Type} (k:α→Int) (l:List α):Prop:=l.Pairwise fun x y=>k x≤k y
theorem Srt.append {α:Type} {k:α→Int} {a b:List α} (ha:Srt k a) (hb:Srt k b) (h:∀ x∈a,∀ y∈b,k x≤k y):Srt k (a++b):=aim.2 ⟨ha,hb,h⟩
theorem Srt.left {α:Type} {k:α→Int} {a b:List α} (h:Srt k (a++b)):Srt k a:=(aim.1 h).1
theorem Srt.right {α:Type} {k:α→Int} {a b:List α} (h:Srt k (a++b)):Srt k b:=(aim.1 h).2.1
theorem Srt.OR {α:Type} {k:α→Int} {a b:List α} (h:Srt k (a++b)):∀ x∈a,∀ y∈b,k x≤k y:=(aim.1 h).2.2
theorem Ys {α:Type} (A B:List α) (x y:α):((A++y::x::B).set (A.length+1) y).set A.length x=A++x::y::B:=by
 induction A with
 | nil=>rfl
 | cons a A ih=>simp only[ahk,ahT,ais,ih]
theorem adg {α:Type} (A B:List α) (x y:α):((A++x::y::B).set A.length y).set (A.length+1) x=A++y::x::B:=by
 induction A with
 | nil=>rfl
 | cons a A ih=>simp only[ahk,ahT,ais,ih]
theorem get_at {α:Type} (A B:List α) (y:α):(A++y::B)[A.length]? =some y:=by simp
theorem OY {α:Type} (A B:List α) (x y:α):(A++y::x::B)[A.length+1]? =some x:=by simp
theorem tX {α:Type} {l:List α} {n:Nat} (h:n≤l.length):∃ A B,l=A++B∧A.length=n:=⟨l.take n,l.drop n,by simp,by simp;omega⟩
section
variable {k:Option Nat→Int} {ar:List wU} {ok:Option Nat→Prop}
theorem ad9 {α:Type} {k:α→Int} {P:List α} (h:Srt k P) {v:Int} (hl:∀ y,P.getLast? =some y→k y≤v):∀ y∈P,k y≤v:=by
 rcases List.eq_nil_or_concat P with rfl | ⟨Q,z,rfl⟩
 ·simp
 ·rw[List.concat_eq_append] at*
  have hz:=hl z (by simp)
  intro y hy
  rcases ah6.1 hy with hy | hy
  ·have:=h.OR y hy z (by simp);omega
  ·rw[aij.1 hy];exact hz
theorem adF {α:Type} {k:α→Int} {P2 P3:List α} {x:α} (hs:Srt k (P2++P3)) (h3:∀ y∈P3,k x<k y) (h2:∀ y,P2.getLast? =some y→k y≤k x):Srt k (P2++x::P3)∧cR k (P2++P3++[x]) (P2++x::P3):=by
 constructor
 ·refine hs.left.append (ain.2 ⟨fun y hy=>by have:=h3 y hy;omega,hs.right⟩) ?_
  intro y hy z hz
  have hy':=ad9 hs.left h2 y hy
  rcases ah7.1 hz with rfl | hz
  ·exact hy'
  ·exact hs.OR y hy z hz
 ·rw[ahi]
  refine (cR.refl k P2).append ?_
  have:=cR.swap (k:=k) (u:=P3) (v:=[x]) (fun y hy z hz=>by rw[aij.1 hz];have:=h3 y hy;omega)
  simpa using this
end
end Go.Md
namespace Go.Md
open Go.Dn
theorem aai {α:Type} (A B:List α) (x y:α):(A++x::B).set A.length y=A++y::B:=by
 induction A with
 | nil=>rfl
 | cons a A ih=>simp only[ahk,ahT,ais,ih]
section
variable {k:Option Nat→Int} {ar:List wU} {ok:Option Nat→Prop}
end
end Go.Md
namespace Go.Md
open Go.Dn
theorem bsearch {X β:Type} {f:X→(X→Option β)→Option β} (mk:Nat→Nat→X) (fin:Nat→Option β) (P:Nat→Prop) [DecidablePred P] (lo hi:Nat)
 (hstep:∀ i j again,lo≤i→i<j→j≤hi→f (mk i j) again=if P ((i+j) / 2) then again (mk ((i+j) / 2+1) j) else again (mk i ((i+j) / 2)))
 (hend:∀ i again,lo≤i→i≤hi→f (mk i i) again=fin i) (mono:∀ s t,lo≤s→s≤t→t<hi→P t→P s):
 ∀ n i j,j - i<n→lo≤i→i≤j→j≤hi→(∀ t,lo≤t→t<i→P t)→(∀ t,j≤t→t<hi→¬P t)→∃ r,iter n (mk i j) f=fin r∧lo≤r∧r≤hi∧(∀ t,lo≤t→t<r→P t)∧(∀ t,r≤t→t<hi→¬P t)
 | 0,i,j,hn,_,_,_,_,_=>by omega
 | n+1,i,j,hn,h1,h2,h3,h4,h5=>by
  rw[bY]
  by_cases hij:i=j
  ·subst hij
   exact⟨i,hend i _ h1 h3,h1,h3,h4,h5⟩
  ·rw[hstep i j _ h1 (by omega) h3]
   by_cases hP:P ((i+j) / 2)
   ·rw[ajz hP]
    exact bsearch mk fin P lo hi hstep hend mono n _ _ (by omega) (by omega) (by omega) h3 (fun t ht1 ht2=>mono t _ ht1 (show t≤(i+j) / 2 by omega) (by omega) hP) h5
   ·rw[ajy hP]
    exact bsearch mk fin P lo hi hstep hend mono n _ _ (by omega) h1 (by omega) (by omega) h4 (fun t ht1 ht2 hPt=>hP (mono _ t (by omega) ht1 ht2 hPt))
theorem O2 (i j:Nat) (h:i+j<4000000000000000000):w64 (Int.fdiv (cw (w64 ((i:Int)+(j:Int)))) (2 ^ 1))=(((i+j) / 2:Nat):Int):=by
 rw[aC (n:=(i:Int)+(j:Int)) (by omega) (by omega),fh (by omega) (by omega),agU _ (by omega),aC (by omega) (by omega)]
 omega
theorem aej {α:Type} (X L R Y:List α) {i:Nat} (h:i<L.length):(X++L++R++Y)[X.length+i]? =some L[i]:=by
 rw[ahi,ahi,ahB (by omega),ahA (by omega),show X.length+i - X.length=i by omega,ahF h]
theorem aaP {α:Type} (X L R Y:List α) {i:Nat} (h:i<R.length):(X++L++R++Y)[X.length+L.length+i]? =some R[i]:=by
 rw[ahi,ahi,ahB (by omega),ahB (by omega),ahA (by omega),show X.length+L.length+i - X.length - L.length=i by omega,ahF h]
theorem Srt.get {α:Type} {k:α→Int} {l:List α} (h:Srt k l) {i j:Nat} (hij:i≤j) (hj:j<l.length):k (l[i]'(by omega))≤k l[j]:=by
 rcases Nat.lt_or_eq_of_le hij with h1 | h1
 ·exact aio.1 h i j (by omega) hj h1
 ·subst h1;exact agV _
section
variable {k:Option Nat→Int} {ar:List wU} {ok:Option Nat→Prop}
end
end Go.Md
namespace Go.Md
open Go.Dn
section
variable {k:Option Nat→Int} {ar:List wU} {ok:Option Nat→Prop}
end
end Go.Md
namespace Go.Md
open Go.Dn
def ChS {α:Type} (k:α→Int) (bs:Nat) (l:List α):Prop:=∀ j:Nat,Srt k ((l.drop (j*bs)).take bs)
theorem ChS.nil {α:Type} (k:α→Int) (bs:Nat):ChS k bs []:=fun _=>by simp[Srt]
theorem ChS.snoc {α:Type} {k:α→Int} {bs:Nat} {A S:List α} {j:Nat} (h:ChS k bs A) (hA:A.length=j*bs) (hS:Srt k S) (hl:S.length≤bs):ChS k bs (A++S):=by
 intro i
 rcases aiV i j with hij | hij | hij
 ·have h1:(i+1)*bs≤j*bs:=ai1 _ hij
  rw[aiF,ai3] at h1
  rw[List.drop_append_of_le_length (by omega),List.take_append_of_le_length (by rw[List.length_drop];omega)]
  exact h i
 ·subst hij
  rw[← hA,ahp,aiC hl]
  exact hS
 ·have h1:(j+1)*bs≤i*bs:=ai1 _ hij
  rw[aiF,ai3] at h1
  rw[List.drop_of_length_le (by rw[ahS];omega)]
  simp[Srt]
theorem ChS.drop {α:Type} {k:α→Int} {bs:Nat} {l:List α} (h:ChS k bs l) (i:Nat):ChS k bs (l.drop (i*bs)):=by
 intro j
 rw[ahn, ← aiF]
 exact h (i+j)
theorem Srt.take {α:Type} {k:α→Int} {l:List α} (h:Srt k l) (n:Nat):Srt k (l.take n):=by
 rw[← aiA n l] at h;exact h.left
section
variable {k:Option Nat→Int} {ar:List wU} {ok:Option Nat→Prop}
end
end Go.Md
namespace Go.Md
open Go.Dn
def vX {α:Type} (g:Nat→α→Int):Nat→List α→Int
 | _,[]=>0
 | i,y::r=>if g i y=0 then vX g (i+1) r else g i y
theorem F6 {α:Type} {g:Nat→α→Int}:∀ {l:List α} {i:Nat},vX g i l=0→∀ j y,l[j]? =some y→g (i+j) y=0
 | [],_,_,_,_,h=>by simp at h
 | y::r,i,h,j,z,hz=>by
  simp only[vX] at h
  by_cases hg:g i y=0
  ·rw[ajz hg] at h
   cases j with
   | zero=>simp at hz;subst hz;exact hg
   | succ j=>have:=F6 h j z (by simpa using hz);rw[show i+(j+1)=i+1+j by omega];exact this
  ·rw[ajy hg] at h;exact absurd h hg
theorem Vm {X α:Type} {γ:Type} {f:X→(X→Option ((Int×Unit) ⊕ γ))→Option ((Int×Unit) ⊕ γ)} (mk:Nat→X) (l:List α) (g:Nat→α→Int) (u:γ)
 (hstep:∀ i y again,l[i]? =some y→f (mk i) again=if g i y=0 then again (mk (i+1)) else some (Sum.inl (g i y,()))) (hend:∀ again,f (mk l.length) again=some (Sum.inr u)):
 ∀ (r:List α) (i n:Nat),l.drop i=r→i≤l.length→r.length<n→iter n (mk i) f=if vX g i r=0 then some (Sum.inr u) else some (Sum.inl (vX g i r,()))
 | _,_,0,_,_,hn=>absurd hn (ai2 _)
 | [],i,n+1,hd,hi,_=>by
  have:i=l.length:=by
   have:=congrArg List.length hd
   simp at this;omega
  subst this
  rw[bY,hend];rfl
 | y::r,i,n+1,hd,hi,hn=>by
  have hy:l[i]? =some y:=by
   have:=congrArg (·[0]?) hd
   simpa [ahE] using this
  have hr:l.drop (i+1)=r:=by
   have:=congrArg List.tail hd
   simpa [aix] using this
  have hi':i<l.length:=(ahH.1 hy).1
  rw[bY,hstep i y _ hy]
  by_cases hg:g i y=0
  ·have e:vX g i (y::r)=vX g (i+1) r:=by simp[vX,hg]
   rw[ajz hg,e]
   exact Vm mk l g u hstep hend r (i+1) n hr hi' (by simp at hn;omega)
  ·have e:vX g i (y::r)=g i y:=by simp[vX,hg]
   rw[ajy hg,e,ajy hg]
theorem eD (a b c:Int):b8 a b c=some (decide (a<b∨c<a),()):=by
 unfold b8
 by_cases h:a<b
 ·rw[aP h];simp[h]
 ·rw[aO h];simp[h]
theorem qH (n:Int):mV n=some (decide (1≤n∧n≤3652059),()):=by
 unfold mV
 rw[eD,ajb]
 congr 2
 simp only[← decide_not]
 congr 1
 simp only[eq_iff_iff];omega
def cM (s:Bys):Bool:=((dI s).map (·.1)).getD false
theorem mW (s:Bys):dI s=some (cM s,()):=by
 have:∃ b,dI s=some (b,()):=by
  unfold dI
  by_cases h1:(s.length:Int)<1
  ·rw[aP h1];exact⟨_,rfl⟩
  ·rw[aO h1]
   by_cases h2:(s.length:Int)>40
   ·rw[aP h2];exact⟨_,rfl⟩
   ·rw[aO h2]
    have hs:UR s 0=some (s[0]'(by omega)):=by simp[UR]
    rw[hs]
    simp only[ajb]
    have ht:ve s [97,98,99,100,101,102,103,104,105,106,107,108,109,110,111,112,113,114,115,116,117,118,119,120,121,122,48,49,50,51,52,53,54,55,56,57,45]=some (Lib.trimS s [97,98,99,100,101,102,103,104,105,106,107,108,109,110,111,112,113,114,115,116,117,118,119,120,121,122,48,49,50,51,52,53,54,55,56,57,45],()):=by
     unfold ve
     rw[show (decide (s.length≤9223372036854775807))=true by simp;omega]
     rfl
    rw[ht]
    simp only[ajb]
    generalize (decide ((((s[0]'(by omega)).toNat:Int))<97))=b1
    generalize (decide ((((s[0]'(by omega)).toNat:Int))>122))=b2
    cases b1<;>cases b2<;>exact⟨_,rfl⟩
 obtain⟨b,hb⟩:=this
 unfold cM
 rw[hb];rfl
theorem IC (d:ai):cu d=some (if -1000000000000000≤d.1∧d.1≤1000000000000000∧0≤d.2∧d.2≤9 then 0 else 1,()):=by
 unfold cu
 rw[eD,ajb,eD]
 simp only[ajb]
 by_cases h1:d.1< -1000000000000000∨1000000000000000<d.1
 ·rw[aP h1,ajy (by omega)]
 ·rw[aO h1]
  by_cases h2:d.2<0∨9<d.2
  ·rw[aP h2,ajy (by omega)]
  ·rw[aO h2,ajz (by omega)]
theorem adX {n:Nat} (h:n≤18):(10:Int) ^ n≤1000000000000000000:=by
 have:=ai5 (n:=10) (by omega) h
 have h2:=Int.ofNat_le.2 this
 simpa using h2
theorem Cg (n:Nat):(0:Int)<10 ^ n:=Yc (by omega) n
theorem L3 (n:Int) (h0:0≤n) (h1:n≤18):FD n=some (10 ^ n.toNat,()):=by
 obtain⟨m,rfl⟩:∃ m:Nat,n=m:=⟨n.toNat,by omega⟩
 unfold FD
 have:iter (X:=A3) (β:=A2) (Int.natAbs (1:Int)+(Int.natAbs (m:Int)+(Int.natAbs (0:Int)+2))) (1,(m:Int),0,()) AZ=some (Sum.inr (10 ^ m,())):=by
  refine bX (Inv:=fun i x=>x=(10 ^ i,(m:Int),(i:Int),())) m (fun r=>r=some (Sum.inr (10 ^ m,()))) ?_ ?_ _ 0 _ (by simp) (by omega) (by omega)
  ·rintro i _ again hi rfl ih
   unfold AZ
   dsimp only
   have h10:=adX (n:=i+1) (by omega)
   have hp:=Cg (i+1)
   rw[ag8] at h10 hp
   rw[aP (by omega),aC (by omega) (by omega),aC (by omega) (by omega)]
   exact ih _ (by rw[ag8];rfl)
  ·rintro _ again rfl
   unfold AZ
   dsimp only
   rw[aO (by omega)]
 rw[this,aS]
 simp
theorem RX (d:ai) (most:Int) (h0:0≤d.2) (h1:d.2≤9) (hm0:0≤most) (hm1:most≤1000000000):iy d most=some (decide (-(most*10 ^ d.2.toNat)≤d.1∧d.1≤most*10 ^ d.2.toNat),()):=by
 unfold iy
 rw[L3 _ h0 (by omega),ajb]
 dsimp only
 have hp:=Cg d.2.toNat
 have hq:(10:Int) ^ d.2.toNat≤1000000000:=by
  have:=ai5 (n:=10) (by omega) (show d.2.toNat≤9 by omega)
  have h2:=Int.ofNat_le.2 this
  simpa using h2
 have h3:most*10 ^ d.2.toNat≤1000000000*1000000000:=by
  have a1:most*10 ^ d.2.toNat≤1000000000*10 ^ d.2.toNat:=Int.mul_le_mul_of_nonneg_right hm1 (by omega)
  omega
 have h4:0≤most*10 ^ d.2.toNat:=agZ hm0 (by omega)
 rw[aC (n:=most*10 ^ d.2.toNat) (by omega) (by omega),aC (by omega) (by omega),eD,ajb]
 congr 2
 simp only[← decide_not]
 congr 1
 simp only[eq_iff_iff];omega
def Ih (d:ai):Prop:=0<d.1∧0≤d.2∧d.2≤4∧d.1≤1000000000*10 ^ d.2.toNat
instance (d:ai):Decidable (Ih d):=by unfold Ih;exact inferInstance
structure afm (d:vm):Prop where
 day0:1≤d.2.1
 day1:d.2.1≤3652059
 mon:Ih d.2.2.1
 days0:0≤d.2.2.2.1
 days1:d.2.2.2.1≤10000
 with0:0≤d.2.2.2.2.1
 with1:d.2.2.2.2.1≤d.2.2.2.1
 disc0:0≤d.2.2.2.2.2
 disc1:d.2.2.2.2.2≤1000
structure agn (p:VR):Prop where
 day0:1≤p.1
 day1:p.1≤3652059
 mon:Ih p.2.1
 names:p.2.2.length≤100
end Go.Md
namespace Go.Md
open Go.Dn
def OQ (d:ai):Int:=d.1*10 ^ (4 - d.2).toNat
theorem Ih.OQ {d:ai} (h:Ih d):0<OQ d∧OQ d≤10000000000000:=by
 obtain⟨h1,h2,h3,h4⟩:=h
 unfold Md.OQ
 have hp:=Cg (4 - d.2).toNat
 refine⟨Int.mul_pos h1 hp, ?_⟩
 have a1:d.1*10 ^ (4 - d.2).toNat≤1000000000*10 ^ d.2.toNat*10 ^ (4 - d.2).toNat:=Int.mul_le_mul_of_nonneg_right h4 (by omega)
 rw[agX, ← ag7,show d.2.toNat+(4 - d.2).toNat=4 by omega] at a1
 omega
abbrev Bd:=wU
def abb (x:Bd):Int:=x.2.1
def abe (x:Bd):Int:=x.2.2.1
def taken (x:Bd):Int:=x.2.2.2.1
def done (x:Bd):Int:=x.2.2.2.2
structure WU (x:Bd):Prop where
 d:afm x.1
 owes0:0≤abb x
 paid0:0≤abe x
 taken0:0≤taken x
 sum:abb x+abe x+taken x=OQ x.1.2.2.1
 none:done x=0→taken x=0
 done0:done x=0∨x.1.2.1≤done x
 iff:abb x=0↔done x≠0
theorem WU.le {x:Bd} (h:WU x):abb x≤10000000000000∧abe x≤10000000000000∧taken x≤10000000000000:=by
 have:=h.d.mon.OQ;have:=h.sum;have:=h.owes0;have:=h.paid0;have:=h.taken0;omega
section
variable {ar:List Bd} {h:Nat} {x:Bd}
theorem afe {α:Type} {l:List α} {i:Nat} {x y:α} (h:l[i]? =some x):(l.set i y)[i]? =some y:=ahN (ahH.1 h).1
end
end Go.Md
namespace Go.Md
open Go.Dn
structure pz (ds:List vm) (ar:List Bd):Prop where
 ds:ar.map (·.1)=ds
 ok:∀ x∈ar,WU x
theorem pz.len {ds:List vm} {ar:List Bd} (h:pz ds ar):ar.length=ds.length:=by rw[← h.ds];simp
theorem pz.set {ds:List vm} {ar:List Bd} (h:pz ds ar) {i:Nat} {x y:Bd} (hx:ar[i]? =some x) (hy:WU y) (he:y.1=x.1):pz ds (ar.set i y):=by
 refine⟨?_,fun z hz=> ?_⟩
 ·rw[ah5,he, ← h.ds]
  apply aht
  intro j
  by_cases hj:i=j
  ·subst hj
   rw[ahN (by simp;exact (ahH.1 hx).1),ahI,hx];rfl
  ·rw[ahM hj]
 ·rcases aih hz with hz | rfl
  ·exact h.ok z hz
  ·exact hy
theorem pz.get {ds:List vm} {ar:List Bd} (h:pz ds ar) {i:Nat} {x:Bd} (hx:ar[i]? =some x):WU x:=h.ok x (aie hx)
def afj (ar:List Bd):Int:=(ar.map abe).sum
structure ago (ds:List vm) (L T:Int) (s:Int×List Bd):Prop where
 ar:pz ds s.2
 l0:0≤s.1
 l1:s.1≤L
 tot:s.1+afj s.2=T
theorem Cc {k v:Ty} (p:k.den×v.den) (m:List (k.den×v.den)) (n:k.den):cz (p::m) n=bif k.beq n p.1 then some p.2 else cz m n:=by
 unfold cz
 rw[ahv]
 cases k.beq n p.1<;>rfl
theorem acG {k v:Ty} (p:k.den×v.den) (m:List (k.den×v.den)) (x:k.den) (y:v.den):nM (p::m) x y=bif k.beq x p.1 then (x,y)::m else p::nM m x y:=rfl
theorem Oc {k v:Ty} (hb:∀ a b:k.den,k.beq a b=true↔a=b) (m:List (k.den×v.den)) (x:k.den) (y:v.den) (n:k.den):cz (nM m x y) n=bif k.beq x n then some y else cz m n:=by
 have hcomm:∀ a b:k.den,k.beq a b=k.beq b a:=fun a b=>by
  rw[Bool.eq_iff_iff,hb,hb];exact eq_comm
 induction m with
 | nil=>
  change cz [(x,y)] n=_
  rw[Cc,hcomm n x]
 | cons p m ih=>
  rw[acG]
  cases hp:k.beq x p.1 with
  | true=>
   rw[ajo,Cc,Cc,hcomm n p.1, ← (hb _ _).1 hp,hcomm n x]
   cases k.beq x n<;>rfl
  | false=>
   rw[ajn,Cc,Cc,ih]
   cases hn:k.beq n p.1 with
   | true=>
    have:k.beq x n=false:=by
     cases h:k.beq x n with
     | false=>rfl
     | true=>rw[(hb _ _).1 h,hn] at hp;cases hp
    rw[this];rfl
   | false=>rfl
theorem abD {β:Type} (a:Option β):both a a=a:=Ik a
end Go.Md
namespace Go.Md
open Go.Dn
def few:Nat→Int→Int×Nat
 | 0,z=>(z,0)
 | p+1,z=>if z % 10=0 then few p (z / 10) else (z,p+1)
theorem Ge:∀ (p:Nat) (z:Int),(few p z).2≤p∧(few p z).1*10 ^ (p - (few p z).2)=z∧(few p z).1.natAbs≤z.natAbs
 | 0,z=>by simp[few]
 | p+1,z=>by
  unfold few
  split
  ·rename_i h
   obtain⟨h1,h2,h3⟩:=Ge p (z / 10)
   refine⟨by omega, ?_,by omega⟩
   rw[show p+1 - (few p (z / 10)).2=(p - (few p (z / 10)).2)+1 by omega,ag8, ← agX,h2]
   omega
  ·simp
theorem zo (z:Int) (p:Int):oa (W z) p=some (if z.natAbs≤1000000000000000 then ((z,p),0,()) else ((0,0),1,())):=by
 unfold oa
 rw[wq z 1000000000000000 (by omega) (by omega),ajb]
 by_cases h:(z.natAbs:Int)≤1000000000000000
 ·rw[ajz h,ajz (by omega)];rfl
 ·rw[ajy h,ajy (by omega)];rfl
theorem Gr (z:Int) (hz:z.natAbs<4294967296 ^ 99) (p:Nat) (hp:p≤1000):pE (W z) (p:Int)=some (if (few p z).1.natAbs≤1000000000000000 then (((few p z).1,((few p z).2:Int)),0,()) else ((0,0),1,())):=by
 unfold pE
 rw[di 10 (by omega) (by omega),ajb]
 dsimp only
 have loop:∀ (n:Nat) (z:Int) (p:Nat),z.natAbs<4294967296 ^ 99→p≤1000→p<n→iter (X:=vp) (β:=vo) n ((p:Int),(W z).1,(W z).2,0,0,(W 10).1,(W 10).2,()) vn=some (Sum.inr (((few p z).2:Int),(W (few p z).1).1,(W (few p z).1).2,0,0,())):=by
  intro n
  induction n with
  | zero=>intro z p _ _ h;omega
  | succ n ih=>
   intro z p hz hp hn
   rw[bY]
   generalize hag:(fun y=>iter n y vn)=again
   unfold vn
   dsimp only
   cases p with
   | zero=>rw[aO (by omega)];rfl
   | succ p=>
    have e10:(10:Int).natAbs=10:=rfl
    rw[aP (by omega)]
    change (Option.bind (rq (W z) (W 10)) _)=_
    rw[Dh z 10 hz (by rw[e10];exact aiS (by omega) (ai5 (n:=4294967296) (by omega) (show 1≤99 by omega))) (by omega),ajb]
    dsimp only
    rw[iu,ajb]
    dsimp only
    rw[e10]
    by_cases hm:z % 10=0
    ·have hm2:z.natAbs % 10=0:=by omega
     rw[hm2,show ((((0:Nat):Int).sign) != 0)=false from rfl,ajn]
     change (Option.bind (aG (W z)) _)=_
     rw[iu,ajb]
     dsimp only
     have hf:few (p+1) z=few p (z / 10):=by simp[few,hm]
     rw[hf]
     have hz':(z / 10).natAbs<4294967296 ^ 99:=aiR (by omega) hz
     by_cases hneg:z<0
     ·rw[aP (by rw[ag9 hneg];omega),zi _ (by simp only[ag1];exact aiR (Nat.div_le_self _ _) hz),ajb]
      dsimp only
      rw[show -((z.natAbs / 10:Nat):Int)=z / 10 by omega,aC (by omega) (by omega),show ((p+1:Nat):Int) - 1=(p:Int) by omega, ← hag]
      exact ih (z / 10) p hz' (by omega) (by omega)
     ·rw[aO (by
       rcases (show z=0∨0<z by omega) with h | h
       ·subst h;decide
       ·rw[aha h];omega),show ((z.natAbs / 10:Nat):Int)=z / 10 by omega,aC (by omega) (by omega),show ((p+1:Nat):Int) - 1=(p:Int) by omega, ← hag]
      exact ih (z / 10) p hz' (by omega) (by omega)
    ·have hm2:0<z.natAbs % 10:=by omega
     have:(((z.natAbs % 10:Nat):Int).sign != 0)=true:=by
      rw[aha (by omega)];rfl
     rw[this,ajo]
     have hf:few (p+1) z=(z,p+1):=by simp[few,hm]
     rw[hf]
 have:=loop (Int.natAbs (p:Int)+(List.length (W z).2+(Int.natAbs (0:Int)+(Int.natAbs (0:Int)+(List.length (W 10).2+2))))) z p hz hp (by omega)
 rw[this,aS]
 dsimp only
 change (Option.bind (oa (W (few p z).1) ((few p z).2:Int)) _)=_
 rw[zo,ajb]
def ko (d:ai):Int:=d.1*10 ^ (9 - d.2).toNat
def cA (d:ai):Prop:=d.1.natAbs≤1000000000000000∧0≤d.2∧d.2≤9
theorem Ih.dec {d:ai} (h:Ih d):cA d:=by
 obtain⟨h1,h2,h3,h4⟩:=h
 have hq:(10:Int) ^ d.2.toNat≤10000:=by
  have:=ai5 (n:=10) (by omega) (show d.2.toNat≤4 by omega)
  have h2:=Int.ofNat_le.2 this
  simpa using h2
 exact⟨by omega,h2,by omega⟩
end Go.Md
namespace Go.Md
open Go.Dn
end Go.Md
namespace Go.Md
open Go.Dn
end Go.Md
namespace Go.Md
open Go.Dn
end Go.Md
namespace Go.Md
open Go.Dn
def WW (D:Int) (S:Nat→Prop) (ar:List Bd):Prop:=∀ i x,S i→ar[i]? =some x→done x=0∨D<done x
theorem WW.set {D:Int} {S:Nat→Prop} {ar:List Bd} {h:Nat} {x y:Bd} (hq:WW D S ar) (hx:ar[h]? =some x) (hy:(done x=0∨D<done x)→(done y=0∨D<done y)):WW D S (ar.set h y):=by
 intro i z hi hz
 by_cases e:h=i
 ·subst e
  rw[afe hx] at hz
  cases hz
  exact hy (hq h x hi hx)
 ·rw[ahM e] at hz
  exact hq i z hi hz
end Go.Md
namespace Go.Md
open Go.Dn
instance (d:ai):Decidable (cA d):=by unfold cA;infer_instance
end Go.Md
