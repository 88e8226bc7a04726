/-
  Plain facts: stable sorting, debts and payments. No condition.
-/
import Derived.Test.YtalfglakknbjkaaGreatDoorRp
import Derived.Test.YtalfglakknbjkaaGreatDoorRm
set_option linter.all false
namespace Go.Md
open Go.Dn
structure cw {α:Type} (k:α→Int) (l l':List α):Prop where
 perm:l.Perm l'
 keys:∀ v,l'.filter (fun x=>k x==v)=l.filter (fun x=>k x==v)
theorem cw.refl {α:Type} (k:α→Int) (l:List α):cw k l l:=⟨List.Perm.refl _,fun _=>rfl⟩
theorem cw.trans {α:Type} {k:α→Int} {a b c:List α} (h:cw k a b) (g:cw k b c):cw k a c:=⟨h.perm.trans g.perm,fun v=>(g.keys v).trans (h.keys v)⟩
theorem cw.append {α:Type} {k:α→Int} {a b c d:List α} (h:cw k a b) (g:cw k c d):cw k (a++c) (b++d):=
 ⟨h.perm.append g.perm,fun v=>by rw [WQ,WQ,h.keys,g.keys]⟩
theorem cw.mem {α:Type} {k:α→Int} {a b:List α} (h:cw k a b) {x:α}:x∈b↔x∈a:=h.perm.mem_iff.symm
theorem cw.length {α:Type} {k:α→Int} {a b:List α} (h:cw k a b):b.length=a.length:=h.perm.length_eq.symm
theorem cw.swap {α:Type} {k:α→Int} {u v:List α} (h:∀ x∈u,∀ y∈v,k x≠k y):cw k (u++v) (v++u):=by
 refine ⟨List.perm_append_comm,fun w=> ?_⟩
 rw [WQ,WQ]
 by_cases hu:∃ x∈u,k x=w
 ·obtain ⟨x,hx,rfl⟩:=hu
  have:v.filter (fun y=>k y==k x)=[]:=by
   rw [List.filter_eq_nil_iff]
   intro y hy
   simpa using fun e=>h x hx y hy e.symm
  rw [this];simp
 ·have:u.filter (fun y=>k y==w)=[]:=by
   rw [List.filter_eq_nil_iff]
   intro y hy
   simpa using fun e=>hu ⟨y,hy,e⟩
  rw [this];simp
def Srt {α:Type} (k:α→Int) (l:List α):Prop:=l.Pairwise fun x y=>k x≤k y
theorem Srt.append {α:Type} {k:α→Int} {a b:List α} (ha:Srt k a) (hb:Srt k b) (h:∀ x∈a,∀ y∈b,k x≤k y):Srt k (a++b):=Xu.2 ⟨ha,hb,h⟩
theorem Srt.left {α:Type} {k:α→Int} {a b:List α} (h:Srt k (a++b)):Srt k a:=(Xu.1 h).1
theorem Srt.right {α:Type} {k:α→Int} {a b:List α} (h:Srt k (a++b)):Srt k b:=(Xu.1 h).2.1
theorem Srt.JP {α:Type} {k:α→Int} {a b:List α} (h:Srt k (a++b)):∀ x∈a,∀ y∈b,k x≤k y:=(Xu.1 h).2.2
theorem Qi {α:Type} (A B:List α) (x y:α):((A++y::x::B).set (A.length+1) y).set A.length x=A++x::y::B:=by
 induction A with
 | nil=>rfl
 | cons a A ih=>simp only [WG,W6,Xy,ih]
theorem TQ {α:Type} (A B:List α) (x y:α):((A++x::y::B).set A.length y).set (A.length+1) x=A++y::x::B:=by
 induction A with
 | nil=>rfl
 | cons a A ih=>simp only [WG,W6,Xy,ih]
theorem get_at {α:Type} (A B:List α) (y:α):(A++y::B)[A.length]? =some y:=by simp
theorem JY {α:Type} (A B:List α) (x y:α):(A++y::x::B)[A.length+1]? =some x:=by simp
theorem qc {α:Type} {l:List α} {n:Nat} (h:n≤l.length):∃ A B,l=A++B∧A.length=n:=⟨l.take n,l.drop n,by simp,by simp;omega⟩
section
variable {k:Option Nat→Int} {ar:List ax} {ok:Option Nat→Prop}
theorem UB {α:Type} {k:α→Int} {P:List α} (h:Srt k P) {v:Int} (hl:∀ y,P.getLast? =some y→k y≤v):∀ y∈P,k y≤v:=by
 rcases List.eq_nil_or_concat P with rfl | ⟨Q,z,rfl⟩
 ·simp
 ·rw [List.concat_eq_append] at*
  have hz:=hl z (by simp)
  intro y hy
  rcases Xh.1 hy with hy | hy
  ·have:=h.JP y hy z (by simp);omega
  ·rw [Xs.1 hy];exact hz
theorem T7 {α:Type} {k:α→Int} {P2 P3:List α} {x:α} (hs:Srt k (P2++P3)) (h3:∀ y∈P3,k x<k y) (h2:∀ y,P2.getLast? =some y→k y≤k x):Srt k (P2++x::P3)∧cw k (P2++P3++[x]) (P2++x::P3):=by
 constructor
 ·refine hs.left.append (Xv.2 ⟨fun y hy=>by have:=h3 y hy;omega,hs.right⟩) ?_
  intro y hy z hz
  have hy':=UB hs.left h2 y hy
  rcases Xi.1 hz with rfl | hz
  ·exact hy'
  ·exact hs.JP y hy z hz
 ·rw [WD]
  refine (cw.refl k P2).append ?_
  have:=cw.swap (k:=k) (u:=P3) (v:=[x]) (fun y hy z hz=>by rw [Xs.1 hz];have:=h3 y hy;omega)
  simpa using this
end
end Go.Md
namespace Go.Md
open Go.Dn
theorem Rw {α:Type} (A B:List α) (x y:α):(A++x::B).set A.length y=A++y::B:=by
 induction A with
 | nil=>rfl
 | cons a A ih=>simp only [WG,W6,Xy,ih]
section
variable {k:Option Nat→Int} {ar:List ax} {ok:Option Nat→Prop}
end
end Go.Md
namespace Go.Md
open Go.Dn
theorem bsearch {X β:Type} {f:X→(X→Option β)→Option β} (mk:Nat→Nat→X) (fin:Nat→Option β) (P:Nat→Prop) [DecidablePred P] (lo hi:Nat)
 (hstep:∀ i j again,lo≤i→i<j→j≤hi→f (mk i j) again=if P ((i+j) / 2) then again (mk ((i+j) / 2+1) j) else again (mk i ((i+j) / 2)))
 (hend:∀ i again,lo≤i→i≤hi→f (mk i i) again=fin i) (mono:∀ s t,lo≤s→s≤t→t<hi→P t→P s):
 ∀ n i j,j - i<n→lo≤i→i≤j→j≤hi→(∀ t,lo≤t→t<i→P t)→(∀ t,j≤t→t<hi→¬P t)→∃ r,iter n (mk i j) f=fin r∧lo≤r∧r≤hi∧(∀ t,lo≤t→t<r→P t)∧(∀ t,r≤t→t<hi→¬P t)
 | 0,i,j,hn,_,_,_,_,_=>by omega
 | n+1,i,j,hn,h1,h2,h3,h4,h5=>by
  rw [iB]
  by_cases hij:i=j
  ·subst hij
   exact ⟨i,hend i _ h1 h3,h1,h3,h4,h5⟩
  ·rw [hstep i j _ h1 (by omega) h3]
   by_cases hP:P ((i+j) / 2)
   ·rw [if_pos hP]
    exact bsearch mk fin P lo hi hstep hend mono n _ _ (by omega) (by omega) (by omega) h3 (fun t ht1 ht2=>mono t _ ht1 (show t≤(i+j) / 2 by omega) (by omega) hP) h5
   ·rw [if_neg hP]
    exact bsearch mk fin P lo hi hstep hend mono n _ _ (by omega) h1 (by omega) (by omega) h4 (fun t ht1 ht2 hPt=>hP (mono _ t (by omega) ht1 ht2 hPt))
theorem JT (i j:Nat) (h:i+j<4000000000000000000):w64 (Int.fdiv (bM (w64 ((i:Int)+(j:Int)))) (2 ^ 1))=(((i+j) / 2:Nat):Int):=by
 rw [aI (n:=(i:Int)+(j:Int)) (by omega) (by omega),dJ (by omega) (by omega),Wp _ (by omega),aI (by omega) (by omega)]
 omega
theorem UL {α:Type} (X L R Y:List α) {i:Nat} (h:i<L.length):(X++L++R++Y)[X.length+i]? =some L[i]:=by
 rw [WD,WD,WS (by omega),WR (by omega),show X.length+i - X.length=i by omega,List.getElem?_eq_getElem h]
theorem R5 {α:Type} (X L R Y:List α) {i:Nat} (h:i<R.length):(X++L++R++Y)[X.length+L.length+i]? =some R[i]:=by
 rw [WD,WD,WS (by omega),WS (by omega),WR (by omega),show X.length+L.length+i - X.length - L.length=i by omega,List.getElem?_eq_getElem h]
theorem Srt.get {α:Type} {k:α→Int} {l:List α} (h:Srt k l) {i j:Nat} (hij:i≤j) (hj:j<l.length):k (l[i]'(by omega))≤k l[j]:=by
 rcases Nat.lt_or_eq_of_le hij with h1 | h1
 ·exact Xw.1 h i j (by omega) hj h1
 ·subst h1;exact Int.le_refl _
section
variable {k:Option Nat→Int} {ar:List ax} {ok:Option Nat→Prop}
end
end Go.Md
namespace Go.Md
open Go.Dn
section
variable {k:Option Nat→Int} {ar:List ax} {ok:Option Nat→Prop}
set_option maxHeartbeats 4000000 in
end
end Go.Md
namespace Go.Md
open Go.Dn
def ChS {α:Type} (k:α→Int) (bs:Nat) (l:List α):Prop:=∀ j:Nat,Srt k ((l.drop (j*bs)).take bs)
theorem ChS.nil {α:Type} (k:α→Int) (bs:Nat):ChS k bs []:=fun _=>by simp [Srt]
theorem ChS.snoc {α:Type} {k:α→Int} {bs:Nat} {A S:List α} {j:Nat} (h:ChS k bs A) (hA:A.length=j*bs) (hS:Srt k S) (hl:S.length≤bs):ChS k bs (A++S):=by
 intro i
 rcases XT i j with hij | hij | hij
 ·have h1:(i+1)*bs≤j*bs:=XY _ hij
  rw [XH,X0] at h1
  rw [List.drop_append_of_le_length (by omega),List.take_append_of_le_length (by rw [List.length_drop];omega)]
  exact h i
 ·subst hij
  rw [← hA,WL,XE hl]
  exact hS
 ·have h1:(j+1)*bs≤i*bs:=XY _ hij
  rw [XH,X0] at h1
  rw [List.drop_of_length_le (by rw [W5];omega)]
  simp [Srt]
theorem ChS.drop {α:Type} {k:α→Int} {bs:Nat} {l:List α} (h:ChS k bs l) (i:Nat):ChS k bs (l.drop (i*bs)):=by
 intro j
 rw [WJ, ← XH]
 exact h (i+j)
theorem Srt.take {α:Type} {k:α→Int} {l:List α} (h:Srt k l) (n:Nat):Srt k (l.take n):=by
 rw [← XC n l] at h;exact h.left
section
variable {k:Option Nat→Int} {ar:List ax} {ok:Option Nat→Prop}
end
end Go.Md
namespace Go.Md
open Go.Dn
def sd {α:Type} (g:Nat→α→Int):Nat→List α→Int
 | _,[]=>0
 | i,y::r=>if g i y=0 then sd g (i+1) r else g i y
theorem CE {α:Type} {g:Nat→α→Int}:∀ {l:List α} {i:Nat},sd g i l=0→∀ j y,l[j]? =some y→g (i+j) y=0
 | [],_,_,_,_,h=>by simp at h
 | y::r,i,h,j,z,hz=>by
  simp only [sd] at h
  by_cases hg:g i y=0
  ·rw [if_pos hg] at h
   cases j with
   | zero=>simp at hz;subst hz;exact hg
   | succ j=>have:=CE h j z (by simpa using hz);rw [show i+(j+1)=i+1+j by omega];exact this
  ·rw [if_neg hg] at h;exact absurd h hg
theorem NT {X α:Type} {γ:Type} {f:X→(X→Option ((Int×Unit) ⊕ γ))→Option ((Int×Unit) ⊕ γ)} (mk:Nat→X) (l:List α) (g:Nat→α→Int) (u:γ)
 (hstep:∀ i y again,l[i]? =some y→f (mk i) again=if g i y=0 then again (mk (i+1)) else some (Sum.inl (g i y,()))) (hend:∀ again,f (mk l.length) again=some (Sum.inr u)):
 ∀ (r:List α) (i n:Nat),l.drop i=r→i≤l.length→r.length<n→iter n (mk i) f=if sd g i r=0 then some (Sum.inr u) else some (Sum.inl (sd g i r,()))
 | _,_,0,_,_,hn=>absurd hn (XZ _)
 | [],i,n+1,hd,hi,_=>by
  have:i=l.length:=by
   have:=congrArg List.length hd
   simp at this;omega
  subst this
  rw [iB,hend];rfl
 | y::r,i,n+1,hd,hi,hn=>by
  have hy:l[i]? =some y:=by
   have:=congrArg (·[0]?) hd
   simpa [WV] using this
  have hr:l.drop (i+1)=r:=by
   have:=congrArg List.tail hd
   simpa [List.tail_drop] using this
  have hi':i<l.length:=(List.getElem?_eq_some_iff.1 hy).1
  rw [iB,hstep i y _ hy]
  by_cases hg:g i y=0
  ·have e:sd g i (y::r)=sd g (i+1) r:=by simp [sd,hg]
   rw [if_pos hg,e]
   exact NT mk l g u hstep hend r (i+1) n hr hi' (by simp at hn;omega)
  ·have e:sd g i (y::r)=g i y:=by simp [sd,hg]
   rw [if_neg hg,e,if_neg hg]
theorem kf (a b c:Int):b6 a b c=some (decide (a<b∨c<a),()):=by
 unfold b6
 by_cases h:a<b
 ·rw [aM h];simp [h]
 ·rw [aL h];simp [h]
theorem Qo (n:Int):yt n=some (decide (1≤n∧n≤3652059),()):=by
 unfold yt
 rw [kf,Option.bind_some]
 congr 2
 simp only [← decide_not]
 congr 1
 simp only [eq_iff_iff];omega
def qq (s:List UInt8):Bool:=((gv s).map (·.1)).getD false
theorem xL (s:List UInt8):gv s=some (qq s,()):=by
 have:∃ b,gv s=some (b,()):=by
  unfold gv
  by_cases h1:(s.length:Int)<1
  ·rw [aM h1];exact ⟨_,rfl⟩
  ·rw [aL h1]
   by_cases h2:(s.length:Int)>40
   ·rw [aM h2];exact ⟨_,rfl⟩
   ·rw [aL h2]
    have hs:NK s 0=some (s[0]'(by omega)):=by simp [NK]
    rw [hs]
    simp only [Option.bind_some]
    have ht:qZ s [97,98,99,100,101,102,103,104,105,106,107,108,109,110,111,112,113,114,115,116,117,118,119,120,121,122,48,49,50,51,52,53,54,55,56,57,45]=some (Lib.trimS s [97,98,99,100,101,102,103,104,105,106,107,108,109,110,111,112,113,114,115,116,117,118,119,120,121,122,48,49,50,51,52,53,54,55,56,57,45],()):=by
     unfold qZ
     rw [show (decide (s.length≤9223372036854775807))=true by simp;omega]
     rfl
    rw [ht]
    simp only [Option.bind_some]
    generalize (decide ((((s[0]'(by omega)).toNat:Int))<97))=b1
    generalize (decide ((((s[0]'(by omega)).toNat:Int))>122))=b2
    cases b1<;>cases b2<;>exact ⟨_,rfl⟩
 obtain ⟨b,hb⟩:=this
 unfold qq
 rw [hb];rfl
theorem Fo (d:ak):bV d=some (if -1000000000000000≤d.1∧d.1≤1000000000000000∧0≤d.2∧d.2≤9 then 0 else 1,()):=by
 unfold bV
 rw [kf,Option.bind_some,kf]
 simp only [Option.bind_some]
 by_cases h1:d.1< -1000000000000000∨1000000000000000<d.1
 ·rw [aM h1,if_neg (by omega)]
 ·rw [aL h1]
  by_cases h2:d.2<0∨9<d.2
  ·rw [aM h2,if_neg (by omega)]
  ·rw [aL h2,if_pos (by omega)]
theorem Um {n:Nat} (h:n≤18):(10:Int) ^ n≤1000000000000000000:=by
 have:=X2 (n:=10) (by omega) h
 have h2:=Int.ofNat_le.2 this
 simpa using h2
theorem BK (n:Nat):(0:Int)<10 ^ n:=PS (by omega) n
theorem HP (n:Int) (h0:0≤n) (h1:n≤18):vu n=some (10 ^ n.toNat,()):=by
 obtain ⟨m,rfl⟩:∃ m:Nat,n=m:=⟨n.toNat,by omega⟩
 unfold vu
 have:iter (X:=xG) (β:=xI) (Int.natAbs (1:Int)+(Int.natAbs (m:Int)+(Int.natAbs (0:Int)+2))) (1,(m:Int),0,()) xN=some (Sum.inr (10 ^ m,())):=by
  refine bQ (Inv:=fun i x=>x=(10 ^ i,(m:Int),(i:Int),())) m (fun r=>r=some (Sum.inr (10 ^ m,()))) ?_ ?_ _ 0 _ (by simp) (by omega) (by omega)
  ·rintro i _ again hi rfl ih
   unfold xN
   dsimp only
   have h10:=Um (n:=i+1) (by omega)
   have hp:=BK (i+1)
   rw [Wx] at h10 hp
   rw [aM (by omega),aI (by omega) (by omega),aI (by omega) (by omega)]
   exact ih _ (by rw [Wx];rfl)
  ·rintro _ again rfl
   unfold xN
   dsimp only
   rw [aL (by omega)]
 rw [this,aK]
 simp
theorem L9 (d:ak) (most:Int) (h0:0≤d.2) (h1:d.2≤9) (hm0:0≤most) (hm1:most≤1000000000):eV d most=some (decide (-(most*10 ^ d.2.toNat)≤d.1∧d.1≤most*10 ^ d.2.toNat),()):=by
 unfold eV
 rw [HP _ h0 (by omega),Option.bind_some]
 dsimp only
 have hp:=BK d.2.toNat
 have hq:(10:Int) ^ d.2.toNat≤1000000000:=by
  have:=X2 (n:=10) (by omega) (show d.2.toNat≤9 by omega)
  have h2:=Int.ofNat_le.2 this
  simpa using h2
 have h3:most*10 ^ d.2.toNat≤1000000000*1000000000:=by
  have a1:most*10 ^ d.2.toNat≤1000000000*10 ^ d.2.toNat:=Int.mul_le_mul_of_nonneg_right hm1 (by omega)
  omega
 have h4:0≤most*10 ^ d.2.toNat:=Ws hm0 (by omega)
 rw [aI (n:=most*10 ^ d.2.toNat) (by omega) (by omega),aI (by omega) (by omega),kf,Option.bind_some]
 congr 2
 simp only [← decide_not]
 congr 1
 simp only [eq_iff_iff];omega
def EW (d:ak):Prop:=0<d.1∧0≤d.2∧d.2≤4∧d.1≤1000000000*10 ^ d.2.toNat
instance (d:ak):Decidable (EW d):=by unfold EW;exact inferInstance
structure Vu (d:cE):Prop where
 day0:1≤d.2.1
 day1:d.2.1≤3652059
 mon:EW d.2.2.1
 days0:0≤d.2.2.2.1
 days1:d.2.2.2.1≤10000
 with0:0≤d.2.2.2.2.1
 with1:d.2.2.2.2.1≤d.2.2.2.1
 disc0:0≤d.2.2.2.2.2
 disc1:d.2.2.2.2.2≤1000
structure VW (p:bG):Prop where
 day0:1≤p.1
 day1:p.1≤3652059
 mon:EW p.2.1
 names:p.2.2.length≤100
end Go.Md
namespace Go.Md
open Go.Dn
def Kc (d:ak):Int:=d.1*10 ^ (4 - d.2).toNat
theorem EW.Kc {d:ak} (h:EW d):0<Kc d∧Kc d≤10000000000000:=by
 obtain ⟨h1,h2,h3,h4⟩:=h
 unfold Md.Kc
 have hp:=BK (4 - d.2).toNat
 refine ⟨Int.mul_pos h1 hp, ?_⟩
 have a1:d.1*10 ^ (4 - d.2).toNat≤1000000000*10 ^ d.2.toNat*10 ^ (4 - d.2).toNat:=Int.mul_le_mul_of_nonneg_right h4 (by omega)
 rw [Int.mul_assoc, ← Int.pow_add,show d.2.toNat+(4 - d.2).toNat=4 by omega] at a1
 omega
abbrev Bd:=ax
def SC (x:Bd):Int:=x.2.1
def Sc (x:Bd):Int:=x.2.2.1
def taken (x:Bd):Int:=x.2.2.2.1
def done (x:Bd):Int:=x.2.2.2.2
structure Qt (x:Bd):Prop where
 d:Vu x.1
 owes0:0≤SC x
 paid0:0≤Sc x
 taken0:0≤taken x
 sum:SC x+Sc x+taken x=Kc x.1.2.2.1
 none:done x=0→taken x=0
 done0:done x=0∨x.1.2.1≤done x
 iff:SC x=0↔done x≠0
theorem Qt.le {x:Bd} (h:Qt x):SC x≤10000000000000∧Sc x≤10000000000000∧taken x≤10000000000000:=by
 have:=h.d.mon.Kc;have:=h.sum;have:=h.owes0;have:=h.paid0;have:=h.taken0;omega
section
variable {ar:List Bd} {h:Nat} {x:Bd}
theorem U3 {α:Type} {l:List α} {i:Nat} {x y:α} (h:l[i]? =some x):(l.set i y)[i]? =some y:=W1 (List.getElem?_eq_some_iff.1 h).1
end
end Go.Md
namespace Go.Md
open Go.Dn
structure nj (ds:List cE) (ar:List Bd):Prop where
 ds:ar.map (·.1)=ds
 ok:∀ x∈ar,Qt x
theorem nj.len {ds:List cE} {ar:List Bd} (h:nj ds ar):ar.length=ds.length:=by rw [← h.ds];simp
theorem nj.set {ds:List cE} {ar:List Bd} (h:nj ds ar) {i:Nat} {x y:Bd} (hx:ar[i]? =some x) (hy:Qt y) (he:y.1=x.1):nj ds (ar.set i y):=by
 refine ⟨?_,fun z hz=> ?_⟩
 ·rw [List.map_set,he, ← h.ds]
  apply WO
  intro j
  by_cases hj:i=j
  ·subst hj
   rw [W1 (by simp;exact (List.getElem?_eq_some_iff.1 hx).1),List.getElem?_map,hx];rfl
  ·rw [W0 hj]
 ·rcases Xq hz with hz | rfl
  ·exact h.ok z hz
  ·exact hy
theorem nj.get {ds:List cE} {ar:List Bd} (h:nj ds ar) {i:Nat} {x:Bd} (hx:ar[i]? =some x):Qt x:=h.ok x (List.mem_of_getElem? hx)
def U4 (ar:List Bd):Int:=(ar.map Sc).sum
structure VX (ds:List cE) (L T:Int) (s:Int×List Bd):Prop where
 ar:nj ds s.2
 l0:0≤s.1
 l1:s.1≤L
 tot:s.1+U4 s.2=T
theorem Ta {β:Type} (a:Option β):both a a=a:=El a
end Go.Md
namespace Go.Md
open Go.Dn
theorem Gv (z:Int) (p:Int):qm (W z) p=some (if z.natAbs≤1000000000000000 then ((z,p),0,()) else ((0,0),1,())):=by
 unfold qm
 rw [sI z 1000000000000000 (by omega) (by omega),Option.bind_some]
 by_cases h:(z.natAbs:Int)≤1000000000000000
 ·rw [if_pos h,if_pos (by omega)];rfl
 ·rw [if_neg h,if_neg (by omega)];rfl
def eP (d:ak):Prop:=d.1.natAbs≤1000000000000000∧0≤d.2∧d.2≤9
theorem EW.dec {d:ak} (h:EW d):eP d:=by
 obtain ⟨h1,h2,h3,h4⟩:=h
 have hq:(10:Int) ^ d.2.toNat≤10000:=by
  have:=X2 (n:=10) (by omega) (show d.2.toNat≤4 by omega)
  have h2:=Int.ofNat_le.2 this
  simpa using h2
 exact ⟨by omega,h2,by omega⟩
end Go.Md
namespace Go.Md
open Go.Dn
end Go.Md
namespace Go.Md
open Go.Dn
end Go.Md
namespace Go.Md
open Go.Dn
end Go.Md
namespace Go.Md
open Go.Dn
def QF (D:Int) (S:Nat→Prop) (ar:List Bd):Prop:=∀ i x,S i→ar[i]? =some x→done x=0∨D<done x
theorem QF.set {D:Int} {S:Nat→Prop} {ar:List Bd} {h:Nat} {x y:Bd} (hq:QF D S ar) (hx:ar[h]? =some x) (hy:(done x=0∨D<done x)→(done y=0∨D<done y)):QF D S (ar.set h y):=by
 intro i z hi hz
 by_cases e:h=i
 ·subst e
  rw [U3 hx] at hz
  cases hz
  exact hy (hq h x hi hx)
 ·rw [W0 e] at hz
  exact hq i z hi hz
end Go.Md
namespace Go.Md
open Go.Dn
set_option maxRecDepth 100000 in
instance (d:ak):Decidable (eP d):=by unfold eP;infer_instance
end Go.Md
