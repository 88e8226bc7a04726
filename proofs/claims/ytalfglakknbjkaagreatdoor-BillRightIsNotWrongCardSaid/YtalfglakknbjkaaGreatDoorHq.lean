/-
  Plain facts: stable sorting, debts and payments. No condition.
-/
import Derived.Test.YtalfglakknbjkaaGreatDoorHp
import Derived.Test.YtalfglakknbjkaaGreatDoorHm
set_option linter.all false
namespace Go.Md
open Go.Dn
structure cw {α:Type} (k:α→Int) (l l':List α):Prop where
 perm:l.Perm l'
 keys:∀ v,l'.filter (fun x=>k x==v)=l.filter (fun x=>k x==v)
theorem cw.refl {α:Type} (k:α→Int) (l:List α):cw k l l:=⟨List.Perm.refl _,fun _=>rfl⟩
theorem cw.trans {α:Type} {k:α→Int} {a b c:List α} (h:cw k a b) (g:cw k b c):cw k a c:=⟨h.perm.trans g.perm,fun v=>(g.keys v).trans (h.keys v)⟩
theorem cw.append {α:Type} {k:α→Int} {a b c d:List α} (h:cw k a b) (g:cw k c d):cw k (a++c) (b++d):=
 ⟨h.perm.append g.perm,fun v=>by rw [WE,WE,h.keys,g.keys]⟩
theorem cw.mem {α:Type} {k:α→Int} {a b:List α} (h:cw k a b) {x:α}:x∈b↔x∈a:=h.perm.mem_iff.symm
theorem cw.length {α:Type} {k:α→Int} {a b:List α} (h:cw k a b):b.length=a.length:=h.perm.length_eq.symm
theorem cw.swap {α:Type} {k:α→Int} {u v:List α} (h:∀ x∈u,∀ y∈v,k x≠k y):cw k (u++v) (v++u):=by
 refine ⟨List.perm_append_comm,fun w=> ?_⟩
 rw [WE,WE]
 by_cases hu:∃ x∈u,k x=w
 ·obtain ⟨x,hx,rfl⟩:=hu
  have:v.filter (fun y=>k y==k x)=[]:=by
   rw [List.filter_eq_nil_iff]
   intro y hy
   simpa using fun e=>h x hx y hy e.symm
  rw [this];simp
 ·have:u.filter (fun y=>k y==w)=[]:=by
   rw [List.filter_eq_nil_iff]
   intro y hy
   simpa using fun e=>hu ⟨y,hy,e⟩
  rw [this];simp
def Srt {α:Type} (k:α→Int) (l:List α):Prop:=l.Pairwise fun x y=>k x≤k y
theorem Srt.append {α:Type} {k:α→Int} {a b:List α} (ha:Srt k a) (hb:Srt k b) (h:∀ x∈a,∀ y∈b,k x≤k y):Srt k (a++b):=Xl.2 ⟨ha,hb,h⟩
theorem Srt.left {α:Type} {k:α→Int} {a b:List α} (h:Srt k (a++b)):Srt k a:=(Xl.1 h).1
theorem Srt.right {α:Type} {k:α→Int} {a b:List α} (h:Srt k (a++b)):Srt k b:=(Xl.1 h).2.1
theorem Srt.Kp {α:Type} {k:α→Int} {a b:List α} (h:Srt k (a++b)):∀ x∈a,∀ y∈b,k x≤k y:=(Xl.1 h).2.2
theorem Qg {α:Type} (A B:List α) (x y:α):((A++y::x::B).set (A.length+1) y).set A.length x=A++x::y::B:=by
 induction A with
 | nil=>rfl
 | cons a A ih=>simp only [Wv,WW,Xp,ih]
theorem TA {α:Type} (A B:List α) (x y:α):((A++x::y::B).set A.length y).set (A.length+1) x=A++y::x::B:=by
 induction A with
 | nil=>rfl
 | cons a A ih=>simp only [Wv,WW,Xp,ih]
theorem get_at {α:Type} (A B:List α) (y:α):(A++y::B)[A.length]? =some y:=by simp
theorem J4 {α:Type} (A B:List α) (x y:α):(A++y::x::B)[A.length+1]? =some x:=by simp
theorem qo {α:Type} {l:List α} {n:Nat} (h:n≤l.length):∃ A B,l=A++B∧A.length=n:=⟨l.take n,l.drop n,by simp,by simp;omega⟩
section
variable {k:Option Nat→Int} {ar:List au} {ok:Option Nat→Prop}
theorem Us {α:Type} {k:α→Int} {P:List α} (h:Srt k P) {v:Int} (hl:∀ y,P.getLast? =some y→k y≤v):∀ y∈P,k y≤v:=by
 rcases List.eq_nil_or_concat P with rfl | ⟨Q,z,rfl⟩
 ·simp
 ·rw [List.concat_eq_append] at*
  have hz:=hl z (by simp)
  intro y hy
  rcases W8.1 hy with hy | hy
  ·have:=h.Kp y hy z (by simp);omega
  ·rw [Xj.1 hy];exact hz
theorem Uw {α:Type} {k:α→Int} {P2 P3:List α} {x:α} (hs:Srt k (P2++P3)) (h3:∀ y∈P3,k x<k y) (h2:∀ y,P2.getLast? =some y→k y≤k x):Srt k (P2++x::P3)∧cw k (P2++P3++[x]) (P2++x::P3):=by
 constructor
 ·refine hs.left.append (Xm.2 ⟨fun y hy=>by have:=h3 y hy;omega,hs.right⟩) ?_
  intro y hy z hz
  have hy':=Us hs.left h2 y hy
  rcases W9.1 hz with rfl | hz
  ·exact hy'
  ·exact hs.Kp y hy z hz
 ·rw [Wt]
  refine (cw.refl k P2).append ?_
  have:=cw.swap (k:=k) (u:=P3) (v:=[x]) (fun y hy z hz=>by rw [Xj.1 hz];have:=h3 y hy;omega)
  simpa using this
end
end Go.Md
namespace Go.Md
open Go.Dn
theorem RI {α:Type} (A B:List α) (x y:α):(A++x::B).set A.length y=A++y::B:=by
 induction A with
 | nil=>rfl
 | cons a A ih=>simp only [Wv,WW,Xp,ih]
section
variable {k:Option Nat→Int} {ar:List au} {ok:Option Nat→Prop}
end
end Go.Md
namespace Go.Md
open Go.Dn
theorem bsearch {X β:Type} {f:X→(X→Option β)→Option β} (mk:Nat→Nat→X) (fin:Nat→Option β) (P:Nat→Prop) [DecidablePred P] (lo hi:Nat)
 (hstep:∀ i j again,lo≤i→i<j→j≤hi→f (mk i j) again=if P ((i+j) / 2) then again (mk ((i+j) / 2+1) j) else again (mk i ((i+j) / 2)))
 (hend:∀ i again,lo≤i→i≤hi→f (mk i i) again=fin i) (mono:∀ s t,lo≤s→s≤t→t<hi→P t→P s):
 ∀ n i j,j - i<n→lo≤i→i≤j→j≤hi→(∀ t,lo≤t→t<i→P t)→(∀ t,j≤t→t<hi→¬P t)→∃ r,iter n (mk i j) f=fin r∧lo≤r∧r≤hi∧(∀ t,lo≤t→t<r→P t)∧(∀ t,r≤t→t<hi→¬P t)
 | 0,i,j,hn,_,_,_,_,_=>by omega
 | n+1,i,j,hn,h1,h2,h3,h4,h5=>by
  rw [iK]
  by_cases hij:i=j
  ·subst hij
   exact ⟨i,hend i _ h1 h3,h1,h3,h4,h5⟩
  ·rw [hstep i j _ h1 (by omega) h3]
   by_cases hP:P ((i+j) / 2)
   ·rw [if_pos hP]
    exact bsearch mk fin P lo hi hstep hend mono n _ _ (by omega) (by omega) (by omega) h3 (fun t ht1 ht2=>mono t _ ht1 (show t≤(i+j) / 2 by omega) (by omega) hP) h5
   ·rw [if_neg hP]
    exact bsearch mk fin P lo hi hstep hend mono n _ _ (by omega) h1 (by omega) (by omega) h4 (fun t ht1 ht2 hPt=>hP (mono _ t (by omega) ht1 ht2 hPt))
theorem Kf (i j:Nat) (h:i+j<4000000000000000000):w64 (Int.fdiv (bP (w64 ((i:Int)+(j:Int)))) (2 ^ 1))=(((i+j) / 2:Nat):Int):=by
 rw [aJ (n:=(i:Int)+(j:Int)) (by omega) (by omega),dK (by omega) (by omega),Wg _ (by omega),aJ (by omega) (by omega)]
 omega
theorem UB {α:Type} (X L R Y:List α) {i:Nat} (h:i<L.length):(X++L++R++Y)[X.length+i]? =some L[i]:=by
 rw [Wt,Wt,WH (by omega),WG (by omega),show X.length+i - X.length=i by omega,List.getElem?_eq_getElem h]
theorem Sz {α:Type} (X L R Y:List α) {i:Nat} (h:i<R.length):(X++L++R++Y)[X.length+L.length+i]? =some R[i]:=by
 rw [Wt,Wt,WH (by omega),WH (by omega),WG (by omega),show X.length+L.length+i - X.length - L.length=i by omega,List.getElem?_eq_getElem h]
theorem Srt.get {α:Type} {k:α→Int} {l:List α} (h:Srt k l) {i j:Nat} (hij:i≤j) (hj:j<l.length):k (l[i]'(by omega))≤k l[j]:=by
 rcases Nat.lt_or_eq_of_le hij with h1 | h1
 ·exact Xn.1 h i j (by omega) hj h1
 ·subst h1;exact Int.le_refl _
section
variable {k:Option Nat→Int} {ar:List au} {ok:Option Nat→Prop}
end
end Go.Md
namespace Go.Md
open Go.Dn
section
variable {k:Option Nat→Int} {ar:List au} {ok:Option Nat→Prop}
set_option maxHeartbeats 4000000 in
end
end Go.Md
namespace Go.Md
open Go.Dn
def ChS {α:Type} (k:α→Int) (bs:Nat) (l:List α):Prop:=∀ j:Nat,Srt k ((l.drop (j*bs)).take bs)
theorem ChS.nil {α:Type} (k:α→Int) (bs:Nat):ChS k bs []:=fun _=>by simp [Srt]
theorem ChS.snoc {α:Type} {k:α→Int} {bs:Nat} {A S:List α} {j:Nat} (h:ChS k bs A) (hA:A.length=j*bs) (hS:Srt k S) (hl:S.length≤bs):ChS k bs (A++S):=by
 intro i
 rcases XK i j with hij | hij | hij
 ·have h1:(i+1)*bs≤j*bs:=XP _ hij
  rw [Xy,XR] at h1
  rw [List.drop_append_of_le_length (by omega),List.take_append_of_le_length (by rw [List.length_drop];omega)]
  exact h i
 ·subst hij
  rw [← hA,WA,Xv hl]
  exact hS
 ·have h1:(j+1)*bs≤i*bs:=XP _ hij
  rw [Xy,XR] at h1
  rw [List.drop_of_length_le (by rw [WV];omega)]
  simp [Srt]
theorem ChS.drop {α:Type} {k:α→Int} {bs:Nat} {l:List α} (h:ChS k bs l) (i:Nat):ChS k bs (l.drop (i*bs)):=by
 intro j
 rw [Wy, ← Xy]
 exact h (i+j)
theorem Srt.take {α:Type} {k:α→Int} {l:List α} (h:Srt k l) (n:Nat):Srt k (l.take n):=by
 rw [← Xt n l] at h;exact h.left
section
variable {k:Option Nat→Int} {ar:List au} {ok:Option Nat→Prop}
end
end Go.Md
namespace Go.Md
open Go.Dn
def mG {α:Type} (g:Nat→α→Int):Nat→List α→Int
 | _,[]=>0
 | i,y::r=>if g i y=0 then mG g (i+1) r else g i y
theorem zq {α:Type} {g:Nat→α→Int}:∀ {l:List α} {i:Nat},mG g i l=0→∀ j y,l[j]? =some y→g (i+j) y=0
 | [],_,_,_,_,h=>by simp at h
 | y::r,i,h,j,z,hz=>by
  simp only [mG] at h
  by_cases hg:g i y=0
  ·rw [if_pos hg] at h
   cases j with
   | zero=>simp at hz;subst hz;exact hg
   | succ j=>have:=zq h j z (by simpa using hz);rw [show i+(j+1)=i+1+j by omega];exact this
  ·rw [if_neg hg] at h;exact absurd h hg
theorem Ji {X α:Type} {γ:Type} {f:X→(X→Option ((Int×Unit) ⊕ γ))→Option ((Int×Unit) ⊕ γ)} (mk:Nat→X) (l:List α) (g:Nat→α→Int) (u:γ)
 (hstep:∀ i y again,l[i]? =some y→f (mk i) again=if g i y=0 then again (mk (i+1)) else some (Sum.inl (g i y,()))) (hend:∀ again,f (mk l.length) again=some (Sum.inr u)):
 ∀ (r:List α) (i n:Nat),l.drop i=r→i≤l.length→r.length<n→iter n (mk i) f=if mG g i r=0 then some (Sum.inr u) else some (Sum.inl (mG g i r,()))
 | _,_,0,_,_,hn=>absurd hn (XQ _)
 | [],i,n+1,hd,hi,_=>by
  have:i=l.length:=by
   have:=congrArg List.length hd
   simp at this;omega
  subst this
  rw [iK,hend];rfl
 | y::r,i,n+1,hd,hi,hn=>by
  have hy:l[i]? =some y:=by
   have:=congrArg (·[0]?) hd
   simpa [WK] using this
  have hr:l.drop (i+1)=r:=by
   have:=congrArg List.tail hd
   simpa [List.tail_drop] using this
  have hi':i<l.length:=(List.getElem?_eq_some_iff.1 hy).1
  rw [iK,hstep i y _ hy]
  by_cases hg:g i y=0
  ·have e:mG g i (y::r)=mG g (i+1) r:=by simp [mG,hg]
   rw [if_pos hg,e]
   exact Ji mk l g u hstep hend r (i+1) n hr hi' (by simp at hn;omega)
  ·have e:mG g i (y::r)=g i y:=by simp [mG,hg]
   rw [if_neg hg,e,if_neg hg]
theorem mh (a b c:Int):cu a b c=some (decide (a<b∨c<a),()):=by
 unfold cu
 by_cases h:a<b
 ·rw [aM h];simp [h]
 ·rw [aN h];simp [h]
theorem P0 (n:Int):yT n=some (decide (1≤n∧n≤3652059),()):=by
 unfold yT
 rw [mh,Option.bind_some]
 congr 2
 simp only [← decide_not]
 congr 1
 simp only [eq_iff_iff];omega
def tO (s:List UInt8):Bool:=((gH s).map (·.1)).getD false
theorem xP (s:List UInt8):gH s=some (tO s,()):=by
 have:∃ b,gH s=some (b,()):=by
  unfold gH
  by_cases h1:(s.length:Int)<1
  ·rw [aM h1];exact ⟨_,rfl⟩
  ·rw [aN h1]
   by_cases h2:(s.length:Int)>40
   ·rw [aM h2];exact ⟨_,rfl⟩
   ·rw [aN h2]
    have hs:Np s 0=some (s[0]'(by omega)):=by simp [Np]
    rw [hs]
    simp only [Option.bind_some]
    have ht:q7 s [97,98,99,100,101,102,103,104,105,106,107,108,109,110,111,112,113,114,115,116,117,118,119,120,121,122,48,49,50,51,52,53,54,55,56,57,45]=some (Lib.trimS s [97,98,99,100,101,102,103,104,105,106,107,108,109,110,111,112,113,114,115,116,117,118,119,120,121,122,48,49,50,51,52,53,54,55,56,57,45],()):=by
     unfold q7
     rw [show (decide (s.length≤9223372036854775807))=true by simp;omega]
     rfl
    rw [ht]
    simp only [Option.bind_some]
    generalize (decide ((((s[0]'(by omega)).toNat:Int))<97))=b1
    generalize (decide ((((s[0]'(by omega)).toNat:Int))>122))=b2
    cases b1<;>cases b2<;>exact ⟨_,rfl⟩
 obtain ⟨b,hb⟩:=this
 unfold tO
 rw [hb];rfl
theorem Fs (d:ak):bU d=some (if -1000000000000000≤d.1∧d.1≤1000000000000000∧0≤d.2∧d.2≤9 then 0 else 1,()):=by
 unfold bU
 rw [mh,Option.bind_some,mh]
 simp only [Option.bind_some]
 by_cases h1:d.1< -1000000000000000∨1000000000000000<d.1
 ·rw [aM h1,if_neg (by omega)]
 ·rw [aN h1]
  by_cases h2:d.2<0∨9<d.2
  ·rw [aM h2,if_neg (by omega)]
  ·rw [aN h2,if_pos (by omega)]
theorem Ut {n:Nat} (h:n≤18):(10:Int) ^ n≤1000000000000000000:=by
 have:=XT (n:=10) (by omega) h
 have h2:=Int.ofNat_le.2 this
 simpa using h2
theorem yJ (n:Nat):(0:Int)<10 ^ n:=Pp (by omega) n
theorem Ig (n:Int) (h0:0≤n) (h1:n≤18):vN n=some (10 ^ n.toNat,()):=by
 obtain ⟨m,rfl⟩:∃ m:Nat,n=m:=⟨n.toNat,by omega⟩
 unfold vN
 have:iter (X:=xY) (β:=xR) (Int.natAbs (1:Int)+(Int.natAbs (m:Int)+(Int.natAbs (0:Int)+2))) (1,(m:Int),0,()) xQ=some (Sum.inr (10 ^ m,())):=by
  refine bS (Inv:=fun i x=>x=(10 ^ i,(m:Int),(i:Int),())) m (fun r=>r=some (Sum.inr (10 ^ m,()))) ?_ ?_ _ 0 _ (by simp) (by omega) (by omega)
  ·rintro i _ again hi rfl ih
   unfold xQ
   dsimp only
   have h10:=Ut (n:=i+1) (by omega)
   have hp:=yJ (i+1)
   rw [Wm] at h10 hp
   rw [aM (by omega),aJ (by omega) (by omega),aJ (by omega) (by omega)]
   exact ih _ (by rw [Wm];rfl)
  ·rintro _ again rfl
   unfold xQ
   dsimp only
   rw [aN (by omega)]
 rw [this,aL]
 simp
theorem MD (d:ak) (most:Int) (h0:0≤d.2) (h1:d.2≤9) (hm0:0≤most) (hm1:most≤1000000000):fD d most=some (decide (-(most*10 ^ d.2.toNat)≤d.1∧d.1≤most*10 ^ d.2.toNat),()):=by
 unfold fD
 rw [Ig _ h0 (by omega),Option.bind_some]
 dsimp only
 have hp:=yJ d.2.toNat
 have hq:(10:Int) ^ d.2.toNat≤1000000000:=by
  have:=XT (n:=10) (by omega) (show d.2.toNat≤9 by omega)
  have h2:=Int.ofNat_le.2 this
  simpa using h2
 have h3:most*10 ^ d.2.toNat≤1000000000*1000000000:=by
  have a1:most*10 ^ d.2.toNat≤1000000000*10 ^ d.2.toNat:=Int.mul_le_mul_of_nonneg_right hm1 (by omega)
  omega
 have h4:0≤most*10 ^ d.2.toNat:=Wj hm0 (by omega)
 rw [aJ (n:=most*10 ^ d.2.toNat) (by omega) (by omega),aJ (by omega) (by omega),mh,Option.bind_some]
 congr 2
 simp only [← decide_not]
 congr 1
 simp only [eq_iff_iff];omega
def ET (d:ak):Prop:=0<d.1∧0≤d.2∧d.2≤4∧d.1≤1000000000*10 ^ d.2.toNat
instance (d:ak):Decidable (ET d):=by unfold ET;exact inferInstance
structure Vw (d:cH):Prop where
 day0:1≤d.2.1
 day1:d.2.1≤3652059
 mon:ET d.2.2.1
 days0:0≤d.2.2.2.1
 days1:d.2.2.2.1≤10000
 with0:0≤d.2.2.2.2.1
 with1:d.2.2.2.2.1≤d.2.2.2.1
 disc0:0≤d.2.2.2.2.2
 disc1:d.2.2.2.2.2≤1000
structure VN (p:bJ):Prop where
 day0:1≤p.1
 day1:p.1≤3652059
 mon:ET p.2.1
 names:p.2.2.length≤100
end Go.Md
namespace Go.Md
open Go.Dn
def Ki (d:ak):Int:=d.1*10 ^ (4 - d.2).toNat
theorem ET.Ki {d:ak} (h:ET d):0<Ki d∧Ki d≤10000000000000:=by
 obtain ⟨h1,h2,h3,h4⟩:=h
 unfold Md.Ki
 have hp:=yJ (4 - d.2).toNat
 refine ⟨Int.mul_pos h1 hp, ?_⟩
 have a1:d.1*10 ^ (4 - d.2).toNat≤1000000000*10 ^ d.2.toNat*10 ^ (4 - d.2).toNat:=Int.mul_le_mul_of_nonneg_right h4 (by omega)
 rw [Int.mul_assoc, ← Int.pow_add,show d.2.toNat+(4 - d.2).toNat=4 by omega] at a1
 omega
abbrev Bd:=au
def SI (x:Bd):Int:=x.2.1
def Sx (x:Bd):Int:=x.2.2.1
def taken (x:Bd):Int:=x.2.2.2.1
def done (x:Bd):Int:=x.2.2.2.2
structure PE (x:Bd):Prop where
 d:Vw x.1
 owes0:0≤SI x
 paid0:0≤Sx x
 taken0:0≤taken x
 sum:SI x+Sx x+taken x=Ki x.1.2.2.1
 none:done x=0→taken x=0
 done0:done x=0∨x.1.2.1≤done x
 iff:SI x=0↔done x≠0
theorem PE.le {x:Bd} (h:PE x):SI x≤10000000000000∧Sx x≤10000000000000∧taken x≤10000000000000:=by
 have:=h.d.mon.Ki;have:=h.sum;have:=h.owes0;have:=h.paid0;have:=h.taken0;omega
section
variable {ar:List Bd} {h:Nat} {x:Bd}
theorem UW {α:Type} {l:List α} {i:Nat} {x y:α} (h:l[i]? =some x):(l.set i y)[i]? =some y:=WR (List.getElem?_eq_some_iff.1 h).1
end
end Go.Md
namespace Go.Md
open Go.Dn
structure nC (ds:List cH) (ar:List Bd):Prop where
 ds:ar.map (·.1)=ds
 ok:∀ x∈ar,PE x
theorem nC.len {ds:List cH} {ar:List Bd} (h:nC ds ar):ar.length=ds.length:=by rw [← h.ds];simp
theorem nC.set {ds:List cH} {ar:List Bd} (h:nC ds ar) {i:Nat} {x y:Bd} (hx:ar[i]? =some x) (hy:PE y) (he:y.1=x.1):nC ds (ar.set i y):=by
 refine ⟨?_,fun z hz=> ?_⟩
 ·rw [List.map_set,he, ← h.ds]
  apply WD
  intro j
  by_cases hj:i=j
  ·subst hj
   rw [WR (by simp;exact (List.getElem?_eq_some_iff.1 hx).1),List.getElem?_map,hx];rfl
  ·rw [WQ hj]
 ·rcases Xh hz with hz | rfl
  ·exact h.ok z hz
  ·exact hy
theorem nC.get {ds:List cH} {ar:List Bd} (h:nC ds ar) {i:Nat} {x:Bd} (hx:ar[i]? =some x):PE x:=h.ok x (List.mem_of_getElem? hx)
def UQ (ar:List Bd):Int:=(ar.map Sx).sum
structure VO (ds:List cH) (L T:Int) (s:Int×List Bd):Prop where
 ar:nC ds s.2
 l0:0≤s.1
 l1:s.1≤L
 tot:s.1+UQ s.2=T
theorem BW {k v:Ty} (p:k.den×v.den) (m:List (k.den×v.den)) (n:k.den):kG (p::m) n=bif k.beq n p.1 then some p.2 else kG m n:=by
 unfold kG
 rw [List.find?_cons]
 cases k.beq n p.1<;>rfl
theorem TU {k v:Ty} (p:k.den×v.den) (m:List (k.den×v.den)) (x:k.den) (y:v.den):tP (p::m) x y=bif k.beq x p.1 then (x,y)::m else p::tP m x y:=rfl
theorem TK {k v:Ty} (hb:∀ a b:k.den,k.beq a b=true↔a=b) (m:List (k.den×v.den)) (x:k.den) (y:v.den) (n:k.den):kG (tP m x y) n=bif k.beq x n then some y else kG m n:=by
 have hcomm:∀ a b:k.den,k.beq a b=k.beq b a:=fun a b=>by
  rw [Bool.eq_iff_iff,hb,hb];exact eq_comm
 induction m with
 | nil=>
  change kG [(x,y)] n=_
  rw [BW,hcomm n x]
 | cons p m ih=>
  rw [TU]
  cases hp:k.beq x p.1 with
  | true=>
   rw [cond_true,BW,BW,hcomm n p.1, ← (hb _ _).1 hp,hcomm n x]
   cases k.beq x n<;>rfl
  | false=>
   rw [cond_false,BW,BW,ih]
   cases hn:k.beq n p.1 with
   | true=>
    have:k.beq x n=false:=by
     cases h:k.beq x n with
     | false=>rfl
     | true=>rw [(hb _ _).1 h,hn] at hp;cases hp
    rw [this];rfl
   | false=>rfl
theorem U6 (a b:(Ty.str).den):Ty.beq .str a b=true↔a=b:=by
 show ((show List UInt8 from a)==(show List UInt8 from b))=true↔_
 exact beq_iff_eq
theorem SW {β:Type} (a:Option β):both a a=a:=S7 a
end Go.Md
namespace Go.Md
open Go.Dn
theorem Gi (z:Int) (p:Int):qs (W z) p=some (if z.natAbs≤1000000000000000 then ((z,p),0,()) else ((0,0),1,())):=by
 unfold qs
 rw [sC z 1000000000000000 (by omega) (by omega),Option.bind_some]
 by_cases h:(z.natAbs:Int)≤1000000000000000
 ·rw [if_pos h,if_pos (by omega)];rfl
 ·rw [if_neg h,if_neg (by omega)];rfl
def qy (d:ak):Int:=d.1*10 ^ (9 - d.2).toNat
def bA (d:ak):Prop:=d.1.natAbs≤1000000000000000∧0≤d.2∧d.2≤9
theorem ET.dec {d:ak} (h:ET d):bA d:=by
 obtain ⟨h1,h2,h3,h4⟩:=h
 have hq:(10:Int) ^ d.2.toNat≤10000:=by
  have:=XT (n:=10) (by omega) (show d.2.toNat≤4 by omega)
  have h2:=Int.ofNat_le.2 this
  simpa using h2
 exact ⟨by omega,h2,by omega⟩
end Go.Md
namespace Go.Md
open Go.Dn
end Go.Md
namespace Go.Md
open Go.Dn
end Go.Md
namespace Go.Md
open Go.Dn
end Go.Md
namespace Go.Md
open Go.Dn
def Pj (D:Int) (S:Nat→Prop) (ar:List Bd):Prop:=∀ i x,S i→ar[i]? =some x→done x=0∨D<done x
theorem Pj.set {D:Int} {S:Nat→Prop} {ar:List Bd} {h:Nat} {x y:Bd} (hq:Pj D S ar) (hx:ar[h]? =some x) (hy:(done x=0∨D<done x)→(done y=0∨D<done y)):Pj D S (ar.set h y):=by
 intro i z hi hz
 by_cases e:h=i
 ·subst e
  rw [UW hx] at hz
  cases hz
  exact hy (hq h x hi hx)
 ·rw [WQ e] at hz
  exact hq i z hi hz
end Go.Md
namespace Go.Md
open Go.Dn
set_option maxRecDepth 100000 in
instance (d:ak):Decidable (bA d):=by unfold bA;infer_instance
end Go.Md
