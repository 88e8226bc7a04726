/-
  Plain facts, small ones. No condition.
-/
import Derived.Test.YtjlkkapojeldlaaGreatDoorYp
import Derived.Test.YtjlkkapojeldlaaGreatDoorYm
set_option linter.all false
namespace Go.Md
open Go.Dn
structure rV {α:Type} (k:α->Int) (l l':List α):Prop where
 perm:l.Perm l'
 keys:∀ v,l'.filter (fun x=>k x==v)=l.filter (fun x=>k x==v)
theorem rV.refl {α:Type} (k:α->Int) (l:List α):rV k l l:=⟨List.Perm.refl _,fun _=>rfl⟩
theorem rV.trans {α:Type} {k:α->Int} {a b c:List α} (h:rV k a b) (g:rV k b c):rV k a c:=⟨h.perm.trans g.perm,fun v=>(g.keys v).trans (h.keys v)⟩
theorem rV.append {α:Type} {k:α->Int} {a b c d:List α} (h:rV k a b) (g:rV k c d):rV k (a++c) (b++d):=
 ⟨h.perm.append g.perm,fun v=>by rw[List.filter_append,List.filter_append,h.keys,g.keys]⟩
theorem rV.mem {α:Type} {k:α->Int} {a b:List α} (h:rV k a b) {x:α}:x∈b↔x∈a:=h.perm.mem_iff.symm
theorem rV.length {α:Type} {k:α->Int} {a b:List α} (h:rV k a b):b.length=a.length:=h.perm.length_eq.symm
def Srt {α:Type} (k:α->Int) (l:List α):Prop:=l.Pairwise fun x y=>k x<=k y
theorem Srt.append {α:Type} {k:α->Int} {a b:List α} (ha:Srt k a) (hb:Srt k b) (h:∀ x∈a,∀ y∈b,k x<=k y):Srt k (a++b):=XQ.2 ⟨ha,hb,h⟩
theorem Srt.left {α:Type} {k:α->Int} {a b:List α} (h:Srt k (a++b)):Srt k a:=(XQ.1 h).1
theorem Srt.right {α:Type} {k:α->Int} {a b:List α} (h:Srt k (a++b)):Srt k b:=(XQ.1 h).2.1
section
variable {k:Option Nat->Int} {ar:List mP} {ok:Option Nat->Prop}
end
end Go.Md
namespace Go.Md
open Go.Dn
section
variable {k:Option Nat->Int} {ar:List mP} {ok:Option Nat->Prop}
end
end Go.Md
namespace Go.Md
open Go.Dn
theorem Srt.get {α:Type} {k:α->Int} {l:List α} (h:Srt k l) {i j:Nat} (hij:i<=j) (hj:j<l.length):k (l[i]'(by omega))<=k l[j]:=by
 rcases Nat.lt_or_eq_of_le hij with h1 | h1
 ·exact List.pairwise_iff_getElem.1 h i j (by omega) hj h1
 ·subst h1;exact Int.le_refl _
section
variable {k:Option Nat->Int} {ar:List mP} {ok:Option Nat->Prop}
end
end Go.Md
namespace Go.Md
open Go.Dn
section
variable {k:Option Nat->Int} {ar:List mP} {ok:Option Nat->Prop}
end
end Go.Md
namespace Go.Md
open Go.Dn
def ChS {α:Type} (k:α->Int) (bs:Nat) (l:List α):Prop:=∀ j:Nat,Srt k ((l.drop (j*bs)).take bs)
theorem ChS.nil {α:Type} (k:α->Int) (bs:Nat):ChS k bs []:=fun _=>by simp[Srt]
theorem ChS.snoc {α:Type} {k:α->Int} {bs:Nat} {A S:List α} {j:Nat} (h:ChS k bs A) (hA:A.length=j*bs) (hS:Srt k S) (hl:S.length<=bs):ChS k bs (A++S):=by
 intro i
 rcases Yk i j with hij | hij | hij
 ·have h1:(i+1)*bs<=j*bs:=Ym _ hij
  rw[X4,Nat.one_mul] at h1
  rw[List.drop_append_of_le_length (by omega),List.take_append_of_le_length (by rw[Xn];omega)]
  exact h i
 ·subst hij
  rw[<- hA,WH,X0 hl]
  exact hS
 ·have h1:(j+1)*bs<=i*bs:=Ym _ hij
  rw[X4,Nat.one_mul] at h1
  rw[WI (by rw[Xl];omega)]
  simp[Srt]
theorem ChS.drop {α:Type} {k:α->Int} {bs:Nat} {l:List α} (h:ChS k bs l) (i:Nat):ChS k bs (l.drop (i*bs)):=by
 intro j
 rw[WE, <- X4]
 exact h (i+j)
theorem Srt.take {α:Type} {k:α->Int} {l:List α} (h:Srt k l) (n:Nat):Srt k (l.take n):=by
 rw[<- XX n l] at h;exact h.left
section
variable {k:Option Nat->Int} {ar:List mP} {ok:Option Nat->Prop}
end
end Go.Md
namespace Go.Md
open Go.Dn
def cV {α:Type} (g:Nat->α->Int):Nat->List α->Int
 | _,[]=>0
 | i,y::r=>if g i y=0 then cV g (i+1) r else g i y
theorem pe {α:Type} {g:Nat->α->Int}:∀ {l:List α} {i:Nat},cV g i l=0->∀ j y,l[j]? =some y->g (i+j) y=0
 | [],_,_,_,_,h=>by simp at h
 | y::r,i,h,j,z,hz=>by
  simp only[cV] at h
  by_cases hg:g i y=0
  ·rw[YR hg] at h
   cases j with
   | zero=>simp at hz;subst hz;exact hg
   | succ j=>have:=pe h j z (by simpa using hz);rw[show i+(j+1)=i+1+j by omega];exact this
  ·rw[YQ hg] at h;exact absurd h hg
theorem K0 {X α:Type} {γ:Type} {f:X->(X->Option ((Int×Unit) ⊕ γ))->Option ((Int×Unit) ⊕ γ)} (mk:Nat->X) (l:List α) (g:Nat->α->Int) (u:γ) (hstep:∀ i y again,l[i]? =some y->f (mk i) again=if g i y=0 then again (mk (i+1)) else some (Sum.inl (g i y,()))) (hend:∀ again,f (mk l.length) again=some (Sum.inr u)): ∀ (r:List α) (i n:Nat),l.drop i=r->i<=l.length->r.length<n->iter n (mk i) f=if cV g i r=0 then some (Sum.inr u) else some (Sum.inl (cV g i r,()))
 | _,_,0,_,_,hn=>absurd hn (Yo _)
 | [],i,n+1,hd,hi,_=>by
  have:i=l.length:=by
   have:=congrArg List.length hd
   simp at this;omega
  subst this
  rw[lK,hend];rfl
 | y::r,i,n+1,hd,hi,hn=>by
  have hy:l[i]? =some y:=by
   have:=congrArg (·[0]?) hd
   simpa [WY] using this
  have hr:l.drop (i+1)=r:=by
   have:=congrArg List.tail hd
   simpa [List.tail_drop] using this
  have hi':i<l.length:=(Xa.1 hy).1
  rw[lK,hstep i y _ hy]
  by_cases hg:g i y=0
  ·have e:cV g i (y::r)=cV g (i+1) r:=by simp[cV,hg]
   rw[YR hg,e]
   exact K0 mk l g u hstep hend r (i+1) n hr hi' (by simp at hn;omega)
  ·have e:cV g i (y::r)=g i y:=by simp[cV,hg]
   rw[YQ hg,e,YQ hg]
theorem oQ (a b c:Int):iI a b c=some (decide (a<b\/c<a),()):=by
 unfold iI
 by_cases h:a<b
 ·rw[aF h];simp[h]
 ·rw[aI h];simp[h]
theorem NA (n:Int):yz n=some (decide (1<=n/\n<=3652059),()):=by
 unfold yz
 rw[oQ,Yt]
 congr 2
 simp only[<- decide_not]
 congr 1
 simp only[eq_iff_iff];omega
def dO (s:List UInt8):Bool:=((eX s).map (·.1)).getD false
theorem Cf (s:List UInt8):eX s=some (dO s,()):=by
 have:∃ b,eX s=some (b,()):=by
  unfold eX
  by_cases h1:(s.length:Int)<1
  ·rw[aF h1];exact⟨_,rfl⟩
  ·rw[aI h1]
   by_cases h2:(s.length:Int)>40
   ·rw[aF h2];exact⟨_,rfl⟩
   ·rw[aI h2]
    have hs:eN s 0=some (s[0]'(by omega)):=by simp[eN]
    rw[hs]
    simp only[Yt]
    have ht:dV s [97,98,99,100,101,102,103,104,105,106,107,108,109,110,111,112,113,114,115,116,117,118,119,120,121,122,48,49,50,51,52,53,54,55,56,57,45]=some (Lib.trimS s [97,98,99,100,101,102,103,104,105,106,107,108,109,110,111,112,113,114,115,116,117,118,119,120,121,122,48,49,50,51,52,53,54,55,56,57,45],()):=by
     unfold dV
     rw[show (decide (s.length<=9223372036854775807))=true by simp;omega]
     rfl
    rw[ht]
    simp only[Yt]
    generalize (decide ((((s[0]'(by omega)).toNat:Int))<97))=b1
    generalize (decide ((((s[0]'(by omega)).toNat:Int))>122))=b2
    cases b1<;>cases b2<;>exact⟨_,rfl⟩
 obtain⟨b,hb⟩:=this
 unfold dO
 rw[hb];rfl
theorem yT (d:ah):eD d=some (if -1000000000000000<=d.1/\d.1<=1000000000000000/\0<=d.2/\d.2<=9 then 0 else 1,()):=by
 unfold eD
 rw[oQ,Yt,oQ]
 simp only[Yt]
 by_cases h1:d.1< -1000000000000000\/1000000000000000<d.1
 ·rw[aF h1,YQ (by omega)]
 ·rw[aI h1]
  by_cases h2:d.2<0\/9<d.2
  ·rw[aF h2,YQ (by omega)]
  ·rw[aI h2,YR (by omega)]
theorem TI {n:Nat} (h:n<=18):(10:Int) ^ n<=1000000000000000000:=by
 have:=Yp (n:=10) (by omega) h
 have h2:=Int.ofNat_le.2 this
 simpa using h2
theorem yC (n:Nat):(0:Int)<10 ^ n:=GQ (by omega) n
theorem LH (n:Int) (h0:0<=n) (h1:n<=18):Hl n=some (10 ^ n.toNat,()):=by
 obtain⟨m,rfl⟩:∃ m:Nat,n=m:=⟨n.toNat,by omega⟩
 unfold Hl
 have:iter (X:=qz) (β:=qy) (Int.natAbs (1:Int)+(Int.natAbs (m:Int)+(Int.natAbs (0:Int)+2))) (1,(m:Int),0,()) qx=some (Sum.inr (10 ^ m,())):=by
  refine b8 (Inv:=fun i x=>x=(10 ^ i,(m:Int),(i:Int),())) m (fun r=>r=some (Sum.inr (10 ^ m,()))) ?_ ?_ _ 0 _ (by simp) (by omega) (by omega)
  ·rintro i _ again hi rfl ih
   unfold qx
   dsimp only
   have h10:=TI (n:=i+1) (by omega)
   have hp:=yC (i+1)
   rw[Wp] at h10 hp
   rw[aF (by omega),aD (by omega) (by omega),aD (by omega) (by omega)]
   exact ih _ (by rw[Wp];rfl)
  ·rintro _ again rfl
   unfold qx
   dsimp only
   rw[aI (by omega)]
 rw[this,bg]
 simp
def Ew (d:ah):Prop:=0<d.1/\0<=d.2/\d.2<=4/\d.1<=1000000000*10 ^ d.2.toNat
instance (d:ah):Decidable (Ew d):=by unfold Ew;exact inferInstance
structure UJ (d:lY):Prop where
 day0:1<=d.2.1
 day1:d.2.1<=3652059
 mon:Ew d.2.2.1
 days0:0<=d.2.2.2.1
 days1:d.2.2.2.1<=10000
 with0:0<=d.2.2.2.2.1
 with1:d.2.2.2.2.1<=d.2.2.2.1
 disc0:0<=d.2.2.2.2.2
 disc1:d.2.2.2.2.2<=1000
structure VK (p:Ly):Prop where
 day0:1<=p.1
 day1:p.1<=3652059
 mon:Ew p.2.1
 names:p.2.2.length<=100
end Go.Md
namespace Go.Md
open Go.Dn
def EA (d:ah):Int:=d.1*10 ^ (4 - d.2).toNat
theorem Ew.EA {d:ah} (h:Ew d):0<EA d/\EA d<=10000000000000:=by
 obtain⟨h1,h2,h3,h4⟩:=h
 unfold Md.EA
 have hp:=yC (4 - d.2).toNat
 refine⟨Int.mul_pos h1 hp, ?_⟩
 have a1:d.1*10 ^ (4 - d.2).toNat<=1000000000*10 ^ d.2.toNat*10 ^ (4 - d.2).toNat:=Int.mul_le_mul_of_nonneg_right h4 (by omega)
 rw[Wj, <- Wo,show d.2.toNat+(4 - d.2).toNat=4 by omega] at a1
 omega
abbrev Bd:=mP
def QJ (x:Bd):Int:=x.2.1
def QO (x:Bd):Int:=x.2.2.1
def taken (x:Bd):Int:=x.2.2.2.1
def done (x:Bd):Int:=x.2.2.2.2
structure Mx (x:Bd):Prop where
 d:UJ x.1
 owes0:0<=QJ x
 paid0:0<=QO x
 taken0:0<=taken x
 sum:QJ x+QO x+taken x=EA x.1.2.2.1
 none:done x=0->taken x=0
 done0:done x=0\/x.1.2.1<=done x
 iff:QJ x=0↔done x≠0
theorem Mx.le {x:Bd} (h:Mx x):QJ x<=10000000000000/\QO x<=10000000000000/\taken x<=10000000000000:=by
 have:=h.d.mon.EA;have:=h.sum;have:=h.owes0;have:=h.paid0;have:=h.taken0;omega
section
variable {ar:List Bd} {h:Nat} {x:Bd}
theorem UC {α:Type} {l:List α} {i:Nat} {x y:α} (h:l[i]? =some x):(l.set i y)[i]? =some y:=Xf (Xa.1 h).1
end
end Go.Md
namespace Go.Md
open Go.Dn
structure gV (ds:List lY) (ar:List Bd):Prop where
 ds:ar.map (·.1)=ds
 ok:∀ x∈ar,Mx x
theorem gV.len {ds:List lY} {ar:List Bd} (h:gV ds ar):ar.length=ds.length:=by rw[<- h.ds];simp
theorem gV.set {ds:List lY} {ar:List Bd} (h:gV ds ar) {i:Nat} {x y:Bd} (hx:ar[i]? =some x) (hy:Mx y) (he:y.1=x.1):gV ds (ar.set i y):=by
 refine⟨?_,fun z hz=> ?_⟩
 ·rw[List.map_set,he, <- h.ds]
  apply WM
  intro j
  by_cases hj:i=j
  ·subst hj
   rw[Xf (by simp;exact (Xa.1 hx).1),Xb,hx];rfl
  ·rw[Xe hj]
 ·rcases XJ hz with hz | rfl
  ·exact h.ok z hz
  ·exact hy
theorem gV.get {ds:List lY} {ar:List Bd} (h:gV ds ar) {i:Nat} {x:Bd} (hx:ar[i]? =some x):Mx x:=h.ok x (XH hx)
def UE (ar:List Bd):Int:=(ar.map QO).sum
structure VM (ds:List lY) (L T:Int) (s:Int×List Bd):Prop where
 ar:gV ds s.2
 l0:0<=s.1
 l1:s.1<=L
 tot:s.1+UE s.2=T
end Go.Md
namespace Go.Md
open Go.Dn
def few:Nat->Int->Int×Nat
 | 0,z=>(z,0)
 | p+1,z=>if z % 10=0 then few p (z / 10) else (z,p+1)
theorem zJ (z:Int) (p:Int):mR (W z) p=some (if z.natAbs<=1000000000000000 then ((z,p),0,()) else ((0,0),1,())):=by
 unfold mR
 rw[GY z 1000000000000000 (by omega) (by omega),Yt]
 by_cases h:(z.natAbs:Int)<=1000000000000000
 ·rw[YR h,YR (by omega)];rfl
 ·rw[YQ h,YQ (by omega)];rfl
def qV (d:ah):Int:=d.1*10 ^ (9 - d.2).toNat
def dw (d:ah):Prop:=d.1.natAbs<=1000000000000000/\0<=d.2/\d.2<=9
theorem J3 {z:Int} (h:z.natAbs<1000000000000000000000000000000000000000000000000000000000000):(dg6 z.natAbs).length<=10:=Pu (k:=10) (by simpa using h)
theorem Pd (n:Nat) (hn:n<=40):BU (n:Int)=some (N (10 ^ n),()):=by
 unfold BU
 rw[GR 1 (by omega) (by omega),Yt]
 dsimp only
 have hb:∀ i:Nat,i<=41->(dg6 ((10:Int) ^ i).natAbs).length<=10:=by
  intro i hi
  refine J3 ?_
  have h1:((10:Int) ^ i).natAbs=10 ^ i:=by rw[Int.natAbs_pow];rfl
  have h2:=Yp (n:=10) (by omega) hi
  omega
 have loop:iter (X:=uX) (β:=uW) (Int.natAbs (n:Int)+(Int.natAbs (0:Int)+(List.length ([]:List Int)+(List.length (N 1).2+2)))) ((n:Int),0,false,[],(N 1).1,(N 1).2,()) uV=some (Sum.inr (false,[],(N (10 ^ n)).1,(N (10 ^ n)).2,())):=by
  refine b8 (Inv:=fun i x=>x=((n:Int),(i:Int),false,[],(N (10 ^ i)).1,(N (10 ^ i)).2,())) n (fun r=>r=some (Sum.inr (false,[],(N (10 ^ n)).1,(N (10 ^ n)).2,()))) ?_ ?_ _ 0 _ (by simp) (by omega) (by omega)
  ·rintro i _ again hi rfl ih
   unfold uV
   dsimp only
   rw[aF (by omega),GR 10 (by omega) (by omega),Yt]
   change (Option.bind (oW (N (10 ^ i)) (N 10)) _)=_
   have h10:(dg6 (10:Int).natAbs).length<=10:=J3 (by decide)
   rw[Cj _ _ (by have:=hb i (by omega);omega) (by omega),Yt]
   dsimp only
   rw[aD (by omega) (by omega)]
   exact ih _ (by rw[Wp];rfl)
  ·rintro _ again rfl
   unfold uV
   dsimp only
   rw[aI (by omega)]
 rw[loop,bg]
theorem N3 (d:ah) (hd:dw d):BR d 9=some (N (qV d),()):=by
 obtain⟨h1,h2,h3⟩:=hd
 unfold BR
 rw[GR _ (by omega) (by omega),Yt,aD (by omega) (by omega)]
 dsimp only
 obtain⟨m,hm⟩:∃ m:Nat,9 - d.2=m:=⟨(9 - d.2).toNat,by omega⟩
 rw[hm,Pd m (by omega),Yt]
 dsimp only
 have hl1:(dg6 d.1.natAbs).length<=10:=J3 (by omega)
 have hl2:(dg6 ((10:Int) ^ m).natAbs).length<=10:=by
  refine J3 ?_
  have h1:((10:Int) ^ m).natAbs=10 ^ m:=by rw[Int.natAbs_pow];rfl
  have h2:=Yp (n:=10) (by omega) (show m<=9 by omega)
  omega
 rw[Cj _ _ (by omega) (by omega),Yt]
 unfold qV
 rw[hm];rfl
theorem HD {d:ah} (hd:dw d):(qV d).natAbs<=1000000000000000000000000:=by
 obtain⟨h1,h2,h3⟩:=hd
 unfold qV
 rw[Int.natAbs_mul,Int.natAbs_pow]
 have h4:=Yp (n:=10) (by omega) (show (9 - d.2).toNat<=9 by omega)
 have h5:d.1.natAbs*(10:Int).natAbs ^ (9 - d.2).toNat<=1000000000000000*1000000000:=Nat.mul_le_mul h1 (by simpa using h4)
 omega
end Go.Md
namespace Go.Md
open Go.Dn
end Go.Md
namespace Go.Md
open Go.Dn
def sC (day:Int) (x:Bd):Int:=max 0 (day - (x.1.2.1+x.1.2.2.2.1))
end Go.Md
namespace Go.Md
open Go.Dn
theorem Ih {X α B:Type} {f:X->(X->Option B)->Option B} (mk:Nat->X) (l:List α) (g:Nat->α->Int) (fin:Option B) (out:Int->Option B) (hstep:∀ i y again,l[i]? =some y->f (mk i) again=if g i y=0 then again (mk (i+1)) else out (g i y)) (hend:∀ again,f (mk l.length) again=fin): ∀ (r:List α) (i n:Nat),l.drop i=r->i<=l.length->r.length<n->iter n (mk i) f=if cV g i r=0 then fin else out (cV g i r)
 | _,_,0,_,_,hn=>absurd hn (Yo _)
 | [],i,n+1,hd,hi,_=>by
  have:i=l.length:=by
   have:=congrArg List.length hd
   simp at this;omega
  subst this
  rw[lK,hend];rfl
 | y::r,i,n+1,hd,hi,hn=>by
  have hy:l[i]? =some y:=by
   have:=congrArg (·[0]?) hd
   simpa [WY] using this
  have hr:l.drop (i+1)=r:=by
   have:=congrArg List.tail hd
   simpa [List.tail_drop] using this
  have hi':i<l.length:=(Xa.1 hy).1
  rw[lK,hstep i y _ hy]
  by_cases hg:g i y=0
  ·have e:cV g i (y::r)=cV g (i+1) r:=by simp[cV,hg]
   rw[YR hg,e]
   exact Ih mk l g fin out hstep hend r (i+1) n hr hi' (by simp at hn;omega)
  ·have e:cV g i (y::r)=g i y:=by simp[cV,hg]
   rw[YQ hg,e,YQ hg]
end Go.Md
namespace Go.Md
open Go.Dn
def MA (D:Int) (S:Nat->Prop) (ar:List Bd):Prop:=∀ i x,S i->ar[i]? =some x->done x=0\/D<done x
theorem MA.set {D:Int} {S:Nat->Prop} {ar:List Bd} {h:Nat} {x y:Bd} (hq:MA D S ar) (hx:ar[h]? =some x) (hy:(done x=0\/D<done x)->(done y=0\/D<done y)):MA D S (ar.set h y):=by
 intro i z hi hz
 by_cases e:h=i
 ·subst e
  rw[UC hx] at hz
  cases hz
  exact hy (hq h x hi hx)
 ·rw[Xe e] at hz
  exact hq i z hi hz
end Go.Md
namespace Go.Md
open Go.Dn
def nmC:List UInt8:=[97,98,99,100,101,102,103,104,105,106,107,108,109,110,111,112,113,114,115,116,117,118,119,120,121,122,48,49,50,51,52,53,54,55,56,57,45]
def nmB (c:UInt8):Bool:=nmC.contains c
set_option maxRecDepth 100000 in
theorem Ur:∀ n:Fin 256,nmB (UInt8.ofNat n.1)=((decide (97<=n.1)&&decide (n.1<=122))||((decide (48<=n.1)&&decide (n.1<=57))||decide (n.1=45))):=by decide
theorem U1 (c:UInt8):nmB c=((decide (97<=c.toNat)&&decide (c.toNat<=122))||((decide (48<=c.toNat)&&decide (c.toNat<=57))||decide (c.toNat=45))):=by
 have:=Ur ⟨c.toNat,UInt8.toNat_lt c⟩
 simpa using this
theorem yx {α:Type} {p:α->Bool}:∀ {l:List α},l.dropWhile p=[]↔∀ x∈l,p x=true
 | []=>by simp
 | y::r=>by
  cases hp:p y with
  | true=>rw[List.dropWhile_cons_of_pos hp,yx];simp[hp]
  | false=>rw[List.dropWhile_cons_of_neg (by simp[hp])];simp[hp]
theorem HQ {α:Type} {p:α->Bool} {y:α} {r:List α}:∀ {l:List α},l.dropWhile p=y::r->p y=false
 | [],h=>by simp at h
 | z::t,h=>by
  cases hp:p z with
  | true=>rw[List.dropWhile_cons_of_pos hp] at h;exact HQ h
  | false=>rw[List.dropWhile_cons_of_neg (by simp[hp])] at h;cases h;exact hp
theorem Lr (s c:List UInt8):(Lib.trimS s c==[])=s.all (c.contains ·):=by
 rw[Bool.eq_iff_iff]
 simp only[beq_iff_eq,Wv]
 unfold Lib.trimS Lib.trimLeftS Lib.trimRightS
 constructor
 ·intro h
  rw[yx] at h
  cases hd:s.reverse.dropWhile (c.contains ·) with
  | nil=>
   rw[yx] at hd
   intro x hx
   exact hd x (by simpa using hx)
  | cons y r=>
   exfalso
   have h1:=h y (by rw[hd];simp)
   have h2:=HQ hd
   rw[h1] at h2
   cases h2
 ·intro h
  have:s.reverse.dropWhile (c.contains ·)=[]:=yx.2 fun x hx=>h x (by simpa using hx)
  rw[this];rfl
theorem Ll {α:Type} (p:α->Bool) (e:Int) (he:e≠0):∀ (l:List α) (i:Nat),cV (fun _ c=>if p c=true then 0 else e) i l=if l.all p=true then 0 else e
 | [],i=>by simp[cV]
 | y::r,i=>by
  have ih:=Ll p e he r (i+1)
  cases hp:p y with
  | true=>simp only[cV,hp,YS,Wu,Wg];exact ih
  | false=>simp[cV,hp,he]
theorem ux {s:List UInt8} {i:Nat} {c:UInt8} (h:s[i]? =some c):eN s (i:Int)=some c:=by simp[eN,h]
theorem DZ (s:List UInt8):lP s=some (dO s,()):=by
 unfold lP dO eX D2
 by_cases h0:s=[]
 ·subst h0;rfl
 have hb:(s==[])=false:=by simpa using h0
 have hl:0<s.length:=Xq.2 h0
 rw[hb,YF,aI (show ¬((s.length:Int)<1) by omega)]
 by_cases h2:(s.length:Int)>40
 ·rw[aF h2,aF h2];rfl
 rw[aI h2,aI h2]
 have hs:eN s 0=some (s[0]'hl):=ux (i:=0) (aK hl)
 simp only[hs,Yt]
 by_cases h3:(((s[0]'hl).toNat:Int))<97
 ·simp only[aF h3];rfl
 simp only[aI h3]
 by_cases h4:(((s[0]'hl).toNat:Int))>122
 ·simp only[aF h4];rfl
 simp only[aI h4]
 have ht:dV s [97,98,99,100,101,102,103,104,105,106,107,108,109,110,111,112,113,114,115,116,117,118,119,120,121,122,48,49,50,51,52,53,54,55,56,57,45]=some (Lib.trimS s nmC,()):=by
  unfold dV
  rw[show (decide (s.length<=9223372036854775807))=true by simp;omega]
  rfl
 rw[ht,Yt]
 have loop:=Ih (f:=sX) (fun i=>(s,(s.length:Int),(i:Int),())) s (fun _ c=>if nmB c=true then 0 else 1) (some (Sum.inr ())) (fun _=>some (Sum.inl (false,())))
  (fun i c again hi=>by
    have hil:=(Xa.1 hi).1
    unfold sX
    dsimp only
    rw[aF (show (i:Int)<(s.length:Int) by omega),ux hi,Yt,U1 c,aD (by omega) (by omega)]
    by_cases a1:(c.toNat:Int)<97<;>by_cases a2:(c.toNat:Int)>122<;>by_cases a3:(c.toNat:Int)<48<;>by_cases a4:(c.toNat:Int)>57<;>by_cases a5:(c.toNat:Int)=45<;>
      first
      | omega
      | (have b1:(97<=c.toNat)=¬ ((c.toNat:Int)<97):=by simp only[eq_iff_iff];omega
         have b2:(c.toNat<=122)=¬ ((c.toNat:Int)>122):=by simp only[eq_iff_iff];omega
         have b3:(48<=c.toNat)=¬ ((c.toNat:Int)<48):=by simp only[eq_iff_iff];omega
         have b4:(c.toNat<=57)=¬ ((c.toNat:Int)>57):=by simp only[eq_iff_iff];omega
         have b5:(c.toNat=45)=((c.toNat:Int)=45):=by simp only[eq_iff_iff];omega
         simp only[b1,b2,b3,b4,b5,a1,a2,a3,a4,a5,bne,YM,YL,not_true_eq_false,not_false_eq_true,V2,Wg,V0,V3,Bool.or_true,Bool.true_or,Bool.or_false,V7,YG,YF,YS,V4,YP,Int.one_ne_zero,YD,Wd]
         first | rfl | (have a6:((c.toNat:Int)==45)=false:=(by simp only[YB,ne_eq];exact a5);rw[a6];rfl)))
  (fun again=>by
    unfold sX
    dsimp only
    rw[aI (by omega)])
  s 0 (List.length s+(Int.natAbs ((List.length s:Int))+(Int.natAbs (0:Int)+2))) rfl (Ys _) (by omega)
 rw[show ((0:Nat):Int)=0 from rfl] at loop
 rw[loop,Ll nmB 1 (by omega),Lr]
 have e:(s.all fun x=>nmC.contains x)=s.all nmB:=rfl
 rw[e]
 cases s.all nmB<;>rfl
theorem sZ (a b c:Int):lR a b c=some (decide (b<=a/\a<=c),()):=by
 unfold lR
 by_cases h:b<=a
 ·rw[aF h];simp[h]
 ·rw[aI h];simp[h]
theorem O8 (n:Int):BS n=some (decide (1<=n/\n<=3652059),()):=by
 unfold BS GS
 rw[sZ];rfl
theorem DX (d:ah):gT d=some (if -1000000000000000<=d.1/\d.1<=1000000000000000/\0<=d.2/\d.2<=9 then 0 else 1,()):=by
 unfold gT
 rw[sZ,Yt]
 by_cases h1: -1000000000000000<=d.1/\d.1<=1000000000000000
 ·rw[YJ h1]
  simp only[Wd,YF]
  rw[sZ,Yt]
  by_cases h2:0<=d.2/\d.2<=9
  ·rw[YJ h2,YR ⟨h1.1,h1.2,h2⟩];rfl
  ·rw[YI h2,YQ (fun h=>h2 h.2.2)];rfl
 ·rw[YI h1,YQ (fun h=>h1 ⟨h.1,h.2.1⟩)];rfl
theorem QW {a b:ah} (ha:dw a) (hb:dw b):PV a b=some ((qV a - qV b).sign,()):=by
 unfold PV
 have l1:=HD ha
 have l2:=HD hb
 have m1:=J3 (z:=qV a) (by omega)
 have m2:=J3 (z:=qV b) (by omega)
 rw[N3 a ha,Yt,N3 b hb,Yt,Sz _ _ (by omega) (by omega)]
 rfl
instance (d:ah):Decidable (dw d):=by unfold dw;infer_instance
end Go.Md
