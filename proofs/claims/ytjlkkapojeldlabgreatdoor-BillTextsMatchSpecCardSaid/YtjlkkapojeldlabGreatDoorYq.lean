/-
  Plain facts, small ones. No condition.
-/
import Derived.Test.YtjlkkapojeldlabGreatDoorYp
import Derived.Test.YtjlkkapojeldlabGreatDoorYm
set_option linter.all false
namespace Go.Md
open Go.Dn
structure vV {α:Type} (k:α->Int) (l l':List α):Prop where
 perm:l.Perm l'
 keys:∀ v,l'.filter (fun x=>k x==v)=l.filter (fun x=>k x==v)
theorem vV.refl {α:Type} (k:α->Int) (l:List α):vV k l l:=⟨List.Perm.refl _,fun _=>rfl⟩
theorem vV.trans {α:Type} {k:α->Int} {a b c:List α} (h:vV k a b) (g:vV k b c):vV k a c:=⟨h.perm.trans g.perm,fun v=>(g.keys v).trans (h.keys v)⟩
theorem vV.append {α:Type} {k:α->Int} {a b c d:List α} (h:vV k a b) (g:vV k c d):vV k (a++c) (b++d):=
 ⟨h.perm.append g.perm,fun v=>by rw[List.filter_append,List.filter_append,h.keys,g.keys]⟩
theorem vV.mem {α:Type} {k:α->Int} {a b:List α} (h:vV k a b) {x:α}:x∈b↔x∈a:=h.perm.mem_iff.symm
theorem vV.length {α:Type} {k:α->Int} {a b:List α} (h:vV k a b):b.length=a.length:=h.perm.length_eq.symm
def Srt {α:Type} (k:α->Int) (l:List α):Prop:=l.Pairwise fun x y=>k x<=k y
theorem Srt.append {α:Type} {k:α->Int} {a b:List α} (ha:Srt k a) (hb:Srt k b) (h:∀ x∈a,∀ y∈b,k x<=k y):Srt k (a++b):=ae3.2 ⟨ha,hb,h⟩
theorem Srt.left {α:Type} {k:α->Int} {a b:List α} (h:Srt k (a++b)):Srt k a:=(ae3.1 h).1
theorem Srt.right {α:Type} {k:α->Int} {a b:List α} (h:Srt k (a++b)):Srt k b:=(ae3.1 h).2.1
section
variable {k:Option Nat->Int} {ar:List ay} {ok:Option Nat->Prop}
end
end Go.Md
namespace Go.Md
open Go.Dn
section
variable {k:Option Nat->Int} {ar:List ay} {ok:Option Nat->Prop}
end
end Go.Md
namespace Go.Md
open Go.Dn
theorem Srt.get {α:Type} {k:α->Int} {l:List α} (h:Srt k l) {i j:Nat} (hij:i<=j) (hj:j<l.length):k (l[i]'(by omega))<=k l[j]:=by
 rcases Nat.lt_or_eq_of_le hij with h1 | h1
 ·exact List.pairwise_iff_getElem.1 h i j (by omega) hj h1
 ·subst h1;exact Int.le_refl _
section
variable {k:Option Nat->Int} {ar:List ay} {ok:Option Nat->Prop}
end
end Go.Md
namespace Go.Md
open Go.Dn
section
variable {k:Option Nat->Int} {ar:List ay} {ok:Option Nat->Prop}
end
end Go.Md
namespace Go.Md
open Go.Dn
def ChS {α:Type} (k:α->Int) (bs:Nat) (l:List α):Prop:=∀ j:Nat,Srt k ((l.drop (j*bs)).take bs)
theorem ChS.nil {α:Type} (k:α->Int) (bs:Nat):ChS k bs []:=fun _=>by simp[Srt]
theorem ChS.snoc {α:Type} {k:α->Int} {bs:Nat} {A S:List α} {j:Nat} (h:ChS k bs A) (hA:A.length=j*bs) (hS:Srt k S) (hl:S.length<=bs):ChS k bs (A++S):=by
 intro i
 rcases afz i j with hij | hij | hij
 ·have h1:(i+1)*bs<=j*bs:=afB _ hij
  rw[afi,Nat.one_mul] at h1
  rw[List.drop_append_of_le_length (by omega),List.take_append_of_le_length (by rw[aeA];omega)]
  exact h i
 ·subst hij
  rw[<- hA,ad3,afd hl]
  exact hS
 ·have h1:(j+1)*bs<=i*bs:=afB _ hij
  rw[afi,Nat.one_mul] at h1
  rw[ad4 (by rw[aey];omega)]
  simp[Srt]
theorem ChS.drop {α:Type} {k:α->Int} {bs:Nat} {l:List α} (h:ChS k bs l) (i:Nat):ChS k bs (l.drop (i*bs)):=by
 intro j
 rw[ad0, <- afi]
 exact h (i+j)
theorem Srt.take {α:Type} {k:α->Int} {l:List α} (h:Srt k l) (n:Nat):Srt k (l.take n):=by
 rw[<- afa n l] at h;exact h.left
section
variable {k:Option Nat->Int} {ar:List ay} {ok:Option Nat->Prop}
end
end Go.Md
namespace Go.Md
open Go.Dn
def gC {α:Type} (g:Nat->α->Int):Nat->List α->Int
 | _,[]=>0
 | i,y::r=>if g i y=0 then gC g (i+1) r else g i y
theorem sM {α:Type} {g:Nat->α->Int}:∀ {l:List α} {i:Nat},gC g i l=0->∀ j y,l[j]? =some y->g (i+j) y=0
 | [],_,_,_,_,h=>by simp at h
 | y::r,i,h,j,z,hz=>by
  simp only[gC] at h
  by_cases hg:g i y=0
  ·rw[af9 hg] at h
   cases j with
   | zero=>simp at hz;subst hz;exact hg
   | succ j=>have:=sM h j z (by simpa using hz);rw[show i+(j+1)=i+1+j by omega];exact this
  ·rw[af8 hg] at h;exact absurd h hg
theorem Qd {X α:Type} {γ:Type} {f:X->(X->Option ((Int×Unit) ⊕ γ))->Option ((Int×Unit) ⊕ γ)} (mk:Nat->X) (l:List α) (g:Nat->α->Int) (u:γ) (hstep:∀ i y again,l[i]? =some y->f (mk i) again=if g i y=0 then again (mk (i+1)) else some (Sum.inl (g i y,()))) (hend:∀ again,f (mk l.length) again=some (Sum.inr u)): ∀ (r:List α) (i n:Nat),l.drop i=r->i<=l.length->r.length<n->iter n (mk i) f=if gC g i r=0 then some (Sum.inr u) else some (Sum.inl (gC g i r,()))
 | _,_,0,_,_,hn=>absurd hn (afE _)
 | [],i,n+1,hd,hi,_=>by
  have:i=l.length:=by
   have:=congrArg List.length hd
   simp at this;omega
  subst this
  rw[og,hend];rfl
 | y::r,i,n+1,hd,hi,hn=>by
  have hy:l[i]? =some y:=by
   have:=congrArg (·[0]?) hd
   simpa [aek] using this
  have hr:l.drop (i+1)=r:=by
   have:=congrArg List.tail hd
   simpa [List.tail_drop] using this
  have hi':i<l.length:=(aen.1 hy).1
  rw[og,hstep i y _ hy]
  by_cases hg:g i y=0
  ·have e:gC g i (y::r)=gC g (i+1) r:=by simp[gC,hg]
   rw[af9 hg,e]
   exact Qd mk l g u hstep hend r (i+1) n hr hi' (by simp at hn;omega)
  ·have e:gC g i (y::r)=g i y:=by simp[gC,hg]
   rw[af8 hg,e,af8 hg]
theorem kP (a b c:Int):cK a b c=some (decide (a<b\/c<a),()):=by
 unfold cK
 by_cases h:a<b
 ·rw[aI h];simp[h]
 ·rw[aM h];simp[h]
theorem SX (n:Int):vG n=some (decide (1<=n/\n<=3652059),()):=by
 unfold vG
 rw[kP,afJ]
 congr 2
 simp only[<- decide_not]
 congr 1
 simp only[af4];omega
def eG (s:Bys):Bool:=((eA s).map (·.1)).getD false
theorem Aj (s:Bys):eA s=some (eG s,()):=by
 have:∃ b,eA s=some (b,()):=by
  unfold eA
  by_cases h1:(s.length:Int)<1
  ·rw[aI h1];exact⟨_,rfl⟩
  ·rw[aM h1]
   by_cases h2:(s.length:Int)>40
   ·rw[aI h2];exact⟨_,rfl⟩
   ·rw[aM h2]
    have hs:iS s 0=some (s[0]'(by omega)):=by simp[iS]
    rw[hs]
    simp only[afJ]
    have ht:fV s [97,98,99,100,101,102,103,104,105,106,107,108,109,110,111,112,113,114,115,116,117,118,119,120,121,122,48,49,50,51,52,53,54,55,56,57,45]=some (Lib.trimS s [97,98,99,100,101,102,103,104,105,106,107,108,109,110,111,112,113,114,115,116,117,118,119,120,121,122,48,49,50,51,52,53,54,55,56,57,45],()):=by
     unfold fV
     rw[show (decide (s.length<=9223372036854775807))=true by simp;omega]
     rfl
    rw[ht]
    simp only[afJ]
    generalize (decide ((((s[0]'(by omega)).toNat:Int))<97))=b1
    generalize (decide ((((s[0]'(by omega)).toNat:Int))>122))=b2
    cases b1<;>cases b2<;>exact⟨_,rfl⟩
 obtain⟨b,hb⟩:=this
 unfold eG
 rw[hb];rfl
theorem C8 (d:ah):b8 d=some (if -1000000000000000<=d.1/\d.1<=1000000000000000/\0<=d.2/\d.2<=9 then 0 else 1,()):=by
 unfold b8
 rw[kP,afJ,kP]
 simp only[afJ]
 by_cases h1:d.1< -1000000000000000\/1000000000000000<d.1
 ·rw[aI h1,af8 (by omega)]
 ·rw[aM h1]
  by_cases h2:d.2<0\/9<d.2
  ·rw[aI h2,af8 (by omega)]
  ·rw[aM h2,af9 (by omega)]
theorem aay {n:Nat} (h:n<=18):(10:Int) ^ n<=1000000000000000000:=by
 have:=afF (n:=10) (by omega) h
 have h2:=Int.ofNat_le.2 this
 simpa using h2
theorem qS (n:Nat):(0:Int)<10 ^ n:=Ma (by omega) n
theorem Gk (n:Int) (h0:0<=n) (h1:n<=18):rY n=some (10 ^ n.toNat,()):=by
 obtain⟨m,rfl⟩:∃ m:Nat,n=m:=⟨n.toNat,by omega⟩
 unfold rY
 have:iter (X:=ux) (β:=uw) (Int.natAbs (1:Int)+(Int.natAbs (m:Int)+(Int.natAbs (0:Int)+2))) (1,(m:Int),0,()) uv=some (Sum.inr (10 ^ m,())):=by
  refine dG (Inv:=fun i x=>x=(10 ^ i,(m:Int),(i:Int),())) m (fun r=>r=some (Sum.inr (10 ^ m,()))) ?_ ?_ _ 0 _ (by simp) (by omega) (by omega)
  ·rintro i _ again hi rfl ih
   unfold uv
   dsimp only
   have h10:=aay (n:=i+1) (by omega)
   have hp:=qS (i+1)
   rw[adK] at h10 hp
   rw[aI (by omega),aK (by omega) (by omega),aK (by omega) (by omega)]
   exact ih _ (by rw[adK];rfl)
  ·rintro _ again rfl
   unfold uv
   dsimp only
   rw[aM (by omega)]
 rw[this,aU]
 simp
theorem Mw (d:ah) (most:Int) (h0:0<=d.2) (h1:d.2<=9) (hm0:0<=most) (hm1:most<=1000000000):dR d most=some (decide (-(most*10 ^ d.2.toNat)<=d.1/\d.1<=most*10 ^ d.2.toNat),()):=by
 unfold dR
 rw[Gk _ h0 (by omega),afJ]
 dsimp only
 have hp:=qS d.2.toNat
 have hq:(10:Int) ^ d.2.toNat<=1000000000:=by
  have:=afF (n:=10) (by omega) (show d.2.toNat<=9 by omega)
  have h2:=Int.ofNat_le.2 this
  simpa using h2
 have h3:most*10 ^ d.2.toNat<=1000000000*1000000000:=by
  have a1:most*10 ^ d.2.toNat<=1000000000*10 ^ d.2.toNat:=adF hm1 (by omega)
  omega
 have h4:0<=most*10 ^ d.2.toNat:=adG hm0 (by omega)
 rw[aK (n:=most*10 ^ d.2.toNat) (by omega) (by omega),aK (by omega) (by omega),kP,afJ]
 congr 2
 simp only[<- decide_not]
 congr 1
 simp only[af4];omega
def Cr (d:ah):Prop:=0<d.1/\0<=d.2/\d.2<=4/\d.1<=1000000000*10 ^ d.2.toNat
instance (d:ah):Decidable (Cr d):=by unfold Cr;exact inferInstance
structure abN (d:cL):Prop where
 day0:1<=d.2.1
 day1:d.2.1<=3652059
 mon:Cr d.2.2.1
 days0:0<=d.2.2.2.1
 days1:d.2.2.2.1<=10000
 with0:0<=d.2.2.2.2.1
 with1:d.2.2.2.2.1<=d.2.2.2.1
 disc0:0<=d.2.2.2.2.2
 disc1:d.2.2.2.2.2<=1000
structure ac2 (p:cy):Prop where
 day0:1<=p.1
 day1:p.1<=3652059
 mon:Cr p.2.1
 names:p.2.2.length<=100
end Go.Md
namespace Go.Md
open Go.Dn
def Jw (d:ah):Int:=d.1*10 ^ (4 - d.2).toNat
theorem Cr.Jw {d:ah} (h:Cr d):0<Jw d/\Jw d<=10000000000000:=by
 obtain⟨h1,h2,h3,h4⟩:=h
 unfold Md.Jw
 have hp:=qS (4 - d.2).toNat
 refine⟨Int.mul_pos h1 hp, ?_⟩
 have a1:d.1*10 ^ (4 - d.2).toNat<=1000000000*10 ^ d.2.toNat*10 ^ (4 - d.2).toNat:=adF h4 (by omega)
 rw[adD, <- adJ,show d.2.toNat+(4 - d.2).toNat=4 by omega] at a1
 omega
abbrev Bd:=ay
def Xi (x:Bd):Int:=x.2.1
def Xn (x:Bd):Int:=x.2.2.1
def taken (x:Bd):Int:=x.2.2.2.1
def done (x:Bd):Int:=x.2.2.2.2
structure RH (x:Bd):Prop where
 d:abN x.1
 owes0:0<=Xi x
 paid0:0<=Xn x
 taken0:0<=taken x
 sum:Xi x+Xn x+taken x=Jw x.1.2.2.1
 none:done x=0->taken x=0
 done0:done x=0\/x.1.2.1<=done x
 iff:Xi x=0↔done x≠0
theorem RH.le {x:Bd} (h:RH x):Xi x<=10000000000000/\Xn x<=10000000000000/\taken x<=10000000000000:=by
 have:=h.d.mon.Jw;have:=h.sum;have:=h.owes0;have:=h.paid0;have:=h.taken0;omega
section
variable {ar:List Bd} {h:Nat} {x:Bd}
theorem abG {α:Type} {l:List α} {i:Nat} {x y:α} (h:l[i]? =some x):(l.set i y)[i]? =some y:=aes (aen.1 h).1
end
end Go.Md
namespace Go.Md
open Go.Dn
structure jR (ds:List cL) (ar:List Bd):Prop where
 ds:ar.map (·.1)=ds
 ok:∀ x∈ar,RH x
theorem jR.len {ds:List cL} {ar:List Bd} (h:jR ds ar):ar.length=ds.length:=by rw[<- h.ds];simp
theorem jR.set {ds:List cL} {ar:List Bd} (h:jR ds ar) {i:Nat} {x y:Bd} (hx:ar[i]? =some x) (hy:RH y) (he:y.1=x.1):jR ds (ar.set i y):=by
 refine⟨?_,fun z hz=> ?_⟩
 ·rw[List.map_set,he, <- h.ds]
  apply ad9
  intro j
  by_cases hj:i=j
  ·subst hj
   rw[aes (by simp;exact (aen.1 hx).1),aeo,hx];rfl
  ·rw[aer hj]
 ·rcases aeW hz with hz | rfl
  ·exact h.ok z hz
  ·exact hy
theorem jR.get {ds:List cL} {ar:List Bd} (h:jR ds ar) {i:Nat} {x:Bd} (hx:ar[i]? =some x):RH x:=h.ok x (aeU hx)
def abI (ar:List Bd):Int:=(ar.map Xn).sum
structure ac4 (ds:List cL) (L T:Int) (s:Int×List Bd):Prop where
 ar:jR ds s.2
 l0:0<=s.1
 l1:s.1<=L
 tot:s.1+abI s.2=T
end Go.Md
namespace Go.Md
open Go.Dn
def few:Nat->Int->Int×Nat
 | 0,z=>(z,0)
 | p+1,z=>if z % 10=0 then few p (z / 10) else (z,p+1)
theorem DM (z:Int) (p:Int):mT (W z) p=some (if z.natAbs<=1000000000000000 then ((z,p),0,()) else ((0,0),1,())):=by
 unfold mT
 rw[Mj z 1000000000000000 (by omega) (by omega),afJ]
 by_cases h:(z.natAbs:Int)<=1000000000000000
 ·rw[af9 h,af9 (by omega)];rfl
 ·rw[af8 h,af8 (by omega)];rfl
def lM (d:ah):Int:=d.1*10 ^ (9 - d.2).toNat
def bY (d:ah):Prop:=d.1.natAbs<=1000000000000000/\0<=d.2/\d.2<=9
theorem Cr.dec {d:ah} (h:Cr d):bY d:=by
 obtain⟨h1,h2,h3,h4⟩:=h
 have hq:(10:Int) ^ d.2.toNat<=10000:=by
  have:=afF (n:=10) (by omega) (show d.2.toNat<=4 by omega)
  have h2:=Int.ofNat_le.2 this
  simpa using h2
 exact⟨by omega,h2,by omega⟩
theorem O9 {z:Int} (h:z.natAbs<1000000000000000000000000000000000000000000000000000000000000):(dg6 z.natAbs).length<=10:=Vq (k:=10) (by simpa using h)
theorem U7 (n:Nat) (hn:n<=40):FV (n:Int)=some (N (10 ^ n),()):=by
 unfold FV
 rw[Mc 1 (by omega) (by omega),afJ]
 dsimp only
 have hb:∀ i:Nat,i<=41->(dg6 ((10:Int) ^ i).natAbs).length<=10:=by
  intro i hi
  refine O9 ?_
  have h1:((10:Int) ^ i).natAbs=10 ^ i:=by rw[Int.natAbs_pow];rfl
  have h2:=afF (n:=10) (by omega) hi
  omega
 have loop:iter (X:=yT) (β:=yS) (Int.natAbs (n:Int)+(Int.natAbs (0:Int)+(List.length ([]:List Int)+(List.length (N 1).2+2)))) ((n:Int),0,false,[],(N 1).1,(N 1).2,()) yR=some (Sum.inr (false,[],(N (10 ^ n)).1,(N (10 ^ n)).2,())):=by
  refine dG (Inv:=fun i x=>x=((n:Int),(i:Int),false,[],(N (10 ^ i)).1,(N (10 ^ i)).2,())) n (fun r=>r=some (Sum.inr (false,[],(N (10 ^ n)).1,(N (10 ^ n)).2,()))) ?_ ?_ _ 0 _ (by simp) (by omega) (by omega)
  ·rintro i _ again hi rfl ih
   unfold yR
   dsimp only
   rw[aI (by omega),Mc 10 (by omega) (by omega),afJ]
   change (Option.bind (sG (N (10 ^ i)) (N 10)) _)=_
   have h10:(dg6 (10:Int).natAbs).length<=10:=O9 (by decide)
   rw[GC _ _ (by have:=hb i (by omega);omega) (by omega),afJ]
   dsimp only
   rw[aK (by omega) (by omega)]
   exact ih _ (by rw[adK];rfl)
  ·rintro _ again rfl
   unfold yR
   dsimp only
   rw[aM (by omega)]
 rw[loop,aU]
theorem TA (d:ah) (hd:bY d):NC d 9=some (N (lM d),()):=by
 obtain⟨h1,h2,h3⟩:=hd
 unfold NC
 rw[Mc _ (by omega) (by omega),afJ,aK (by omega) (by omega)]
 dsimp only
 obtain⟨m,hm⟩:∃ m:Nat,9 - d.2=m:=⟨(9 - d.2).toNat,by omega⟩
 rw[hm,U7 m (by omega),afJ]
 dsimp only
 have hl1:(dg6 d.1.natAbs).length<=10:=O9 (by omega)
 have hl2:(dg6 ((10:Int) ^ m).natAbs).length<=10:=by
  refine O9 ?_
  have h1:((10:Int) ^ m).natAbs=10 ^ m:=by rw[Int.natAbs_pow];rfl
  have h2:=afF (n:=10) (by omega) (show m<=9 by omega)
  omega
 rw[GC _ _ (by omega) (by omega),afJ]
 unfold lM
 rw[hm];rfl
theorem MM {d:ah} (hd:bY d):(lM d).natAbs<=1000000000000000000000000:=by
 obtain⟨h1,h2,h3⟩:=hd
 unfold lM
 rw[Int.natAbs_mul,Int.natAbs_pow]
 have h4:=afF (n:=10) (by omega) (show (9 - d.2).toNat<=9 by omega)
 have h5:d.1.natAbs*(10:Int).natAbs ^ (9 - d.2).toNat<=1000000000000000*1000000000:=Nat.mul_le_mul h1 (by simpa using h4)
 omega
end Go.Md
namespace Go.Md
open Go.Dn
end Go.Md
namespace Go.Md
open Go.Dn
def wB (day:Int) (x:Bd):Int:=max 0 (day - (x.1.2.1+x.1.2.2.2.1))
end Go.Md
namespace Go.Md
open Go.Dn
theorem Nh {X α B:Type} {f:X->(X->Option B)->Option B} (mk:Nat->X) (l:List α) (g:Nat->α->Int) (fin:Option B) (out:Int->Option B) (hstep:∀ i y again,l[i]? =some y->f (mk i) again=if g i y=0 then again (mk (i+1)) else out (g i y)) (hend:∀ again,f (mk l.length) again=fin): ∀ (r:List α) (i n:Nat),l.drop i=r->i<=l.length->r.length<n->iter n (mk i) f=if gC g i r=0 then fin else out (gC g i r)
 | _,_,0,_,_,hn=>absurd hn (afE _)
 | [],i,n+1,hd,hi,_=>by
  have:i=l.length:=by
   have:=congrArg List.length hd
   simp at this;omega
  subst this
  rw[og,hend];rfl
 | y::r,i,n+1,hd,hi,hn=>by
  have hy:l[i]? =some y:=by
   have:=congrArg (·[0]?) hd
   simpa [aek] using this
  have hr:l.drop (i+1)=r:=by
   have:=congrArg List.tail hd
   simpa [List.tail_drop] using this
  have hi':i<l.length:=(aen.1 hy).1
  rw[og,hstep i y _ hy]
  by_cases hg:g i y=0
  ·have e:gC g i (y::r)=gC g (i+1) r:=by simp[gC,hg]
   rw[af9 hg,e]
   exact Nh mk l g fin out hstep hend r (i+1) n hr hi' (by simp at hn;omega)
  ·have e:gC g i (y::r)=g i y:=by simp[gC,hg]
   rw[af8 hg,e,af8 hg]
end Go.Md
namespace Go.Md
open Go.Dn
def RN (D:Int) (S:Nat->Prop) (ar:List Bd):Prop:=∀ i x,S i->ar[i]? =some x->done x=0\/D<done x
theorem RN.set {D:Int} {S:Nat->Prop} {ar:List Bd} {h:Nat} {x y:Bd} (hq:RN D S ar) (hx:ar[h]? =some x) (hy:(done x=0\/D<done x)->(done y=0\/D<done y)):RN D S (ar.set h y):=by
 intro i z hi hz
 by_cases e:h=i
 ·subst e
  rw[abG hx] at hz
  cases hz
  exact hy (hq h x hi hx)
 ·rw[aer e] at hz
  exact hq i z hi hz
end Go.Md
namespace Go.Md
open Go.Dn
def nmC:Bys:=[97,98,99,100,101,102,103,104,105,106,107,108,109,110,111,112,113,114,115,116,117,118,119,120,121,122,48,49,50,51,52,53,54,55,56,57,45]
def nmB (c:UInt8):Bool:=nmC.contains c
set_option maxRecDepth 100000 in
theorem abl:∀ n:Fin 256,nmB (UInt8.ofNat n.1)=((decide (97<=n.1)&&decide (n.1<=122))||((decide (48<=n.1)&&decide (n.1<=57))||decide (n.1=45))):=by decide
theorem ab3 (c:UInt8):nmB c=((decide (97<=c.toNat)&&decide (c.toNat<=122))||((decide (48<=c.toNat)&&decide (c.toNat<=57))||decide (c.toNat=45))):=by
 have:=abl ⟨c.toNat,UInt8.toNat_lt c⟩
 simpa using this
theorem CD {α:Type} {p:α->Bool}:∀ {l:List α},l.dropWhile p=[]↔∀ x∈l,p x=true
 | []=>by simp
 | y::r=>by
  cases hp:p y with
  | true=>rw[List.dropWhile_cons_of_pos hp,CD];simp[hp]
  | false=>rw[List.dropWhile_cons_of_neg (by simp[hp])];simp[hp]
theorem MV {α:Type} {p:α->Bool} {y:α} {r:List α}:∀ {l:List α},l.dropWhile p=y::r->p y=false
 | [],h=>by simp at h
 | z::t,h=>by
  cases hp:p z with
  | true=>rw[List.dropWhile_cons_of_pos hp] at h;exact MV h
  | false=>rw[List.dropWhile_cons_of_neg (by simp[hp])] at h;cases h;exact hp
theorem QB (s c:Bys):(Lib.trimS s c==[])=s.all (c.contains ·):=by
 rw[Bool.eq_iff_iff]
 simp only[beq_iff_eq,adQ]
 unfold Lib.trimS Lib.trimLeftS Lib.trimRightS
 constructor
 ·intro h
  rw[CD] at h
  cases hd:s.reverse.dropWhile (c.contains ·) with
  | nil=>
   rw[CD] at hd
   intro x hx
   exact hd x (by simpa using hx)
  | cons y r=>
   exfalso
   have h1:=h y (by rw[hd];simp)
   have h2:=MV hd
   rw[h1] at h2
   cases h2
 ·intro h
  have:s.reverse.dropWhile (c.contains ·)=[]:=CD.2 fun x hx=>h x (by simpa using hx)
  rw[this];rfl
theorem Qy {α:Type} (p:α->Bool) (e:Int) (he:e≠0):∀ (l:List α) (i:Nat),gC (fun _ c=>if p c=true then 0 else e) i l=if l.all p=true then 0 else e
 | [],i=>by simp[gC]
 | y::r,i=>by
  have ih:=Qy p e he r (i+1)
  cases hp:p y with
  | true=>simp only[gC,hp,aga,adP,ady];exact ih
  | false=>simp[gC,hp,he]
theorem F6 {s:Bys} {i:Nat} {c:UInt8} (h:s[i]? =some c):iS s (i:Int)=some c:=by simp[iS,h]
theorem BQ (s:Bys):kJ s=some (eG s,()):=by
 unfold kJ eG eA IY
 by_cases h0:s=[]
 ·subst h0;rfl
 have hb:(s==[])=false:=by simpa using h0
 have hl:0<s.length:=aeD.2 h0
 rw[hb,afW,aM (show ¬((s.length:Int)<1) by omega)]
 by_cases h2:(s.length:Int)>40
 ·rw[aI h2,aI h2];rfl
 rw[aM h2,aM h2]
 have hs:iS s 0=some (s[0]'hl):=F6 (i:=0) (aP hl)
 simp only[hs,afJ]
 by_cases h3:(((s[0]'hl).toNat:Int))<97
 ·simp only[aI h3];rfl
 simp only[aM h3]
 by_cases h4:(((s[0]'hl).toNat:Int))>122
 ·simp only[aI h4];rfl
 simp only[aM h4]
 have ht:fV s [97,98,99,100,101,102,103,104,105,106,107,108,109,110,111,112,113,114,115,116,117,118,119,120,121,122,48,49,50,51,52,53,54,55,56,57,45]=some (Lib.trimS s nmC,()):=by
  unfold fV
  rw[show (decide (s.length<=9223372036854775807))=true by simp;omega]
  rfl
 rw[ht,afJ]
 have loop:=Nh (f:=wT) (fun i=>(s,(s.length:Int),(i:Int),())) s (fun _ c=>if nmB c=true then 0 else 1) (some (Sum.inr ())) (fun _=>some (Sum.inl (false,())))
  (fun i c again hi=>by
    have hil:=(aen.1 hi).1
    unfold wT
    dsimp only
    rw[aI (show (i:Int)<(s.length:Int) by omega),F6 hi,afJ,ab3 c,aK (by omega) (by omega)]
    by_cases a1:(c.toNat:Int)<97<;>by_cases a2:(c.toNat:Int)>122<;>by_cases a3:(c.toNat:Int)<48<;>by_cases a4:(c.toNat:Int)>57<;>by_cases a5:(c.toNat:Int)=45<;>
      first
      | omega
      | (have b1:(97<=c.toNat)=¬ ((c.toNat:Int)<97):=by simp only[af4];omega
         have b2:(c.toNat<=122)=¬ ((c.toNat:Int)>122):=by simp only[af4];omega
         have b3:(48<=c.toNat)=¬ ((c.toNat:Int)<48):=by simp only[af4];omega
         have b4:(c.toNat<=57)=¬ ((c.toNat:Int)>57):=by simp only[af4];omega
         have b5:(c.toNat=45)=((c.toNat:Int)=45):=by simp only[af4];omega
         simp only[b1,b2,b3,b4,b5,a1,a2,a3,a4,a5,bne,af3,af2,not_true_eq_false,not_false_eq_true,adm,ady,adk,adn,Bool.or_true,Bool.true_or,Bool.or_false,adq,afX,afW,aga,ado,af7,Int.one_ne_zero,afU,adv]
         first | rfl | (have a6:((c.toNat:Int)==45)=false:=(by simp only[afS,ne_eq];exact a5);rw[a6];rfl)))
  (fun again=>by
    unfold wT
    dsimp only
    rw[aM (by omega)])
  s 0 (List.length s+(Int.natAbs ((List.length s:Int))+(Int.natAbs (0:Int)+2))) rfl (afI _) (by omega)
 rw[show ((0:Nat):Int)=0 from rfl] at loop
 rw[loop,Qy nmB 1 (by omega),QB]
 have e:(s.all fun x=>nmC.contains x)=s.all nmB:=rfl
 rw[e]
 cases s.all nmB<;>rfl
theorem wU (a b c:Int):vK a b c=some (decide (b<=a/\a<=c),()):=by
 unfold vK
 by_cases h:b<=a
 ·rw[aI h];simp[h]
 ·rw[aM h];simp[h]
theorem GB (a b c:Int):kE a b c=some (decide (b<=a/\a<=c),()):=wU a b c
theorem UX (n:Int):FT n=some (decide (1<=n/\n<=3652059),()):=by
 unfold FT Me
 rw[wU];rfl
theorem zL (d:ah):iK d=some (if -1000000000000000<=d.1/\d.1<=1000000000000000/\0<=d.2/\d.2<=9 then 0 else 1,()):=by
 unfold iK
 rw[wU,afJ]
 by_cases h1: -1000000000000000<=d.1/\d.1<=1000000000000000
 ·rw[af0 h1]
  simp only[adv,afW]
  rw[wU,afJ]
  by_cases h2:0<=d.2/\d.2<=9
  ·rw[af0 h2,af9 ⟨h1.1,h1.2,h2⟩];rfl
  ·rw[afZ h2,af8 (fun h=>h2 h.2.2)];rfl
 ·rw[afZ h1,af8 (fun h=>h1 ⟨h.1,h.2.1⟩)];rfl
theorem NB {a b:ah} (ha:bY a) (hb:bY b):Ev a b=some ((lM a - lM b).sign,()):=by
 unfold Ev
 have l1:=MM ha
 have l2:=MM hb
 have m1:=O9 (z:=lM a) (by omega)
 have m2:=O9 (z:=lM b) (by omega)
 rw[TA a ha,afJ,TA b hb,afJ,Zi _ _ (by omega) (by omega)]
 rfl
instance (d:ah):Decidable (bY d):=by unfold bY;infer_instance
theorem UW (d:ah) (lo hi pl:Int) (hlo:lo.natAbs<=1000000000000000) (hhi:hi.natAbs<=1000000000000000):jb d lo hi pl=some (decide (bY d/\d.2<=pl/\lo*10 ^ 9<=lM d/\lM d<=hi*10 ^ 9),()):=by
 unfold jb
 rw[zL,afJ]
 have hd:bY d↔(-1000000000000000<=d.1/\d.1<=1000000000000000/\0<=d.2/\d.2<=9):=by unfold bY;omega
 have z:∀ n:Int,n.natAbs<=1000000000000000->bY (n,0)/\lM (n,0)=n*10 ^ 9:=fun n hn=>⟨⟨hn,by simp,by simp⟩,by simp[lM]⟩
 by_cases h1:bY d
 ·rw[af9 (hd.1 h1)]
  dsimp only
  rw[show ((0:Int)==0)=true from rfl,afX]
  by_cases h2:d.2<=pl
  ·rw[aI h2,NB h1 (z lo hlo).1,afJ,(z lo hlo).2]
   dsimp only
   by_cases h3:lo*10 ^ 9<=lM d
   ·rw[aI (by rw[ge_iff_le,Int.sign_nonneg_iff];omega),NB h1 (z hi hhi).1,afJ,(z hi hhi).2]
    have:((lM d - hi*10 ^ 9).sign<=0)=(bY d/\d.2<=pl/\lo*10 ^ 9<=lM d/\lM d<=hi*10 ^ 9):=by
     rw[Int.sign_nonpos_iff,af4]
     constructor
     ·intro h;exact⟨h1,h2,h3,by omega⟩
     ·intro h;omega
    simp only[this]
   ·rw[aM (by rw[ge_iff_le,Int.sign_nonneg_iff];omega),afZ (fun h=>h3 h.2.2.1)]
  ·rw[aM h2,afZ (fun h=>h2 h.2.1)]
 ·rw[af8 (fun h=>h1 (hd.2 h)),afZ (p:=bY d/\d.2<=pl/\lo*10 ^ 9<=lM d/\lM d<=hi*10 ^ 9) (fun h=>h1 h.1)];rfl
end Go.Md
