/-
  Plain facts, small ones. No condition.
-/
import Derived.Test.YtjlkkapojeldlabGreatDoorYp
import Derived.Test.YtjlkkapojeldlabGreatDoorYm
set_option linter.all false
namespace Go.Md
open Go.Dn
structure uZ {α:Type} (k:α->Int) (l l':List α):Prop where
 perm:l.Perm l'
 keys:∀ v,l'.filter (fun x=>k x==v)=l.filter (fun x=>k x==v)
theorem uZ.refl {α:Type} (k:α->Int) (l:List α):uZ k l l:=⟨List.Perm.refl _,fun _=>rfl⟩
theorem uZ.trans {α:Type} {k:α->Int} {a b c:List α} (h:uZ k a b) (g:uZ k b c):uZ k a c:=⟨h.perm.trans g.perm,fun v=>(g.keys v).trans (h.keys v)⟩
theorem uZ.append {α:Type} {k:α->Int} {a b c d:List α} (h:uZ k a b) (g:uZ k c d):uZ k (a++c) (b++d):=
 ⟨h.perm.append g.perm,fun v=>by rw[List.filter_append,List.filter_append,h.keys,g.keys]⟩
theorem uZ.mem {α:Type} {k:α->Int} {a b:List α} (h:uZ k a b) {x:α}:x∈b↔x∈a:=h.perm.mem_iff.symm
theorem uZ.length {α:Type} {k:α->Int} {a b:List α} (h:uZ k a b):b.length=a.length:=h.perm.length_eq.symm
def Srt {α:Type} (k:α->Int) (l:List α):Prop:=l.Pairwise fun x y=>k x<=k y
theorem Srt.append {α:Type} {k:α->Int} {a b:List α} (ha:Srt k a) (hb:Srt k b) (h:∀ x∈a,∀ y∈b,k x<=k y):Srt k (a++b):=aaI.2 ⟨ha,hb,h⟩
theorem Srt.left {α:Type} {k:α->Int} {a b:List α} (h:Srt k (a++b)):Srt k a:=(aaI.1 h).1
theorem Srt.right {α:Type} {k:α->Int} {a b:List α} (h:Srt k (a++b)):Srt k b:=(aaI.1 h).2.1
section
variable {k:Option Nat->Int} {ar:List aq} {ok:Option Nat->Prop}
end
end Go.Md
namespace Go.Md
open Go.Dn
section
variable {k:Option Nat->Int} {ar:List aq} {ok:Option Nat->Prop}
end
end Go.Md
namespace Go.Md
open Go.Dn
theorem Srt.get {α:Type} {k:α->Int} {l:List α} (h:Srt k l) {i j:Nat} (hij:i<=j) (hj:j<l.length):k (l[i]'(by omega))<=k l[j]:=by
 rcases Nat.lt_or_eq_of_le hij with h1 | h1
 ·exact List.pairwise_iff_getElem.1 h i j (by omega) hj h1
 ·subst h1;exact Int.le_refl _
section
variable {k:Option Nat->Int} {ar:List aq} {ok:Option Nat->Prop}
end
end Go.Md
namespace Go.Md
open Go.Dn
section
variable {k:Option Nat->Int} {ar:List aq} {ok:Option Nat->Prop}
end
end Go.Md
namespace Go.Md
open Go.Dn
def ChS {α:Type} (k:α->Int) (bs:Nat) (l:List α):Prop:=∀ j:Nat,Srt k ((l.drop (j*bs)).take bs)
theorem ChS.nil {α:Type} (k:α->Int) (bs:Nat):ChS k bs []:=fun _=>by simp[Srt]
theorem ChS.snoc {α:Type} {k:α->Int} {bs:Nat} {A S:List α} {j:Nat} (h:ChS k bs A) (hA:A.length=j*bs) (hS:Srt k S) (hl:S.length<=bs):ChS k bs (A++S):=by
 intro i
 rcases abm i j with hij | hij | hij
 ·have h1:(i+1)*bs<=j*bs:=abo _ hij
  rw[aaV,Nat.one_mul] at h1
  rw[List.drop_append_of_le_length (by omega),List.take_append_of_le_length (by rw[List.length_drop];omega)]
  exact h i
 ·subst hij
  rw[<- hA,ZK,aaQ hl]
  exact hS
 ·have h1:(j+1)*bs<=i*bs:=abo _ hij
  rw[aaV,Nat.one_mul] at h1
  rw[ZL (by rw[aak];omega)]
  simp[Srt]
theorem ChS.drop {α:Type} {k:α->Int} {bs:Nat} {l:List α} (h:ChS k bs l) (i:Nat):ChS k bs (l.drop (i*bs)):=by
 intro j
 rw[ZI, <- aaV]
 exact h (i+j)
theorem Srt.take {α:Type} {k:α->Int} {l:List α} (h:Srt k l) (n:Nat):Srt k (l.take n):=by
 rw[<- aaO n l] at h;exact h.left
section
variable {k:Option Nat->Int} {ar:List aq} {ok:Option Nat->Prop}
end
end Go.Md
namespace Go.Md
open Go.Dn
def gy {α:Type} (g:Nat->α->Int):Nat->List α->Int
 | _,[]=>0
 | i,y::r=>if g i y=0 then gy g (i+1) r else g i y
theorem zD {α:Type} {g:Nat->α->Int}:∀ {l:List α} {i:Nat},gy g i l=0->∀ j y,l[j]? =some y->g (i+j) y=0
 | [],_,_,_,_,h=>by simp at h
 | y::r,i,h,j,z,hz=>by
  simp only[gy] at h
  by_cases hg:g i y=0
  ·rw[abY hg] at h
   cases j with
   | zero=>simp at hz;subst hz;exact hg
   | succ j=>have:=zD h j z (by simpa using hz);rw[show i+(j+1)=i+1+j by omega];exact this
  ·rw[abX hg] at h;exact absurd h hg
theorem Np {X α:Type} {γ:Type} {f:X->(X->Option ((Int×Unit) ⊕ γ))->Option ((Int×Unit) ⊕ γ)} (mk:Nat->X) (l:List α) (g:Nat->α->Int) (u:γ) (hstep:∀ i y again,l[i]? =some y->f (mk i) again=if g i y=0 then again (mk (i+1)) else some (Sum.inl (g i y,()))) (hend:∀ again,f (mk l.length) again=some (Sum.inr u)): ∀ (r:List α) (i n:Nat),l.drop i=r->i<=l.length->r.length<n->iter n (mk i) f=if gy g i r=0 then some (Sum.inr u) else some (Sum.inl (gy g i r,()))
 | _,_,0,_,_,hn=>absurd hn (abt _)
 | [],i,n+1,hd,hi,_=>by
  have:i=l.length:=by
   have:=congrArg List.length hd
   simp at this;omega
  subst this
  rw[n6,hend];rfl
 | y::r,i,n+1,hd,hi,hn=>by
  have hy:l[i]? =some y:=by
   have:=congrArg (·[0]?) hd
   simpa [Z6] using this
  have hr:l.drop (i+1)=r:=by
   have:=congrArg List.tail hd
   simpa [List.tail_drop] using this
  have hi':i<l.length:=(Z9.1 hy).1
  rw[n6,hstep i y _ hy]
  by_cases hg:g i y=0
  ·have e:gy g i (y::r)=gy g (i+1) r:=by simp[gy,hg]
   rw[abY hg,e]
   exact Np mk l g u hstep hend r (i+1) n hr hi' (by simp at hn;omega)
  ·have e:gy g i (y::r)=g i y:=by simp[gy,hg]
   rw[abX hg,e,abX hg]
theorem kV (a b c:Int):cL a b c=some (decide (a<b\/c<a),()):=by
 unfold cL
 by_cases h:a<b
 ·rw[aI h];simp[h]
 ·rw[aP h];simp[h]
theorem PN (n:Int):uM n=some (decide (1<=n/\n<=3652059),()):=by
 unfold uM
 rw[kV,abx]
 congr 2
 simp only[<- decide_not]
 congr 1
 simp only[abS];omega
def ji (s:Bys):Bool:=((eN s).map (·.1)).getD false
theorem yQ (s:Bys):eN s=some (ji s,()):=by
 have:∃ b,eN s=some (b,()):=by
  unfold eN
  by_cases h1:(s.length:Int)<1
  ·rw[aI h1];exact⟨_,rfl⟩
  ·rw[aP h1]
   by_cases h2:(s.length:Int)>40
   ·rw[aI h2];exact⟨_,rfl⟩
   ·rw[aP h2]
    have hs:iV s 0=some (s[0]'(by omega)):=by simp[iV]
    rw[hs]
    simp only[abx]
    have ht:fQ s [97,98,99,100,101,102,103,104,105,106,107,108,109,110,111,112,113,114,115,116,117,118,119,120,121,122,48,49,50,51,52,53,54,55,56,57,45]=some (Lib.trimS s [97,98,99,100,101,102,103,104,105,106,107,108,109,110,111,112,113,114,115,116,117,118,119,120,121,122,48,49,50,51,52,53,54,55,56,57,45],()):=by
     unfold fQ
     rw[show (decide (s.length<=9223372036854775807))=true by simp;omega]
     rfl
    rw[ht]
    simp only[abx]
    generalize (decide ((((s[0]'(by omega)).toNat:Int))<97))=b1
    generalize (decide ((((s[0]'(by omega)).toNat:Int))>122))=b2
    cases b1<;>cases b2<;>exact⟨_,rfl⟩
 obtain⟨b,hb⟩:=this
 unfold ji
 rw[hb];rfl
theorem Bw (d:ah):cy d=some (if -1000000000000000<=d.1/\d.1<=1000000000000000/\0<=d.2/\d.2<=9 then 0 else 1,()):=by
 unfold cy
 rw[kV,abx,kV]
 simp only[abx]
 by_cases h1:d.1< -1000000000000000\/1000000000000000<d.1
 ·rw[aI h1,abX (by omega)]
 ·rw[aP h1]
  by_cases h2:d.2<0\/9<d.2
  ·rw[aI h2,abX (by omega)]
  ·rw[aP h2,abY (by omega)]
theorem Wb {n:Nat} (h:n<=18):(10:Int) ^ n<=1000000000000000000:=by
 have:=abu (n:=10) (by omega) h
 have h2:=Int.ofNat_le.2 this
 simpa using h2
theorem qI (n:Nat):(0:Int)<10 ^ n:=JM (by omega) n
theorem Ek (n:Int) (h0:0<=n) (h1:n<=18):rF n=some (10 ^ n.toNat,()):=by
 obtain⟨m,rfl⟩:∃ m:Nat,n=m:=⟨n.toNat,by omega⟩
 unfold rF
 have:iter (X:=tG) (β:=tF) (Int.natAbs (1:Int)+(Int.natAbs (m:Int)+(Int.natAbs (0:Int)+2))) (1,(m:Int),0,()) tE=some (Sum.inr (10 ^ m,())):=by
  refine cV (Inv:=fun i x=>x=(10 ^ i,(m:Int),(i:Int),())) m (fun r=>r=some (Sum.inr (10 ^ m,()))) ?_ ?_ _ 0 _ (by simp) (by omega) (by omega)
  ·rintro i _ again hi rfl ih
   unfold tE
   dsimp only
   have h10:=Wb (n:=i+1) (by omega)
   have hp:=qI (i+1)
   rw[Zt] at h10 hp
   rw[aI (by omega),aS (by omega) (by omega),aS (by omega) (by omega)]
   exact ih _ (by rw[Zt];rfl)
  ·rintro _ again rfl
   unfold tE
   dsimp only
   rw[aP (by omega)]
 rw[this,bG]
 simp
theorem Ke (d:ah) (most:Int) (h0:0<=d.2) (h1:d.2<=9) (hm0:0<=most) (hm1:most<=1000000000):dQ d most=some (decide (-(most*10 ^ d.2.toNat)<=d.1/\d.1<=most*10 ^ d.2.toNat),()):=by
 unfold dQ
 rw[Ek _ h0 (by omega),abx]
 dsimp only
 have hp:=qI d.2.toNat
 have hq:(10:Int) ^ d.2.toNat<=1000000000:=by
  have:=abu (n:=10) (by omega) (show d.2.toNat<=9 by omega)
  have h2:=Int.ofNat_le.2 this
  simpa using h2
 have h3:most*10 ^ d.2.toNat<=1000000000*1000000000:=by
  have a1:most*10 ^ d.2.toNat<=1000000000*10 ^ d.2.toNat:=Zo hm1 (by omega)
  omega
 have h4:0<=most*10 ^ d.2.toNat:=Zp hm0 (by omega)
 rw[aS (n:=most*10 ^ d.2.toNat) (by omega) (by omega),aS (by omega) (by omega),kV,abx]
 congr 2
 simp only[<- decide_not]
 congr 1
 simp only[abS];omega
def AW (d:ah):Prop:=0<d.1/\0<=d.2/\d.2<=4/\d.1<=1000000000*10 ^ d.2.toNat
instance (d:ah):Decidable (AW d):=by unfold AW;exact inferInstance
theorem zF (l:List Bys) (y:Bys) (hl:l.length<1000000000):bn l y=some (l.any (fun o=>o==y),()):=by
 unfold bn jf
 have loop:iter (X:=gK) (β:=gJ) (List.length l+(List.length y+(Int.natAbs ((List.length l:Int))+(Int.natAbs (0:Int)+2)))) (l,y,(List.length l:Int),0,()) gI=some (Sum.inr ())/\l.any (fun o=>o==y)=false\/
  ∃ i:Nat,iter (X:=gK) (β:=gJ) (List.length l+(List.length y+(Int.natAbs ((List.length l:Int))+(Int.natAbs (0:Int)+2)))) (l,y,(List.length l:Int),0,()) gI=some (Sum.inl ((i:Int),()))/\l.any (fun o=>o==y)=true:=by
  refine cV (Inv:=fun i x=>x=(l,y,(List.length l:Int),(i:Int),())/\(l.take i).any (fun o=>o==y)=false) l.length (fun r=>r=some (Sum.inr ())/\l.any (fun o=>o==y)=false\/∃ i:Nat,r=some (Sum.inl ((i:Int),()))/\l.any (fun o=>o==y)=true) ?_ ?_ _ 0 _ ⟨rfl,by simp⟩ (by omega) (by omega)
  ·rintro i _ again hi ⟨rfl,hn⟩ ih
   unfold gI
   dsimp only
   have hy:l[i]? =some l[i]:=aT hi
   rw[aI (by omega),cK,hy,abx]
   cases hb:(y==l[i]) with
   | true=>
    right
    exact⟨i,rfl,ZB.2 ⟨l[i],aai _,by rw[eq_of_beq hb];simp⟩⟩
   | false=>
    rw[abK,aS (by omega) (by omega)]
    refine ih _ ⟨rfl, ?_⟩
    rw[List.take_add_one,hy,List.any_append,hn]
    have:(l[i]==y)=false:=by
     cases h:(l[i]==y) with
     | false=>rfl
     | true=>rw[eq_of_beq h] at hb;simp at hb
    simp[this]
  ·rintro _ again ⟨rfl,hn⟩
   unfold gI
   dsimp only
   rw[aP (by omega)]
   rw[aaQ (abd _)] at hn
   exact .inl ⟨rfl,hn⟩
 rcases loop with ⟨h1,h2⟩ | ⟨i,h1,h2⟩
 ·rw[h1,bG,abx,h2];rfl
 ·rw[h1,uL,abx,h2];simp
structure XA (d:cM):Prop where
 day0:1<=d.2.1
 day1:d.2.1<=3652059
 mon:AW d.2.2.1
 days0:0<=d.2.2.2.1
 days1:d.2.2.2.1<=10000
 with0:0<=d.2.2.2.2.1
 with1:d.2.2.2.2.1<=d.2.2.2.1
 disc0:0<=d.2.2.2.2.2
 disc1:d.2.2.2.2.2<=1000
structure YI (p:cx):Prop where
 day0:1<=p.1
 day1:p.1<=3652059
 mon:AW p.2.1
 names:p.2.2.length<=100
end Go.Md
namespace Go.Md
open Go.Dn
def Hi (d:ah):Int:=d.1*10 ^ (4 - d.2).toNat
theorem AW.Hi {d:ah} (h:AW d):0<Hi d/\Hi d<=10000000000000:=by
 obtain⟨h1,h2,h3,h4⟩:=h
 unfold Md.Hi
 have hp:=qI (4 - d.2).toNat
 refine⟨Int.mul_pos h1 hp, ?_⟩
 have a1:d.1*10 ^ (4 - d.2).toNat<=1000000000*10 ^ d.2.toNat*10 ^ (4 - d.2).toNat:=Zo h4 (by omega)
 rw[Zm, <- Zs,show d.2.toNat+(4 - d.2).toNat=4 by omega] at a1
 omega
abbrev Bd:=aq
def TE (x:Bd):Int:=x.2.1
def TJ (x:Bd):Int:=x.2.2.1
def taken (x:Bd):Int:=x.2.2.2.1
def done (x:Bd):Int:=x.2.2.2.2
structure OR (x:Bd):Prop where
 d:XA x.1
 owes0:0<=TE x
 paid0:0<=TJ x
 taken0:0<=taken x
 sum:TE x+TJ x+taken x=Hi x.1.2.2.1
 none:done x=0->taken x=0
 done0:done x=0\/x.1.2.1<=done x
 iff:TE x=0↔done x≠0
theorem OR.le {x:Bd} (h:OR x):TE x<=10000000000000/\TJ x<=10000000000000/\taken x<=10000000000000:=by
 have:=h.d.mon.Hi;have:=h.sum;have:=h.owes0;have:=h.paid0;have:=h.taken0;omega
section
variable {ar:List Bd} {h:Nat} {x:Bd}
theorem Xt {α:Type} {l:List α} {i:Nat} {x y:α} (h:l[i]? =some x):(l.set i y)[i]? =some y:=aae (Z9.1 h).1
end
end Go.Md
namespace Go.Md
open Go.Dn
structure jX (ds:List cM) (ar:List Bd):Prop where
 ds:ar.map (·.1)=ds
 ok:∀ x∈ar,OR x
theorem jX.len {ds:List cM} {ar:List Bd} (h:jX ds ar):ar.length=ds.length:=by rw[<- h.ds];simp
theorem jX.set {ds:List cM} {ar:List Bd} (h:jX ds ar) {i:Nat} {x y:Bd} (hx:ar[i]? =some x) (hy:OR y) (he:y.1=x.1):jX ds (ar.set i y):=by
 refine⟨?_,fun z hz=> ?_⟩
 ·rw[List.map_set,he, <- h.ds]
  apply ZQ
  intro j
  by_cases hj:i=j
  ·subst hj
   rw[aae (by simp;exact (Z9.1 hx).1),aaa,hx];rfl
  ·rw[aad hj]
 ·rcases aaD hz with hz | rfl
  ·exact h.ok z hz
  ·exact hy
theorem jX.get {ds:List cM} {ar:List Bd} (h:jX ds ar) {i:Nat} {x:Bd} (hx:ar[i]? =some x):OR x:=h.ok x (aaC hx)
def Xv (ar:List Bd):Int:=(ar.map TJ).sum
structure YK (ds:List cM) (L T:Int) (s:Int×List Bd):Prop where
 ar:jX ds s.2
 l0:0<=s.1
 l1:s.1<=L
 tot:s.1+Xv s.2=T
end Go.Md
namespace Go.Md
open Go.Dn
def few:Nat->Int->Int×Nat
 | 0,z=>(z,0)
 | p+1,z=>if z % 10=0 then few p (z / 10) else (z,p+1)
theorem B8 (z:Int) (p:Int):mQ (W z) p=some (if z.natAbs<=1000000000000000 then ((z,p),0,()) else ((0,0),1,())):=by
 unfold mQ
 rw[JU z 1000000000000000 (by omega) (by omega),abx]
 by_cases h:(z.natAbs:Int)<=1000000000000000
 ·rw[abY h,abY (by omega)];rfl
 ·rw[abX h,abX (by omega)];rfl
def lN (d:ah):Int:=d.1*10 ^ (9 - d.2).toNat
def cX (d:ah):Prop:=d.1.natAbs<=1000000000000000/\0<=d.2/\d.2<=9
theorem AW.dec {d:ah} (h:AW d):cX d:=by
 obtain⟨h1,h2,h3,h4⟩:=h
 have hq:(10:Int) ^ d.2.toNat<=10000:=by
  have:=abu (n:=10) (by omega) (show d.2.toNat<=4 by omega)
  have h2:=Int.ofNat_le.2 this
  simpa using h2
 exact⟨by omega,h2,by omega⟩
theorem Mw {z:Int} (h:z.natAbs<1000000000000000000000000000000000000000000000000000000000000):(dg6 z.natAbs).length<=10:=R9 (k:=10) (by simpa using h)
theorem RD (n:Nat) (hn:n<=40):DZ (n:Int)=some (N (10 ^ n),()):=by
 unfold DZ
 rw[JO 1 (by omega) (by omega),abx]
 dsimp only
 have hb:∀ i:Nat,i<=41->(dg6 ((10:Int) ^ i).natAbs).length<=10:=by
  intro i hi
  refine Mw ?_
  have h1:((10:Int) ^ i).natAbs=10 ^ i:=by rw[Int.natAbs_pow];rfl
  have h2:=abu (n:=10) (by omega) hi
  omega
 have loop:iter (X:=xK) (β:=xJ) (Int.natAbs (n:Int)+(Int.natAbs (0:Int)+(List.length ([]:List Int)+(List.length (N 1).2+2)))) ((n:Int),0,false,[],(N 1).1,(N 1).2,()) xI=some (Sum.inr (false,[],(N (10 ^ n)).1,(N (10 ^ n)).2,())):=by
  refine cV (Inv:=fun i x=>x=((n:Int),(i:Int),false,[],(N (10 ^ i)).1,(N (10 ^ i)).2,())) n (fun r=>r=some (Sum.inr (false,[],(N (10 ^ n)).1,(N (10 ^ n)).2,()))) ?_ ?_ _ 0 _ (by simp) (by omega) (by omega)
  ·rintro i _ again hi rfl ih
   unfold xI
   dsimp only
   rw[aI (by omega),JO 10 (by omega) (by omega),abx]
   change (Option.bind (rU (N (10 ^ i)) (N 10)) _)=_
   have h10:(dg6 (10:Int).natAbs).length<=10:=Mw (by decide)
   rw[Ey _ _ (by have:=hb i (by omega);omega) (by omega),abx]
   dsimp only
   rw[aS (by omega) (by omega)]
   exact ih _ (by rw[Zt];rfl)
  ·rintro _ again rfl
   unfold xI
   dsimp only
   rw[aP (by omega)]
 rw[loop,bG]
theorem Ql (d:ah) (hd:cX d):Lb d 9=some (N (lN d),()):=by
 obtain⟨h1,h2,h3⟩:=hd
 unfold Lb
 rw[JO _ (by omega) (by omega),abx,aS (by omega) (by omega)]
 dsimp only
 obtain⟨m,hm⟩:∃ m:Nat,9 - d.2=m:=⟨(9 - d.2).toNat,by omega⟩
 rw[hm,RD m (by omega),abx]
 dsimp only
 have hl1:(dg6 d.1.natAbs).length<=10:=Mw (by omega)
 have hl2:(dg6 ((10:Int) ^ m).natAbs).length<=10:=by
  refine Mw ?_
  have h1:((10:Int) ^ m).natAbs=10 ^ m:=by rw[Int.natAbs_pow];rfl
  have h2:=abu (n:=10) (by omega) (show m<=9 by omega)
  omega
 rw[Ey _ _ (by omega) (by omega),abx]
 unfold lN
 rw[hm];rfl
theorem Kt {d:ah} (hd:cX d):(lN d).natAbs<=1000000000000000000000000:=by
 obtain⟨h1,h2,h3⟩:=hd
 unfold lN
 rw[Int.natAbs_mul,Int.natAbs_pow]
 have h4:=abu (n:=10) (by omega) (show (9 - d.2).toNat<=9 by omega)
 have h5:d.1.natAbs*(10:Int).natAbs ^ (9 - d.2).toNat<=1000000000000000*1000000000:=Nat.mul_le_mul h1 (by simpa using h4)
 omega
end Go.Md
namespace Go.Md
open Go.Dn
end Go.Md
namespace Go.Md
open Go.Dn
def vw (day:Int) (x:Bd):Int:=max 0 (day - (x.1.2.1+x.1.2.2.2.1))
end Go.Md
namespace Go.Md
open Go.Dn
theorem KQ {X α B:Type} {f:X->(X->Option B)->Option B} (mk:Nat->X) (l:List α) (g:Nat->α->Int) (fin:Option B) (out:Int->Option B) (hstep:∀ i y again,l[i]? =some y->f (mk i) again=if g i y=0 then again (mk (i+1)) else out (g i y)) (hend:∀ again,f (mk l.length) again=fin): ∀ (r:List α) (i n:Nat),l.drop i=r->i<=l.length->r.length<n->iter n (mk i) f=if gy g i r=0 then fin else out (gy g i r)
 | _,_,0,_,_,hn=>absurd hn (abt _)
 | [],i,n+1,hd,hi,_=>by
  have:i=l.length:=by
   have:=congrArg List.length hd
   simp at this;omega
  subst this
  rw[n6,hend];rfl
 | y::r,i,n+1,hd,hi,hn=>by
  have hy:l[i]? =some y:=by
   have:=congrArg (·[0]?) hd
   simpa [Z6] using this
  have hr:l.drop (i+1)=r:=by
   have:=congrArg List.tail hd
   simpa [List.tail_drop] using this
  have hi':i<l.length:=(Z9.1 hy).1
  rw[n6,hstep i y _ hy]
  by_cases hg:g i y=0
  ·have e:gy g i (y::r)=gy g (i+1) r:=by simp[gy,hg]
   rw[abY hg,e]
   exact KQ mk l g fin out hstep hend r (i+1) n hr hi' (by simp at hn;omega)
  ·have e:gy g i (y::r)=g i y:=by simp[gy,hg]
   rw[abX hg,e,abX hg]
end Go.Md
namespace Go.Md
open Go.Dn
def OV (D:Int) (S:Nat->Prop) (ar:List Bd):Prop:=∀ i x,S i->ar[i]? =some x->done x=0\/D<done x
theorem OV.set {D:Int} {S:Nat->Prop} {ar:List Bd} {h:Nat} {x y:Bd} (hq:OV D S ar) (hx:ar[h]? =some x) (hy:(done x=0\/D<done x)->(done y=0\/D<done y)):OV D S (ar.set h y):=by
 intro i z hi hz
 by_cases e:h=i
 ·subst e
  rw[Xt hx] at hz
  cases hz
  exact hy (hq h x hi hx)
 ·rw[aad e] at hz
  exact hq i z hi hz
end Go.Md
namespace Go.Md
open Go.Dn
def nmC:Bys:=[97,98,99,100,101,102,103,104,105,106,107,108,109,110,111,112,113,114,115,116,117,118,119,120,121,122,48,49,50,51,52,53,54,55,56,57,45]
def nmB (c:UInt8):Bool:=nmC.contains c
set_option maxRecDepth 100000 in
theorem Xe:∀ n:Fin 256,nmB (UInt8.ofNat n.1)=((decide (97<=n.1)&&decide (n.1<=122))||((decide (48<=n.1)&&decide (n.1<=57))||decide (n.1=45))):=by decide
theorem XM (c:UInt8):nmB c=((decide (97<=c.toNat)&&decide (c.toNat<=122))||((decide (48<=c.toNat)&&decide (c.toNat<=57))||decide (c.toNat=45))):=by
 have:=Xe ⟨c.toNat,UInt8.toNat_lt c⟩
 simpa using this
theorem Ba {α:Type} {p:α->Bool}:∀ {l:List α},l.dropWhile p=[]↔∀ x∈l,p x=true
 | []=>by simp
 | y::r=>by
  cases hp:p y with
  | true=>rw[List.dropWhile_cons_of_pos hp,Ba];simp[hp]
  | false=>rw[List.dropWhile_cons_of_neg (by simp[hp])];simp[hp]
theorem KB {α:Type} {p:α->Bool} {y:α} {r:List α}:∀ {l:List α},l.dropWhile p=y::r->p y=false
 | [],h=>by simp at h
 | z::t,h=>by
  cases hp:p z with
  | true=>rw[List.dropWhile_cons_of_pos hp] at h;exact KB h
  | false=>rw[List.dropWhile_cons_of_neg (by simp[hp])] at h;cases h;exact hp
theorem VA (s c:Bys):(Lib.trimS s c==[])=s.all (c.contains ·):=by
 rw[Bool.eq_iff_iff]
 simp only[beq_iff_eq,Zz]
 unfold Lib.trimS Lib.trimLeftS Lib.trimRightS
 constructor
 ·intro h
  rw[Ba] at h
  cases hd:s.reverse.dropWhile (c.contains ·) with
  | nil=>
   rw[Ba] at hd
   intro x hx
   exact hd x (by simpa using hx)
  | cons y r=>
   exfalso
   have h1:=h y (by rw[hd];simp)
   have h2:=KB hd
   rw[h1] at h2
   cases h2
 ·intro h
  have:s.reverse.dropWhile (c.contains ·)=[]:=Ba.2 fun x hx=>h x (by simpa using hx)
  rw[this];rfl
theorem NI {α:Type} (p:α->Bool) (e:Int) (he:e≠0):∀ (l:List α) (i:Nat),gy (fun _ c=>if p c=true then 0 else e) i l=if l.all p=true then 0 else e
 | [],i=>by simp[gy]
 | y::r,i=>by
  have ih:=NI p e he r (i+1)
  cases hp:p y with
  | true=>simp only[gy,hp,abZ,Zx,Zh];exact ih
  | false=>simp[gy,hp,he]
theorem w6 {s:Bys} {i:Nat} {c:UInt8} (h:s[i]? =some c):iV s (i:Int)=some c:=by simp[iV,h]
theorem At (s:Bys):kN s=some (ji s,()):=by
 unfold kN ji eN GC
 by_cases h0:s=[]
 ·subst h0;rfl
 have hb:(s==[])=false:=by simpa using h0
 have hl:0<s.length:=List.length_pos_iff.2 h0
 rw[hb,abK,aP (show ¬((s.length:Int)<1) by omega)]
 by_cases h2:(s.length:Int)>40
 ·rw[aI h2,aI h2];rfl
 rw[aP h2,aP h2]
 have hs:iV s 0=some (s[0]'hl):=w6 (i:=0) (aT hl)
 simp only[hs,abx]
 by_cases h3:(((s[0]'hl).toNat:Int))<97
 ·simp only[aI h3];rfl
 simp only[aP h3]
 by_cases h4:(((s[0]'hl).toNat:Int))>122
 ·simp only[aI h4];rfl
 simp only[aP h4]
 have ht:fQ s [97,98,99,100,101,102,103,104,105,106,107,108,109,110,111,112,113,114,115,116,117,118,119,120,121,122,48,49,50,51,52,53,54,55,56,57,45]=some (Lib.trimS s nmC,()):=by
  unfold fQ
  rw[show (decide (s.length<=9223372036854775807))=true by simp;omega]
  rfl
 rw[ht,abx]
 have loop:=KQ (f:=vM) (fun i=>(s,(s.length:Int),(i:Int),())) s (fun _ c=>if nmB c=true then 0 else 1) (some (Sum.inr ())) (fun _=>some (Sum.inl (false,())))
  (fun i c again hi=>by
    have hil:=(Z9.1 hi).1
    unfold vM
    dsimp only
    rw[aI (show (i:Int)<(s.length:Int) by omega),w6 hi,abx,XM c,aS (by omega) (by omega)]
    by_cases a1:(c.toNat:Int)<97<;>by_cases a2:(c.toNat:Int)>122<;>by_cases a3:(c.toNat:Int)<48<;>by_cases a4:(c.toNat:Int)>57<;>by_cases a5:(c.toNat:Int)=45<;>
      first
      | omega
      | (have b1:(97<=c.toNat)=¬ ((c.toNat:Int)<97):=by simp only[abS];omega
         have b2:(c.toNat<=122)=¬ ((c.toNat:Int)>122):=by simp only[abS];omega
         have b3:(48<=c.toNat)=¬ ((c.toNat:Int)<48):=by simp only[abS];omega
         have b4:(c.toNat<=57)=¬ ((c.toNat:Int)>57):=by simp only[abS];omega
         have b5:(c.toNat=45)=((c.toNat:Int)=45):=by simp only[abS];omega
         simp only[b1,b2,b3,b4,b5,a1,a2,a3,a4,a5,bne,abR,abQ,not_true_eq_false,not_false_eq_true,Y5,Zh,YY,Y6,Bool.or_true,Bool.true_or,Bool.or_false,Y9,abL,abK,abZ,Y7,abW,Int.one_ne_zero,abI,Ze]
         first | rfl | (have a6:((c.toNat:Int)==45)=false:=(by simp only[abG,ne_eq];exact a5);rw[a6];rfl)))
  (fun again=>by
    unfold vM
    dsimp only
    rw[aP (by omega)])
  s 0 (List.length s+(Int.natAbs ((List.length s:Int))+(Int.natAbs (0:Int)+2))) rfl (abw _) (by omega)
 rw[show ((0:Nat):Int)=0 from rfl] at loop
 rw[loop,NI nmB 1 (by omega),VA]
 have e:(s.all fun x=>nmC.contains x)=s.all nmB:=rfl
 rw[e]
 cases s.all nmB<;>rfl
theorem vN (a b c:Int):uQ a b c=some (decide (b<=a/\a<=c),()):=by
 unfold uQ
 by_cases h:b<=a
 ·rw[aI h];simp[h]
 ·rw[aP h];simp[h]
theorem Ew (a b c:Int):kG a b c=some (decide (b<=a/\a<=c),()):=vN a b c
theorem Rz (n:Int):DX n=some (decide (1<=n/\n<=3652059),()):=by
 unfold DX JP
 rw[vN];rfl
theorem yw (d:ah):jS d=some (if -1000000000000000<=d.1/\d.1<=1000000000000000/\0<=d.2/\d.2<=9 then 0 else 1,()):=by
 unfold jS
 rw[vN,abx]
 by_cases h1: -1000000000000000<=d.1/\d.1<=1000000000000000
 ·rw[abO h1]
  simp only[Ze,abK]
  rw[vN,abx]
  by_cases h2:0<=d.2/\d.2<=9
  ·rw[abO h2,abY ⟨h1.1,h1.2,h2⟩];rfl
  ·rw[abN h2,abX (fun h=>h2 h.2.2)];rfl
 ·rw[abN h1,abX (fun h=>h1 ⟨h.1,h.2.1⟩)];rfl
theorem La {a b:ah} (ha:cX a) (hb:cX b):CF a b=some ((lN a - lN b).sign,()):=by
 unfold CF
 have l1:=Kt ha
 have l2:=Kt hb
 have m1:=Mw (z:=lN a) (by omega)
 have m2:=Mw (z:=lN b) (by omega)
 rw[Ql a ha,abx,Ql b hb,abx,Vj _ _ (by omega) (by omega)]
 rfl
instance (d:ah):Decidable (cX d):=by unfold cX;infer_instance
theorem Ry (d:ah) (lo hi pl:Int) (hlo:lo.natAbs<=1000000000000000) (hhi:hi.natAbs<=1000000000000000):jk d lo hi pl=some (decide (cX d/\d.2<=pl/\lo*10 ^ 9<=lN d/\lN d<=hi*10 ^ 9),()):=by
 unfold jk
 rw[yw,abx]
 have hd:cX d↔(-1000000000000000<=d.1/\d.1<=1000000000000000/\0<=d.2/\d.2<=9):=by unfold cX;omega
 have z:∀ n:Int,n.natAbs<=1000000000000000->cX (n,0)/\lN (n,0)=n*10 ^ 9:=fun n hn=>⟨⟨hn,by simp,by simp⟩,by simp[lN]⟩
 by_cases h1:cX d
 ·rw[abY (hd.1 h1)]
  dsimp only
  rw[show ((0:Int)==0)=true from rfl,abL]
  by_cases h2:d.2<=pl
  ·rw[aI h2,La h1 (z lo hlo).1,abx,(z lo hlo).2]
   dsimp only
   by_cases h3:lo*10 ^ 9<=lN d
   ·rw[aI (by rw[ge_iff_le,Int.sign_nonneg_iff];omega),La h1 (z hi hhi).1,abx,(z hi hhi).2]
    have:((lN d - hi*10 ^ 9).sign<=0)=(cX d/\d.2<=pl/\lo*10 ^ 9<=lN d/\lN d<=hi*10 ^ 9):=by
     rw[Int.sign_nonpos_iff,abS]
     constructor
     ·intro h;exact⟨h1,h2,h3,by omega⟩
     ·intro h;omega
    simp only[this]
   ·rw[aP (by rw[ge_iff_le,Int.sign_nonneg_iff];omega),abN (fun h=>h3 h.2.2.1)]
  ·rw[aP h2,abN (fun h=>h2 h.2.1)]
 ·rw[abX (fun h=>h1 (hd.2 h)),abN (p:=cX d/\d.2<=pl/\lo*10 ^ 9<=lN d/\lN d<=hi*10 ^ 9) (fun h=>h1 h.1)];rfl
end Go.Md
