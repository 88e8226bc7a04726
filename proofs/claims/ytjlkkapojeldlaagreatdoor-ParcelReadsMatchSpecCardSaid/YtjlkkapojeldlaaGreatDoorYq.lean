/-
  Plain facts, small ones. No condition.
-/
import Derived.Test.YtjlkkapojeldlaaGreatDoorYp
import Derived.Test.YtjlkkapojeldlaaGreatDoorYm
set_option linter.all false
namespace Go.Md
open Go.Dn
structure rf {α:Type} (k:α->Int) (l l':List α):Prop where
 perm:l.Perm l'
 keys:∀ v,l'.filter (fun x=>k x==v)=l.filter (fun x=>k x==v)
theorem rf.refl {α:Type} (k:α->Int) (l:List α):rf k l l:=⟨List.Perm.refl _,fun _=>rfl⟩
theorem rf.trans {α:Type} {k:α->Int} {a b c:List α} (h:rf k a b) (g:rf k b c):rf k a c:=⟨h.perm.trans g.perm,fun v=>(g.keys v).trans (h.keys v)⟩
theorem rf.append {α:Type} {k:α->Int} {a b c d:List α} (h:rf k a b) (g:rf k c d):rf k (a++c) (b++d):=
 ⟨h.perm.append g.perm,fun v=>by rw[List.filter_append,List.filter_append,h.keys,g.keys]⟩
theorem rf.mem {α:Type} {k:α->Int} {a b:List α} (h:rf k a b) {x:α}:x∈b↔x∈a:=h.perm.mem_iff.symm
theorem rf.length {α:Type} {k:α->Int} {a b:List α} (h:rf k a b):b.length=a.length:=h.perm.length_eq.symm
def Srt {α:Type} (k:α->Int) (l:List α):Prop:=l.Pairwise fun x y=>k x<=k y
theorem Srt.append {α:Type} {k:α->Int} {a b:List α} (ha:Srt k a) (hb:Srt k b) (h:∀ x∈a,∀ y∈b,k x<=k y):Srt k (a++b):=U9.2 ⟨ha,hb,h⟩
theorem Srt.left {α:Type} {k:α->Int} {a b:List α} (h:Srt k (a++b)):Srt k a:=(U9.1 h).1
theorem Srt.right {α:Type} {k:α->Int} {a b:List α} (h:Srt k (a++b)):Srt k b:=(U9.1 h).2.1
section
variable {k:Option Nat->Int} {ar:List mB} {ok:Option Nat->Prop}
end
end Go.Md
namespace Go.Md
open Go.Dn
section
variable {k:Option Nat->Int} {ar:List mB} {ok:Option Nat->Prop}
end
end Go.Md
namespace Go.Md
open Go.Dn
theorem Srt.get {α:Type} {k:α->Int} {l:List α} (h:Srt k l) {i j:Nat} (hij:i<=j) (hj:j<l.length):k (l[i]'(by omega))<=k l[j]:=by
 rcases Nat.lt_or_eq_of_le hij with h1 | h1
 ·exact List.pairwise_iff_getElem.1 h i j (by omega) hj h1
 ·subst h1;exact Int.le_refl _
section
variable {k:Option Nat->Int} {ar:List mB} {ok:Option Nat->Prop}
end
end Go.Md
namespace Go.Md
open Go.Dn
section
variable {k:Option Nat->Int} {ar:List mB} {ok:Option Nat->Prop}
end
end Go.Md
namespace Go.Md
open Go.Dn
def ChS {α:Type} (k:α->Int) (bs:Nat) (l:List α):Prop:=∀ j:Nat,Srt k ((l.drop (j*bs)).take bs)
theorem ChS.nil {α:Type} (k:α->Int) (bs:Nat):ChS k bs []:=fun _=>by simp[Srt]
theorem ChS.snoc {α:Type} {k:α->Int} {bs:Nat} {A S:List α} {j:Nat} (h:ChS k bs A) (hA:A.length=j*bs) (hS:Srt k S) (hl:S.length<=bs):ChS k bs (A++S):=by
 intro i
 rcases VB i j with hij | hij | hij
 ·have h1:(i+1)*bs<=j*bs:=VD _ hij
  rw[Vm,Nat.one_mul] at h1
  rw[List.drop_append_of_le_length (by omega),List.take_append_of_le_length (by rw[List.length_drop];omega)]
  exact h i
 ·subst hij
  rw[<- hA,Ud,Vh hl]
  exact hS
 ·have h1:(j+1)*bs<=i*bs:=VD _ hij
  rw[Vm,Nat.one_mul] at h1
  rw[Ue (by rw[UJ];omega)]
  simp[Srt]
theorem ChS.drop {α:Type} {k:α->Int} {bs:Nat} {l:List α} (h:ChS k bs l) (i:Nat):ChS k bs (l.drop (i*bs)):=by
 intro j
 rw[Ub, <- Vm]
 exact h (i+j)
theorem Srt.take {α:Type} {k:α->Int} {l:List α} (h:Srt k l) (n:Nat):Srt k (l.take n):=by
 rw[<- Vf n l] at h;exact h.left
section
variable {k:Option Nat->Int} {ar:List mB} {ok:Option Nat->Prop}
end
end Go.Md
namespace Go.Md
open Go.Dn
def cZ {α:Type} (g:Nat->α->Int):Nat->List α->Int
 | _,[]=>0
 | i,y::r=>if g i y=0 then cZ g (i+1) r else g i y
theorem vS {α:Type} {g:Nat->α->Int}:∀ {l:List α} {i:Nat},cZ g i l=0->∀ j y,l[j]? =some y->g (i+j) y=0
 | [],_,_,_,_,h=>by simp at h
 | y::r,i,h,j,z,hz=>by
  simp only[cZ] at h
  by_cases hg:g i y=0
  ·rw[V7 hg] at h
   cases j with
   | zero=>simp at hz;subst hz;exact hg
   | succ j=>have:=vS h j z (by simpa using hz);rw[show i+(j+1)=i+1+j by omega];exact this
  ·rw[V6 hg] at h;exact absurd h hg
theorem Jt {X α:Type} {γ:Type} {f:X->(X->Option ((Int×Unit) ⊕ γ))->Option ((Int×Unit) ⊕ γ)} (mk:Nat->X) (l:List α) (g:Nat->α->Int) (u:γ) (hstep:∀ i y again,l[i]? =some y->f (mk i) again=if g i y=0 then again (mk (i+1)) else some (Sum.inl (g i y,()))) (hend:∀ again,f (mk l.length) again=some (Sum.inr u)): ∀ (r:List α) (i n:Nat),l.drop i=r->i<=l.length->r.length<n->iter n (mk i) f=if cZ g i r=0 then some (Sum.inr u) else some (Sum.inl (cZ g i r,()))
 | _,_,0,_,_,hn=>absurd hn (VF _)
 | [],i,n+1,hd,hi,_=>by
  have:i=l.length:=by
   have:=congrArg List.length hd
   simp at this;omega
  subst this
  rw[lq,hend];rfl
 | y::r,i,n+1,hd,hi,hn=>by
  have hy:l[i]? =some y:=by
   have:=congrArg (·[0]?) hd
   simpa [Uv] using this
  have hr:l.drop (i+1)=r:=by
   have:=congrArg List.tail hd
   simpa [List.tail_drop] using this
  have hi':i<l.length:=(Uy.1 hy).1
  rw[lq,hstep i y _ hy]
  by_cases hg:g i y=0
  ·have e:cZ g i (y::r)=cZ g (i+1) r:=by simp[cZ,hg]
   rw[V7 hg,e]
   exact Jt mk l g u hstep hend r (i+1) n hr hi' (by simp at hn;omega)
  ·have e:cZ g i (y::r)=g i y:=by simp[cZ,hg]
   rw[V6 hg,e,V6 hg]
theorem oz (a b c:Int):iw a b c=some (decide (a<b\/c<a),()):=by
 unfold iw
 by_cases h:a<b
 ·rw[aC h];simp[h]
 ·rw[aF h];simp[h]
theorem LK (n:Int):xO n=some (decide (1<=n/\n<=3652059),()):=by
 unfold xO
 rw[oz,VJ]
 congr 2
 simp only[<- decide_not]
 congr 1
 simp only[eq_iff_iff];omega
def gQ (s:List UInt8):Bool:=((fI s).map (·.1)).getD false
theorem Bh (s:List UInt8):fI s=some (gQ s,()):=by
 have:∃ b,fI s=some (b,()):=by
  unfold fI
  by_cases h1:(s.length:Int)<1
  ·rw[aC h1];exact⟨_,rfl⟩
  ·rw[aF h1]
   by_cases h2:(s.length:Int)>40
   ·rw[aC h2];exact⟨_,rfl⟩
   ·rw[aF h2]
    have hs:dI s 0=some (s[0]'(by omega)):=by simp[dI]
    rw[hs]
    simp only[VJ]
    have ht:dR s [97,98,99,100,101,102,103,104,105,106,107,108,109,110,111,112,113,114,115,116,117,118,119,120,121,122,48,49,50,51,52,53,54,55,56,57,45]=some (Lib.trimS s [97,98,99,100,101,102,103,104,105,106,107,108,109,110,111,112,113,114,115,116,117,118,119,120,121,122,48,49,50,51,52,53,54,55,56,57,45],()):=by
     unfold dR
     rw[show (decide (s.length<=9223372036854775807))=true by simp;omega]
     rfl
    rw[ht]
    simp only[VJ]
    generalize (decide ((((s[0]'(by omega)).toNat:Int))<97))=b1
    generalize (decide ((((s[0]'(by omega)).toNat:Int))>122))=b2
    cases b1<;>cases b2<;>exact⟨_,rfl⟩
 obtain⟨b,hb⟩:=this
 unfold gQ
 rw[hb];rfl
theorem yc (d:ah):fZ d=some (if -1000000000000000<=d.1/\d.1<=1000000000000000/\0<=d.2/\d.2<=9 then 0 else 1,()):=by
 unfold fZ
 rw[oz,VJ,oz]
 simp only[VJ]
 by_cases h1:d.1< -1000000000000000\/1000000000000000<d.1
 ·rw[aC h1,V6 (by omega)]
 ·rw[aF h1]
  by_cases h2:d.2<0\/9<d.2
  ·rw[aC h2,V6 (by omega)]
  ·rw[aF h2,V7 (by omega)]
theorem Rf {n:Nat} (h:n<=18):(10:Int) ^ n<=1000000000000000000:=by
 have:=VG (n:=10) (by omega) h
 have h2:=Int.ofNat_le.2 this
 simpa using h2
theorem xU (n:Nat):(0:Int)<10 ^ n:=FE (by omega) n
theorem J1 (n:Int) (h0:0<=n) (h1:n<=18):F2 n=some (10 ^ n.toNat,()):=by
 obtain⟨m,rfl⟩:∃ m:Nat,n=m:=⟨n.toNat,by omega⟩
 unfold F2
 have:iter (X:=pW) (β:=pV) (Int.natAbs (1:Int)+(Int.natAbs (m:Int)+(Int.natAbs (0:Int)+2))) (1,(m:Int),0,()) pU=some (Sum.inr (10 ^ m,())):=by
  refine bN (Inv:=fun i x=>x=(10 ^ i,(m:Int),(i:Int),())) m (fun r=>r=some (Sum.inr (10 ^ m,()))) ?_ ?_ _ 0 _ (by simp) (by omega) (by omega)
  ·rintro i _ again hi rfl ih
   unfold pU
   dsimp only
   have h10:=Rf (n:=i+1) (by omega)
   have hp:=xU (i+1)
   rw[TT] at h10 hp
   rw[aC (by omega),aE (by omega) (by omega),aE (by omega) (by omega)]
   exact ih _ (by rw[TT];rfl)
  ·rintro _ again rfl
   unfold pU
   dsimp only
   rw[aF (by omega)]
 rw[this,bp]
 simp
def Du (d:ah):Prop:=0<d.1/\0<=d.2/\d.2<=4/\d.1<=1000000000*10 ^ d.2.toNat
instance (d:ah):Decidable (Du d):=by unfold Du;exact inferInstance
theorem vU (l:List (List UInt8)) (y:List UInt8) (hl:l.length<1000000000):bA l y=some (l.any (fun o=>o==y),()):=by
 unfold bA gk
 have loop:iter (X:=eJ) (β:=eH) (List.length l+(List.length y+(Int.natAbs ((List.length l:Int))+(Int.natAbs (0:Int)+2)))) (l,y,(List.length l:Int),0,()) eG=some (Sum.inr ())/\l.any (fun o=>o==y)=false\/
  ∃ i:Nat,iter (X:=eJ) (β:=eH) (List.length l+(List.length y+(Int.natAbs ((List.length l:Int))+(Int.natAbs (0:Int)+2)))) (l,y,(List.length l:Int),0,()) eG=some (Sum.inl ((i:Int),()))/\l.any (fun o=>o==y)=true:=by
  refine bN (Inv:=fun i x=>x=(l,y,(List.length l:Int),(i:Int),())/\(l.take i).any (fun o=>o==y)=false) l.length (fun r=>r=some (Sum.inr ())/\l.any (fun o=>o==y)=false\/∃ i:Nat,r=some (Sum.inl ((i:Int),()))/\l.any (fun o=>o==y)=true) ?_ ?_ _ 0 _ ⟨rfl,by simp⟩ (by omega) (by omega)
  ·rintro i _ again hi ⟨rfl,hn⟩ ih
   unfold eG
   dsimp only
   have hy:l[i]? =some l[i]:=aG hi
   rw[aC (by omega),bM,hy,VJ]
   cases hb:(y==l[i]) with
   | true=>
    right
    exact⟨i,rfl,T3.2 ⟨l[i],UH _,by rw[eq_of_beq hb];simp⟩⟩
   | false=>
    rw[VV,aE (by omega) (by omega)]
    refine ih _ ⟨rfl, ?_⟩
    rw[List.take_add_one,hy,List.any_append,hn]
    have:(l[i]==y)=false:=by
     cases h:(l[i]==y) with
     | false=>rfl
     | true=>rw[eq_of_beq h] at hb;simp at hb
    simp[this]
  ·rintro _ again ⟨rfl,hn⟩
   unfold eG
   dsimp only
   rw[aF (by omega)]
   rw[Vh (Vu _)] at hn
   exact .inl ⟨rfl,hn⟩
 rcases loop with ⟨h1,h2⟩ | ⟨i,h1,h2⟩
 ·rw[h1,bp,VJ,h2];rfl
 ·rw[h1,lu,VJ,h2];simp
structure Sg (d:lK):Prop where
 day0:1<=d.2.1
 day1:d.2.1<=3652059
 mon:Du d.2.2.1
 days0:0<=d.2.2.2.1
 days1:d.2.2.2.1<=10000
 with0:0<=d.2.2.2.2.1
 with1:d.2.2.2.2.1<=d.2.2.2.1
 disc0:0<=d.2.2.2.2.2
 disc1:d.2.2.2.2.2<=1000
structure Tf (p:JV):Prop where
 day0:1<=p.1
 day1:p.1<=3652059
 mon:Du p.2.1
 names:p.2.2.length<=100
end Go.Md
namespace Go.Md
open Go.Dn
def Dx (d:ah):Int:=d.1*10 ^ (4 - d.2).toNat
theorem Du.Dx {d:ah} (h:Du d):0<Dx d/\Dx d<=10000000000000:=by
 obtain⟨h1,h2,h3,h4⟩:=h
 unfold Md.Dx
 have hp:=xU (4 - d.2).toNat
 refine⟨Int.mul_pos h1 hp, ?_⟩
 have a1:d.1*10 ^ (4 - d.2).toNat<=1000000000*10 ^ d.2.toNat*10 ^ (4 - d.2).toNat:=Int.mul_le_mul_of_nonneg_right h4 (by omega)
 rw[TN, <- TS,show d.2.toNat+(4 - d.2).toNat=4 by omega] at a1
 omega
abbrev Bd:=mB
def OK (x:Bd):Int:=x.2.1
def OP (x:Bd):Int:=x.2.2.1
def taken (x:Bd):Int:=x.2.2.2.1
def done (x:Bd):Int:=x.2.2.2.2
structure KO (x:Bd):Prop where
 d:Sg x.1
 owes0:0<=OK x
 paid0:0<=OP x
 taken0:0<=taken x
 sum:OK x+OP x+taken x=Dx x.1.2.2.1
 none:done x=0->taken x=0
 done0:done x=0\/x.1.2.1<=done x
 iff:OK x=0↔done x≠0
theorem KO.le {x:Bd} (h:KO x):OK x<=10000000000000/\OP x<=10000000000000/\taken x<=10000000000000:=by
 have:=h.d.mon.Dx;have:=h.sum;have:=h.owes0;have:=h.paid0;have:=h.taken0;omega
section
variable {ar:List Bd} {h:Nat} {x:Bd}
theorem R9 {α:Type} {l:List α} {i:Nat} {x y:α} (h:l[i]? =some x):(l.set i y)[i]? =some y:=UD (Uy.1 h).1
end
end Go.Md
namespace Go.Md
open Go.Dn
structure gP (ds:List lK) (ar:List Bd):Prop where
 ds:ar.map (·.1)=ds
 ok:∀ x∈ar,KO x
theorem gP.len {ds:List lK} {ar:List Bd} (h:gP ds ar):ar.length=ds.length:=by rw[<- h.ds];simp
theorem gP.set {ds:List lK} {ar:List Bd} (h:gP ds ar) {i:Nat} {x y:Bd} (hx:ar[i]? =some x) (hy:KO y) (he:y.1=x.1):gP ds (ar.set i y):=by
 refine⟨?_,fun z hz=> ?_⟩
 ·rw[List.map_set,he, <- h.ds]
  apply Ui
  intro j
  by_cases hj:i=j
  ·subst hj
   rw[UD (by simp;exact (Uy.1 hx).1),Uz,hx];rfl
  ·rw[UC hj]
 ·rcases U4 hz with hz | rfl
  ·exact h.ok z hz
  ·exact hy
theorem gP.get {ds:List lK} {ar:List Bd} (h:gP ds ar) {i:Nat} {x:Bd} (hx:ar[i]? =some x):KO x:=h.ok x (U3 hx)
def Sc (ar:List Bd):Int:=(ar.map OP).sum
structure Th (ds:List lK) (L T:Int) (s:Int×List Bd):Prop where
 ar:gP ds s.2
 l0:0<=s.1
 l1:s.1<=L
 tot:s.1+Sc s.2=T
end Go.Md
namespace Go.Md
open Go.Dn
def few:Nat->Int->Int×Nat
 | 0,z=>(z,0)
 | p+1,z=>if z % 10=0 then few p (z / 10) else (z,p+1)
theorem yL (z:Int) (p:Int):mD (W z) p=some (if z.natAbs<=1000000000000000 then ((z,p),0,()) else ((0,0),1,())):=by
 unfold mD
 rw[FL z 1000000000000000 (by omega) (by omega),VJ]
 by_cases h:(z.natAbs:Int)<=1000000000000000
 ·rw[V7 h,V7 (by omega)];rfl
 ·rw[V6 h,V6 (by omega)];rfl
def qw (d:ah):Int:=d.1*10 ^ (9 - d.2).toNat
def gu (d:ah):Prop:=d.1.natAbs<=1000000000000000/\0<=d.2/\d.2<=9
theorem IA {z:Int} (h:z.natAbs<1000000000000000000000000000000000000000000000000000000000000):(dg6 z.natAbs).length<=10:=Nz (k:=10) (by simpa using h)
theorem Nj (n:Nat) (hn:n<=40):AV (n:Int)=some (N (10 ^ n),()):=by
 unfold AV
 rw[FF 1 (by omega) (by omega),VJ]
 dsimp only
 have hb:∀ i:Nat,i<=41->(dg6 ((10:Int) ^ i).natAbs).length<=10:=by
  intro i hi
  refine IA ?_
  have h1:((10:Int) ^ i).natAbs=10 ^ i:=by rw[Int.natAbs_pow];rfl
  have h2:=VG (n:=10) (by omega) hi
  omega
 have loop:iter (X:=um) (β:=uk) (Int.natAbs (n:Int)+(Int.natAbs (0:Int)+(List.length ([]:List Int)+(List.length (N 1).2+2)))) ((n:Int),0,false,[],(N 1).1,(N 1).2,()) uj=some (Sum.inr (false,[],(N (10 ^ n)).1,(N (10 ^ n)).2,())):=by
  refine bN (Inv:=fun i x=>x=((n:Int),(i:Int),false,[],(N (10 ^ i)).1,(N (10 ^ i)).2,())) n (fun r=>r=some (Sum.inr (false,[],(N (10 ^ n)).1,(N (10 ^ n)).2,()))) ?_ ?_ _ 0 _ (by simp) (by omega) (by omega)
  ·rintro i _ again hi rfl ih
   unfold uj
   dsimp only
   rw[aC (by omega),FF 10 (by omega) (by omega),VJ]
   change (Option.bind (oE (N (10 ^ i)) (N 10)) _)=_
   have h10:(dg6 (10:Int).natAbs).length<=10:=IA (by decide)
   rw[Bl _ _ (by have:=hb i (by omega);omega) (by omega),VJ]
   dsimp only
   rw[aE (by omega) (by omega)]
   exact ih _ (by rw[TT];rfl)
  ·rintro _ again rfl
   unfold uj
   dsimp only
   rw[aF (by omega)]
 rw[loop,bp]
theorem Mh (d:ah) (hd:gu d):AS d 9=some (N (qw d),()):=by
 obtain⟨h1,h2,h3⟩:=hd
 unfold AS
 rw[FF _ (by omega) (by omega),VJ,aE (by omega) (by omega)]
 dsimp only
 obtain⟨m,hm⟩:∃ m:Nat,9 - d.2=m:=⟨(9 - d.2).toNat,by omega⟩
 rw[hm,Nj m (by omega),VJ]
 dsimp only
 have hl1:(dg6 d.1.natAbs).length<=10:=IA (by omega)
 have hl2:(dg6 ((10:Int) ^ m).natAbs).length<=10:=by
  refine IA ?_
  have h1:((10:Int) ^ m).natAbs=10 ^ m:=by rw[Int.natAbs_pow];rfl
  have h2:=VG (n:=10) (by omega) (show m<=9 by omega)
  omega
 rw[Bl _ _ (by omega) (by omega),VJ]
 unfold qw
 rw[hm];rfl
theorem Gd {d:ah} (hd:gu d):(qw d).natAbs<=1000000000000000000000000:=by
 obtain⟨h1,h2,h3⟩:=hd
 unfold qw
 rw[Int.natAbs_mul,Int.natAbs_pow]
 have h4:=VG (n:=10) (by omega) (show (9 - d.2).toNat<=9 by omega)
 have h5:d.1.natAbs*(10:Int).natAbs ^ (9 - d.2).toNat<=1000000000000000*1000000000:=Nat.mul_le_mul h1 (by simpa using h4)
 omega
end Go.Md
namespace Go.Md
open Go.Dn
end Go.Md
namespace Go.Md
open Go.Dn
def rH (day:Int) (x:Bd):Int:=max 0 (day - (x.1.2.1+x.1.2.2.2.1))
end Go.Md
namespace Go.Md
open Go.Dn
theorem GD {X α B:Type} {f:X->(X->Option B)->Option B} (mk:Nat->X) (l:List α) (g:Nat->α->Int) (fin:Option B) (out:Int->Option B) (hstep:∀ i y again,l[i]? =some y->f (mk i) again=if g i y=0 then again (mk (i+1)) else out (g i y)) (hend:∀ again,f (mk l.length) again=fin): ∀ (r:List α) (i n:Nat),l.drop i=r->i<=l.length->r.length<n->iter n (mk i) f=if cZ g i r=0 then fin else out (cZ g i r)
 | _,_,0,_,_,hn=>absurd hn (VF _)
 | [],i,n+1,hd,hi,_=>by
  have:i=l.length:=by
   have:=congrArg List.length hd
   simp at this;omega
  subst this
  rw[lq,hend];rfl
 | y::r,i,n+1,hd,hi,hn=>by
  have hy:l[i]? =some y:=by
   have:=congrArg (·[0]?) hd
   simpa [Uv] using this
  have hr:l.drop (i+1)=r:=by
   have:=congrArg List.tail hd
   simpa [List.tail_drop] using this
  have hi':i<l.length:=(Uy.1 hy).1
  rw[lq,hstep i y _ hy]
  by_cases hg:g i y=0
  ·have e:cZ g i (y::r)=cZ g (i+1) r:=by simp[cZ,hg]
   rw[V7 hg,e]
   exact GD mk l g fin out hstep hend r (i+1) n hr hi' (by simp at hn;omega)
  ·have e:cZ g i (y::r)=g i y:=by simp[cZ,hg]
   rw[V6 hg,e,V6 hg]
end Go.Md
namespace Go.Md
open Go.Dn
def KR (D:Int) (S:Nat->Prop) (ar:List Bd):Prop:=∀ i x,S i->ar[i]? =some x->done x=0\/D<done x
theorem KR.set {D:Int} {S:Nat->Prop} {ar:List Bd} {h:Nat} {x y:Bd} (hq:KR D S ar) (hx:ar[h]? =some x) (hy:(done x=0\/D<done x)->(done y=0\/D<done y)):KR D S (ar.set h y):=by
 intro i z hi hz
 by_cases e:h=i
 ·subst e
  rw[R9 hx] at hz
  cases hz
  exact hy (hq h x hi hx)
 ·rw[UC e] at hz
  exact hq i z hi hz
end Go.Md
namespace Go.Md
open Go.Dn
def nmC:List UInt8:=[97,98,99,100,101,102,103,104,105,106,107,108,109,110,111,112,113,114,115,116,117,118,119,120,121,122,48,49,50,51,52,53,54,55,56,57,45]
def nmB (c:UInt8):Bool:=nmC.contains c
set_option maxRecDepth 100000 in
theorem RW:∀ n:Fin 256,nmB (UInt8.ofNat n.1)=((decide (97<=n.1)&&decide (n.1<=122))||((decide (48<=n.1)&&decide (n.1<=57))||decide (n.1=45))):=by decide
theorem Sv (c:UInt8):nmB c=((decide (97<=c.toNat)&&decide (c.toNat<=122))||((decide (48<=c.toNat)&&decide (c.toNat<=57))||decide (c.toNat=45))):=by
 have:=RW ⟨c.toNat,UInt8.toNat_lt c⟩
 simpa using this
theorem xK {α:Type} {p:α->Bool}:∀ {l:List α},l.dropWhile p=[]↔∀ x∈l,p x=true
 | []=>by simp
 | y::r=>by
  cases hp:p y with
  | true=>rw[List.dropWhile_cons_of_pos hp,xK];simp[hp]
  | false=>rw[List.dropWhile_cons_of_neg (by simp[hp])];simp[hp]
theorem Gm {α:Type} {p:α->Bool} {y:α} {r:List α}:∀ {l:List α},l.dropWhile p=y::r->p y=false
 | [],h=>by simp at h
 | z::t,h=>by
  cases hp:p z with
  | true=>rw[List.dropWhile_cons_of_pos hp] at h;exact Gm h
  | false=>rw[List.dropWhile_cons_of_neg (by simp[hp])] at h;cases h;exact hp
theorem QE (s c:List UInt8):(Lib.trimS s c==[])=s.all (c.contains ·):=by
 rw[Bool.eq_iff_iff]
 simp only[beq_iff_eq,TZ]
 unfold Lib.trimS Lib.trimLeftS Lib.trimRightS
 constructor
 ·intro h
  rw[xK] at h
  cases hd:s.reverse.dropWhile (c.contains ·) with
  | nil=>
   rw[xK] at hd
   intro x hx
   exact hd x (by simpa using hx)
  | cons y r=>
   exfalso
   have h1:=h y (by rw[hd];simp)
   have h2:=Gm hd
   rw[h1] at h2
   cases h2
 ·intro h
  have:s.reverse.dropWhile (c.contains ·)=[]:=xK.2 fun x hx=>h x (by simpa using hx)
  rw[this];rfl
theorem JM {α:Type} (p:α->Bool) (e:Int) (he:e≠0):∀ (l:List α) (i:Nat),cZ (fun _ c=>if p c=true then 0 else e) i l=if l.all p=true then 0 else e
 | [],i=>by simp[cZ]
 | y::r,i=>by
  have ih:=JM p e he r (i+1)
  cases hp:p y with
  | true=>simp only[cZ,hp,V8,TX,TK];exact ih
  | false=>simp[cZ,hp,he]
theorem nR {s:List UInt8} {i:Nat} {c:UInt8} (h:s[i]? =some c):dI s (i:Int)=some c:=by simp[dI,h]
theorem CX (s:List UInt8):lC s=some (gQ s,()):=by
 unfold lC gQ fI CZ
 by_cases h0:s=[]
 ·subst h0;rfl
 have hb:(s==[])=false:=by simpa using h0
 have hl:0<s.length:=List.length_pos_iff.2 h0
 rw[hb,VV,aF (show ¬((s.length:Int)<1) by omega)]
 by_cases h2:(s.length:Int)>40
 ·rw[aC h2,aC h2];rfl
 rw[aF h2,aF h2]
 have hs:dI s 0=some (s[0]'hl):=nR (i:=0) (aG hl)
 simp only[hs,VJ]
 by_cases h3:(((s[0]'hl).toNat:Int))<97
 ·simp only[aC h3];rfl
 simp only[aF h3]
 by_cases h4:(((s[0]'hl).toNat:Int))>122
 ·simp only[aC h4];rfl
 simp only[aF h4]
 have ht:dR s [97,98,99,100,101,102,103,104,105,106,107,108,109,110,111,112,113,114,115,116,117,118,119,120,121,122,48,49,50,51,52,53,54,55,56,57,45]=some (Lib.trimS s nmC,()):=by
  unfold dR
  rw[show (decide (s.length<=9223372036854775807))=true by simp;omega]
  rfl
 rw[ht,VJ]
 have loop:=GD (f:=se) (fun i=>(s,(s.length:Int),(i:Int),())) s (fun _ c=>if nmB c=true then 0 else 1) (some (Sum.inr ())) (fun _=>some (Sum.inl (false,())))
  (fun i c again hi=>by
    have hil:=(Uy.1 hi).1
    unfold se
    dsimp only
    rw[aC (show (i:Int)<(s.length:Int) by omega),nR hi,VJ,Sv c,aE (by omega) (by omega)]
    by_cases a1:(c.toNat:Int)<97<;>by_cases a2:(c.toNat:Int)>122<;>by_cases a3:(c.toNat:Int)<48<;>by_cases a4:(c.toNat:Int)>57<;>by_cases a5:(c.toNat:Int)=45<;>
      first
      | omega
      | (have b1:(97<=c.toNat)=¬ ((c.toNat:Int)<97):=by simp only[eq_iff_iff];omega
         have b2:(c.toNat<=122)=¬ ((c.toNat:Int)>122):=by simp only[eq_iff_iff];omega
         have b3:(48<=c.toNat)=¬ ((c.toNat:Int)<48):=by simp only[eq_iff_iff];omega
         have b4:(c.toNat<=57)=¬ ((c.toNat:Int)>57):=by simp only[eq_iff_iff];omega
         have b5:(c.toNat=45)=((c.toNat:Int)=45):=by simp only[eq_iff_iff];omega
         simp only[b1,b2,b3,b4,b5,a1,a2,a3,a4,a5,bne,V2,V1,not_true_eq_false,not_false_eq_true,Tx,TK,Tv,Tz,Bool.or_true,Bool.true_or,Bool.or_false,TC,VW,VV,V8,TA,V5,Int.one_ne_zero,VT,TH]
         first | rfl | (have a6:((c.toNat:Int)==45)=false:=(by simp only[VR,ne_eq];exact a5);rw[a6];rfl)))
  (fun again=>by
    unfold se
    dsimp only
    rw[aF (by omega)])
  s 0 (List.length s+(Int.natAbs ((List.length s:Int))+(Int.natAbs (0:Int)+2))) rfl (VI _) (by omega)
 rw[show ((0:Nat):Int)=0 from rfl] at loop
 rw[loop,JM nmB 1 (by omega),QE]
 have e:(s.all fun x=>nmC.contains x)=s.all nmB:=rfl
 rw[e]
 cases s.all nmB<;>rfl
theorem si (a b c:Int):lE a b c=some (decide (b<=a/\a<=c),()):=by
 unfold lE
 by_cases h:b<=a
 ·rw[aC h];simp[h]
 ·rw[aF h];simp[h]
theorem Nf (n:Int):AT n=some (decide (1<=n/\n<=3652059),()):=by
 unfold AT FG
 rw[si];rfl
theorem CU (d:ah):jK d=some (if -1000000000000000<=d.1/\d.1<=1000000000000000/\0<=d.2/\d.2<=9 then 0 else 1,()):=by
 unfold jK
 rw[si,VJ]
 by_cases h1: -1000000000000000<=d.1/\d.1<=1000000000000000
 ·rw[VZ h1]
  simp only[TH,VV]
  rw[si,VJ]
  by_cases h2:0<=d.2/\d.2<=9
  ·rw[VZ h2,V7 ⟨h1.1,h1.2,h2⟩];rfl
  ·rw[VY h2,V6 (fun h=>h2 h.2.2)];rfl
 ·rw[VY h1,V6 (fun h=>h1 ⟨h.1,h.2.1⟩)];rfl
theorem OU {a b:ah} (ha:gu a) (hb:gu b):NZ a b=some ((qw a - qw b).sign,()):=by
 unfold NZ
 have l1:=Gd ha
 have l2:=Gd hb
 have m1:=IA (z:=qw a) (by omega)
 have m2:=IA (z:=qw b) (by omega)
 rw[Mh a ha,VJ,Mh b hb,VJ,Qm _ _ (by omega) (by omega)]
 rfl
instance (d:ah):Decidable (gu d):=by unfold gu;infer_instance
end Go.Md
