/-
  Plain facts, small ones. No condition.
-/
import Derived.Test.YtfghdjdpccoleaaGreatDoorYp
import Derived.Test.YtfghdjdpccoleaaGreatDoorYm
set_option linter.all false
namespace Go.Md
open Go.Dn
structure pe {α:Type} (k:α->Int) (l l':List α):Prop where
 perm:l.Perm l'
 keys:∀ v,l'.filter (fun x=>k x==v)=l.filter (fun x=>k x==v)
theorem pe.refl {α:Type} (k:α->Int) (l:List α):pe k l l:=⟨List.Perm.refl _,fun _=>rfl⟩
theorem pe.trans {α:Type} {k:α->Int} {a b c:List α} (h:pe k a b) (g:pe k b c):pe k a c:=⟨h.perm.trans g.perm,fun v=>(g.keys v).trans (h.keys v)⟩
theorem pe.append {α:Type} {k:α->Int} {a b c d:List α} (h:pe k a b) (g:pe k c d):pe k (a++c) (b++d):=
 ⟨h.perm.append g.perm,fun v=>by rw[List.filter_append,List.filter_append,h.keys,g.keys]⟩
theorem pe.mem {α:Type} {k:α->Int} {a b:List α} (h:pe k a b) {x:α}:x∈b↔x∈a:=h.perm.mem_iff.symm
theorem pe.length {α:Type} {k:α->Int} {a b:List α} (h:pe k a b):b.length=a.length:=h.perm.length_eq.symm
def Srt {α:Type} (k:α->Int) (l:List α):Prop:=l.Pairwise fun x y=>k x<=k y
theorem Srt.append {α:Type} {k:α->Int} {a b:List α} (ha:Srt k a) (hb:Srt k b) (h:∀ x∈a,∀ y∈b,k x<=k y):Srt k (a++b):=P3.2 ⟨ha,hb,h⟩
theorem Srt.left {α:Type} {k:α->Int} {a b:List α} (h:Srt k (a++b)):Srt k a:=(P3.1 h).1
theorem Srt.right {α:Type} {k:α->Int} {a b:List α} (h:Srt k (a++b)):Srt k b:=(P3.1 h).2.1
section
variable {k:Option Nat->Int} {ar:List k9} {ok:Option Nat->Prop}
end
end Go.Md
namespace Go.Md
open Go.Dn
section
variable {k:Option Nat->Int} {ar:List k9} {ok:Option Nat->Prop}
end
end Go.Md
namespace Go.Md
open Go.Dn
theorem Srt.get {α:Type} {k:α->Int} {l:List α} (h:Srt k l) {i j:Nat} (hij:i<=j) (hj:j<l.length):k (l[i]'(by omega))<=k l[j]:=by
 rcases Nat.lt_or_eq_of_le hij with h1 | h1
 ·exact List.pairwise_iff_getElem.1 h i j (by omega) hj h1
 ·subst h1;exact Int.le_refl _
section
variable {k:Option Nat->Int} {ar:List k9} {ok:Option Nat->Prop}
end
end Go.Md
namespace Go.Md
open Go.Dn
section
variable {k:Option Nat->Int} {ar:List k9} {ok:Option Nat->Prop}
end
end Go.Md
namespace Go.Md
open Go.Dn
def ChS {α:Type} (k:α->Int) (bs:Nat) (l:List α):Prop:=∀ j:Nat,Srt k ((l.drop (j*bs)).take bs)
theorem ChS.nil {α:Type} (k:α->Int) (bs:Nat):ChS k bs []:=fun _=>by simp[Srt]
theorem ChS.snoc {α:Type} {k:α->Int} {bs:Nat} {A S:List α} {j:Nat} (h:ChS k bs A) (hA:A.length=j*bs) (hS:Srt k S) (hl:S.length<=bs):ChS k bs (A++S):=by
 intro i
 rcases Qr i j with hij | hij | hij
 ·have h1:(i+1)*bs<=j*bs:=Qt _ hij
  rw[Qd,Nat.one_mul] at h1
  rw[List.drop_append_of_le_length (by omega),List.take_append_of_le_length (by rw[List.length_drop];omega)]
  exact h i
 ·subst hij
  rw[<- hA,O6,Qa hl]
  exact hS
 ·have h1:(j+1)*bs<=i*bs:=Qt _ hij
  rw[Qd,Nat.one_mul] at h1
  rw[O7 (by rw[PD];omega)]
  simp[Srt]
theorem ChS.drop {α:Type} {k:α->Int} {bs:Nat} {l:List α} (h:ChS k bs l) (i:Nat):ChS k bs (l.drop (i*bs)):=by
 intro j
 rw[O4, <- Qd]
 exact h (i+j)
theorem Srt.take {α:Type} {k:α->Int} {l:List α} (h:Srt k l) (n:Nat):Srt k (l.take n):=by
 rw[<- P8 n l] at h;exact h.left
section
variable {k:Option Nat->Int} {ar:List k9} {ok:Option Nat->Prop}
end
end Go.Md
namespace Go.Md
open Go.Dn
def oc {α:Type} (g:Nat->α->Int):Nat->List α->Int
 | _,[]=>0
 | i,y::r=>if g i y=0 then oc g (i+1) r else g i y
theorem jF (a b c:Int):eg a b c=some (decide (a<b\/c<a),()):=by
 unfold eg
 by_cases h:a<b
 ·rw[aJ h];simp[h]
 ·rw[aN h];simp[h]
theorem zM (n:Int):oU n=some (decide (1<=n/\n<=3652059),()):=by
 unfold oU
 rw[jF,Qy]
 congr 2
 simp only[<- decide_not]
 congr 1
 simp only[eq_iff_iff];omega
def nq (s:List UInt8):Bool:=((gP s).map (·.1)).getD false
theorem F2 (s:List UInt8):gP s=some (nq s,()):=by
 have:∃ b,gP s=some (b,()):=by
  unfold gP
  by_cases h1:(s.length:Int)<1
  ·rw[aJ h1];exact⟨_,rfl⟩
  ·rw[aN h1]
   by_cases h2:(s.length:Int)>40
   ·rw[aJ h2];exact⟨_,rfl⟩
   ·rw[aN h2]
    have hs:fJ s 0=some (s[0]'(by omega)):=by simp[fJ]
    rw[hs]
    simp only[Qy]
    have ht:dY s [97,98,99,100,101,102,103,104,105,106,107,108,109,110,111,112,113,114,115,116,117,118,119,120,121,122,48,49,50,51,52,53,54,55,56,57,45]=some (Lib.trimS s [97,98,99,100,101,102,103,104,105,106,107,108,109,110,111,112,113,114,115,116,117,118,119,120,121,122,48,49,50,51,52,53,54,55,56,57,45],()):=by
     unfold dY
     rw[show (decide (s.length<=9223372036854775807))=true by simp;omega]
     rfl
    rw[ht]
    simp only[Qy]
    generalize (decide ((((s[0]'(by omega)).toNat:Int))<97))=b1
    generalize (decide ((((s[0]'(by omega)).toNat:Int))>122))=b2
    cases b1<;>cases b2<;>exact⟨_,rfl⟩
 obtain⟨b,hb⟩:=this
 unfold nq
 rw[hb];rfl
theorem vk (d:aa):eH d=some (if -1000000000000000<=d.1/\d.1<=1000000000000000/\0<=d.2/\d.2<=9 then 0 else 1,()):=by
 unfold eH
 rw[jF,Qy,jF]
 simp only[Qy]
 by_cases h1:d.1< -1000000000000000\/1000000000000000<d.1
 ·rw[aJ h1,QW (by omega)]
 ·rw[aN h1]
  by_cases h2:d.2<0\/9<d.2
  ·rw[aJ h2,QW (by omega)]
  ·rw[aN h2,QX (by omega)]
theorem Mh {n:Nat} (h:n<=18):(10:Int) ^ n<=1000000000000000000:=by
 have:=Qv (n:=10) (by omega) h
 have h2:=Int.ofNat_le.2 this
 simpa using h2
theorem rW (n:Nat):(0:Int)<10 ^ n:=Cn (by omega) n
theorem FP (n:Int) (h0:0<=n) (h1:n<=18):CI n=some (10 ^ n.toNat,()):=by
 obtain⟨m,rfl⟩:∃ m:Nat,n=m:=⟨n.toNat,by omega⟩
 unfold CI
 have:iter (X:=nR) (β:=nQ) (Int.natAbs (1:Int)+(Int.natAbs (m:Int)+(Int.natAbs (0:Int)+2))) (1,(m:Int),0,()) nP=some (Sum.inr (10 ^ m,())):=by
  refine bT (Inv:=fun i x=>x=(10 ^ i,(m:Int),(i:Int),())) m (fun r=>r=some (Sum.inr (10 ^ m,()))) ?_ ?_ _ 0 _ (by simp) (by omega) (by omega)
  ·rintro i _ again hi rfl ih
   unfold nP
   dsimp only
   have h10:=Mh (n:=i+1) (by omega)
   have hp:=rW (i+1)
   rw[OP] at h10 hp
   rw[aJ (by omega),aA (by omega) (by omega),aA (by omega) (by omega)]
   exact ih _ (by rw[OP];rfl)
  ·rintro _ again rfl
   unfold nP
   dsimp only
   rw[aN (by omega)]
 rw[this,az]
 simp
def AA (d:aa):Prop:=0<d.1/\0<=d.2/\d.2<=4/\d.1<=1000000000*10 ^ d.2.toNat
instance (d:aa):Decidable (AA d):=by unfold AA;exact inferInstance
theorem tg (l:List (List UInt8)) (y:List UInt8) (hl:l.length<1000000000):dJ l y=some (l.any (fun o=>o==y),()):=by
 unfold dJ dM
 have loop:iter (X:=cY) (β:=cX) (List.length l+(List.length y+(Int.natAbs ((List.length l:Int))+(Int.natAbs (0:Int)+2)))) (l,y,(List.length l:Int),0,()) cG=some (Sum.inr ())/\l.any (fun o=>o==y)=false\/
  ∃ i:Nat,iter (X:=cY) (β:=cX) (List.length l+(List.length y+(Int.natAbs ((List.length l:Int))+(Int.natAbs (0:Int)+2)))) (l,y,(List.length l:Int),0,()) cG=some (Sum.inl ((i:Int),()))/\l.any (fun o=>o==y)=true:=by
  refine bT (Inv:=fun i x=>x=(l,y,(List.length l:Int),(i:Int),())/\(l.take i).any (fun o=>o==y)=false) l.length (fun r=>r=some (Sum.inr ())/\l.any (fun o=>o==y)=false\/∃ i:Nat,r=some (Sum.inl ((i:Int),()))/\l.any (fun o=>o==y)=true) ?_ ?_ _ 0 _ ⟨rfl,by simp⟩ (by omega) (by omega)
  ·rintro i _ again hi ⟨rfl,hn⟩ ih
   unfold cG
   dsimp only
   have hy:l[i]? =some l[i]:=aP hi
   rw[aJ (by omega),cM,hy,Qy]
   cases hb:(y==l[i]) with
   | true=>
    right
    exact⟨i,rfl,OY.2 ⟨l[i],Pz _,by rw[eq_of_beq hb];simp⟩⟩
   | false=>
    rw[QI,aA (by omega) (by omega)]
    refine ih _ ⟨rfl, ?_⟩
    rw[List.take_add_one,hy,List.any_append,hn]
    have:(l[i]==y)=false:=by
     cases h:(l[i]==y) with
     | false=>rfl
     | true=>rw[eq_of_beq h] at hb;simp at hb
    simp[this]
  ·rintro _ again ⟨rfl,hn⟩
   unfold cG
   dsimp only
   rw[aN (by omega)]
   rw[Qa (Qm _)] at hn
   exact .inl ⟨rfl,hn⟩
 rcases loop with ⟨h1,h2⟩ | ⟨i,h1,h2⟩
 ·rw[h1,az,Qy,h2];rfl
 ·rw[h1,uZ,Qy,h2];simp
structure Ng (d:ko):Prop where
 day0:1<=d.2.1
 day1:d.2.1<=3652059
 mon:AA d.2.2.1
 days0:0<=d.2.2.2.1
 days1:d.2.2.2.1<=10000
 with0:0<=d.2.2.2.2.1
 with1:d.2.2.2.2.1<=d.2.2.2.1
 disc0:0<=d.2.2.2.2.2
 disc1:d.2.2.2.2.2<=1000
structure Od (p:FJ):Prop where
 day0:1<=p.1
 day1:p.1<=3652059
 mon:AA p.2.1
 names:p.2.2.length<=100
end Go.Md
namespace Go.Md
open Go.Dn
def AF (d:aa):Int:=d.1*10 ^ (4 - d.2).toNat
theorem AA.AF {d:aa} (h:AA d):0<AF d/\AF d<=10000000000000:=by
 obtain⟨h1,h2,h3,h4⟩:=h
 unfold Md.AF
 have hp:=rW (4 - d.2).toNat
 refine⟨Int.mul_pos h1 hp, ?_⟩
 have a1:d.1*10 ^ (4 - d.2).toNat<=1000000000*10 ^ d.2.toNat*10 ^ (4 - d.2).toNat:=Int.mul_le_mul_of_nonneg_right h4 (by omega)
 rw[OJ, <- OO,show d.2.toNat+(4 - d.2).toNat=4 by omega] at a1
 omega
abbrev Bd:=k9
def Kb (x:Bd):Int:=x.2.1
def Kh (x:Bd):Int:=x.2.2.1
def taken (x:Bd):Int:=x.2.2.2.1
def done (x:Bd):Int:=x.2.2.2.2
structure Gv (x:Bd):Prop where
 d:Ng x.1
 owes0:0<=Kb x
 paid0:0<=Kh x
 taken0:0<=taken x
 sum:Kb x+Kh x+taken x=AF x.1.2.2.1
 none:done x=0->taken x=0
 done0:done x=0\/x.1.2.1<=done x
 iff:Kb x=0↔done x≠0
theorem Gv.le {x:Bd} (h:Gv x):Kb x<=10000000000000/\Kh x<=10000000000000/\taken x<=10000000000000:=by
 have:=h.d.mon.AF;have:=h.sum;have:=h.owes0;have:=h.paid0;have:=h.taken0;omega
section
variable {ar:List Bd} {h:Nat} {x:Bd}
theorem Na {α:Type} {l:List α} {i:Nat} {x y:α} (h:l[i]? =some x):(l.set i y)[i]? =some y:=Pv (Pp.1 h).1
end
end Go.Md
namespace Go.Md
open Go.Dn
structure gG (ds:List ko) (ar:List Bd):Prop where
 ds:ar.map (·.1)=ds
 ok:∀ x∈ar,Gv x
theorem gG.len {ds:List ko} {ar:List Bd} (h:gG ds ar):ar.length=ds.length:=by rw[<- h.ds];simp
theorem gG.set {ds:List ko} {ar:List Bd} (h:gG ds ar) {i:Nat} {x y:Bd} (hx:ar[i]? =some x) (hy:Gv y) (he:y.1=x.1):gG ds (ar.set i y):=by
 refine⟨?_,fun z hz=> ?_⟩
 ·rw[List.map_set,he, <- h.ds]
  apply Pc
  intro j
  by_cases hj:i=j
  ·subst hj
   rw[Pv (by simp;exact (Pp.1 hx).1),Pq,hx];rfl
  ·rw[Pu hj]
 ·rcases PZ hz with hz | rfl
  ·exact h.ok z hz
  ·exact hy
theorem gG.get {ds:List ko} {ar:List Bd} (h:gG ds ar) {i:Nat} {x:Bd} (hx:ar[i]? =some x):Gv x:=h.ok x (PY hx)
def Nc (ar:List Bd):Int:=(ar.map Kh).sum
structure Of (ds:List ko) (L T:Int) (s:Int×List Bd):Prop where
 ar:gG ds s.2
 l0:0<=s.1
 l1:s.1<=L
 tot:s.1+Nc s.2=T
end Go.Md
namespace Go.Md
open Go.Dn
def few:Nat->Int->Int×Nat
 | 0,z=>(z,0)
 | p+1,z=>if z % 10=0 then few p (z / 10) else (z,p+1)
theorem vT (z:Int) (p:Int):lf (W z) p=some (if z.natAbs<=1000000000000000 then ((z,p),0,()) else ((0,0),1,())):=by
 unfold lf
 rw[Cw z 1000000000000000 (by omega) (by omega),Qy]
 by_cases h:(z.natAbs:Int)<=1000000000000000
 ·rw[QX h,QX (by omega)];rfl
 ·rw[QW h,QW (by omega)];rfl
def lE (d:aa):Int:=d.1*10 ^ (9 - d.2).toNat
def eo (d:aa):Prop:=d.1.natAbs<=1000000000000000/\0<=d.2/\d.2<=9
theorem EC {z:Int} (h:z.natAbs<1000000000000000000000000000000000000000000000000000000000000):(dg6 z.natAbs).length<=10:=I5 (k:=10) (by simpa using h)
theorem IT (n:Nat) (hn:n<=40):xT (n:Int)=some (N (10 ^ n),()):=by
 unfold xT
 rw[Co 1 (by omega) (by omega),Qy]
 dsimp only
 have hb:∀ i:Nat,i<=41->(dg6 ((10:Int) ^ i).natAbs).length<=10:=by
  intro i hi
  refine EC ?_
  have h1:((10:Int) ^ i).natAbs=10 ^ i:=by rw[Int.natAbs_pow];rfl
  have h2:=Qv (n:=10) (by omega) hi
  omega
 have loop:iter (X:=rA) (β:=rz) (Int.natAbs (n:Int)+(Int.natAbs (0:Int)+(List.length ([]:List Int)+(List.length (N 1).2+2)))) ((n:Int),0,false,[],(N 1).1,(N 1).2,()) ry=some (Sum.inr (false,[],(N (10 ^ n)).1,(N (10 ^ n)).2,())):=by
  refine bT (Inv:=fun i x=>x=((n:Int),(i:Int),false,[],(N (10 ^ i)).1,(N (10 ^ i)).2,())) n (fun r=>r=some (Sum.inr (false,[],(N (10 ^ n)).1,(N (10 ^ n)).2,()))) ?_ ?_ _ 0 _ (by simp) (by omega) (by omega)
  ·rintro i _ again hi rfl ih
   unfold ry
   dsimp only
   rw[aJ (by omega),Co 10 (by omega) (by omega),Qy]
   change (Option.bind (mT (N (10 ^ i)) (N 10)) _)=_
   have h10:(dg6 (10:Int).natAbs).length<=10:=EC (by decide)
   rw[yg _ _ (by have:=hb i (by omega);omega) (by omega),Qy]
   dsimp only
   rw[aA (by omega) (by omega)]
   exact ih _ (by rw[OP];rfl)
  ·rintro _ again rfl
   unfold ry
   dsimp only
   rw[aN (by omega)]
 rw[loop,az]
theorem HK (d:aa) (hd:eo d):xR d 9=some (N (lE d),()):=by
 obtain⟨h1,h2,h3⟩:=hd
 unfold xR
 rw[Co _ (by omega) (by omega),Qy,aA (by omega) (by omega)]
 dsimp only
 obtain⟨m,hm⟩:∃ m:Nat,9 - d.2=m:=⟨(9 - d.2).toNat,by omega⟩
 rw[hm,IT m (by omega),Qy]
 dsimp only
 have hl1:(dg6 d.1.natAbs).length<=10:=EC (by omega)
 have hl2:(dg6 ((10:Int) ^ m).natAbs).length<=10:=by
  refine EC ?_
  have h1:((10:Int) ^ m).natAbs=10 ^ m:=by rw[Int.natAbs_pow];rfl
  have h2:=Qv (n:=10) (by omega) (show m<=9 by omega)
  omega
 rw[yg _ _ (by omega) (by omega),Qy]
 unfold lE
 rw[hm];rfl
theorem CT {d:aa} (hd:eo d):(lE d).natAbs<=1000000000000000000000000:=by
 obtain⟨h1,h2,h3⟩:=hd
 unfold lE
 rw[Int.natAbs_mul,Int.natAbs_pow]
 have h4:=Qv (n:=10) (by omega) (show (9 - d.2).toNat<=9 by omega)
 have h5:d.1.natAbs*(10:Int).natAbs ^ (9 - d.2).toNat<=1000000000000000*1000000000:=Nat.mul_le_mul h1 (by simpa using h4)
 omega
end Go.Md
namespace Go.Md
open Go.Dn
end Go.Md
namespace Go.Md
open Go.Dn
def pJ (day:Int) (x:Bd):Int:=max 0 (day - (x.1.2.1+x.1.2.2.2.1))
end Go.Md
namespace Go.Md
open Go.Dn
theorem Dc {X α B:Type} {f:X->(X->Option B)->Option B} (mk:Nat->X) (l:List α) (g:Nat->α->Int) (fin:Option B) (out:Int->Option B) (hstep:∀ i y again,l[i]? =some y->f (mk i) again=if g i y=0 then again (mk (i+1)) else out (g i y)) (hend:∀ again,f (mk l.length) again=fin): ∀ (r:List α) (i n:Nat),l.drop i=r->i<=l.length->r.length<n->iter n (mk i) f=if oc g i r=0 then fin else out (oc g i r)
 | _,_,0,_,_,hn=>absurd hn (Qu _)
 | [],i,n+1,hd,hi,_=>by
  have:i=l.length:=by
   have:=congrArg List.length hd
   simp at this;omega
  subst this
  rw[jW,hend];rfl
 | y::r,i,n+1,hd,hi,hn=>by
  have hy:l[i]? =some y:=by
   have:=congrArg (·[0]?) hd
   simpa [Pm] using this
  have hr:l.drop (i+1)=r:=by
   have:=congrArg List.tail hd
   simpa [P7] using this
  have hi':i<l.length:=(Pp.1 hy).1
  rw[jW,hstep i y _ hy]
  by_cases hg:g i y=0
  ·have e:oc g i (y::r)=oc g (i+1) r:=by simp[oc,hg]
   rw[QX hg,e]
   exact Dc mk l g fin out hstep hend r (i+1) n hr hi' (by simp at hn;omega)
  ·have e:oc g i (y::r)=g i y:=by simp[oc,hg]
   rw[QW hg,e,QW hg]
end Go.Md
namespace Go.Md
open Go.Dn
def Gz (D:Int) (S:Nat->Prop) (ar:List Bd):Prop:=∀ i x,S i->ar[i]? =some x->done x=0\/D<done x
theorem Gz.set {D:Int} {S:Nat->Prop} {ar:List Bd} {h:Nat} {x y:Bd} (hq:Gz D S ar) (hx:ar[h]? =some x) (hy:(done x=0\/D<done x)->(done y=0\/D<done y)):Gz D S (ar.set h y):=by
 intro i z hi hz
 by_cases e:h=i
 ·subst e
  rw[Na hx] at hz
  cases hz
  exact hy (hq h x hi hx)
 ·rw[Pu e] at hz
  exact hq i z hi hz
end Go.Md
namespace Go.Md
open Go.Dn
def nmC:List UInt8:=[97,98,99,100,101,102,103,104,105,106,107,108,109,110,111,112,113,114,115,116,117,118,119,120,121,122,48,49,50,51,52,53,54,55,56,57,45]
def nmB (c:UInt8):Bool:=nmC.contains c
set_option maxRecDepth 100000 in
theorem MT:∀ n:Fin 256,nmB (UInt8.ofNat n.1)=((decide (97<=n.1)&&decide (n.1<=122))||((decide (48<=n.1)&&decide (n.1<=57))||decide (n.1=45))):=by decide
theorem Nu (c:UInt8):nmB c=((decide (97<=c.toNat)&&decide (c.toNat<=122))||((decide (48<=c.toNat)&&decide (c.toNat<=57))||decide (c.toNat=45))):=by
 have:=MT ⟨c.toNat,UInt8.toNat_lt c⟩
 simpa using this
theorem uS {α:Type} {p:α->Bool}:∀ {l:List α},l.dropWhile p=[]↔∀ x∈l,p x=true
 | []=>by simp
 | y::r=>by
  cases hp:p y with
  | true=>rw[List.dropWhile_cons_of_pos hp,uS];simp[hp]
  | false=>rw[List.dropWhile_cons_of_neg (by simp[hp])];simp[hp]
theorem C2 {α:Type} {p:α->Bool} {y:α} {r:List α}:∀ {l:List α},l.dropWhile p=y::r->p y=false
 | [],h=>by simp at h
 | z::t,h=>by
  cases hp:p z with
  | true=>rw[List.dropWhile_cons_of_pos hp] at h;exact C2 h
  | false=>rw[List.dropWhile_cons_of_neg (by simp[hp])] at h;cases h;exact hp
theorem LF (s c:List UInt8):(Lib.trimS s c==[])=s.all (c.contains ·):=by
 rw[Ov]
 simp only[beq_iff_eq,OW]
 unfold Lib.trimS Lib.trimLeftS Lib.trimRightS
 constructor
 ·intro h
  rw[uS] at h
  cases hd:s.reverse.dropWhile (c.contains ·) with
  | nil=>
   rw[uS] at hd
   intro x hx
   exact hd x (by simpa using hx)
  | cons y r=>
   exfalso
   have h1:=h y (by rw[hd];simp)
   have h2:=C2 hd
   rw[h1] at h2
   cases h2
 ·intro h
  have:s.reverse.dropWhile (c.contains ·)=[]:=uS.2 fun x hx=>h x (by simpa using hx)
  rw[this];rfl
theorem FC {α:Type} (p:α->Bool) (e:Int) (he:e≠0):∀ (l:List α) (i:Nat),oc (fun _ c=>if p c=true then 0 else e) i l=if l.all p=true then 0 else e
 | [],i=>by simp[oc]
 | y::r,i=>by
  have ih:=FC p e he r (i+1)
  cases hp:p y with
  | true=>simp only[oc,hp,QY,OU,OG];exact ih
  | false=>simp[oc,hp,he]
theorem oG {s:List UInt8} {i:Nat} {c:UInt8} (h:s[i]? =some c):fJ s (i:Int)=some c:=by simp[fJ,h]
theorem HL (s:List UInt8):rZ s=some (nq s,()):=by
 unfold rZ nq gP Ac
 by_cases h0:s=[]
 ·subst h0;rfl
 have hb:(s==[])=false:=by simpa using h0
 have hl:0<s.length:=List.length_pos_iff.2 h0
 rw[hb,QI,aN (show ¬((s.length:Int)<1) by omega)]
 by_cases h2:(s.length:Int)>40
 ·rw[aJ h2,aJ h2];rfl
 rw[aN h2,aN h2]
 have hs:fJ s 0=some (s[0]'hl):=oG (i:=0) (aP hl)
 simp only[hs,Qy]
 by_cases h3:(((s[0]'hl).toNat:Int))<97
 ·simp only[aJ h3];rfl
 simp only[aN h3]
 by_cases h4:(((s[0]'hl).toNat:Int))>122
 ·simp only[aJ h4];rfl
 simp only[aN h4]
 have ht:dY s [97,98,99,100,101,102,103,104,105,106,107,108,109,110,111,112,113,114,115,116,117,118,119,120,121,122,48,49,50,51,52,53,54,55,56,57,45]=some (Lib.trimS s nmC,()):=by
  unfold dY
  rw[show (decide (s.length<=9223372036854775807))=true by simp;omega]
  rfl
 rw[ht,Qy]
 have loop:=Dc (f:=pW) (fun i=>(s,(s.length:Int),(i:Int),())) s (fun _ c=>if nmB c=true then 0 else 1) (some (Sum.inr ())) (fun _=>some (Sum.inl (false,())))
  (fun i c again hi=>by
    have hil:=(Pp.1 hi).1
    unfold pW
    dsimp only
    rw[aJ (show (i:Int)<(s.length:Int) by omega),oG hi,Qy,Nu c,aA (by omega) (by omega)]
    by_cases a1:(c.toNat:Int)<97<;>by_cases a2:(c.toNat:Int)>122<;>by_cases a3:(c.toNat:Int)<48<;>by_cases a4:(c.toNat:Int)>57<;>by_cases a5:(c.toNat:Int)=45<;>
      first
      | omega
      | (have b1:(97<=c.toNat)=¬ ((c.toNat:Int)<97):=by simp only[eq_iff_iff];omega
         have b2:(c.toNat<=122)=¬ ((c.toNat:Int)>122):=by simp only[eq_iff_iff];omega
         have b3:(48<=c.toNat)=¬ ((c.toNat:Int)<48):=by simp only[eq_iff_iff];omega
         have b4:(c.toNat<=57)=¬ ((c.toNat:Int)>57):=by simp only[eq_iff_iff];omega
         have b5:(c.toNat=45)=((c.toNat:Int)=45):=by simp only[eq_iff_iff];omega
         simp only[b1,b2,b3,b4,b5,a1,a2,a3,a4,a5,bne,QS,QO,not_true_eq_false,Q1,Ou,OG,Oq,Bool.false_and,Bool.or_true,Bool.true_or,Bool.or_false,Oy,QJ,QI,QY,Ow,QV,Int.one_ne_zero,QG,OD]
         first | rfl | (have a6:((c.toNat:Int)==45)=false:=(by simp only[beq_eq_false_iff_ne,ne_eq];exact a5);rw[a6];rfl)))
  (fun again=>by
    unfold pW
    dsimp only
    rw[aN (by omega)])
  s 0 (List.length s+(Int.natAbs ((List.length s:Int))+(Int.natAbs (0:Int)+2))) rfl (Qx _) (by omega)
 rw[show ((0:Nat):Int)=0 from rfl] at loop
 rw[loop,FC nmB 1 (by omega),LF]
 have e:(s.all fun x=>nmC.contains x)=s.all nmB:=rfl
 rw[e]
 cases s.all nmB<;>rfl
theorem uk (a b c:Int):oX a b c=some (decide (b<=a/\a<=c),()):=by
 unfold oX
 by_cases h:b<=a
 ·rw[aJ h];simp[h]
 ·rw[aN h];simp[h]
theorem Bz (n:Int):ud n=some (decide (1<=n/\n<=3652059),()):=by
 unfold ud Cp
 rw[uk];rfl
theorem Aa (d:aa):gD d=some (if -1000000000000000<=d.1/\d.1<=1000000000000000/\0<=d.2/\d.2<=9 then 0 else 1,()):=by
 unfold gD
 rw[uk,Qy]
 by_cases h1: -1000000000000000<=d.1/\d.1<=1000000000000000
 ·rw[QM h1]
  simp only[OD,QI]
  rw[uk,Qy]
  by_cases h2:0<=d.2/\d.2<=9
  ·rw[QM h2,QX ⟨h1.1,h1.2,h2⟩];rfl
  ·rw[QL h2,QW (fun h=>h2 h.2.2)];rfl
 ·rw[QL h1,QW (fun h=>h1 ⟨h.1,h.2.1⟩)];rfl
theorem Kk {a b:aa} (ha:eo a) (hb:eo b):Ju a b=some ((lE a - lE b).sign,()):=by
 unfold Ju
 have l1:=CT ha
 have l2:=CT hb
 have m1:=EC (z:=lE a) (by omega)
 have m2:=EC (z:=lE b) (by omega)
 rw[HK a ha,Qy,HK b hb,Qy,Ls _ _ (by omega) (by omega)]
 rfl
instance (d:aa):Decidable (eo d):=by unfold eo;infer_instance
end Go.Md
