/-
  Plain facts, small ones. No condition.
-/
import Derived.Test.YtfeonoiibclkiaaGreatDoorYp
import Derived.Test.YtfeonoiibclkiaaGreatDoorYm
set_option linter.all false
namespace Go.Md
open Go.Dn
structure nL {α:Type} (k:α→Int) (l l':List α):Prop where
 perm:l.Perm l'
 keys:∀ v,l'.filter (fun x=>k x==v)=l.filter (fun x=>k x==v)
theorem nL.refl {α:Type} (k:α→Int) (l:List α):nL k l l:=⟨List.Perm.refl _,fun _=>rfl⟩
theorem nL.trans {α:Type} {k:α→Int} {a b c:List α} (h:nL k a b) (g:nL k b c):nL k a c:=⟨h.perm.trans g.perm,fun v=>(g.keys v).trans (h.keys v)⟩
theorem nL.append {α:Type} {k:α→Int} {a b c d:List α} (h:nL k a b) (g:nL k c d):nL k (a++c) (b++d):=
 ⟨h.perm.append g.perm,fun v=>by rw[To,To,h.keys,g.keys]⟩
theorem nL.mem {α:Type} {k:α→Int} {a b:List α} (h:nL k a b) {x:α}:x∈b↔x∈a:=h.perm.mem_iff.symm
theorem nL.length {α:Type} {k:α→Int} {a b:List α} (h:nL k a b):b.length=a.length:=h.perm.length_eq.symm
theorem nL.swap {α:Type} {k:α→Int} {u v:List α} (h:∀ x∈u,∀ y∈v,k x≠k y):nL k (u++v) (v++u):=by
 refine⟨List.perm_append_comm,fun w=> ?_⟩
 rw[To,To]
 by_cases hu:∃ x∈u,k x=w
 ·obtain⟨x,hx,rfl⟩:=hu
  have:v.filter (fun y=>k y==k x)=[]:=by
   rw[List.filter_eq_nil_iff]
   intro y hy
   simpa using fun e=>h x hx y hy e.symm
  rw[this];simp
 ·have:u.filter (fun y=>k y==w)=[]:=by
   rw[List.filter_eq_nil_iff]
   intro y hy
   simpa using fun e=>hu ⟨y,hy,e⟩
  rw[this];simp
def Srt {α:Type} (k:α→Int) (l:List α):Prop:=l.Pairwise fun x y=>k x≤k y
theorem Srt.append {α:Type} {k:α→Int} {a b:List α} (ha:Srt k a) (hb:Srt k b) (h:∀ x∈a,∀ y∈b,k x≤k y):Srt k (a++b):=Ue.2 ⟨ha,hb,h⟩
theorem Srt.left {α:Type} {k:α→Int} {a b:List α} (h:Srt k (a++b)):Srt k a:=(Ue.1 h).1
theorem Srt.right {α:Type} {k:α→Int} {a b:List α} (h:Srt k (a++b)):Srt k b:=(Ue.1 h).2.1
section
variable {k:Option Nat→Int} {ar:List mQ} {ok:Option Nat→Prop}
end
end Go.Md
namespace Go.Md
open Go.Dn
section
variable {k:Option Nat→Int} {ar:List mQ} {ok:Option Nat→Prop}
end
end Go.Md
namespace Go.Md
open Go.Dn
theorem Srt.get {α:Type} {k:α→Int} {l:List α} (h:Srt k l) {i j:Nat} (hij:i≤j) (hj:j<l.length):k (l[i]'(by omega))≤k l[j]:=by
 rcases Nat.lt_or_eq_of_le hij with h1 | h1
 ·exact Uf.1 h i j (by omega) hj h1
 ·subst h1;exact SM _
section
variable {k:Option Nat→Int} {ar:List mQ} {ok:Option Nat→Prop}
end
end Go.Md
namespace Go.Md
open Go.Dn
section
variable {k:Option Nat→Int} {ar:List mQ} {ok:Option Nat→Prop}
end
end Go.Md
namespace Go.Md
open Go.Dn
def ChS {α:Type} (k:α→Int) (bs:Nat) (l:List α):Prop:=∀ j:Nat,Srt k ((l.drop (j*bs)).take bs)
theorem ChS.nil {α:Type} (k:α→Int) (bs:Nat):ChS k bs []:=fun _=>by simp[Srt]
theorem ChS.snoc {α:Type} {k:α→Int} {bs:Nat} {A S:List α} {j:Nat} (h:ChS k bs A) (hA:A.length=j*bs) (hS:Srt k S) (hl:S.length≤bs):ChS k bs (A++S):=by
 intro i
 rcases UH i j with hij | hij | hij
 ·have h1:(i+1)*bs≤j*bs:=UL _ hij
  rw[Uq,UN] at h1
  rw[List.drop_append_of_le_length (by omega),List.take_append_of_le_length (by rw[List.length_drop];omega)]
  exact h i
 ·subst hij
  rw[← hA,Ti,Um hl]
  exact hS
 ·have h1:(j+1)*bs≤i*bs:=UL _ hij
  rw[Uq,UN] at h1
  rw[Tj (by rw[TM];omega)]
  simp[Srt]
theorem ChS.drop {α:Type} {k:α→Int} {bs:Nat} {l:List α} (h:ChS k bs l) (i:Nat):ChS k bs (l.drop (i*bs)):=by
 intro j
 rw[Tg, ← Uq]
 exact h (i+j)
theorem Srt.take {α:Type} {k:α→Int} {l:List α} (h:Srt k l) (n:Nat):Srt k (l.take n):=by
 rw[← Uk n l] at h;exact h.left
section
variable {k:Option Nat→Int} {ar:List mQ} {ok:Option Nat→Prop}
end
end Go.Md
namespace Go.Md
open Go.Dn
def dR {α:Type} (g:Nat→α→Int):Nat→List α→Int
 | _,[]=>0
 | i,y::r=>if g i y=0 then dR g (i+1) r else g i y
theorem iC {α:Type} {g:Nat→α→Int}:∀ {l:List α} {i:Nat},dR g i l=0→∀ j y,l[j]? =some y→g (i+j) y=0
 | [],_,_,_,_,h=>by simp at h
 | y::r,i,h,j,z,hz=>by
  simp only[dR] at h
  by_cases hg:g i y=0
  ·rw[Vg hg] at h
   cases j with
   | zero=>simp at hz;subst hz;exact hg
   | succ j=>have:=iC h j z (by simpa using hz);rw[show i+(j+1)=i+1+j by omega];exact this
  ·rw[Vf hg] at h;exact absurd h hg
theorem IM {X α:Type} {γ:Type} {f:X→(X→Option ((Int×Unit) ⊕ γ))→Option ((Int×Unit) ⊕ γ)} (mk:Nat→X) (l:List α) (g:Nat→α→Int) (u:γ)
 (hstep:∀ i y again,l[i]? =some y→f (mk i) again=if g i y=0 then again (mk (i+1)) else some (Sum.inl (g i y,()))) (hend:∀ again,f (mk l.length) again=some (Sum.inr u)):
 ∀ (r:List α) (i n:Nat),l.drop i=r→i≤l.length→r.length<n→iter n (mk i) f=if dR g i r=0 then some (Sum.inr u) else some (Sum.inl (dR g i r,()))
 | _,_,0,_,_,hn=>absurd hn (UM _)
 | [],i,n+1,hd,hi,_=>by
  have:i=l.length:=by
   have:=congrArg List.length hd
   simp at this;omega
  subst this
  rw[iH,hend];rfl
 | y::r,i,n+1,hd,hi,hn=>by
  have hy:l[i]? =some y:=by
   have:=congrArg (·[0]?) hd
   simpa [Tz] using this
  have hr:l.drop (i+1)=r:=by
   have:=congrArg List.tail hd
   simpa [List.tail_drop] using this
  have hi':i<l.length:=(TC.1 hy).1
  rw[iH,hstep i y _ hy]
  by_cases hg:g i y=0
  ·have e:dR g i (y::r)=dR g (i+1) r:=by simp[dR,hg]
   rw[Vg hg,e]
   exact IM mk l g u hstep hend r (i+1) n hr hi' (by simp at hn;omega)
  ·have e:dR g i (y::r)=g i y:=by simp[dR,hg]
   rw[Vf hg,e,Vf hg]
theorem oH (a b c:Int):iJ a b c=some (decide (a<b∨c<a),()):=by
 unfold iJ
 by_cases h:a<b
 ·rw[aK h];simp[h]
 ·rw[aT h];simp[h]
theorem KR (n:Int):yl n=some (decide (1≤n∧n≤3652059),()):=by
 unfold yl
 rw[oH,UT]
 congr 2
 simp only[← decide_not]
 congr 1
 simp only[eq_iff_iff];omega
def nP (s:List UInt8):Bool:=((eL s).map (·.1)).getD false
theorem Bc (s:List UInt8):eL s=some (nP s,()):=by
 have:∃ b,eL s=some (b,()):=by
  unfold eL
  by_cases h1:(s.length:Int)<1
  ·rw[aK h1];exact⟨_,rfl⟩
  ·rw[aT h1]
   by_cases h2:(s.length:Int)>40
   ·rw[aK h2];exact⟨_,rfl⟩
   ·rw[aT h2]
    have hs:vk s 0=some (s[0]'(by omega)):=by simp[vk]
    rw[hs]
    simp only[UT]
    have ht:lz s [97,98,99,100,101,102,103,104,105,106,107,108,109,110,111,112,113,114,115,116,117,118,119,120,121,122,48,49,50,51,52,53,54,55,56,57,45]=some (Lib.trimS s [97,98,99,100,101,102,103,104,105,106,107,108,109,110,111,112,113,114,115,116,117,118,119,120,121,122,48,49,50,51,52,53,54,55,56,57,45],()):=by
     unfold lz
     rw[show (decide (s.length≤9223372036854775807))=true by simp;omega]
     rfl
    rw[ht]
    simp only[UT]
    generalize (decide ((((s[0]'(by omega)).toNat:Int))<97))=b1
    generalize (decide ((((s[0]'(by omega)).toNat:Int))>122))=b2
    cases b1<;>cases b2<;>exact⟨_,rfl⟩
 obtain⟨b,hb⟩:=this
 unfold nP
 rw[hb];rfl
theorem yy (d:ak):gd d=some (if -1000000000000000≤d.1∧d.1≤1000000000000000∧0≤d.2∧d.2≤9 then 0 else 1,()):=by
 unfold gd
 rw[oH,UT,oH]
 simp only[UT]
 by_cases h1:d.1< -1000000000000000∨1000000000000000<d.1
 ·rw[aK h1,Vf (by omega)]
 ·rw[aT h1]
  by_cases h2:d.2<0∨9<d.2
  ·rw[aK h2,Vf (by omega)]
  ·rw[aT h2,Vg (by omega)]
theorem P8 {n:Nat} (h:n≤18):(10:Int) ^ n≤1000000000000000000:=by
 have:=UP (n:=10) (by omega) h
 have h2:=Int.ofNat_le.2 this
 simpa using h2
theorem CI (n:Nat):(0:Int)<10 ^ n:=Fc (by omega) n
theorem Jm (n:Int) (h0:0≤n) (h1:n≤18):FD n=some (10 ^ n.toNat,()):=by
 obtain⟨m,rfl⟩:∃ m:Nat,n=m:=⟨n.toNat,by omega⟩
 unfold FD
 have:iter (X:=qg) (β:=qd) (Int.natAbs (1:Int)+(Int.natAbs (m:Int)+(Int.natAbs (0:Int)+2))) (1,(m:Int),0,()) qc=some (Sum.inr (10 ^ m,())):=by
  refine bM (Inv:=fun i x=>x=(10 ^ i,(m:Int),(i:Int),())) m (fun r=>r=some (Sum.inr (10 ^ m,()))) ?_ ?_ _ 0 _ (by simp) (by omega) (by omega)
  ·rintro i _ again hi rfl ih
   unfold qc
   dsimp only
   have h10:=P8 (n:=i+1) (by omega)
   have hp:=CI (i+1)
   rw[SX] at h10 hp
   rw[aK (by omega),aB (by omega) (by omega),aB (by omega) (by omega)]
   exact ih _ (by rw[SX];rfl)
  ·rintro _ again rfl
   unfold qc
   dsimp only
   rw[aT (by omega)]
 rw[this,aS]
 simp
def x9 (d:ak):Prop:=0<d.1∧0≤d.2∧d.2≤4∧d.1≤1000000000*10 ^ d.2.toNat
instance (d:ak):Decidable (x9 d):=by unfold x9;exact inferInstance
theorem vS (l:List (List UInt8)) (y:List UInt8) (hl:l.length<1000000000):gy l y=some (l.any (fun o=>o==y),()):=by
 unfold gy nt
 have loop:iter (X:=eG) (β:=eE) (List.length l+(List.length y+(Int.natAbs ((List.length l:Int))+(Int.natAbs (0:Int)+2)))) (l,y,(List.length l:Int),0,()) eD=some (Sum.inr ())∧l.any (fun o=>o==y)=false∨
  ∃ i:Nat,iter (X:=eG) (β:=eE) (List.length l+(List.length y+(Int.natAbs ((List.length l:Int))+(Int.natAbs (0:Int)+2)))) (l,y,(List.length l:Int),0,()) eD=some (Sum.inl ((i:Int),()))∧l.any (fun o=>o==y)=true:=by
  refine bM (Inv:=fun i x=>x=(l,y,(List.length l:Int),(i:Int),())∧(l.take i).any (fun o=>o==y)=false) l.length (fun r=>r=some (Sum.inr ())∧l.any (fun o=>o==y)=false∨∃ i:Nat,r=some (Sum.inl ((i:Int),()))∧l.any (fun o=>o==y)=true) ?_ ?_ _ 0 _ ⟨rfl,by simp⟩ (by omega) (by omega)
  ·rintro i _ again hi ⟨rfl,hn⟩ ih
   unfold eD
   dsimp only
   have hy:l[i]? =some l[i]:=au hi
   rw[aK (by omega),bD,hy,UT]
   cases hb:(y==l[i]) with
   | true=>
    right
    exact⟨i,rfl,Tb.2 ⟨l[i],TL _,by rw[eq_of_beq hb];simp⟩⟩
   | false=>
    rw[U4,aB (by omega) (by omega)]
    refine ih _ ⟨rfl, ?_⟩
    rw[List.take_add_one,hy,List.any_append,hn]
    have:(l[i]==y)=false:=by
     cases h:(l[i]==y) with
     | false=>rfl
     | true=>rw[eq_of_beq h] at hb;simp at hb
    simp[this]
  ·rintro _ again ⟨rfl,hn⟩
   unfold eD
   dsimp only
   rw[aT (by omega)]
   rw[Um (Uy _)] at hn
   exact .inl ⟨rfl,hn⟩
 rcases loop with ⟨h1,h2⟩ | ⟨i,h1,h2⟩
 ·rw[h1,aS,UT,h2];rfl
 ·rw[h1,iI,UT,h2];simp
structure Q6 (d:lH):Prop where
 day0:1≤d.2.1
 day1:d.2.1≤3652059
 mon:x9 d.2.2.1
 days0:0≤d.2.2.2.1
 days1:d.2.2.2.1≤10000
 with0:0≤d.2.2.2.2.1
 with1:d.2.2.2.2.1≤d.2.2.2.1
 disc0:0≤d.2.2.2.2.2
 disc1:d.2.2.2.2.2≤1000
structure Sd (p:Jh):Prop where
 day0:1≤p.1
 day1:p.1≤3652059
 mon:x9 p.2.1
 names:p.2.2.length≤100
end Go.Md
namespace Go.Md
open Go.Dn
def C5 (d:ak):Int:=d.1*10 ^ (4 - d.2).toNat
theorem x9.C5 {d:ak} (h:x9 d):0<C5 d∧C5 d≤10000000000000:=by
 obtain⟨h1,h2,h3,h4⟩:=h
 unfold Md.C5
 have hp:=CI (4 - d.2).toNat
 refine⟨Int.mul_pos h1 hp, ?_⟩
 have a1:d.1*10 ^ (4 - d.2).toNat≤1000000000*10 ^ d.2.toNat*10 ^ (4 - d.2).toNat:=Int.mul_le_mul_of_nonneg_right h4 (by omega)
 rw[SO, ← SU,show d.2.toNat+(4 - d.2).toNat=4 by omega] at a1
 omega
abbrev Bd:=mQ
def NN (x:Bd):Int:=x.2.1
def NR (x:Bd):Int:=x.2.2.1
def taken (x:Bd):Int:=x.2.2.2.1
def done (x:Bd):Int:=x.2.2.2.2
structure J4 (x:Bd):Prop where
 d:Q6 x.1
 owes0:0≤NN x
 paid0:0≤NR x
 taken0:0≤taken x
 sum:NN x+NR x+taken x=C5 x.1.2.2.1
 none:done x=0→taken x=0
 done0:done x=0∨x.1.2.1≤done x
 iff:NN x=0↔done x≠0
theorem J4.le {x:Bd} (h:J4 x):NN x≤10000000000000∧NR x≤10000000000000∧taken x≤10000000000000:=by
 have:=h.d.mon.C5;have:=h.sum;have:=h.owes0;have:=h.paid0;have:=h.taken0;omega
section
variable {ar:List Bd} {h:Nat} {x:Bd}
theorem Q0 {α:Type} {l:List α} {i:Nat} {x y:α} (h:l[i]? =some x):(l.set i y)[i]? =some y:=TH (TC.1 h).1
end
end Go.Md
namespace Go.Md
open Go.Dn
structure gR (ds:List lH) (ar:List Bd):Prop where
 ds:ar.map (·.1)=ds
 ok:∀ x∈ar,J4 x
theorem gR.len {ds:List lH} {ar:List Bd} (h:gR ds ar):ar.length=ds.length:=by rw[← h.ds];simp
theorem gR.set {ds:List lH} {ar:List Bd} (h:gR ds ar) {i:Nat} {x y:Bd} (hx:ar[i]? =some x) (hy:J4 y) (he:y.1=x.1):gR ds (ar.set i y):=by
 refine⟨?_,fun z hz=> ?_⟩
 ·rw[List.map_set,he, ← h.ds]
  apply Tn
  intro j
  by_cases hj:i=j
  ·subst hj
   rw[TH (by simp;exact (TC.1 hx).1),TD,hx];rfl
  ·rw[TG hj]
 ·rcases T8 hz with hz | rfl
  ·exact h.ok z hz
  ·exact hy
theorem gR.get {ds:List lH} {ar:List Bd} (h:gR ds ar) {i:Nat} {x:Bd} (hx:ar[i]? =some x):J4 x:=h.ok x (T6 hx)
def Q2 (ar:List Bd):Int:=(ar.map NR).sum
structure Se (ds:List lH) (L T:Int) (s:Int×List Bd):Prop where
 ar:gR ds s.2
 l0:0≤s.1
 l1:s.1≤L
 tot:s.1+Q2 s.2=T
theorem OZ {k v:Ty} (p:k.den×v.den) (m:List (k.den×v.den)) (n:k.den):bV (p::m) n=bif k.beq n p.1 then some p.2 else bV m n:=by
 unfold bV
 rw[List.find?_cons]
 cases k.beq n p.1<;>rfl
theorem IT {k v:Ty} (p:k.den×v.den) (m:List (k.den×v.den)) (x:k.den) (y:v.den):gU (p::m) x y=bif k.beq x p.1 then (x,y)::m else p::gU m x y:=rfl
end Go.Md
namespace Go.Md
open Go.Dn
def few:Nat→Int→Int×Nat
 | 0,z=>(z,0)
 | p+1,z=>if z % 10=0 then few p (z / 10) else (z,p+1)
theorem C8:∀ (p:Nat) (z:Int),(few p z).2≤p∧(few p z).1*10 ^ (p - (few p z).2)=z∧(few p z).1.natAbs≤z.natAbs
 | 0,z=>by simp[few]
 | p+1,z=>by
  unfold few
  split
  ·rename_i h
   obtain⟨h1,h2,h3⟩:=C8 p (z / 10)
   refine⟨by omega, ?_,by omega⟩
   rw[show p+1 - (few p (z / 10)).2=(p - (few p (z / 10)).2)+1 by omega,SX, ← SO,h2]
   omega
  ·simp
theorem GS (z:Int) (p:Int):pM (W z) p=some (if z.natAbs≤1000000000000000 then ((z,p),0,()) else ((0,0),1,())):=by
 unfold pM
 rw[Fm z 1000000000000000 (by omega) (by omega),UT]
 by_cases h:(z.natAbs:Int)≤1000000000000000
 ·rw[Vg h,Vg (by omega)];rfl
 ·rw[Vf h,Vf (by omega)];rfl
theorem El (z:Int) (hz:z.natAbs<4294967296 ^ 99) (p:Nat) (hp:p≤1000):qa (W z) (p:Int)=some (if (few p z).1.natAbs≤1000000000000000 then (((few p z).1,((few p z).2:Int)),0,()) else ((0,0),1,())):=by
 unfold qa
 rw[p8 10 (by omega) (by omega),UT]
 dsimp only
 have loop:∀ (n:Nat) (z:Int) (p:Nat),z.natAbs<4294967296 ^ 99→p≤1000→p<n→iter (X:=lQ) (β:=lP) n ((p:Int),(W z).1,(W z).2,0,0,(W 10).1,(W 10).2,()) lN=some (Sum.inr (((few p z).2:Int),(W (few p z).1).1,(W (few p z).1).2,0,0,())):=by
  intro n
  induction n with
  | zero=>intro z p _ _ h;omega
  | succ n ih=>
   intro z p hz hp hn
   rw[iH]
   generalize hag:(fun y=>iter n y lN)=again
   unfold lN
   dsimp only
   cases p with
   | zero=>rw[aT (by omega)];rfl
   | succ p=>
    have e10:(10:Int).natAbs=10:=rfl
    rw[aK (by omega)]
    change (Option.bind (ot (W z) (W 10)) _)=_
    rw[GM z 10 hz (by rw[e10];exact UC (by omega) (UP (n:=4294967296) (by omega) (show 1≤99 by omega))) (by omega),UT]
    dsimp only
    rw[vq,UT]
    dsimp only
    rw[e10]
    by_cases hm:z % 10=0
    ·have hm2:z.natAbs % 10=0:=by omega
     rw[hm2,show ((((0:Nat):Int).sign) != 0)=false from rfl,U4]
     change (Option.bind (iL (W z)) _)=_
     rw[vq,UT]
     dsimp only
     have hf:few (p+1) z=few p (z / 10):=by simp[few,hm]
     rw[hf]
     have hz':(z / 10).natAbs<4294967296 ^ 99:=UB (by omega) hz
     by_cases hneg:z<0
     ·rw[aK (by rw[SY hneg];omega),CY _ (by simp only[Int.natAbs_natCast];exact UB (Nat.div_le_self _ _) hz),UT]
      dsimp only
      rw[show -((z.natAbs / 10:Nat):Int)=z / 10 by omega,aB (by omega) (by omega),show ((p+1:Nat):Int) - 1=(p:Int) by omega, ← hag]
      exact ih (z / 10) p hz' (by omega) (by omega)
     ·rw[aT (by
       rcases (show z=0∨0<z by omega) with h | h
       ·subst h;decide
       ·rw[SZ h];omega),show ((z.natAbs / 10:Nat):Int)=z / 10 by omega,aB (by omega) (by omega),show ((p+1:Nat):Int) - 1=(p:Int) by omega, ← hag]
      exact ih (z / 10) p hz' (by omega) (by omega)
    ·have hm2:0<z.natAbs % 10:=by omega
     have:(((z.natAbs % 10:Nat):Int).sign != 0)=true:=by
      rw[SZ (by omega)];rfl
     rw[this,U5]
     have hf:few (p+1) z=(z,p+1):=by simp[few,hm]
     rw[hf]
 have:=loop (Int.natAbs (p:Int)+(List.length (W z).2+(Int.natAbs (0:Int)+(Int.natAbs (0:Int)+(List.length (W 10).2+2))))) z p hz hp (by omega)
 rw[this,aS]
 dsimp only
 change (Option.bind (pM (W (few p z).1) ((few p z).2:Int)) _)=_
 rw[GS,UT]
def cN (d:ak):Prop:=d.1.natAbs≤1000000000000000∧0≤d.2∧d.2≤9
theorem x9.dec {d:ak} (h:x9 d):cN d:=by
 obtain⟨h1,h2,h3,h4⟩:=h
 have hq:(10:Int) ^ d.2.toNat≤10000:=by
  have:=UP (n:=10) (by omega) (show d.2.toNat≤4 by omega)
  have h2:=Int.ofNat_le.2 this
  simpa using h2
 exact⟨by omega,h2,by omega⟩
theorem Rp {z:Int} (h:z.natAbs<1000000000000000000000000000000000000000000000000000000000000):(dg6 z.natAbs).length≤10:=MD (k:=10) (by simpa using h)
theorem Mo (n:Nat) (hn:n≤40):xg (n:Int)=some (N (10 ^ n),()):=by
 unfold xg
 rw[Fg 1 (by omega) (by omega),UT]
 dsimp only
 have hb:∀ i:Nat,i≤41→(dg6 ((10:Int) ^ i).natAbs).length≤10:=by
  intro i hi
  refine Rp ?_
  have h1:((10:Int) ^ i).natAbs=10 ^ i:=by rw[Int.natAbs_pow];rfl
  have h2:=UP (n:=10) (by omega) hi
  omega
 have loop:iter (X:=ud) (β:=uc) (Int.natAbs (n:Int)+(Int.natAbs (0:Int)+(List.length ([]:List Int)+(List.length (N 1).2+2)))) ((n:Int),0,false,[],(N 1).1,(N 1).2,()) ua=some (Sum.inr (false,[],(N (10 ^ n)).1,(N (10 ^ n)).2,())):=by
  refine bM (Inv:=fun i x=>x=((n:Int),(i:Int),false,[],(N (10 ^ i)).1,(N (10 ^ i)).2,())) n (fun r=>r=some (Sum.inr (false,[],(N (10 ^ n)).1,(N (10 ^ n)).2,()))) ?_ ?_ _ 0 _ (by simp) (by omega) (by omega)
  ·rintro i _ again hi rfl ih
   unfold ua
   dsimp only
   rw[aK (by omega),Fg 10 (by omega) (by omega),UT]
   change (Option.bind (oP (N (10 ^ i)) (N 10)) _)=_
   have h10:(dg6 (10:Int).natAbs).length≤10:=Rp (by decide)
   rw[Bj _ _ (by have:=hb i (by omega);omega) (by omega),UT]
   dsimp only
   rw[aB (by omega) (by omega)]
   exact ih _ (by rw[SX];rfl)
  ·rintro _ again rfl
   unfold ua
   dsimp only
   rw[aT (by omega)]
 rw[loop,aS]
end Go.Md
namespace Go.Md
open Go.Dn
end Go.Md
namespace Go.Md
open Go.Dn
end Go.Md
namespace Go.Md
open Go.Dn
end Go.Md
namespace Go.Md
open Go.Dn
def J5 (D:Int) (S:Nat→Prop) (ar:List Bd):Prop:=∀ i x,S i→ar[i]? =some x→done x=0∨D<done x
theorem J5.set {D:Int} {S:Nat→Prop} {ar:List Bd} {h:Nat} {x y:Bd} (hq:J5 D S ar) (hx:ar[h]? =some x) (hy:(done x=0∨D<done x)→(done y=0∨D<done y)):J5 D S (ar.set h y):=by
 intro i z hi hz
 by_cases e:h=i
 ·subst e
  rw[Q0 hx] at hz
  cases hz
  exact hy (hq h x hi hx)
 ·rw[TG e] at hz
  exact hq i z hi hz
end Go.Md
namespace Go.Md
open Go.Dn
theorem Lt {s:List UInt8} {i:Nat} {c:UInt8} (h:s[i]? =some c):vk s (i:Int)=some c:=by simp[vk,h]
instance (d:ak):Decidable (cN d):=by unfold cN;infer_instance
end Go.Md
