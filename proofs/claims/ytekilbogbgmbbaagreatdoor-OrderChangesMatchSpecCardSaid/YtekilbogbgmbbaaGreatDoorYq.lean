/-
  Plain facts, small ones. No condition.
-/
import Derived.Test.YtekilbogbgmbbaaGreatDoorYp
import Derived.Test.YtekilbogbgmbbaaGreatDoorYm
set_option linter.all false
namespace Go.Md
open Go.Dn
structure th {α:Type} (k:α->Int) (l l':List α):Prop where
 perm:l.Perm l'
 keys:∀ v,l'.filter (fun x=>k x==v)=l.filter (fun x=>k x==v)
theorem th.refl {α:Type} (k:α->Int) (l:List α):th k l l:=⟨List.Perm.refl _,fun _=>rfl⟩
theorem th.trans {α:Type} {k:α->Int} {a b c:List α} (h:th k a b) (g:th k b c):th k a c:=⟨h.perm.trans g.perm,fun v=>(g.keys v).trans (h.keys v)⟩
theorem th.append {α:Type} {k:α->Int} {a b c d:List α} (h:th k a b) (g:th k c d):th k (a++c) (b++d):=
 ⟨h.perm.append g.perm,fun v=>by rw[ad7,ad7,h.keys,g.keys]⟩
theorem th.mem {α:Type} {k:α->Int} {a b:List α} (h:th k a b) {x:α}:x∈b↔x∈a:=h.perm.mem_iff.symm
theorem th.length {α:Type} {k:α->Int} {a b:List α} (h:th k a b):b.length=a.length:=h.perm.length_eq.symm
theorem th.swap {α:Type} {k:α->Int} {u v:List α} (h:∀ x∈u,∀ y∈v,k x≠k y):th k (u++v) (v++u):=by
 refine⟨List.perm_append_comm,fun w=> ?_⟩
 rw[ad7,ad7]
 by_cases hu:∃ x∈u,k x=w
 ·obtain⟨x,hx,rfl⟩:=hu
  have:v.filter (fun y=>k y==k x)=[]:=by
   rw[List.filter_eq_nil_iff]
   intro y hy
   simpa using fun e=>h x hx y hy e.symm
  rw[this];simp
 ·have:u.filter (fun y=>k y==w)=[]:=by
   rw[List.filter_eq_nil_iff]
   intro y hy
   simpa using fun e=>hu ⟨y,hy,e⟩
  rw[this];simp
def Srt {α:Type} (k:α->Int) (l:List α):Prop:=l.Pairwise fun x y=>k x<=k y
theorem Srt.append {α:Type} {k:α->Int} {a b:List α} (ha:Srt k a) (hb:Srt k b) (h:∀ x∈a,∀ y∈b,k x<=k y):Srt k (a++b):=ae4.2 ⟨ha,hb,h⟩
theorem Srt.left {α:Type} {k:α->Int} {a b:List α} (h:Srt k (a++b)):Srt k a:=(ae4.1 h).1
theorem Srt.right {α:Type} {k:α->Int} {a b:List α} (h:Srt k (a++b)):Srt k b:=(ae4.1 h).2.1
section
variable {k:Option Nat->Int} {ar:List qa} {ok:Option Nat->Prop}
end
end Go.Md
namespace Go.Md
open Go.Dn
section
variable {k:Option Nat->Int} {ar:List qa} {ok:Option Nat->Prop}
end
end Go.Md
namespace Go.Md
open Go.Dn
theorem Srt.get {α:Type} {k:α->Int} {l:List α} (h:Srt k l) {i j:Nat} (hij:i<=j) (hj:j<l.length):k (l[i]'(by omega))<=k l[j]:=by
 rcases Nat.lt_or_eq_of_le hij with h1 | h1
 ·exact ae6.1 h i j (by omega) hj h1
 ·subst h1;exact Int.le_refl _
section
variable {k:Option Nat->Int} {ar:List qa} {ok:Option Nat->Prop}
end
end Go.Md
namespace Go.Md
open Go.Dn
section
variable {k:Option Nat->Int} {ar:List qa} {ok:Option Nat->Prop}
end
end Go.Md
namespace Go.Md
open Go.Dn
def ChS {α:Type} (k:α->Int) (bs:Nat) (l:List α):Prop:=∀ j:Nat,Srt k ((l.drop (j*bs)).take bs)
theorem ChS.nil {α:Type} (k:α->Int) (bs:Nat):ChS k bs []:=fun _=>by simp[Srt]
theorem ChS.snoc {α:Type} {k:α->Int} {bs:Nat} {A S:List α} {j:Nat} (h:ChS k bs A) (hA:A.length=j*bs) (hS:Srt k S) (hl:S.length<=bs):ChS k bs (A++S):=by
 intro i
 rcases afB i j with hij | hij | hij
 ·have h1:(i+1)*bs<=j*bs:=afF _ hij
  rw[afl,Nat.one_mul] at h1
  rw[List.drop_append_of_le_length (by omega),afe (by rw[aex];omega)]
  exact h i
 ·subst hij
  rw[<- hA,ad1,afh hl]
  exact hS
 ·have h1:(j+1)*bs<=i*bs:=afF _ hij
  rw[afl,Nat.one_mul] at h1
  rw[ad2 (by rw[aev];omega)]
  simp[Srt]
theorem ChS.drop {α:Type} {k:α->Int} {bs:Nat} {l:List α} (h:ChS k bs l) (i:Nat):ChS k bs (l.drop (i*bs)):=by
 intro j
 rw[adZ, <- afl]
 exact h (i+j)
theorem Srt.take {α:Type} {k:α->Int} {l:List α} (h:Srt k l) (n:Nat):Srt k (l.take n):=by
 rw[<- afd n l] at h;exact h.left
section
variable {k:Option Nat->Int} {ar:List qa} {ok:Option Nat->Prop}
end
end Go.Md
namespace Go.Md
open Go.Dn
def uI {α:Type} (g:Nat->α->Int):Nat->List α->Int
 | _,[]=>0
 | i,y::r=>if g i y=0 then uI g (i+1) r else g i y
theorem gQ (a b c:Int):dR a b c=some (decide (a<b\/c<a),()):=by
 unfold dR
 by_cases h:a<b
 ·rw[bF h];simp[h]
 ·rw[bW h];simp[h]
theorem ry (n:Int):mL n=some (decide (1<=n/\n<=3652059),()):=by
 unfold mL
 rw[gQ,afO]
 congr 2
 simp only[<- decide_not]
 congr 1
 simp only[eq_iff_iff];omega
def cK (s:Bys):Bool:=((eP s).map (·.1)).getD false
theorem zU (s:Bys):eP s=some (cK s,()):=by
 have:∃ b,eP s=some (b,()):=by
  unfold eP
  by_cases h1:(s.length:Int)<1
  ·rw[bF h1];exact⟨_,rfl⟩
  ·rw[bW h1]
   by_cases h2:(s.length:Int)>40
   ·rw[bF h2];exact⟨_,rfl⟩
   ·rw[bW h2]
    have hs:qv s 0=some (s[0]'(by omega)):=by simp[qv]
    rw[hs]
    simp only[afO]
    have ht:gB s [97,98,99,100,101,102,103,104,105,106,107,108,109,110,111,112,113,114,115,116,117,118,119,120,121,122,48,49,50,51,52,53,54,55,56,57,45]=some (Lib.trimS s [97,98,99,100,101,102,103,104,105,106,107,108,109,110,111,112,113,114,115,116,117,118,119,120,121,122,48,49,50,51,52,53,54,55,56,57,45],()):=by
     unfold gB
     rw[show (decide (s.length<=9223372036854775807))=true by simp;omega]
     rfl
    rw[ht]
    simp only[afO]
    generalize (decide ((((s[0]'(by omega)).toNat:Int))<97))=b1
    generalize (decide ((((s[0]'(by omega)).toNat:Int))>122))=b2
    cases b1<;>cases b2<;>exact⟨_,rfl⟩
 obtain⟨b,hb⟩:=this
 unfold cK
 rw[hb];rfl
theorem Dj (d:ah):gj d=some (if -1000000000000000<=d.1/\d.1<=1000000000000000/\0<=d.2/\d.2<=9 then 0 else 1,()):=by
 unfold gj
 rw[gQ,afO,gQ]
 simp only[afO]
 by_cases h1:d.1< -1000000000000000\/1000000000000000<d.1
 ·rw[bF h1,agd (by omega)]
 ·rw[bW h1]
  by_cases h2:d.2<0\/9<d.2
  ·rw[bF h2,agd (by omega)]
  ·rw[bW h2,age (by omega)]
theorem aay {n:Nat} (h:n<=18):(10:Int) ^ n<=1000000000000000000:=by
 have:=afK (n:=10) (by omega) h
 have h2:=Int.ofNat_le.2 this
 simpa using h2
theorem zu (n:Nat):(0:Int)<10 ^ n:=Mq (by omega) n
theorem Rm (n:Int) (h0:0<=n) (h1:n<=18):MQ n=some (10 ^ n.toNat,()):=by
 obtain⟨m,rfl⟩:∃ m:Nat,n=m:=⟨n.toNat,by omega⟩
 unfold MQ
 have:iter (X:=uv) (β:=ur) (Int.natAbs (1:Int)+(Int.natAbs (m:Int)+(Int.natAbs (0:Int)+2))) (1,(m:Int),0,()) uo=some (Sum.inr (10 ^ m,())):=by
  refine cG (Inv:=fun i x=>x=(10 ^ i,(m:Int),(i:Int),())) m (fun r=>r=some (Sum.inr (10 ^ m,()))) ?_ ?_ _ 0 _ (by simp) (by omega) (by omega)
  ·rintro i _ again hi rfl ih
   unfold uo
   dsimp only
   have h10:=aay (n:=i+1) (by omega)
   have hp:=zu (i+1)
   rw[adI] at h10 hp
   rw[bF (by omega),aA (by omega) (by omega),aA (by omega) (by omega)]
   exact ih _ (by rw[adI];rfl)
  ·rintro _ again rfl
   unfold uo
   dsimp only
   rw[bW (by omega)]
 rw[this,aR]
 simp
def JC (d:ah):Prop:=0<d.1/\0<=d.2/\d.2<=4/\d.1<=1000000000*10 ^ d.2.toNat
instance (d:ah):Decidable (JC d):=by unfold JC;exact inferInstance
structure abK (d:oQ):Prop where
 day0:1<=d.2.1
 day1:d.2.1<=3652059
 mon:JC d.2.2.1
 days0:0<=d.2.2.2.1
 days1:d.2.2.2.1<=10000
 with0:0<=d.2.2.2.2.1
 with1:d.2.2.2.2.1<=d.2.2.2.1
 disc0:0<=d.2.2.2.2.2
 disc1:d.2.2.2.2.2<=1000
structure acW (p:Rf):Prop where
 day0:1<=p.1
 day1:p.1<=3652059
 mon:JC p.2.1
 names:p.2.2.length<=100
end Go.Md
namespace Go.Md
open Go.Dn
def JG (d:ah):Int:=d.1*10 ^ (4 - d.2).toNat
theorem JC.JG {d:ah} (h:JC d):0<JG d/\JG d<=10000000000000:=by
 obtain⟨h1,h2,h3,h4⟩:=h
 unfold Md.JG
 have hp:=zu (4 - d.2).toNat
 refine⟨Int.mul_pos h1 hp, ?_⟩
 have a1:d.1*10 ^ (4 - d.2).toNat<=1000000000*10 ^ d.2.toNat*10 ^ (4 - d.2).toNat:=Int.mul_le_mul_of_nonneg_right h4 (by omega)
 rw[adz, <- adH,show d.2.toNat+(4 - d.2).toNat=4 by omega] at a1
 omega
abbrev Bd:=qa
def Xx (x:Bd):Int:=x.2.1
def XC (x:Bd):Int:=x.2.2.1
def taken (x:Bd):Int:=x.2.2.2.1
def done (x:Bd):Int:=x.2.2.2.2
structure SA (x:Bd):Prop where
 d:abK x.1
 owes0:0<=Xx x
 paid0:0<=XC x
 taken0:0<=taken x
 sum:Xx x+XC x+taken x=JG x.1.2.2.1
 none:done x=0->taken x=0
 done0:done x=0\/x.1.2.1<=done x
 iff:Xx x=0↔done x≠0
theorem SA.le {x:Bd} (h:SA x):Xx x<=10000000000000/\XC x<=10000000000000/\taken x<=10000000000000:=by
 have:=h.d.mon.JG;have:=h.sum;have:=h.owes0;have:=h.paid0;have:=h.taken0;omega
section
variable {ar:List Bd} {h:Nat} {x:Bd}
theorem abE {α:Type} {l:List α} {i:Nat} {x y:α} (h:l[i]? =some x):(l.set i y)[i]? =some y:=aep (aej.1 h).1
end
end Go.Md
namespace Go.Md
open Go.Dn
structure jT (ds:List oQ) (ar:List Bd):Prop where
 ds:ar.map (·.1)=ds
 ok:∀ x∈ar,SA x
theorem jT.len {ds:List oQ} {ar:List Bd} (h:jT ds ar):ar.length=ds.length:=by rw[<- h.ds];simp
theorem jT.set {ds:List oQ} {ar:List Bd} (h:jT ds ar) {i:Nat} {x y:Bd} (hx:ar[i]? =some x) (hy:SA y) (he:y.1=x.1):jT ds (ar.set i y):=by
 refine⟨?_,fun z hz=> ?_⟩
 ·rw[List.map_set,he, <- h.ds]
  apply ad6
  intro j
  by_cases hj:i=j
  ·subst hj
   rw[aep (by simp;exact (aej.1 hx).1),aek,hx];rfl
  ·rw[aeo hj]
 ·rcases aeY hz with hz | rfl
  ·exact h.ok z hz
  ·exact hy
theorem jT.get {ds:List oQ} {ar:List Bd} (h:jT ds ar) {i:Nat} {x:Bd} (hx:ar[i]? =some x):SA x:=h.ok x (aeW hx)
def abH (ar:List Bd):Int:=(ar.map XC).sum
structure acX (ds:List oQ) (L T:Int) (s:Int×List Bd):Prop where
 ar:jT ds s.2
 l0:0<=s.1
 l1:s.1<=L
 tot:s.1+abH s.2=T
theorem QB {k v:Ty} (p:k.den×v.den) (m:List (k.den×v.den)) (n:k.den):eH (p::m) n=bif k.beq n p.1 then some p.2 else eH m n:=by
 unfold eH
 rw[List.find?_cons]
 cases k.beq n p.1<;>rfl
end Go.Md
namespace Go.Md
open Go.Dn
def few:Nat->Int->Int×Nat
 | 0,z=>(z,0)
 | p+1,z=>if z % 10=0 then few p (z / 10) else (z,p+1)
theorem EE:∀ (p:Nat) (z:Int),(few p z).2<=p/\(few p z).1*10 ^ (p - (few p z).2)=z/\(few p z).1.natAbs<=z.natAbs
 | 0,z=>by simp[few]
 | p+1,z=>by
  unfold few
  split
  ·rename_i h
   obtain⟨h1,h2,h3⟩:=EE p (z / 10)
   refine⟨by omega, ?_,by omega⟩
   rw[show p+1 - (few p (z / 10)).2=(p - (few p (z / 10)).2)+1 by omega,adI, <- adz,h2]
   omega
  ·simp
theorem LY:∀ p,few p 0=(0,0)
 | 0=>rfl
 | p+1=>by unfold few;simp[LY p]
theorem OK (z:Int) (p:Int):nc (W z) p=some (if z.natAbs<=1000000000000000 then ((z,p),0,()) else ((0,0),1,())):=by
 unfold nc
 rw[MB z 1000000000000000 (by omega) (by omega),afO]
 by_cases h:(z.natAbs:Int)<=1000000000000000
 ·rw[age h,age (by omega)];rfl
 ·rw[agd h,agd (by omega)];rfl
theorem Lr (z:Int) (hz:z.natAbs<4294967296 ^ 99) (p:Nat) (hp:p<=1000):um (W z) (p:Int)=some (if (few p z).1.natAbs<=1000000000000000 then (((few p z).1,((few p z).2:Int)),0,()) else ((0,0),1,())):=by
 unfold um
 rw[Ln 10 (by omega) (by omega),afO]
 dsimp only
 have loop:∀ (n:Nat) (z:Int) (p:Nat),z.natAbs<4294967296 ^ 99->p<=1000->p<n->iter (X:=oU) (β:=oT) n ((p:Int),(W z).1,(W z).2,0,0,(W 10).1,(W 10).2,()) oS=some (Sum.inr (((few p z).2:Int),(W (few p z).1).1,(W (few p z).1).2,0,0,())):=by
  intro n
  induction n with
  | zero=>intro z p _ _ h;omega
  | succ n ih=>
   intro z p hz hp hn
   rw[fk]
   generalize hag:(fun y=>iter n y oS)=again
   unfold oS
   dsimp only
   cases p with
   | zero=>rw[bW (by omega)];rfl
   | succ p=>
    have e10:(10:Int).natAbs=10:=rfl
    rw[bF (by omega)]
    change (Option.bind (si (W z) (W 10)) _)=_
    rw[OF z 10 hz (by rw[e10];exact afx (by omega) (afK (n:=4294967296) (by omega) (show 1<=99 by omega))) (by omega),afO]
    dsimp only
    rw[An,afO]
    dsimp only
    rw[e10]
    by_cases hm:z % 10=0
    ·have hm2:z.natAbs % 10=0:=by omega
     rw[hm2,show ((((0:Nat):Int).sign) != 0)=false from rfl,af1]
     change (Option.bind (jd (W z)) _)=_
     rw[An,afO]
     dsimp only
     have hf:few (p+1) z=few p (z / 10):=by simp[few,hm]
     rw[hf]
     have hz':(z / 10).natAbs<4294967296 ^ 99:=afw (by omega) hz
     by_cases hneg:z<0
     ·rw[bF (by rw[adJ hneg];omega),Jw _ (by simp only[adE];exact afw (Nat.div_le_self _ _) hz),afO]
      dsimp only
      rw[show -((z.natAbs / 10:Nat):Int)=z / 10 by omega,aA (by omega) (by omega),show ((p+1:Nat):Int) - 1=(p:Int) by omega, <- hag]
      exact ih (z / 10) p hz' (by omega) (by omega)
     ·rw[bW (by
       rcases (show z=0\/0<z by omega) with h | h
       ·subst h;decide
       ·rw[adK h];omega),show ((z.natAbs / 10:Nat):Int)=z / 10 by omega,aA (by omega) (by omega),show ((p+1:Nat):Int) - 1=(p:Int) by omega, <- hag]
      exact ih (z / 10) p hz' (by omega) (by omega)
    ·have hm2:0<z.natAbs % 10:=by omega
     have:(((z.natAbs % 10:Nat):Int).sign != 0)=true:=by
      rw[adK (by omega)];rfl
     rw[this,af2]
     have hf:few (p+1) z=(z,p+1):=by simp[few,hm]
     rw[hf]
 have:=loop (Int.natAbs (p:Int)+(List.length (W z).2+(Int.natAbs (0:Int)+(Int.natAbs (0:Int)+(List.length (W 10).2+2))))) z p hz hp (by omega)
 rw[this,aR]
 dsimp only
 change (Option.bind (nc (W (few p z).1) ((few p z).2:Int)) _)=_
 rw[OK,afO]
def fS (d:ah):Int:=d.1*10 ^ (9 - d.2).toNat
def eM (d:ah):Prop:=d.1.natAbs<=1000000000000000/\0<=d.2/\d.2<=9
theorem DL {z:Int} (h:z.natAbs<1000000000000000000000000000000000000000000000000000000000000):(dg6 z.natAbs).length<=10:=VB (k:=10) (by simpa using h)
theorem KV (n:Nat) (hn:n<=40):Gp (n:Int)=some (N (10 ^ n),()):=by
 unfold Gp
 rw[Gn 1 (by omega) (by omega),afO]
 dsimp only
 have hb:∀ i:Nat,i<=41->(dg6 ((10:Int) ^ i).natAbs).length<=10:=by
  intro i hi
  refine DL ?_
  have h1:((10:Int) ^ i).natAbs=10 ^ i:=by rw[adF];rfl
  have h2:=afK (n:=10) (by omega) hi
  omega
 have loop:iter (X:=yI) (β:=yH) (Int.natAbs (n:Int)+(Int.natAbs (0:Int)+(List.length ([]:List Int)+(List.length (N 1).2+2)))) ((n:Int),0,false,[],(N 1).1,(N 1).2,()) yG=some (Sum.inr (false,[],(N (10 ^ n)).1,(N (10 ^ n)).2,())):=by
  refine cG (Inv:=fun i x=>x=((n:Int),(i:Int),false,[],(N (10 ^ i)).1,(N (10 ^ i)).2,())) n (fun r=>r=some (Sum.inr (false,[],(N (10 ^ n)).1,(N (10 ^ n)).2,()))) ?_ ?_ _ 0 _ (by simp) (by omega) (by omega)
  ·rintro i _ again hi rfl ih
   unfold yG
   dsimp only
   rw[bF (by omega),Gn 10 (by omega) (by omega),afO]
   change (Option.bind (sQ (N (10 ^ i)) (N 10)) _)=_
   have h10:(dg6 (10:Int).natAbs).length<=10:=DL (by decide)
   rw[zZ _ _ (by have:=hb i (by omega);omega) (by omega),afO]
   dsimp only
   rw[aA (by omega) (by omega)]
   exact ih _ (by rw[adI];rfl)
  ·rintro _ again rfl
   unfold yG
   dsimp only
   rw[bW (by omega)]
 rw[loop,aR]
theorem T8 (d:ah) (hd:eM d):AF d 9=some (N (fS d),()):=by
 obtain⟨h1,h2,h3⟩:=hd
 unfold AF
 rw[Gn _ (by omega) (by omega),afO,aA (by omega) (by omega)]
 dsimp only
 obtain⟨m,hm⟩:∃ m:Nat,9 - d.2=m:=⟨(9 - d.2).toNat,by omega⟩
 rw[hm,KV m (by omega),afO]
 dsimp only
 have hl1:(dg6 d.1.natAbs).length<=10:=DL (by omega)
 have hl2:(dg6 ((10:Int) ^ m).natAbs).length<=10:=by
  refine DL ?_
  have h1:((10:Int) ^ m).natAbs=10 ^ m:=by rw[adF];rfl
  have h2:=afK (n:=10) (by omega) (show m<=9 by omega)
  omega
 rw[zZ _ _ (by omega) (by omega),afO]
 unfold fS
 rw[hm];rfl
theorem Ni {d:ah} (hd:eM d):(fS d).natAbs<=1000000000000000000000000:=by
 obtain⟨h1,h2,h3⟩:=hd
 unfold fS
 rw[adD,adF]
 have h4:=afK (n:=10) (by omega) (show (9 - d.2).toNat<=9 by omega)
 have h5:d.1.natAbs*(10:Int).natAbs ^ (9 - d.2).toNat<=1000000000000000*1000000000:=Nat.mul_le_mul h1 (by simpa using h4)
 omega
end Go.Md
namespace Go.Md
open Go.Dn
end Go.Md
namespace Go.Md
open Go.Dn
def wj (day:Int) (x:Bd):Int:=max 0 (day - (x.1.2.1+x.1.2.2.2.1))
end Go.Md
namespace Go.Md
open Go.Dn
theorem NM {X α B:Type} {f:X->(X->Option B)->Option B} (mk:Nat->X) (l:List α) (g:Nat->α->Int) (fin:Option B) (out:Int->Option B) (hstep:∀ i y again,l[i]? =some y->f (mk i) again=if g i y=0 then again (mk (i+1)) else out (g i y)) (hend:∀ again,f (mk l.length) again=fin): ∀ (r:List α) (i n:Nat),l.drop i=r->i<=l.length->r.length<n->iter n (mk i) f=if uI g i r=0 then fin else out (uI g i r)
 | _,_,0,_,_,hn=>absurd hn (afH _)
 | [],i,n+1,hd,hi,_=>by
  have:i=l.length:=by
   have:=congrArg List.length hd
   simp at this;omega
  subst this
  rw[fk,hend];rfl
 | y::r,i,n+1,hd,hi,hn=>by
  have hy:l[i]? =some y:=by
   have:=congrArg (·[0]?) hd
   simpa [aeg] using this
  have hr:l.drop (i+1)=r:=by
   have:=congrArg List.tail hd
   simpa [afb] using this
  have hi':i<l.length:=(aej.1 hy).1
  rw[fk,hstep i y _ hy]
  by_cases hg:g i y=0
  ·have e:uI g i (y::r)=uI g (i+1) r:=by simp[uI,hg]
   rw[age hg,e]
   exact NM mk l g fin out hstep hend r (i+1) n hr hi' (by simp at hn;omega)
  ·have e:uI g i (y::r)=g i y:=by simp[uI,hg]
   rw[agd hg,e,agd hg]
end Go.Md
namespace Go.Md
open Go.Dn
def SC (D:Int) (S:Nat->Prop) (ar:List Bd):Prop:=∀ i x,S i->ar[i]? =some x->done x=0\/D<done x
theorem SC.set {D:Int} {S:Nat->Prop} {ar:List Bd} {h:Nat} {x y:Bd} (hq:SC D S ar) (hx:ar[h]? =some x) (hy:(done x=0\/D<done x)->(done y=0\/D<done y)):SC D S (ar.set h y):=by
 intro i z hi hz
 by_cases e:h=i
 ·subst e
  rw[abE hx] at hz
  cases hz
  exact hy (hq h x hi hx)
 ·rw[aeo e] at hz
  exact hq i z hi hz
end Go.Md
namespace Go.Md
open Go.Dn
def nmC:Bys:=[97,98,99,100,101,102,103,104,105,106,107,108,109,110,111,112,113,114,115,116,117,118,119,120,121,122,48,49,50,51,52,53,54,55,56,57,45]
def nmB (c:UInt8):Bool:=nmC.contains c
set_option maxRecDepth 100000 in
theorem abv:∀ n:Fin 256,nmB (UInt8.ofNat n.1)=((decide (97<=n.1)&&decide (n.1<=122))||((decide (48<=n.1)&&decide (n.1<=57))||decide (n.1=45))):=by decide
theorem acd (c:UInt8):nmB c=((decide (97<=c.toNat)&&decide (c.toNat<=122))||((decide (48<=c.toNat)&&decide (c.toNat<=57))||decide (c.toNat=45))):=by
 have:=abv ⟨c.toNat,UInt8.toNat_lt c⟩
 simpa using this
theorem Cz {α:Type} {p:α->Bool}:∀ {l:List α},l.dropWhile p=[]↔∀ x∈l,p x=true
 | []=>by simp
 | y::r=>by
  cases hp:p y with
  | true=>rw[List.dropWhile_cons_of_pos hp,Cz];simp[hp]
  | false=>rw[List.dropWhile_cons_of_neg (by simp[hp])];simp[hp]
theorem Nr {α:Type} {p:α->Bool} {y:α} {r:List α}:∀ {l:List α},l.dropWhile p=y::r->p y=false
 | [],h=>by simp at h
 | z::t,h=>by
  cases hp:p z with
  | true=>rw[List.dropWhile_cons_of_pos hp] at h;exact Nr h
  | false=>rw[List.dropWhile_cons_of_neg (by simp[hp])] at h;cases h;exact hp
theorem Q9 (s c:Bys):(Lib.trimS s c==[])=s.all (c.contains ·):=by
 rw[adk]
 simp only[afY,adQ]
 unfold Lib.trimS Lib.trimLeftS Lib.trimRightS
 constructor
 ·intro h
  rw[Cz] at h
  cases hd:s.reverse.dropWhile (c.contains ·) with
  | nil=>
   rw[Cz] at hd
   intro x hx
   exact hd x (by simpa using hx)
  | cons y r=>
   exfalso
   have h1:=h y (by rw[hd];simp)
   have h2:=Nr hd
   rw[h1] at h2
   cases h2
 ·intro h
  have:s.reverse.dropWhile (c.contains ·)=[]:=Cz.2 fun x hx=>h x (by simpa using hx)
  rw[this];rfl
theorem QY {α:Type} (p:α->Bool) (e:Int) (he:e≠0):∀ (l:List α) (i:Nat),uI (fun _ c=>if p c=true then 0 else e) i l=if l.all p=true then 0 else e
 | [],i=>by simp[uI]
 | y::r,i=>by
  have ih:=QY p e he r (i+1)
  cases hp:p y with
  | true=>simp only[uI,hp,agf,adP,adv];exact ih
  | false=>simp[uI,hp,he]
theorem Mx {s:Bys} {i:Nat} {c:UInt8} (h:s[i]? =some c):qv s (i:Int)=some c:=by simp[qv,h]
theorem BQ (s:Bys):kT s=some (cK s,()):=by
 unfold kT cK eP I9
 by_cases h0:s=[]
 ·subst h0;rfl
 have hb:(s==[])=false:=by simpa using h0
 have hl:0<s.length:=aeD.2 h0
 rw[hb,af1,bW (show ¬((s.length:Int)<1) by omega)]
 by_cases h2:(s.length:Int)>40
 ·rw[bF h2,bF h2];rfl
 rw[bW h2,bW h2]
 have hs:qv s 0=some (s[0]'hl):=Mx (i:=0) (bK hl)
 simp only[hs,afO]
 by_cases h3:(((s[0]'hl).toNat:Int))<97
 ·simp only[bF h3];rfl
 simp only[bW h3]
 by_cases h4:(((s[0]'hl).toNat:Int))>122
 ·simp only[bF h4];rfl
 simp only[bW h4]
 have ht:gB s [97,98,99,100,101,102,103,104,105,106,107,108,109,110,111,112,113,114,115,116,117,118,119,120,121,122,48,49,50,51,52,53,54,55,56,57,45]=some (Lib.trimS s nmC,()):=by
  unfold gB
  rw[show (decide (s.length<=9223372036854775807))=true by simp;omega]
  rfl
 rw[ht,afO]
 have loop:=NM (f:=wM) (fun i=>(s,(s.length:Int),(i:Int),())) s (fun _ c=>if nmB c=true then 0 else 1) (some (Sum.inr ())) (fun _=>some (Sum.inl (false,())))
  (fun i c again hi=>by
    have hil:=(aej.1 hi).1
    unfold wM
    dsimp only
    rw[bF (show (i:Int)<(s.length:Int) by omega),Mx hi,afO,acd c,aA (by omega) (by omega)]
    by_cases a1:(c.toNat:Int)<97<;>by_cases a2:(c.toNat:Int)>122<;>by_cases a3:(c.toNat:Int)<48<;>by_cases a4:(c.toNat:Int)>57<;>by_cases a5:(c.toNat:Int)=45<;>
      first
      | omega
      | (have b1:(97<=c.toNat)=¬ ((c.toNat:Int)<97):=by simp only[eq_iff_iff];omega
         have b2:(c.toNat<=122)=¬ ((c.toNat:Int)>122):=by simp only[eq_iff_iff];omega
         have b3:(48<=c.toNat)=¬ ((c.toNat:Int)<48):=by simp only[eq_iff_iff];omega
         have b4:(c.toNat<=57)=¬ ((c.toNat:Int)>57):=by simp only[eq_iff_iff];omega
         have b5:(c.toNat=45)=((c.toNat:Int)=45):=by simp only[eq_iff_iff];omega
         simp only[b1,b2,b3,b4,b5,a1,a2,a3,a4,a5,bne,af9,af8,not_true_eq_false,agj,adi,adv,adg,Bool.false_and,Bool.or_true,Bool.true_or,Bool.or_false,adn,af2,af1,agf,adl,agc,Int.one_ne_zero,afZ,ads]
         first | rfl | (have a6:((c.toNat:Int)==45)=false:=(by simp only[afX,ne_eq];exact a5);rw[a6];rfl)))
  (fun again=>by
    unfold wM
    dsimp only
    rw[bW (by omega)])
  s 0 (List.length s+(Int.natAbs ((List.length s:Int))+(Int.natAbs (0:Int)+2))) rfl (afN _) (by omega)
 rw[show ((0:Nat):Int)=0 from rfl] at loop
 rw[loop,QY nmB 1 (by omega),Q9]
 have e:(s.all fun x=>nmC.contains x)=s.all nmB:=rfl
 rw[e]
 cases s.all nmB<;>rfl
theorem BV (a b c:Int):vD a b c=some (decide (b<=a/\a<=c),()):=by
 unfold vD
 by_cases h:b<=a
 ·rw[bF h];simp[h]
 ·rw[bW h];simp[h]
theorem DR (n:Int):x7 n=some (decide (1<=n/\n<=3652059),()):=by
 unfold x7 Ms
 rw[BV];rfl
theorem I7 (d:ah):jM d=some (if -1000000000000000<=d.1/\d.1<=1000000000000000/\0<=d.2/\d.2<=9 then 0 else 1,()):=by
 unfold jM
 rw[BV,afO]
 by_cases h1: -1000000000000000<=d.1/\d.1<=1000000000000000
 ·rw[af6 h1]
  simp only[ads,af1]
  rw[BV,afO]
  by_cases h2:0<=d.2/\d.2<=9
  ·rw[af6 h2,age ⟨h1.1,h1.2,h2⟩];rfl
  ·rw[af4 h2,agd (fun h=>h2 h.2.2)];rfl
 ·rw[af4 h1,agd (fun h=>h1 ⟨h.1,h.2.1⟩)];rfl
theorem XF {a b:ah} (ha:eM a) (hb:eM b):Wd a b=some ((fS a - fS b).sign,()):=by
 unfold Wd
 have l1:=Ni ha
 have l2:=Ni hb
 have m1:=DL (z:=fS a) (by omega)
 have m2:=DL (z:=fS b) (by omega)
 rw[T8 a ha,afO,T8 b hb,afO,QN _ _ (by omega) (by omega)]
 rfl
instance (d:ah):Decidable (eM d):=by unfold eM;infer_instance
end Go.Md
