/-
  Plain facts, small ones. No condition.
-/
import Derived.Test.YtcoofjaonlccjaaGreatDoorVp
import Derived.Test.YtcoofjaonlccjaaGreatDoorVm
set_option linter.all false
namespace Go.Md
open Go.Dn
structure tG {α:Type} (k:α→Int) (l l':List α):Prop where
 perm:l.Perm l'
 keys:∀ v,l'.filter (fun x=>k x==v)=l.filter (fun x=>k x==v)
theorem tG.refl {α:Type} (k:α→Int) (l:List α):tG k l l:=⟨List.Perm.refl _,fun _=>rfl⟩
theorem tG.trans {α:Type} {k:α→Int} {a b c:List α} (h:tG k a b) (g:tG k b c):tG k a c:=⟨h.perm.trans g.perm,fun v=>(g.keys v).trans (h.keys v)⟩
theorem tG.append {α:Type} {k:α→Int} {a b c d:List α} (h:tG k a b) (g:tG k c d):tG k (a++c) (b++d):=
 ⟨h.perm.append g.perm,fun v=>by rw [aaf,aaf,h.keys,g.keys]⟩
theorem tG.mem {α:Type} {k:α→Int} {a b:List α} (h:tG k a b) {x:α}:x∈b↔x∈a:=h.perm.mem_iff.symm
theorem tG.length {α:Type} {k:α→Int} {a b:List α} (h:tG k a b):b.length=a.length:=h.perm.length_eq.symm
theorem tG.swap {α:Type} {k:α→Int} {u v:List α} (h:∀ x∈u,∀ y∈v,k x≠k y):tG k (u++v) (v++u):=by
 refine ⟨List.perm_append_comm,fun w=> ?_⟩
 rw [aaf,aaf]
 by_cases hu:∃ x∈u,k x=w
 ·obtain ⟨x,hx,rfl⟩:=hu
  have:v.filter (fun y=>k y==k x)=[]:=by
   rw [List.filter_eq_nil_iff]
   intro y hy
   simpa using fun e=>h x hx y hy e.symm
  rw [this];simp
 ·have:u.filter (fun y=>k y==w)=[]:=by
   rw [List.filter_eq_nil_iff]
   intro y hy
   simpa using fun e=>hu ⟨y,hy,e⟩
  rw [this];simp
def Srt {α:Type} (k:α→Int) (l:List α):Prop:=l.Pairwise fun x y=>k x≤k y
theorem Srt.append {α:Type} {k:α→Int} {a b:List α} (ha:Srt k a) (hb:Srt k b) (h:∀ x∈a,∀ y∈b,k x≤k y):Srt k (a++b):=aaR.2 ⟨ha,hb,h⟩
theorem Srt.left {α:Type} {k:α→Int} {a b:List α} (h:Srt k (a++b)):Srt k a:=(aaR.1 h).1
theorem Srt.right {α:Type} {k:α→Int} {a b:List α} (h:Srt k (a++b)):Srt k b:=(aaR.1 h).2.1
section
variable {k:Option Nat→Int} {ar:List qz} {ok:Option Nat→Prop}
end
end Go.Md
namespace Go.Md
open Go.Dn
section
variable {k:Option Nat→Int} {ar:List qz} {ok:Option Nat→Prop}
end
end Go.Md
namespace Go.Md
open Go.Dn
theorem Srt.get {α:Type} {k:α→Int} {l:List α} (h:Srt k l) {i j:Nat} (hij:i≤j) (hj:j<l.length):k (l[i]'(by omega))≤k l[j]:=by
 rcases Nat.lt_or_eq_of_le hij with h1 | h1
 ·exact aaS.1 h i j (by omega) hj h1
 ·subst h1;exact Int.le_refl _
section
variable {k:Option Nat→Int} {ar:List qz} {ok:Option Nat→Prop}
end
end Go.Md
namespace Go.Md
open Go.Dn
section
variable {k:Option Nat→Int} {ar:List qz} {ok:Option Nat→Prop}
end
end Go.Md
namespace Go.Md
open Go.Dn
def ChS {α:Type} (k:α→Int) (bs:Nat) (l:List α):Prop:=∀ j:Nat,Srt k ((l.drop (j*bs)).take bs)
theorem ChS.nil {α:Type} (k:α→Int) (bs:Nat):ChS k bs []:=fun _=>by simp [Srt]
theorem ChS.snoc {α:Type} {k:α→Int} {bs:Nat} {A S:List α} {j:Nat} (h:ChS k bs A) (hA:A.length=j*bs) (hS:Srt k S) (hl:S.length≤bs):ChS k bs (A++S):=by
 intro i
 rcases abi i j with hij | hij | hij
 ·have h1:(i+1)*bs≤j*bs:=abm _ hij
  rw [aa4,abp] at h1
  rw [List.drop_append_of_le_length (by omega),aaY (by rw [aav];omega)]
  exact h i
 ·subst hij
  rw [← hA,Z9,aa1 hl]
  exact hS
 ·have h1:(j+1)*bs≤i*bs:=abm _ hij
  rw [aa4,abp] at h1
  rw [aaa (by rw [aat];omega)]
  simp [Srt]
theorem ChS.drop {α:Type} {k:α→Int} {bs:Nat} {l:List α} (h:ChS k bs l) (i:Nat):ChS k bs (l.drop (i*bs)):=by
 intro j
 rw [Z7, ← aa4]
 exact h (i+j)
theorem Srt.take {α:Type} {k:α→Int} {l:List α} (h:Srt k l) (n:Nat):Srt k (l.take n):=by
 rw [← aaX n l] at h;exact h.left
section
variable {k:Option Nat→Int} {ar:List qz} {ok:Option Nat→Prop}
end
end Go.Md
namespace Go.Md
open Go.Dn
def vm {α:Type} (g:Nat→α→Int):Nat→List α→Int
 | _,[]=>0
 | i,y::r=>if g i y=0 then vm g (i+1) r else g i y
theorem iU (a b c:Int):dF a b c=some (decide (a<b∨c<a),()):=by
 unfold dF
 by_cases h:a<b
 ·rw [bG h];simp [h]
 ·rw [bP h];simp [h]
theorem rV (n:Int):mS n=some (decide (1≤n∧n≤3652059),()):=by
 unfold mS
 rw [iU,Option.bind_some]
 congr 2
 simp only [← decide_not]
 congr 1
 simp only [eq_iff_iff];omega
def cB (s:List UInt8):Bool:=((eG s).map (·.1)).getD false
theorem AN (s:List UInt8):eG s=some (cB s,()):=by
 have:∃ b,eG s=some (b,()):=by
  unfold eG
  by_cases h1:(s.length:Int)<1
  ·rw [bG h1];exact ⟨_,rfl⟩
  ·rw [bP h1]
   by_cases h2:(s.length:Int)>40
   ·rw [bG h2];exact ⟨_,rfl⟩
   ·rw [bP h2]
    have hs:sG s 0=some (s[0]'(by omega)):=by simp [sG]
    rw [hs]
    simp only [Option.bind_some]
    have ht:jC s [97,98,99,100,101,102,103,104,105,106,107,108,109,110,111,112,113,114,115,116,117,118,119,120,121,122,48,49,50,51,52,53,54,55,56,57,45]=some (Lib.trimS s [97,98,99,100,101,102,103,104,105,106,107,108,109,110,111,112,113,114,115,116,117,118,119,120,121,122,48,49,50,51,52,53,54,55,56,57,45],()):=by
     unfold jC
     rw [show (decide (s.length≤9223372036854775807))=true by simp;omega]
     rfl
    rw [ht]
    simp only [Option.bind_some]
    generalize (decide ((((s[0]'(by omega)).toNat:Int))<97))=b1
    generalize (decide ((((s[0]'(by omega)).toNat:Int))>122))=b2
    cases b1<;>cases b2<;>exact ⟨_,rfl⟩
 obtain ⟨b,hb⟩:=this
 unfold cB
 rw [hb];rfl
theorem Eg (d:ah):fP d=some (if -1000000000000000≤d.1∧d.1≤1000000000000000∧0≤d.2∧d.2≤9 then 0 else 1,()):=by
 unfold fP
 rw [iU,Option.bind_some,iU]
 simp only [Option.bind_some]
 by_cases h1:d.1< -1000000000000000∨1000000000000000<d.1
 ·rw [bG h1,if_neg (by omega)]
 ·rw [bP h1]
  by_cases h2:d.2<0∨9<d.2
  ·rw [bG h2,if_neg (by omega)]
  ·rw [bP h2,if_pos (by omega)]
theorem Xx {n:Nat} (h:n≤18):(10:Int) ^ n≤1000000000000000000:=by
 have:=abr (n:=10) (by omega) h
 have h2:=Int.ofNat_le.2 this
 simpa using h2
theorem As (n:Nat):(0:Int)<10 ^ n:=MN (by omega) n
theorem QG (n:Int) (h0:0≤n) (h1:n≤18):M7 n=some (10 ^ n.toNat,()):=by
 obtain ⟨m,rfl⟩:∃ m:Nat,n=m:=⟨n.toNat,by omega⟩
 unfold M7
 have:iter (X:=u5) (β:=uZ) (Int.natAbs (1:Int)+(Int.natAbs (m:Int)+(Int.natAbs (0:Int)+2))) (1,(m:Int),0,()) uY=some (Sum.inr (10 ^ m,())):=by
  refine de (Inv:=fun i x=>x=(10 ^ i,(m:Int),(i:Int),())) m (fun r=>r=some (Sum.inr (10 ^ m,()))) ?_ ?_ _ 0 _ (by simp) (by omega) (by omega)
  ·rintro i _ again hi rfl ih
   unfold uY
   dsimp only
   have h10:=Xx (n:=i+1) (by omega)
   have hp:=As (i+1)
   rw [ZT] at h10 hp
   rw [bG (by omega),aD (by omega) (by omega),aD (by omega) (by omega)]
   exact ih _ (by rw [ZT];rfl)
  ·rintro _ again rfl
   unfold uY
   dsimp only
   rw [bP (by omega)]
 rw [this,aZ]
 simp
def KB (d:ah):Prop:=0<d.1∧0≤d.2∧d.2≤4∧d.1≤1000000000*10 ^ d.2.toNat
instance (d:ah):Decidable (KB d):=by unfold KB;exact inferInstance
structure Yy (d:o9):Prop where
 day0:1≤d.2.1
 day1:d.2.1≤3652059
 mon:KB d.2.2.1
 days0:0≤d.2.2.2.1
 days1:d.2.2.2.1≤10000
 with0:0≤d.2.2.2.2.1
 with1:d.2.2.2.2.1≤d.2.2.2.1
 disc0:0≤d.2.2.2.2.2
 disc1:d.2.2.2.2.2≤1000
structure Zj (p:QE):Prop where
 day0:1≤p.1
 day1:p.1≤3652059
 mon:KB p.2.1
 names:p.2.2.length≤100
end Go.Md
namespace Go.Md
open Go.Dn
def KF (d:ah):Int:=d.1*10 ^ (4 - d.2).toNat
theorem KB.KF {d:ah} (h:KB d):0<KF d∧KF d≤10000000000000:=by
 obtain ⟨h1,h2,h3,h4⟩:=h
 unfold Md.KF
 have hp:=As (4 - d.2).toNat
 refine ⟨Int.mul_pos h1 hp, ?_⟩
 have a1:d.1*10 ^ (4 - d.2).toNat≤1000000000*10 ^ d.2.toNat*10 ^ (4 - d.2).toNat:=Int.mul_le_mul_of_nonneg_right h4 (by omega)
 rw [ZM, ← Int.pow_add,show d.2.toNat+(4 - d.2).toNat=4 by omega] at a1
 omega
abbrev Bd:=qz
def Ve (x:Bd):Int:=x.2.1
def Vi (x:Bd):Int:=x.2.2.1
def taken (x:Bd):Int:=x.2.2.2.1
def done (x:Bd):Int:=x.2.2.2.2
structure RD (x:Bd):Prop where
 d:Yy x.1
 owes0:0≤Ve x
 paid0:0≤Vi x
 taken0:0≤taken x
 sum:Ve x+Vi x+taken x=KF x.1.2.2.1
 none:done x=0→taken x=0
 done0:done x=0∨x.1.2.1≤done x
 iff:Ve x=0↔done x≠0
theorem RD.le {x:Bd} (h:RD x):Ve x≤10000000000000∧Vi x≤10000000000000∧taken x≤10000000000000:=by
 have:=h.d.mon.KF;have:=h.sum;have:=h.owes0;have:=h.paid0;have:=h.taken0;omega
section
variable {ar:List Bd} {h:Nat} {x:Bd}
theorem Yr {α:Type} {l:List α} {i:Nat} {x y:α} (h:l[i]? =some x):(l.set i y)[i]? =some y:=aap (List.getElem?_eq_some_iff.1 h).1
end
end Go.Md
namespace Go.Md
open Go.Dn
structure kg (ds:List o9) (ar:List Bd):Prop where
 ds:ar.map (·.1)=ds
 ok:∀ x∈ar,RD x
theorem kg.len {ds:List o9} {ar:List Bd} (h:kg ds ar):ar.length=ds.length:=by rw [← h.ds];simp
theorem kg.set {ds:List o9} {ar:List Bd} (h:kg ds ar) {i:Nat} {x y:Bd} (hx:ar[i]? =some x) (hy:RD y) (he:y.1=x.1):kg ds (ar.set i y):=by
 refine ⟨?_,fun z hz=> ?_⟩
 ·rw [List.map_set,he, ← h.ds]
  apply aae
  intro j
  by_cases hj:i=j
  ·subst hj
   rw [aap (by simp;exact (List.getElem?_eq_some_iff.1 hx).1),List.getElem?_map,hx];rfl
  ·rw [aao hj]
 ·rcases aaN hz with hz | rfl
  ·exact h.ok z hz
  ·exact hy
theorem kg.get {ds:List o9} {ar:List Bd} (h:kg ds ar) {i:Nat} {x:Bd} (hx:ar[i]? =some x):RD x:=h.ok x (List.mem_of_getElem? hx)
def Yu (ar:List Bd):Int:=(ar.map Vi).sum
structure Zk (ds:List o9) (L T:Int) (s:Int×List Bd):Prop where
 ar:kg ds s.2
 l0:0≤s.1
 l1:s.1≤L
 tot:s.1+Yu s.2=T
theorem Wp {k v:Ty} (p:k.den×v.den) (m:List (k.den×v.den)) (n:k.den):ot (p::m) n=bif k.beq n p.1 then some p.2 else ot m n:=by
 unfold ot
 rw [List.find?_cons]
 cases k.beq n p.1<;>rfl
end Go.Md
namespace Go.Md
open Go.Dn
def few:Nat→Int→Int×Nat
 | 0,z=>(z,0)
 | p+1,z=>if z % 10=0 then few p (z / 10) else (z,p+1)
theorem KH:∀ (p:Nat) (z:Int),(few p z).2≤p∧(few p z).1*10 ^ (p - (few p z).2)=z∧(few p z).1.natAbs≤z.natAbs
 | 0,z=>by simp [few]
 | p+1,z=>by
  unfold few
  split
  ·rename_i h
   obtain ⟨h1,h2,h3⟩:=KH p (z / 10)
   refine ⟨by omega, ?_,by omega⟩
   rw [show p+1 - (few p (z / 10)).2=(p - (few p (z / 10)).2)+1 by omega,ZT, ← ZM,h2]
   omega
  ·simp
theorem Mt:∀ p,few p 0=(0,0)
 | 0=>rfl
 | p+1=>by unfold few;simp [Mt p]
theorem OI (z:Int) (p:Int):nA (W z) p=some (if z.natAbs≤1000000000000000 then ((z,p),0,()) else ((0,0),1,())):=by
 unfold nA
 rw [MV z 1000000000000000 (by omega) (by omega),Option.bind_some]
 by_cases h:(z.natAbs:Int)≤1000000000000000
 ·rw [if_pos h,if_pos (by omega)];rfl
 ·rw [if_neg h,if_neg (by omega)];rfl
theorem Mc (z:Int) (hz:z.natAbs<4294967296 ^ 99) (p:Nat) (hp:p≤1000):uX (W z) (p:Int)=some (if (few p z).1.natAbs≤1000000000000000 then (((few p z).1,((few p z).2:Int)),0,()) else ((0,0),1,())):=by
 unfold uX
 rw [L8 10 (by omega) (by omega),Option.bind_some]
 dsimp only
 have loop:∀ (n:Nat) (z:Int) (p:Nat),z.natAbs<4294967296 ^ 99→p≤1000→p<n→iter (X:=pq) (β:=pg) n ((p:Int),(W z).1,(W z).2,0,0,(W 10).1,(W 10).2,()) pe=some (Sum.inr (((few p z).2:Int),(W (few p z).1).1,(W (few p z).1).2,0,0,())):=by
  intro n
  induction n with
  | zero=>intro z p _ _ h;omega
  | succ n ih=>
   intro z p hz hp hn
   rw [dK]
   generalize hag:(fun y=>iter n y pe)=again
   unfold pe
   dsimp only
   cases p with
   | zero=>rw [bP (by omega)];rfl
   | succ p=>
    have e10:(10:Int).natAbs=10:=rfl
    rw [bG (by omega)]
    change (Option.bind (sQ (W z) (W 10)) _)=_
    rw [OB z 10 hz (by rw [e10];exact abe (by omega) (abr (n:=4294967296) (by omega) (show 1≤99 by omega))) (by omega),Option.bind_some]
    dsimp only
    rw [Bk,Option.bind_some]
    dsimp only
    rw [e10]
    by_cases hm:z % 10=0
    ·have hm2:z.natAbs % 10=0:=by omega
     rw [hm2,show ((((0:Nat):Int).sign) != 0)=false from rfl,cond_false]
     change (Option.bind (jc (W z)) _)=_
     rw [Bk,Option.bind_some]
     dsimp only
     have hf:few (p+1) z=few p (z / 10):=by simp [few,hm]
     rw [hf]
     have hz':(z / 10).natAbs<4294967296 ^ 99:=abd (by omega) hz
     by_cases hneg:z<0
     ·rw [bG (by rw [ZU hneg];omega),Kx _ (by simp only [Int.natAbs_natCast];exact abd (Nat.div_le_self _ _) hz),Option.bind_some]
      dsimp only
      rw [show -((z.natAbs / 10:Nat):Int)=z / 10 by omega,aD (by omega) (by omega),show ((p+1:Nat):Int) - 1=(p:Int) by omega, ← hag]
      exact ih (z / 10) p hz' (by omega) (by omega)
     ·rw [bP (by
       rcases (show z=0∨0<z by omega) with h | h
       ·subst h;decide
       ·rw [ZV h];omega),show ((z.natAbs / 10:Nat):Int)=z / 10 by omega,aD (by omega) (by omega),show ((p+1:Nat):Int) - 1=(p:Int) by omega, ← hag]
      exact ih (z / 10) p hz' (by omega) (by omega)
    ·have hm2:0<z.natAbs % 10:=by omega
     have:(((z.natAbs % 10:Nat):Int).sign != 0)=true:=by
      rw [ZV (by omega)];rfl
     rw [this,cond_true]
     have hf:few (p+1) z=(z,p+1):=by simp [few,hm]
     rw [hf]
 have:=loop (Int.natAbs (p:Int)+(List.length (W z).2+(Int.natAbs (0:Int)+(Int.natAbs (0:Int)+(List.length (W 10).2+2))))) z p hz hp (by omega)
 rw [this,aZ]
 dsimp only
 change (Option.bind (nA (W (few p z).1) ((few p z).2:Int)) _)=_
 rw [OI,Option.bind_some]
def kO (d:ah):Int:=d.1*10 ^ (9 - d.2).toNat
def fB (d:ah):Prop:=d.1.natAbs≤1000000000000000∧0≤d.2∧d.2≤9
theorem EA {z:Int} (h:z.natAbs<1000000000000000000000000000000000000000000000000000000000000):(dg6 z.natAbs).length≤10:=T0 (k:=10) (by simpa using h)
theorem L2 (n:Nat) (hn:n≤40):Ht (n:Int)=some (N (10 ^ n),()):=by
 unfold Ht
 rw [Hs 1 (by omega) (by omega),Option.bind_some]
 dsimp only
 have hb:∀ i:Nat,i≤41→(dg6 ((10:Int) ^ i).natAbs).length≤10:=by
  intro i hi
  refine EA ?_
  have h1:((10:Int) ^ i).natAbs=10 ^ i:=by rw [ZR];rfl
  have h2:=abr (n:=10) (by omega) hi
  omega
 have loop:iter (X:=zq) (β:=zo) (Int.natAbs (n:Int)+(Int.natAbs (0:Int)+(List.length ([]:List Int)+(List.length (N 1).2+2)))) ((n:Int),0,false,[],(N 1).1,(N 1).2,()) zn=some (Sum.inr (false,[],(N (10 ^ n)).1,(N (10 ^ n)).2,())):=by
  refine de (Inv:=fun i x=>x=((n:Int),(i:Int),false,[],(N (10 ^ i)).1,(N (10 ^ i)).2,())) n (fun r=>r=some (Sum.inr (false,[],(N (10 ^ n)).1,(N (10 ^ n)).2,()))) ?_ ?_ _ 0 _ (by simp) (by omega) (by omega)
  ·rintro i _ again hi rfl ih
   unfold zn
   dsimp only
   rw [bG (by omega),Hs 10 (by omega) (by omega),Option.bind_some]
   change (Option.bind (th (N (10 ^ i)) (N 10)) _)=_
   have h10:(dg6 (10:Int).natAbs).length≤10:=EA (by decide)
   rw [AT _ _ (by have:=hb i (by omega);omega) (by omega),Option.bind_some]
   dsimp only
   rw [aD (by omega) (by omega)]
   exact ih _ (by rw [ZT];rfl)
  ·rintro _ again rfl
   unfold zn
   dsimp only
   rw [bP (by omega)]
 rw [loop,aZ]
theorem SP (d:ah) (hd:fB d):BD d 9=some (N (kO d),()):=by
 obtain ⟨h1,h2,h3⟩:=hd
 unfold BD
 rw [Hs _ (by omega) (by omega),Option.bind_some,aD (by omega) (by omega)]
 dsimp only
 obtain ⟨m,hm⟩:∃ m:Nat,9 - d.2=m:=⟨(9 - d.2).toNat,by omega⟩
 rw [hm,L2 m (by omega),Option.bind_some]
 dsimp only
 have hl1:(dg6 d.1.natAbs).length≤10:=EA (by omega)
 have hl2:(dg6 ((10:Int) ^ m).natAbs).length≤10:=by
  refine EA ?_
  have h1:((10:Int) ^ m).natAbs=10 ^ m:=by rw [ZR];rfl
  have h2:=abr (n:=10) (by omega) (show m≤9 by omega)
  omega
 rw [AT _ _ (by omega) (by omega),Option.bind_some]
 unfold kO
 rw [hm];rfl
theorem Ni {d:ah} (hd:fB d):(kO d).natAbs≤1000000000000000000000000:=by
 obtain ⟨h1,h2,h3⟩:=hd
 unfold kO
 rw [ZQ,ZR]
 have h4:=abr (n:=10) (by omega) (show (9 - d.2).toNat≤9 by omega)
 have h5:d.1.natAbs*(10:Int).natAbs ^ (9 - d.2).toNat≤1000000000000000*1000000000:=Nat.mul_le_mul h1 (by simpa using h4)
 omega
end Go.Md
namespace Go.Md
open Go.Dn
end Go.Md
namespace Go.Md
open Go.Dn
end Go.Md
namespace Go.Md
open Go.Dn
theorem NT {X α B:Type} {f:X→(X→Option B)→Option B} (mk:Nat→X) (l:List α) (g:Nat→α→Int) (fin:Option B) (out:Int→Option B)
 (hstep:∀ i y again,l[i]? =some y→f (mk i) again=if g i y=0 then again (mk (i+1)) else out (g i y)) (hend:∀ again,f (mk l.length) again=fin):
 ∀ (r:List α) (i n:Nat),l.drop i=r→i≤l.length→r.length<n→iter n (mk i) f=if vm g i r=0 then fin else out (vm g i r)
 | _,_,0,_,_,hn=>absurd hn (abo _)
 | [],i,n+1,hd,hi,_=>by
  have:i=l.length:=by
   have:=congrArg List.length hd
   simp at this;omega
  subst this
  rw [dK,hend];rfl
 | y::r,i,n+1,hd,hi,hn=>by
  have hy:l[i]? =some y:=by
   have:=congrArg (·[0]?) hd
   simpa [aal] using this
  have hr:l.drop (i+1)=r:=by
   have:=congrArg List.tail hd
   simpa [aaW] using this
  have hi':i<l.length:=(List.getElem?_eq_some_iff.1 hy).1
  rw [dK,hstep i y _ hy]
  by_cases hg:g i y=0
  ·have e:vm g i (y::r)=vm g (i+1) r:=by simp [vm,hg]
   rw [if_pos hg,e]
   exact NT mk l g fin out hstep hend r (i+1) n hr hi' (by simp at hn;omega)
  ·have e:vm g i (y::r)=g i y:=by simp [vm,hg]
   rw [if_neg hg,e,if_neg hg]
end Go.Md
namespace Go.Md
open Go.Dn
def RF (D:Int) (S:Nat→Prop) (ar:List Bd):Prop:=∀ i x,S i→ar[i]? =some x→done x=0∨D<done x
theorem RF.set {D:Int} {S:Nat→Prop} {ar:List Bd} {h:Nat} {x y:Bd} (hq:RF D S ar) (hx:ar[h]? =some x) (hy:(done x=0∨D<done x)→(done y=0∨D<done y)):RF D S (ar.set h y):=by
 intro i z hi hz
 by_cases e:h=i
 ·subst e
  rw [Yr hx] at hz
  cases hz
  exact hy (hq h x hi hx)
 ·rw [aao e] at hz
  exact hq i z hi hz
end Go.Md
namespace Go.Md
open Go.Dn
def nmC:List UInt8:=[97,98,99,100,101,102,103,104,105,106,107,108,109,110,111,112,113,114,115,116,117,118,119,120,121,122,48,49,50,51,52,53,54,55,56,57,45]
def nmB (c:UInt8):Bool:=nmC.contains c
set_option maxRecDepth 100000 in
theorem Yi:∀ n:Fin 256,nmB (UInt8.ofNat n.1)=((decide (97≤n.1)&&decide (n.1≤122))||((decide (48≤n.1)&&decide (n.1≤57))||decide (n.1=45))):=by decide
theorem YK (c:UInt8):nmB c=((decide (97≤c.toNat)&&decide (c.toNat≤122))||((decide (48≤c.toNat)&&decide (c.toNat≤57))||decide (c.toNat=45))):=by
 have:=Yi ⟨c.toNat,UInt8.toNat_lt c⟩
 simpa using this
theorem DQ {α:Type} {p:α→Bool}:∀ {l:List α},l.dropWhile p=[]↔∀ x∈l,p x=true
 | []=>by simp
 | y::r=>by
  cases hp:p y with
  | true=>rw [List.dropWhile_cons_of_pos hp,DQ];simp [hp]
  | false=>rw [List.dropWhile_cons_of_neg (by simp [hp])];simp [hp]
theorem Ny {α:Type} {p:α→Bool} {y:α} {r:List α}:∀ {l:List α},l.dropWhile p=y::r→p y=false
 | [],h=>by simp at h
 | z::t,h=>by
  cases hp:p z with
  | true=>rw [List.dropWhile_cons_of_pos hp] at h;exact Ny h
  | false=>rw [List.dropWhile_cons_of_neg (by simp [hp])] at h;cases h;exact hp
theorem WQ (s c:List UInt8):(Lib.trimS s c==[])=s.all (c.contains ·):=by
 rw [Zy]
 simp only [beq_iff_eq,Z0]
 unfold Lib.trimS Lib.trimLeftS Lib.trimRightS
 constructor
 ·intro h
  rw [DQ] at h
  cases hd:s.reverse.dropWhile (c.contains ·) with
  | nil=>
   rw [DQ] at hd
   intro x hx
   exact hd x (by simpa using hx)
  | cons y r=>
   exfalso
   have h1:=h y (by rw [hd];simp)
   have h2:=Ny hd
   rw [h1] at h2
   cases h2
 ·intro h
  have:s.reverse.dropWhile (c.contains ·)=[]:=DQ.2 fun x hx=>h x (by simpa using hx)
  rw [this];rfl
theorem QA {α:Type} (p:α→Bool) (e:Int) (he:e≠0):∀ (l:List α) (i:Nat),vm (fun _ c=>if p c=true then 0 else e) i l=if l.all p=true then 0 else e
 | [],i=>by simp [vm]
 | y::r,i=>by
  have ih:=QA p e he r (i+1)
  cases hp:p y with
  | true=>simp only [vm,hp,abP,ZZ,ZI];exact ih
  | false=>simp [vm,hp,he]
theorem MT {s:List UInt8} {i:Nat} {c:UInt8} (h:s[i]? =some c):sG s (i:Int)=some c:=by simp [sG,h]
theorem CS (s:List UInt8):kZ s=some (cB s,()):=by
 unfold kZ cB eG Kl
 by_cases h0:s=[]
 ·subst h0;rfl
 have hb:(s==[])=false:=by simpa using h0
 have hl:0<s.length:=List.length_pos_iff.2 h0
 rw [hb,cond_false,bP (show ¬((s.length:Int)<1) by omega)]
 by_cases h2:(s.length:Int)>40
 ·rw [bG h2,bG h2];rfl
 rw [bP h2,bP h2]
 have hs:sG s 0=some (s[0]'hl):=MT (i:=0) (bD hl)
 simp only [hs,Option.bind_some]
 by_cases h3:(((s[0]'hl).toNat:Int))<97
 ·simp only [bG h3];rfl
 simp only [bP h3]
 by_cases h4:(((s[0]'hl).toNat:Int))>122
 ·simp only [bG h4];rfl
 simp only [bP h4]
 have ht:jC s [97,98,99,100,101,102,103,104,105,106,107,108,109,110,111,112,113,114,115,116,117,118,119,120,121,122,48,49,50,51,52,53,54,55,56,57,45]=some (Lib.trimS s nmC,()):=by
  unfold jC
  rw [show (decide (s.length≤9223372036854775807))=true by simp;omega]
  rfl
 rw [ht,Option.bind_some]
 have loop:=NT (f:=xB) (fun i=>(s,(s.length:Int),(i:Int),())) s (fun _ c=>if nmB c=true then 0 else 1) (some (Sum.inr ())) (fun _=>some (Sum.inl (false,())))
  (fun i c again hi=>by
    have hil:=(List.getElem?_eq_some_iff.1 hi).1
    unfold xB
    dsimp only
    rw [bG (show (i:Int)<(s.length:Int) by omega),MT hi,Option.bind_some,YK c,aD (by omega) (by omega)]
    by_cases a1:(c.toNat:Int)<97<;>by_cases a2:(c.toNat:Int)>122<;>by_cases a3:(c.toNat:Int)<48<;>by_cases a4:(c.toNat:Int)>57<;>by_cases a5:(c.toNat:Int)=45<;>
      first
      | omega
      | (have b1:(97≤c.toNat)=¬ ((c.toNat:Int)<97):=by simp only [eq_iff_iff];omega
         have b2:(c.toNat≤122)=¬ ((c.toNat:Int)>122):=by simp only [eq_iff_iff];omega
         have b3:(48≤c.toNat)=¬ ((c.toNat:Int)<48):=by simp only [eq_iff_iff];omega
         have b4:(c.toNat≤57)=¬ ((c.toNat:Int)>57):=by simp only [eq_iff_iff];omega
         have b5:(c.toNat=45)=((c.toNat:Int)=45):=by simp only [eq_iff_iff];omega
         simp only [b1,b2,b3,b4,b5,a1,a2,a3,a4,a5,bne,abL,abK,not_true_eq_false,abS,Zx,ZI,Zw,Bool.false_and,Bool.or_true,Bool.true_or,Bool.or_false,ZB,cond_true,cond_false,abP,Zz,abO,Int.one_ne_zero,abE,Bool.not_true]
         first | rfl | (have a6:((c.toNat:Int)==45)=false:=(by simp only [abD,ne_eq];exact a5);rw [a6];rfl)))
  (fun again=>by
    unfold xB
    dsimp only
    rw [bP (by omega)])
  s 0 (List.length s+(Int.natAbs ((List.length s:Int))+(Int.natAbs (0:Int)+2))) rfl (abv _) (by omega)
 rw [show ((0:Nat):Int)=0 from rfl] at loop
 rw [loop,QA nmB 1 (by omega),WQ]
 have e:(s.all fun x=>nmC.contains x)=s.all nmB:=rfl
 rw [e]
 cases s.all nmB<;>rfl
theorem CY (a b c:Int):wj a b c=some (decide (b≤a∧a≤c),()):=by
 unfold wj
 by_cases h:b≤a
 ·rw [bG h];simp [h]
 ·rw [bP h];simp [h]
theorem EP (n:Int):yQ n=some (decide (1≤n∧n≤3652059),()):=by
 unfold yQ MP
 rw [CY];rfl
theorem Kj (d:ah):jT d=some (if -1000000000000000≤d.1∧d.1≤1000000000000000∧0≤d.2∧d.2≤9 then 0 else 1,()):=by
 unfold jT
 rw [CY,Option.bind_some]
 by_cases h1: -1000000000000000≤d.1∧d.1≤1000000000000000
 ·rw [decide_eq_true h1]
  simp only [Bool.not_true,cond_false]
  rw [CY,Option.bind_some]
  by_cases h2:0≤d.2∧d.2≤9
  ·rw [decide_eq_true h2,if_pos ⟨h1.1,h1.2,h2⟩];rfl
  ·rw [abH h2,if_neg (fun h=>h2 h.2.2)];rfl
 ·rw [abH h1,if_neg (fun h=>h1 ⟨h.1,h.2.1⟩)];rfl
theorem Vl {a b:ah} (ha:fB a) (hb:fB b):Uv a b=some ((kO a - kO b).sign,()):=by
 unfold Uv
 have l1:=Ni ha
 have l2:=Ni hb
 have m1:=EA (z:=kO a) (by omega)
 have m2:=EA (z:=kO b) (by omega)
 rw [SP a ha,Option.bind_some,SP b hb,Option.bind_some,Qs _ _ (by omega) (by omega)]
 rfl
instance (d:ah):Decidable (fB d):=by unfold fB;infer_instance
end Go.Md
