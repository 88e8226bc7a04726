/-
  Plain facts, small ones. No condition.
-/
import Derived.Test.YtcndcnfjdanbeaaGreatDoorVp
import Derived.Test.YtcndcnfjdanbeaaGreatDoorVm
set_option linter.all false
namespace Go.Md
open Go.Dn
structure vA {α:Type} (k:α→Int) (l l':List α):Prop where
 perm:l.Perm l'
 keys:∀ v,l'.filter (fun x=>k x==v)=l.filter (fun x=>k x==v)
theorem vA.refl {α:Type} (k:α→Int) (l:List α):vA k l l:=⟨List.Perm.refl _,fun _=>rfl⟩
theorem vA.trans {α:Type} {k:α→Int} {a b c:List α} (h:vA k a b) (g:vA k b c):vA k a c:=⟨h.perm.trans g.perm,fun v=>(g.keys v).trans (h.keys v)⟩
theorem vA.append {α:Type} {k:α→Int} {a b c d:List α} (h:vA k a b) (g:vA k c d):vA k (a++c) (b++d):=
 ⟨h.perm.append g.perm,fun v=>by rw [adS,adS,h.keys,g.keys]⟩
theorem vA.mem {α:Type} {k:α→Int} {a b:List α} (h:vA k a b) {x:α}:x∈b↔x∈a:=h.perm.mem_iff.symm
theorem vA.length {α:Type} {k:α→Int} {a b:List α} (h:vA k a b):b.length=a.length:=h.perm.length_eq.symm
theorem vA.swap {α:Type} {k:α→Int} {u v:List α} (h:∀ x∈u,∀ y∈v,k x≠k y):vA k (u++v) (v++u):=by
 refine ⟨List.perm_append_comm,fun w=> ?_⟩
 rw [adS,adS]
 by_cases hu:∃ x∈u,k x=w
 ·obtain ⟨x,hx,rfl⟩:=hu
  have:v.filter (fun y=>k y==k x)=[]:=by
   rw [List.filter_eq_nil_iff]
   intro y hy
   simpa using fun e=>h x hx y hy e.symm
  rw [this];simp
 ·have:u.filter (fun y=>k y==w)=[]:=by
   rw [List.filter_eq_nil_iff]
   intro y hy
   simpa using fun e=>hu ⟨y,hy,e⟩
  rw [this];simp
def Srt {α:Type} (k:α→Int) (l:List α):Prop:=l.Pairwise fun x y=>k x≤k y
theorem Srt.append {α:Type} {k:α→Int} {a b:List α} (ha:Srt k a) (hb:Srt k b) (h:∀ x∈a,∀ y∈b,k x≤k y):Srt k (a++b):=aeB.2 ⟨ha,hb,h⟩
theorem Srt.left {α:Type} {k:α→Int} {a b:List α} (h:Srt k (a++b)):Srt k a:=(aeB.1 h).1
theorem Srt.right {α:Type} {k:α→Int} {a b:List α} (h:Srt k (a++b)):Srt k b:=(aeB.1 h).2.1
section
variable {k:Option Nat→Int} {ar:List r0} {ok:Option Nat→Prop}
end
end Go.Md
namespace Go.Md
open Go.Dn
section
variable {k:Option Nat→Int} {ar:List r0} {ok:Option Nat→Prop}
end
end Go.Md
namespace Go.Md
open Go.Dn
theorem Srt.get {α:Type} {k:α→Int} {l:List α} (h:Srt k l) {i j:Nat} (hij:i≤j) (hj:j<l.length):k (l[i]'(by omega))≤k l[j]:=by
 rcases Nat.lt_or_eq_of_le hij with h1 | h1
 ·exact aeC.1 h i j (by omega) hj h1
 ·subst h1;exact adk _
section
variable {k:Option Nat→Int} {ar:List r0} {ok:Option Nat→Prop}
end
end Go.Md
namespace Go.Md
open Go.Dn
section
variable {k:Option Nat→Int} {ar:List r0} {ok:Option Nat→Prop}
end
end Go.Md
namespace Go.Md
open Go.Dn
def ChS {α:Type} (k:α→Int) (bs:Nat) (l:List α):Prop:=∀ j:Nat,Srt k ((l.drop (j*bs)).take bs)
theorem ChS.nil {α:Type} (k:α→Int) (bs:Nat):ChS k bs []:=fun _=>by simp [Srt]
theorem ChS.snoc {α:Type} {k:α→Int} {bs:Nat} {A S:List α} {j:Nat} (h:ChS k bs A) (hA:A.length=j*bs) (hS:Srt k S) (hl:S.length≤bs):ChS k bs (A++S):=by
 intro i
 rcases ae4 i j with hij | hij | hij
 ·have h1:(i+1)*bs≤j*bs:=ae8 _ hij
  rw [aeQ,afb] at h1
  rw [List.drop_append_of_le_length (by omega),aeK (by rw [aed];omega)]
  exact h i
 ·subst hij
  rw [← hA,adM,aeN hl]
  exact hS
 ·have h1:(j+1)*bs≤i*bs:=ae8 _ hij
  rw [aeQ,afb] at h1
  rw [adN (by rw [aeb];omega)]
  simp [Srt]
theorem ChS.drop {α:Type} {k:α→Int} {bs:Nat} {l:List α} (h:ChS k bs l) (i:Nat):ChS k bs (l.drop (i*bs)):=by
 intro j
 rw [adK, ← aeQ]
 exact h (i+j)
theorem Srt.take {α:Type} {k:α→Int} {l:List α} (h:Srt k l) (n:Nat):Srt k (l.take n):=by
 rw [← aeJ n l] at h;exact h.left
section
variable {k:Option Nat→Int} {ar:List r0} {ok:Option Nat→Prop}
end
end Go.Md
namespace Go.Md
open Go.Dn
def xM {α:Type} (g:Nat→α→Int):Nat→List α→Int
 | _,[]=>0
 | i,y::r=>if g i y=0 then xM g (i+1) r else g i y
theorem fU (a b c:Int):cX a b c=some (decide (a<b∨c<a),()):=by
 unfold cX
 by_cases h:a<b
 ·rw [bE h];simp [h]
 ·rw [bH h];simp [h]
theorem tQ (n:Int):ou n=some (decide (1≤n∧n≤3652059),()):=by
 unfold ou
 rw [fU,Option.bind_some]
 congr 2
 simp only [← decide_not]
 congr 1
 simp only [eq_iff_iff];omega
def cL (s:List UInt8):Bool:=((eY s).map (·.1)).getD false
theorem CH (s:List UInt8):eY s=some (cL s,()):=by
 have:∃ b,eY s=some (b,()):=by
  unfold eY
  by_cases h1:(s.length:Int)<1
  ·rw [bE h1];exact ⟨_,rfl⟩
  ·rw [bH h1]
   by_cases h2:(s.length:Int)>40
   ·rw [bE h2];exact ⟨_,rfl⟩
   ·rw [bH h2]
    have hs:uy s 0=some (s[0]'(by omega)):=by simp [uy]
    rw [hs]
    simp only [Option.bind_some]
    have ht:ku s [97,98,99,100,101,102,103,104,105,106,107,108,109,110,111,112,113,114,115,116,117,118,119,120,121,122,48,49,50,51,52,53,54,55,56,57,45]=some (Lib.trimS s [97,98,99,100,101,102,103,104,105,106,107,108,109,110,111,112,113,114,115,116,117,118,119,120,121,122,48,49,50,51,52,53,54,55,56,57,45],()):=by
     unfold ku
     rw [show (decide (s.length≤9223372036854775807))=true by simp;omega]
     rfl
    rw [ht]
    simp only [Option.bind_some]
    generalize (decide ((((s[0]'(by omega)).toNat:Int))<97))=b1
    generalize (decide ((((s[0]'(by omega)).toNat:Int))>122))=b2
    cases b1<;>cases b2<;>exact ⟨_,rfl⟩
 obtain ⟨b,hb⟩:=this
 unfold cL
 rw [hb];rfl
theorem GN (d:aa):eP d=some (if -1000000000000000≤d.1∧d.1≤1000000000000000∧0≤d.2∧d.2≤9 then 0 else 1,()):=by
 unfold eP
 rw [fU,Option.bind_some,fU]
 simp only [Option.bind_some]
 by_cases h1:d.1< -1000000000000000∨1000000000000000<d.1
 ·rw [bE h1,if_neg (by omega)]
 ·rw [bH h1]
  by_cases h2:d.2<0∨9<d.2
  ·rw [bE h2,if_neg (by omega)]
  ·rw [bH h2,if_pos (by omega)]
theorem aaD {n:Nat} (h:n≤18):(10:Int) ^ n≤1000000000000000000:=by
 have:=afd (n:=10) (by omega) h
 have h2:=Int.ofNat_le.2 this
 simpa using h2
theorem Ck (n:Nat):(0:Int)<10 ^ n:=J0 (by omega) n
theorem TR (n:Int) (h0:0≤n) (h1:n≤18):P3 n=some (10 ^ n.toNat,()):=by
 obtain ⟨m,rfl⟩:∃ m:Nat,n=m:=⟨n.toNat,by omega⟩
 unfold P3
 have:iter (X:=xk) (β:=xj) (Int.natAbs (1:Int)+(Int.natAbs (m:Int)+(Int.natAbs (0:Int)+2))) (1,(m:Int),0,()) xh=some (Sum.inr (10 ^ m,())):=by
  refine bQ (Inv:=fun i x=>x=(10 ^ i,(m:Int),(i:Int),())) m (fun r=>r=some (Sum.inr (10 ^ m,()))) ?_ ?_ _ 0 _ (by simp) (by omega) (by omega)
  ·rintro i _ again hi rfl ih
   unfold xh
   dsimp only
   have h10:=aaD (n:=i+1) (by omega)
   have hp:=Ck (i+1)
   rw [adv] at h10 hp
   rw [bE (by omega),aA (by omega) (by omega),aA (by omega) (by omega)]
   exact ih _ (by rw [adv];rfl)
  ·rintro _ again rfl
   unfold xh
   dsimp only
   rw [bH (by omega)]
 rw [this,aS]
 simp
def M6 (d:aa):Prop:=0<d.1∧0≤d.2∧d.2≤4∧d.1≤1000000000*10 ^ d.2.toNat
instance (d:aa):Decidable (M6 d):=by unfold M6;exact inferInstance
structure abQ (d:qF):Prop where
 day0:1≤d.2.1
 day1:d.2.1≤3652059
 mon:M6 d.2.2.1
 days0:0≤d.2.2.2.1
 days1:d.2.2.2.1≤10000
 with0:0≤d.2.2.2.2.1
 with1:d.2.2.2.2.1≤d.2.2.2.1
 disc0:0≤d.2.2.2.2.2
 disc1:d.2.2.2.2.2≤1000
structure acP (p:TO):Prop where
 day0:1≤p.1
 day1:p.1≤3652059
 mon:M6 p.2.1
 names:p.2.2.length≤100
end Go.Md
namespace Go.Md
open Go.Dn
def Na (d:aa):Int:=d.1*10 ^ (4 - d.2).toNat
theorem M6.Na {d:aa} (h:M6 d):0<Na d∧Na d≤10000000000000:=by
 obtain ⟨h1,h2,h3,h4⟩:=h
 unfold Md.Na
 have hp:=Ck (4 - d.2).toNat
 refine ⟨Int.mul_pos h1 hp, ?_⟩
 have a1:d.1*10 ^ (4 - d.2).toNat≤1000000000*10 ^ d.2.toNat*10 ^ (4 - d.2).toNat:=Int.mul_le_mul_of_nonneg_right h4 (by omega)
 rw [adm, ← adu,show d.2.toNat+(4 - d.2).toNat=4 by omega] at a1
 omega
abbrev Bd:=r0
def Yx (x:Bd):Int:=x.2.1
def YB (x:Bd):Int:=x.2.2.1
def taken (x:Bd):Int:=x.2.2.2.1
def done (x:Bd):Int:=x.2.2.2.2
structure UT (x:Bd):Prop where
 d:abQ x.1
 owes0:0≤Yx x
 paid0:0≤YB x
 taken0:0≤taken x
 sum:Yx x+YB x+taken x=Na x.1.2.2.1
 none:done x=0→taken x=0
 done0:done x=0∨x.1.2.1≤done x
 iff:Yx x=0↔done x≠0
theorem UT.le {x:Bd} (h:UT x):Yx x≤10000000000000∧YB x≤10000000000000∧taken x≤10000000000000:=by
 have:=h.d.mon.Na;have:=h.sum;have:=h.owes0;have:=h.paid0;have:=h.taken0;omega
section
variable {ar:List Bd} {h:Nat} {x:Bd}
theorem abH {α:Type} {l:List α} {i:Nat} {x y:α} (h:l[i]? =some x):(l.set i y)[i]? =some y:=ad6 (List.getElem?_eq_some_iff.1 h).1
end
end Go.Md
namespace Go.Md
open Go.Dn
structure kZ (ds:List qF) (ar:List Bd):Prop where
 ds:ar.map (·.1)=ds
 ok:∀ x∈ar,UT x
theorem kZ.len {ds:List qF} {ar:List Bd} (h:kZ ds ar):ar.length=ds.length:=by rw [← h.ds];simp
theorem kZ.set {ds:List qF} {ar:List Bd} (h:kZ ds ar) {i:Nat} {x y:Bd} (hx:ar[i]? =some x) (hy:UT y) (he:y.1=x.1):kZ ds (ar.set i y):=by
 refine ⟨?_,fun z hz=> ?_⟩
 ·rw [List.map_set,he, ← h.ds]
  apply adR
  intro j
  by_cases hj:i=j
  ·subst hj
   rw [ad6 (by simp;exact (List.getElem?_eq_some_iff.1 hx).1),List.getElem?_map,hx];rfl
  ·rw [ad5 hj]
 ·rcases aex hz with hz | rfl
  ·exact h.ok z hz
  ·exact hy
theorem kZ.get {ds:List qF} {ar:List Bd} (h:kZ ds ar) {i:Nat} {x:Bd} (hx:ar[i]? =some x):UT x:=h.ok x (List.mem_of_getElem? hx)
def abM (ar:List Bd):Int:=(ar.map YB).sum
structure acQ (ds:List qF) (L T:Int) (s:Int×List Bd):Prop where
 ar:kZ ds s.2
 l0:0≤s.1
 l1:s.1≤L
 tot:s.1+abM s.2=T
theorem ZH {k v:Ty} (p:k.den×v.den) (m:List (k.den×v.den)) (n:k.den):mG (p::m) n=bif k.beq n p.1 then some p.2 else mG m n:=by
 unfold mG
 rw [List.find?_cons]
 cases k.beq n p.1<;>rfl
end Go.Md
namespace Go.Md
open Go.Dn
def few:Nat→Int→Int×Nat
 | 0,z=>(z,0)
 | p+1,z=>if z % 10=0 then few p (z / 10) else (z,p+1)
theorem DQ:∀ (p:Nat) (z:Int),(few p z).2≤p∧(few p z).1*10 ^ (p - (few p z).2)=z∧(few p z).1.natAbs≤z.natAbs
 | 0,z=>by simp [few]
 | p+1,z=>by
  unfold few
  split
  ·rename_i h
   obtain ⟨h1,h2,h3⟩:=DQ p (z / 10)
   refine ⟨by omega, ?_,by omega⟩
   rw [show p+1 - (few p (z / 10)).2=(p - (few p (z / 10)).2)+1 by omega,adv, ← adm,h2]
   omega
  ·simp
theorem O5:∀ p,few p 0=(0,0)
 | 0=>rfl
 | p+1=>by unfold few;simp [O5 p]
theorem AH (z:Int) (p:Int):iF (W z) p=some (if z.natAbs≤1000000000000000 then ((z,p),0,()) else ((0,0),1,())):=by
 unfold iF
 rw [PO z 1000000000000000 (by omega) (by omega),Option.bind_some]
 by_cases h:(z.natAbs:Int)≤1000000000000000
 ·rw [if_pos h,if_pos (by omega)];rfl
 ·rw [if_neg h,if_neg (by omega)];rfl
theorem OO (z:Int) (hz:z.natAbs<4294967296 ^ 99) (p:Nat) (hp:p≤1000):xb (W z) (p:Int)=some (if (few p z).1.natAbs≤1000000000000000 then (((few p z).1,((few p z).2:Int)),0,()) else ((0,0),1,())):=by
 unfold xb
 rw [mm 10 (by omega) (by omega),Option.bind_some]
 dsimp only
 have loop:∀ (n:Nat) (z:Int) (p:Nat),z.natAbs<4294967296 ^ 99→p≤1000→p<n→iter (X:=qI) (β:=qH) n ((p:Int),(W z).1,(W z).2,0,0,(W 10).1,(W 10).2,()) qG=some (Sum.inr (((few p z).2:Int),(W (few p z).1).1,(W (few p z).1).2,0,0,())):=by
  intro n
  induction n with
  | zero=>intro z p _ _ h;omega
  | succ n ih=>
   intro z p hz hp hn
   rw [cF]
   generalize hag:(fun y=>iter n y qG)=again
   unfold qG
   dsimp only
   cases p with
   | zero=>rw [bH (by omega)];rfl
   | succ p=>
    have e10:(10:Int).natAbs=10:=rfl
    rw [bE (by omega)]
    change (Option.bind (qq (W z) (W 10)) _)=_
    rw [Ry z 10 hz (by rw [e10];exact ae0 (by omega) (afd (n:=4294967296) (by omega) (show 1≤99 by omega))) (by omega),Option.bind_some]
    dsimp only
    rw [Di,Option.bind_some]
    dsimp only
    rw [e10]
    by_cases hm:z % 10=0
    ·have hm2:z.natAbs % 10=0:=by omega
     rw [hm2,show ((((0:Nat):Int).sign) != 0)=false from rfl,cond_false]
     change (Option.bind (fX (W z)) _)=_
     rw [Di,Option.bind_some]
     dsimp only
     have hf:few (p+1) z=few p (z / 10):=by simp [few,hm]
     rw [hf]
     have hz':(z / 10).natAbs<4294967296 ^ 99:=aeZ (by omega) hz
     by_cases hneg:z<0
     ·rw [bE (by rw [adw hneg];omega),M1 _ (by simp only [adr];exact aeZ (Nat.div_le_self _ _) hz),Option.bind_some]
      dsimp only
      rw [show -((z.natAbs / 10:Nat):Int)=z / 10 by omega,aA (by omega) (by omega),show ((p+1:Nat):Int) - 1=(p:Int) by omega, ← hag]
      exact ih (z / 10) p hz' (by omega) (by omega)
     ·rw [bH (by
       rcases (show z=0∨0<z by omega) with h | h
       ·subst h;decide
       ·rw [adx h];omega),show ((z.natAbs / 10:Nat):Int)=z / 10 by omega,aA (by omega) (by omega),show ((p+1:Nat):Int) - 1=(p:Int) by omega, ← hag]
      exact ih (z / 10) p hz' (by omega) (by omega)
    ·have hm2:0<z.natAbs % 10:=by omega
     have:(((z.natAbs % 10:Nat):Int).sign != 0)=true:=by
      rw [adx (by omega)];rfl
     rw [this,cond_true]
     have hf:few (p+1) z=(z,p+1):=by simp [few,hm]
     rw [hf]
 have:=loop (Int.natAbs (p:Int)+(List.length (W z).2+(Int.natAbs (0:Int)+(Int.natAbs (0:Int)+(List.length (W 10).2+2))))) z p hz hp (by omega)
 rw [this,aS]
 dsimp only
 change (Option.bind (iF (W (few p z).1) ((few p z).2:Int)) _)=_
 rw [AH,Option.bind_some]
def lQ (d:aa):Int:=d.1*10 ^ (9 - d.2).toNat
def cr (d:aa):Prop:=d.1.natAbs≤1000000000000000∧0≤d.2∧d.2≤9
theorem He {z:Int} (h:z.natAbs<1000000000000000000000000000000000000000000000000000000000000):(dg6 z.natAbs).length≤10:=Xm (k:=10) (by simpa using h)
theorem Hy (n:Nat) (hn:n≤40):E5 (n:Int)=some (N (10 ^ n),()):=by
 unfold E5
 rw [uo 1 (by omega) (by omega),Option.bind_some]
 dsimp only
 have hb:∀ i:Nat,i≤41→(dg6 ((10:Int) ^ i).natAbs).length≤10:=by
  intro i hi
  refine He ?_
  have h1:((10:Int) ^ i).natAbs=10 ^ i:=by rw [ads];rfl
  have h2:=afd (n:=10) (by omega) hi
  omega
 have loop:iter (X:=Bx) (β:=Bw) (Int.natAbs (n:Int)+(Int.natAbs (0:Int)+(List.length ([]:List Int)+(List.length (N 1).2+2)))) ((n:Int),0,false,[],(N 1).1,(N 1).2,()) Bv=some (Sum.inr (false,[],(N (10 ^ n)).1,(N (10 ^ n)).2,())):=by
  refine bQ (Inv:=fun i x=>x=((n:Int),(i:Int),false,[],(N (10 ^ i)).1,(N (10 ^ i)).2,())) n (fun r=>r=some (Sum.inr (false,[],(N (10 ^ n)).1,(N (10 ^ n)).2,()))) ?_ ?_ _ 0 _ (by simp) (by omega) (by omega)
  ·rintro i _ again hi rfl ih
   unfold Bv
   dsimp only
   rw [bE (by omega),uo 10 (by omega) (by omega),Option.bind_some]
   change (Option.bind (lW (N (10 ^ i)) (N 10)) _)=_
   have h10:(dg6 (10:Int).natAbs).length≤10:=He (by decide)
   rw [rQ _ _ (by have:=hb i (by omega);omega) (by omega),Option.bind_some]
   dsimp only
   rw [aA (by omega) (by omega)]
   exact ih _ (by rw [adv];rfl)
  ·rintro _ again rfl
   unfold Bv
   dsimp only
   rw [bH (by omega)]
 rw [loop,aS]
theorem Wb (d:aa) (hd:cr d):xB d 9=some (N (lQ d),()):=by
 obtain ⟨h1,h2,h3⟩:=hd
 unfold xB
 rw [uo _ (by omega) (by omega),Option.bind_some,aA (by omega) (by omega)]
 dsimp only
 obtain ⟨m,hm⟩:∃ m:Nat,9 - d.2=m:=⟨(9 - d.2).toNat,by omega⟩
 rw [hm,Hy m (by omega),Option.bind_some]
 dsimp only
 have hl1:(dg6 d.1.natAbs).length≤10:=He (by omega)
 have hl2:(dg6 ((10:Int) ^ m).natAbs).length≤10:=by
  refine He ?_
  have h1:((10:Int) ^ m).natAbs=10 ^ m:=by rw [ads];rfl
  have h2:=afd (n:=10) (by omega) (show m≤9 by omega)
  omega
 rw [rQ _ _ (by omega) (by omega),Option.bind_some]
 unfold lQ
 rw [hm];rfl
theorem Qe {d:aa} (hd:cr d):(lQ d).natAbs≤1000000000000000000000000:=by
 obtain ⟨h1,h2,h3⟩:=hd
 unfold lQ
 rw [adq,ads]
 have h4:=afd (n:=10) (by omega) (show (9 - d.2).toNat≤9 by omega)
 have h5:d.1.natAbs*(10:Int).natAbs ^ (9 - d.2).toNat≤1000000000000000*1000000000:=Nat.mul_le_mul h1 (by simpa using h4)
 omega
end Go.Md
namespace Go.Md
open Go.Dn
end Go.Md
namespace Go.Md
open Go.Dn
end Go.Md
namespace Go.Md
open Go.Dn
theorem QN {X α B:Type} {f:X→(X→Option B)→Option B} (mk:Nat→X) (l:List α) (g:Nat→α→Int) (fin:Option B) (out:Int→Option B)
 (hstep:∀ i y again,l[i]? =some y→f (mk i) again=if g i y=0 then again (mk (i+1)) else out (g i y)) (hend:∀ again,f (mk l.length) again=fin):
 ∀ (r:List α) (i n:Nat),l.drop i=r→i≤l.length→r.length<n→iter n (mk i) f=if xM g i r=0 then fin else out (xM g i r)
 | _,_,0,_,_,hn=>absurd hn (afa _)
 | [],i,n+1,hd,hi,_=>by
  have:i=l.length:=by
   have:=congrArg List.length hd
   simp at this;omega
  subst this
  rw [cF,hend];rfl
 | y::r,i,n+1,hd,hi,hn=>by
  have hy:l[i]? =some y:=by
   have:=congrArg (·[0]?) hd
   simpa [ad1] using this
  have hr:l.drop (i+1)=r:=by
   have:=congrArg List.tail hd
   simpa [aeH] using this
  have hi':i<l.length:=(List.getElem?_eq_some_iff.1 hy).1
  rw [cF,hstep i y _ hy]
  by_cases hg:g i y=0
  ·have e:xM g i (y::r)=xM g (i+1) r:=by simp [xM,hg]
   rw [if_pos hg,e]
   exact QN mk l g fin out hstep hend r (i+1) n hr hi' (by simp at hn;omega)
  ·have e:xM g i (y::r)=g i y:=by simp [xM,hg]
   rw [if_neg hg,e,if_neg hg]
end Go.Md
namespace Go.Md
open Go.Dn
def UW (D:Int) (S:Nat→Prop) (ar:List Bd):Prop:=∀ i x,S i→ar[i]? =some x→done x=0∨D<done x
theorem UW.set {D:Int} {S:Nat→Prop} {ar:List Bd} {h:Nat} {x y:Bd} (hq:UW D S ar) (hx:ar[h]? =some x) (hy:(done x=0∨D<done x)→(done y=0∨D<done y)):UW D S (ar.set h y):=by
 intro i z hi hz
 by_cases e:h=i
 ·subst e
  rw [abH hx] at hz
  cases hz
  exact hy (hq h x hi hx)
 ·rw [ad5 e] at hz
  exact hq i z hi hz
end Go.Md
namespace Go.Md
open Go.Dn
def nmC:List UInt8:=[97,98,99,100,101,102,103,104,105,106,107,108,109,110,111,112,113,114,115,116,117,118,119,120,121,122,48,49,50,51,52,53,54,55,56,57,45]
def nmB (c:UInt8):Bool:=nmC.contains c
set_option maxRecDepth 100000 in
theorem abx:∀ n:Fin 256,nmB (UInt8.ofNat n.1)=((decide (97≤n.1)&&decide (n.1≤122))||((decide (48≤n.1)&&decide (n.1≤57))||decide (n.1=45))):=by decide
theorem ab7 (c:UInt8):nmB c=((decide (97≤c.toNat)&&decide (c.toNat≤122))||((decide (48≤c.toNat)&&decide (c.toNat≤57))||decide (c.toNat=45))):=by
 have:=abx ⟨c.toNat,UInt8.toNat_lt c⟩
 simpa using this
theorem Gd {α:Type} {p:α→Bool}:∀ {l:List α},l.dropWhile p=[]↔∀ x∈l,p x=true
 | []=>by simp
 | y::r=>by
  cases hp:p y with
  | true=>rw [List.dropWhile_cons_of_pos hp,Gd];simp [hp]
  | false=>rw [List.dropWhile_cons_of_neg (by simp [hp])];simp [hp]
theorem Qu {α:Type} {p:α→Bool} {y:α} {r:List α}:∀ {l:List α},l.dropWhile p=y::r→p y=false
 | [],h=>by simp at h
 | z::t,h=>by
  cases hp:p z with
  | true=>rw [List.dropWhile_cons_of_pos hp] at h;exact Qu h
  | false=>rw [List.dropWhile_cons_of_neg (by simp [hp])] at h;cases h;exact hp
theorem Z5 (s c:List UInt8):(Lib.trimS s c==[])=s.all (c.contains ·):=by
 rw [ac5]
 simp only [beq_iff_eq,adC]
 unfold Lib.trimS Lib.trimLeftS Lib.trimRightS
 constructor
 ·intro h
  rw [Gd] at h
  cases hd:s.reverse.dropWhile (c.contains ·) with
  | nil=>
   rw [Gd] at hd
   intro x hx
   exact hd x (by simpa using hx)
  | cons y r=>
   exfalso
   have h1:=h y (by rw [hd];simp)
   have h2:=Qu hd
   rw [h1] at h2
   cases h2
 ·intro h
  have:s.reverse.dropWhile (c.contains ·)=[]:=Gd.2 fun x hx=>h x (by simpa using hx)
  rw [this];rfl
theorem TI {α:Type} (p:α→Bool) (e:Int) (he:e≠0):∀ (l:List α) (i:Nat),xM (fun _ c=>if p c=true then 0 else e) i l=if l.all p=true then 0 else e
 | [],i=>by simp [xM]
 | y::r,i=>by
  have ih:=TI p e he r (i+1)
  cases hp:p y with
  | true=>simp only [xM,hp,afA,adB,adh];exact ih
  | false=>simp [xM,hp,he]
theorem PK {s:List UInt8} {i:Nat} {c:UInt8} (h:s[i]? =some c):uy s (i:Int)=some c:=by simp [uy,h]
theorem E2 (s:List UInt8):mg s=some (cL s,()):=by
 unfold mg cL eY MR
 by_cases h0:s=[]
 ·subst h0;rfl
 have hb:(s==[])=false:=by simpa using h0
 have hl:0<s.length:=List.length_pos_iff.2 h0
 rw [hb,cond_false,bH (show ¬((s.length:Int)<1) by omega)]
 by_cases h2:(s.length:Int)>40
 ·rw [bE h2,bE h2];rfl
 rw [bH h2,bH h2]
 have hs:uy s 0=some (s[0]'hl):=PK (i:=0) (bD hl)
 simp only [hs,Option.bind_some]
 by_cases h3:(((s[0]'hl).toNat:Int))<97
 ·simp only [bE h3];rfl
 simp only [bH h3]
 by_cases h4:(((s[0]'hl).toNat:Int))>122
 ·simp only [bE h4];rfl
 simp only [bH h4]
 have ht:ku s [97,98,99,100,101,102,103,104,105,106,107,108,109,110,111,112,113,114,115,116,117,118,119,120,121,122,48,49,50,51,52,53,54,55,56,57,45]=some (Lib.trimS s nmC,()):=by
  unfold ku
  rw [show (decide (s.length≤9223372036854775807))=true by simp;omega]
  rfl
 rw [ht,Option.bind_some]
 have loop:=QN (f:=zQ) (fun i=>(s,(s.length:Int),(i:Int),())) s (fun _ c=>if nmB c=true then 0 else 1) (some (Sum.inr ())) (fun _=>some (Sum.inl (false,())))
  (fun i c again hi=>by
    have hil:=(List.getElem?_eq_some_iff.1 hi).1
    unfold zQ
    dsimp only
    rw [bE (show (i:Int)<(s.length:Int) by omega),PK hi,Option.bind_some,ab7 c,aA (by omega) (by omega)]
    by_cases a1:(c.toNat:Int)<97<;>by_cases a2:(c.toNat:Int)>122<;>by_cases a3:(c.toNat:Int)<48<;>by_cases a4:(c.toNat:Int)>57<;>by_cases a5:(c.toNat:Int)=45<;>
      first
      | omega
      | (have b1:(97≤c.toNat)=¬ ((c.toNat:Int)<97):=by simp only [eq_iff_iff];omega
         have b2:(c.toNat≤122)=¬ ((c.toNat:Int)>122):=by simp only [eq_iff_iff];omega
         have b3:(48≤c.toNat)=¬ ((c.toNat:Int)<48):=by simp only [eq_iff_iff];omega
         have b4:(c.toNat≤57)=¬ ((c.toNat:Int)>57):=by simp only [eq_iff_iff];omega
         have b5:(c.toNat=45)=((c.toNat:Int)=45):=by simp only [eq_iff_iff];omega
         simp only [b1,b2,b3,b4,b5,a1,a2,a3,a4,a5,bne,afw,afv,not_true_eq_false,afD,ac4,adh,ac2,Bool.false_and,Bool.or_true,Bool.true_or,Bool.or_false,ac8,cond_true,cond_false,afA,ac6,afz,Int.one_ne_zero,afp,Bool.not_true]
         first | rfl | (have a6:((c.toNat:Int)==45)=false:=(by simp only [afo,ne_eq];exact a5);rw [a6];rfl)))
  (fun again=>by
    unfold zQ
    dsimp only
    rw [bH (by omega)])
  s 0 (List.length s+(Int.natAbs ((List.length s:Int))+(Int.natAbs (0:Int)+2))) rfl (afg _) (by omega)
 rw [show ((0:Nat):Int)=0 from rfl] at loop
 rw [loop,TI nmB 1 (by omega),Z5]
 have e:(s.all fun x=>nmC.contains x)=s.all nmB:=rfl
 rw [e]
 cases s.all nmB<;>rfl
theorem E8 (a b c:Int):yF a b c=some (decide (b≤a∧a≤c),()):=by
 unfold yF
 by_cases h:b≤a
 ·rw [bE h];simp [h]
 ·rw [bH h];simp [h]
theorem wN (n:Int):um n=some (decide (1≤n∧n≤3652059),()):=by
 unfold um PE
 rw [E8];rfl
theorem MQ (d:aa):eZ d=some (if -1000000000000000≤d.1∧d.1≤1000000000000000∧0≤d.2∧d.2≤9 then 0 else 1,()):=by
 unfold eZ
 rw [E8,Option.bind_some]
 by_cases h1: -1000000000000000≤d.1∧d.1≤1000000000000000
 ·rw [decide_eq_true h1]
  simp only [Bool.not_true,cond_false]
  rw [E8,Option.bind_some]
  by_cases h2:0≤d.2∧d.2≤9
  ·rw [decide_eq_true h2,if_pos ⟨h1.1,h1.2,h2⟩];rfl
  ·rw [afs h2,if_neg (fun h=>h2 h.2.2)];rfl
 ·rw [afs h1,if_neg (fun h=>h1 ⟨h.1,h.2.1⟩)];rfl
theorem YE {a b:aa} (ha:cr a) (hb:cr b):XO a b=some ((lQ a - lQ b).sign,()):=by
 unfold XO
 have l1:=Qe ha
 have l2:=Qe hb
 have m1:=He (z:=lQ a) (by omega)
 have m2:=He (z:=lQ b) (by omega)
 rw [Wb a ha,Option.bind_some,Wb b hb,Option.bind_some,TA _ _ (by omega) (by omega)]
 rfl
instance (d:aa):Decidable (cr d):=by unfold cr;infer_instance
end Go.Md
