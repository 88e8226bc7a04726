/-
  Plain facts, small ones. No condition.
-/
import Derived.Test.YtgmbmgfhpkoajacGreatDoorYp
import Derived.Test.YtgmbmgfhpkoajacGreatDoorYm
set_option linter.all false
namespace Go.Md
open Go.Dn
structure sJ {α:Type} (k:α->Int) (l l':List α):Prop where
 perm:l.Perm l'
 keys:∀ v,l'.filter (fun x=>k x==v)=l.filter (fun x=>k x==v)
theorem sJ.refl {α:Type} (k:α->Int) (l:List α):sJ k l l:=⟨List.Perm.refl _,fun _=>rfl⟩
theorem sJ.trans {α:Type} {k:α->Int} {a b c:List α} (h:sJ k a b) (g:sJ k b c):sJ k a c:=⟨h.perm.trans g.perm,fun v=>(g.keys v).trans (h.keys v)⟩
theorem sJ.append {α:Type} {k:α->Int} {a b c d:List α} (h:sJ k a b) (g:sJ k c d):sJ k (a++c) (b++d):=
 ⟨h.perm.append g.perm,fun v=>by rw[U4,U4,h.keys,g.keys]⟩
theorem sJ.mem {α:Type} {k:α->Int} {a b:List α} (h:sJ k a b) {x:α}:x∈b↔x∈a:=h.perm.mem_iff.symm
theorem sJ.length {α:Type} {k:α->Int} {a b:List α} (h:sJ k a b):b.length=a.length:=h.perm.length_eq.symm
def Srt {α:Type} (k:α->Int) (l:List α):Prop:=l.Pairwise fun x y=>k x<=k y
theorem Srt.append {α:Type} {k:α->Int} {a b:List α} (ha:Srt k a) (hb:Srt k b) (h:∀ x∈a,∀ y∈b,k x<=k y):Srt k (a++b):=VU.2 ⟨ha,hb,h⟩
theorem Srt.left {α:Type} {k:α->Int} {a b:List α} (h:Srt k (a++b)):Srt k a:=(VU.1 h).1
theorem Srt.right {α:Type} {k:α->Int} {a b:List α} (h:Srt k (a++b)):Srt k b:=(VU.1 h).2.1
section
variable {k:Option Nat->Int} {ar:List nH} {ok:Option Nat->Prop}
end
end Go.Md
namespace Go.Md
open Go.Dn
section
variable {k:Option Nat->Int} {ar:List nH} {ok:Option Nat->Prop}
end
end Go.Md
namespace Go.Md
open Go.Dn
theorem Srt.get {α:Type} {k:α->Int} {l:List α} (h:Srt k l) {i j:Nat} (hij:i<=j) (hj:j<l.length):k (l[i]'(by omega))<=k l[j]:=by
 rcases Nat.lt_or_eq_of_le hij with h1 | h1
 ·exact VV.1 h i j (by omega) hj h1
 ·subst h1;exact Uy _
section
variable {k:Option Nat->Int} {ar:List nH} {ok:Option Nat->Prop}
end
end Go.Md
namespace Go.Md
open Go.Dn
section
variable {k:Option Nat->Int} {ar:List nH} {ok:Option Nat->Prop}
end
end Go.Md
namespace Go.Md
open Go.Dn
def ChS {α:Type} (k:α->Int) (bs:Nat) (l:List α):Prop:=∀ j:Nat,Srt k ((l.drop (j*bs)).take bs)
theorem ChS.nil {α:Type} (k:α->Int) (bs:Nat):ChS k bs []:=fun _=>by simp[Srt]
theorem ChS.snoc {α:Type} {k:α->Int} {bs:Nat} {A S:List α} {j:Nat} (h:ChS k bs A) (hA:A.length=j*bs) (hS:Srt k S) (hl:S.length<=bs):ChS k bs (A++S):=by
 intro i
 rcases Wq i j with hij | hij | hij
 ·have h1:(i+1)*bs<=j*bs:=Wu _ hij
  rw[Wa,Nat.one_mul] at h1
  rw[List.drop_append_of_le_length (by omega),List.take_append_of_le_length (by rw[List.length_drop];omega)]
  exact h i
 ·subst hij
  rw[<- hA,UY,V7 hl]
  exact hS
 ·have h1:(j+1)*bs<=i*bs:=Wu _ hij
  rw[Wa,Nat.one_mul] at h1
  rw[UZ (by rw[Vr];omega)]
  simp[Srt]
theorem ChS.drop {α:Type} {k:α->Int} {bs:Nat} {l:List α} (h:ChS k bs l) (i:Nat):ChS k bs (l.drop (i*bs)):=by
 intro j
 rw[UW, <- Wa]
 exact h (i+j)
theorem Srt.take {α:Type} {k:α->Int} {l:List α} (h:Srt k l) (n:Nat):Srt k (l.take n):=by
 rw[<- V4 n l] at h;exact h.left
section
variable {k:Option Nat->Int} {ar:List nH} {ok:Option Nat->Prop}
end
end Go.Md
namespace Go.Md
open Go.Dn
theorem gR (a b c:Int):dB a b c=some (decide (a<b\/c<a),()):=by
 unfold dB
 by_cases h:a<b
 ·rw[bR h];simp[h]
 ·rw[cy h];simp[h]
theorem oN (n:Int):kO n=some (decide (1<=n/\n<=3652059),()):=by
 unfold kO
 rw[gR,WG]
 congr 2
 simp only[<- decide_not]
 congr 1
 simp only[eq_iff_iff];omega
def dw (s:List UInt8):Bool:=((eU s).map (·.1)).getD false
theorem vX (s:List UInt8):eU s=some (dw s,()):=by
 have:∃ b,eU s=some (b,()):=by
  unfold eU
  by_cases h1:(s.length:Int)<1
  ·rw[bR h1];exact⟨_,rfl⟩
  ·rw[cy h1]
   by_cases h2:(s.length:Int)>40
   ·rw[bR h2];exact⟨_,rfl⟩
   ·rw[cy h2]
    have hs:uC s 0=some (s[0]'(by omega)):=by simp[uC]
    rw[hs]
    simp only[WG]
    have ht:mz s [97,98,99,100,101,102,103,104,105,106,107,108,109,110,111,112,113,114,115,116,117,118,119,120,121,122,48,49,50,51,52,53,54,55,56,57,45]=some (Lib.trimS s [97,98,99,100,101,102,103,104,105,106,107,108,109,110,111,112,113,114,115,116,117,118,119,120,121,122,48,49,50,51,52,53,54,55,56,57,45],()):=by
     unfold mz
     rw[show (decide (s.length<=9223372036854775807))=true by simp;omega]
     rfl
    rw[ht]
    simp only[WG]
    generalize (decide ((((s[0]'(by omega)).toNat:Int))<97))=b1
    generalize (decide ((((s[0]'(by omega)).toNat:Int))>122))=b2
    cases b1<;>cases b2<;>exact⟨_,rfl⟩
 obtain⟨b,hb⟩:=this
 unfold dw
 rw[hb];rfl
theorem zf (d:ah):fm d=some (if -1000000000000000<=d.1/\d.1<=1000000000000000/\0<=d.2/\d.2<=9 then 0 else 1,()):=by
 unfold fm
 rw[gR,WG,gR]
 simp only[WG]
 by_cases h1:d.1< -1000000000000000\/1000000000000000<d.1
 ·rw[bR h1,Xd (by omega)]
 ·rw[cy h1]
  by_cases h2:d.2<0\/9<d.2
  ·rw[bR h2,Xd (by omega)]
  ·rw[cy h2,Xe (by omega)]
theorem RG {n:Nat} (h:n<=18):(10:Int) ^ n<=1000000000000000000:=by
 have:=Wx (n:=10) (by omega) h
 have h2:=Int.ofNat_le.2 this
 simpa using h2
theorem yL (n:Nat):(0:Int)<10 ^ n:=F3 (by omega) n
theorem Kl (n:Int) (h0:0<=n) (h1:n<=18):Gr n=some (10 ^ n.toNat,()):=by
 obtain⟨m,rfl⟩:∃ m:Nat,n=m:=⟨n.toNat,by omega⟩
 unfold Gr
 have:iter (X:=qS) (β:=qR) (Int.natAbs (1:Int)+(Int.natAbs (m:Int)+(Int.natAbs (0:Int)+2))) (1,(m:Int),0,()) qQ=some (Sum.inr (10 ^ m,())):=by
  refine fh (Inv:=fun i x=>x=(10 ^ i,(m:Int),(i:Int),())) m (fun r=>r=some (Sum.inr (10 ^ m,()))) ?_ ?_ _ 0 _ (by simp) (by omega) (by omega)
  ·rintro i _ again hi rfl ih
   unfold qQ
   dsimp only
   have h10:=RG (n:=i+1) (by omega)
   have hp:=yL (i+1)
   rw[UG] at h10 hp
   rw[bR (by omega),aG (by omega) (by omega),aG (by omega) (by omega)]
   exact ih _ (by rw[UG];rfl)
  ·rintro _ again rfl
   unfold qQ
   dsimp only
   rw[cy (by omega)]
 rw[this,bC]
 simp
def DZ (d:ah):Prop:=0<d.1/\0<=d.2/\d.2<=4/\d.1<=1000000000*10 ^ d.2.toNat
instance (d:ah):Decidable (DZ d):=by unfold DZ;exact inferInstance
structure SU (d:mI):Prop where
 day0:1<=d.2.1
 day1:d.2.1<=3652059
 mon:DZ d.2.2.1
 days0:0<=d.2.2.2.1
 days1:d.2.2.2.1<=10000
 with0:0<=d.2.2.2.2.1
 with1:d.2.2.2.2.1<=d.2.2.2.1
 disc0:0<=d.2.2.2.2.2
 disc1:d.2.2.2.2.2<=1000
structure TW (p:Kf):Prop where
 day0:1<=p.1
 day1:p.1<=3652059
 mon:DZ p.2.1
 names:p.2.2.length<=100
end Go.Md
namespace Go.Md
open Go.Dn
def D4 (d:ah):Int:=d.1*10 ^ (4 - d.2).toNat
theorem DZ.D4 {d:ah} (h:DZ d):0<D4 d/\D4 d<=10000000000000:=by
 obtain⟨h1,h2,h3,h4⟩:=h
 unfold Md.D4
 have hp:=yL (4 - d.2).toNat
 refine⟨Int.mul_pos h1 hp, ?_⟩
 have a1:d.1*10 ^ (4 - d.2).toNat<=1000000000*10 ^ d.2.toNat*10 ^ (4 - d.2).toNat:=Int.mul_le_mul_of_nonneg_right h4 (by omega)
 rw[UA, <- UF,show d.2.toNat+(4 - d.2).toNat=4 by omega] at a1
 omega
abbrev Bd:=nH
def O4 (x:Bd):Int:=x.2.1
def O9 (x:Bd):Int:=x.2.2.1
def taken (x:Bd):Int:=x.2.2.2.1
def done (x:Bd):Int:=x.2.2.2.2
structure Lf (x:Bd):Prop where
 d:SU x.1
 owes0:0<=O4 x
 paid0:0<=O9 x
 taken0:0<=taken x
 sum:O4 x+O9 x+taken x=D4 x.1.2.2.1
 none:done x=0->taken x=0
 done0:done x=0\/x.1.2.1<=done x
 iff:O4 x=0↔done x≠0
theorem Lf.le {x:Bd} (h:Lf x):O4 x<=10000000000000/\O9 x<=10000000000000/\taken x<=10000000000000:=by
 have:=h.d.mon.D4;have:=h.sum;have:=h.owes0;have:=h.paid0;have:=h.taken0;omega
section
variable {ar:List Bd} {h:Nat} {x:Bd}
theorem SM {α:Type} {l:List α} {i:Nat} {x y:α} (h:l[i]? =some x):(l.set i y)[i]? =some y:=Vm (Vg.1 h).1
end
end Go.Md
namespace Go.Md
open Go.Dn
structure iP (ds:List mI) (ar:List Bd):Prop where
 ds:ar.map (·.1)=ds
 ok:∀ x∈ar,Lf x
theorem iP.len {ds:List mI} {ar:List Bd} (h:iP ds ar):ar.length=ds.length:=by rw[<- h.ds];simp
theorem iP.set {ds:List mI} {ar:List Bd} (h:iP ds ar) {i:Nat} {x y:Bd} (hx:ar[i]? =some x) (hy:Lf y) (he:y.1=x.1):iP ds (ar.set i y):=by
 refine⟨?_,fun z hz=> ?_⟩
 ·rw[List.map_set,he, <- h.ds]
  apply U3
  intro j
  by_cases hj:i=j
  ·subst hj
   rw[Vm (by simp;exact (Vg.1 hx).1),Vh,hx];rfl
  ·rw[Vl hj]
 ·rcases VP hz with hz | rfl
  ·exact h.ok z hz
  ·exact hy
theorem iP.get {ds:List mI} {ar:List Bd} (h:iP ds ar) {i:Nat} {x:Bd} (hx:ar[i]? =some x):Lf x:=h.ok x (VO hx)
def SP (ar:List Bd):Int:=(ar.map O9).sum
structure TX (ds:List mI) (L T:Int) (s:Int×List Bd):Prop where
 ar:iP ds s.2
 l0:0<=s.1
 l1:s.1<=L
 tot:s.1+SP s.2=T
theorem JI {k v:Ty} (p:k.den×v.den) (m:List (k.den×v.den)) (n:k.den):dL (p::m) n=bif k.beq n p.1 then some p.2 else dL m n:=by
 unfold dL
 rw[List.find?_cons]
 cases k.beq n p.1<;>rfl
end Go.Md
namespace Go.Md
open Go.Dn
def few:Nat->Int->Int×Nat
 | 0,z=>(z,0)
 | p+1,z=>if z % 10=0 then few p (z / 10) else (z,p+1)
theorem Ap:∀ (p:Nat) (z:Int),(few p z).2<=p/\(few p z).1*10 ^ (p - (few p z).2)=z/\(few p z).1.natAbs<=z.natAbs
 | 0,z=>by simp[few]
 | p+1,z=>by
  unfold few
  split
  ·rename_i h
   obtain⟨h1,h2,h3⟩:=Ap p (z / 10)
   refine⟨by omega, ?_,by omega⟩
   rw[show p+1 - (few p (z / 10)).2=(p - (few p (z / 10)).2)+1 by omega,UG, <- UA,h2]
   omega
  ·simp
theorem Iq (z:Int) (p:Int):lp (W z) p=some (if z.natAbs<=1000000000000000 then ((z,p),0,()) else ((0,0),1,())):=by
 unfold lp
 rw[Ga z 1000000000000000 (by omega) (by omega),WG]
 by_cases h:(z.natAbs:Int)<=1000000000000000
 ·rw[Xe h,Xe (by omega)];rfl
 ·rw[Xd h,Xd (by omega)];rfl
theorem Fk (z:Int) (hz:z.natAbs<4294967296 ^ 99) (p:Nat) (hp:p<=1000):qP (W z) (p:Int)=some (if (few p z).1.natAbs<=1000000000000000 then (((few p z).1,((few p z).2:Int)),0,()) else ((0,0),1,())):=by
 unfold qP
 rw[Fi 10 (by omega) (by omega),WG]
 dsimp only
 have loop:∀ (n:Nat) (z:Int) (p:Nat),z.natAbs<4294967296 ^ 99->p<=1000->p<n->iter (X:=mL) (β:=mK) n ((p:Int),(W z).1,(W z).2,0,0,(W 10).1,(W 10).2,()) mJ=some (Sum.inr (((few p z).2:Int),(W (few p z).1).1,(W (few p z).1).2,0,0,())):=by
  intro n
  induction n with
  | zero=>intro z p _ _ h;omega
  | succ n ih=>
   intro z p hz hp hn
   rw[kM]
   generalize hag:(fun y=>iter n y mJ)=again
   unfold mJ
   dsimp only
   cases p with
   | zero=>rw[cy (by omega)];rfl
   | succ p=>
    have e10:(10:Int).natAbs=10:=rfl
    rw[bR (by omega)]
    change (Option.bind (pH (W z) (W 10)) _)=_
    rw[Il z 10 hz (by rw[e10];exact Wm (by omega) (Wx (n:=4294967296) (by omega) (show 1<=99 by omega))) (by omega),WG]
    dsimp only
    rw[wG,WG]
    dsimp only
    rw[e10]
    by_cases hm:z % 10=0
    ·have hm2:z.natAbs % 10=0:=by omega
     rw[hm2,show ((((0:Nat):Int).sign) != 0)=false from rfl,WU]
     change (Option.bind (gX (W z)) _)=_
     rw[wG,WG]
     dsimp only
     have hf:few (p+1) z=few p (z / 10):=by simp[few,hm]
     rw[hf]
     have hz':(z / 10).natAbs<4294967296 ^ 99:=Wl (by omega) hz
     by_cases hneg:z<0
     ·rw[bR (by rw[UH hneg];omega),DR _ (by simp only[Int.natAbs_natCast];exact Wl (Nat.div_le_self _ _) hz),WG]
      dsimp only
      rw[show -((z.natAbs / 10:Nat):Int)=z / 10 by omega,aG (by omega) (by omega),show ((p+1:Nat):Int) - 1=(p:Int) by omega, <- hag]
      exact ih (z / 10) p hz' (by omega) (by omega)
     ·rw[cy (by
       rcases (show z=0\/0<z by omega) with h | h
       ·subst h;decide
       ·rw[UI h];omega),show ((z.natAbs / 10:Nat):Int)=z / 10 by omega,aG (by omega) (by omega),show ((p+1:Nat):Int) - 1=(p:Int) by omega, <- hag]
      exact ih (z / 10) p hz' (by omega) (by omega)
    ·have hm2:0<z.natAbs % 10:=by omega
     have:(((z.natAbs % 10:Nat):Int).sign != 0)=true:=by
      rw[UI (by omega)];rfl
     rw[this,WV]
     have hf:few (p+1) z=(z,p+1):=by simp[few,hm]
     rw[hf]
 have:=loop (Int.natAbs (p:Int)+(List.length (W z).2+(Int.natAbs (0:Int)+(Int.natAbs (0:Int)+(List.length (W 10).2+2))))) z p hz hp (by omega)
 rw[this,bC]
 dsimp only
 change (Option.bind (lp (W (few p z).1) ((few p z).2:Int)) _)=_
 rw[Iq,WG]
def lz (d:ah):Int:=d.1*10 ^ (9 - d.2).toNat
def jM (d:ah):Prop:=d.1.natAbs<=1000000000000000/\0<=d.2/\d.2<=9
theorem zH {z:Int} (h:z.natAbs<1000000000000000000000000000000000000000000000000000000000000):(dg6 z.natAbs).length<=10:=NG (k:=10) (by simpa using h)
theorem EZ (n:Nat) (hn:n<=40):BG (n:Int)=some (N (10 ^ n),()):=by
 unfold BG
 rw[BF 1 (by omega) (by omega),WG]
 dsimp only
 have hb:∀ i:Nat,i<=41->(dg6 ((10:Int) ^ i).natAbs).length<=10:=by
  intro i hi
  refine zH ?_
  have h1:((10:Int) ^ i).natAbs=10 ^ i:=by rw[UD];rfl
  have h2:=Wx (n:=10) (by omega) hi
  omega
 have loop:iter (X:=u5) (β:=uZ) (Int.natAbs (n:Int)+(Int.natAbs (0:Int)+(List.length ([]:List Int)+(List.length (N 1).2+2)))) ((n:Int),0,false,[],(N 1).1,(N 1).2,()) uY=some (Sum.inr (false,[],(N (10 ^ n)).1,(N (10 ^ n)).2,())):=by
  refine fh (Inv:=fun i x=>x=((n:Int),(i:Int),false,[],(N (10 ^ i)).1,(N (10 ^ i)).2,())) n (fun r=>r=some (Sum.inr (false,[],(N (10 ^ n)).1,(N (10 ^ n)).2,()))) ?_ ?_ _ 0 _ (by simp) (by omega) (by omega)
  ·rintro i _ again hi rfl ih
   unfold uY
   dsimp only
   rw[bR (by omega),BF 10 (by omega) (by omega),WG]
   change (Option.bind (p8 (N (10 ^ i)) (N 10)) _)=_
   have h10:(dg6 (10:Int).natAbs).length<=10:=zH (by decide)
   rw[wg _ _ (by have:=hb i (by omega);omega) (by omega),WG]
   dsimp only
   rw[aG (by omega) (by omega)]
   exact ih _ (by rw[UG];rfl)
  ·rintro _ again rfl
   unfold uY
   dsimp only
   rw[cy (by omega)]
 rw[loop,bC]
theorem Mo (d:ah) (hd:jM d):wR d 9=some (N (lz d),()):=by
 obtain⟨h1,h2,h3⟩:=hd
 unfold wR
 rw[BF _ (by omega) (by omega),WG,aG (by omega) (by omega)]
 dsimp only
 obtain⟨m,hm⟩:∃ m:Nat,9 - d.2=m:=⟨(9 - d.2).toNat,by omega⟩
 rw[hm,EZ m (by omega),WG]
 dsimp only
 have hl1:(dg6 d.1.natAbs).length<=10:=zH (by omega)
 have hl2:(dg6 ((10:Int) ^ m).natAbs).length<=10:=by
  refine zH ?_
  have h1:((10:Int) ^ m).natAbs=10 ^ m:=by rw[UD];rfl
  have h2:=Wx (n:=10) (by omega) (show m<=9 by omega)
  omega
 rw[wg _ _ (by omega) (by omega),WG]
 unfold lz
 rw[hm];rfl
theorem GO {d:ah} (hd:jM d):(lz d).natAbs<=1000000000000000000000000:=by
 obtain⟨h1,h2,h3⟩:=hd
 unfold lz
 rw[Int.natAbs_mul,UD]
 have h4:=Wx (n:=10) (by omega) (show (9 - d.2).toNat<=9 by omega)
 have h5:d.1.natAbs*(10:Int).natAbs ^ (9 - d.2).toNat<=1000000000000000*1000000000:=Nat.mul_le_mul h1 (by simpa using h4)
 omega
end Go.Md
namespace Go.Md
open Go.Dn
end Go.Md
namespace Go.Md
open Go.Dn
def sW (day:Int) (x:Bd):Int:=max 0 (day - (x.1.2.1+x.1.2.2.2.1))
end Go.Md
namespace Go.Md
open Go.Dn
end Go.Md
namespace Go.Md
open Go.Dn
def Lh (D:Int) (S:Nat->Prop) (ar:List Bd):Prop:=∀ i x,S i->ar[i]? =some x->done x=0\/D<done x
theorem Lh.set {D:Int} {S:Nat->Prop} {ar:List Bd} {h:Nat} {x y:Bd} (hq:Lh D S ar) (hx:ar[h]? =some x) (hy:(done x=0\/D<done x)->(done y=0\/D<done y)):Lh D S (ar.set h y):=by
 intro i z hi hz
 by_cases e:h=i
 ·subst e
  rw[SM hx] at hz
  cases hz
  exact hy (hq h x hi hx)
 ·rw[Vl e] at hz
  exact hq i z hi hz
end Go.Md
namespace Go.Md
open Go.Dn
theorem RQ {s:List UInt8} {i:Nat} {c:UInt8} (h:s[i]? =some c):uC s (i:Int)=some c:=by simp[uC,h]
theorem Pd {a b:ah} (ha:jM a) (hb:jM b):N6 a b=some ((lz a - lz b).sign,()):=by
 unfold N6
 have l1:=GO ha
 have l2:=GO hb
 have m1:=zH (z:=lz a) (by omega)
 have m2:=zH (z:=lz b) (by omega)
 rw[Mo a ha,WG,Mo b hb,WG,JW _ _ (by omega) (by omega)]
 rfl
instance (d:ah):Decidable (jM d):=by unfold jM;infer_instance
end Go.Md
