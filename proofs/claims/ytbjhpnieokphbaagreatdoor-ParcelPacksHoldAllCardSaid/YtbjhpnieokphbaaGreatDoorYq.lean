/-
  Plain facts, small ones. No condition.
-/
import Derived.Test.YtbjhpnieokphbaaGreatDoorYp
import Derived.Test.YtbjhpnieokphbaaGreatDoorYm
set_option linter.all false
namespace Go.Md
open Go.Dn
structure rq {α:Type} (k:α→Int) (l l':List α):Prop where
 perm:l.Perm l'
 keys:∀ v,l'.filter (fun x=>k x==v)=l.filter (fun x=>k x==v)
theorem rq.refl {α:Type} (k:α→Int) (l:List α):rq k l l:=⟨List.Perm.refl _,fun _=>rfl⟩
theorem rq.trans {α:Type} {k:α→Int} {a b c:List α} (h:rq k a b) (g:rq k b c):rq k a c:=⟨h.perm.trans g.perm,fun v=>(g.keys v).trans (h.keys v)⟩
theorem rq.append {α:Type} {k:α→Int} {a b c d:List α} (h:rq k a b) (g:rq k c d):rq k (a++c) (b++d):=
 ⟨h.perm.append g.perm,fun v=>by rw[List.filter_append,List.filter_append,h.keys,g.keys]⟩
theorem rq.mem {α:Type} {k:α→Int} {a b:List α} (h:rq k a b) {x:α}:x∈b↔x∈a:=h.perm.mem_iff.symm
theorem rq.length {α:Type} {k:α→Int} {a b:List α} (h:rq k a b):b.length=a.length:=h.perm.length_eq.symm
def Srt {α:Type} (k:α→Int) (l:List α):Prop:=l.Pairwise fun x y=>k x≤k y
theorem Srt.append {α:Type} {k:α→Int} {a b:List α} (ha:Srt k a) (hb:Srt k b) (h:∀ x∈a,∀ y∈b,k x≤k y):Srt k (a++b):=VI.2 ⟨ha,hb,h⟩
theorem Srt.left {α:Type} {k:α→Int} {a b:List α} (h:Srt k (a++b)):Srt k a:=(VI.1 h).1
theorem Srt.right {α:Type} {k:α→Int} {a b:List α} (h:Srt k (a++b)):Srt k b:=(VI.1 h).2.1
section
variable {k:Option Nat→Int} {ar:List nw} {ok:Option Nat→Prop}
end
end Go.Md
namespace Go.Md
open Go.Dn
section
variable {k:Option Nat→Int} {ar:List nw} {ok:Option Nat→Prop}
end
end Go.Md
namespace Go.Md
open Go.Dn
theorem Srt.get {α:Type} {k:α→Int} {l:List α} (h:Srt k l) {i j:Nat} (hij:i≤j) (hj:j<l.length):k (l[i]'(by omega))≤k l[j]:=by
 rcases V7 hij with h1 | h1
 ·exact VJ.1 h i j (by omega) hj h1
 ·subst h1;exact Up _
section
variable {k:Option Nat→Int} {ar:List nw} {ok:Option Nat→Prop}
end
end Go.Md
namespace Go.Md
open Go.Dn
section
variable {k:Option Nat→Int} {ar:List nw} {ok:Option Nat→Prop}
end
end Go.Md
namespace Go.Md
open Go.Dn
def ChS {α:Type} (k:α→Int) (bs:Nat) (l:List α):Prop:=∀ j:Nat,Srt k ((l.drop (j*bs)).take bs)
theorem ChS.nil {α:Type} (k:α→Int) (bs:Nat):ChS k bs []:=fun _=>by simp[Srt]
theorem ChS.snoc {α:Type} {k:α→Int} {bs:Nat} {A S:List α} {j:Nat} (h:ChS k bs A) (hA:A.length=j*bs) (hS:Srt k S) (hl:S.length≤bs):ChS k bs (A++S):=by
 intro i
 rcases Wc i j with hij | hij | hij
 ·have h1:(i+1)*bs≤j*bs:=Wi _ hij
  rw[VU,Wk] at h1
  rw[List.drop_append_of_le_length (by omega),List.take_append_of_le_length (by rw[List.length_drop];omega)]
  exact h i
 ·subst hij
  rw[← hA,UQ,VQ hl]
  exact hS
 ·have h1:(j+1)*bs≤i*bs:=Wi _ hij
  rw[VU,Wk] at h1
  rw[UR (by rw[Vi];omega)]
  simp[Srt]
theorem ChS.drop {α:Type} {k:α→Int} {bs:Nat} {l:List α} (h:ChS k bs l) (i:Nat):ChS k bs (l.drop (i*bs)):=by
 intro j
 rw[UO, ← VU]
 exact h (i+j)
theorem Srt.take {α:Type} {k:α→Int} {l:List α} (h:Srt k l) (n:Nat):Srt k (l.take n):=by
 rw[← VN n l] at h;exact h.left
section
variable {k:Option Nat→Int} {ar:List nw} {ok:Option Nat→Prop}
end
end Go.Md
namespace Go.Md
open Go.Dn
def dy {α:Type} (g:Nat→α→Int):Nat→List α→Int
 | _,[]=>0
 | i,y::r=>if g i y=0 then dy g (i+1) r else g i y
theorem iI {α:Type} {g:Nat→α→Int}:∀ {l:List α} {i:Nat},dy g i l=0→∀ j y,l[j]? =some y→g (i+j) y=0
 | [],_,_,_,_,h=>by simp at h
 | y::r,i,h,j,z,hz=>by
  simp only[dy] at h
  by_cases hg:g i y=0
  ·rw[WQ hg] at h
   cases j with
   | zero=>simp at hz;subst hz;exact hg
   | succ j=>have:=iI h j z (by simpa using hz);rw[show i+(j+1)=i+1+j by omega];exact this
  ·rw[WO hg] at h;exact absurd h hg
theorem JR {X α:Type} {γ:Type} {f:X→(X→Option ((Int×Unit) ⊕ γ))→Option ((Int×Unit) ⊕ γ)} (mk:Nat→X) (l:List α) (g:Nat→α→Int) (u:γ)
 (hstep:∀ i y again,l[i]? =some y→f (mk i) again=if g i y=0 then again (mk (i+1)) else some (Sum.inl (g i y,()))) (hend:∀ again,f (mk l.length) again=some (Sum.inr u)):
 ∀ (r:List α) (i n:Nat),l.drop i=r→i≤l.length→r.length<n→iter n (mk i) f=if dy g i r=0 then some (Sum.inr u) else some (Sum.inl (dy g i r,()))
 | _,_,0,_,_,hn=>absurd hn (Wj _)
 | [],i,n+1,hd,hi,_=>by
  have:i=l.length:=by
   have:=congrArg List.length hd
   simp at this;omega
  subst this
  rw[gy,hend];rfl
 | y::r,i,n+1,hd,hi,hn=>by
  have hy:l[i]? =some y:=by
   have:=congrArg (·[0]?) hd
   simpa [U4] using this
  have hr:l.drop (i+1)=r:=by
   have:=congrArg List.tail hd
   simpa [List.tail_drop] using this
  have hi':i<l.length:=(U7.1 hy).1
  rw[gy,hstep i y _ hy]
  by_cases hg:g i y=0
  ·have e:dy g i (y::r)=dy g (i+1) r:=by simp[dy,hg]
   rw[WQ hg,e]
   exact JR mk l g u hstep hend r (i+1) n hr hi' (by simp at hn;omega)
  ·have e:dy g i (y::r)=g i y:=by simp[dy,hg]
   rw[WO hg,e,WO hg]
theorem eU (a b c:Int):iM a b c=some (decide (a<b∨c<a),()):=by
 unfold iM
 by_cases h:a<b
 ·rw[aG h];simp[h]
 ·rw[aN h];simp[h]
theorem L2 (n:Int):yM n=some (decide (1≤n∧n≤3652059),()):=by
 unfold yM
 rw[eU,Wq]
 congr 2
 simp only[← decide_not]
 congr 1
 simp only[eq_iff_iff];omega
def dS (s:List UInt8):Bool:=((dF s).map (·.1)).getD false
theorem qL (s:List UInt8):dF s=some (dS s,()):=by
 have:∃ b,dF s=some (b,()):=by
  unfold dF
  by_cases h1:(s.length:Int)<1
  ·rw[aG h1];exact⟨_,rfl⟩
  ·rw[aN h1]
   by_cases h2:(s.length:Int)>40
   ·rw[aG h2];exact⟨_,rfl⟩
   ·rw[aN h2]
    have hs:vW s 0=some (s[0]'(by omega)):=by simp[vW]
    rw[hs]
    simp only[Wq]
    have ht:lP s [97,98,99,100,101,102,103,104,105,106,107,108,109,110,111,112,113,114,115,116,117,118,119,120,121,122,48,49,50,51,52,53,54,55,56,57,45]=some (Lib.trimS s [97,98,99,100,101,102,103,104,105,106,107,108,109,110,111,112,113,114,115,116,117,118,119,120,121,122,48,49,50,51,52,53,54,55,56,57,45],()):=by
     unfold lP
     rw[show (decide (s.length≤9223372036854775807))=true by simp;omega]
     rfl
    rw[ht]
    simp only[Wq]
    generalize (decide ((((s[0]'(by omega)).toNat:Int))<97))=b1
    generalize (decide ((((s[0]'(by omega)).toNat:Int))>122))=b2
    cases b1<;>cases b2<;>exact⟨_,rfl⟩
 obtain⟨b,hb⟩:=this
 unfold dS
 rw[hb];rfl
theorem yW (d:ai):fS d=some (if -1000000000000000≤d.1∧d.1≤1000000000000000∧0≤d.2∧d.2≤9 then 0 else 1,()):=by
 unfold fS
 rw[eU,Wq,eU]
 simp only[Wq]
 by_cases h1:d.1< -1000000000000000∨1000000000000000<d.1
 ·rw[aG h1,WO (by omega)]
 ·rw[aN h1]
  by_cases h2:d.2<0∨9<d.2
  ·rw[aG h2,WO (by omega)]
  ·rw[aN h2,WQ (by omega)]
theorem Rw {n:Nat} (h:n≤18):(10:Int) ^ n≤1000000000000000000:=by
 have:=Wm (n:=10) (by omega) h
 have h2:=Uw.2 this
 simpa using h2
theorem Du (n:Nat):(0:Int)<10 ^ n:=FQ (by omega) n
theorem Kq (n:Int) (h0:0≤n) (h1:n≤18):Gi n=some (10 ^ n.toNat,()):=by
 obtain⟨m,rfl⟩:∃ m:Nat,n=m:=⟨n.toNat,by omega⟩
 unfold Gi
 have:iter (X:=qI) (β:=qH) (Int.natAbs (1:Int)+(Int.natAbs (m:Int)+(Int.natAbs (0:Int)+2))) (1,(m:Int),0,()) qG=some (Sum.inr (10 ^ m,())):=by
  refine bJ (Inv:=fun i x=>x=(10 ^ i,(m:Int),(i:Int),())) m (fun r=>r=some (Sum.inr (10 ^ m,()))) ?_ ?_ _ 0 _ (by simp) (by omega) (by omega)
  ·rintro i _ again hi rfl ih
   unfold qG
   dsimp only
   have h10:=Rw (n:=i+1) (by omega)
   have hp:=Du (i+1)
   rw[Uy] at h10 hp
   rw[aG (by omega),ax (by omega) (by omega),ax (by omega) (by omega)]
   exact ih _ (by rw[Uy];rfl)
  ·rintro _ again rfl
   unfold qG
   dsimp only
   rw[aN (by omega)]
 rw[this,aU]
 simp
def yE (d:ai):Prop:=0<d.1∧0≤d.2∧d.2≤4∧d.1≤1000000000*10 ^ d.2.toNat
instance (d:ai):Decidable (yE d):=by unfold yE;exact inferInstance
structure SB (d:lV):Prop where
 day0:1≤d.2.1
 day1:d.2.1≤3652059
 mon:yE d.2.2.1
 days0:0≤d.2.2.2.1
 days1:d.2.2.2.1≤10000
 with0:0≤d.2.2.2.2.1
 with1:d.2.2.2.2.1≤d.2.2.2.1
 disc0:0≤d.2.2.2.2.2
 disc1:d.2.2.2.2.2≤1000
structure TQ (p:Kl):Prop where
 day0:1≤p.1
 day1:p.1≤3652059
 mon:yE p.2.1
 names:p.2.2.length≤100
end Go.Md
namespace Go.Md
open Go.Dn
def DL (d:ai):Int:=d.1*10 ^ (4 - d.2).toNat
theorem yE.DL {d:ai} (h:yE d):0<DL d∧DL d≤10000000000000:=by
 obtain⟨h1,h2,h3,h4⟩:=h
 unfold Md.DL
 have hp:=Du (4 - d.2).toNat
 refine⟨Int.mul_pos h1 hp, ?_⟩
 have a1:d.1*10 ^ (4 - d.2).toNat≤1000000000*10 ^ d.2.toNat*10 ^ (4 - d.2).toNat:=Ut h4 (by omega)
 rw[Ur, ← Ux,show d.2.toNat+(4 - d.2).toNat=4 by omega] at a1
 omega
abbrev Bd:=nw
def O2 (x:Bd):Int:=x.2.1
def O7 (x:Bd):Int:=x.2.2.1
def taken (x:Bd):Int:=x.2.2.2.1
def done (x:Bd):Int:=x.2.2.2.2
structure K7 (x:Bd):Prop where
 d:SB x.1
 owes0:0≤O2 x
 paid0:0≤O7 x
 taken0:0≤taken x
 sum:O2 x+O7 x+taken x=DL x.1.2.2.1
 none:done x=0→taken x=0
 done0:done x=0∨x.1.2.1≤done x
 iff:O2 x=0↔done x≠0
theorem K7.le {x:Bd} (h:K7 x):O2 x≤10000000000000∧O7 x≤10000000000000∧taken x≤10000000000000:=by
 have:=h.d.mon.DL;have:=h.sum;have:=h.owes0;have:=h.paid0;have:=h.taken0;omega
section
variable {ar:List Bd} {h:Nat} {x:Bd}
theorem Sv {α:Type} {l:List α} {i:Nat} {x y:α} (h:l[i]? =some x):(l.set i y)[i]? =some y:=Vc (U7.1 h).1
end
end Go.Md
namespace Go.Md
open Go.Dn
structure gT (ds:List lV) (ar:List Bd):Prop where
 ds:ar.map (·.1)=ds
 ok:∀ x∈ar,K7 x
theorem gT.len {ds:List lV} {ar:List Bd} (h:gT ds ar):ar.length=ds.length:=by rw[← h.ds];simp
theorem gT.set {ds:List lV} {ar:List Bd} (h:gT ds ar) {i:Nat} {x y:Bd} (hx:ar[i]? =some x) (hy:K7 y) (he:y.1=x.1):gT ds (ar.set i y):=by
 refine⟨?_,fun z hz=> ?_⟩
 ·rw[List.map_set,he, ← h.ds]
  apply UW
  intro j
  by_cases hj:i=j
  ·subst hj
   rw[Vc (by simp;exact (U7.1 hx).1),U8,hx];rfl
  ·rw[Vb hj]
 ·rcases VC hz with hz | rfl
  ·exact h.ok z hz
  ·exact hy
theorem gT.get {ds:List lV} {ar:List Bd} (h:gT ds ar) {i:Nat} {x:Bd} (hx:ar[i]? =some x):K7 x:=h.ok x (VA hx)
def Sx (ar:List Bd):Int:=(ar.map O7).sum
structure TR (ds:List lV) (L T:Int) (s:Int×List Bd):Prop where
 ar:gT ds s.2
 l0:0≤s.1
 l1:s.1≤L
 tot:s.1+Sx s.2=T
theorem rX {k v:Ty} (p:k.den×v.den) (m:List (k.den×v.den)) (n:k.den):bQ (p::m) n=bif k.beq n p.1 then some p.2 else bQ m n:=by
 unfold bQ
 rw[List.find?_cons]
 cases k.beq n p.1<;>rfl
theorem Df {k v:Ty} (p:k.den×v.den) (m:List (k.den×v.den)) (x:k.den) (y:v.den):fJ (p::m) x y=bif k.beq x p.1 then (x,y)::m else p::fJ m x y:=rfl
theorem Qs {k v:Ty} (hb:∀ a b:k.den,k.beq a b=true↔a=b) (m:List (k.den×v.den)) (x:k.den) (y:v.den) (n:k.den):bQ (fJ m x y) n=bif k.beq x n then some y else bQ m n:=by
 have hcomm:∀ a b:k.den,k.beq a b=k.beq b a:=fun a b=>by
  rw[Uc,hb,hb];exact eq_comm
 induction m with
 | nil=>
  change bQ [(x,y)] n=_
  rw[rX,hcomm n x]
 | cons p m ih=>
  rw[Df]
  cases hp:k.beq x p.1 with
  | true=>
   rw[WD,rX,rX,hcomm n p.1, ← (hb _ _).1 hp,hcomm n x]
   cases k.beq x n<;>rfl
  | false=>
   rw[WC,rX,rX,ih]
   cases hn:k.beq n p.1 with
   | true=>
    have:k.beq x n=false:=by
     cases h:k.beq x n with
     | false=>rfl
     | true=>rw[(hb _ _).1 h,hn] at hp;cases hp
    rw[this];rfl
   | false=>rfl
end Go.Md
namespace Go.Md
open Go.Dn
def few:Nat→Int→Int×Nat
 | 0,z=>(z,0)
 | p+1,z=>if z % 10=0 then few p (z / 10) else (z,p+1)
theorem tF:∀ (p:Nat) (z:Int),(few p z).2≤p∧(few p z).1*10 ^ (p - (few p z).2)=z∧(few p z).1.natAbs≤z.natAbs
 | 0,z=>by simp[few]
 | p+1,z=>by
  unfold few
  split
  ·rename_i h
   obtain⟨h1,h2,h3⟩:=tF p (z / 10)
   refine⟨by omega, ?_,by omega⟩
   rw[show p+1 - (few p (z / 10)).2=(p - (few p (z / 10)).2)+1 by omega,Uy, ← Ur,h2]
   omega
  ·simp
theorem HW (z:Int) (p:Int):qm (W z) p=some (if z.natAbs≤1000000000000000 then ((z,p),0,()) else ((0,0),1,())):=by
 unfold qm
 rw[yh z 1000000000000000 (by omega) (by omega),Wq]
 by_cases h:(z.natAbs:Int)≤1000000000000000
 ·rw[WQ h,WQ (by omega)];rfl
 ·rw[WO h,WO (by omega)];rfl
theorem w6 (z:Int) (hz:z.natAbs<4294967296 ^ 99) (p:Nat) (hp:p≤1000):mV (W z) (p:Int)=some (if (few p z).1.natAbs≤1000000000000000 then (((few p z).1,((few p z).2:Int)),0,()) else ((0,0),1,())):=by
 unfold mV
 rw[nK 10 (by omega) (by omega),Wq]
 dsimp only
 have loop:∀ (n:Nat) (z:Int) (p:Nat),z.natAbs<4294967296 ^ 99→p≤1000→p<n→iter (X:=l8) (β:=l7) n ((p:Int),(W z).1,(W z).2,0,0,(W 10).1,(W 10).2,()) l6=some (Sum.inr (((few p z).2:Int),(W (few p z).1).1,(W (few p z).1).2,0,0,())):=by
  intro n
  induction n with
  | zero=>intro z p _ _ h;omega
  | succ n ih=>
   intro z p hz hp hn
   rw[gy]
   generalize hag:(fun y=>iter n y l6)=again
   unfold l6
   dsimp only
   cases p with
   | zero=>rw[aN (by omega)];rfl
   | succ p=>
    have e10:(10:Int).natAbs=10:=rfl
    rw[aG (by omega)]
    change (Option.bind (oQ (W z) (W 10)) _)=_
    rw[HQ z 10 hz (by rw[e10];exact V6 (by omega) (Wm (n:=4294967296) (by omega) (show 1≤99 by omega))) (by omega),Wq]
    dsimp only
    rw[wk,Wq]
    dsimp only
    rw[e10]
    by_cases hm:z % 10=0
    ·have hm2:z.natAbs % 10=0:=by omega
     rw[hm2,show ((((0:Nat):Int).sign) != 0)=false from rfl,WC]
     change (Option.bind (iP (W z)) _)=_
     rw[wk,Wq]
     dsimp only
     have hf:few (p+1) z=few p (z / 10):=by simp[few,hm]
     rw[hf]
     have hz':(z / 10).natAbs<4294967296 ^ 99:=V5 (by omega) hz
     by_cases hneg:z<0
     ·rw[aG (by rw[Uz hneg];omega),DE _ (by simp only[Int.natAbs_natCast];exact V5 (Nat.div_le_self _ _) hz),Wq]
      dsimp only
      rw[show -((z.natAbs / 10:Nat):Int)=z / 10 by omega,ax (by omega) (by omega),show ((p+1:Nat):Int) - 1=(p:Int) by omega, ← hag]
      exact ih (z / 10) p hz' (by omega) (by omega)
     ·rw[aN (by
       rcases (show z=0∨0<z by omega) with h | h
       ·subst h;decide
       ·rw[UA h];omega),show ((z.natAbs / 10:Nat):Int)=z / 10 by omega,ax (by omega) (by omega),show ((p+1:Nat):Int) - 1=(p:Int) by omega, ← hag]
      exact ih (z / 10) p hz' (by omega) (by omega)
    ·have hm2:0<z.natAbs % 10:=by omega
     have:(((z.natAbs % 10:Nat):Int).sign != 0)=true:=by
      rw[UA (by omega)];rfl
     rw[this,WD]
     have hf:few (p+1) z=(z,p+1):=by simp[few,hm]
     rw[hf]
 have:=loop (Int.natAbs (p:Int)+(List.length (W z).2+(Int.natAbs (0:Int)+(Int.natAbs (0:Int)+(List.length (W 10).2+2))))) z p hz hp (by omega)
 rw[this,aU]
 dsimp only
 change (Option.bind (qm (W (few p z).1) ((few p z).2:Int)) _)=_
 rw[HW,Wq]
def told (n:Int):ai:=((few 4 n).1,((few 4 n).2:Int))
def cA (d:ai):Prop:=d.1.natAbs≤1000000000000000∧0≤d.2∧d.2≤9
theorem yE.dec {d:ai} (h:yE d):cA d:=by
 obtain⟨h1,h2,h3,h4⟩:=h
 have hq:(10:Int) ^ d.2.toNat≤10000:=by
  have:=Wm (n:=10) (by omega) (show d.2.toNat≤4 by omega)
  have h2:=Uw.2 this
  simpa using h2
 exact⟨by omega,h2,by omega⟩
theorem SY {z:Int} (h:z.natAbs<1000000000000000000000000000000000000000000000000000000000000):(dg6 z.natAbs).length≤10:=NM (k:=10) (by simpa using h)
theorem Nx (n:Nat) (hn:n≤40):xT (n:Int)=some (N (10 ^ n),()):=by
 unfold xT
 rw[FU 1 (by omega) (by omega),Wq]
 dsimp only
 have hb:∀ i:Nat,i≤41→(dg6 ((10:Int) ^ i).natAbs).length≤10:=by
  intro i hi
  refine SY ?_
  have h1:((10:Int) ^ i).natAbs=10 ^ i:=by rw[Int.natAbs_pow];rfl
  have h2:=Wm (n:=10) (by omega) hi
  omega
 have loop:iter (X:=uN) (β:=uK) (Int.natAbs (n:Int)+(Int.natAbs (0:Int)+(List.length ([]:List Int)+(List.length (N 1).2+2)))) ((n:Int),0,false,[],(N 1).1,(N 1).2,()) uJ=some (Sum.inr (false,[],(N (10 ^ n)).1,(N (10 ^ n)).2,())):=by
  refine bJ (Inv:=fun i x=>x=((n:Int),(i:Int),false,[],(N (10 ^ i)).1,(N (10 ^ i)).2,())) n (fun r=>r=some (Sum.inr (false,[],(N (10 ^ n)).1,(N (10 ^ n)).2,()))) ?_ ?_ _ 0 _ (by simp) (by omega) (by omega)
  ·rintro i _ again hi rfl ih
   unfold uJ
   dsimp only
   rw[aG (by omega),FU 10 (by omega) (by omega),Wq]
   change (Option.bind (pK (N (10 ^ i)) (N 10)) _)=_
   have h10:(dg6 (10:Int).natAbs).length≤10:=SY (by decide)
   rw[BS _ _ (by have:=hb i (by omega);omega) (by omega),Wq]
   dsimp only
   rw[ax (by omega) (by omega)]
   exact ih _ (by rw[Uy];rfl)
  ·rintro _ again rfl
   unfold uJ
   dsimp only
   rw[aN (by omega)]
 rw[loop,aU]
end Go.Md
namespace Go.Md
open Go.Dn
end Go.Md
namespace Go.Md
open Go.Dn
end Go.Md
namespace Go.Md
open Go.Dn
end Go.Md
namespace Go.Md
open Go.Dn
def K8 (D:Int) (S:Nat→Prop) (ar:List Bd):Prop:=∀ i x,S i→ar[i]? =some x→done x=0∨D<done x
theorem K8.set {D:Int} {S:Nat→Prop} {ar:List Bd} {h:Nat} {x y:Bd} (hq:K8 D S ar) (hx:ar[h]? =some x) (hy:(done x=0∨D<done x)→(done y=0∨D<done y)):K8 D S (ar.set h y):=by
 intro i z hi hz
 by_cases e:h=i
 ·subst e
  rw[Sv hx] at hz
  cases hz
  exact hy (hq h x hi hx)
 ·rw[Vb e] at hz
  exact hq i z hi hz
end Go.Md
namespace Go.Md
open Go.Dn
theorem FX {s:List UInt8} {i:Nat} {c:UInt8} (h:s[i]? =some c):vW s (i:Int)=some c:=by simp[vW,h]
instance (d:ai):Decidable (cA d):=by unfold cA;infer_instance
end Go.Md
