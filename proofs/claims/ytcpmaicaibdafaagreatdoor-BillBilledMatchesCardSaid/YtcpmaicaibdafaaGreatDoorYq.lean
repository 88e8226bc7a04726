/-
  Plain facts, small ones. No condition.
-/
import Derived.Test.YtcpmaicaibdafaaGreatDoorYp
import Derived.Test.YtcpmaicaibdafaaGreatDoorYm
set_option linter.all false
namespace Go.Md
open Go.Dn
structure xW {α:Type} (k:α→Int) (l l':List α):Prop where
 perm:l.Perm l'
 keys:∀ v,l'.filter (fun x=>k x==v)=l.filter (fun x=>k x==v)
theorem xW.refl {α:Type} (k:α→Int) (l:List α):xW k l l:=⟨List.Perm.refl _,fun _=>rfl⟩
theorem xW.trans {α:Type} {k:α→Int} {a b c:List α} (h:xW k a b) (g:xW k b c):xW k a c:=⟨h.perm.trans g.perm,fun v=>(g.keys v).trans (h.keys v)⟩
theorem xW.append {α:Type} {k:α→Int} {a b c d:List α} (h:xW k a b) (g:xW k c d):xW k (a++c) (b++d):=
 ⟨h.perm.append g.perm,fun v=>by rw[List.filter_append,List.filter_append,h.keys,g.keys]⟩
theorem xW.mem {α:Type} {k:α→Int} {a b:List α} (h:xW k a b) {x:α}:x∈b↔x∈a:=h.perm.mem_iff.symm
theorem xW.length {α:Type} {k:α→Int} {a b:List α} (h:xW k a b):b.length=a.length:=h.perm.length_eq.symm
def Srt {α:Type} (k:α→Int) (l:List α):Prop:=l.Pairwise fun x y=>k x≤k y
theorem Srt.append {α:Type} {k:α→Int} {a b:List α} (ha:Srt k a) (hb:Srt k b) (h:∀ x∈a,∀ y∈b,k x≤k y):Srt k (a++b):=Zi.2 ⟨ha,hb,h⟩
theorem Srt.left {α:Type} {k:α→Int} {a b:List α} (h:Srt k (a++b)):Srt k a:=(Zi.1 h).1
theorem Srt.right {α:Type} {k:α→Int} {a b:List α} (h:Srt k (a++b)):Srt k b:=(Zi.1 h).2.1
section
variable {k:Option Nat→Int} {ar:List av} {ok:Option Nat→Prop}
end
end Go.Md
namespace Go.Md
open Go.Dn
section
variable {k:Option Nat→Int} {ar:List av} {ok:Option Nat→Prop}
end
end Go.Md
namespace Go.Md
open Go.Dn
theorem Srt.get {α:Type} {k:α→Int} {l:List α} (h:Srt k l) {i j:Nat} (hij:i≤j) (hj:j<l.length):k (l[i]'(by omega))≤k l[j]:=by
 rcases Nat.lt_or_eq_of_le hij with h1 | h1
 ·exact Zk.1 h i j (by omega) hj h1
 ·subst h1;exact Int.le_refl _
section
variable {k:Option Nat→Int} {ar:List av} {ok:Option Nat→Prop}
end
end Go.Md
namespace Go.Md
open Go.Dn
section
variable {k:Option Nat→Int} {ar:List av} {ok:Option Nat→Prop}
end
end Go.Md
namespace Go.Md
open Go.Dn
def ChS {α:Type} (k:α→Int) (bs:Nat) (l:List α):Prop:=∀ j:Nat,Srt k ((l.drop (j*bs)).take bs)
theorem ChS.nil {α:Type} (k:α→Int) (bs:Nat):ChS k bs []:=fun _=>by simp[Srt]
theorem ChS.snoc {α:Type} {k:α→Int} {bs:Nat} {A S:List α} {j:Nat} (h:ChS k bs A) (hA:A.length=j*bs) (hS:Srt k S) (hl:S.length≤bs):ChS k bs (A++S):=by
 intro i
 rcases ZM i j with hij | hij | hij
 ·have h1:(i+1)*bs≤j*bs:=ZQ _ hij
  rw[Zw,ZS] at h1
  rw[List.drop_append_of_le_length (by omega),List.take_append_of_le_length (by rw[List.length_drop];omega)]
  exact h i
 ·subst hij
  rw[← hA,Yu,Zt hl]
  exact hS
 ·have h1:(j+1)*bs≤i*bs:=ZQ _ hij
  rw[Zw,ZS] at h1
  rw[List.drop_of_length_le (by rw[YV];omega)]
  simp[Srt]
theorem ChS.drop {α:Type} {k:α→Int} {bs:Nat} {l:List α} (h:ChS k bs l) (i:Nat):ChS k bs (l.drop (i*bs)):=by
 intro j
 rw[Ys, ← Zw]
 exact h (i+j)
theorem Srt.take {α:Type} {k:α→Int} {l:List α} (h:Srt k l) (n:Nat):Srt k (l.take n):=by
 rw[← Zr n l] at h;exact h.left
section
variable {k:Option Nat→Int} {ar:List av} {ok:Option Nat→Prop}
end
end Go.Md
namespace Go.Md
open Go.Dn
def ru {α:Type} (g:Nat→α→Int):Nat→List α→Int
 | _,[]=>0
 | i,y::r=>if g i y=0 then ru g (i+1) r else g i y
theorem F5 {α:Type} {g:Nat→α→Int}:∀ {l:List α} {i:Nat},ru g i l=0→∀ j y,l[j]? =some y→g (i+j) y=0
 | [],_,_,_,_,h=>by simp at h
 | y::r,i,h,j,z,hz=>by
  simp only[ru] at h
  by_cases hg:g i y=0
  ·rw[aan hg] at h
   cases j with
   | zero=>simp at hz;subst hz;exact hg
   | succ j=>have:=F5 h j z (by simpa using hz);rw[show i+(j+1)=i+1+j by omega];exact this
  ·rw[aam hg] at h;exact absurd h hg
theorem ON {X α:Type} {γ:Type} {f:X→(X→Option ((Int×Unit) ⊕ γ))→Option ((Int×Unit) ⊕ γ)} (mk:Nat→X) (l:List α) (g:Nat→α→Int) (u:γ)
 (hstep:∀ i y again,l[i]? =some y→f (mk i) again=if g i y=0 then again (mk (i+1)) else some (Sum.inl (g i y,()))) (hend:∀ again,f (mk l.length) again=some (Sum.inr u)):
 ∀ (r:List α) (i n:Nat),l.drop i=r→i≤l.length→r.length<n→iter n (mk i) f=if ru g i r=0 then some (Sum.inr u) else some (Sum.inl (ru g i r,()))
 | _,_,0,_,_,hn=>absurd hn (ZR _)
 | [],i,n+1,hd,hi,_=>by
  have:i=l.length:=by
   have:=congrArg List.length hd
   simp at this;omega
  subst this
  rw[cQ,hend];rfl
 | y::r,i,n+1,hd,hi,hn=>by
  have hy:l[i]? =some y:=by
   have:=congrArg (·[0]?) hd
   simpa [YI] using this
  have hr:l.drop (i+1)=r:=by
   have:=congrArg List.tail hd
   simpa [Zp] using this
  have hi':i<l.length:=(YL.1 hy).1
  rw[cQ,hstep i y _ hy]
  by_cases hg:g i y=0
  ·have e:ru g i (y::r)=ru g (i+1) r:=by simp[ru,hg]
   rw[aan hg,e]
   exact ON mk l g u hstep hend r (i+1) n hr hi' (by simp at hn;omega)
  ·have e:ru g i (y::r)=g i y:=by simp[ru,hg]
   rw[aam hg,e,aam hg]
theorem dP (a b c:Int):bD a b c=some (decide (a<b∨c<a),()):=by
 unfold bD
 by_cases h:a<b
 ·rw[bh h];simp[h]
 ·rw[bw h];simp[h]
theorem mU (n:Int):gZ n=some (decide (1≤n∧n≤3652059),()):=by
 unfold gZ
 rw[dP,ZZ]
 congr 2
 simp only[← decide_not]
 congr 1
 simp only[eq_iff_iff];omega
def bT (s:Bys):Bool:=((bW s).map (·.1)).getD false
theorem lT (s:Bys):bW s=some (bT s,()):=by
 have:∃ b,bW s=some (b,()):=by
  unfold bW
  by_cases h1:(s.length:Int)<1
  ·rw[bh h1];exact⟨_,rfl⟩
  ·rw[bw h1]
   by_cases h2:(s.length:Int)>40
   ·rw[bh h2];exact⟨_,rfl⟩
   ·rw[bw h2]
    have hs:Oo s 0=some (s[0]'(by omega)):=by simp[Oo]
    rw[hs]
    simp only[ZZ]
    have ht:qC s [97,98,99,100,101,102,103,104,105,106,107,108,109,110,111,112,113,114,115,116,117,118,119,120,121,122,48,49,50,51,52,53,54,55,56,57,45]=some (Lib.trimS s [97,98,99,100,101,102,103,104,105,106,107,108,109,110,111,112,113,114,115,116,117,118,119,120,121,122,48,49,50,51,52,53,54,55,56,57,45],()):=by
     unfold qC
     rw[show (decide (s.length≤9223372036854775807))=true by simp;omega]
     rfl
    rw[ht]
    simp only[ZZ]
    generalize (decide ((((s[0]'(by omega)).toNat:Int))<97))=b1
    generalize (decide ((((s[0]'(by omega)).toNat:Int))>122))=b2
    cases b1<;>cases b2<;>exact⟨_,rfl⟩
 obtain⟨b,hb⟩:=this
 unfold bT
 rw[hb];rfl
theorem De (d:ah):bU d=some (if -1000000000000000≤d.1∧d.1≤1000000000000000∧0≤d.2∧d.2≤9 then 0 else 1,()):=by
 unfold bU
 rw[dP,ZZ,dP]
 simp only[ZZ]
 by_cases h1:d.1< -1000000000000000∨1000000000000000<d.1
 ·rw[bh h1,aam (by omega)]
 ·rw[bw h1]
  by_cases h2:d.2<0∨9<d.2
  ·rw[bh h2,aam (by omega)]
  ·rw[bw h2,aan (by omega)]
theorem Vp {n:Nat} (h:n≤18):(10:Int) ^ n≤1000000000000000000:=by
 have:=ZU (n:=10) (by omega) h
 have h2:=Int.ofNat_le.2 this
 simpa using h2
theorem xL (n:Nat):(0:Int)<10 ^ n:=Rb (by omega) n
theorem Gl (n:Int) (h0:0≤n) (h1:n≤18):uM n=some (10 ^ n.toNat,()):=by
 obtain⟨m,rfl⟩:∃ m:Nat,n=m:=⟨n.toNat,by omega⟩
 unfold uM
 have:iter (X:=wJ) (β:=wI) (Int.natAbs (1:Int)+(Int.natAbs (m:Int)+(Int.natAbs (0:Int)+2))) (1,(m:Int),0,()) wH=some (Sum.inr (10 ^ m,())):=by
  refine jE (Inv:=fun i x=>x=(10 ^ i,(m:Int),(i:Int),())) m (fun r=>r=some (Sum.inr (10 ^ m,()))) ?_ ?_ _ 0 _ (by simp) (by omega) (by omega)
  ·rintro i _ again hi rfl ih
   unfold wH
   dsimp only
   have h10:=Vp (n:=i+1) (by omega)
   have hp:=xL (i+1)
   rw[Ye] at h10 hp
   rw[bh (by omega),aV (by omega) (by omega),aV (by omega) (by omega)]
   exact ih _ (by rw[Ye];rfl)
  ·rintro _ again rfl
   unfold wH
   dsimp only
   rw[bw (by omega)]
 rw[this,cR]
 simp
theorem LN (d:ah) (most:Int) (h0:0≤d.2) (h1:d.2≤9) (hm0:0≤most) (hm1:most≤1000000000):dW d most=some (decide (-(most*10 ^ d.2.toNat)≤d.1∧d.1≤most*10 ^ d.2.toNat),()):=by
 unfold dW
 rw[Gl _ h0 (by omega),ZZ]
 dsimp only
 have hp:=xL d.2.toNat
 have hq:(10:Int) ^ d.2.toNat≤1000000000:=by
  have:=ZU (n:=10) (by omega) (show d.2.toNat≤9 by omega)
  have h2:=Int.ofNat_le.2 this
  simpa using h2
 have h3:most*10 ^ d.2.toNat≤1000000000*1000000000:=by
  have a1:most*10 ^ d.2.toNat≤1000000000*10 ^ d.2.toNat:=Int.mul_le_mul_of_nonneg_right hm1 (by omega)
  omega
 have h4:0≤most*10 ^ d.2.toNat:=Ya hm0 (by omega)
 rw[aV (n:=most*10 ^ d.2.toNat) (by omega) (by omega),aV (by omega) (by omega),dP,ZZ]
 congr 2
 simp only[← decide_not]
 congr 1
 simp only[eq_iff_iff];omega
def CS (d:ah):Prop:=0<d.1∧0≤d.2∧d.2≤4∧d.1≤1000000000*10 ^ d.2.toNat
instance (d:ah):Decidable (CS d):=by unfold CS;exact inferInstance
structure WA (d:cB):Prop where
 day0:1≤d.2.1
 day1:d.2.1≤3652059
 mon:CS d.2.2.1
 days0:0≤d.2.2.2.1
 days1:d.2.2.2.1≤10000
 with0:0≤d.2.2.2.2.1
 with1:d.2.2.2.2.1≤d.2.2.2.1
 disc0:0≤d.2.2.2.2.2
 disc1:d.2.2.2.2.2≤1000
structure Xz (p:cm):Prop where
 day0:1≤p.1
 day1:p.1≤3652059
 mon:CS p.2.1
 names:p.2.2.length≤100
end Go.Md
namespace Go.Md
open Go.Dn
def I9 (d:ah):Int:=d.1*10 ^ (4 - d.2).toNat
theorem CS.I9 {d:ah} (h:CS d):0<I9 d∧I9 d≤10000000000000:=by
 obtain⟨h1,h2,h3,h4⟩:=h
 unfold Md.I9
 have hp:=xL (4 - d.2).toNat
 refine⟨Int.mul_pos h1 hp, ?_⟩
 have a1:d.1*10 ^ (4 - d.2).toNat≤1000000000*10 ^ d.2.toNat*10 ^ (4 - d.2).toNat:=Int.mul_le_mul_of_nonneg_right h4 (by omega)
 rw[X8, ← Int.pow_add,show d.2.toNat+(4 - d.2).toNat=4 by omega] at a1
 omega
abbrev Bd:=av
def Tm (x:Bd):Int:=x.2.1
def Tp (x:Bd):Int:=x.2.2.1
def taken (x:Bd):Int:=x.2.2.2.1
def done (x:Bd):Int:=x.2.2.2.2
structure Qb (x:Bd):Prop where
 d:WA x.1
 owes0:0≤Tm x
 paid0:0≤Tp x
 taken0:0≤taken x
 sum:Tm x+Tp x+taken x=I9 x.1.2.2.1
 none:done x=0→taken x=0
 done0:done x=0∨x.1.2.1≤done x
 iff:Tm x=0↔done x≠0
theorem Qb.le {x:Bd} (h:Qb x):Tm x≤10000000000000∧Tp x≤10000000000000∧taken x≤10000000000000:=by
 have:=h.d.mon.I9;have:=h.sum;have:=h.owes0;have:=h.paid0;have:=h.taken0;omega
section
variable {ar:List Bd} {h:Nat} {x:Bd}
theorem Ws {α:Type} {l:List α} {i:Nat} {x y:α} (h:l[i]? =some x):(l.set i y)[i]? =some y:=YR (YL.1 h).1
end
end Go.Md
namespace Go.Md
open Go.Dn
structure lR (ds:List cB) (ar:List Bd):Prop where
 ds:ar.map (·.1)=ds
 ok:∀ x∈ar,Qb x
theorem lR.len {ds:List cB} {ar:List Bd} (h:lR ds ar):ar.length=ds.length:=by rw[← h.ds];simp
theorem lR.set {ds:List cB} {ar:List Bd} (h:lR ds ar) {i:Nat} {x y:Bd} (hx:ar[i]? =some x) (hy:Qb y) (he:y.1=x.1):lR ds (ar.set i y):=by
 refine⟨?_,fun z hz=> ?_⟩
 ·rw[List.map_set,he, ← h.ds]
  apply Yy
  intro j
  by_cases hj:i=j
  ·subst hj
   rw[YR (by simp;exact (YL.1 hx).1),YM,hx];rfl
  ·rw[YQ hj]
 ·rcases Ze hz with hz | rfl
  ·exact h.ok z hz
  ·exact hy
theorem lR.get {ds:List cB} {ar:List Bd} (h:lR ds ar) {i:Nat} {x:Bd} (hx:ar[i]? =some x):Qb x:=h.ok x (Zd hx)
def Wx (ar:List Bd):Int:=(ar.map Tp).sum
structure XA (ds:List cB) (L T:Int) (s:Int×List Bd):Prop where
 ar:lR ds s.2
 l0:0≤s.1
 l1:s.1≤L
 tot:s.1+Wx s.2=T
theorem xH {k v:Ty} (p:k.den×v.den) (m:List (k.den×v.den)) (n:k.den):bM (p::m) n=bif k.beq n p.1 then some p.2 else bM m n:=by
 unfold bM
 rw[Yz]
 cases k.beq n p.1<;>rfl
theorem Ux {k v:Ty} (p:k.den×v.den) (m:List (k.den×v.den)) (x:k.den) (y:v.den):jY (p::m) x y=bif k.beq x p.1 then (x,y)::m else p::jY m x y:=rfl
theorem OS {k v:Ty} (hb:∀ a b:k.den,k.beq a b=true↔a=b) (m:List (k.den×v.den)) (x:k.den) (y:v.den) (n:k.den):bM (jY m x y) n=bif k.beq x n then some y else bM m n:=by
 have hcomm:∀ a b:k.den,k.beq a b=k.beq b a:=fun a b=>by
  rw[Bool.eq_iff_iff,hb,hb];exact eq_comm
 induction m with
 | nil=>
  change bM [(x,y)] n=_
  rw[xH,hcomm n x]
 | cons p m ih=>
  rw[Ux]
  cases hp:k.beq x p.1 with
  | true=>
   rw[aac,xH,xH,hcomm n p.1, ← (hb _ _).1 hp,hcomm n x]
   cases k.beq x n<;>rfl
  | false=>
   rw[aab,xH,xH,ih]
   cases hn:k.beq n p.1 with
   | true=>
    have:k.beq x n=false:=by
     cases h:k.beq x n with
     | false=>rfl
     | true=>rw[(hb _ _).1 h,hn] at hp;cases hp
    rw[this];rfl
   | false=>rfl
end Go.Md
namespace Go.Md
open Go.Dn
def few:Nat→Int→Int×Nat
 | 0,z=>(z,0)
 | p+1,z=>if z % 10=0 then few p (z / 10) else (z,p+1)
theorem EB:∀ (p:Nat) (z:Int),(few p z).2≤p∧(few p z).1*10 ^ (p - (few p z).2)=z∧(few p z).1.natAbs≤z.natAbs
 | 0,z=>by simp[few]
 | p+1,z=>by
  unfold few
  split
  ·rename_i h
   obtain⟨h1,h2,h3⟩:=EB p (z / 10)
   refine⟨by omega, ?_,by omega⟩
   rw[show p+1 - (few p (z / 10)).2=(p - (few p (z / 10)).2)+1 by omega,Ye, ← X8,h2]
   omega
  ·simp
theorem No (z:Int) (p:Int):vX (W z) p=some (if z.natAbs≤1000000000000000 then ((z,p),0,()) else ((0,0),1,())):=by
 unfold vX
 rw[LA z 1000000000000000 (by omega) (by omega),ZZ]
 by_cases h:(z.natAbs:Int)≤1000000000000000
 ·rw[aan h,aan (by omega)];rfl
 ·rw[aam h,aam (by omega)];rfl
theorem BA (z:Int) (hz:z.natAbs<4294967296 ^ 99) (p:Nat) (hp:p≤1000):jC (W z) (p:Int)=some (if (few p z).1.natAbs≤1000000000000000 then (((few p z).1,((few p z).2:Int)),0,()) else ((0,0),1,())):=by
 unfold jC
 rw[mM 10 (by omega) (by omega),ZZ]
 dsimp only
 have loop:∀ (n:Nat) (z:Int) (p:Nat),z.natAbs<4294967296 ^ 99→p≤1000→p<n→iter (X:=qQ) (β:=qP) n ((p:Int),(W z).1,(W z).2,0,0,(W 10).1,(W 10).2,()) qO=some (Sum.inr (((few p z).2:Int),(W (few p z).1).1,(W (few p z).1).2,0,0,())):=by
  intro n
  induction n with
  | zero=>intro z p _ _ h;omega
  | succ n ih=>
   intro z p hz hp hn
   rw[cQ]
   generalize hag:(fun y=>iter n y qO)=again
   unfold qO
   dsimp only
   cases p with
   | zero=>rw[bw (by omega)];rfl
   | succ p=>
    have e10:(10:Int).natAbs=10:=rfl
    rw[bh (by omega)]
    change (Option.bind (uF (W z) (W 10)) _)=_
    rw[Ni z 10 hz (by rw[e10];exact ZJ (by omega) (ZU (n:=4294967296) (by omega) (show 1≤99 by omega))) (by omega),ZZ]
    dsimp only
    rw[jB,ZZ]
    dsimp only
    rw[e10]
    by_cases hm:z % 10=0
    ·have hm2:z.natAbs % 10=0:=by omega
     rw[hm2,show ((((0:Nat):Int).sign) != 0)=false from rfl,aab]
     change (Option.bind (fG (W z)) _)=_
     rw[jB,ZZ]
     dsimp only
     have hf:few (p+1) z=few p (z / 10):=by simp[few,hm]
     rw[hf]
     have hz':(z / 10).natAbs<4294967296 ^ 99:=ZI (by omega) hz
     by_cases hneg:z<0
     ·rw[bh (by rw[Yf hneg];omega),Ar _ (by simp only[Yc];exact ZI (Nat.div_le_self _ _) hz),ZZ]
      dsimp only
      rw[show -((z.natAbs / 10:Nat):Int)=z / 10 by omega,aV (by omega) (by omega),show ((p+1:Nat):Int) - 1=(p:Int) by omega, ← hag]
      exact ih (z / 10) p hz' (by omega) (by omega)
     ·rw[bw (by
       rcases (show z=0∨0<z by omega) with h | h
       ·subst h;decide
       ·rw[Yg h];omega),show ((z.natAbs / 10:Nat):Int)=z / 10 by omega,aV (by omega) (by omega),show ((p+1:Nat):Int) - 1=(p:Int) by omega, ← hag]
      exact ih (z / 10) p hz' (by omega) (by omega)
    ·have hm2:0<z.natAbs % 10:=by omega
     have:(((z.natAbs % 10:Nat):Int).sign != 0)=true:=by
      rw[Yg (by omega)];rfl
     rw[this,aac]
     have hf:few (p+1) z=(z,p+1):=by simp[few,hm]
     rw[hf]
 have:=loop (Int.natAbs (p:Int)+(List.length (W z).2+(Int.natAbs (0:Int)+(Int.natAbs (0:Int)+(List.length (W 10).2+2))))) z p hz hp (by omega)
 rw[this,cR]
 dsimp only
 change (Option.bind (vX (W (few p z).1) ((few p z).2:Int)) _)=_
 rw[No,ZZ]
def jX (d:ah):Int:=d.1*10 ^ (9 - d.2).toNat
def dV (d:ah):Prop:=d.1.natAbs≤1000000000000000∧0≤d.2∧d.2≤9
theorem CS.dec {d:ah} (h:CS d):dV d:=by
 obtain⟨h1,h2,h3,h4⟩:=h
 have hq:(10:Int) ^ d.2.toNat≤10000:=by
  have:=ZU (n:=10) (by omega) (show d.2.toNat≤4 by omega)
  have h2:=Int.ofNat_le.2 this
  simpa using h2
 exact⟨by omega,h2,by omega⟩
end Go.Md
namespace Go.Md
open Go.Dn
end Go.Md
namespace Go.Md
open Go.Dn
end Go.Md
namespace Go.Md
open Go.Dn
end Go.Md
namespace Go.Md
open Go.Dn
def Qd (D:Int) (S:Nat→Prop) (ar:List Bd):Prop:=∀ i x,S i→ar[i]? =some x→done x=0∨D<done x
theorem Qd.set {D:Int} {S:Nat→Prop} {ar:List Bd} {h:Nat} {x y:Bd} (hq:Qd D S ar) (hx:ar[h]? =some x) (hy:(done x=0∨D<done x)→(done y=0∨D<done y)):Qd D S (ar.set h y):=by
 intro i z hi hz
 by_cases e:h=i
 ·subst e
  rw[Ws hx] at hz
  cases hz
  exact hy (hq h x hi hx)
 ·rw[YQ e] at hz
  exact hq i z hi hz
end Go.Md
namespace Go.Md
open Go.Dn
instance (d:ah):Decidable (dV d):=by unfold dV;infer_instance
end Go.Md
