/-
  Plain facts: masses and weights. No condition.
-/
import Derived.Test.YtnamfglkolhhgadGreatDoorYt
import Derived.Test.YtnamfglkolhhgadGreatDoorYn
import Derived.Test.YtnamfglkolhhgadGreatDoorYr
import Derived.Test.YtnamfglkolhhgadGreatDoorYq
set_option linter.all false
namespace Go.Md
open Go.Dn
theorem adx {a b:List UInt8} (h:Op.bytesLess b a=true):0<Lib.compareBytes a b:=by
 have h1:¬ Lib.compareBytes a b<0:=fun h2=>by
  have:=sr.1 h2
  rw[uc h] at this;cases this
 have h2:¬ Lib.compareBytes a b=0:=fun h3=>by
  have:=C2.1 h3
  subst this
  rw[b7] at h;cases h
 omega
def kLt (a b:aR):Bool:=Op.bytesLess a.1 b.1||(a.1==b.1&&Op.bytesLess a.2.1 b.2.1)
theorem acm {a b c:aR} (h:kLt a b=true) (k:kLt b c=true):kLt a c=true:=by
 simp only[kLt,agR,agE,ajA] at*
 rcases h with h | ⟨h,h'⟩
 ·rcases k with k | ⟨k,k'⟩
  ·exact .inl (gL h k)
  ·exact .inl (k ▸ h)
 ·rcases k with k | ⟨k,k'⟩
  ·exact .inl (h ▸ k)
  ·exact .inr ⟨h.trans k,gL h' k'⟩
theorem afp {a b:aR} (h:kLt a b=true):(a.1==b.1&&a.2.1==b.2.1)=false:=by
 cases hb:(a.1==b.1&&a.2.1==b.2.1) with
 | false=>rfl
 | true=>
  simp only[agE,ajA] at hb
  simp only[kLt,hb.1,hb.2,b7,agF,agS] at h
  cases h
theorem af6 (p y:aR):decide (cD (fun _ (z:Int)=>z) 0 [Lib.compareBytes p.1 y.1,Lib.compareBytes p.2.1 y.2.1]≥0)= !kLt p y:=by
 have key:∀ a b:List UInt8,(Lib.compareBytes a b<0∧Op.bytesLess a b=true∧(a==b)=false)∨(Lib.compareBytes a b=0∧Op.bytesLess a b=false∧(a==b)=true)∨(0<Lib.compareBytes a b∧Op.bytesLess a b=false∧(a==b)=false):=fun a b=>by
  rcases oI a b with h | h | h
  ·refine .inl ⟨sr.2 h,h, ?_⟩
   rw[ajz];rintro rfl;rw[b7] at h;cases h
  ·subst h;exact .inr (.inl ⟨C2.2 rfl,b7 _,by simp⟩)
  ·refine .inr (.inr ⟨adx h,uc h, ?_⟩)
   rw[ajz];rintro rfl;rw[b7] at h;cases h
 unfold kLt
 rcases key p.1 y.1 with ⟨h1,h2,h3⟩ | ⟨h1,h2,h3⟩ | ⟨h1,h2,h3⟩
 ·rw[h2]
  have:¬ Lib.compareBytes p.1 y.1=0:=by omega
  simp only[cD,this,ajO,Bool.true_or,agP,ajH]
  omega
 ·rw[h2,h3]
  rcases key p.2.1 y.2.1 with ⟨k1,k2,k3⟩ | ⟨k1,k2,k3⟩ | ⟨k1,k2,k3⟩
  ·rw[k2]
   have:¬ Lib.compareBytes p.2.1 y.2.1=0:=by omega
   simp only[cD,h1,this,ajR,ajO,Bool.and_self,Bool.or_true,agP,ajH]
   omega
  ·rw[k2]
   simp[cD,h1,k1]
  ·rw[k2]
   have:¬ Lib.compareBytes p.2.1 y.2.1=0:=by omega
   simp only[cD,h1,this,ajR,ajO,agF,agS,agO,ajJ]
   omega
 ·rw[h2,h3]
  have:¬ Lib.compareBytes p.1 y.1=0:=by omega
  simp only[cD,this,ajO,Bool.false_and,agS,agO,ajJ]
  omega
def El (l:List aR) (i:Nat) (y:aR):Bool:=match i with
 | 0=>false
 | i+1=>match l[i]? with
  | some p=> !kLt p y
  | none=>false
def Ns (l:List aR) (i:Nat) (m:aR):Int:=
 if eH m.1=false then 5 else if eH m.2.1=false then 5 else if El l i m=true then 8 else if qOk m.2.2 true=true then 0 else 1
def gM (l:List aR):Int:=if 500<l.length then 2 else cD (Ns l) 0 l
theorem IF (l:List aR):oW l=some (gM l,()):=by
 unfold oW gM
 by_cases hb:500<l.length
 ·rw[ax (by omega),ajQ hb]
 ·rw[av (by omega),ajP hb]
  rw[fO (f:=mm) (fun i=>((l,l,(l.length:Int),(i:Int),()):mo)) l (Ns l) () ?_ ?_ ?_ _ ?_]
  ·exact GN _ _
  ·rfl
  ·intro i y again hy
   have hi:=(ahQ.1 hy).1
   unfold mm
   dsimp only
   rw[ax (by omega),aV,hy,ajq]
   simp only[tu,ajq,lK,strings_Compare]
   have hw:w64 ((i:Int)+1)=((i+1:Nat):Int):=by rw[aq (by omega) (by omega)];omega
   rw[hw]
   unfold Ns
   generalize qOk y.2.2 true=q
   cases i with
   | zero=>
    simp only[El]
    cases eH y.1<;>cases eH y.2.1<;>cases q<;>simp
   | succ i=>
    have hp:l[i]? =some (l[i]'(by omega)):=aM (by omega)
    have ep:El l (i+1) y= !kLt (l[i]'(by omega)) y:=by simp only[El,hp]
    have hpos:decide (((i+1:Nat):Int)>0)=true:=by simp
    rw[Ab (by omega) (by omega),hp,ep,hpos]
    simp only[ajq,ajE]
    rw[UB _ (by simp),ajq]
    dsimp only
    rw[af6]
    generalize (!kLt (l[i]'(by omega)) y)=p
    cases eH y.1<;>cases eH y.2.1<;>cases q<;>cases p<;>simp
  ·intro again
   unfold mm
   dsimp only
   rw[av (by omega)]
  ·omega
theorem aeM (p y:aR):(!kLt p y)=(Op.bytesLess y.1 p.1||(y.1==p.1&&(Op.bytesLess y.2.1 p.2.1||y.2.1==p.2.1))):=by
 unfold kLt
 have key:∀ a b:List UInt8,(Op.bytesLess a b=true∧Op.bytesLess b a=false∧(a==b)=false∧(b==a)=false)∨(Op.bytesLess a b=false∧Op.bytesLess b a=false∧(a==b)=true∧(b==a)=true)∨(Op.bytesLess a b=false∧Op.bytesLess b a=true∧(a==b)=false∧(b==a)=false):=fun a b=>by
  rcases oI a b with h | h | h
  ·have hne:a≠b:=by rintro rfl;rw[b7] at h;cases h
   exact .inl ⟨h,uc h,by simpa using hne,by simpa using hne.symm⟩
  ·subst h;exact .inr (.inl ⟨b7 _,b7 _,by simp,by simp⟩)
  ·have hne:a≠b:=by rintro rfl;rw[b7] at h;cases h
   exact .inr (.inr ⟨uc h,h,by simpa using hne,by simpa using hne.symm⟩)
 rcases key p.1 y.1 with ⟨h1,h2,h3,h4⟩ | ⟨h1,h2,h3,h4⟩ | ⟨h1,h2,h3,h4⟩<;>rcases key p.2.1 y.2.1 with ⟨k1,k2,k3,k4⟩ | ⟨k1,k2,k3,k4⟩ | ⟨k1,k2,k3,k4⟩<;>rw[h1,h2,h3,h4,k1,k2,k4]<;>rfl
theorem MN (l:List aR):uR l=some (gM l,()):=by
 unfold uR gM
 by_cases hb:500<l.length
 ·rw[ax (by omega),ajQ hb]
 ·rw[av (by omega),ajP hb]
  rw[fO (f:=pH) (fun i=>((l,l,(l.length:Int),(i:Int),()):pI)) l (Ns l) () ?_ ?_ ?_ _ ?_]
  ·exact GN _ _
  ·rfl
  ·intro i y again hy
   have hi:=(ahQ.1 hy).1
   unfold pH
   dsimp only
   rw[ax (by omega),aV,hy,ajq]
   simp only[vW,ajq,yL,agO]
   have hw:w64 ((i:Int)+1)=((i+1:Nat):Int):=by rw[aq (by omega) (by omega)];omega
   rw[hw]
   unfold Ns
   generalize qOk y.2.2 true=q
   cases i with
   | zero=>
    simp only[El]
    cases eH y.1<;>cases eH y.2.1<;>cases q<;>simp
   | succ i=>
    have hp:l[i]? =some (l[i]'(by omega)):=aM (by omega)
    have ep:El l (i+1) y= !kLt (l[i]'(by omega)) y:=by simp only[El,hp]
    have hpos:decide (((i+1:Nat):Int)>0)=true:=by simp
    rw[Ab (by omega) (by omega),hp,ep,hpos,aeM]
    simp only[ajq,ajE]
    generalize Op.bytesLess y.1 (l[i]'(by omega)).1=p1
    generalize (y.1==(l[i]'(by omega)).1)=p2
    generalize (Op.bytesLess y.2.1 (l[i]'(by omega)).2.1||y.2.1==(l[i]'(by omega)).2.1)=p3
    cases eH y.1<;>cases eH y.2.1<;>cases q<;>cases p1<;>cases p2<;>cases p3<;>simp
  ·intro again
   unfold pH
   dsimp only
   rw[av (by omega)]
  ·omega
theorem AF {l:List aR} (h:gM l=0):l.length≤500∧(∀ (i j:Nat) (x y:aR),i<j→l[i]? =some x→l[j]? =some y→kLt x y=true)∧∀ m∈l,qOk m.2.2 true=true:=by
 unfold gM at h
 split at h
 ·omega
 have hz:=lQ h
 have hz':∀ i y,l[i]? =some y→El l i y=false∧qOk y.2.2 true=true:=fun i y hy=>by
  have:=hz i y hy
  rw[ajn] at this
  unfold Ns at this
  split at this
  ·omega
  split at this
  ·omega
  split at this
  ·omega
  rename_i h1
  split at this
  ·rename_i h2;exact⟨by simpa using h1,h2⟩
  ·omega
 refine⟨by omega, ?_,fun m hm=> ?_⟩
 ·have step:∀ i x y,l[i]? =some x→l[i+1]? =some y→kLt x y=true:=fun i x y hx hy=>by
   have:=(hz' (i+1) y hy).1
   simp only[El,hx] at this
   simpa using this
  intro i j x y hij hx hy
  induction j generalizing y with
  | zero=>omega
  | succ j ih=>
   rcases ai6.1 hij with h1 | h1
   ·have hj:j<l.length:=by have:=(ahQ.1 hy).1;omega
    have hz:l[j]? =some l[j]:=aM hj
    exact acm (ih _ h1 hz) (step j _ y hz hy)
   ·subst h1;exact step i x y hx hy
 ·obtain⟨i,hi⟩:=aio.1 hm
  exact (hz' i m hi).2
end Go.Md
namespace Go.Md
open Go.Dn
def mEq (a u:List UInt8) (x:aR):Bool:=x.1==a&&x.2.1==u
def yD (l:List aR) (a u:List UInt8):Option ak:=(l.find? (mEq a u)).map (·.2.2)
def toM (x:aR):bD×ak:=((x.1,x.2.1),x.2.2)
def Ua (m:List (bD×ak)) (x:bD):Option ak:=cw (k:=bN) (v:=aY) m x
def abd (m:List (bD×ak)) (x:bD) (y:ak):List (bD×ak):=oa (k:=bN) (v:=aY) m x y
theorem acZ (p:bD×ak) (m:List (bD×ak)) (x:bD):Ua (p::m) x=bif (x.1==p.1.1&&x.2==p.1.2) then some p.2 else Ua m x:=z6 (k:=bN) (v:=aY) p m x
theorem ac2 (p:bD×ak) (m:List (bD×ak)) (x:bD) (y:ak):abd (p::m) x y=bif (x.1==p.1.1&&x.2==p.1.2) then (x,y)::m else p::abd m x y:=rfl
theorem adZ (m:List (bD×ak)) (x:bD) (y:ak) (h:∀ p∈m,(x.1==p.1.1&&x.2==p.1.2)=false):abd m x y=m++[(x,y)]:=by
 induction m with
 | nil=>rfl
 | cons p r ih=>
  rw[ac2,h p (by simp),ajD,ih fun q hq=>h q (by simp[hq])]
  rfl
theorem adX (l:List aR) (a u:List UInt8):Ua (l.map toM) (a,u)=yD l a u:=by
 unfold yD
 induction l with
 | nil=>rfl
 | cons x r ih=>
  have e:(a==x.1&&u==x.2.1)=mEq a u x:=by
   unfold mEq
   rw[show (a==x.1)=(x.1==a) from Bool.beq_comm ..,show (u==x.2.1)=(x.2.1==u) from Bool.beq_comm ..]
  rw[aid,acZ,List.find?_cons]
  show (bif (a==x.1&&u==x.2.1) then some x.2.2 else Ua (r.map toM) (a,u))=_
  rw[e,ih]
  cases mEq a u x<;>rfl
theorem K8 (x1:iJ) (again:iJ→Option qH):qG x1 again=(
 bif decide (x1.2.2.2.1<x1.2.2.1) then
  Option.bind (idx x1.2.1 x1.2.2.2.1) fun y2=>
  again (x1.1,x1.2.1,x1.2.2.1,w64 (x1.2.2.2.1+1),x1.2.2.2.2.1,x1.2.2.2.2.2.1,abd x1.2.2.2.2.2.2.1 (y2.1,y2.2.1) y2.2.2,())
 else
  some (Sum.inr (x1.1,x1.2.2.2.2.1,x1.2.2.2.2.2.1,x1.2.2.2.2.2.2.1,()))):=rfl
theorem JX (x1:fV) (again:fV→Option pz):lX x1 again=(
 bif decide (x1.2.2.2.2.2.1<x1.2.2.2.2.1) then
  Option.bind (idx x1.2.2.2.1 x1.2.2.2.2.2.1) fun y2=>
  bif !(Option.isSome (Ua x1.2.2.2.2.2.2.2.2.2.2.1 (y2.1,y2.2.1))) then
   DS <|
    some (Sum.inl ((x1.2.2.2.2.2.2.2.2.1,x1.2.2.2.2.2.2.2.2.2.1),false,()))
  else
   Option.bind (iC y2.2.2.2 3) fun r3=>
   Option.bind (iC (Option.getD (Ua x1.2.2.2.2.2.2.2.2.2.2.1 (y2.1,y2.2.1)) (0,0)) 3) fun r4=>
   Option.bind (iP r3.1 r4.1) fun r5=>
   Option.bind (fQ (x1.2.2.2.2.2.2.2.2.1,x1.2.2.2.2.2.2.2.2.2.1) r5.1) fun r6=>
   again (x1.1,x1.2.1,x1.2.2.1,x1.2.2.2.1,x1.2.2.2.2.1,w64 (x1.2.2.2.2.2.1+1),x1.2.2.2.2.2.2.1,x1.2.2.2.2.2.2.2.1,r6.1.1,r6.1.2,x1.2.2.2.2.2.2.2.2.2.2.1,())
 else
  some (Sum.inr (x1.1,x1.2.1,x1.2.2.1,x1.2.2.2.2.2.2.1,x1.2.2.2.2.2.2.2.1,x1.2.2.2.2.2.2.2.2.1,x1.2.2.2.2.2.2.2.2.2.1,x1.2.2.2.2.2.2.2.2.2.2.1,()))):=rfl
def cW (m:List aR) (c:aW):Option Int:=(yD m c.1 c.2.1).map fun w=>c.2.2.2.1*10 ^ (3 - c.2.2.2.2).toNat*(w.1*10 ^ (3 - w.2).toNat)
def wC (m:List aR):List aW→Int→Option Int
 | [],n=>some n
 | c::r,n=>match cW m c with
  | some x=>wC m r (n+x)
  | none=>none
def qP (p:aa):Int:=p.2.2.1.1*10 ^ (6 - p.2.2.1.2).toNat
def wP (m:List aR):List aa→Int→Option Int
 | [],n=>some n
 | p::r,n=>match wC m p.2.2.2 (n+qP p) with
  | some z=>wP m r z
  | none=>none
def K37:Nat:=10 ^ 37
theorem HH {z:Int} {c:Nat} (hc:c≤100000) (h:z.natAbs≤c*K37):Le 42 z:=by
 unfold Le
 have h1:c*K37≤100000*K37:=aje _ hc
 have h2:100000*K37=10 ^ 42:=by unfold K37;decide
 omega
structure QOk (d:ak):Prop where
 dec:cq d
 pl:d.2≤3
theorem Ym {d:ak} {z:Bool} (h:qOk d z=true):QOk d:=by
 unfold qOk at h
 rw[agE] at h
 have h1:=h.1
 unfold inR at h1
 rw[ajJ] at h1
 exact⟨h1.1,h1.2.1⟩
theorem Af {d:ak} (h:QOk d) (k:Nat) (hk:k≤9):Le (15+k) (d.1*10 ^ ((k:Int) - d.2).toNat):=
 (Le.dec h.dec).mul ((Le.pow _).mono (by have:=h.dec.2;omega))
theorem WG {m:List aR} {c:aW} (hm:∀ x∈m,qOk x.2.2 true=true) (hc:QOk c.2.2.2) {z:Int} (h:cW m c=some z):Le 36 z∧∃ w,yD m c.1 c.2.1=some w∧QOk w∧z=c.2.2.2.1*10 ^ (3 - c.2.2.2.2).toNat*(w.1*10 ^ (3 - w.2).toNat):=by
 unfold cW at h
 cases hl:yD m c.1 c.2.1 with
 | none=>rw[hl] at h;cases h
 | some w=>
  rw[hl] at h
  simp only[ajv,Option.some.injEq] at h
  have hw:QOk w:=by
   unfold yD at hl
   cases hf:m.find? (mEq c.1 c.2.1) with
   | none=>rw[hf] at hl;cases hl
   | some x=>
    rw[hf] at hl
    simp only[ajv,Option.some.injEq] at hl
    subst hl
    exact Ym (hm x (aiq hf))
  refine⟨?_,w,rfl,hw,h.symm⟩
  rw[← h]
  exact (Af hc 3 (by omega)).mul (Af hw 3 (by omega))
theorem Le.k37 {z:Int} (h:Le 36 z):z.natAbs≤K37:=ai1 h (ajj (by omega) (by omega))
theorem Wi (m:List aR) (hm:∀ x∈m,qOk x.2.2 true=true) (gp:List aa) (g1 g2:Int) (cs:List aW) (hcs:∀ c∈cs,QOk c.2.2.2) (hl:cs.length≤100) (b1:Bool) (b2:List Int) (n:Int) (C:Nat) (hC:C≤90000) (hn:n.natAbs≤C*K37) (f:Nat) (hf:cs.length<f):
 (∃ z,wC m cs n=some z∧z.natAbs≤(C+cs.length)*K37∧iter f ((gp,g1,g2,cs,(cs.length:Int),(0:Int),b1,b2,(W n).1,(W n).2,m.map toM,()):fV) lX=some (Sum.inr (gp,g1,g2,b1,b2,(W z).1,(W z).2,m.map toM,())))∨
 (wC m cs n=none∧∃ q,iter f ((gp,g1,g2,cs,(cs.length:Int),(0:Int),b1,b2,(W n).1,(W n).2,m.map toM,()):fV) lX=some (Sum.inl (Sum.inl (q,false,())))):=by
 refine bf (Inv:=fun i X=>∃ z:Int,X=((gp,g1,g2,cs,(cs.length:Int),(i:Int),b1,b2,(W z).1,(W z).2,m.map toM,()):fV)∧wC m (cs.drop i) z=wC m cs n∧z.natAbs≤(C+i)*K37) cs.length
  (fun r=>(∃ z,wC m cs n=some z∧z.natAbs≤(C+cs.length)*K37∧r=some (Sum.inr (gp,g1,g2,b1,b2,(W z).1,(W z).2,m.map toM,())))∨(wC m cs n=none∧∃ q,r=some (Sum.inl (Sum.inl (q,false,()))))) ?_ ?_ f 0 _ ⟨n,rfl,rfl,by simpa using hn⟩ (by omega) (by omega)
 ·rintro i _ again hi ⟨z,rfl,h1,h2⟩ ih
  rw[JX]
  dsimp only
  have hy:cs[i]? =some cs[i]:=aM hi
  have hyq:=hcs _ (ahZ hi)
  have hcons:=yA hy
  generalize cs[i]=c at hy hyq hcons
  rw[hcons] at h1
  simp only[wC] at h1
  rw[ax (by omega),aV,hy,ajq,adX]
  cases hcw:cW m c with
  | none=>
   rw[hcw] at h1
   have hno:yD m c.1 c.2.1=none:=by
    unfold cW at hcw
    cases hl:yD m c.1 c.2.1 with
    | none=>rfl
    | some w=>rw[hl] at hcw;cases hcw
   rw[hno]
   exact .inr ⟨h1.symm,_,rfl⟩
  | some x=>
   rw[hcw] at h1
   obtain⟨hx,w,hw1,hw2,hw3⟩:=WG hm hyq hcw
   have d1:=hyq.dec.1;have d2:=hyq.dec.2;have d3:=hyq.pl;have e1:=hw2.dec.1;have e2:=hw2.dec.2;have e3:=hw2.pl
   have s1:Le 18 (c.2.2.2.1*10 ^ ((3:Int) - c.2.2.2.2).toNat):=Af hyq 3 (by omega)
   have s2:Le 18 (w.1*10 ^ ((3:Int) - w.2).toNat):=Af hw2 3 (by omega)
   rw[hw1]
   dsimp only[Option.isSome_some,Option.getD_some]
   rw[agP,ajD,nu _ _ (by omega) (by omega) (by omega) (by omega) (by omega),ajq,nu _ _ (by omega) (by omega) (by omega) (by omega) (by omega),ajq]
   dsimp only
   rw[p8 _ _ (s1.w (by omega)) (s2.w (by omega)),ajq]
   dsimp only
   rw[← hw3,show ((W z).1,(W z).2)=W z from rfl,kH _ _ ((HH (by omega) h2).w (by omega)) (hx.w (by omega)),ajq,aq (by omega) (by omega)]
   refine ih _ ⟨z+x,rfl,h1, ?_⟩
   have hk:=hx.k37
   have:(C+(i+1))*K37=(C+i)*K37+K37:=by rw[← aiR,ajm]
   omega
 ·rintro _ again ⟨z,rfl,h1,h2⟩
  unfold lX
  dsimp only
  rw[av (by omega)]
  rw[aht] at h1
  exact .inl ⟨z,h1.symm,h2,rfl⟩
structure Lh (p:aa):Prop where
 t:QOk p.2.2.1
 n:p.2.2.2.length≤100
 c:∀ c∈p.2.2.2,QOk c.2.2.2
theorem Ot (ps:List aa) (hps:∀ p∈ps,Lh p) (hl:ps.length≤500) (m:List aR) (hm0:gM m=0):
 (∃ z,wP m ps 0=some z∧Le 42 z∧rm ps m=some (W z,true,()))∨(wP m ps 0=none∧∃ q,rm ps m=some (q,false,())):=by
 obtain⟨hml,hms,hm⟩:=AF hm0
 unfold rm
 have build:∀ f,m.length<f→iter f ((ps,m,(m.length:Int),(0:Int),false,([]:List Int),([]:List (bD×ak)),()):iJ) qG=some (Sum.inr (ps,false,[],m.map toM,())):=by
  intro f hf
  refine bf (Inv:=fun i X=>X=((ps,m,(m.length:Int),(i:Int),false,([]:List Int),(m.take i).map toM,()):iJ)) m.length (fun r=>r=some (Sum.inr (ps,false,[],m.map toM,()))) ?_ ?_ f 0 _ rfl (by omega) (by omega)
  ·rintro i _ again hi rfl ih
   rw[K8]
   dsimp only
   have hy:m[i]? =some m[i]:=aM hi
   have htk:=mD hy
   generalize m[i]=y at hy htk
   rw[ax (by omega),aV,hy,ajq,aq (by omega) (by omega),adZ]
   ·refine ih _ ?_
    rw[htk,aib]
    rfl
   ·intro p hp
    rw[aip] at hp
    obtain⟨x,hx,rfl⟩:=hp
    obtain⟨j,hj⟩:=aio.1 hx
    have hji:j<i:=by
     have:=(ahQ.1 hj).1
     simp at this;omega
    have hj':m[j]? =some x:=by rw[ahW] at hj;rwa [ajQ hji] at hj
    have hne:=afp (hms j i x y hji hj' hy)
    show (y.1==x.1&&y.2.1==x.2.1)=false
    rw[show (y.1==x.1)=(x.1==y.1) from Bool.beq_comm ..,show (y.2.1==x.2.1)=(x.2.1==y.2.1) from Bool.beq_comm ..]
    exact hne
  ·rintro _ again rfl
   unfold qG
   dsimp only
   rw[av (by omega),aiP (ai0 _)]
 rw[build _ (by omega),aB,qx 0 (by omega) (by omega),ajq]
 dsimp only
 have loop:∀ f,ps.length<f→(∃ z,wP m ps 0=some z∧Le 42 z∧iter f ((ps,(ps.length:Int),(0:Int),false,([]:List Int),(W 0).1,(W 0).2,m.map toM,()):kD) mL=some (Sum.inr (false,[],(W z).1,(W z).2,())))∨
  (wP m ps 0=none∧∃ q,iter f ((ps,(ps.length:Int),(0:Int),false,([]:List Int),(W 0).1,(W 0).2,m.map toM,()):kD) mL=some (Sum.inl (q,false,()))):=by
  intro f hf
  refine bf (Inv:=fun i X=>∃ z:Int,X=((ps,(ps.length:Int),(i:Int),false,([]:List Int),(W z).1,(W z).2,m.map toM,()):kD)∧wP m (ps.drop i) z=wP m ps 0∧z.natAbs≤(101*i)*K37) ps.length
   (fun r=>(∃ z,wP m ps 0=some z∧Le 42 z∧r=some (Sum.inr (false,[],(W z).1,(W z).2,())))∨(wP m ps 0=none∧∃ q,r=some (Sum.inl (q,false,())))) ?_ ?_ f 0 _ ⟨0,rfl,rfl,by simp⟩ (by omega) (by omega)
  ·rintro i _ again hi ⟨z,rfl,h1,h2⟩ ih
   unfold mL
   dsimp only
   have hy:ps[i]? =some ps[i]:=aM hi
   have hyq:=hps _ (ahZ hi)
   have hcons:=yA hy
   generalize ps[i]=p at hy hyq hcons
   rw[hcons] at h1
   simp only[wP] at h1
   have d1:=hyq.t.dec.1;have d2:=hyq.t.dec.2;have d3:=hyq.t.pl
   have ht:Le 21 (qP p):=Af hyq.t 6 (by omega)
   rw[ax (by omega),aV,hy,ajq,nu _ _ (by omega) (by omega) (by omega) (by omega) (by omega),ajq]
   dsimp only
   rw[show p.2.2.1.1*10 ^ ((6:Int) - p.2.2.1.2).toNat=qP p from rfl,show ((W z).1,(W z).2)=W z from rfl,kH _ _ ((HH (by omega) h2).w (by omega)) (ht.w (by omega)),ajq]
   dsimp only
   have hk:=(ht.mono (show 21≤36 by omega)).k37
   have hb:(z+qP p).natAbs≤(101*i+1)*K37:=by
    have:(101*i+1)*K37=101*i*K37+K37:=ajm ..
    omega
   have hin:=Wi m hm ps (ps.length:Int) (i:Int) p.2.2.2 hyq.c hyq.n false [] (z+qP p) (101*i+1) (by omega) hb (List.length ps+(Int.natAbs (ps.length:Int)+(Int.natAbs (i:Int)+(p.2.2.2.length+(Int.natAbs ((p.2.2.2.length:Int))+(Int.natAbs (0:Int)+(List.length ([]:List Int)+(List.length (W (z+qP p)).2+(List.length (m.map toM)+2))))))))) (by omega)
   rcases hin with ⟨z',k1,k2,k3⟩ | ⟨k1,q,k3⟩
   ·rw[k1] at h1
    rw[k3,aB]
    dsimp only
    rw[aq (by omega) (by omega)]
    refine ih _ ⟨z',rfl,h1, ?_⟩
    have:=hyq.n
    exact ai1 k2 (aje _ (by omega))
   ·rw[k1] at h1
    rw[k3,bO]
    exact .inr ⟨h1.symm,q,rfl⟩
  ·rintro _ again ⟨z,rfl,h1,h2⟩
   unfold mL
   dsimp only
   rw[av (by omega)]
   rw[aht] at h1
   exact .inl ⟨z,h1.symm,HH (by omega) h2,rfl⟩
 rcases loop (List.length ps+(Int.natAbs ((List.length ps:Int))+(Int.natAbs (0:Int)+(List.length ([]:List Int)+(List.length (W 0).2+(List.length (m.map toM)+2)))))) (by omega) with ⟨z,h1,h2,h3⟩ | ⟨h1,q,h3⟩
 ·exact .inl ⟨z,h1,h2,by rw[h3,aB]⟩
 ·exact .inr ⟨h1,q,by rw[h3,bO]⟩
end Go.Md
namespace Go.Md
open Go.Dn
theorem adG (l:List aR) (p:aR→Bool):(match l.findIdx? p with | some k=>l[k]? | none=>none)=l.find? p:=by
 induction l with
 | nil=>rfl
 | cons x r ih=>
  rw[ahD,List.find?_cons]
  cases hp:p x with
  | true=>simp
  | false=>
   simp only[agI,ajO]
   rw[← ih]
   cases r.findIdx? p<;>simp
theorem V7 (l:List aR) (a u:List UInt8) (hl:l.length≤500):En l a u=some (ixI (l.findIdx? (mEq a u)),()):=by
 unfold En
 have loop:∀ f,l.length<f→iter f ((a,u,l,(l.length:Int),(0:Int),()):tP) yM=(if (l.findIdx? (mEq a u)).isSome=true then some (Sum.inl (ixI (l.findIdx? (mEq a u)),())) else some (Sum.inr ())):=by
  intro f hf
  refine bf (Inv:=fun i X=>X=((a,u,l,(l.length:Int),(i:Int),()):tP)∧∀ j x,j<i→l[j]? =some x→mEq a u x=false) l.length
   (fun r=>r=(if (l.findIdx? (mEq a u)).isSome=true then some (Sum.inl (ixI (l.findIdx? (mEq a u)),())) else some (Sum.inr ()))) ?_ ?_ f 0 _ ⟨rfl,fun _ _ h=>absurd h (ajg _)⟩ (by omega) (by omega)
  ·rintro i _ again hi ⟨rfl,hb⟩ ih
   unfold yM
   dsimp only
   have hy:l[i]? =some l[i]:=aM hi
   generalize hyi:l[i]=y at hy
   rw[ax (by omega),aV,hy,ajq,aq (by omega) (by omega)]
   have next:mEq a u y=false→again (a,u,l,(l.length:Int),(i:Int)+1,())=(if (l.findIdx? (mEq a u)).isSome=true then some (Sum.inl (ixI (l.findIdx? (mEq a u)),())) else some (Sum.inr ())):=fun hm=>by
    refine ih _ ⟨rfl,fun j x hj hx=> ?_⟩
    rcases ai6.1 hj with h | h
    ·exact hb j x h hx
    ·subst h;rw[hy] at hx;cases hx;exact hm
   cases h1:(y.1==a) with
   | false=>rw[ajD];exact next (by simp[mEq,h1])
   | true=>
    rw[ajE]
    cases h2:(y.2.1==u) with
    | false=>rw[ajD];exact next (by simp[mEq,h2])
    | true=>
     rw[ajE]
     have:l.findIdx? (mEq a u)=some i:=by
      rw[ahF]
      refine⟨hi,by rw[hyi];simp[mEq,h1,h2],fun j hj=> ?_⟩
      have:=hb j l[j] hj (ahO _)
      simp[this]
     rw[this];rfl
  ·rintro _ again ⟨rfl,hb⟩
   unfold yM
   dsimp only
   rw[av (by omega)]
   have:l.findIdx? (mEq a u)=none:=by
    rw[ahE]
    intro x hx
    obtain⟨j,hj⟩:=aio.1 hx
    exact hb j x (ahQ.1 hj).1 hj
   rw[this];rfl
 rw[loop _ (by omega)]
 cases l.findIdx? (mEq a u)<;>rfl
theorem acB (l:List aR) (a u:List UInt8):(l.findIdx? (mEq a u)=none∧yD l a u=none)∨∃ k x,l.findIdx? (mEq a u)=some k∧l[k]? =some x∧yD l a u=some x.2.2:=by
 have h:=adG l (mEq a u)
 unfold yD
 cases hk:l.findIdx? (mEq a u) with
 | none=>rw[hk] at h;rw[← h];exact .inl ⟨rfl,rfl⟩
 | some k=>
  rw[hk] at h
  have hlt:k<l.length:=by
   rw[ahF] at hk
   exact hk.1
  refine .inr ⟨k,l[k],rfl,aM hlt, ?_⟩
  rw[← h]
  simp[aM hlt]
theorem ac1 {a b:Int} (ha:0≤a∧a≤3) (hb:0≤b∧b≤3):(10:Int) ^ (9 - a - b).toNat=10 ^ (3 - a).toNat*10 ^ (3 - b).toNat*1000:=by
 rw[← ag6,show (1000:Int)=10 ^ 3 from rfl, ← ag6,show (3 - a).toNat+(3 - b).toNat+3=(9 - a - b).toNat by omega]
theorem ZP (m:List aR) (hml:m.length≤500) (hm:∀ x∈m,qOk x.2.2 true=true) (gp:List aa) (gl:List Int) (g1 g2:Int) (cs:List aW) (hcs:∀ c∈cs,QOk c.2.2.2) (hl:cs.length≤100) (b1:Bool) (b2:List Int) (n:Int) (C:Nat) (hC:C≤90000) (hn:n.natAbs≤C*K37) (f:Nat) (hf:cs.length<f):
 (∃ z,wC m cs n=some z∧z.natAbs≤(C+cs.length)*K37∧iter f ((gp,m,gl,g1,g2,cs,(cs.length:Int),(0:Int),b1,b2,(N (n*1000)).1,(N (n*1000)).2,()):rF) vV=some (Sum.inr (gp,m,gl,g1,g2,b1,b2,(N (z*1000)).1,(N (z*1000)).2,())))∨
 (wC m cs n=none∧∃ q,iter f ((gp,m,gl,g1,g2,cs,(cs.length:Int),(0:Int),b1,b2,(N (n*1000)).1,(N (n*1000)).2,()):rF) vV=some (Sum.inl (Sum.inl (q,false,())))):=by
 refine bf (Inv:=fun i X=>∃ z:Int,X=((gp,m,gl,g1,g2,cs,(cs.length:Int),(i:Int),b1,b2,(N (z*1000)).1,(N (z*1000)).2,()):rF)∧wC m (cs.drop i) z=wC m cs n∧z.natAbs≤(C+i)*K37) cs.length
  (fun r=>(∃ z,wC m cs n=some z∧z.natAbs≤(C+cs.length)*K37∧r=some (Sum.inr (gp,m,gl,g1,g2,b1,b2,(N (z*1000)).1,(N (z*1000)).2,())))∨(wC m cs n=none∧∃ q,r=some (Sum.inl (Sum.inl (q,false,()))))) ?_ ?_ f 0 _ ⟨n,rfl,rfl,by simpa using hn⟩ (by omega) (by omega)
 ·rintro i _ again hi ⟨z,rfl,h1,h2⟩ ih
  unfold vV
  dsimp only
  have hy:cs[i]? =some cs[i]:=aM hi
  have hyq:=hcs _ (ahZ hi)
  have hcons:=yA hy
  generalize cs[i]=c at hy hyq hcons
  rw[hcons] at h1
  simp only[wC] at h1
  rw[ax (by omega),aV,hy,ajq,V7 m _ _ hml,ajq]
  dsimp only
  rw[Z0]
  rcases acB m c.1 c.2.1 with ⟨k1,k2⟩ | ⟨k,y,k1,k2,k3⟩
  ·have hcw:cW m c=none:=by unfold cW;rw[k2];rfl
   rw[hcw] at h1
   rw[k1]
   exact .inr ⟨h1.symm,_,rfl⟩
  ·obtain⟨x,hcw⟩:∃ x,cW m c=some x:=by unfold cW;rw[k3];exact⟨_,rfl⟩
   rw[hcw] at h1
   obtain⟨hx,w,hw1,hw2,hw3⟩:=WG hm hyq hcw
   rw[k3] at hw1
   have hyw:y.2.2=w:=by simpa using hw1
   have d1:=hyq.dec.1;have d2:=hyq.dec.2;have d3:=hyq.pl;have e1:=hw2.dec.1;have e2:=hw2.dec.2;have e3:=hw2.pl
   rw[k1,Option.isSome_some,agP,ajD]
   dsimp only[ixI]
   rw[aV,k2,ajq,hyw]
   have l1:=(Le.dec hyq.dec).n (by omega);have l2:=(Le.dec hw2.dec).n (by omega);have l3:=((Le.dec hyq.dec).mul (Le.dec hw2.dec)).n (by omega)
   have l4:=((Le.pow (9 - c.2.2.2.2 - w.2).toNat).mono (by omega:_≤9)).n (by omega)
   rw[B7 _ (by omega) (by omega),ajq,B7 _ (by omega) (by omega),ajq]
   dsimp only
   rw[tT _ _ (by omega) (by omega),ajq,aq (n:=9 - c.2.2.2.2) (by omega) (by omega),aq (n:=9 - c.2.2.2.2 - w.2) (by omega) (by omega),MS (by omega) (by omega),ajq]
   dsimp only
   rw[tT _ _ (by omega) (by omega),ajq]
   dsimp only
   have ex:c.2.2.2.1*w.1*10 ^ (9 - c.2.2.2.2 - w.2).toNat=x*1000:=by
    rw[ac1 ⟨d2.1,d3⟩ ⟨e2.1,e3⟩,hw3]
    generalize (10:Int) ^ (3 - c.2.2.2.2).toNat=p
    generalize (10:Int) ^ (3 - w.2).toNat=q
    grind
   have hk3:Le 3 1000:=by unfold Le;decide
   have l5:=((HH (by omega) h2).mul hk3).n (by omega)
   have l6:=(hx.mul hk3).n (by omega)
   rw[ex,show ((N (z*1000)).1,(N (z*1000)).2)=N (z*1000) from rfl,xg _ _ (by omega) (by omega),ajq,aq (by omega) (by omega)]
   refine ih _ ⟨z+x, ?_,h1, ?_⟩
   ·rw[Int.add_mul];rfl
   ·have hk:=hx.k37
    have:(C+(i+1))*K37=(C+i)*K37+K37:=by rw[← aiR,ajm]
    omega
 ·rintro _ again ⟨z,rfl,h1,h2⟩
  unfold vV
  dsimp only
  rw[av (by omega)]
  rw[aht] at h1
  exact .inl ⟨z,h1.symm,h2,rfl⟩
def pick (l:List aa) (L:List Nat):List aa:=L.filterMap fun i=>l[i]?
theorem Yp (l:List aa) (L:List Nat) (hL:∀ x∈L,x<l.length) (hLl:L.length≤500) (hps:∀ p∈l,Lh p) (m:List aR) (hm0:gM m=0):
 (∃ z,wP m (L.map fun i=>l.getD i ([],[],(0,0),[])) 0=some z∧Le 42 z∧DH l m (cI L)=some (N (z*1000),true,()))∨(wP m (L.map fun i=>l.getD i ([],[],(0,0),[])) 0=none∧∃ q,DH l m (cI L)=some (q,false,())):=by
 obtain⟨hml,_,hm⟩:=AF hm0
 unfold DH
 generalize hps':(L.map fun i=>l.getD i ([],[],(0,0),[]))=ps
 have hpl:ps.length=L.length:=by rw[← hps',ah3]
 have loop:∀ f,L.length<f→(∃ z,wP m ps 0=some z∧Le 42 z∧iter f ((l,m,cI L,((cI L).length:Int),(0:Int),false,([]:List Int),false,([]:List Int),()):rE) vU=some (Sum.inr (false,[],(N (z*1000)).1,(N (z*1000)).2,())))∨
  (wP m ps 0=none∧∃ q,iter f ((l,m,cI L,((cI L).length:Int),(0:Int),false,([]:List Int),false,([]:List Int),()):rE) vU=some (Sum.inl (q,false,()))):=by
  intro f hf
  refine bf (Inv:=fun i X=>∃ z:Int,X=((l,m,cI L,((cI L).length:Int),(i:Int),false,([]:List Int),(N (z*1000)).1,(N (z*1000)).2,()):rE)∧wP m (ps.drop i) z=wP m ps 0∧z.natAbs≤(101*i)*K37) L.length
   (fun r=>(∃ z,wP m ps 0=some z∧Le 42 z∧r=some (Sum.inr (false,[],(N (z*1000)).1,(N (z*1000)).2,())))∨(wP m ps 0=none∧∃ q,r=some (Sum.inl (q,false,())))) ?_ ?_ f 0 _ ⟨0,rfl,rfl,by simp⟩ (by omega) (by omega)
  ·rintro i _ again hi ⟨z,rfl,h1,h2⟩ ih
   unfold vU
   dsimp only
   have hyL:L[i]? =some L[i]:=aM hi
   have hlt:=hL _ (ahZ hi)
   have hpsi:ps[i]? =some (l.getD L[i] ([],[],(0,0),[])):=by rw[← hps',ahR,hyL];rfl
   generalize L[i]=k at hyL hlt hpsi
   have hk:l[k]? =some l[k]:=aM hlt
   have hyq:=hps _ (ahZ hlt)
   have hget:l.getD k ([],[],(0,0),[])=l[k]:=by rw[ahH,hk];rfl
   rw[hget] at hpsi
   have hcons:=yA hpsi
   have hy':(cI L)[i]? =some (k:Int):=by unfold cI;rw[ahR,hyL];rfl
   generalize l[k]=p at hk hyq hcons
   rw[hcons] at h1
   simp only[wP] at h1
   have d1:=hyq.t.dec.1;have d2:=hyq.t.dec.2;have d3:=hyq.t.pl
   have ht:Le 21 (qP p):=Af hyq.t 6 (by omega)
   have hk3:Le 3 1000:=by unfold Le;decide
   have et:p.2.2.1.1*10 ^ ((9:Int) - p.2.2.1.2).toNat=qP p*1000:=by
    unfold qP
    rw[agY,show (1000:Int)=10 ^ 3 from rfl, ← ag6,show (6 - p.2.2.1.2).toNat+3=(9 - p.2.2.1.2).toNat by omega]
   have l5:=((HH (by omega) h2).mul hk3).n (by omega)
   have l6:=(ht.mul hk3).n (by omega)
   rw[ax (by rw[jP];omega),aV,hy',ajq,aV,hk,ajq]
   unfold pN
   rw[U6 _ _ hyq.t.dec (by omega) (by omega),ajq,ajq,et]
   dsimp only
   rw[show ((N (z*1000)).1,(N (z*1000)).2)=N (z*1000) from rfl,xg _ _ (by omega) (by omega),ajq,ajq, ← Int.add_mul]
   dsimp only
   have hkk:=(ht.mono (show 21≤36 by omega)).k37
   have hb:(z+qP p).natAbs≤(101*i+1)*K37:=by
    have:(101*i+1)*K37=101*i*K37+K37:=ajm ..
    omega
   have hin:=ZP m hml hm l (cI L) ((cI L).length:Int) (i:Int) p.2.2.2 hyq.c hyq.n false [] (z+qP p) (101*i+1) (by omega) hb (List.length l+(List.length m+(List.length (cI L)+(Int.natAbs ((cI L).length:Int)+(Int.natAbs (i:Int)+(p.2.2.2.length+(Int.natAbs ((p.2.2.2.length:Int))+(Int.natAbs (0:Int)+(List.length ([]:List Int)+(List.length (N ((z+qP p)*1000)).2+2)))))))))) (by omega)
   rcases hin with ⟨z',k1,k2,k3⟩ | ⟨k1,q,k3⟩
   ·rw[k1] at h1
    rw[k3,aB]
    dsimp only
    rw[aq (by omega) (by omega)]
    refine ih _ ⟨z',rfl,h1, ?_⟩
    have:=hyq.n
    exact ai1 k2 (aje _ (by omega))
   ·rw[k1] at h1
    rw[k3,bO]
    exact .inr ⟨h1.symm,q,rfl⟩
  ·rintro _ again ⟨z,rfl,h1,h2⟩
   unfold vU
   dsimp only
   rw[av (by rw[jP];omega)]
   rw[show L.length=ps.length from hpl.symm,aht] at h1
   exact .inl ⟨z,h1.symm,HH (by omega) h2,rfl⟩
 rcases loop (List.length l+(List.length m+(List.length (cI L)+(Int.natAbs ((List.length (cI L):Int))+(Int.natAbs (0:Int)+(List.length ([]:List Int)+(List.length ([]:List Int)+2))))))) (by rw[jP];omega) with ⟨z,h1,h2,h3⟩ | ⟨h1,q,h3⟩
 ·exact .inl ⟨z,h1,h2,by rw[h3,aB]⟩
 ·exact .inr ⟨h1,q,by rw[h3,bO]⟩
end Go.Md
namespace Go.Md
open Go.Dn
theorem YU {l:List aW} (h:oK l=0):l.length≤100∧∀ c∈l,QOk c.2.2.2:=by
 unfold oK at h
 split at h
 ·omega
 rename_i h1
 refine⟨by omega,fun c hc=> ?_⟩
 obtain⟨i,hi⟩:=aio.1 hc
 have:=lQ h i c hi
 unfold I6 at this
 split at this
 ·omega
 split at this
 ·omega
 split at this
 ·omega
 split at this
 ·omega
 split at this
 ·rename_i hq;exact Ym hq
 ·omega
theorem Nx {a:di} (h:qS a=0):∀ p∈a.2.2.2,Lh p:=by
 unfold qS at h
 split at h
 ·omega
 split at h
 ·omega
 split at h
 ·omega
 split at h
 ·omega
 split at h
 ·omega
 have h3:cD (qE a.2.2.2) 0 a.2.2.2=0:=by omega
 intro p hp
 obtain⟨i,hi⟩:=aio.1 hp
 have:=lQ h3 i p hi
 unfold qE at this
 split at this
 ·omega
 split at this
 ·omega
 split at this
 ·omega
 rename_i hq
 have hc:=YU this
 exact⟨Ym (z:=true) (by simpa using hq),hc.1,hc.2⟩
end Go.Md
set_option linter.all false
namespace Go.Md.SI
open Go.Dn Go.Md
section
variable {k:Int→Int} {ar:List xU} {ok:Int→Prop}
end
end Go.Md.SI
set_option linter.all false
namespace Go.Md.SP
open Go.Dn Go.Md
structure bE (k:Int→Int) (l l':List Int):Prop where
 perm:l.Perm l'
section
variable {k:Int→Int} {ar:List xU} {ok:Int→Prop}
theorem bE.refl (k:Int→Int) (l:List Int):bE k l l:=⟨List.Perm.refl _⟩
theorem bE.trans {a b c:List Int} (h:bE k a b) (g:bE k b c):bE k a c:=⟨h.perm.trans g.perm⟩
theorem bE.append {a b c d:List Int} (h:bE k a b) (g:bE k c d):bE k (a++c) (b++d):=⟨h.perm.append g.perm⟩
theorem bE.mem {a b:List Int} (h:bE k a b) {x:Int}:x∈b↔x∈a:=h.perm.mem_iff.symm
theorem bE.length {a b:List Int} (h:bE k a b):b.length=a.length:=h.perm.length_eq.symm
theorem bE.swap {u v:List Int}:bE k (u++v) (v++u):=⟨List.perm_append_comm⟩
def Srt (_:Int→Int) (_:List Int):Prop:=True
theorem Srt.left {a b:List Int} (_:Srt k (a++b)):Srt k a:=trivial
theorem Srt.right {a b:List Int} (_:Srt k (a++b)):Srt k b:=trivial
def ChS (_:Int→Int) (_:Nat) (_:List Int):Prop:=True
theorem ChS.nil (k:Int→Int) (n:Nat):ChS k n []:=trivial
theorem PL {P2 P3:List Int} {x:Int}:Srt k (P2++x::P3)∧bE k (P2++P3++[x]) (P2++x::P3):=by
 refine⟨trivial, ?_⟩
 rw[ahk]
 exact (bE.refl k P2).append (by simpa using bE.swap (k:=k) (u:=P3) (v:=[x]))
end
end Go.Md.SP
namespace Go.Md
open Go.Dn
def v9 (d:ak):Int:=d.1*10 ^ ((9:Int) - d.2).toNat
theorem Qj {d:ak} (h:cq d):vk d=some (W (v9 d),()):=by
 unfold vk
 have h1:=h.1;have h2:=h.2
 rw[nu d 9 (by omega) (by omega) (by omega) (by omega) (by omega),ajq]
 rfl
theorem Ww {d:ak} (h:cq d):Le 24 (v9 d):=(Le.dec h).mul ((Le.pow (9 - d.2).toNat).mono (show (9 - d.2).toNat≤9 by have:=h.2;omega))
def opn (y:xU):ak:=y.2.2.2.2.2.2.2.2.2
end Go.Md
namespace Go.Md
open Go.Dn
end Go.Md
namespace Go.Md
open Go.Dn
def Low (os os':List Int):Prop:=os'.length=os.length∧∀ (i:Nat) (x y:Int),os[i]? =some x→os'[i]? =some y→0≤y∧y≤x
theorem Low.trans {a b c:List Int} (h:Low a b) (g:Low b c):Low a c:=by
 refine⟨g.1.trans h.1,fun i x y hx hy=> ?_⟩
 have hi:i<b.length:=by have:=(ahQ.1 hx).1;have:=h.1;omega
 have hb:b[i]? =some b[i]:=aM hi
 have h1:=h.2 i x _ hx hb
 have h2:=g.2 i _ y hb hy
 omega
theorem Low.refl {a:List Int} (h:∀ x∈a,0≤x):Low a a:=by
 refine⟨rfl,fun i x y hx hy=> ?_⟩
 rw[hx] at hy;cases hy
 exact⟨h _ (air hx),agV _⟩
theorem Low.set {a:List Int} (h:∀ x∈a,0≤x) {k:Nat} {x z:Int} (hk:a[k]? =some x) (hz:0≤z) (hz':z≤x):Low a (a.set k z):=by
 refine⟨by simp,fun i u v hu hv=> ?_⟩
 by_cases e:k=i
 ·subst e
  rw[hk] at hu;cases hu
  rw[ahV (ahQ.1 hk).1] at hv
  cases hv;exact⟨hz,hz'⟩
 ·rw[ahU e,hu] at hv
  cases hv;exact⟨h _ (air hu),agV _⟩
theorem Low.le {k:Nat} {a b:List Int} (h:Low a b) (ha:∀ x∈a,Le k x):∀ x∈b,Le k x:=by
 intro x hx
 obtain⟨i,hi⟩:=aio.1 hx
 have hlt:i<a.length:=by have:=(ahQ.1 hi).1;have:=h.1;omega
 have h1:=h.2 i _ x (aM hlt) hi
 have h2:=ha _ (ahZ hlt)
 unfold Le at*
 omega
end Go.Md
namespace Go.Md
open Go.Dn
end Go.Md
namespace Go.Md
open Go.Dn
def aef:List aR→Int
 | []=>0
 | x::r=>v9 x.2.2+aef r
end Go.Md
namespace Go.Md
open Go.Dn
end Go.Md
namespace Go.Md
open Go.Dn
def afI:List IY→Int
 | []=>0
 | x::r=>v9 x.2.1+afI r
def afh (lines:List xU) (x:IY):Prop:=cq x.2.1∧∃ s∈lines,s.1=x.1∧v9 x.2.1≤v9 (opn s)
end Go.Md
namespace Go.Md
open Go.Dn
structure agf (items:List aR) (lines:List xU) (out:List IY) (left:List aR):Prop where
 ilen:items.length≤100
 iok:∀ y∈items,cq y.2.2
 llen:lines.length≤500
 lok:∀ y∈lines,cq (opn y)
 olen:out.length≤500
 ook:∀ x∈out,afh lines x
 rlen:left.length≤100
 rok:∀ y∈left,cq y.2.2
 sum:aef items=aef left+afI out
theorem MO {d:ak} (h:cq d):pN d=some (N (v9 d),()):=by
 unfold pN
 rw[U6 d 9 h h.2.2 (by omega)]
 rfl
end Go.Md
