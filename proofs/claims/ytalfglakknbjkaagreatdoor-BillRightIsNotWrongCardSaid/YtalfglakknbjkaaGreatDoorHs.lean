/-
  Plain facts: what is wrong with an invoice; gross and net. No condition.
-/
import Derived.Test.YtalfglakknbjkaaGreatDoorHr
set_option linter.all false
namespace Go.Md
open Go.Dn
theorem m8:∀ a:List UInt8,Op.bytesLess a a=false
 | []=>rfl
 | x::a=>by simp [Op.bytesLess,m8 a]
theorem IZ:∀ {a b:List UInt8},Lib.compareBytes a b=0↔a=b
 | [],[]=>by simp [Lib.compareBytes]
 | [],_::_=>by simp [Lib.compareBytes]
 | _::_,[]=>by simp [Lib.compareBytes]
 | x::a,y::b=>by
  simp only [Lib.compareBytes,List.cons.injEq]
  by_cases h1:x<y
  ·simp only [h1,Ye]
   constructor
   ·intro h;omega
   ·rintro ⟨rfl,_⟩;exact absurd h1 (UInt8.lt_irrefl x)
  ·by_cases h2:y<x
   ·simp only [h1,h2,Ye,Yd]
    constructor
    ·intro h;omega
    ·rintro ⟨rfl,_⟩;exact absurd h2 (UInt8.lt_irrefl x)
   ·have:x=y:=UInt8.le_antisymm (X4.1 h2) (X4.1 h1)
    subst this
    simp only [h1,Yd,true_and]
    exact IZ
theorem HC:∀ {a b:List UInt8},Lib.compareBytes a b<0↔Op.bytesLess a b=true
 | [],[]=>by simp [Lib.compareBytes,Op.bytesLess]
 | [],_::_=>by simp [Lib.compareBytes,Op.bytesLess]
 | _::_,[]=>by simp [Lib.compareBytes,Op.bytesLess]
 | x::a,y::b=>by
  have ih:= @HC a b
  simp only [Lib.compareBytes,Op.bytesLess]
  by_cases h1:x<y
  ·simp [h1]
  ·by_cases h2:y<x
   ·have hne:¬ x=y:=fun e=>by subst e;exact absurd h2 (UInt8.lt_irrefl x)
    simp [h1,h2,hne]
   ·have:x=y:=UInt8.le_antisymm (X4.1 h2) (X4.1 h1)
    subst this
    simp [h1,ih]
theorem w9:∀ {a b c:List UInt8},Op.bytesLess a b=true→Op.bytesLess b c=true→Op.bytesLess a c=true
 | [],[],_,h,_=>by simp [Op.bytesLess] at h
 | [],_::_,[],_,h=>by simp [Op.bytesLess] at h
 | [],_::_,_::_,_,_=>rfl
 | _::_,[],_,h,_=>by simp [Op.bytesLess] at h
 | _::_,_::_,[],_,h=>by simp [Op.bytesLess] at h
 | x::a,y::b,z::c,h,k=>by
  simp only [Op.bytesLess,Wc,VZ,decide_eq_true_eq,beq_iff_eq] at h k ⊢
  rcases h with h | ⟨rfl,h⟩
  ·rcases k with k | ⟨rfl,k⟩
   ·exact .inl (UInt8.lt_trans h k)
   ·exact .inl h
  ·rcases k with k | ⟨rfl,k⟩
   ·exact .inl k
   ·exact .inr ⟨rfl,w9 h k⟩
theorem Rm {a b:List UInt8} (h:Op.bytesLess a b=true):Op.bytesLess b a=false:=by
 cases hb:Op.bytesLess b a with
 | false=>rfl
 | true=>have:=w9 h hb;rw [m8] at this;cases this
theorem TI (a b:List UInt8):Op.bytesLess a b=true∨a=b∨Op.bytesLess b a=true:=by
 induction a generalizing b with
 | nil=>cases b with
  | nil=>simp
  | cons y b=>simp [Op.bytesLess]
 | cons x a ih=>cases b with
  | nil=>simp [Op.bytesLess]
  | cons y b=>
   simp only [Op.bytesLess,Wc,VZ,decide_eq_true_eq,beq_iff_eq,List.cons.injEq]
   by_cases h1:x<y
   ·simp [h1]
   ·by_cases h2:y<x
    ·simp [h2]
    ·have:x=y:=UInt8.le_antisymm (X4.1 h2) (X4.1 h1)
     subst this
     rcases ih b with h | h | h<;>simp [h]
def Asc {α:Type} (key:α→List UInt8) (l:List α):Prop:=∀ (i j:Nat) (x y:α),i<j→l[i]? =some x→l[j]? =some y→Op.bytesLess (key x) (key y)=true
def jd {α:Type} (key:α→List UInt8) (t:List UInt8) (l:List α):Option Nat:=l.findIdx? (fun r=>key r==t)
theorem qd {α:Type} {key:α→List UInt8} {t:List UInt8} {l:List α} {k:Nat} (h:jd key t l=some k):∃ x,l[k]? =some x∧key x=t:=by
 unfold jd at h
 rw [List.findIdx?_eq_some_iff_getElem] at h
 obtain ⟨h1,h2,_⟩:=h
 exact ⟨_,List.getElem?_eq_getElem h1,by simpa using h2⟩
theorem TN {α:Type} {key:α→List UInt8} {t:List UInt8} {l:List α} (h:jd key t l=none):∀ x∈l,key x≠t:=by
 unfold jd at h
 rw [List.findIdx?_eq_none_iff] at h
 intro x hx e
 have:=h x hx
 simp [e] at this
theorem UM {α:Type} {key:α→List UInt8} {t:List UInt8} {l:List α} (hs:Asc key l) {k:Nat} {x:α} (hk:l[k]? =some x) (hx:key x=t):jd key t l=some k:=by
 cases h:jd key t l with
 | none=>exact absurd hx (TN h x (List.mem_of_getElem? hk))
 | some j=>
  obtain ⟨y,h1,h2⟩:=qd h
  rcases XK j k with hlt | rfl | hlt
  ·have:=hs j k y x hlt h1 hk
   rw [h2,hx,m8] at this;cases this
  ·rfl
  ·have:=hs k j x y hlt hk h1
   rw [h2,hx,m8] at this;cases this
theorem Qd (l:List aD) (t:List UInt8) (hl:l.length<1000000000) (hs:Asc (·.1) l):
 ∃ i:Nat,dM l t ()=some ((i:Int),(jd (·.1) t l).isSome,())∧∀ k,jd (·.1) t l=some k→i=k:=by
 unfold dM
 have loop:∀ f,l.length<f→∃ i:Nat,iter f ((l,t,(),(l.length:Int),(0:Int),(l.length:Int),()):cl) gd=some (Sum.inr (l,t,(),(l.length:Int),(i:Int),()))∧i≤l.length∧(∀ k x,l[k]? =some x→k<i→Op.bytesLess x.1 t=true)∧∀ k x,l[k]? =some x→i≤k→Op.bytesLess x.1 t=false:=by
  intro f hf
  refine I9 (Inv:=fun X=>∃ i j:Nat,X=((l,t,(),(l.length:Int),(i:Int),(j:Int),()):cl)∧i≤j∧j≤l.length∧(∀ k x,l[k]? =some x→k<i→Op.bytesLess x.1 t=true)∧∀ k x,l[k]? =some x→j≤k→Op.bytesLess x.1 t=false)
   (fun X=>(X.2.2.2.2.2.1 - X.2.2.2.2.1).toNat)
   (fun _ r=>∃ i:Nat,r=some (Sum.inr (l,t,(),(l.length:Int),(i:Int),()))∧i≤l.length∧(∀ k x,l[k]? =some x→k<i→Op.bytesLess x.1 t=true)∧∀ k x,l[k]? =some x→i≤k→Op.bytesLess x.1 t=false) ?_ f _ ⟨0,l.length,rfl,by omega,by omega,fun _ _ _ h=>absurd h (XQ _),fun k x hk hle=>by have:=(List.getElem?_eq_some_iff.1 hk).1;omega⟩ (by dsimp only;omega)
  rintro _ again ⟨i,j,rfl,hij,hj,h1,h2⟩ ih
  dsimp only at ih
  unfold gd
  dsimp only
  by_cases hlt:i<j
  ·rw [aM (by omega)]
   have em:w64 (Int.fdiv (bP (w64 ((i:Int)+(j:Int)))) (2 ^ 1))=(((i+j) / 2:Nat):Int):=by
    rw [aJ (n:=(i:Int)+(j:Int)) (by omega) (by omega),dK (by omega) (by omega),Wg _ (by omega),aJ (by omega) (by omega)]
    omega
   rw [em]
   have hm:(i+j) / 2<l.length:=by omega
   have hy:l[(i+j) / 2]? =some l[(i+j) / 2]:=aR hm
   have hmi:i≤(i+j) / 2∧(i+j) / 2<j:=by omega
   generalize (i+j) / 2=m at*
   generalize l[m]=y at hy
   rw [bM,hy,Option.bind_some]
   show ∃ i,Option.bind (Option.bind (some (Lib.compareBytes y.1 t,())) fun r1=>some (r1.1,())) _=_∧_
   rw [Option.bind_some,Option.bind_some]
   dsimp only
   by_cases hc:Lib.compareBytes y.1 t<0
   ·rw [aM hc,aJ (by omega) (by omega)]
    refine ih _ ⟨m+1,j,rfl,by omega,hj,fun k x hk hkm=> ?_,h2⟩ (by dsimp only;omega)
    rcases Nat.lt_succ_iff_lt_or_eq.1 hkm with h | h
    ·have:=hs k m x y h hk hy
     exact w9 this (HC.1 hc)
    ·subst h;rw [hy] at hk;cases hk;exact HC.1 hc
   ·rw [aN hc]
    refine ih _ ⟨i,m,rfl,by omega,by omega,h1,fun k x hk hkm=> ?_⟩ (by dsimp only;omega)
    have hc':Op.bytesLess y.1 t=false:=by
     cases h:Op.bytesLess y.1 t with
     | false=>rfl
     | true=>exact absurd (HC.2 h) hc
    rcases Nat.lt_or_eq_of_le hkm with h | h
    ·cases hx:Op.bytesLess x.1 t with
     | false=>rfl
     | true=>rw [w9 (hs m k y x h hy hk) hx] at hc';cases hc'
    ·subst h;rw [hy] at hk;cases hk;exact hc'
  ·rw [aN (by omega)]
   have:i=j:=by omega
   subst this
   exact ⟨i,rfl,hj,h1,h2⟩
 obtain ⟨i,h1,h2,h3,h4⟩:=loop (List.length l+(List.length t+(Int.natAbs ((List.length l:Int))+(Int.natAbs (0:Int)+(Int.natAbs ((List.length l:Int))+2))))) (by omega)
 refine ⟨i, ?_,fun k hk=> ?_⟩
 ·rw [h1,aL]
  dsimp only
  by_cases hi:i<l.length
  ·have hy:l[i]? =some l[i]:=aR hi
   generalize l[i]=y at hy
   rw [aM (by omega),bM,hy,Option.bind_some]
   show Option.bind (Option.bind (some (Lib.compareBytes y.1 t,())) fun r1=>some (r1.1,())) _=_
   rw [Option.bind_some,Option.bind_some]
   congr 3
   by_cases he:y.1=t
   ·rw [UM hs hy he,IZ.2 he];rfl
   ·have hne:¬ Lib.compareBytes y.1 t=0:=fun h=>he (IZ.1 h)
    rw [show (Lib.compareBytes y.1 t==0)=false by simpa using hne]
    cases hx:jd (·.1) t l with
    | none=>rfl
    | some k=>
     exfalso
     obtain ⟨x,k1,k2⟩:=qd hx
     rcases XK k i with h | h | h
     ·have:=h3 k x k1 h;rw [k2,m8] at this;cases this
     ·subst h;rw [hy] at k1;cases k1;exact he k2
     ·have:=hs i k y x h hy k1
      dsimp only at this
      rw [k2,h4 i y hy (XE _)] at this;cases this
  ·rw [aN (by omega)]
   congr 3
   cases hx:jd (·.1) t l with
   | none=>rfl
   | some k=>
    exfalso
    obtain ⟨x,k1,k2⟩:=qd hx
    have:=h3 k x k1 (by have:=(List.getElem?_eq_some_iff.1 k1).1;omega)
    rw [k2,m8] at this;cases this
 ·obtain ⟨x,k1,k2⟩:=qd hk
  rcases XK k i with h | h | h
  ·have:=h3 k x k1 h;rw [k2,m8] at this;cases this
  ·exact h.symm
  ·have hy:l[i]? =some (l[i]'(by have:=(List.getElem?_eq_some_iff.1 k1).1;omega)):=aR _
   have:=hs i k _ x h hy k1
   dsimp only at this
   rw [k2,h4 i _ hy (XE _)] at this;cases this
theorem AW (l:List aD) (t:List UInt8) (hl:l.length<1000000000) (hs:Asc (·.1) l):
 ∃ i:Nat,qk l t=some ((i:Int),(jd (·.1) t l).isSome,())∧∀ k,jd (·.1) t l=some k→i=k:=by
 obtain ⟨i,h1,h2⟩:=Qd l t hl hs
 exact ⟨i,by unfold qk;rw [h1,Option.bind_some],h2⟩
theorem EF (v:ai) (t:List UInt8) (hl:v.2.2.2.2.2.2.1.length<1000000000) (hs:Asc (·.1) v.2.2.2.2.2.2.1):jO v t=some ((jd (·.1) t v.2.2.2.2.2.2.1).isSome,()):=by
 obtain ⟨i,h1,h2⟩:=AW v.2.2.2.2.2.2.1 t hl hs
 unfold jO
 rw [h1,Option.bind_some]
end Go.Md
namespace Go.Md
open Go.Dn
instance (d:ak):Decidable (bA d):=by unfold bA;exact inferInstance
def inR (d:ak) (lo hi pl:Int):Bool:=decide (bA d∧d.2≤pl∧lo*10 ^ d.2.toNat≤d.1∧d.1≤hi*10 ^ d.2.toNat)
theorem gD (d:ak):bU d=some (if bA d then 0 else 1,()):=by
 rw [Fs]
 congr 2
 by_cases h:bA d
 ·rw [if_pos h,if_pos (by unfold bA at h;omega)]
 ·rw [if_neg h,if_neg (by unfold bA at h;omega)]
theorem su {d:ak} (h:bA d) (most:Int) (hm0:0≤most) (hm1:most≤1000000000):fD d most=some (inR d (-most) most 9,()):=by
 rw [MD d most h.2.1 h.2.2 hm0 hm1]
 unfold inR
 congr 2
 rw [X7,Int.neg_mul]
 constructor
 ·rintro ⟨h1,h2⟩;exact ⟨h,h.2.2,h1,h2⟩
 ·rintro ⟨_,_,h1,h2⟩;exact ⟨h1,h2⟩
def SL (pl:Int) (rates:List aD) (line:Bool) (x:ay):Int:=
 if bA x.2.1 then
  (if x.2.1.1=0 then 13
  else if (if x.1=true then inR x.2.1 (-100) 100 9 else inR x.2.1 (-1000000000) 1000000000 pl)=true then
   (if x.2.2=[] then 0 else if line=true then 3 else if (jd (·.1) x.2.2 rates).isSome=true then 0 else 5)
  else 1)
 else 1
def r0 (pl:Int) (rates:List aD) (line:Bool) (l:List ay):Int:=if 20<l.length then 2 else mG (fun _ x=>SL pl rates line x) 0 l
theorem SC {γ:Type} (s:Int) (u:γ):aP (β:=Int×Unit) (γ:=γ) (if s=0 then some (Sum.inr u) else some (Sum.inl (s,()))) (fun _=>some (0,()))=some (s,()):=by
 by_cases h:s=0
 ·rw [if_pos h,aL,h]
 ·rw [if_neg h,mR]
theorem TF {d:ak} {lo hi pl:Int} (h:bA d):inR d lo hi pl=(inR d lo hi 9&&decide (d.2≤pl)):=by
 unfold inR
 rw [← Bool.decide_and,X7]
 constructor
 ·rintro ⟨h1,h2,h3⟩;exact ⟨⟨h1,h.2.2,h3⟩,h2⟩
 ·rintro ⟨⟨h1,_,h3⟩,h2⟩;exact ⟨h1,h2,h3⟩
theorem HL {X α:Type} {γ:Type} {f:X→(X→Option ((Int×Unit) ⊕ γ))→Option ((Int×Unit) ⊕ γ)} {x0:X} (mk:Nat→X) (l:List α) (g:Nat→α→Int) (u:γ) (h0:x0=mk 0)
 (hstep:∀ i y again,l[i]? =some y→f (mk i) again=if g i y=0 then again (mk (i+1)) else some (Sum.inl (g i y,()))) (hend:∀ again,f (mk l.length) again=some (Sum.inr u)) (n:Nat) (hn:l.length<n):
 iter n x0 f=if mG g 0 l=0 then some (Sum.inr u) else some (Sum.inl (mG g 0 l,())):=by
 rw [h0];exact Ji mk l g u hstep hend l 0 n rfl (XW _) hn
theorem An (v:ai) (l:List ay) (line:Bool) (hl:v.2.2.2.2.2.2.1.length<1000000000) (hs:Asc (·.1) v.2.2.2.2.2.2.1):jW v l line=some (r0 v.2.2.2.1 v.2.2.2.2.2.2.1 line l,()):=by
 unfold jW r0
 by_cases hb:20<l.length
 ·rw [aM (by omega),if_pos hb]
 ·rw [aN (by omega),if_neg hb]
  obtain ⟨a,b,c,d,e,f,g,h,k⟩:=v
  dsimp only at*
  have hR:∀ t,jO (a,b,c,d,e,f,g,h,k) t=some ((jd (·.1) t g).isSome,()):=fun t=>EF _ t hl hs
  rw [HL (f:=oX) (fun i=>((line,l,(l.length:Int),(i:Int),a,b,c,d,e,f,g,h,k,()):oV)) l (fun _ x=>SL d g line x) () ?_ ?_ ?_ _ ?_]
  ·exact SC _ _
  ·rfl
  ·intro i y again hy
   have hi:=(List.getElem?_eq_some_iff.1 hy).1
   unfold oX
   dsimp only
   rw [aM (by omega),bM,hy,Option.bind_some,gD,Option.bind_some]
   have hw:w64 ((i:Int)+1)=(i:Int)+1:=aJ (by omega) (by omega)
   unfold SL
   by_cases hd:bA y.2.1
   ·rw [if_pos hd,show ((0:Int) != 0)=false from rfl,cond_false,if_pos hd]
    by_cases h0:y.2.1.1=0
    ·rw [show (y.2.1.1==0)=true by simpa using h0,cond_true,if_pos h0];rfl
    ·rw [show (y.2.1.1==0)=false by simpa using h0,cond_false,if_neg h0]
     rw [su hd 100 (by omega) (by omega),su hd 1000000000 (by omega) (by omega),TF (pl:=d) hd]
     have hgt:decide (y.2.1.2>d)= !decide (y.2.1.2≤d):=by
      by_cases hq:y.2.1.2≤d
      ·simp [hq]
      ·simp [hq];omega
     have hnil:∀ (s:List UInt8),(s==[])=decide (s=[]):=fun s=>by cases s<;>rfl
     simp only [hR,Option.bind_some,hgt,hnil]
     generalize inR y.2.1 (-100) 100 9=b1
     generalize inR y.2.1 (-1000000000) 1000000000 9=b2
     generalize decide (y.2.1.2≤d)=b3
     generalize y.1=p
     by_cases hn:y.2.2=[]
     ·cases p<;>cases b1<;>cases b2<;>cases b3<;>cases line<;>simp [aP,hw,hnil,hn,hR]
     ·cases h4:(jd (fun x:aD=>x.1) y.2.2 g).isSome<;>cases p<;>cases b1<;>cases b2<;>cases b3<;>cases line<;>simp [aP,hw,hnil,hn,hR,h4]
   ·rw [if_neg hd,if_neg hd];rfl
  ·intro again
   unfold oX
   dsimp only
   rw [aN (by omega)]
  ·omega
end Go.Md
namespace Go.Md
open Go.Dn
theorem FP {α:Type} (l:List α):((l.length:Int)==0)=decide (l.length=0):=by
 cases l with
 | nil=>rfl
 | cons a r=>rw [show decide ((a::r).length=0)=false by simp,X5];simp only [WW];omega
def GG (l:List aD) (i:Nat) (y:aD):Bool:=match i with
 | 0=>false
 | i+1=>match l[i]? with
  | some p=>Op.bytesLess y.1 p.1||y.1==p.1
  | none=>false
def Kc (l:List aD) (i:Nat) (r:aD):Int:=if tO r.1=false then 5 else if GG l i r=true then 8 else if inR r.2 0 100 9=true then 0 else 1
def rL (l:List aD):Int:=if l.length=0 then 9 else if 20<l.length then 2 else mG (Kc l) 0 l
theorem QN {l:List aD} (h:∀ i y,l[i]? =some y→GG l i y=false):Asc (·.1) l:=by
 have step:∀ i x y,l[i]? =some x→l[i+1]? =some y→Op.bytesLess x.1 y.1=true:=fun i x y hx hy=>by
  have:=h (i+1) y hy
  simp only [GG,hx,Wb,X5] at this
  rcases TI x.1 y.1 with h1 | h1 | h1
  ·exact h1
  ·exact absurd h1.symm this.2
  ·rw [this.1] at h1;cases h1
 intro i j x y hij hx hy
 induction j generalizing y with
 | zero=>omega
 | succ j ih=>
  rcases Nat.lt_succ_iff_lt_or_eq.1 hij with h1 | h1
  ·have hj:j<l.length:=by have:=(List.getElem?_eq_some_iff.1 hy).1;omega
   have hz:l[j]? =some l[j]:=aR hj
   exact w9 (ih _ h1 hz) (step j _ y hz hy)
  ·subst h1;exact step i x y hx hy
theorem K0 {l:List aD} (h:rL l=0):0<l.length∧l.length≤20∧Asc (·.1) l∧∀ r∈l,inR r.2 0 100 9=true:=by
 unfold rL at h
 split at h
 ·omega
 ·split at h
  ·omega
  ·have hz:=zq h
   refine ⟨by omega,by omega,QN fun i y hy=> ?_,fun r hr=> ?_⟩
   ·have:=hz i y hy
    rw [XV] at this
    unfold Kc at this
    split at this
    ·omega
    ·split at this
     ·omega
     ·rename_i h1;simpa using h1
   ·obtain ⟨i,hi⟩:=Xe.1 hr
    have:=hz i r hi
    rw [XV] at this
    unfold Kc at this
    split at this
    ·omega
    ·split at this
     ·omega
     ·split at this
      ·assumption
      ·omega
theorem SH {d:ak} (h:bA d) (hi:Int):inR d 0 hi 9=(!decide (d.1<0)&&inR d (-hi) hi 9):=by
 have hp:=yJ d.2.toNat
 unfold inR
 rw [← decide_not, ← Bool.decide_and,X7]
 constructor
 ·rintro ⟨h1,h2,h3,h4⟩
  rw [Int.zero_mul] at h3
  refine ⟨by omega,h1,h2, ?_,h4⟩
  rw [Int.neg_mul]
  have:0≤hi*10 ^ d.2.toNat:=by omega
  omega
 ·rintro ⟨h0,h1,h2,h3,h4⟩
  exact ⟨h1,h2,by rw [Int.zero_mul];omega,h4⟩
theorem TY {l:List aD} {i:Nat} (hi:i+1<l.length+1) (hl:l.length<1000000000):idx l (w64 (((i+1:Nat):Int) - 1))=l[i]? :=by
 rw [aJ (by omega) (by omega),show ((i+1:Nat):Int) - 1=((i:Nat):Int) by omega,bM]
theorem Jy (l:List aD) (hl:l.length<1000000000):nt l=some (rL l,()):=by
 unfold nt rL
 by_cases h0:l.length=0
 ·rw [FP,X9 h0,cond_true,if_pos h0]
 ·rw [FP,X8 h0,cond_false,if_neg h0]
  by_cases hb:20<l.length
  ·rw [aM (by omega),if_pos hb]
  ·rw [aN (by omega),if_neg hb]
   rw [HL (f:=p5) (fun i=>((l,l,(l.length:Int),(i:Int),()):pY)) l (Kc l) () ?_ ?_ ?_ _ ?_]
   ·exact SC _ _
   ·rfl
   ·intro i y again hy
    have hi:=(List.getElem?_eq_some_iff.1 hy).1
    unfold p5
    dsimp only
    rw [aM (by omega),bM,hy,Option.bind_some,xP,Option.bind_some,aJ (n:=(i:Int)+1) (by omega) (by omega)]
    unfold Kc
    cases hn:tO y.1 with
    | false=>simp
    | true=>
     have tail:(Option.bind (bU y.2) fun r5=>bif r5.1 != 0 then some (Sum.inl (r5.1,())) else bif decide (y.2.1<0) then some (Sum.inl (1,())) else Option.bind (fD y.2 100) fun r6=>bif !r6.1 then some (Sum.inl (1,())) else again (l,l,(l.length:Int),(i:Int)+1,()))=if (if inR y.2 0 100 9=true then (0:Int) else 1)=0 then again (l,l,(l.length:Int),((i+1:Nat):Int),()) else some (Sum.inl (1,())):=by
      rw [gD,Option.bind_some]
      by_cases hd:bA y.2
      ·rw [SH hd 100,su hd 100 (by omega) (by omega)]
       generalize inR y.2 (-100) 100 9=b
       by_cases hneg:y.2.1<0
       ·simp [hd,hneg]
       ·cases b<;>simp [hd,hneg]
      ·have:inR y.2 0 100 9=false:=by unfold inR;simp [hd]
       simp [hd,this]
     simp only [Bool.not_true,cond_false,We,Yd]
     cases i with
     | zero=>
      rw [aN (by omega),tail]
      simp only [GG,V4,Yd]
      split<;>simp_all
     | succ i=>
      have hp:l[i]? =some (l[i]'(by omega)):=aR (by omega)
      rw [aM (by omega),TY (by omega) hl,hp,Option.bind_some]
      have ep:GG l (i+1) y=(Op.bytesLess y.1 (l[i]'(by omega)).1||y.1==(l[i]'(by omega)).1):=by simp only [GG,hp]
      rw [ep]
      cases (Op.bytesLess y.1 (l[i]'(by omega)).1||y.1==(l[i]'(by omega)).1) with
      | true=>simp
      | false=>
       simp only [cond_false]
       rw [tail]
       simp only [V4,Yd]
       split<;>simp_all
   ·intro again
    unfold p5
    dsimp only
    rw [aN (by omega)]
   ·omega
def Pq (l:List av) (i:Nat) (y:av):Bool:=match i with
 | 0=>false
 | i+1=>match l[i]? with
  | some p=>decide (y.1≤p.1)
  | none=>false
def EG (pl:Int) (rates:List aD) (lines:List av) (i:Nat) (x:av):Int:=
 if x.1<1∨99999<x.1 then 1
 else if Pq lines i x=true then 8
 else if x.2.1<1∨99999<x.2.1 then 1
 else if tO x.2.2.1=false then 5
 else if inR x.2.2.2.1 (-1000000000) 1000000000 3=false then 1
 else if x.2.2.2.1.1=0 then 13
 else if tO x.2.2.2.2.1=false then 5
 else if inR x.2.2.2.2.2.1 0 1000000000 4=false then 1
 else if x.2.2.2.2.2.2.1<1∨100000<x.2.2.2.2.2.2.1 then 1
 else if r0 pl rates true x.2.2.2.2.2.2.2.1≠0 then r0 pl rates true x.2.2.2.2.2.2.2.1
 else if (jd (·.1) x.2.2.2.2.2.2.2.2 rates).isSome=true then 0 else 5
theorem Nc (n:Int) (h0:0≤n) (h1:n≤18):Fx n=some (10 ^ n.toNat,()):=Ig n h0 h1
theorem IA (d:ak):oN d=some (if inR d 0 1000000000 4=true then 0 else 1,()):=by
 unfold oN DL
 rw [gD,Option.bind_some]
 by_cases hd:bA d
 ·have hp:=yJ d.2.toNat
  have hp2:(10:Int) ^ d.2.toNat≤1000000000:=by
   have:=XT (n:=10) (by omega) (show d.2.toNat≤9 by have:=hd.2.2;omega)
   have h2:=Int.ofNat_le.2 this
   simpa using h2
  rw [Nc d.2 hd.2.1 (by have:=hd.2.2;omega)]
  dsimp only
  rw [if_pos hd,show ((0:Int) != 0)=false from rfl,cond_false]
  have e:inR d 0 1000000000 4=(decide (d.2≤4)&&(decide (d.1≥0)&&decide (d.1≤1000000000*10 ^ d.2.toNat))):=by
   unfold inR
   rw [← Bool.decide_and, ← Bool.decide_and,X7,Int.zero_mul]
   constructor
   ·rintro ⟨_,h2,h3,h4⟩;exact ⟨h2,h3,h4⟩
   ·rintro ⟨h2,h3,h4⟩;exact ⟨hd,h2,h3,h4⟩
  rw [e,Option.bind_some,aJ (n:=1000000000*10 ^ d.2.toNat) (by omega) (by omega)]
  cases decide (d.2≤4)<;>cases decide (d.1≥0)<;>cases decide (d.1≤1000000000*10 ^ d.2.toNat)<;>rfl
 ·have:inR d 0 1000000000 4=false:=by unfold inR;simp [hd]
  simp [hd,this]
end Go.Md
namespace Go.Md
open Go.Dn
theorem Se {l:List av} {i:Nat} (hi:i<l.length) (hl:l.length<1000000000):idx l (w64 (((i+1:Nat):Int) - 1))=l[i]? :=by
 rw [aJ (by omega) (by omega),show ((i+1:Nat):Int) - 1=((i:Nat):Int) by omega,bM]
theorem VC (d:ak):(if bA d then (decide (d.2>3)|| !inR d (-1000000000) 1000000000 9) else true)= !inR d (-1000000000) 1000000000 3:=by
 by_cases h:bA d
 ·rw [if_pos h,TF (pl:=3) h]
  by_cases h3:d.2≤3
  ·have:¬ d.2>3:=by omega
   simp [h3,this]
  ·have:d.2>3:=by omega
   simp [h3,this]
 ·have:inR d (-1000000000) 1000000000 3=false:=by unfold inR;simp [h]
  simp [h,this]
theorem KS (v:ai) (i:Nat) (y:av) (hl:v.2.2.2.2.2.2.1.length<1000000000) (hs:Asc (·.1) v.2.2.2.2.2.2.1) (hll:v.2.2.2.2.2.2.2.1.length<1000000000) (hy:v.2.2.2.2.2.2.2.1[i]? =some y):
 rE v (i:Int)=some (EG v.2.2.2.1 v.2.2.2.2.2.2.1 v.2.2.2.2.2.2.2.1 i y,()):=by
 unfold rE EG
 have hR:=fun t=>EF v t hl hs
 have hE:=fun l=>An v l true hl hs
 generalize v.2.2.2.2.2.2.1=rates at*
 generalize v.2.2.2.2.2.2.2.1=lines at*
 generalize v.2.2.2.1=pl at*
 have hi:=(List.getElem?_eq_some_iff.1 hy).1
 rw [bM,hy,Option.bind_some]
 simp only [mh,xP,IA,hR,hE,Option.bind_some,gD]
 by_cases c1:y.1<1∨99999<y.1
 ·simp only [c1,Ya,cond_true,Ye]
 rw [X8 c1,cond_false,if_neg c1]
 have tail:(bif decide (y.2.1<1∨99999<y.2.1) then some ((1:Int),()) else bif !tO y.2.2.1 then some (5,()) else bif (if bA y.2.2.2.1 then (0:Int) else 1) != 0 then some (if bA y.2.2.2.1 then (0:Int) else 1,()) else bif decide (y.2.2.2.1.2>3) then some (1,()) else
  Option.bind (fD y.2.2.2.1 1000000000) fun r7=>bif !r7.1 then some (1,()) else bif y.2.2.2.1.1==0 then some (13,()) else bif !tO y.2.2.2.2.1 then some (5,()) else bif (if inR y.2.2.2.2.2.1 0 1000000000 4=true then (0:Int) else 1) != 0 then some (if inR y.2.2.2.2.2.1 0 1000000000 4=true then (0:Int) else 1,()) else
  bif decide (y.2.2.2.2.2.2.1<1∨100000<y.2.2.2.2.2.2.1) then some (1,()) else bif r0 pl rates true y.2.2.2.2.2.2.2.1 != 0 then some (r0 pl rates true y.2.2.2.2.2.2.2.1,()) else bif !(jd (fun x:aD=>x.1) y.2.2.2.2.2.2.2.2 rates).isSome then some (5,()) else some (0,()))=
  some (if y.2.1<1∨99999<y.2.1 then 1 else if tO y.2.2.1=false then 5 else if inR y.2.2.2.1 (-1000000000) 1000000000 3=false then 1 else if y.2.2.2.1.1=0 then 13 else if tO y.2.2.2.2.1=false then 5 else if inR y.2.2.2.2.2.1 0 1000000000 4=false then 1
   else if y.2.2.2.2.2.2.1<1∨100000<y.2.2.2.2.2.2.1 then 1 else if r0 pl rates true y.2.2.2.2.2.2.2.1≠0 then r0 pl rates true y.2.2.2.2.2.2.2.1 else if (jd (fun x:aD=>x.1) y.2.2.2.2.2.2.2.2 rates).isSome=true then 0 else 5,()):=by
  by_cases c2:y.2.1<1∨99999<y.2.1
  ·simp only [c2,Ya,cond_true,Ye]
  rw [X8 c2,cond_false,if_neg c2]
  cases tO y.2.2.1 with
  | false=>rfl
  | true=>
  simp only [Bool.not_true,cond_false,We,Yd]
  have hq:=VC y.2.2.2.1
  by_cases hd:bA y.2.2.2.1
  ·rw [if_pos hd] at hq
   rw [su hd 1000000000 (by omega) (by omega)]
   rw [if_pos hd,show ((0:Int) != 0)=false from rfl,cond_false,Option.bind_some]
   dsimp only
   have hq':inR y.2.2.2.1 (-1000000000) 1000000000 3= !(decide (y.2.2.2.1.2>3)|| !inR y.2.2.2.1 (-1000000000) 1000000000 9):=by rw [hq,Bool.not_not]
   rw [hq']
   cases decide (y.2.2.2.1.2>3) with
   | true=>rfl
   | false=>
    cases inR y.2.2.2.1 (-1000000000) 1000000000 9 with
    | false=>rfl
    | true=>
     simp only [Bool.not_true,Bool.or_false,Wa,cond_false,We,Yd]
     by_cases c3:y.2.2.2.1.1=0
     ·rw [show (y.2.2.2.1.1==0)=true by simpa using c3,cond_true,if_pos c3]
     ·rw [show (y.2.2.2.1.1==0)=false by simpa using c3,cond_false,if_neg c3]
      cases tO y.2.2.2.2.1 with
      | false=>rfl
      | true=>
       cases inR y.2.2.2.2.2.1 0 1000000000 4 with
       | false=>rfl
       | true=>
        simp only [Bool.not_true,cond_false,We,Yd,Ye]
        rw [show ((0:Int) != 0)=false from rfl,cond_false]
        by_cases c4:y.2.2.2.2.2.2.1<1∨100000<y.2.2.2.2.2.2.1
        ·simp only [c4,Ya,cond_true,Ye]
        ·rw [X8 c4,cond_false,if_neg c4]
         by_cases c5:r0 pl rates true y.2.2.2.2.2.2.2.1=0
         ·rw [c5,show ((0:Int) != 0)=false from rfl,cond_false,if_neg (by simp)]
          cases (jd (fun x:aD=>x.1) y.2.2.2.2.2.2.2.2 rates).isSome<;>rfl
         ·rw [show (r0 pl rates true y.2.2.2.2.2.2.2.1 != 0)=true by simpa using c5,cond_true,if_pos c5]
  ·rw [if_neg hd] at hq
   have:inR y.2.2.2.1 (-1000000000) 1000000000 3=false:=by simpa using hq.symm
   rw [this,if_neg hd]
   rfl
 cases i with
 | zero=>
  rw [aN (by omega),tail]
  rfl
 | succ i=>
  have hp:lines[i]? =some (lines[i]'(by omega)):=aR (by omega)
  rw [aM (by omega),Se (by omega) hll,hp,Option.bind_some]
  have ep:Pq lines (i+1) y=decide (y.1≤(lines[i]'(by omega)).1):=by simp only [Pq,hp]
  rw [ep]
  cases decide (y.1≤(lines[i]'(by omega)).1) with
  | true=>rfl
  | false=>
   rw [cond_false,tail]
   rfl
def L5 (v:ai):Int:=mG (EG v.2.2.2.1 v.2.2.2.2.2.2.1 v.2.2.2.2.2.2.2.1) 0 v.2.2.2.2.2.2.2.1
def ng (v:ai):Int:=
 if tO v.1=false then 5 else if tO v.2.1=false then 5
 else if ¬(1≤v.2.2.1∧v.2.2.1≤3652059) then 1
 else if v.2.2.2.1<0∨4<v.2.2.2.1 then 1
 else if v.2.2.2.2.1<1∨6<v.2.2.2.2.1 then 4
 else if rL v.2.2.2.2.2.2.1≠0 then rL v.2.2.2.2.2.2.1
 else if v.2.2.2.2.2.2.2.1.length=0 then 9
 else if 500<v.2.2.2.2.2.2.2.1.length then 2
 else if L5 v≠0 then L5 v
 else r0 v.2.2.2.1 v.2.2.2.2.2.2.1 false v.2.2.2.2.2.2.2.2
theorem Vv {γ:Type} (s:Int) (u:γ) (k:γ→Option (Int×Unit)) (z:Int) (hk:k u=some (z,())):aP (β:=Int×Unit) (γ:=γ) (if s=0 then some (Sum.inr u) else some (Sum.inl (s,()))) k=some (if s≠0 then s else z,()):=by
 by_cases h:s=0
 ·rw [if_pos h,aL,hk,if_neg (by simpa using h)]
 ·rw [if_neg h,mR,if_pos h]
theorem zX (v:ai):qK v=some (ng v,()):=by
 unfold qK ng
 simp only [xP,P0,mh,Option.bind_some,DA]
 cases tO v.1 with
 | false=>rfl
 | true=>
 cases tO v.2.1 with
 | false=>rfl
 | true=>
 simp only [Bool.not_true,cond_false,We,Yd]
 by_cases n_c1:¬(1≤v.2.2.1∧v.2.2.1≤3652059)
 ·rw [X8 n_c1,if_pos n_c1];rfl
 have c1:=Decidable.of_not_not n_c1
 rw [X9 c1,if_neg (by simpa using c1),Bool.not_true,cond_false]
 by_cases c2:v.2.2.2.1<0∨4<v.2.2.2.1
 ·rw [X9 c2,if_pos c2];rfl
 rw [X8 c2,if_neg c2,cond_false]
 by_cases c3:v.2.2.2.2.1<1∨6<v.2.2.2.2.1
 ·rw [X9 c3,if_pos c3];rfl
 rw [X8 c3,if_neg c3,Wa,Bool.not_true,cond_false]
 by_cases n_hrl:¬(v.2.2.2.2.2.2.1.length<1000000000)
 ·have e:rL v.2.2.2.2.2.2.1=2:=by unfold rL;rw [if_neg (by omega),if_pos (by omega)]
  have e2:nt v.2.2.2.2.2.2.1=some (2,()):=by
   unfold nt
   rw [FP,X8 (by omega),cond_false,aM (by omega)]
  rw [e,e2];rfl
 have hrl:=Decidable.of_not_not n_hrl
 rw [Jy _ hrl,Option.bind_some]
 dsimp only
 by_cases n_c4:¬(rL v.2.2.2.2.2.2.1=0)
 ·rw [show (rL v.2.2.2.2.2.2.1 != 0)=true by simpa using n_c4,cond_true,if_pos n_c4]
 have c4:=Decidable.of_not_not n_c4
 obtain ⟨_,_,hs,_⟩:=K0 c4
 rw [c4,show ((0:Int) != 0)=false from rfl,cond_false,if_neg (by simp),FP]
 by_cases c5:v.2.2.2.2.2.2.2.1.length=0
 ·rw [X9 c5,cond_true,if_pos c5]
 rw [X8 c5,cond_false,if_neg c5]
 by_cases c6:500<v.2.2.2.2.2.2.2.1.length
 ·rw [aM (by omega),if_pos c6]
 rw [aN (by omega),if_neg c6]
 unfold L5
 rw [HL (f:=nv) (fun i=>(((v.2.2.2.2.2.2.2.1.length:Int)),(i:Int),v.1,v.2.1,v.2.2.1,v.2.2.2.1,v.2.2.2.2.1,v.2.2.2.2.2.1,v.2.2.2.2.2.2.1,v.2.2.2.2.2.2.2.1,v.2.2.2.2.2.2.2.2,()) ) v.2.2.2.2.2.2.2.1 (EG v.2.2.2.1 v.2.2.2.2.2.2.1 v.2.2.2.2.2.2.2.1) (v.1,v.2.1,v.2.2.1,v.2.2.2.1,v.2.2.2.2.1,v.2.2.2.2.2.1,v.2.2.2.2.2.2.1,v.2.2.2.2.2.2.2.1,v.2.2.2.2.2.2.2.2,()) ?_ ?_ ?_ _ ?_]
 ·refine Vv _ _ _ _ ?_
  show Option.bind (jW v v.2.2.2.2.2.2.2.2 false) _=_
  rw [An v _ false hrl hs,Option.bind_some]
 ·rfl
 ·intro i y again hy
  have hi:=(List.getElem?_eq_some_iff.1 hy).1
  unfold nv
  show (bif decide ((i:Int)<(v.2.2.2.2.2.2.2.1.length:Int)) then Option.bind (rE v (i:Int)) _ else _)=_
  rw [aM (by omega),KS v i y hrl hs (by omega) hy,Option.bind_some]
  dsimp only
  rw [aJ (n:=(i:Int)+1) (by omega) (by omega)]
  by_cases hz:EG v.2.2.2.1 v.2.2.2.2.2.2.1 v.2.2.2.2.2.2.2.1 i y=0
  ·rw [hz];rfl
  ·rw [show (EG v.2.2.2.1 v.2.2.2.2.2.2.1 v.2.2.2.2.2.2.2.1 i y != 0)=true by simpa using hz,cond_true,if_neg hz]
 ·intro again
  unfold nv
  dsimp only
  rw [aN (by omega)]
 ·omega
end Go.Md
namespace Go.Md
open Go.Dn
structure O9 (pl:Int) (x:ay):Prop where
 dec:bA x.2.1
 place:x.1=false→x.2.1.2≤pl
 nz:x.2.1.1≠0
theorem C4 {pl:Int} {rates:List aD} {line:Bool} {l:List ay} (h:r0 pl rates line l=0):l.length≤20∧∀ x∈l,O9 pl x∧(line=true→x.2.2=[])∧(x.2.2=[]∨(jd (·.1) x.2.2 rates).isSome=true):=by
 unfold r0 at h
 split at h
 ·omega
 ·refine ⟨by omega,fun x hx=> ?_⟩
  obtain ⟨i,hi⟩:=Xe.1 hx
  have:=zq h i x hi
  unfold SL at this
  by_cases hd:bA x.2.1
  ·rw [if_pos hd] at this
   by_cases h0:x.2.1.1=0
   ·rw [if_pos h0] at this;omega
   ·rw [if_neg h0] at this
    by_cases hr:(if x.1=true then inR x.2.1 (-100) 100 9 else inR x.2.1 (-1000000000) 1000000000 pl)=true
    ·rw [if_pos hr] at this
     refine ⟨⟨hd,fun hp=> ?_,h0⟩,fun hline=> ?_, ?_⟩
     ·rw [hp] at hr
      simp only [V4,Yd,inR,decide_eq_true_eq] at hr
      exact hr.2.1
     ·rw [hline] at this
      by_cases hn:x.2.2=[]
      ·exact hn
      ·rw [if_neg hn] at this;simp at this
     ·by_cases hn:x.2.2=[]
      ·exact .inl hn
      ·rw [if_neg hn] at this
       right
       cases hx2:(jd (fun x:aD=>x.1) x.2.2 rates).isSome with
       | true=>rfl
       | false=>rw [hx2] at this;cases line<;>simp at this
    ·rw [if_neg hr] at this;omega
  ·rw [if_neg hd] at this;omega
structure F3 (pl:Int) (rates:List aD) (x:av):Prop where
 q:bA x.2.2.2.1
 qp:x.2.2.2.1.2≤3
 qn:x.2.2.2.1.1≠0
 p:bA x.2.2.2.2.2.1
 pp:x.2.2.2.2.2.1.2≤4
 p0:0≤x.2.2.2.2.2.1.1
 per:1≤x.2.2.2.2.2.2.1∧x.2.2.2.2.2.2.1≤100000
 ext:r0 pl rates true x.2.2.2.2.2.2.2.1=0
 rate:(jd (·.1) x.2.2.2.2.2.2.2.2 rates).isSome=true
theorem Sj {pl:Int} {rates:List aD} {lines:List av} {i:Nat} {x:av} (h:EG pl rates lines i x=0):F3 pl rates x:=by
 unfold EG at h
 split at h
 ·omega
 split at h
 ·omega
 split at h
 ·omega
 split at h
 ·omega
 split at h
 ·omega
 rename_i h1
 split at h
 ·omega
 rename_i h2
 split at h
 ·omega
 split at h
 ·omega
 rename_i h3
 split at h
 ·omega
 rename_i h4
 split at h
 ·omega
 rename_i h5
 split at h
 ·rename_i h6
  have h1':inR x.2.2.2.1 (-1000000000) 1000000000 3=true:=by simpa using h1
  have h3':inR x.2.2.2.2.2.1 0 1000000000 4=true:=by simpa using h3
  unfold inR at h1' h3'
  rw [decide_eq_true_eq] at h1' h3'
  exact ⟨h1'.1,h1'.2.1,h2,h3'.1,h3'.2.1,by have:=h3'.2.2.1;rw [Int.zero_mul] at this;exact this,by omega,by omega,h6⟩
 ·omega
structure lC (v:ai):Prop where
 pl:0≤v.2.2.2.1∧v.2.2.2.1≤4
 way:1≤v.2.2.2.2.1∧v.2.2.2.2.1≤6
 rn:0<v.2.2.2.2.2.2.1.length∧v.2.2.2.2.2.2.1.length≤20
 asc:Asc (·.1) v.2.2.2.2.2.2.1
 rates:∀ r∈v.2.2.2.2.2.2.1,inR r.2 0 100 9=true
 ln:0<v.2.2.2.2.2.2.2.1.length∧v.2.2.2.2.2.2.2.1.length≤500
 lines:∀ x∈v.2.2.2.2.2.2.2.1,F3 v.2.2.2.1 v.2.2.2.2.2.2.1 x
 ext:r0 v.2.2.2.1 v.2.2.2.2.2.2.1 false v.2.2.2.2.2.2.2.2=0
theorem uM {v:ai} (h:ng v=0):lC v:=by
 unfold ng at h
 split at h
 ·omega
 split at h
 ·omega
 split at h
 ·omega
 split at h
 ·omega
 split at h
 ·omega
 split at h
 ·omega
 rename_i h1
 split at h
 ·omega
 split at h
 ·omega
 split at h
 ·omega
 rename_i h2
 have hr:=K0 (show rL v.2.2.2.2.2.2.1=0 by omega)
 refine ⟨by omega,by omega,⟨hr.1,hr.2.1⟩,hr.2.2.1,hr.2.2.2,by omega,fun x hx=> ?_,h⟩
 obtain ⟨i,hi⟩:=Xe.1 hx
 have:=zq (show L5 v=0 by omega) i x hi
 exact Sj this
end Go.Md
namespace Go.Md
open Go.Dn
abbrev MU:Int:=1000000000000000
def zj (v:ai) (x:av):Int:=
 rnd v.2.2.2.2.1 (x.2.2.2.1.1*x.2.2.2.2.2.1.1*10 ^ v.2.2.2.1.toNat) (10 ^ (x.2.2.2.1.2+x.2.2.2.2.2.1.2).toNat*x.2.2.2.2.2.2.1.toNat)
theorem Le.dec {d:ak} (h:bA d):Le 15 d.1:=by
 have:=h.1
 unfold Le;omega
theorem Le.i1 {n:Int} (h1: -9223372036854775808≤n) (h2:n≤9223372036854775807):n.natAbs<4294967296 ^ 99:=(Le.int h1 h2).w (by omega)
theorem Mk (k:Nat):((10 ^ k:Nat):Int)=10 ^ k:=by simp
theorem PG {v:ai} {x:av} (hv:lC v) (hx:F3 v.2.2.2.1 v.2.2.2.2.2.2.1 x):Le 34 (x.2.2.2.1.1*x.2.2.2.2.2.1.1*10 ^ v.2.2.2.1.toNat):=
 ((Le.dec hx.q).mul (Le.dec hx.p)).mul ((Le.pow v.2.2.2.1.toNat).mono (by have:=hv.pl;omega:_≤4))
theorem To {v:ai} {x:av} (hx:F3 v.2.2.2.1 v.2.2.2.2.2.2.1 x):0<10 ^ (x.2.2.2.1.2+x.2.2.2.2.2.1.2).toNat*x.2.2.2.2.2.2.1.toNat∧Le 12 ((10 ^ (x.2.2.2.1.2+x.2.2.2.2.2.1.2).toNat*x.2.2.2.2.2.2.1.toNat:Nat):Int):=by
 have h1:=hx.qp;have h2:=hx.pp;have h3:=hx.per
 refine ⟨Nat.mul_pos (Nat.pow_pos (by omega)) (by omega), ?_⟩
 have:Le (7+5) (((10 ^ (x.2.2.2.1.2+x.2.2.2.2.2.1.2).toNat:Nat):Int)*((x.2.2.2.2.2.2.1.toNat:Nat):Int)):=Le.mul (by rw [Mk];exact (Le.pow _).mono (by omega)) (Le.nat (by omega))
 rw [← Wl] at this
 exact this
theorem zP {n:Int} (h0:0≤n) (h1:n≤60):oe n=some (W (10 ^ n.toNat),()):=by
 obtain ⟨m,rfl⟩:∃ m:Nat,n=m:=⟨n.toNat,by omega⟩
 exact Gl m (by omega)
theorem zw (z:Int):jr (W z)=some (decide (z.natAbs≤MU),()):=by
 unfold jr
 rw [sC z _ (by omega) (by omega),Option.bind_some]
 by_cases h:(z.natAbs:Int)≤1000000000000000
 ·rw [if_pos h,X9 h]
 ·rw [if_neg h,X8 h]
theorem OB {v:ai} {x:av} (hv:lC v) (hx:F3 v.2.2.2.1 v.2.2.2.2.2.2.1 x):Db v x=some (W (zj v x),decide ((zj v x).natAbs≤MU),()):=by
 have hq:=hx.q.1;have hp:=hx.p.1;have hper:=hx.per;have hpl:=hv.pl;have h1:=hx.qp;have h2:=hx.pp;have h3:=hx.q.2.1;have h4:=hx.p.2.1
 have hL:=PG hv hx
 have hD:=To hx
 unfold Db
 rw [fN _ (by omega) (by omega),Option.bind_some,fN _ (by omega) (by omega),Option.bind_some]
 dsimp only
 rw [gC _ _ ((Le.dec hx.q).w (by omega)) ((Le.dec hx.p).w (by omega)),Option.bind_some,zP (by omega) (by omega),Option.bind_some]
 dsimp only
 rw [gC _ _ (((Le.dec hx.q).mul (Le.dec hx.p)).w (by omega)) ((Le.pow _).w (by omega)),Option.bind_some,aJ (by omega) (by omega),zP (by omega) (by omega),Option.bind_some,fN _ (by omega) (by omega),Option.bind_some]
 dsimp only
 rw [gC _ _ ((Le.pow _).w (by omega)) (Le.i1 (by omega) (by omega)),Option.bind_some]
 have e:(10:Int) ^ (x.2.2.2.1.2+x.2.2.2.2.2.1.2).toNat*x.2.2.2.2.2.2.1=((10 ^ (x.2.2.2.1.2+x.2.2.2.2.2.1.2).toNat*x.2.2.2.2.2.2.1.toNat:Nat):Int):=by
  rw [Wl,Mk,Int.toNat_of_nonneg (by omega)]
 dsimp only
 rw [e,CL _ _ _ hD.1 (hL.mono (by omega)) (hD.2.mono (by omega)),Option.bind_some]
 dsimp only
 rw [zw,Option.bind_some]
 rfl
def vT (way n:Int) (d:ak):Int:=rnd way (n*d.1) (100*10 ^ d.2.toNat)
theorem T0 (d:ak) (h:bA d):0<100*10 ^ d.2.toNat∧Le 11 ((100*10 ^ d.2.toNat:Nat):Int):=by
 refine ⟨Nat.mul_pos (by omega) (Nat.pow_pos (by omega)), ?_⟩
 have:=h.2.2
 have h2:Le (2+9) ((100:Int)*((10 ^ d.2.toNat:Nat):Int)):=Le.mul (by unfold Le;decide) (by rw [Mk];exact (Le.pow _).mono (by omega))
 rw [show (100:Int)=((100:Nat):Int) from rfl, ← Wl] at h2
 exact h2
theorem Nf {way n:Int} {d:ak} {k:Nat} (hn:Le k n) (hd:bA d):Le (k+16) (vT way n d):=TJ (k:=k+15) (hn.mul (Le.dec hd))
theorem Ab (v:ai) (n:Int) (d:ak) (hd:bA d) (hn:Le 300 n):pK v (W n) d=some (W (vT v.2.2.2.2.1 n d),()):=by
 have h1:=hd.1;have h2:=hd.2
 have hD:=T0 d hd
 unfold pK
 rw [fN _ (by omega) (by omega),Option.bind_some]
 dsimp only
 rw [gC _ _ (hn.w (by omega)) ((Le.dec hd).w (by omega)),Option.bind_some,fN 100 (by omega) (by omega),Option.bind_some,zP (by omega) (by omega),Option.bind_some]
 dsimp only
 rw [gC _ _ (Le.i1 (by omega) (by omega)) ((Le.pow _).w (by omega)),Option.bind_some]
 dsimp only
 have e:(100:Int)*10 ^ d.2.toNat=((100*10 ^ d.2.toNat:Nat):Int):=by rw [Wl,Mk];rfl
 rw [e,CL _ _ _ hD.1 ((hn.mul (Le.dec hd)).mono (by omega)) (hD.2.mono (by omega)),Option.bind_some]
 rfl
def j3 (way pl g:Int) (x:ay):Int:=if x.1=true then vT way g x.2.1 else x.2.1.1*10 ^ (pl - x.2.1.2).toNat
end Go.Md
namespace Go.Md
open Go.Dn
def wP (am:ay→Int):List ay→Int→Option Int
 | [],n=>some n
 | x::r,n=>if (am x).natAbs≤MU∧(n+am x).natAbs≤MU then wP am r (n+am x) else none
def zx (am:ay→Int) (l:List ay):Int:=(l.map am).sum
theorem Om {am:ay→Int}:∀ {l:List ay} {n m:Int},wP am l n=some m→m=n+zx am l
 | [],n,m,h=>by simp only [wP,Option.some.injEq] at h;simp [zx,h]
 | x::r,n,m,h=>by
  simp only [wP] at h
  split at h
  ·have:=Om h
   simp only [zx,W6,Xr] at this ⊢
   omega
  ·cases h
theorem M6 {am:ay→Int}:∀ {l:List ay} {n m:Int},n.natAbs≤MU→wP am l n=some m→m.natAbs≤MU
 | [],n,m,hn,h=>by simp only [wP,Option.some.injEq] at h;subst h;exact hn
 | x::r,n,m,hn,h=>by
  simp only [wP] at h
  split at h
  ·rename_i hc;exact M6 hc.2 h
  ·cases h
def Cz (v:ai) (x:av):Option Int:=
 if (zj v x).natAbs≤MU then wP (j3 v.2.2.2.2.1 v.2.2.2.1 (zj v x)) x.2.2.2.2.2.2.2.1 (zj v x) else none
def Ud (v:ai) (x:av):Int:=zj v x+zx (j3 v.2.2.2.2.1 v.2.2.2.1 (zj v x)) x.2.2.2.2.2.2.2.1
theorem NY {v:ai} {x:av} {m:Int} (h:Cz v x=some m):m=Ud v x∧m.natAbs≤MU:=by
 unfold Cz at h
 split at h
 ·rename_i hc;exact ⟨Om h,M6 hc h⟩
 ·cases h
theorem Vl {way pl g:Int} {x:ay} {k:Nat} (hk:8≤k) (hpl:0≤pl∧pl≤4) (hx:O9 pl x) (hg:Le k g):Le (k+16) (j3 way pl g x):=by
 unfold j3
 split
 ·exact Nf hg hx.dec
 ·have:=hx.dec.2
  exact ((Le.dec hx.dec).mul (Le.pow _)).mono (by omega)
theorem QZ {v:ai} {x:av} (hv:lC v) (hx:F3 v.2.2.2.1 v.2.2.2.2.2.2.1 x):Hl v x=some (W (Ud v x),(Cz v x).isSome,()):=by
 have hpl:=hv.pl
 obtain ⟨hl,hex⟩:=C4 hx.ext
 have hG:Le 35 (zj v x):=TJ (PG hv hx)
 unfold Hl
 rw [OB hv hx,Option.bind_some]
 dsimp only
 unfold Cz Ud
 generalize x.2.2.2.2.2.2.2.1=l at*
 generalize zj v x=g at*
 obtain ⟨a,b,c,d,e,f,rt,ln,k⟩:=v
 dsimp only at*
 have key:∀ f',l.length<f'→iter f' ((decide (g.natAbs≤MU),l,(l.length:Int),(0:Int),a,b,c,d,e,f,rt,ln,k,false,([]:List Int),(W g).1,(W g).2,(W g).1,(W g).2,()):xG) Bm=
  some (Sum.inr (decide (g.natAbs≤MU)&&(wP (j3 e d g) l g).isSome,false,[],(W (g+zx (j3 e d g) l)).1,(W (g+zx (j3 e d g) l)).2,())):=by
  intro f' hf
  refine bS (Inv:=fun i X=>∃ (ok:Bool) (n:Int),X=((ok,l,(l.length:Int),(i:Int),a,b,c,d,e,f,rt,ln,k,false,([]:List Int),(W g).1,(W g).2,(W n).1,(W n).2,()):xG)∧(ok&&(wP (j3 e d g) (l.drop i) n).isSome)=(decide (g.natAbs≤MU)&&(wP (j3 e d g) l g).isSome)∧n+zx (j3 e d g) (l.drop i)=g+zx (j3 e d g) l∧Le (52+i) n) l.length
   (fun r=>r=some (Sum.inr (decide (g.natAbs≤MU)&&(wP (j3 e d g) l g).isSome,false,[],(W (g+zx (j3 e d g) l)).1,(W (g+zx (j3 e d g) l)).2,()))) ?_ ?_ f' 0 _ ⟨_,g,rfl,by simp,by simp,hG.mono (by omega)⟩ (by omega) (by omega)
  ·rintro i _ again hi ⟨ok,n,rfl,h1,h2,h3⟩ ih
   unfold Bm
   dsimp only
   have hy:l[i]? =some l[i]:=aR hi
   have hym:l[i]∈l:=WU hi
   have hcons:=Ot hy
   generalize l[i]=y at hy hcons hym
   obtain ⟨hyo,_,_⟩:=hex y hym
   have hd1:=hyo.dec.1;have hd2:=hyo.dec.2
   rw [hcons] at h1 h2
   have hA:=Vl (way:=e) (by omega) hpl hyo hG
   have hmx:(if y.2.1.2>d then y.2.1.2 else d)=max d y.2.1.2:=by omega
   rw [aM (by omega),bM,hy,Option.bind_some,hmx,x4 _ _ (by omega) (by omega) (by omega) (by omega) (by omega),Option.bind_some]
   dsimp only
   have hjoin:∀ K,aP (β:=((aa×Bool×Unit) ⊕ (Bool×Bool×(List Int)×Bool×(List Int)×Unit))) (bif y.1 then Option.bind (pK (a,b,c,d,e,f,rt,ln,k) ((W g).1,(W g).2) y.2.1) fun r4=>some (Sum.inr (ok,l,(l.length:Int),(i:Int),a,b,c,d,e,f,rt,ln,k,false,([]:List Int),(W g).1,(W g).2,(W n).1,(W n).2,r4.1.1,r4.1.2,())) else some (Sum.inr (ok,l,(l.length:Int),(i:Int),a,b,c,d,e,f,rt,ln,k,false,([]:List Int),(W g).1,(W g).2,(W n).1,(W n).2,(W (y.2.1.1*10 ^ (max d y.2.1.2 - y.2.1.2).toNat)).1,(W (y.2.1.1*10 ^ (max d y.2.1.2 - y.2.1.2).toNat)).2,()))) K=
    K (ok,l,(l.length:Int),(i:Int),a,b,c,d,e,f,rt,ln,k,false,([]:List Int),(W g).1,(W g).2,(W n).1,(W n).2,(W (j3 e d g y)).1,(W (j3 e d g y)).2,()):=by
    intro K
    unfold j3
    cases hp:y.1 with
    | true=>
     rw [cond_true,show ((W g).1,(W g).2)=W g from rfl,Ab _ g _ hyo.dec (hG.mono (by omega)),Option.bind_some,aL]
     simp only [Ye]
    | false=>
     have:=hyo.place hp
     rw [cond_false,aL,show max d y.2.1.2=d by omega]
     simp only [V4,Yd]
   rw [hjoin]
   dsimp only
   generalize hzd:j3 e d g y=z at*
   have hz:Le (52+i) z:=hA.mono (by omega)
   rw [show ((W n).1,(W n).2)=W n from rfl,show ((W z).1,(W z).2)=W z from rfl,dD _ _ (h3.w (by omega)) (hz.w (by omega)),Option.bind_some]
   dsimp only
   rw [zw,zw,Option.bind_some,Option.bind_some,aJ (by omega) (by omega)]
   have hs:n+z+zx (j3 e d g) (l.drop (i+1))=g+zx (j3 e d g) l:=by
    rw [← h2]
    simp only [zx,W6,Xr,hzd]
    omega
   have hn:wP (j3 e d g) (y::l.drop (i+1)) n=if z.natAbs≤MU∧(n+z).natAbs≤MU then wP (j3 e d g) (l.drop (i+1)) (n+z) else none:=by simp only [wP,hzd]
   rw [hn] at h1
   cases ok with
   | false=>
    rw [cond_false]
    exact ih _ ⟨false,n+z,rfl,by simpa using h1,hs,h3.add hz⟩
   | true=>
    rw [cond_true]
    by_cases f1:(z.natAbs:Int)≤MU
    ·rw [X9 f1,cond_true]
     refine ih _ ⟨_,n+z,rfl, ?_,hs,h3.add hz⟩
     by_cases f2:((n+z).natAbs:Int)≤MU
     ·rw [X9 f2, ← h1,if_pos ⟨f1,f2⟩]
     ·rw [X8 f2, ← h1,if_neg (fun h=>f2 h.2)];rfl
    ·rw [X8 f1,cond_false]
     refine ih _ ⟨false,n+z,rfl, ?_,hs,h3.add hz⟩
     rw [← h1,if_neg (fun h=>f1 h.1)];rfl
  ·rintro _ again ⟨ok,n,rfl,h1,h2,h3⟩
   unfold Bm
   dsimp only
   rw [aN (by omega)]
   rw [List.drop_length] at h1 h2
   simp only [wP,X1,V3,zx,W7,List.sum_nil,Int.add_zero] at h1 h2
   rw [h1,h2]
   rfl
 rw [key _ (by omega),aL]
 dsimp only
 congr 3
 by_cases hg:(g.natAbs:Int)≤MU
 ·rw [X9 hg,if_pos hg,Wd]
 ·rw [X8 hg,if_neg hg];rfl
theorem Fb:BZ=some (true,()):=by kernel_rfl
end Go.Md
