/-
  Plain facts: gross and net. No condition.
-/
import Derived.Test.YtalfglakknbjkaaGreatDoorQr
set_option linter.all false
namespace Go.Md
open Go.Dn
theorem zne:((0:Int) != 0)=false:=rfl
theorem FK (v:ah):(v.1,v.2.1,v.2.2.1,v.2.2.2.1,v.2.2.2.2.1,v.2.2.2.2.2.1,v.2.2.2.2.2.2.1,v.2.2.2.2.2.2.2.1,v.2.2.2.2.2.2.2.2)=v:=rfl
theorem lT:∀ a:Bys,Op.bytesLess a a=false
 | []=>rfl
 | x::a=>by simp[Op.bytesLess,lT a]
theorem QL:∀ {a b:Bys},Lib.compareBytes a b=0↔a=b
 | [],[]=>by simp[Lib.compareBytes]
 | [],_::_=>by simp[Lib.compareBytes]
 | _::_,[]=>by simp[Lib.compareBytes]
 | x::a,y::b=>by
  simp only[Lib.compareBytes,List.cons.injEq]
  by_cases h1:x<y
  ·simp only[h1,amR]
   constructor
   ·intro h;omega
   ·rintro⟨rfl,_⟩;exact absurd h1 (UInt8.lt_irrefl x)
  ·by_cases h2:y<x
   ·simp only[h1,h2,amR,amO]
    constructor
    ·intro h;omega
    ·rintro⟨rfl,_⟩;exact absurd h2 (UInt8.lt_irrefl x)
   ·have:x=y:=UInt8.le_antisymm (amy.1 h2) (amy.1 h1)
    subst this
    simp only[h1,amO,true_and]
    exact QL
theorem Oz:∀ {a b:Bys},Lib.compareBytes a b<0↔Op.bytesLess a b=true
 | [],[]=>by simp[Lib.compareBytes,Op.bytesLess]
 | [],_::_=>by simp[Lib.compareBytes,Op.bytesLess]
 | _::_,[]=>by simp[Lib.compareBytes,Op.bytesLess]
 | x::a,y::b=>by
  have ih:= @Oz a b
  simp only[Lib.compareBytes,Op.bytesLess]
  by_cases h1:x<y
  ·simp[h1]
  ·by_cases h2:y<x
   ·have hne:¬ x=y:=fun e=>by subst e;exact absurd h2 (UInt8.lt_irrefl x)
    simp[h1,h2,hne]
   ·have:x=y:=UInt8.le_antisymm (amy.1 h2) (amy.1 h1)
    subst this
    simp[h1,ih]
theorem wk:∀ {a b c:Bys},Op.bytesLess a b=true→Op.bytesLess b c=true→Op.bytesLess a c=true
 | [],[],_,h,_=>by simp[Op.bytesLess] at h
 | [],_::_,[],_,h=>by simp[Op.bytesLess] at h
 | [],_::_,_::_,_,_=>rfl
 | _::_,[],_,h,_=>by simp[Op.bytesLess] at h
 | _::_,_::_,[],_,h=>by simp[Op.bytesLess] at h
 | x::a,y::b,z::c,h,k=>by
  simp only[Op.bytesLess,ajY,ajK,amI,amA] at h k ⊢
  rcases h with h | ⟨rfl,h⟩
  ·rcases k with k | ⟨rfl,k⟩
   ·exact .inl (UInt8.lt_trans h k)
   ·exact .inl h
  ·rcases k with k | ⟨rfl,k⟩
   ·exact .inl k
   ·exact .inr ⟨rfl,wk h k⟩
theorem adY {a b:Bys} (h:Op.bytesLess a b=true):Op.bytesLess b a=false:=by
 cases hb:Op.bytesLess b a with
 | false=>rfl
 | true=>have:=wk h hb;rw[lT] at this;cases this
theorem YL (a b:Bys):Op.bytesLess a b=true∨a=b∨Op.bytesLess b a=true:=by
 induction a generalizing b with
 | nil=>cases b with
  | nil=>simp
  | cons y b=>simp[Op.bytesLess]
 | cons x a ih=>cases b with
  | nil=>simp[Op.bytesLess]
  | cons y b=>
   simp only[Op.bytesLess,ajY,ajK,amI,amA,List.cons.injEq]
   by_cases h1:x<y
   ·simp[h1]
   ·by_cases h2:y<x
    ·simp[h2]
    ·have:x=y:=UInt8.le_antisymm (amy.1 h2) (amy.1 h1)
     subst this
     rcases ih b with h | h | h<;>simp[h]
def Asc {α:Type} (key:α→Bys) (l:List α):Prop:=∀ (i j:Nat) (x y:α),i<j→l[i]? =some x→l[j]? =some y→Op.bytesLess (key x) (key y)=true
def cB {α:Type} (key:α→Bys) (t:Bys) (l:List α):Option Nat:=l.findIdx? (fun r=>key r==t)
theorem jX {α:Type} {key:α→Bys} {t:Bys} {l:List α} {k:Nat} (h:cB key t l=some k):∃ x,l[k]? =some x∧key x=t:=by
 unfold cB at h
 rw[List.findIdx?_eq_some_iff_getElem] at h
 obtain⟨h1,h2,_⟩:=h
 exact⟨_,akQ h1,by simpa using h2⟩
theorem ahk {α:Type} {key:α→Bys} {t:Bys} {l:List α} (h:cB key t l=none):∀ x∈l,key x≠t:=by
 unfold cB at h
 rw[List.findIdx?_eq_none_iff] at h
 intro x hx e
 have:=h x hx
 simp[e] at this
theorem ae5 {α:Type} {key:α→Bys} {t:Bys} {l:List α} (hs:Asc key l) {k:Nat} {x:α} (hk:l[k]? =some x) (hx:key x=t):cB key t l=some k:=by
 cases h:cB key t l with
 | none=>exact absurd hx (ahk h x (alr hk))
 | some j=>
  obtain⟨y,h1,h2⟩:=jX h
  rcases al7 j k with hlt | rfl | hlt
  ·have:=hs j k y x hlt h1 hk
   rw[h2,hx,lT] at this;cases this
  ·rfl
  ·have:=hs k j x y hlt hk h1
   rw[h2,hx,lT] at this;cases this
def ixI:Option Nat→Int
 | some k=>(k:Int)
 | none=> -1
theorem afm (o:Option Nat):decide (ixI o<0)= !o.isSome:=by
 cases o with
 | none=>rfl
 | some k=>exact amG (by simp only[ixI];omega)
theorem BL (v:ah) (t:Bys) (hl:v.2.2.2.2.2.2.1.length<1000000000):fS v t=some (ixI (cB (·.1) t v.2.2.2.2.2.2.1),()):=by
 unfold fS
 generalize v.2.2.2.2.2.2.1=l at*
 have loop:∀ f,l.length<f→iter f ((t,l,(l.length:Int),(0:Int),()):vK) Bs=(match cB (·.1) t l with | some k=>some (Sum.inl ((k:Int),())) | none=>some (Sum.inr ())):=by
  intro f hf
  refine aZ (Inv:=fun i X=>X=((t,l,(l.length:Int),(i:Int),()):vK)∧∀ j x,j<i→l[j]? =some x→x.1≠t) l.length
   (fun r=>r=(match cB (·.1) t l with | some k=>some (Sum.inl ((k:Int),())) | none=>some (Sum.inr ()))) ?_ ?_ f 0 _ ⟨rfl,fun _ _ h=>absurd h (ame _)⟩ (by omega) (by omega)
  ·rintro i _ again hi ⟨rfl,hb⟩ ih
   unfold Bs
   dsimp only
   have hy:l[i]? =some l[i]:=aC hi
   generalize l[i]=y at hy
   rw[aD (by omega),bf,hy,amq]
   by_cases he:y.1=t
   ·rw[show (y.1==t)=true by simpa using he,amE]
    have:cB (·.1) t l=some i:=by
     unfold cB
     rw[List.findIdx?_eq_some_iff_getElem]
     refine⟨hi, ?_,fun j hj=> ?_⟩
     ·have:=(akS.1 hy).2
      rw[this];simpa using he
     ·have:=hb j l[j] hj (akQ _)
      simpa using this
    rw[this]
   ·rw[show (y.1==t)=false by simpa using he,amD,az (by omega) (by omega)]
    refine ih _ ⟨rfl,fun j x hj hx=> ?_⟩
    rcases al5.1 hj with h | h
    ·exact hb j x h hx
    ·subst h;rw[hy] at hx;cases hx;exact he
  ·rintro _ again ⟨rfl,hb⟩
   unfold Bs
   dsimp only
   rw[aE (by omega)]
   have:cB (·.1) t l=none:=by
    unfold cB
    rw[List.findIdx?_eq_none_iff]
    intro x hx
    obtain⟨j,hj⟩:=alo.1 hx
    have:=hb j x (akS.1 hj).1 hj
    simpa using this
   rw[this]
 rw[loop _ (by omega)]
 cases cB (·.1) t l<;>rfl
theorem abj (l:List aB) (t:Bys) (hl:l.length<1000000000) (hs:Asc (·.1) l):
 ∃ i:Nat,eE l t ()=some ((i:Int),(cB (·.1) t l).isSome,())∧∀ k,cB (·.1) t l=some k→i=k:=by
 unfold eE
 have loop:∀ f,l.length<f→∃ i:Nat,iter f ((l,t,(),(l.length:Int),(0:Int),(l.length:Int),()):cG) gQ=some (Sum.inr (l,t,(),(l.length:Int),(i:Int),()))∧i≤l.length∧(∀ k x,l[k]? =some x→k<i→Op.bytesLess x.1 t=true)∧∀ k x,l[k]? =some x→i≤k→Op.bytesLess x.1 t=false:=by
  intro f hf
  refine Lp (Inv:=fun X=>∃ i j:Nat,X=((l,t,(),(l.length:Int),(i:Int),(j:Int),()):cG)∧i≤j∧j≤l.length∧(∀ k x,l[k]? =some x→k<i→Op.bytesLess x.1 t=true)∧∀ k x,l[k]? =some x→j≤k→Op.bytesLess x.1 t=false)
   (fun X=>(X.2.2.2.2.2.1 - X.2.2.2.2.1).toNat)
   (fun _ r=>∃ i:Nat,r=some (Sum.inr (l,t,(),(l.length:Int),(i:Int),()))∧i≤l.length∧(∀ k x,l[k]? =some x→k<i→Op.bytesLess x.1 t=true)∧∀ k x,l[k]? =some x→i≤k→Op.bytesLess x.1 t=false) ?_ f _ ⟨0,l.length,rfl,by omega,by omega,fun _ _ _ h=>absurd h (ame _),fun k x hk hle=>by have:=(akS.1 hk).1;omega⟩ (by dsimp only;omega)
  rintro _ again ⟨i,j,rfl,hij,hj,h1,h2⟩ ih
  dsimp only at ih
  unfold gQ
  dsimp only
  by_cases hlt:i<j
  ·rw[aD (by omega)]
   have em:w64 (Int.fdiv (b8 (w64 ((i:Int)+(j:Int)))) (2 ^ 1))=(((i+j) / 2:Nat):Int):=by
    rw[az (n:=(i:Int)+(j:Int)) (by omega) (by omega),eD (by omega) (by omega),aj5 _ (by omega),az (by omega) (by omega)]
    omega
   rw[em]
   have hm:(i+j) / 2<l.length:=by omega
   have hy:l[(i+j) / 2]? =some l[(i+j) / 2]:=aC hm
   have hmi:i≤(i+j) / 2∧(i+j) / 2<j:=by omega
   generalize (i+j) / 2=m at*
   generalize l[m]=y at hy
   rw[bf,hy,amq]
   show ∃ i,Option.bind (Option.bind (some (Lib.compareBytes y.1 t,())) fun r1=>some (r1.1,())) _=_∧_
   rw[amq,amq]
   dsimp only
   by_cases hc:Lib.compareBytes y.1 t<0
   ·rw[aD hc,az (by omega) (by omega)]
    refine ih _ ⟨m+1,j,rfl,by omega,hj,fun k x hk hkm=> ?_,h2⟩ (by dsimp only;omega)
    rcases al5.1 hkm with h | h
    ·have:=hs k m x y h hk hy
     exact wk this (Oz.1 hc)
    ·subst h;rw[hy] at hk;cases hk;exact Oz.1 hc
   ·rw[aE hc]
    refine ih _ ⟨i,m,rfl,by omega,by omega,h1,fun k x hk hkm=> ?_⟩ (by dsimp only;omega)
    have hc':Op.bytesLess y.1 t=false:=by
     cases h:Op.bytesLess y.1 t with
     | false=>rfl
     | true=>exact absurd (Oz.2 h) hc
    rcases Nat.lt_or_eq_of_le hkm with h | h
    ·cases hx:Op.bytesLess x.1 t with
     | false=>rfl
     | true=>rw[wk (hs m k y x h hy hk) hx] at hc';cases hc'
    ·subst h;rw[hy] at hk;cases hk;exact hc'
  ·rw[aE (by omega)]
   have:i=j:=by omega
   subst this
   exact⟨i,rfl,hj,h1,h2⟩
 obtain⟨i,h1,h2,h3,h4⟩:=loop (List.length l+(List.length t+(Int.natAbs ((List.length l:Int))+(Int.natAbs (0:Int)+(Int.natAbs ((List.length l:Int))+2))))) (by omega)
 refine⟨i, ?_,fun k hk=> ?_⟩
 ·rw[h1,aF]
  dsimp only
  by_cases hi:i<l.length
  ·have hy:l[i]? =some l[i]:=aC hi
   generalize l[i]=y at hy
   rw[aD (by omega),bf,hy,amq]
   show Option.bind (Option.bind (some (Lib.compareBytes y.1 t,())) fun r1=>some (r1.1,())) _=_
   rw[amq,amq]
   congr 3
   by_cases he:y.1=t
   ·rw[ae5 hs hy he,QL.2 he];rfl
   ·have hne:¬ Lib.compareBytes y.1 t=0:=fun h=>he (QL.1 h)
    rw[show (Lib.compareBytes y.1 t==0)=false by simpa using hne]
    cases hx:cB (·.1) t l with
    | none=>rfl
    | some k=>
     exfalso
     obtain⟨x,k1,k2⟩:=jX hx
     rcases al7 k i with h | h | h
     ·have:=h3 k x k1 h;rw[k2,lT] at this;cases this
     ·subst h;rw[hy] at k1;cases k1;exact he k2
     ·have:=hs i k y x h hy k1
      dsimp only at this
      rw[k2,h4 i y hy (alZ _)] at this;cases this
  ·rw[aE (by omega)]
   congr 3
   cases hx:cB (·.1) t l with
   | none=>rfl
   | some k=>
    exfalso
    obtain⟨x,k1,k2⟩:=jX hx
    have:=h3 k x k1 (by have:=(akS.1 k1).1;omega)
    rw[k2,lT] at this;cases this
 ·obtain⟨x,k1,k2⟩:=jX hk
  rcases al7 k i with h | h | h
  ·have:=h3 k x k1 h;rw[k2,lT] at this;cases this
  ·exact h.symm
  ·have hy:l[i]? =some (l[i]'(by have:=(akS.1 k1).1;omega)):=aC _
   have:=hs i k _ x h hy k1
   dsimp only at this
   rw[k2,h4 i _ hy (alZ _)] at this;cases this
theorem Fy (l:List aB) (t:Bys) (hl:l.length<1000000000) (hs:Asc (·.1) l):
 ∃ i:Nat,si l t=some ((i:Int),(cB (·.1) t l).isSome,())∧∀ k,cB (·.1) t l=some k→i=k:=by
 obtain⟨i,h1,h2⟩:=abj l t hl hs
 exact⟨i,by unfold si;rw[h1,amq],h2⟩
theorem KU (v:ah) (t:Bys) (hl:v.2.2.2.2.2.2.1.length<1000000000) (hs:Asc (·.1) v.2.2.2.2.2.2.1):kD v t=some ((cB (·.1) t v.2.2.2.2.2.2.1).isSome,()):=by
 obtain⟨i,h1,h2⟩:=Fy v.2.2.2.2.2.2.1 t hl hs
 unfold kD
 rw[h1,amq]
end Go.Md
namespace Go.Md
open Go.Dn
instance (d:aj):Decidable (aY d):=by unfold aY;exact inferInstance
def inR (d:aj) (lo hi pl:Int):Bool:=decide (aY d∧d.2≤pl∧lo*10 ^ d.2.toNat≤d.1∧d.1≤hi*10 ^ d.2.toNat)
theorem abm {d:aj} (h0:0≤d.2) (h1:d.2≤9) (k:Int):k*10 ^ 9=k*10 ^ d.2.toNat*10 ^ (9 - d.2).toNat:=by
 rw[aj7, ← aki,show d.2.toNat+(9 - d.2).toNat=9 by omega]
theorem ae2 {d:aj} (h0:0≤d.2) (h1:d.2≤9) (k:Int):k*10 ^ 9≤eg d↔k*10 ^ d.2.toNat≤d.1:=by
 unfold eg
 rw[abm h0 h1]
 exact Int.mul_le_mul_right (xO _)
theorem aeZ {d:aj} (h0:0≤d.2) (h1:d.2≤9) (k:Int):eg d≤k*10 ^ 9↔d.1≤k*10 ^ d.2.toNat:=by
 unfold eg
 rw[abm h0 h1]
 exact Int.mul_le_mul_right (xO _)
theorem yI (d:aj) (lo hi pl:Int) (hlo:lo.natAbs≤1000000000000000) (hhi:hi.natAbs≤1000000000000000):m6 d lo hi pl=some (inR d lo hi pl,()):=by
 rw[adM d lo hi pl hlo hhi]
 unfold inR
 congr 2
 rw[amF]
 constructor
 ·rintro⟨h1,h2,h3,h4⟩
  exact⟨h1,h2,(ae2 h1.2.1 h1.2.2 lo).1 h3,(aeZ h1.2.1 h1.2.2 hi).1 h4⟩
 ·rintro⟨h1,h2,h3,h4⟩
  exact⟨h1,h2,(ae2 h1.2.1 h1.2.2 lo).2 h3,(aeZ h1.2.1 h1.2.2 hi).2 h4⟩
theorem iu (d:aj):cl d=some (if aY d then 0 else 1,()):=by
 rw[LL]
 congr 2
 by_cases h:aY d
 ·rw[amQ h,amQ (by unfold aY at h;omega)]
 ·rw[amP h,amP (by unfold aY at h;omega)]
theorem kf (d:aj):di d=some (if aY d then 0 else 1,()):=by
 rw[GH]
 congr 2
 by_cases h:aY d
 ·rw[amQ h,amQ (by unfold aY at h;omega)]
 ·rw[amP h,amP (by unfold aY at h;omega)]
theorem uQ {d:aj} (h:aY d) (most:Int) (hm0:0≤most) (hm1:most≤1000000000):fJ d most=some (inR d (-most) most 9,()):=by
 rw[Wp d most h.2.1 h.2.2 hm0 hm1]
 unfold inR
 congr 2
 rw[amF,Int.neg_mul]
 constructor
 ·rintro⟨h1,h2⟩;exact⟨h,h.2.2,h1,h2⟩
 ·rintro⟨_,_,h1,h2⟩;exact⟨h1,h2⟩
def Yw (pl:Int) (rates:List aB) (line:Bool) (x:ax):Int:=
 if aY x.2.1 then
  (if x.2.1.1=0 then 13
  else if (if x.1=true then inR x.2.1 (-100) 100 9 else inR x.2.1 (-1000000000) 1000000000 pl)=true then
   (if x.2.2=[] then 0 else if line=true then 3 else if (cB (·.1) x.2.2 rates).isSome=true then 0 else 5)
  else 1)
 else 1
def lN (pl:Int) (rates:List aB) (line:Bool) (l:List ax):Int:=if 20<l.length then 2 else cT (fun _ x=>Yw pl rates line x) 0 l
theorem Xc {γ:Type} (s:Int) (u:γ):aO (β:=Int×Unit) (γ:=γ) (if s=0 then some (Sum.inr u) else some (Sum.inl (s,()))) (fun _=>some (0,()))=some (s,()):=by
 by_cases h:s=0
 ·rw[amQ h,aF,h]
 ·rw[amP h,dR]
theorem agM {d:aj} {lo hi pl:Int} (h:aY d):inR d lo hi pl=(inR d lo hi 9&&decide (d.2≤pl)):=by
 unfold inR
 rw[← Bool.decide_and,amF]
 constructor
 ·rintro⟨h1,h2,h3⟩;exact⟨⟨h1,h.2.2,h3⟩,h2⟩
 ·rintro⟨⟨h1,_,h3⟩,h2⟩;exact⟨h1,h2,h3⟩
theorem zu {X α:Type} {γ:Type} {f:X→(X→Option ((Int×Unit) ⊕ γ))→Option ((Int×Unit) ⊕ γ)} {x0:X} (mk:Nat→X) (l:List α) (g:Nat→α→Int) (u:γ) (h0:x0=mk 0)
 (hstep:∀ i y again,l[i]? =some y→f (mk i) again=if g i y=0 then again (mk (i+1)) else some (Sum.inl (g i y,()))) (hend:∀ again,f (mk l.length) again=some (Sum.inr u)) (n:Nat) (hn:l.length<n):
 iter n x0 f=if cT g 0 l=0 then some (Sum.inr u) else some (Sum.inl (cT g 0 l,())):=by
 rw[h0];exact La mk l g u hstep hend l 0 n rfl (amm _) hn
theorem EO (v:ah) (l:List ax) (line:Bool) (hl:v.2.2.2.2.2.2.1.length<1000000000) (hs:Asc (·.1) v.2.2.2.2.2.2.1):kW v l line=some (lN v.2.2.2.1 v.2.2.2.2.2.2.1 line l,()):=by
 unfold kW lN
 by_cases hb:20<l.length
 ·rw[aD (by omega),amQ hb]
 ·rw[aE (by omega),amP hb]
  obtain⟨a,b,c,d,e,f,g,h,k⟩:=v
  dsimp only at*
  have hR:∀ t,kD (a,b,c,d,e,f,g,h,k) t=some ((cB (·.1) t g).isSome,()):=fun t=>KU _ t hl hs
  rw[zu (f:=qi) (fun i=>((line,l,(l.length:Int),(i:Int),a,b,c,d,e,f,g,h,k,()):qc)) l (fun _ x=>Yw d g line x) () ?_ ?_ ?_ _ ?_]
  ·exact Xc _ _
  ·rfl
  ·intro i y again hy
   have hi:=(akS.1 hy).1
   unfold qi
   dsimp only
   rw[aD (by omega),bf,hy,amq,iu,amq]
   have hw:w64 ((i:Int)+1)=(i:Int)+1:=az (by omega) (by omega)
   unfold Yw
   by_cases hd:aY y.2.1
   ·rw[amQ hd,zne,amD,amQ hd]
    by_cases h0:y.2.1.1=0
    ·rw[show (y.2.1.1==0)=true by simpa using h0,amE,amQ h0];rfl
    ·rw[show (y.2.1.1==0)=false by simpa using h0,amD,amP h0]
     rw[uQ hd 100 (by omega) (by omega),uQ hd 1000000000 (by omega) (by omega),agM (pl:=d) hd]
     have hgt:decide (y.2.1.2>d)= !decide (y.2.1.2≤d):=by
      by_cases hq:y.2.1.2≤d
      ·simp[hq]
      ·simp[hq];omega
     have hnil:∀ (s:Bys),(s==[])=decide (s=[]):=fun s=>by cases s<;>rfl
     simp only[hR,amq,hgt,hnil]
     generalize inR y.2.1 (-100) 100 9=b1
     generalize inR y.2.1 (-1000000000) 1000000000 9=b2
     generalize decide (y.2.1.2≤d)=b3
     generalize y.1=p
     by_cases hn:y.2.2=[]
     ·cases p<;>cases b1<;>cases b2<;>cases b3<;>cases line<;>simp[aO,hw,hnil,hn,hR]
     ·cases h4:(cB (fun x:aB=>x.1) y.2.2 g).isSome<;>cases p<;>cases b1<;>cases b2<;>cases b3<;>cases line<;>simp[aO,hw,hnil,hn,hR,h4]
   ·rw[amP hd,amP hd];rfl
  ·intro again
   unfold qi
   dsimp only
   rw[aE (by omega)]
  ·omega
theorem GJ (v:ah) (l:List ax) (line:Bool) (hl:v.2.2.2.2.2.2.1.length<1000000000) (hp:0≤v.2.2.2.1∧v.2.2.2.1≤9):l8 v l line=some (lN v.2.2.2.1 v.2.2.2.2.2.2.1 line l,()):=by
 unfold l8 lN
 by_cases hb:20<l.length
 ·rw[aD (by omega),amQ hb]
 ·rw[aE (by omega),amP hb]
  obtain⟨a,b,c,d,e,f,g,h,k⟩:=v
  dsimp only at*
  have hR:∀ t,fS (a,b,c,d,e,f,g,h,k) t=some (ixI (cB (·.1) t g),()):=fun t=>BL _ t hl
  rw[zu (f:=rf) (fun i=>((line,l,(l.length:Int),(i:Int),a,b,c,d,e,f,g,h,k,()):qN)) l (fun _ x=>Yw d g line x) () ?_ ?_ ?_ _ ?_]
  ·exact Xc _ _
  ·rfl
  ·intro i y again hy
   have hi:=(akS.1 hy).1
   unfold rf
   dsimp only
   rw[aD (by omega),bf,hy,amq,kf,amq,az (n:=(i:Int)+1) (by omega) (by omega)]
   unfold Yw
   by_cases hd:aY y.2.1
   ·rw[amQ hd,zne,amD,amQ hd]
    by_cases h0:y.2.1.1=0
    ·rw[show (y.2.1.1==0)=true by simpa using h0,amE,amQ h0];rfl
    ·rw[show (y.2.1.1==0)=false by simpa using h0,amD,amP h0]
     rw[yI y.2.1 (-100) 100 9 (by decide) (by decide),yI y.2.1 (-1000000000) 1000000000 d (by decide) (by decide)]
     have hnil:∀ (s:Bys),(s==[])=decide (s=[]):=fun s=>by cases s<;>rfl
     simp only[hR,afm,amq,hnil]
     generalize inR y.2.1 (-100) 100 9=b1
     generalize inR y.2.1 (-1000000000) 1000000000 d=b2
     generalize y.1=p
     generalize (cB (fun x:aB=>x.1) y.2.2 g).isSome=b4
     by_cases hn:y.2.2=[]
     ·simp only[hn,amK,amR]
      cases p<;>cases b1<;>cases b2<;>cases line<;>cases b4<;>simp
     ·simp only[hn,amJ,amO]
      cases p<;>cases b1<;>cases b2<;>cases line<;>cases b4<;>simp
   ·rw[amP hd,amP hd];rfl
  ·intro again
   unfold rf
   dsimp only
   rw[aE (by omega)]
  ·omega
end Go.Md
namespace Go.Md
open Go.Dn
theorem CS {α:Type} (l:List α):((l.length:Int)==0)=decide (l.length=0):=by
 cases l with
 | nil=>rfl
 | cons a r=>rw[show decide ((a::r).length=0)=false by simp,amz];simp only[ak3];omega
def Dy (l:List aB) (i:Nat) (y:aB):Bool:=match i with
 | 0=>false
 | i+1=>match l[i]? with
  | some p=>Op.bytesLess y.1 p.1||y.1==p.1
  | none=>false
def Ip (l:List aB) (i:Nat) (r:aB):Int:=if iC r.1=false then 5 else if Dy l i r=true then 8 else if inR r.2 0 100 9=true then 0 else 1
def nC (l:List aB):Int:=if l.length=0 then 9 else if 20<l.length then 2 else cT (Ip l) 0 l
theorem aex {l:List aB} (h:∀ i y,l[i]? =some y→Dy l i y=false):Asc (·.1) l:=by
 have step:∀ i x y,l[i]? =some x→l[i+1]? =some y→Op.bytesLess x.1 y.1=true:=fun i x y hx hy=>by
  have:=h (i+1) y hy
  simp only[Dy,hx,ajX,amz] at this
  rcases YL x.1 y.1 with h1 | h1 | h1
  ·exact h1
  ·exact absurd h1.symm this.2
  ·rw[this.1] at h1;cases h1
 intro i j x y hij hx hy
 induction j generalizing y with
 | zero=>omega
 | succ j ih=>
  rcases al5.1 hij with h1 | h1
  ·have hj:j<l.length:=by have:=(akS.1 hy).1;omega
   have hz:l[j]? =some l[j]:=aC hj
   exact wk (ih _ h1 hz) (step j _ y hz hy)
  ·subst h1;exact step i x y hx hy
theorem Uh {l:List aB} (h:nC l=0):0<l.length∧l.length≤20∧Asc (·.1) l∧∀ r∈l,inR r.2 0 100 9=true:=by
 unfold nC at h
 split at h
 ·omega
 ·split at h
  ·omega
  ·have hz:=uV h
   refine⟨by omega,by omega,aex fun i y hy=> ?_,fun r hr=> ?_⟩
   ·have:=hz i y hy
    rw[amk] at this
    unfold Ip at this
    split at this
    ·omega
    ·split at this
     ·omega
     ·rename_i h1;simpa using h1
   ·obtain⟨i,hi⟩:=alo.1 hr
    have:=hz i r hi
    rw[amk] at this
    unfold Ip at this
    split at this
    ·omega
    ·split at this
     ·omega
     ·split at this
      ·assumption
      ·omega
theorem afZ {d:aj} (h:aY d) (hi:Int):inR d 0 hi 9=(!decide (d.1<0)&&inR d (-hi) hi 9):=by
 have hp:=xO d.2.toNat
 unfold inR
 rw[← decide_not, ← Bool.decide_and,amF]
 constructor
 ·rintro⟨h1,h2,h3,h4⟩
  rw[akr] at h3
  refine⟨by omega,h1,h2, ?_,h4⟩
  rw[Int.neg_mul]
  have:0≤hi*10 ^ d.2.toNat:=by omega
  omega
 ·rintro⟨h0,h1,h2,h3,h4⟩
  exact⟨h1,h2,by rw[akr];omega,h4⟩
theorem ach {l:List aB} {i:Nat} (hi:i+1<l.length+1) (hl:l.length<1000000000):idx l (w64 (((i+1:Nat):Int) - 1))=l[i]? :=by
 rw[az (by omega) (by omega),show ((i+1:Nat):Int) - 1=((i:Nat):Int) by omega,bf]
theorem Qu (l:List aB) (hl:l.length<1000000000):n7 l=some (nC l,()):=by
 unfold n7 nC
 by_cases h0:l.length=0
 ·rw[CS,amH h0,amE,amQ h0]
 ·rw[CS,amG h0,amD,amP h0]
  by_cases hb:20<l.length
  ·rw[aD (by omega),amQ hb]
  ·rw[aE (by omega),amP hb]
   rw[zu (f:=qQ) (fun i=>((l,l,(l.length:Int),(i:Int),()):rH)) l (Ip l) () ?_ ?_ ?_ _ ?_]
   ·exact Xc _ _
   ·rfl
   ·intro i y again hy
    have hi:=(akS.1 hy).1
    unfold qQ
    dsimp only
    rw[aD (by omega),bf,hy,amq,qD,amq,az (n:=(i:Int)+1) (by omega) (by omega)]
    unfold Ip
    cases hn:iC y.1 with
    | false=>simp
    | true=>
     have tail:(Option.bind (cl y.2) fun r5=>bif r5.1 != 0 then some (Sum.inl (r5.1,())) else bif decide (y.2.1<0) then some (Sum.inl (1,())) else Option.bind (fJ y.2 100) fun r6=>bif !r6.1 then some (Sum.inl (1,())) else again (l,l,(l.length:Int),(i:Int)+1,()))=if (if inR y.2 0 100 9=true then (0:Int) else 1)=0 then again (l,l,(l.length:Int),((i+1:Nat):Int),()) else some (Sum.inl (1,())):=by
      rw[iu,amq]
      by_cases hd:aY y.2
      ·rw[afZ hd 100,uQ hd 100 (by omega) (by omega)]
       generalize inR y.2 (-100) 100 9=b
       by_cases hneg:y.2.1<0
       ·simp[hd,hneg]
       ·cases b<;>simp[hd,hneg]
      ·have:inR y.2 0 100 9=false:=by unfold inR;simp[hd]
       simp[hd,this]
     simp only[ajW,amD,aj1,amO]
     cases i with
     | zero=>
      rw[aE (by omega),tail]
      simp only[Dy,ajP,amO]
      split<;>simp_all
     | succ i=>
      have hp:l[i]? =some (l[i]'(by omega)):=aC (by omega)
      rw[aD (by omega),ach (by omega) hl,hp,amq]
      have ep:Dy l (i+1) y=(Op.bytesLess y.1 (l[i]'(by omega)).1||y.1==(l[i]'(by omega)).1):=by simp only[Dy,hp]
      rw[ep]
      cases (Op.bytesLess y.1 (l[i]'(by omega)).1||y.1==(l[i]'(by omega)).1) with
      | true=>simp
      | false=>
       simp only[amD]
       rw[tail]
       simp only[ajP,amO]
       split<;>simp_all
   ·intro again
    unfold qQ
    dsimp only
    rw[aE (by omega)]
   ·omega
def Qz (l:List au) (i:Nat) (y:au):Bool:=match i with
 | 0=>false
 | i+1=>match l[i]? with
  | some p=>decide (y.1≤p.1)
  | none=>false
def zh (pl:Int) (rates:List aB) (lines:List au) (i:Nat) (x:au):Int:=
 if x.1<1∨99999<x.1 then 1
 else if Qz lines i x=true then 8
 else if x.2.1<1∨99999<x.2.1 then 1
 else if iC x.2.2.1=false then 5
 else if inR x.2.2.2.1 (-1000000000) 1000000000 3=false then 1
 else if x.2.2.2.1.1=0 then 13
 else if iC x.2.2.2.2.1=false then 5
 else if inR x.2.2.2.2.2.1 0 1000000000 4=false then 1
 else if x.2.2.2.2.2.2.1<1∨100000<x.2.2.2.2.2.2.1 then 1
 else if lN pl rates true x.2.2.2.2.2.2.2.1≠0 then lN pl rates true x.2.2.2.2.2.2.2.1
 else if (cB (·.1) x.2.2.2.2.2.2.2.2 rates).isSome=true then 0 else 5
theorem Ym (n:Int) (h0:0≤n) (h1:n≤18):Mj n=some (10 ^ n.toNat,()):=PE n h0 h1
theorem Qj (d:aj):pI d=some (if inR d 0 1000000000 4=true then 0 else 1,()):=by
 unfold pI Km
 rw[iu,amq]
 by_cases hd:aY d
 ·have hp:=xO d.2.toNat
  have hp2:(10:Int) ^ d.2.toNat≤1000000000:=by
   have:=amh (n:=10) (by omega) (show d.2.toNat≤9 by have:=hd.2.2;omega)
   have h2:=Int.ofNat_le.2 this
   simpa using h2
  rw[Ym d.2 hd.2.1 (by have:=hd.2.2;omega)]
  dsimp only
  rw[amQ hd,zne,amD]
  have e:inR d 0 1000000000 4=(decide (d.2≤4)&&(decide (d.1≥0)&&decide (d.1≤1000000000*10 ^ d.2.toNat))):=by
   unfold inR
   rw[← Bool.decide_and, ← Bool.decide_and,amF,akr]
   constructor
   ·rintro⟨_,h2,h3,h4⟩;exact⟨h2,h3,h4⟩
   ·rintro⟨h2,h3,h4⟩;exact⟨hd,h2,h3,h4⟩
  rw[e,amq,az (n:=1000000000*10 ^ d.2.toNat) (by omega) (by omega)]
  cases decide (d.2≤4)<;>cases decide (d.1≥0)<;>cases decide (d.1≤1000000000*10 ^ d.2.toNat)<;>rfl
 ·have:inR d 0 1000000000 4=false:=by unfold inR;simp[hd]
  simp[hd,this]
end Go.Md
namespace Go.Md
open Go.Dn
theorem Ws {l:List au} {i:Nat} (hi:i<l.length) (hl:l.length<1000000000):idx l (w64 (((i+1:Nat):Int) - 1))=l[i]? :=by
 rw[az (by omega) (by omega),show ((i+1:Nat):Int) - 1=((i:Nat):Int) by omega,bf]
theorem ajl (d:aj):(if aY d then (decide (d.2>3)|| !inR d (-1000000000) 1000000000 9) else true)= !inR d (-1000000000) 1000000000 3:=by
 by_cases h:aY d
 ·rw[amQ h,agM (pl:=3) h]
  by_cases h3:d.2≤3
  ·have:¬ d.2>3:=by omega
   simp[h3,this]
  ·have:d.2>3:=by omega
   simp[h3,this]
 ·have:inR d (-1000000000) 1000000000 3=false:=by unfold inR;simp[h]
  simp[h,this]
theorem TG (v:ah) (i:Nat) (y:au) (hl:v.2.2.2.2.2.2.1.length<1000000000) (hs:Asc (·.1) v.2.2.2.2.2.2.1) (hll:v.2.2.2.2.2.2.2.1.length<1000000000) (hy:v.2.2.2.2.2.2.2.1[i]? =some y):
 tL v (i:Int)=some (zh v.2.2.2.1 v.2.2.2.2.2.2.1 v.2.2.2.2.2.2.2.1 i y,()):=by
 unfold tL zh
 have hR:=fun t=>KU v t hl hs
 have hE:=fun l=>EO v l true hl hs
 generalize v.2.2.2.2.2.2.1=rates at*
 generalize v.2.2.2.2.2.2.2.1=lines at*
 generalize v.2.2.2.1=pl at*
 have hi:=(akS.1 hy).1
 rw[bf,hy,amq]
 simp only[kY,qD,Qj,hR,hE,amq,iu]
 by_cases c1:y.1<1∨99999<y.1
 ·simp only[c1,amK,amE,amR]
 rw[amG c1,amD,amP c1]
 have tail:(bif decide (y.2.1<1∨99999<y.2.1) then some ((1:Int),()) else bif !iC y.2.2.1 then some (5,()) else bif (if aY y.2.2.2.1 then (0:Int) else 1) != 0 then some (if aY y.2.2.2.1 then (0:Int) else 1,()) else bif decide (y.2.2.2.1.2>3) then some (1,()) else
  Option.bind (fJ y.2.2.2.1 1000000000) fun r7=>bif !r7.1 then some (1,()) else bif y.2.2.2.1.1==0 then some (13,()) else bif !iC y.2.2.2.2.1 then some (5,()) else bif (if inR y.2.2.2.2.2.1 0 1000000000 4=true then (0:Int) else 1) != 0 then some (if inR y.2.2.2.2.2.1 0 1000000000 4=true then (0:Int) else 1,()) else
  bif decide (y.2.2.2.2.2.2.1<1∨100000<y.2.2.2.2.2.2.1) then some (1,()) else bif lN pl rates true y.2.2.2.2.2.2.2.1 != 0 then some (lN pl rates true y.2.2.2.2.2.2.2.1,()) else bif !(cB (fun x:aB=>x.1) y.2.2.2.2.2.2.2.2 rates).isSome then some (5,()) else some (0,()))=
  some (if y.2.1<1∨99999<y.2.1 then 1 else if iC y.2.2.1=false then 5 else if inR y.2.2.2.1 (-1000000000) 1000000000 3=false then 1 else if y.2.2.2.1.1=0 then 13 else if iC y.2.2.2.2.1=false then 5 else if inR y.2.2.2.2.2.1 0 1000000000 4=false then 1
   else if y.2.2.2.2.2.2.1<1∨100000<y.2.2.2.2.2.2.1 then 1 else if lN pl rates true y.2.2.2.2.2.2.2.1≠0 then lN pl rates true y.2.2.2.2.2.2.2.1 else if (cB (fun x:aB=>x.1) y.2.2.2.2.2.2.2.2 rates).isSome=true then 0 else 5,()):=by
  by_cases c2:y.2.1<1∨99999<y.2.1
  ·simp only[c2,amK,amE,amR]
  rw[amG c2,amD,amP c2]
  cases iC y.2.2.1 with
  | false=>rfl
  | true=>
  simp only[ajW,amD,aj1,amO]
  have hq:=ajl y.2.2.2.1
  by_cases hd:aY y.2.2.2.1
  ·rw[amQ hd] at hq
   rw[uQ hd 1000000000 (by omega) (by omega)]
   rw[amQ hd,zne,amD,amq]
   dsimp only
   have hq':inR y.2.2.2.1 (-1000000000) 1000000000 3= !(decide (y.2.2.2.1.2>3)|| !inR y.2.2.2.1 (-1000000000) 1000000000 9):=by rw[hq,Bool.not_not]
   rw[hq']
   cases decide (y.2.2.2.1.2>3) with
   | true=>rfl
   | false=>
    cases inR y.2.2.2.1 (-1000000000) 1000000000 9 with
    | false=>rfl
    | true=>
     simp only[ajW,ajZ,ajV,amD,aj1,amO]
     by_cases c3:y.2.2.2.1.1=0
     ·rw[show (y.2.2.2.1.1==0)=true by simpa using c3,amE,amQ c3]
     ·rw[show (y.2.2.2.1.1==0)=false by simpa using c3,amD,amP c3]
      cases iC y.2.2.2.2.1 with
      | false=>rfl
      | true=>
       cases inR y.2.2.2.2.2.1 0 1000000000 4 with
       | false=>rfl
       | true=>
        simp only[ajW,amD,aj1,amO,amR]
        rw[zne,amD]
        by_cases c4:y.2.2.2.2.2.2.1<1∨100000<y.2.2.2.2.2.2.1
        ·simp only[c4,amK,amE,amR]
        ·rw[amG c4,amD,amP c4]
         by_cases c5:lN pl rates true y.2.2.2.2.2.2.2.1=0
         ·rw[c5,zne,amD,amP (by simp)]
          cases (cB (fun x:aB=>x.1) y.2.2.2.2.2.2.2.2 rates).isSome<;>rfl
         ·rw[show (lN pl rates true y.2.2.2.2.2.2.2.1 != 0)=true by simpa using c5,amE,amQ c5]
  ·rw[amP hd] at hq
   have:inR y.2.2.2.1 (-1000000000) 1000000000 3=false:=by simpa using hq.symm
   rw[this,amP hd]
   rfl
 cases i with
 | zero=>
  rw[aE (by omega),tail]
  rfl
 | succ i=>
  have hp:lines[i]? =some (lines[i]'(by omega)):=aC (by omega)
  rw[aD (by omega),Ws (by omega) hll,hp,amq]
  have ep:Qz lines (i+1) y=decide (y.1≤(lines[i]'(by omega)).1):=by simp only[Qz,hp]
  rw[ep]
  cases decide (y.1≤(lines[i]'(by omega)).1) with
  | true=>rfl
  | false=>
   rw[amD,tail]
   rfl
theorem UZ (v:ah) (i:Nat) (y:au) (hl:v.2.2.2.2.2.2.1.length<1000000000) (hp:0≤v.2.2.2.1∧v.2.2.2.1≤9) (hll:v.2.2.2.2.2.2.2.1.length<1000000000) (hy:v.2.2.2.2.2.2.2.1[i]? =some y):
 vQ v (i:Int)=some (zh v.2.2.2.1 v.2.2.2.2.2.2.1 v.2.2.2.2.2.2.2.1 i y,()):=by
 unfold vQ zh
 have hR:=fun t=>BL v t hl
 have hE:=fun l=>GJ v l true hl hp
 generalize v.2.2.2.2.2.2.1=rates at*
 generalize v.2.2.2.2.2.2.2.1=lines at*
 generalize v.2.2.2.1=pl at*
 have hi:=(akS.1 hy).1
 have hW:∀ n lo hi':Int,(!decide (lo≤n∧n≤hi'))=decide (n<lo∨hi'<n):=fun n lo hi'=>by
  rw[← decide_not,amF];omega
 rw[bf,hy,amq]
 simp only[Bt,yQ,yI _ (-1000000000) 1000000000 3 (by decide) (by decide),yI _ 0 1000000000 4 (by decide) (by decide),hR,hE,afm,amq,hW]
 by_cases c1:y.1<1∨99999<y.1
 ·simp only[c1,amK,amE,amR]
 rw[amG c1,amD,amP c1]
 have tail:(bif decide (y.2.1<1∨99999<y.2.1) then some ((1:Int),()) else bif !iC y.2.2.1 then some (5,()) else bif !inR y.2.2.2.1 (-1000000000) 1000000000 3 then some (1,()) else bif y.2.2.2.1.1==0 then some (13,()) else bif !iC y.2.2.2.2.1 then some (5,()) else bif !inR y.2.2.2.2.2.1 0 1000000000 4 then some (1,()) else
  bif decide (y.2.2.2.2.2.2.1<1∨100000<y.2.2.2.2.2.2.1) then some (1,()) else bif lN pl rates true y.2.2.2.2.2.2.2.1 != 0 then some (lN pl rates true y.2.2.2.2.2.2.2.1,()) else bif !(cB (fun x:aB=>x.1) y.2.2.2.2.2.2.2.2 rates).isSome then some (5,()) else some (0,()))=
  some (if y.2.1<1∨99999<y.2.1 then 1 else if iC y.2.2.1=false then 5 else if inR y.2.2.2.1 (-1000000000) 1000000000 3=false then 1 else if y.2.2.2.1.1=0 then 13 else if iC y.2.2.2.2.1=false then 5 else if inR y.2.2.2.2.2.1 0 1000000000 4=false then 1
   else if y.2.2.2.2.2.2.1<1∨100000<y.2.2.2.2.2.2.1 then 1 else if lN pl rates true y.2.2.2.2.2.2.2.1≠0 then lN pl rates true y.2.2.2.2.2.2.2.1 else if (cB (fun x:aB=>x.1) y.2.2.2.2.2.2.2.2 rates).isSome=true then 0 else 5,()):=by
  by_cases c2:y.2.1<1∨99999<y.2.1
  ·simp only[c2,amK,amE,amR]
  rw[amG c2,amD,amP c2]
  cases iC y.2.2.1 with
  | false=>rfl
  | true=>
   cases inR y.2.2.2.1 (-1000000000) 1000000000 3 with
   | false=>rfl
   | true=>
    simp only[ajW,amD,aj1,amO]
    by_cases c3:y.2.2.2.1.1=0
    ·rw[show (y.2.2.2.1.1==0)=true by simpa using c3,amE,amQ c3]
    ·rw[show (y.2.2.2.1.1==0)=false by simpa using c3,amD,amP c3]
     cases iC y.2.2.2.2.1 with
     | false=>rfl
     | true=>
      cases inR y.2.2.2.2.2.1 0 1000000000 4 with
      | false=>rfl
      | true=>
       simp only[ajW,amD,aj1,amO]
       by_cases c4:y.2.2.2.2.2.2.1<1∨100000<y.2.2.2.2.2.2.1
       ·simp only[c4,amK,amE,amR]
       ·rw[amG c4,amD,amP c4]
        by_cases c5:lN pl rates true y.2.2.2.2.2.2.2.1=0
        ·rw[c5,zne,amD,amP (by simp)]
         cases (cB (fun x:aB=>x.1) y.2.2.2.2.2.2.2.2 rates).isSome<;>rfl
        ·rw[show (lN pl rates true y.2.2.2.2.2.2.2.1 != 0)=true by simpa using c5,amE,amQ c5]
 cases i with
 | zero=>
  rw[aE (by omega),tail]
  rfl
 | succ i=>
  have hp:lines[i]? =some (lines[i]'(by omega)):=aC (by omega)
  rw[aD (by omega),Ws (by omega) hll,hp,amq]
  have ep:Qz lines (i+1) y=decide (y.1≤(lines[i]'(by omega)).1):=by simp only[Qz,hp]
  rw[ep]
  cases decide (y.1≤(lines[i]'(by omega)).1) with
  | true=>rfl
  | false=>
   rw[amD,tail]
   rfl
def Rk (v:ah):Int:=cT (zh v.2.2.2.1 v.2.2.2.2.2.2.1 v.2.2.2.2.2.2.2.1) 0 v.2.2.2.2.2.2.2.1
def cK (v:ah):Int:=
 if iC v.1=false then 5 else if iC v.2.1=false then 5
 else if ¬(1≤v.2.2.1∧v.2.2.1≤3652059) then 1
 else if v.2.2.2.1<0∨4<v.2.2.2.1 then 1
 else if v.2.2.2.2.1<1∨6<v.2.2.2.2.1 then 4
 else if nC v.2.2.2.2.2.2.1≠0 then nC v.2.2.2.2.2.2.1
 else if v.2.2.2.2.2.2.2.1.length=0 then 9
 else if 500<v.2.2.2.2.2.2.2.1.length then 2
 else if Rk v≠0 then Rk v
 else lN v.2.2.2.1 v.2.2.2.2.2.2.1 false v.2.2.2.2.2.2.2.2
theorem abB {γ:Type} (s:Int) (u:γ) (k:γ→Option (Int×Unit)) (z:Int) (hk:k u=some (z,())):aO (β:=Int×Unit) (γ:=γ) (if s=0 then some (Sum.inr u) else some (Sum.inl (s,()))) k=some (if s≠0 then s else z,()):=by
 by_cases h:s=0
 ·rw[amQ h,aF,hk,amP (by simpa using h)]
 ·rw[amP h,dR,amQ h]
theorem oY (v:ah):mh v=some (cK v,()):=by
 unfold mh cK
 simp only[qD,abW,kY,amq,Kk]
 cases iC v.1 with
 | false=>rfl
 | true=>
 cases iC v.2.1 with
 | false=>rfl
 | true=>
 simp only[ajW,amD,aj1,amO]
 by_cases n_c1:¬(1≤v.2.2.1∧v.2.2.1≤3652059)
 ·rw[amG n_c1,amQ n_c1];rfl
 have c1:=aj3 n_c1
 rw[amH c1,amP (by simpa using c1),ajW,amD]
 by_cases c2:v.2.2.2.1<0∨4<v.2.2.2.1
 ·rw[amH c2,amQ c2];rfl
 rw[amG c2,amP c2,amD]
 by_cases c3:v.2.2.2.2.1<1∨6<v.2.2.2.2.1
 ·rw[amH c3,amQ c3];rfl
 rw[amG c3,amP c3,ajV,ajW,amD]
 by_cases n_hrl:¬(v.2.2.2.2.2.2.1.length<1000000000)
 ·have e:nC v.2.2.2.2.2.2.1=2:=by unfold nC;rw[amP (by omega),amQ (by omega)]
  have e2:n7 v.2.2.2.2.2.2.1=some (2,()):=by
   unfold n7
   rw[CS,amG (by omega),amD,aD (by omega)]
  rw[e,e2];rfl
 have hrl:=aj3 n_hrl
 rw[Qu _ hrl,amq]
 dsimp only
 by_cases n_c4:¬(nC v.2.2.2.2.2.2.1=0)
 ·rw[show (nC v.2.2.2.2.2.2.1 != 0)=true by simpa using n_c4,amE,amQ n_c4]
 have c4:=aj3 n_c4
 obtain⟨_,_,hs,_⟩:=Uh c4
 rw[c4,zne,amD,amP (by simp),CS]
 by_cases c5:v.2.2.2.2.2.2.2.1.length=0
 ·rw[amH c5,amE,amQ c5]
 rw[amG c5,amD,amP c5]
 by_cases c6:500<v.2.2.2.2.2.2.2.1.length
 ·rw[aD (by omega),amQ c6]
 rw[aE (by omega),amP c6]
 unfold Rk
 rw[zu (f:=og) (fun i=>(((v.2.2.2.2.2.2.2.1.length:Int)),(i:Int),v.1,v.2.1,v.2.2.1,v.2.2.2.1,v.2.2.2.2.1,v.2.2.2.2.2.1,v.2.2.2.2.2.2.1,v.2.2.2.2.2.2.2.1,v.2.2.2.2.2.2.2.2,()) ) v.2.2.2.2.2.2.2.1 (zh v.2.2.2.1 v.2.2.2.2.2.2.1 v.2.2.2.2.2.2.2.1) (v.1,v.2.1,v.2.2.1,v.2.2.2.1,v.2.2.2.2.1,v.2.2.2.2.2.1,v.2.2.2.2.2.2.1,v.2.2.2.2.2.2.2.1,v.2.2.2.2.2.2.2.2,()) ?_ ?_ ?_ _ ?_]
 ·refine abB _ _ _ _ ?_
  show Option.bind (kW v v.2.2.2.2.2.2.2.2 false) _=_
  rw[EO v _ false hrl hs,amq]
 ·rfl
 ·intro i y again hy
  have hi:=(akS.1 hy).1
  unfold og
  show (bif decide ((i:Int)<(v.2.2.2.2.2.2.2.1.length:Int)) then Option.bind (tL v (i:Int)) _ else _)=_
  rw[aD (by omega),TG v i y hrl hs (by omega) hy,amq]
  dsimp only
  rw[az (n:=(i:Int)+1) (by omega) (by omega)]
  by_cases hz:zh v.2.2.2.1 v.2.2.2.2.2.2.1 v.2.2.2.2.2.2.2.1 i y=0
  ·rw[hz];rfl
  ·rw[show (zh v.2.2.2.1 v.2.2.2.2.2.2.1 v.2.2.2.2.2.2.2.1 i y != 0)=true by simpa using hz,amE,amP hz]
 ·intro again
  unfold og
  dsimp only
  rw[aE (by omega)]
 ·omega
end Go.Md
namespace Go.Md
open Go.Dn
theorem qj (v:ah):kU v=some (cK v,()):=by
 unfold kU cK
 have hW:∀ n lo hi':Int,(!decide (lo≤n∧n≤hi'))=decide (n<lo∨hi'<n):=fun n lo hi'=>by
  rw[← decide_not,amF];omega
 simp only[yQ,aeg,Bt,amq]
 cases iC v.1 with
 | false=>rfl
 | true=>
 cases iC v.2.1 with
 | false=>rfl
 | true=>
 simp only[ajW,amD,aj1,amO]
 by_cases n_c1:¬(1≤v.2.2.1∧v.2.2.1≤3652059)
 ·rw[amG n_c1,amQ n_c1];rfl
 have c1:=aj3 n_c1
 rw[amH c1,amP (by simpa using c1),ajW,amD,hW,hW]
 by_cases c2:v.2.2.2.1<0∨4<v.2.2.2.1
 ·rw[amH c2,amQ c2];rfl
 rw[amG c2,amP c2,amD]
 by_cases c3:v.2.2.2.2.1<1∨6<v.2.2.2.2.1
 ·rw[amH c3,amQ c3];rfl
 rw[amG c3,amP c3,amD,CS]
 unfold nC
 by_cases c4:v.2.2.2.2.2.2.1.length=0
 ·rw[amH c4,amE,amQ c4];rfl
 rw[amG c4,amD,amP c4]
 by_cases c5:20<v.2.2.2.2.2.2.1.length
 ·rw[aD (by omega),amQ c5];rfl
 rw[aE (by omega),amP c5]
 rw[zu (f:=oQ) (fun i=>(v.2.2.2.2.2.2.1,((v.2.2.2.2.2.2.1.length:Int)),(i:Int),v.1,v.2.1,v.2.2.1,v.2.2.2.1,v.2.2.2.2.1,v.2.2.2.2.2.1,v.2.2.2.2.2.2.1,v.2.2.2.2.2.2.2.1,v.2.2.2.2.2.2.2.2,()) ) v.2.2.2.2.2.2.1 (Ip v.2.2.2.2.2.2.1) (v.1,v.2.1,v.2.2.1,v.2.2.2.1,v.2.2.2.2.1,v.2.2.2.2.2.1,v.2.2.2.2.2.2.1,v.2.2.2.2.2.2.2.1,v.2.2.2.2.2.2.2.2,()) ?_ ?_ ?_ _ ?_]
 ·refine abB _ _ _ _ ?_
  dsimp only
  rw[CS]
  by_cases c6:v.2.2.2.2.2.2.2.1.length=0
  ·rw[amH c6,amE,amQ c6]
  rw[amG c6,amD,amP c6]
  by_cases c7:500<v.2.2.2.2.2.2.2.1.length
  ·rw[aD (by omega),amQ c7]
  rw[aE (by omega),amP c7]
  unfold Rk
  rw[zu (f:=oV) (fun i=>(((v.2.2.2.2.2.2.2.1.length:Int)),(i:Int),v.1,v.2.1,v.2.2.1,v.2.2.2.1,v.2.2.2.2.1,v.2.2.2.2.2.1,v.2.2.2.2.2.2.1,v.2.2.2.2.2.2.2.1,v.2.2.2.2.2.2.2.2,()) ) v.2.2.2.2.2.2.2.1 (zh v.2.2.2.1 v.2.2.2.2.2.2.1 v.2.2.2.2.2.2.2.1) (v.1,v.2.1,v.2.2.1,v.2.2.2.1,v.2.2.2.2.1,v.2.2.2.2.2.1,v.2.2.2.2.2.2.1,v.2.2.2.2.2.2.2.1,v.2.2.2.2.2.2.2.2,()) ?_ ?_ ?_ _ ?_]
  ·refine abB _ _ _ _ ?_
   show Option.bind (l8 v v.2.2.2.2.2.2.2.2 false) _=_
   rw[GJ v _ false (by omega) (by omega),amq]
  ·rfl
  ·intro i y again hy
   have hi:=(akS.1 hy).1
   unfold oV
   show (bif decide ((i:Int)<(v.2.2.2.2.2.2.2.1.length:Int)) then Option.bind (vQ v (i:Int)) _ else _)=_
   rw[aD (by omega),UZ v i y (by omega) (by omega) (by omega) hy,amq]
   dsimp only
   rw[az (n:=(i:Int)+1) (by omega) (by omega)]
   by_cases hz:zh v.2.2.2.1 v.2.2.2.2.2.2.1 v.2.2.2.2.2.2.2.1 i y=0
   ·rw[hz];rfl
   ·rw[show (zh v.2.2.2.1 v.2.2.2.2.2.2.1 v.2.2.2.2.2.2.2.1 i y != 0)=true by simpa using hz,amE,amP hz]
  ·intro again
   unfold oV
   dsimp only
   rw[aE (by omega)]
  ·omega
 ·rfl
 ·intro i y again hy
  have hi:=(akS.1 hy).1
  unfold oQ
  dsimp only
  rw[aD (by omega),bf,hy,amq,yQ,amq,az (n:=(i:Int)+1) (by omega) (by omega),yI y.2 0 100 9 (by decide) (by decide)]
  unfold Ip
  cases hn:iC y.1 with
  | false=>simp
  | true=>
   simp only[ajW,amD,aj1,amO,amq]
   cases i with
   | zero=>
    rw[aE (by omega)]
    simp only[Dy,ajP,amO]
    cases inR y.2 0 100 9<;>simp
   | succ i=>
    have hp:v.2.2.2.2.2.2.1[i]? =some (v.2.2.2.2.2.2.1[i]'(by omega)):=aC (by omega)
    rw[aD (by omega),ach (by omega) (by omega),hp,amq]
    have ep:Dy v.2.2.2.2.2.2.1 (i+1) y=(Op.bytesLess y.1 (v.2.2.2.2.2.2.1[i]'(by omega)).1||y.1==(v.2.2.2.2.2.2.1[i]'(by omega)).1):=by simp only[Dy,hp]
    rw[ep]
    cases (Op.bytesLess y.1 (v.2.2.2.2.2.2.1[i]'(by omega)).1||y.1==(v.2.2.2.2.2.2.1[i]'(by omega)).1) with
    | true=>simp
    | false=>cases inR y.2 0 100 9<;>simp
 ·intro again
  unfold oQ
  dsimp only
  rw[aE (by omega)]
 ·omega
structure OX (pl:Int) (x:ax):Prop where
 dec:aY x.2.1
 place:x.1=false→x.2.1.2≤pl
 nz:x.2.1.1≠0
theorem iO {pl:Int} {rates:List aB} {line:Bool} {l:List ax} (h:lN pl rates line l=0):l.length≤20∧∀ x∈l,OX pl x∧(line=true→x.2.2=[])∧(x.2.2=[]∨(cB (·.1) x.2.2 rates).isSome=true):=by
 unfold lN at h
 split at h
 ·omega
 ·refine⟨by omega,fun x hx=> ?_⟩
  obtain⟨i,hi⟩:=alo.1 hx
  have:=uV h i x hi
  unfold Yw at this
  by_cases hd:aY x.2.1
  ·rw[amQ hd] at this
   by_cases h0:x.2.1.1=0
   ·rw[amQ h0] at this;omega
   ·rw[amP h0] at this
    by_cases hr:(if x.1=true then inR x.2.1 (-100) 100 9 else inR x.2.1 (-1000000000) 1000000000 pl)=true
    ·rw[amQ hr] at this
     refine⟨⟨hd,fun hp=> ?_,h0⟩,fun hline=> ?_, ?_⟩
     ·rw[hp] at hr
      simp only[ajP,amO,inR,amI] at hr
      exact hr.2.1
     ·rw[hline] at this
      by_cases hn:x.2.2=[]
      ·exact hn
      ·rw[amP hn] at this;simp at this
     ·by_cases hn:x.2.2=[]
      ·exact .inl hn
      ·rw[amP hn] at this
       right
       cases hx2:(cB (fun x:aB=>x.1) x.2.2 rates).isSome with
       | true=>rfl
       | false=>rw[hx2] at this;cases line<;>simp at this
    ·rw[amP hr] at this;omega
  ·rw[amP hd] at this;omega
structure tN (pl:Int) (rates:List aB) (x:au):Prop where
 q:aY x.2.2.2.1
 qp:x.2.2.2.1.2≤3
 qn:x.2.2.2.1.1≠0
 p:aY x.2.2.2.2.2.1
 pp:x.2.2.2.2.2.1.2≤4
 p0:0≤x.2.2.2.2.2.1.1
 per:1≤x.2.2.2.2.2.2.1∧x.2.2.2.2.2.2.1≤100000
 ext:lN pl rates true x.2.2.2.2.2.2.2.1=0
 rate:(cB (·.1) x.2.2.2.2.2.2.2.2 rates).isSome=true
theorem af1 {pl:Int} {rates:List aB} {lines:List au} {i:Nat} {x:au} (h:zh pl rates lines i x=0):tN pl rates x:=by
 unfold zh at h
 split at h
 ·omega
 split at h
 ·omega
 split at h
 ·omega
 split at h
 ·omega
 split at h
 ·omega
 rename_i h1
 split at h
 ·omega
 rename_i h2
 split at h
 ·omega
 split at h
 ·omega
 rename_i h3
 split at h
 ·omega
 rename_i h4
 split at h
 ·omega
 rename_i h5
 split at h
 ·rename_i h6
  have h1':inR x.2.2.2.1 (-1000000000) 1000000000 3=true:=by simpa using h1
  have h3':inR x.2.2.2.2.2.1 0 1000000000 4=true:=by simpa using h3
  unfold inR at h1' h3'
  rw[amI] at h1' h3'
  exact⟨h1'.1,h1'.2.1,h2,h3'.1,h3'.2.1,by have:=h3'.2.2.1;rw[akr] at this;exact this,by omega,by omega,h6⟩
 ·omega
structure jW (v:ah):Prop where
 pl:0≤v.2.2.2.1∧v.2.2.2.1≤4
 way:1≤v.2.2.2.2.1∧v.2.2.2.2.1≤6
 rn:0<v.2.2.2.2.2.2.1.length∧v.2.2.2.2.2.2.1.length≤20
 asc:Asc (·.1) v.2.2.2.2.2.2.1
 rates:∀ r∈v.2.2.2.2.2.2.1,inR r.2 0 100 9=true
 ln:0<v.2.2.2.2.2.2.2.1.length∧v.2.2.2.2.2.2.2.1.length≤500
 lines:∀ x∈v.2.2.2.2.2.2.2.1,tN v.2.2.2.1 v.2.2.2.2.2.2.1 x
 ext:lN v.2.2.2.1 v.2.2.2.2.2.2.1 false v.2.2.2.2.2.2.2.2=0
theorem gh {v:ah} (h:cK v=0):jW v:=by
 unfold cK at h
 split at h
 ·omega
 split at h
 ·omega
 split at h
 ·omega
 split at h
 ·omega
 split at h
 ·omega
 split at h
 ·omega
 rename_i h1
 split at h
 ·omega
 split at h
 ·omega
 split at h
 ·omega
 rename_i h2
 have hr:=Uh (show nC v.2.2.2.2.2.2.1=0 by omega)
 refine⟨by omega,by omega,⟨hr.1,hr.2.1⟩,hr.2.2.1,hr.2.2.2,by omega,fun x hx=> ?_,h⟩
 obtain⟨i,hi⟩:=alo.1 hx
 have:=uV (show Rk v=0 by omega) i x hi
 exact af1 this
end Go.Md
namespace Go.Md
open Go.Dn
abbrev MU:Int:=1000000000000000
def vX (v:ah) (x:au):Int:=
 rnd v.2.2.2.2.1 (x.2.2.2.1.1*x.2.2.2.2.2.1.1*10 ^ v.2.2.2.1.toNat) (10 ^ (x.2.2.2.1.2+x.2.2.2.2.2.1.2).toNat*x.2.2.2.2.2.2.1.toNat)
theorem Le.dec {d:aj} (h:aY d):Le 15 d.1:=by
 have:=h.1
 unfold Le;omega
theorem Le.i1 {n:Int} (h1: -9223372036854775808≤n) (h2:n≤9223372036854775807):n.natAbs<4294967296 ^ 99:=(Le.int h1 h2).w (by omega)
theorem Nh (k:Nat):((10 ^ k:Nat):Int)=10 ^ k:=by simp
theorem UK {v:ah} {x:au} (hv:jW v) (hx:tN v.2.2.2.1 v.2.2.2.2.2.2.1 x):Le 34 (x.2.2.2.1.1*x.2.2.2.2.2.1.1*10 ^ v.2.2.2.1.toNat):=
 ((Le.dec hx.q).mul (Le.dec hx.p)).mul ((Le.pow v.2.2.2.1.toNat).mono (by have:=hv.pl;omega:_≤4))
theorem YW {v:ah} {x:au} (hx:tN v.2.2.2.1 v.2.2.2.2.2.2.1 x):0<10 ^ (x.2.2.2.1.2+x.2.2.2.2.2.1.2).toNat*x.2.2.2.2.2.2.1.toNat∧Le 12 ((10 ^ (x.2.2.2.1.2+x.2.2.2.2.2.1.2).toNat*x.2.2.2.2.2.2.1.toNat:Nat):Int):=by
 have h1:=hx.qp;have h2:=hx.pp;have h3:=hx.per
 refine⟨Nat.mul_pos (ami (by omega)) (by omega), ?_⟩
 have:Le (7+5) (((10 ^ (x.2.2.2.1.2+x.2.2.2.2.2.1.2).toNat:Nat):Int)*((x.2.2.2.2.2.2.1.toNat:Nat):Int)):=Le.mul (by rw[Nh];exact (Le.pow _).mono (by omega)) (Le.nat (by omega))
 rw[← akg] at this
 exact this
theorem El {n:Int} (h0:0≤n) (h1:n≤60):o7 n=some (W (10 ^ n.toNat),()):=by
 obtain⟨m,rfl⟩:∃ m:Nat,n=m:=⟨n.toNat,by omega⟩
 exact Nk m (by omega)
theorem Em {n:Int} (h0:0≤n) (h1:n≤40):xH n=some (N (10 ^ n.toNat),()):=by
 obtain⟨m,rfl⟩:∃ m:Nat,n=m:=⟨n.toNat,by omega⟩
 exact Un m (by omega)
theorem DZ (z:Int):ke (W z)=some (decide (z.natAbs≤MU),()):=by
 unfold ke
 rw[uK z _ (by omega) (by omega),amq]
 by_cases h:(z.natAbs:Int)≤1000000000000000
 ·rw[amQ h,amH h]
 ·rw[amP h,amG h]
theorem aay {v:ah} {x:au} (hv:jW v) (hx:tN v.2.2.2.1 v.2.2.2.2.2.2.1 x):Ig v x=some (W (vX v x),decide ((vX v x).natAbs≤MU),()):=by
 have hq:=hx.q.1;have hp:=hx.p.1;have hper:=hx.per;have hpl:=hv.pl;have h1:=hx.qp;have h2:=hx.pp;have h3:=hx.q.2.1;have h4:=hx.p.2.1
 have hL:=UK hv hx
 have hD:=YW hx
 unfold Ig
 rw[gq _ (by omega) (by omega),amq,gq _ (by omega) (by omega),amq]
 dsimp only
 rw[iq _ _ ((Le.dec hx.q).w (by omega)) ((Le.dec hx.p).w (by omega)),amq,El (by omega) (by omega),amq]
 dsimp only
 rw[iq _ _ (((Le.dec hx.q).mul (Le.dec hx.p)).w (by omega)) ((Le.pow _).w (by omega)),amq,az (by omega) (by omega),El (by omega) (by omega),amq,gq _ (by omega) (by omega),amq]
 dsimp only
 rw[iq _ _ ((Le.pow _).w (by omega)) (Le.i1 (by omega) (by omega)),amq]
 have e:(10:Int) ^ (x.2.2.2.1.2+x.2.2.2.2.2.1.2).toNat*x.2.2.2.2.2.2.1=((10 ^ (x.2.2.2.1.2+x.2.2.2.2.2.1.2).toNat*x.2.2.2.2.2.2.1.toNat:Nat):Int):=by
  rw[akg,Nh,Int.toNat_of_nonneg (by omega)]
 dsimp only
 rw[e,Ib _ _ _ hD.1 (hL.mono (by omega)) (hD.2.mono (by omega)),amq]
 dsimp only
 rw[DZ,amq]
 rfl
theorem Nl (v:ah) (a:Int) (b:Nat) (hb:0<b) (ha:Le 300 a) (hb2:Le 300 (b:Int)):AA v (N a) (N (b:Int))=some (if (rnd v.2.2.2.2.1 a b).natAbs≤MU then (rnd v.2.2.2.2.1 a b,true,()) else (0,false,())):=by
 unfold AA
 rw[aeC a b _ hb (ha.mono (by omega)) (hb2.mono (by omega)),amq]
 dsimp only
 rw[Gq _ _ (by omega) (by omega) ((abI ha).mono (by omega)),amq]
theorem ac9 {v:ah} {x:au} (hv:jW v) (hx:tN v.2.2.2.1 v.2.2.2.2.2.2.1 x):Lf v x=some (if (vX v x).natAbs≤MU then (vX v x,true,()) else (0,false,())):=by
 have hq:=hx.q.1;have hp:=hx.p.1;have hper:=hx.per;have hpl:=hv.pl;have h1:=hx.qp;have h2:=hx.pp;have h3:=hx.q.2.1;have h4:=hx.p.2.1
 have hL:=UK hv hx
 have hD:=YW hx
 have l1:=(Le.dec hx.q).n (by omega);have l2:=(Le.dec hx.p).n (by omega);have l3:=((Le.dec hx.q).mul (Le.dec hx.p)).n (by omega)
 have l4:=(Le.pow v.2.2.2.1.toNat).n (by omega)
 have l5:=(Le.pow (x.2.2.2.1.2+x.2.2.2.2.2.1.2).toNat).n (by omega)
 have l6:=(Le.int (n:=x.2.2.2.2.2.2.1) (by omega) (by omega)).n (by omega)
 unfold Lf
 rw[iy _ (by omega) (by omega),amq,iy _ (by omega) (by omega),amq]
 dsimp only
 rw[gH _ _ (by omega) (by omega),amq,Em (by omega) (by omega),amq]
 dsimp only
 rw[gH _ _ (by omega) (by omega),amq,az (by omega) (by omega),Em (by omega) (by omega),amq,iy _ (by omega) (by omega),amq]
 dsimp only
 rw[gH _ _ (by omega) (by omega),amq]
 have e:(10:Int) ^ (x.2.2.2.1.2+x.2.2.2.2.2.1.2).toNat*x.2.2.2.2.2.2.1=((10 ^ (x.2.2.2.1.2+x.2.2.2.2.2.1.2).toNat*x.2.2.2.2.2.2.1.toNat:Nat):Int):=by
  rw[akg,Nh,Int.toNat_of_nonneg (by omega)]
 dsimp only
 rw[e,Nl v _ _ hD.1 (hL.mono (by omega)) (hD.2.mono (by omega)),amq]
 rfl
def jg (way n:Int) (d:aj):Int:=rnd way (n*d.1) (100*10 ^ d.2.toNat)
theorem acX (d:aj) (h:aY d):0<100*10 ^ d.2.toNat∧Le 11 ((100*10 ^ d.2.toNat:Nat):Int):=by
 refine⟨Nat.mul_pos (by omega) (ami (by omega)), ?_⟩
 have:=h.2.2
 have h2:Le (2+9) ((100:Int)*((10 ^ d.2.toNat:Nat):Int)):=Le.mul (by unfold Le;decide) (by rw[Nh];exact (Le.pow _).mono (by omega))
 rw[show (100:Int)=((100:Nat):Int) from rfl, ← akg] at h2
 exact h2
theorem YH {way n:Int} {d:aj} {k:Nat} (hn:Le k n) (hd:aY d):Le (k+16) (jg way n d):=abI (k:=k+15) (hn.mul (Le.dec hd))
theorem DT (v:ah) (n:Int) (d:aj) (hd:aY d) (hn:Le 300 n):rj v (W n) d=some (W (jg v.2.2.2.2.1 n d),()):=by
 have h1:=hd.1;have h2:=hd.2
 have hD:=acX d hd
 unfold rj
 rw[gq _ (by omega) (by omega),amq]
 dsimp only
 rw[iq _ _ (hn.w (by omega)) ((Le.dec hd).w (by omega)),amq,gq 100 (by omega) (by omega),amq,El (by omega) (by omega),amq]
 dsimp only
 rw[iq _ _ (Le.i1 (by omega) (by omega)) ((Le.pow _).w (by omega)),amq]
 dsimp only
 have e:(100:Int)*10 ^ d.2.toNat=((100*10 ^ d.2.toNat:Nat):Int):=by rw[akg,Nh];rfl
 rw[e,Ib _ _ _ hD.1 ((hn.mul (Le.dec hd)).mono (by omega)) (hD.2.mono (by omega)),amq]
 rfl
theorem MN (v:ah) (n:Int) (d:aj) (hd:aY d) (hn:n.natAbs≤9000000000000000000):o6 v n d=some (if (jg v.2.2.2.2.1 n d).natAbs≤MU then (jg v.2.2.2.2.1 n d,true,()) else (0,false,())):=by
 have h1:=hd.1;have h2:=hd.2
 have hD:=acX d hd
 have hn':Le 19 n:=Le.int (by omega) (by omega)
 have l1:=hn'.n (by omega);have l2:=(Le.dec hd).n (by omega);have l3:=(Le.pow d.2.toNat).n (by omega)
 have l4:(dg6 (Int.natAbs 100)).length<90:=(Le.int (n:=100) (by omega) (by omega)).n (by omega)
 unfold o6
 rw[iy _ (by omega) (by omega),amq,iy _ (by omega) (by omega),amq]
 dsimp only
 rw[gH _ _ (by omega) (by omega),amq,Em (by omega) (by omega),amq,iy 100 (by omega) (by omega),amq]
 dsimp only
 rw[gH _ _ (by omega) (by omega),amq]
 dsimp only
 have e:(10:Int) ^ d.2.toNat*100=((100*10 ^ d.2.toNat:Nat):Int):=by rw[akg,Nh,Int.mul_comm];rfl
 rw[e,Nl v _ _ hD.1 ((hn'.mul (Le.dec hd)).mono (by omega)) (hD.2.mono (by omega)),amq]
 rfl
def gA (way pl g:Int) (x:ax):Int:=if x.1=true then jg way g x.2.1 else x.2.1.1*10 ^ (pl - x.2.1.2).toNat
theorem ahF (d:aj) (p:Int) (hd:aY d) (hp:d.2≤p) (hp2:p≤9):Lr d p=some (N (d.1*10 ^ (p - d.2).toNat),()):=by
 have h1:=hd.1;have h2:=hd.2
 have l2:=(Le.dec hd).n (by omega);have l3:=(Le.pow (p - d.2).toNat).n (by omega)
 unfold Lr
 rw[iy _ (by omega) (by omega),amq,az (by omega) (by omega),Em (by omega) (by omega),amq]
 dsimp only
 rw[gH _ _ (by omega) (by omega),amq]
theorem Pn (v:ah) (x:ax) (n:Int) (hpl:0≤v.2.2.2.1∧v.2.2.2.1≤4) (hx:OX v.2.2.2.1 x) (hn:n.natAbs≤9000000000000000000):D6 v x n=some (if (gA v.2.2.2.2.1 v.2.2.2.1 n x).natAbs≤MU then (gA v.2.2.2.2.1 v.2.2.2.1 n x,true,()) else (0,false,())):=by
 unfold D6 gA
 cases hp:x.1 with
 | true=>
  rw[amE,MN v n _ hx.dec hn,amq]
  simp only[amR]
 | false=>
  have h1:=hx.place hp;have h2:=hx.dec.2
  rw[amD,ahF _ _ hx.dec h1 (by omega),amq]
  dsimp only
  rw[Gq _ _ (by omega) (by omega) (((Le.dec hx.dec).mul (Le.pow _)).mono (by omega)),amq]
  simp only[ajP,amO]
end Go.Md
namespace Go.Md
open Go.Dn
def qv (am:ax→Int):List ax→Int→Option Int
 | [],n=>some n
 | x::r,n=>if (am x).natAbs≤MU∧(n+am x).natAbs≤MU then qv am r (n+am x) else none
def EA (am:ax→Int) (l:List ax):Int:=(l.map am).sum
theorem Zh {am:ax→Int}:∀ {l:List ax} {n m:Int},qv am l n=some m→m=n+EA am l
 | [],n,m,h=>by simp only[qv,Option.some.injEq] at h;simp[EA,h]
 | x::r,n,m,h=>by
  simp only[qv] at h
  split at h
  ·have:=Zh h
   simp only[EA,alf,alI] at this ⊢
   omega
  ·cases h
theorem Xb {am:ax→Int}:∀ {l:List ax} {n m:Int},n.natAbs≤MU→qv am l n=some m→m.natAbs≤MU
 | [],n,m,hn,h=>by simp only[qv,Option.some.injEq] at h;subst h;exact hn
 | x::r,n,m,hn,h=>by
  simp only[qv] at h
  split at h
  ·rename_i hc;exact Xb hc.2 h
  ·cases h
def CA (v:ah) (x:au):Option Int:=
 if (vX v x).natAbs≤MU then qv (gA v.2.2.2.2.1 v.2.2.2.1 (vX v x)) x.2.2.2.2.2.2.2.1 (vX v x) else none
def ah2 (v:ah) (x:au):Int:=vX v x+EA (gA v.2.2.2.2.1 v.2.2.2.1 (vX v x)) x.2.2.2.2.2.2.2.1
theorem Sa {v:ah} {x:au} {m:Int} (h:CA v x=some m):m=ah2 v x∧m.natAbs≤MU:=by
 unfold CA at h
 split at h
 ·rename_i hc;exact⟨Zh h,Xb hc h⟩
 ·cases h
theorem ai8 {way pl g:Int} {x:ax} {k:Nat} (hk:8≤k) (hpl:0≤pl∧pl≤4) (hx:OX pl x) (hg:Le k g):Le (k+16) (gA way pl g x):=by
 unfold gA
 split
 ·exact YH hg hx.dec
 ·have:=hx.dec.2
  exact ((Le.dec hx.dec).mul (Le.pow _)).mono (by omega)
theorem aeq {v:ah} {x:au} (hv:jW v) (hx:tN v.2.2.2.1 v.2.2.2.2.2.2.1 x):Ph v x=some (W (ah2 v x),(CA v x).isSome,()):=by
 have hpl:=hv.pl
 obtain⟨hl,hex⟩:=iO hx.ext
 have hG:Le 35 (vX v x):=abI (UK hv hx)
 unfold Ph
 rw[aay hv hx,amq]
 dsimp only
 unfold CA ah2
 generalize x.2.2.2.2.2.2.2.1=l at*
 generalize vX v x=g at*
 obtain⟨a,b,c,d,e,f,rt,ln,k⟩:=v
 dsimp only at*
 have key:∀ f',l.length<f'→iter f' ((decide (g.natAbs≤MU),l,(l.length:Int),(0:Int),a,b,c,d,e,f,rt,ln,k,false,([]:List Int),(W g).1,(W g).2,(W g).1,(W g).2,()):AQ) FR=
  some (Sum.inr (decide (g.natAbs≤MU)&&(qv (gA e d g) l g).isSome,false,[],(W (g+EA (gA e d g) l)).1,(W (g+EA (gA e d g) l)).2,())):=by
  intro f' hf
  refine aZ (Inv:=fun i X=>∃ (ok:Bool) (n:Int),X=((ok,l,(l.length:Int),(i:Int),a,b,c,d,e,f,rt,ln,k,false,([]:List Int),(W g).1,(W g).2,(W n).1,(W n).2,()):AQ)∧(ok&&(qv (gA e d g) (l.drop i) n).isSome)=(decide (g.natAbs≤MU)&&(qv (gA e d g) l g).isSome)∧n+EA (gA e d g) (l.drop i)=g+EA (gA e d g) l∧Le (52+i) n) l.length
   (fun r=>r=some (Sum.inr (decide (g.natAbs≤MU)&&(qv (gA e d g) l g).isSome,false,[],(W (g+EA (gA e d g) l)).1,(W (g+EA (gA e d g) l)).2,()))) ?_ ?_ f' 0 _ ⟨_,g,rfl,by simp,by simp,hG.mono (by omega)⟩ (by omega) (by omega)
  ·rintro i _ again hi ⟨ok,n,rfl,h1,h2,h3⟩ ih
   unfold FR
   dsimp only
   have hy:l[i]? =some l[i]:=aC hi
   have hym:l[i]∈l:=ak1 hi
   have hcons:=vJ hy
   generalize l[i]=y at hy hcons hym
   obtain⟨hyo,_,_⟩:=hex y hym
   have hd1:=hyo.dec.1;have hd2:=hyo.dec.2
   rw[hcons] at h1 h2
   have hA:=ai8 (way:=e) (by omega) hpl hyo hG
   have hmx:(if y.2.1.2>d then y.2.1.2 else d)=max d y.2.1.2:=by omega
   rw[aD (by omega),bf,hy,amq,hmx,B6 _ _ (by omega) (by omega) (by omega) (by omega) (by omega),amq]
   dsimp only
   have hjoin:∀ K,aO (β:=((aa×Bool×Unit) ⊕ (Bool×Bool×(List Int)×Bool×(List Int)×Unit))) (bif y.1 then Option.bind (rj (a,b,c,d,e,f,rt,ln,k) ((W g).1,(W g).2) y.2.1) fun r4=>some (Sum.inr (ok,l,(l.length:Int),(i:Int),a,b,c,d,e,f,rt,ln,k,false,([]:List Int),(W g).1,(W g).2,(W n).1,(W n).2,r4.1.1,r4.1.2,())) else some (Sum.inr (ok,l,(l.length:Int),(i:Int),a,b,c,d,e,f,rt,ln,k,false,([]:List Int),(W g).1,(W g).2,(W n).1,(W n).2,(W (y.2.1.1*10 ^ (max d y.2.1.2 - y.2.1.2).toNat)).1,(W (y.2.1.1*10 ^ (max d y.2.1.2 - y.2.1.2).toNat)).2,()))) K=
    K (ok,l,(l.length:Int),(i:Int),a,b,c,d,e,f,rt,ln,k,false,([]:List Int),(W g).1,(W g).2,(W n).1,(W n).2,(W (gA e d g y)).1,(W (gA e d g y)).2,()):=by
    intro K
    unfold gA
    cases hp:y.1 with
    | true=>
     rw[amE,show ((W g).1,(W g).2)=W g from rfl,DT _ g _ hyo.dec (hG.mono (by omega)),amq,aF]
     simp only[amR]
    | false=>
     have:=hyo.place hp
     rw[amD,aF,show max d y.2.1.2=d by omega]
     simp only[ajP,amO]
   rw[hjoin]
   dsimp only
   generalize hzd:gA e d g y=z at*
   have hz:Le (52+i) z:=hA.mono (by omega)
   rw[show ((W n).1,(W n).2)=W n from rfl,show ((W z).1,(W z).2)=W z from rfl,dZ _ _ (h3.w (by omega)) (hz.w (by omega)),amq]
   dsimp only
   rw[DZ,DZ,amq,amq,az (by omega) (by omega)]
   have hs:n+z+EA (gA e d g) (l.drop (i+1))=g+EA (gA e d g) l:=by
    rw[← h2]
    simp only[EA,alf,alI,hzd]
    omega
   have hn:qv (gA e d g) (y::l.drop (i+1)) n=if z.natAbs≤MU∧(n+z).natAbs≤MU then qv (gA e d g) (l.drop (i+1)) (n+z) else none:=by simp only[qv,hzd]
   rw[hn] at h1
   cases ok with
   | false=>
    rw[amD]
    exact ih _ ⟨false,n+z,rfl,by simpa using h1,hs,h3.add hz⟩
   | true=>
    rw[amE]
    by_cases f1:(z.natAbs:Int)≤MU
    ·rw[amH f1,amE]
     refine ih _ ⟨_,n+z,rfl, ?_,hs,h3.add hz⟩
     by_cases f2:((n+z).natAbs:Int)≤MU
     ·rw[amH f2, ← h1,amQ ⟨f1,f2⟩]
     ·rw[amG f2, ← h1,amP (fun h=>f2 h.2)];rfl
    ·rw[amG f1,amD]
     refine ih _ ⟨false,n+z,rfl, ?_,hs,h3.add hz⟩
     rw[← h1,amP (fun h=>f1 h.1)];rfl
  ·rintro _ again ⟨ok,n,rfl,h1,h2,h3⟩
   unfold FR
   dsimp only
   rw[aE (by omega)]
   rw[List.drop_length] at h1 h2
   simp only[qv,amv,ajN,EA,alg,List.sum_nil,aj4] at h1 h2
   rw[h1,h2]
   rfl
 rw[key _ (by omega),aF]
 dsimp only
 congr 3
 by_cases hg:(g.natAbs:Int)≤MU
 ·rw[amH hg,amQ hg,aj0]
 ·rw[amG hg,amP hg];rfl
theorem lS (n:Int):nP n=some (decide (n.natAbs≤MU),()):=by
 unfold nP
 rw[Bt,amq]
 congr 2
 rw[amF]
 show _↔(n.natAbs:Int)≤1000000000000000
 omega
def ai4:Option Int→Option Im
 | some m=>some (Sum.inr (m,()))
 | none=>some (Sum.inl (0,false,()))
def ahR:Option Int→Int×Bool×Unit
 | some n=>(n,true,())
 | none=>(0,false,())
theorem WZ {v:ah} {x:au} (hv:jW v) (hx:tN v.2.2.2.1 v.2.2.2.2.2.2.1 x):S6 v x=some (ahR (CA v x)):=by
 have hpl:=hv.pl
 obtain⟨hl,hex⟩:=iO hx.ext
 unfold S6
 rw[ac9 hv hx,amq]
 unfold CA
 generalize x.2.2.2.2.2.2.2.1=l at*
 generalize vX v x=g at*
 by_cases hg:(g.natAbs:Int)≤MU
 ·rw[amQ hg,amQ hg]
  have hg':(g.natAbs:Int)≤1000000000000000:=hg
  dsimp only
  rw[ajW,amD]
  obtain⟨a,b,c,d,e,f,rt,ln,k⟩:=v
  dsimp only at*
  have key:∀ f',l.length<f'→iter f' ((g,g,l,(l.length:Int),(0:Int),a,b,c,d,e,f,rt,ln,k,()):Ep) Ir=ai4 (qv (gA e d g) l g):=by
   intro f' hf
   refine aZ (Inv:=fun i X=>∃ n:Int,X=((g,n,l,(l.length:Int),(i:Int),a,b,c,d,e,f,rt,ln,k,()):Ep)∧qv (gA e d g) (l.drop i) n=qv (gA e d g) l g∧n.natAbs≤MU) l.length
    (fun r=>r=ai4 (qv (gA e d g) l g)) ?_ ?_ f' 0 _ ⟨g,rfl,rfl,hg⟩ (by omega) (by omega)
   ·rintro i _ again hi ⟨n,rfl,h1,h3⟩ ih
    unfold Ir
    dsimp only
    have hy:l[i]? =some l[i]:=aC hi
    have hym:l[i]∈l:=ak1 hi
    have hcons:=vJ hy
    generalize l[i]=y at hy hcons hym
    obtain⟨hyo,_,_⟩:=hex y hym
    rw[hcons] at h1
    simp only[qv] at h1
    have h3':(n.natAbs:Int)≤1000000000000000:=h3
    rw[aD (by omega),bf,hy,amq,Pn (a,b,c,d,e,f,rt,ln,k) y g hpl hyo (by omega),amq]
    dsimp only
    generalize gA e d g y=z at*
    by_cases f1:(z.natAbs:Int)≤MU
    ·have f1':(z.natAbs:Int)≤1000000000000000:=f1
     rw[amQ f1]
     dsimp only
     rw[ajW,amD,az (n:=n+z) (by omega) (by omega),lS,amq,az (by omega) (by omega)]
     by_cases f2:((n+z).natAbs:Int)≤MU
     ·rw[amQ ⟨f1,f2⟩] at h1
      rw[amH f2,ajW,amD]
      exact ih _ ⟨n+z,rfl,h1,f2⟩
     ·rw[amP (fun h=>f2 h.2)] at h1
      rw[amG f2, ← h1]
      rfl
    ·rw[amP (fun h=>f1 h.1)] at h1
     rw[amP f1, ← h1]
     rfl
   ·rintro _ again ⟨n,rfl,h1,h3⟩
    unfold Ir
    dsimp only
    rw[aE (by omega)]
    rw[List.drop_length] at h1
    rw[← h1]
    rfl
  rw[key _ (by omega)]
  cases qv (gA e d g) l g<;>rfl
 ·rw[amP hg,amP hg]
  rfl
theorem adx:Ro=some (true,()):=by kernel_rfl
end Go.Md
