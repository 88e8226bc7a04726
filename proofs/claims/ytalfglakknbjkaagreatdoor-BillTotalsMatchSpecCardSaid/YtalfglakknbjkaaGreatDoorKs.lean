/-
  Plain facts: what is wrong with an invoice; gross and net. No condition.
-/
import Derived.Test.YtalfglakknbjkaaGreatDoorKr
set_option linter.all false
namespace Go.Md
open Go.Dn
theorem s6:∀ a:List UInt8,Op.bytesLess a a=false
 | []=>rfl
 | x::a=>by simp [Op.bytesLess,s6 a]
theorem PE:∀ {a b:List UInt8},Lib.compareBytes a b=0↔a=b
 | [],[]=>by simp [Lib.compareBytes]
 | [],_::_=>by simp [Lib.compareBytes]
 | _::_,[]=>by simp [Lib.compareBytes]
 | x::a,y::b=>by
  simp only [Lib.compareBytes,List.cons.injEq]
  by_cases h1:x<y
  ·simp only [h1,agL]
   constructor
   ·intro h;omega
   ·rintro ⟨rfl,_⟩;exact absurd h1 (UInt8.lt_irrefl x)
  ·by_cases h2:y<x
   ·simp only [h1,h2,agL,agK]
    constructor
    ·intro h;omega
    ·rintro ⟨rfl,_⟩;exact absurd h2 (UInt8.lt_irrefl x)
   ·have:x=y:=UInt8.le_antisymm (agx.1 h2) (agx.1 h1)
    subst this
    simp only [h1,agK,true_and]
    exact PE
theorem MT:∀ {a b:List UInt8},Lib.compareBytes a b<0↔Op.bytesLess a b=true
 | [],[]=>by simp [Lib.compareBytes,Op.bytesLess]
 | [],_::_=>by simp [Lib.compareBytes,Op.bytesLess]
 | _::_,[]=>by simp [Lib.compareBytes,Op.bytesLess]
 | x::a,y::b=>by
  have ih:= @MT a b
  simp only [Lib.compareBytes,Op.bytesLess]
  by_cases h1:x<y
  ·simp [h1]
  ·by_cases h2:y<x
   ·have hne:¬ x=y:=fun e=>by subst e;exact absurd h2 (UInt8.lt_irrefl x)
    simp [h1,h2,hne]
   ·have:x=y:=UInt8.le_antisymm (agx.1 h2) (agx.1 h1)
    subst this
    simp [h1,ih]
theorem Ez:∀ {a b c:List UInt8},Op.bytesLess a b=true→Op.bytesLess b c=true→Op.bytesLess a c=true
 | [],[],_,h,_=>by simp [Op.bytesLess] at h
 | [],_::_,[],_,h=>by simp [Op.bytesLess] at h
 | [],_::_,_::_,_,_=>rfl
 | _::_,[],_,h,_=>by simp [Op.bytesLess] at h
 | _::_,_::_,[],_,h=>by simp [Op.bytesLess] at h
 | x::a,y::b,z::c,h,k=>by
  simp only [Op.bytesLess,aeg,ad5,decide_eq_true_eq,agz] at h k ⊢
  rcases h with h | ⟨rfl,h⟩
  ·rcases k with k | ⟨rfl,k⟩
   ·exact .inl (UInt8.lt_trans h k)
   ·exact .inl h
  ·rcases k with k | ⟨rfl,k⟩
   ·exact .inl k
   ·exact .inr ⟨rfl,Ez h k⟩
theorem abf (a b:List UInt8):Op.bytesLess a b=true∨a=b∨Op.bytesLess b a=true:=by
 induction a generalizing b with
 | nil=>cases b with
  | nil=>simp
  | cons y b=>simp [Op.bytesLess]
 | cons x a ih=>cases b with
  | nil=>simp [Op.bytesLess]
  | cons y b=>
   simp only [Op.bytesLess,aeg,ad5,decide_eq_true_eq,agz,List.cons.injEq]
   by_cases h1:x<y
   ·simp [h1]
   ·by_cases h2:y<x
    ·simp [h2]
    ·have:x=y:=UInt8.le_antisymm (agx.1 h2) (agx.1 h1)
     subst this
     rcases ih b with h | h | h<;>simp [h]
def Asc {α:Type} (key:α→List UInt8) (l:List α):Prop:=∀ (i j:Nat) (x y:α),i<j→l[i]? =some x→l[j]? =some y→Op.bytesLess (key x) (key y)=true
def cn {α:Type} (key:α→List UInt8) (t:List UInt8) (l:List α):Option Nat:=l.findIdx? (fun r=>key r==t)
theorem jG {α:Type} {key:α→List UInt8} {t:List UInt8} {l:List α} {k:Nat} (h:cn key t l=some k):∃ x,l[k]? =some x∧key x=t:=by
 unfold cn at h
 rw [List.findIdx?_eq_some_iff_getElem] at h
 obtain ⟨h1,h2,_⟩:=h
 exact ⟨_,List.getElem?_eq_getElem h1,by simpa using h2⟩
theorem abE {α:Type} {key:α→List UInt8} {t:List UInt8} {l:List α} (h:cn key t l=none):∀ x∈l,key x≠t:=by
 unfold cn at h
 rw [List.findIdx?_eq_none_iff] at h
 intro x hx e
 have:=h x hx
 simp [e] at this
theorem ZN {α:Type} {key:α→List UInt8} {t:List UInt8} {l:List α} (hs:Asc key l) {k:Nat} {x:α} (hk:l[k]? =some x) (hx:key x=t):cn key t l=some k:=by
 cases h:cn key t l with
 | none=>exact absurd hx (abE h x (List.mem_of_getElem? hk))
 | some j=>
  obtain ⟨y,h1,h2⟩:=jG h
  rcases af8 j k with hlt | rfl | hlt
  ·have:=hs j k y x hlt h1 hk
   rw [h2,hx,s6] at this;cases this
  ·rfl
  ·have:=hs k j x y hlt hk h1
   rw [h2,hx,s6] at this;cases this
def ixI:Option Nat→Int
 | some k=>(k:Int)
 | none=> -1
theorem Z3 (o:Option Nat):decide (ixI o<0)= !o.isSome:=by
 cases o with
 | none=>rfl
 | some k=>exact agD (by simp only [ixI];omega)
theorem Au (v:ah) (t:List UInt8) (hl:v.2.2.2.2.2.2.1.length<1000000000):fJ v t=some (ixI (cn (·.1) t v.2.2.2.2.2.2.1),()):=by
 unfold fJ
 generalize v.2.2.2.2.2.2.1=l at*
 have loop:∀ f,l.length<f→iter f ((t,l,(l.length:Int),(0:Int),()):vg) Aj=(match cn (·.1) t l with | some k=>some (Sum.inl ((k:Int),())) | none=>some (Sum.inr ())):=by
  intro f hf
  refine bn (Inv:=fun i X=>X=((t,l,(l.length:Int),(i:Int),()):vg)∧∀ j x,j<i→l[j]? =some x→x.1≠t) l.length
   (fun r=>r=(match cn (·.1) t l with | some k=>some (Sum.inl ((k:Int),())) | none=>some (Sum.inr ()))) ?_ ?_ f 0 _ ⟨rfl,fun _ _ h=>absurd h (agf _)⟩ (by omega) (by omega)
  ·rintro i _ again hi ⟨rfl,hb⟩ ih
   unfold Aj
   dsimp only
   have hy:l[i]? =some l[i]:=aH hi
   generalize l[i]=y at hy
   rw [aE (by omega),bh,hy,Option.bind_some]
   by_cases he:y.1=t
   ·rw [show (y.1==t)=true by simpa using he,cond_true]
    have:cn (·.1) t l=some i:=by
     unfold cn
     rw [List.findIdx?_eq_some_iff_getElem]
     refine ⟨hi, ?_,fun j hj=> ?_⟩
     ·have:=(List.getElem?_eq_some_iff.1 hy).2
      rw [this];simpa using he
     ·have:=hb j l[j] hj (List.getElem?_eq_getElem _)
      simpa using this
    rw [this]
   ·rw [show (y.1==t)=false by simpa using he,cond_false,aA (by omega) (by omega)]
    refine ih _ ⟨rfl,fun j x hj hx=> ?_⟩
    rcases af6.1 hj with h | h
    ·exact hb j x h hx
    ·subst h;rw [hy] at hx;cases hx;exact he
  ·rintro _ again ⟨rfl,hb⟩
   unfold Aj
   dsimp only
   rw [aF (by omega)]
   have:cn (·.1) t l=none:=by
    unfold cn
    rw [List.findIdx?_eq_none_iff]
    intro x hx
    obtain ⟨j,hj⟩:=afv.1 hx
    have:=hb j x (List.getElem?_eq_some_iff.1 hj).1 hj
    simpa using this
   rw [this]
 rw [loop _ (by omega)]
 cases cn (·.1) t l<;>rfl
theorem WU (l:List aD) (t:List UInt8) (hl:l.length<1000000000) (hs:Asc (·.1) l):
 ∃ i:Nat,ez l t ()=some ((i:Int),(cn (·.1) t l).isSome,())∧∀ k,cn (·.1) t l=some k→i=k:=by
 unfold ez
 have loop:∀ f,l.length<f→∃ i:Nat,iter f ((l,t,(),(l.length:Int),(0:Int),(l.length:Int),()):cr) gz=some (Sum.inr (l,t,(),(l.length:Int),(i:Int),()))∧i≤l.length∧(∀ k x,l[k]? =some x→k<i→Op.bytesLess x.1 t=true)∧∀ k x,l[k]? =some x→i≤k→Op.bytesLess x.1 t=false:=by
  intro f hf
  refine JA (Inv:=fun X=>∃ i j:Nat,X=((l,t,(),(l.length:Int),(i:Int),(j:Int),()):cr)∧i≤j∧j≤l.length∧(∀ k x,l[k]? =some x→k<i→Op.bytesLess x.1 t=true)∧∀ k x,l[k]? =some x→j≤k→Op.bytesLess x.1 t=false)
   (fun X=>(X.2.2.2.2.2.1 - X.2.2.2.2.1).toNat)
   (fun _ r=>∃ i:Nat,r=some (Sum.inr (l,t,(),(l.length:Int),(i:Int),()))∧i≤l.length∧(∀ k x,l[k]? =some x→k<i→Op.bytesLess x.1 t=true)∧∀ k x,l[k]? =some x→i≤k→Op.bytesLess x.1 t=false) ?_ f _ ⟨0,l.length,rfl,by omega,by omega,fun _ _ _ h=>absurd h (agf _),fun k x hk hle=>by have:=(List.getElem?_eq_some_iff.1 hk).1;omega⟩ (by dsimp only;omega)
  rintro _ again ⟨i,j,rfl,hij,hj,h1,h2⟩ ih
  dsimp only at ih
  unfold gz
  dsimp only
  by_cases hlt:i<j
  ·rw [aE (by omega)]
   have em:w64 (Int.fdiv (bV (w64 ((i:Int)+(j:Int)))) (2 ^ 1))=(((i+j) / 2:Nat):Int):=by
    rw [aA (n:=(i:Int)+(j:Int)) (by omega) (by omega),dW (by omega) (by omega),aem _ (by omega),aA (by omega) (by omega)]
    omega
   rw [em]
   have hm:(i+j) / 2<l.length:=by omega
   have hy:l[(i+j) / 2]? =some l[(i+j) / 2]:=aH hm
   have hmi:i≤(i+j) / 2∧(i+j) / 2<j:=by omega
   generalize (i+j) / 2=m at*
   generalize l[m]=y at hy
   rw [bh,hy,Option.bind_some]
   show ∃ i,Option.bind (Option.bind (some (Lib.compareBytes y.1 t,())) fun r1=>some (r1.1,())) _=_∧_
   rw [Option.bind_some,Option.bind_some]
   dsimp only
   by_cases hc:Lib.compareBytes y.1 t<0
   ·rw [aE hc,aA (by omega) (by omega)]
    refine ih _ ⟨m+1,j,rfl,by omega,hj,fun k x hk hkm=> ?_,h2⟩ (by dsimp only;omega)
    rcases af6.1 hkm with h | h
    ·have:=hs k m x y h hk hy
     exact Ez this (MT.1 hc)
    ·subst h;rw [hy] at hk;cases hk;exact MT.1 hc
   ·rw [aF hc]
    refine ih _ ⟨i,m,rfl,by omega,by omega,h1,fun k x hk hkm=> ?_⟩ (by dsimp only;omega)
    have hc':Op.bytesLess y.1 t=false:=by
     cases h:Op.bytesLess y.1 t with
     | false=>rfl
     | true=>exact absurd (MT.2 h) hc
    rcases Nat.lt_or_eq_of_le hkm with h | h
    ·cases hx:Op.bytesLess x.1 t with
     | false=>rfl
     | true=>rw [Ez (hs m k y x h hy hk) hx] at hc';cases hc'
    ·subst h;rw [hy] at hk;cases hk;exact hc'
  ·rw [aF (by omega)]
   have:i=j:=by omega
   subst this
   exact ⟨i,rfl,hj,h1,h2⟩
 obtain ⟨i,h1,h2,h3,h4⟩:=loop (List.length l+(List.length t+(Int.natAbs ((List.length l:Int))+(Int.natAbs (0:Int)+(Int.natAbs ((List.length l:Int))+2))))) (by omega)
 refine ⟨i, ?_,fun k hk=> ?_⟩
 ·rw [h1,aG]
  dsimp only
  by_cases hi:i<l.length
  ·have hy:l[i]? =some l[i]:=aH hi
   generalize l[i]=y at hy
   rw [aE (by omega),bh,hy,Option.bind_some]
   show Option.bind (Option.bind (some (Lib.compareBytes y.1 t,())) fun r1=>some (r1.1,())) _=_
   rw [Option.bind_some,Option.bind_some]
   congr 3
   by_cases he:y.1=t
   ·rw [ZN hs hy he,PE.2 he];rfl
   ·have hne:¬ Lib.compareBytes y.1 t=0:=fun h=>he (PE.1 h)
    rw [show (Lib.compareBytes y.1 t==0)=false by simpa using hne]
    cases hx:cn (·.1) t l with
    | none=>rfl
    | some k=>
     exfalso
     obtain ⟨x,k1,k2⟩:=jG hx
     rcases af8 k i with h | h | h
     ·have:=h3 k x k1 h;rw [k2,s6] at this;cases this
     ·subst h;rw [hy] at k1;cases k1;exact he k2
     ·have:=hs i k y x h hy k1
      dsimp only at this
      rw [k2,h4 i y hy (af0 _)] at this;cases this
  ·rw [aF (by omega)]
   congr 3
   cases hx:cn (·.1) t l with
   | none=>rfl
   | some k=>
    exfalso
    obtain ⟨x,k1,k2⟩:=jG hx
    have:=h3 k x k1 (by have:=(List.getElem?_eq_some_iff.1 k1).1;omega)
    rw [k2,s6] at this;cases this
 ·obtain ⟨x,k1,k2⟩:=jG hk
  rcases af8 k i with h | h | h
  ·have:=h3 k x k1 h;rw [k2,s6] at this;cases this
  ·exact h.symm
  ·have hy:l[i]? =some (l[i]'(by have:=(List.getElem?_eq_some_iff.1 k1).1;omega)):=aH _
   have:=hs i k _ x h hy k1
   dsimp only at this
   rw [k2,h4 i _ hy (af0 _)] at this;cases this
theorem DU (l:List aD) (t:List UInt8) (hl:l.length<1000000000) (hs:Asc (·.1) l):
 ∃ i:Nat,sk l t=some ((i:Int),(cn (·.1) t l).isSome,())∧∀ k,cn (·.1) t l=some k→i=k:=by
 obtain ⟨i,h1,h2⟩:=WU l t hl hs
 exact ⟨i,by unfold sk;rw [h1,Option.bind_some],h2⟩
theorem JG (v:ah) (t:List UInt8) (hl:v.2.2.2.2.2.2.1.length<1000000000) (hs:Asc (·.1) v.2.2.2.2.2.2.1):jT v t=some ((cn (·.1) t v.2.2.2.2.2.2.1).isSome,()):=by
 obtain ⟨i,h1,h2⟩:=DU v.2.2.2.2.2.2.1 t hl hs
 unfold jT
 rw [h1,Option.bind_some]
end Go.Md
namespace Go.Md
open Go.Dn
instance (d:ak):Decidable (b6 d):=by unfold b6;exact inferInstance
def inR (d:ak) (lo hi pl:Int):Bool:=decide (b6 d∧d.2≤pl∧lo*10 ^ d.2.toNat≤d.1∧d.1≤hi*10 ^ d.2.toNat)
theorem Xq {d:ak} (h0:0≤d.2) (h1:d.2≤9) (k:Int):k*10 ^ 9=k*10 ^ d.2.toNat*10 ^ (9 - d.2).toNat:=by
 rw [aeo, ← aex,show d.2.toNat+(9 - d.2).toNat=9 by omega]
theorem aaa {d:ak} (h0:0≤d.2) (h1:d.2≤9) (k:Int):k*10 ^ 9≤qM d↔k*10 ^ d.2.toNat≤d.1:=by
 unfold qM
 rw [Xq h0 h1]
 exact Int.mul_le_mul_right (xC _)
theorem Z5 {d:ak} (h0:0≤d.2) (h1:d.2≤9) (k:Int):qM d≤k*10 ^ 9↔d.1≤k*10 ^ d.2.toNat:=by
 unfold qM
 rw [Xq h0 h1]
 exact Int.mul_le_mul_right (xC _)
theorem xJ (d:ak) (lo hi pl:Int) (hlo:lo.natAbs≤1000000000000000) (hhi:hi.natAbs≤1000000000000000):mZ d lo hi pl=some (inR d lo hi pl,()):=by
 rw [Y1 d lo hi pl hlo hhi]
 unfold inR
 congr 2
 rw [agC]
 constructor
 ·rintro ⟨h1,h2,h3,h4⟩
  exact ⟨h1,h2,(aaa h1.2.1 h1.2.2 lo).1 h3,(Z5 h1.2.1 h1.2.2 hi).1 h4⟩
 ·rintro ⟨h1,h2,h3,h4⟩
  exact ⟨h1,h2,(aaa h1.2.1 h1.2.2 lo).2 h3,(Z5 h1.2.1 h1.2.2 hi).2 h4⟩
theorem jq (d:ak):b9 d=some (if b6 d then 0 else 1,()):=by
 rw [KQ]
 congr 2
 by_cases h:b6 d
 ·rw [if_pos h,if_pos (by unfold b6 at h;omega)]
 ·rw [if_neg h,if_neg (by unfold b6 at h;omega)]
theorem Dk (d:ak):lO d=some (if b6 d then 0 else 1,()):=by
 rw [FL]
 congr 2
 by_cases h:b6 d
 ·rw [if_pos h,if_pos (by unfold b6 at h;omega)]
 ·rw [if_neg h,if_neg (by unfold b6 at h;omega)]
theorem uK {d:ak} (h:b6 d) (most:Int) (hm0:0≤most) (hm1:most≤1000000000):fR d most=some (inR d (-most) most 9,()):=by
 rw [T4 d most h.2.1 h.2.2 hm0 hm1]
 unfold inR
 congr 2
 rw [agC,Int.neg_mul]
 constructor
 ·rintro ⟨h1,h2⟩;exact ⟨h,h.2.2,h1,h2⟩
 ·rintro ⟨_,_,h1,h2⟩;exact ⟨h1,h2⟩
def Ul (pl:Int) (rates:List aD) (line:Bool) (x:av):Int:=
 if b6 x.2.1 then
  (if x.2.1.1=0 then 13
  else if (if x.1=true then inR x.2.1 (-100) 100 9 else inR x.2.1 (-1000000000) 1000000000 pl)=true then
   (if x.2.2=[] then 0 else if line=true then 3 else if (cn (·.1) x.2.2 rates).isSome=true then 0 else 5)
  else 1)
 else 1
def lQ (pl:Int) (rates:List aD) (line:Bool) (l:List av):Int:=if 20<l.length then 2 else jJ (fun _ x=>Ul pl rates line x) 0 l
theorem aaj {γ:Type} (s:Int) (u:γ):aP (β:=Int×Unit) (γ:=γ) (if s=0 then some (Sum.inr u) else some (Sum.inl (s,()))) (fun _=>some (0,()))=some (s,()):=by
 by_cases h:s=0
 ·rw [if_pos h,aG,h]
 ·rw [if_neg h,eV]
theorem abu {d:ak} {lo hi pl:Int} (h:b6 d):inR d lo hi pl=(inR d lo hi 9&&decide (d.2≤pl)):=by
 unfold inR
 rw [← Bool.decide_and,agC]
 constructor
 ·rintro ⟨h1,h2,h3⟩;exact ⟨⟨h1,h.2.2,h3⟩,h2⟩
 ·rintro ⟨⟨h1,_,h3⟩,h2⟩;exact ⟨h1,h2,h3⟩
theorem yd {X α:Type} {γ:Type} {f:X→(X→Option ((Int×Unit) ⊕ γ))→Option ((Int×Unit) ⊕ γ)} {x0:X} (mk:Nat→X) (l:List α) (g:Nat→α→Int) (u:γ) (h0:x0=mk 0)
 (hstep:∀ i y again,l[i]? =some y→f (mk i) again=if g i y=0 then again (mk (i+1)) else some (Sum.inl (g i y,()))) (hend:∀ again,f (mk l.length) again=some (Sum.inr u)) (n:Nat) (hn:l.length<n):
 iter n x0 f=if jJ g 0 l=0 then some (Sum.inr u) else some (Sum.inl (jJ g 0 l,())):=by
 rw [h0];exact Vn mk l g u hstep hend l 0 n rfl (agn _) hn
theorem Dy (v:ah) (l:List av) (line:Bool) (hl:v.2.2.2.2.2.2.1.length<1000000000) (hs:Asc (·.1) v.2.2.2.2.2.2.1):kG v l line=some (lQ v.2.2.2.1 v.2.2.2.2.2.2.1 line l,()):=by
 unfold kG lQ
 by_cases hb:20<l.length
 ·rw [aE (by omega),if_pos hb]
 ·rw [aF (by omega),if_neg hb]
  obtain ⟨a,b,c,d,e,f,g,h,k⟩:=v
  dsimp only at*
  have hR:∀ t,jT (a,b,c,d,e,f,g,h,k) t=some ((cn (·.1) t g).isSome,()):=fun t=>JG _ t hl hs
  rw [yd (f:=qC) (fun i=>((line,l,(l.length:Int),(i:Int),a,b,c,d,e,f,g,h,k,()):qB)) l (fun _ x=>Ul d g line x) () ?_ ?_ ?_ _ ?_]
  ·exact aaj _ _
  ·rfl
  ·intro i y again hy
   have hi:=(List.getElem?_eq_some_iff.1 hy).1
   unfold qC
   dsimp only
   rw [aE (by omega),bh,hy,Option.bind_some,jq,Option.bind_some]
   have hw:w64 ((i:Int)+1)=(i:Int)+1:=aA (by omega) (by omega)
   unfold Ul
   by_cases hd:b6 y.2.1
   ·rw [if_pos hd,show ((0:Int) != 0)=false from rfl,cond_false,if_pos hd]
    by_cases h0:y.2.1.1=0
    ·rw [show (y.2.1.1==0)=true by simpa using h0,cond_true,if_pos h0];rfl
    ·rw [show (y.2.1.1==0)=false by simpa using h0,cond_false,if_neg h0]
     rw [uK hd 100 (by omega) (by omega),uK hd 1000000000 (by omega) (by omega),abu (pl:=d) hd]
     have hgt:decide (y.2.1.2>d)= !decide (y.2.1.2≤d):=by
      by_cases hq:y.2.1.2≤d
      ·simp [hq]
      ·simp [hq];omega
     have hnil:∀ (s:List UInt8),(s==[])=decide (s=[]):=fun s=>by cases s<;>rfl
     simp only [hR,Option.bind_some,hgt,hnil]
     generalize inR y.2.1 (-100) 100 9=b1
     generalize inR y.2.1 (-1000000000) 1000000000 9=b2
     generalize decide (y.2.1.2≤d)=b3
     generalize y.1=p
     by_cases hn:y.2.2=[]
     ·cases p<;>cases b1<;>cases b2<;>cases b3<;>cases line<;>simp [aP,hw,hnil,hn,hR]
     ·cases h4:(cn (fun x:aD=>x.1) y.2.2 g).isSome<;>cases p<;>cases b1<;>cases b2<;>cases b3<;>cases line<;>simp [aP,hw,hnil,hn,hR,h4]
   ·rw [if_neg hd,if_neg hd];rfl
  ·intro again
   unfold qC
   dsimp only
   rw [aF (by omega)]
  ·omega
theorem EZ (v:ah) (l:List av) (line:Bool) (hl:v.2.2.2.2.2.2.1.length<1000000000) (hp:0≤v.2.2.2.1∧v.2.2.2.1≤9):lP v l line=some (lQ v.2.2.2.1 v.2.2.2.2.2.2.1 line l,()):=by
 unfold lP lQ
 by_cases hb:20<l.length
 ·rw [aE (by omega),if_pos hb]
 ·rw [aF (by omega),if_neg hb]
  obtain ⟨a,b,c,d,e,f,g,h,k⟩:=v
  dsimp only at*
  have hR:∀ t,fJ (a,b,c,d,e,f,g,h,k) t=some (ixI (cn (·.1) t g),()):=fun t=>Au _ t hl
  rw [yd (f:=qZ) (fun i=>((line,l,(l.length:Int),(i:Int),a,b,c,d,e,f,g,h,k,()):q9)) l (fun _ x=>Ul d g line x) () ?_ ?_ ?_ _ ?_]
  ·exact aaj _ _
  ·rfl
  ·intro i y again hy
   have hi:=(List.getElem?_eq_some_iff.1 hy).1
   unfold qZ
   dsimp only
   rw [aE (by omega),bh,hy,Option.bind_some,Dk,Option.bind_some,aA (n:=(i:Int)+1) (by omega) (by omega)]
   unfold Ul
   by_cases hd:b6 y.2.1
   ·rw [if_pos hd,show ((0:Int) != 0)=false from rfl,cond_false,if_pos hd]
    by_cases h0:y.2.1.1=0
    ·rw [show (y.2.1.1==0)=true by simpa using h0,cond_true,if_pos h0];rfl
    ·rw [show (y.2.1.1==0)=false by simpa using h0,cond_false,if_neg h0]
     rw [xJ y.2.1 (-100) 100 9 (by decide) (by decide),xJ y.2.1 (-1000000000) 1000000000 d (by decide) (by decide)]
     have hnil:∀ (s:List UInt8),(s==[])=decide (s=[]):=fun s=>by cases s<;>rfl
     simp only [hR,Z3,Option.bind_some,hnil]
     generalize inR y.2.1 (-100) 100 9=b1
     generalize inR y.2.1 (-1000000000) 1000000000 d=b2
     generalize y.1=p
     generalize (cn (fun x:aD=>x.1) y.2.2 g).isSome=b4
     by_cases hn:y.2.2=[]
     ·simp only [hn,agG,agL]
      cases p<;>cases b1<;>cases b2<;>cases line<;>cases b4<;>simp
     ·simp only [hn,agF,agK]
      cases p<;>cases b1<;>cases b2<;>cases line<;>cases b4<;>simp
   ·rw [if_neg hd,if_neg hd];rfl
  ·intro again
   unfold qZ
   dsimp only
   rw [aF (by omega)]
  ·omega
end Go.Md
namespace Go.Md
open Go.Dn
theorem BF {α:Type} (l:List α):((l.length:Int)==0)=decide (l.length=0):=by
 cases l with
 | nil=>rfl
 | cons a r=>rw [show decide ((a::r).length=0)=false by simp,agy];simp only [afd];omega
def Cv (l:List aD) (i:Nat) (y:aD):Bool:=match i with
 | 0=>false
 | i+1=>match l[i]? with
  | some p=>Op.bytesLess y.1 p.1||y.1==p.1
  | none=>false
def Jy (l:List aD) (i:Nat) (r:aD):Int:=if l8 r.1=false then 5 else if Cv l i r=true then 8 else if inR r.2 0 100 9=true then 0 else 1
def pZ (l:List aD):Int:=if l.length=0 then 9 else if 20<l.length then 2 else jJ (Jy l) 0 l
theorem Y8 {l:List aD} (h:∀ i y,l[i]? =some y→Cv l i y=false):Asc (·.1) l:=by
 have step:∀ i x y,l[i]? =some x→l[i+1]? =some y→Op.bytesLess x.1 y.1=true:=fun i x y hx hy=>by
  have:=h (i+1) y hy
  simp only [Cv,hx,aef,agy] at this
  rcases abf x.1 y.1 with h1 | h1 | h1
  ·exact h1
  ·exact absurd h1.symm this.2
  ·rw [this.1] at h1;cases h1
 intro i j x y hij hx hy
 induction j generalizing y with
 | zero=>omega
 | succ j ih=>
  rcases af6.1 hij with h1 | h1
  ·have hj:j<l.length:=by have:=(List.getElem?_eq_some_iff.1 hy).1;omega
   have hz:l[j]? =some l[j]:=aH hj
   exact Ez (ih _ h1 hz) (step j _ y hz hy)
  ·subst h1;exact step i x y hx hy
theorem Rx {l:List aD} (h:pZ l=0):0<l.length∧l.length≤20∧Asc (·.1) l∧∀ r∈l,inR r.2 0 100 9=true:=by
 unfold pZ at h
 split at h
 ·omega
 ·split at h
  ·omega
  ·have hz:=CG h
   refine ⟨by omega,by omega,Y8 fun i y hy=> ?_,fun r hr=> ?_⟩
   ·have:=hz i y hy
    rw [agm] at this
    unfold Jy at this
    split at this
    ·omega
    ·split at this
     ·omega
     ·rename_i h1;simpa using h1
   ·obtain ⟨i,hi⟩:=afv.1 hr
    have:=hz i r hi
    rw [agm] at this
    unfold Jy at this
    split at this
    ·omega
    ·split at this
     ·omega
     ·split at this
      ·assumption
      ·omega
theorem aaJ {d:ak} (h:b6 d) (hi:Int):inR d 0 hi 9=(!decide (d.1<0)&&inR d (-hi) hi 9):=by
 have hp:=xC d.2.toNat
 unfold inR
 rw [← decide_not, ← Bool.decide_and,agC]
 constructor
 ·rintro ⟨h1,h2,h3,h4⟩
  rw [aeG] at h3
  refine ⟨by omega,h1,h2, ?_,h4⟩
  rw [Int.neg_mul]
  have:0≤hi*10 ^ d.2.toNat:=by omega
  omega
 ·rintro ⟨h0,h1,h2,h3,h4⟩
  exact ⟨h1,h2,by rw [aeG];omega,h4⟩
theorem W6 {l:List aD} {i:Nat} (hi:i+1<l.length+1) (hl:l.length<1000000000):idx l (w64 (((i+1:Nat):Int) - 1))=l[i]? :=by
 rw [aA (by omega) (by omega),show ((i+1:Nat):Int) - 1=((i:Nat):Int) by omega,bh]
theorem OM (l:List aD) (hl:l.length<1000000000):n9 l=some (pZ l,()):=by
 unfold n9 pZ
 by_cases h0:l.length=0
 ·rw [BF,agE h0,cond_true,if_pos h0]
 ·rw [BF,agD h0,cond_false,if_neg h0]
  by_cases hb:20<l.length
  ·rw [aE (by omega),if_pos hb]
  ·rw [aF (by omega),if_neg hb]
   rw [yd (f:=rM) (fun i=>((l,l,(l.length:Int),(i:Int),()):rP)) l (Jy l) () ?_ ?_ ?_ _ ?_]
   ·exact aaj _ _
   ·rfl
   ·intro i y again hy
    have hi:=(List.getElem?_eq_some_iff.1 hy).1
    unfold rM
    dsimp only
    rw [aE (by omega),bh,hy,Option.bind_some,Gu,Option.bind_some,aA (n:=(i:Int)+1) (by omega) (by omega)]
    unfold Jy
    cases hn:l8 y.1 with
    | false=>simp
    | true=>
     have tail:(Option.bind (b9 y.2) fun r5=>bif r5.1 != 0 then some (Sum.inl (r5.1,())) else bif decide (y.2.1<0) then some (Sum.inl (1,())) else Option.bind (fR y.2 100) fun r6=>bif !r6.1 then some (Sum.inl (1,())) else again (l,l,(l.length:Int),(i:Int)+1,()))=if (if inR y.2 0 100 9=true then (0:Int) else 1)=0 then again (l,l,(l.length:Int),((i+1:Nat):Int),()) else some (Sum.inl (1,())):=by
      rw [jq,Option.bind_some]
      by_cases hd:b6 y.2
      ·rw [aaJ hd 100,uK hd 100 (by omega) (by omega)]
       generalize inR y.2 (-100) 100 9=b
       by_cases hneg:y.2.1<0
       ·simp [hd,hneg]
       ·cases b<;>simp [hd,hneg]
      ·have:inR y.2 0 100 9=false:=by unfold inR;simp [hd]
       simp [hd,this]
     simp only [Bool.not_true,cond_false,aej,agK]
     cases i with
     | zero=>
      rw [aF (by omega),tail]
      simp only [Cv,ad8,agK]
      split<;>simp_all
     | succ i=>
      have hp:l[i]? =some (l[i]'(by omega)):=aH (by omega)
      rw [aE (by omega),W6 (by omega) hl,hp,Option.bind_some]
      have ep:Cv l (i+1) y=(Op.bytesLess y.1 (l[i]'(by omega)).1||y.1==(l[i]'(by omega)).1):=by simp only [Cv,hp]
      rw [ep]
      cases (Op.bytesLess y.1 (l[i]'(by omega)).1||y.1==(l[i]'(by omega)).1) with
      | true=>simp
      | false=>
       simp only [cond_false]
       rw [tail]
       simp only [ad8,agK]
       split<;>simp_all
   ·intro again
    unfold rM
    dsimp only
    rw [aF (by omega)]
   ·omega
def OO (l:List au) (i:Nat) (y:au):Bool:=match i with
 | 0=>false
 | i+1=>match l[i]? with
  | some p=>decide (y.1≤p.1)
  | none=>false
def yp (pl:Int) (rates:List aD) (lines:List au) (i:Nat) (x:au):Int:=
 if x.1<1∨99999<x.1 then 1
 else if OO lines i x=true then 8
 else if x.2.1<1∨99999<x.2.1 then 1
 else if l8 x.2.2.1=false then 5
 else if inR x.2.2.2.1 (-1000000000) 1000000000 3=false then 1
 else if x.2.2.2.1.1=0 then 13
 else if l8 x.2.2.2.2.1=false then 5
 else if inR x.2.2.2.2.2.1 0 1000000000 4=false then 1
 else if x.2.2.2.2.2.2.1<1∨100000<x.2.2.2.2.2.2.1 then 1
 else if lQ pl rates true x.2.2.2.2.2.2.2.1≠0 then lQ pl rates true x.2.2.2.2.2.2.2.1
 else if (cn (·.1) x.2.2.2.2.2.2.2.2 rates).isSome=true then 0 else 5
theorem Uo (n:Int) (h0:0≤n) (h1:n≤18):KA n=some (10 ^ n.toNat,()):=NG n h0 h1
theorem Ob (d:ak):pY d=some (if inR d 0 1000000000 4=true then 0 else 1,()):=by
 unfold pY HU
 rw [jq,Option.bind_some]
 by_cases hd:b6 d
 ·have hp:=xC d.2.toNat
  have hp2:(10:Int) ^ d.2.toNat≤1000000000:=by
   have:=agj (n:=10) (by omega) (show d.2.toNat≤9 by have:=hd.2.2;omega)
   have h2:=Int.ofNat_le.2 this
   simpa using h2
  rw [Uo d.2 hd.2.1 (by have:=hd.2.2;omega)]
  dsimp only
  rw [if_pos hd,show ((0:Int) != 0)=false from rfl,cond_false]
  have e:inR d 0 1000000000 4=(decide (d.2≤4)&&(decide (d.1≥0)&&decide (d.1≤1000000000*10 ^ d.2.toNat))):=by
   unfold inR
   rw [← Bool.decide_and, ← Bool.decide_and,agC,aeG]
   constructor
   ·rintro ⟨_,h2,h3,h4⟩;exact ⟨h2,h3,h4⟩
   ·rintro ⟨h2,h3,h4⟩;exact ⟨hd,h2,h3,h4⟩
  rw [e,Option.bind_some,aA (n:=1000000000*10 ^ d.2.toNat) (by omega) (by omega)]
  cases decide (d.2≤4)<;>cases decide (d.1≥0)<;>cases decide (d.1≤1000000000*10 ^ d.2.toNat)<;>rfl
 ·have:inR d 0 1000000000 4=false:=by unfold inR;simp [hd]
  simp [hd,this]
end Go.Md
namespace Go.Md
open Go.Dn
theorem T9 {l:List au} {i:Nat} (hi:i<l.length) (hl:l.length<1000000000):idx l (w64 (((i+1:Nat):Int) - 1))=l[i]? :=by
 rw [aA (by omega) (by omega),show ((i+1:Nat):Int) - 1=((i:Nat):Int) by omega,bh]
theorem adI (d:ak):(if b6 d then (decide (d.2>3)|| !inR d (-1000000000) 1000000000 9) else true)= !inR d (-1000000000) 1000000000 3:=by
 by_cases h:b6 d
 ·rw [if_pos h,abu (pl:=3) h]
  by_cases h3:d.2≤3
  ·have:¬ d.2>3:=by omega
   simp [h3,this]
  ·have:d.2>3:=by omega
   simp [h3,this]
 ·have:inR d (-1000000000) 1000000000 3=false:=by unfold inR;simp [h]
  simp [h,this]
theorem Q4 (v:ah) (i:Nat) (y:au) (hl:v.2.2.2.2.2.2.1.length<1000000000) (hs:Asc (·.1) v.2.2.2.2.2.2.1) (hll:v.2.2.2.2.2.2.2.1.length<1000000000) (hy:v.2.2.2.2.2.2.2.1[i]? =some y):
 tg v (i:Int)=some (yp v.2.2.2.1 v.2.2.2.2.2.2.1 v.2.2.2.2.2.2.2.1 i y,()):=by
 unfold tg yp
 have hR:=fun t=>JG v t hl hs
 have hE:=fun l=>Dy v l true hl hs
 generalize v.2.2.2.2.2.2.1=rates at*
 generalize v.2.2.2.2.2.2.2.1=lines at*
 generalize v.2.2.2.1=pl at*
 have hi:=(List.getElem?_eq_some_iff.1 hy).1
 rw [bh,hy,Option.bind_some]
 simp only [mX,Gu,Ob,hR,hE,Option.bind_some,jq]
 by_cases c1:y.1<1∨99999<y.1
 ·simp only [c1,agG,cond_true,agL]
 rw [agD c1,cond_false,if_neg c1]
 have tail:(bif decide (y.2.1<1∨99999<y.2.1) then some ((1:Int),()) else bif !l8 y.2.2.1 then some (5,()) else bif (if b6 y.2.2.2.1 then (0:Int) else 1) != 0 then some (if b6 y.2.2.2.1 then (0:Int) else 1,()) else bif decide (y.2.2.2.1.2>3) then some (1,()) else
  Option.bind (fR y.2.2.2.1 1000000000) fun r7=>bif !r7.1 then some (1,()) else bif y.2.2.2.1.1==0 then some (13,()) else bif !l8 y.2.2.2.2.1 then some (5,()) else bif (if inR y.2.2.2.2.2.1 0 1000000000 4=true then (0:Int) else 1) != 0 then some (if inR y.2.2.2.2.2.1 0 1000000000 4=true then (0:Int) else 1,()) else
  bif decide (y.2.2.2.2.2.2.1<1∨100000<y.2.2.2.2.2.2.1) then some (1,()) else bif lQ pl rates true y.2.2.2.2.2.2.2.1 != 0 then some (lQ pl rates true y.2.2.2.2.2.2.2.1,()) else bif !(cn (fun x:aD=>x.1) y.2.2.2.2.2.2.2.2 rates).isSome then some (5,()) else some (0,()))=
  some (if y.2.1<1∨99999<y.2.1 then 1 else if l8 y.2.2.1=false then 5 else if inR y.2.2.2.1 (-1000000000) 1000000000 3=false then 1 else if y.2.2.2.1.1=0 then 13 else if l8 y.2.2.2.2.1=false then 5 else if inR y.2.2.2.2.2.1 0 1000000000 4=false then 1
   else if y.2.2.2.2.2.2.1<1∨100000<y.2.2.2.2.2.2.1 then 1 else if lQ pl rates true y.2.2.2.2.2.2.2.1≠0 then lQ pl rates true y.2.2.2.2.2.2.2.1 else if (cn (fun x:aD=>x.1) y.2.2.2.2.2.2.2.2 rates).isSome=true then 0 else 5,()):=by
  by_cases c2:y.2.1<1∨99999<y.2.1
  ·simp only [c2,agG,cond_true,agL]
  rw [agD c2,cond_false,if_neg c2]
  cases l8 y.2.2.1 with
  | false=>rfl
  | true=>
  simp only [Bool.not_true,cond_false,aej,agK]
  have hq:=adI y.2.2.2.1
  by_cases hd:b6 y.2.2.2.1
  ·rw [if_pos hd] at hq
   rw [uK hd 1000000000 (by omega) (by omega)]
   rw [if_pos hd,show ((0:Int) != 0)=false from rfl,cond_false,Option.bind_some]
   dsimp only
   have hq':inR y.2.2.2.1 (-1000000000) 1000000000 3= !(decide (y.2.2.2.1.2>3)|| !inR y.2.2.2.1 (-1000000000) 1000000000 9):=by rw [hq,Bool.not_not]
   rw [hq']
   cases decide (y.2.2.2.1.2>3) with
   | true=>rfl
   | false=>
    cases inR y.2.2.2.1 (-1000000000) 1000000000 9 with
    | false=>rfl
    | true=>
     simp only [Bool.not_true,aeh,aee,cond_false,aej,agK]
     by_cases c3:y.2.2.2.1.1=0
     ·rw [show (y.2.2.2.1.1==0)=true by simpa using c3,cond_true,if_pos c3]
     ·rw [show (y.2.2.2.1.1==0)=false by simpa using c3,cond_false,if_neg c3]
      cases l8 y.2.2.2.2.1 with
      | false=>rfl
      | true=>
       cases inR y.2.2.2.2.2.1 0 1000000000 4 with
       | false=>rfl
       | true=>
        simp only [Bool.not_true,cond_false,aej,agK,agL]
        rw [show ((0:Int) != 0)=false from rfl,cond_false]
        by_cases c4:y.2.2.2.2.2.2.1<1∨100000<y.2.2.2.2.2.2.1
        ·simp only [c4,agG,cond_true,agL]
        ·rw [agD c4,cond_false,if_neg c4]
         by_cases c5:lQ pl rates true y.2.2.2.2.2.2.2.1=0
         ·rw [c5,show ((0:Int) != 0)=false from rfl,cond_false,if_neg (by simp)]
          cases (cn (fun x:aD=>x.1) y.2.2.2.2.2.2.2.2 rates).isSome<;>rfl
         ·rw [show (lQ pl rates true y.2.2.2.2.2.2.2.1 != 0)=true by simpa using c5,cond_true,if_pos c5]
  ·rw [if_neg hd] at hq
   have:inR y.2.2.2.1 (-1000000000) 1000000000 3=false:=by simpa using hq.symm
   rw [this,if_neg hd]
   rfl
 cases i with
 | zero=>
  rw [aF (by omega),tail]
  rfl
 | succ i=>
  have hp:lines[i]? =some (lines[i]'(by omega)):=aH (by omega)
  rw [aE (by omega),T9 (by omega) hll,hp,Option.bind_some]
  have ep:OO lines (i+1) y=decide (y.1≤(lines[i]'(by omega)).1):=by simp only [OO,hp]
  rw [ep]
  cases decide (y.1≤(lines[i]'(by omega)).1) with
  | true=>rfl
  | false=>
   rw [cond_false,tail]
   rfl
theorem Sg (v:ah) (i:Nat) (y:au) (hl:v.2.2.2.2.2.2.1.length<1000000000) (hp:0≤v.2.2.2.1∧v.2.2.2.1≤9) (hll:v.2.2.2.2.2.2.2.1.length<1000000000) (hy:v.2.2.2.2.2.2.2.1[i]? =some y):
 vp v (i:Int)=some (yp v.2.2.2.1 v.2.2.2.2.2.2.1 v.2.2.2.2.2.2.2.1 i y,()):=by
 unfold vp yp
 have hR:=fun t=>Au v t hl
 have hE:=fun l=>EZ v l true hl hp
 generalize v.2.2.2.2.2.2.1=rates at*
 generalize v.2.2.2.2.2.2.2.1=lines at*
 generalize v.2.2.2.1=pl at*
 have hi:=(List.getElem?_eq_some_iff.1 hy).1
 have hW:∀ n lo hi':Int,(!decide (lo≤n∧n≤hi'))=decide (n<lo∨hi'<n):=fun n lo hi'=>by
  rw [← decide_not,agC];omega
 rw [bh,hy,Option.bind_some]
 simp only [Gj,IK,xJ _ (-1000000000) 1000000000 3 (by decide) (by decide),xJ _ 0 1000000000 4 (by decide) (by decide),hR,hE,Z3,Option.bind_some,hW]
 by_cases c1:y.1<1∨99999<y.1
 ·simp only [c1,agG,cond_true,agL]
 rw [agD c1,cond_false,if_neg c1]
 have tail:(bif decide (y.2.1<1∨99999<y.2.1) then some ((1:Int),()) else bif !l8 y.2.2.1 then some (5,()) else bif !inR y.2.2.2.1 (-1000000000) 1000000000 3 then some (1,()) else bif y.2.2.2.1.1==0 then some (13,()) else bif !l8 y.2.2.2.2.1 then some (5,()) else bif !inR y.2.2.2.2.2.1 0 1000000000 4 then some (1,()) else
  bif decide (y.2.2.2.2.2.2.1<1∨100000<y.2.2.2.2.2.2.1) then some (1,()) else bif lQ pl rates true y.2.2.2.2.2.2.2.1 != 0 then some (lQ pl rates true y.2.2.2.2.2.2.2.1,()) else bif !(cn (fun x:aD=>x.1) y.2.2.2.2.2.2.2.2 rates).isSome then some (5,()) else some (0,()))=
  some (if y.2.1<1∨99999<y.2.1 then 1 else if l8 y.2.2.1=false then 5 else if inR y.2.2.2.1 (-1000000000) 1000000000 3=false then 1 else if y.2.2.2.1.1=0 then 13 else if l8 y.2.2.2.2.1=false then 5 else if inR y.2.2.2.2.2.1 0 1000000000 4=false then 1
   else if y.2.2.2.2.2.2.1<1∨100000<y.2.2.2.2.2.2.1 then 1 else if lQ pl rates true y.2.2.2.2.2.2.2.1≠0 then lQ pl rates true y.2.2.2.2.2.2.2.1 else if (cn (fun x:aD=>x.1) y.2.2.2.2.2.2.2.2 rates).isSome=true then 0 else 5,()):=by
  by_cases c2:y.2.1<1∨99999<y.2.1
  ·simp only [c2,agG,cond_true,agL]
  rw [agD c2,cond_false,if_neg c2]
  cases l8 y.2.2.1 with
  | false=>rfl
  | true=>
   cases inR y.2.2.2.1 (-1000000000) 1000000000 3 with
   | false=>rfl
   | true=>
    simp only [Bool.not_true,cond_false,aej,agK]
    by_cases c3:y.2.2.2.1.1=0
    ·rw [show (y.2.2.2.1.1==0)=true by simpa using c3,cond_true,if_pos c3]
    ·rw [show (y.2.2.2.1.1==0)=false by simpa using c3,cond_false,if_neg c3]
     cases l8 y.2.2.2.2.1 with
     | false=>rfl
     | true=>
      cases inR y.2.2.2.2.2.1 0 1000000000 4 with
      | false=>rfl
      | true=>
       simp only [Bool.not_true,cond_false,aej,agK]
       by_cases c4:y.2.2.2.2.2.2.1<1∨100000<y.2.2.2.2.2.2.1
       ·simp only [c4,agG,cond_true,agL]
       ·rw [agD c4,cond_false,if_neg c4]
        by_cases c5:lQ pl rates true y.2.2.2.2.2.2.2.1=0
        ·rw [c5,show ((0:Int) != 0)=false from rfl,cond_false,if_neg (by simp)]
         cases (cn (fun x:aD=>x.1) y.2.2.2.2.2.2.2.2 rates).isSome<;>rfl
        ·rw [show (lQ pl rates true y.2.2.2.2.2.2.2.1 != 0)=true by simpa using c5,cond_true,if_pos c5]
 cases i with
 | zero=>
  rw [aF (by omega),tail]
  rfl
 | succ i=>
  have hp:lines[i]? =some (lines[i]'(by omega)):=aH (by omega)
  rw [aE (by omega),T9 (by omega) hll,hp,Option.bind_some]
  have ep:OO lines (i+1) y=decide (y.1≤(lines[i]'(by omega)).1):=by simp only [OO,hp]
  rw [ep]
  cases decide (y.1≤(lines[i]'(by omega)).1) with
  | true=>rfl
  | false=>
   rw [cond_false,tail]
   rfl
def OS (v:ah):Int:=jJ (yp v.2.2.2.1 v.2.2.2.2.2.2.1 v.2.2.2.2.2.2.2.1) 0 v.2.2.2.2.2.2.2.1
def iq (v:ah):Int:=
 if l8 v.1=false then 5 else if l8 v.2.1=false then 5
 else if ¬(1≤v.2.2.1∧v.2.2.1≤3652059) then 1
 else if v.2.2.2.1<0∨4<v.2.2.2.1 then 1
 else if v.2.2.2.2.1<1∨6<v.2.2.2.2.1 then 4
 else if pZ v.2.2.2.2.2.2.1≠0 then pZ v.2.2.2.2.2.2.1
 else if v.2.2.2.2.2.2.2.1.length=0 then 9
 else if 500<v.2.2.2.2.2.2.2.1.length then 2
 else if OS v≠0 then OS v
 else lQ v.2.2.2.1 v.2.2.2.2.2.2.1 false v.2.2.2.2.2.2.2.2
theorem WZ {γ:Type} (s:Int) (u:γ) (k:γ→Option (Int×Unit)) (z:Int) (hk:k u=some (z,())):aP (β:=Int×Unit) (γ:=γ) (if s=0 then some (Sum.inr u) else some (Sum.inl (s,()))) k=some (if s≠0 then s else z,()):=by
 by_cases h:s=0
 ·rw [if_pos h,aG,hk,if_neg (by simpa using h)]
 ·rw [if_neg h,eV,if_pos h]
theorem Cj (v:ah):sE v=some (iq v,()):=by
 unfold sE iq
 simp only [Gu,W7,mX,Option.bind_some,Iz]
 cases l8 v.1 with
 | false=>rfl
 | true=>
 cases l8 v.2.1 with
 | false=>rfl
 | true=>
 simp only [Bool.not_true,cond_false,aej,agK]
 by_cases n_c1:¬(1≤v.2.2.1∧v.2.2.1≤3652059)
 ·rw [agD n_c1,if_pos n_c1];rfl
 have c1:=aek n_c1
 rw [agE c1,if_neg (by simpa using c1),Bool.not_true,cond_false]
 by_cases c2:v.2.2.2.1<0∨4<v.2.2.2.1
 ·rw [agE c2,if_pos c2];rfl
 rw [agD c2,if_neg c2,cond_false]
 by_cases c3:v.2.2.2.2.1<1∨6<v.2.2.2.2.1
 ·rw [agE c3,if_pos c3];rfl
 rw [agD c3,if_neg c3,aee,Bool.not_true,cond_false]
 by_cases n_hrl:¬(v.2.2.2.2.2.2.1.length<1000000000)
 ·have e:pZ v.2.2.2.2.2.2.1=2:=by unfold pZ;rw [if_neg (by omega),if_pos (by omega)]
  have e2:n9 v.2.2.2.2.2.2.1=some (2,()):=by
   unfold n9
   rw [BF,agD (by omega),cond_false,aE (by omega)]
  rw [e,e2];rfl
 have hrl:=aek n_hrl
 rw [OM _ hrl,Option.bind_some]
 dsimp only
 by_cases n_c4:¬(pZ v.2.2.2.2.2.2.1=0)
 ·rw [show (pZ v.2.2.2.2.2.2.1 != 0)=true by simpa using n_c4,cond_true,if_pos n_c4]
 have c4:=aek n_c4
 obtain ⟨_,_,hs,_⟩:=Rx c4
 rw [c4,show ((0:Int) != 0)=false from rfl,cond_false,if_neg (by simp),BF]
 by_cases c5:v.2.2.2.2.2.2.2.1.length=0
 ·rw [agE c5,cond_true,if_pos c5]
 rw [agD c5,cond_false,if_neg c5]
 by_cases c6:500<v.2.2.2.2.2.2.2.1.length
 ·rw [aE (by omega),if_pos c6]
 rw [aF (by omega),if_neg c6]
 unfold OS
 rw [yd (f:=ot) (fun i=>(((v.2.2.2.2.2.2.2.1.length:Int)),(i:Int),v.1,v.2.1,v.2.2.1,v.2.2.2.1,v.2.2.2.2.1,v.2.2.2.2.2.1,v.2.2.2.2.2.2.1,v.2.2.2.2.2.2.2.1,v.2.2.2.2.2.2.2.2,()) ) v.2.2.2.2.2.2.2.1 (yp v.2.2.2.1 v.2.2.2.2.2.2.1 v.2.2.2.2.2.2.2.1) (v.1,v.2.1,v.2.2.1,v.2.2.2.1,v.2.2.2.2.1,v.2.2.2.2.2.1,v.2.2.2.2.2.2.1,v.2.2.2.2.2.2.2.1,v.2.2.2.2.2.2.2.2,()) ?_ ?_ ?_ _ ?_]
 ·refine WZ _ _ _ _ ?_
  show Option.bind (kG v v.2.2.2.2.2.2.2.2 false) _=_
  rw [Dy v _ false hrl hs,Option.bind_some]
 ·rfl
 ·intro i y again hy
  have hi:=(List.getElem?_eq_some_iff.1 hy).1
  unfold ot
  show (bif decide ((i:Int)<(v.2.2.2.2.2.2.2.1.length:Int)) then Option.bind (tg v (i:Int)) _ else _)=_
  rw [aE (by omega),Q4 v i y hrl hs (by omega) hy,Option.bind_some]
  dsimp only
  rw [aA (n:=(i:Int)+1) (by omega) (by omega)]
  by_cases hz:yp v.2.2.2.1 v.2.2.2.2.2.2.1 v.2.2.2.2.2.2.2.1 i y=0
  ·rw [hz];rfl
  ·rw [show (yp v.2.2.2.1 v.2.2.2.2.2.2.1 v.2.2.2.2.2.2.2.1 i y != 0)=true by simpa using hz,cond_true,if_neg hz]
 ·intro again
  unfold ot
  dsimp only
  rw [aF (by omega)]
 ·omega
end Go.Md
namespace Go.Md
open Go.Dn
theorem DD (v:ah):p8 v=some (iq v,()):=by
 unfold p8 iq
 have hW:∀ n lo hi':Int,(!decide (lo≤n∧n≤hi'))=decide (n<lo∨hi'<n):=fun n lo hi'=>by
  rw [← decide_not,agC];omega
 simp only [IK,Zt,Gj,Option.bind_some]
 cases l8 v.1 with
 | false=>rfl
 | true=>
 cases l8 v.2.1 with
 | false=>rfl
 | true=>
 simp only [Bool.not_true,cond_false,aej,agK]
 by_cases n_c1:¬(1≤v.2.2.1∧v.2.2.1≤3652059)
 ·rw [agD n_c1,if_pos n_c1];rfl
 have c1:=aek n_c1
 rw [agE c1,if_neg (by simpa using c1),Bool.not_true,cond_false,hW,hW]
 by_cases c2:v.2.2.2.1<0∨4<v.2.2.2.1
 ·rw [agE c2,if_pos c2];rfl
 rw [agD c2,if_neg c2,cond_false]
 by_cases c3:v.2.2.2.2.1<1∨6<v.2.2.2.2.1
 ·rw [agE c3,if_pos c3];rfl
 rw [agD c3,if_neg c3,cond_false,BF]
 unfold pZ
 by_cases c4:v.2.2.2.2.2.2.1.length=0
 ·rw [agE c4,cond_true,if_pos c4];rfl
 rw [agD c4,cond_false,if_neg c4]
 by_cases c5:20<v.2.2.2.2.2.2.1.length
 ·rw [aE (by omega),if_pos c5];rfl
 rw [aF (by omega),if_neg c5]
 rw [yd (f:=o4) (fun i=>(v.2.2.2.2.2.2.1,((v.2.2.2.2.2.2.1.length:Int)),(i:Int),v.1,v.2.1,v.2.2.1,v.2.2.2.1,v.2.2.2.2.1,v.2.2.2.2.2.1,v.2.2.2.2.2.2.1,v.2.2.2.2.2.2.2.1,v.2.2.2.2.2.2.2.2,()) ) v.2.2.2.2.2.2.1 (Jy v.2.2.2.2.2.2.1) (v.1,v.2.1,v.2.2.1,v.2.2.2.1,v.2.2.2.2.1,v.2.2.2.2.2.1,v.2.2.2.2.2.2.1,v.2.2.2.2.2.2.2.1,v.2.2.2.2.2.2.2.2,()) ?_ ?_ ?_ _ ?_]
 ·refine WZ _ _ _ _ ?_
  dsimp only
  rw [BF]
  by_cases c6:v.2.2.2.2.2.2.2.1.length=0
  ·rw [agE c6,cond_true,if_pos c6]
  rw [agD c6,cond_false,if_neg c6]
  by_cases c7:500<v.2.2.2.2.2.2.2.1.length
  ·rw [aE (by omega),if_pos c7]
  rw [aF (by omega),if_neg c7]
  unfold OS
  rw [yd (f:=o8) (fun i=>(((v.2.2.2.2.2.2.2.1.length:Int)),(i:Int),v.1,v.2.1,v.2.2.1,v.2.2.2.1,v.2.2.2.2.1,v.2.2.2.2.2.1,v.2.2.2.2.2.2.1,v.2.2.2.2.2.2.2.1,v.2.2.2.2.2.2.2.2,()) ) v.2.2.2.2.2.2.2.1 (yp v.2.2.2.1 v.2.2.2.2.2.2.1 v.2.2.2.2.2.2.2.1) (v.1,v.2.1,v.2.2.1,v.2.2.2.1,v.2.2.2.2.1,v.2.2.2.2.2.1,v.2.2.2.2.2.2.1,v.2.2.2.2.2.2.2.1,v.2.2.2.2.2.2.2.2,()) ?_ ?_ ?_ _ ?_]
  ·refine WZ _ _ _ _ ?_
   show Option.bind (lP v v.2.2.2.2.2.2.2.2 false) _=_
   rw [EZ v _ false (by omega) (by omega),Option.bind_some]
  ·rfl
  ·intro i y again hy
   have hi:=(List.getElem?_eq_some_iff.1 hy).1
   unfold o8
   show (bif decide ((i:Int)<(v.2.2.2.2.2.2.2.1.length:Int)) then Option.bind (vp v (i:Int)) _ else _)=_
   rw [aE (by omega),Sg v i y (by omega) (by omega) (by omega) hy,Option.bind_some]
   dsimp only
   rw [aA (n:=(i:Int)+1) (by omega) (by omega)]
   by_cases hz:yp v.2.2.2.1 v.2.2.2.2.2.2.1 v.2.2.2.2.2.2.2.1 i y=0
   ·rw [hz];rfl
   ·rw [show (yp v.2.2.2.1 v.2.2.2.2.2.2.1 v.2.2.2.2.2.2.2.1 i y != 0)=true by simpa using hz,cond_true,if_neg hz]
  ·intro again
   unfold o8
   dsimp only
   rw [aF (by omega)]
  ·omega
 ·rfl
 ·intro i y again hy
  have hi:=(List.getElem?_eq_some_iff.1 hy).1
  unfold o4
  dsimp only
  rw [aE (by omega),bh,hy,Option.bind_some,IK,Option.bind_some,aA (n:=(i:Int)+1) (by omega) (by omega),xJ y.2 0 100 9 (by decide) (by decide)]
  unfold Jy
  cases hn:l8 y.1 with
  | false=>simp
  | true=>
   simp only [Bool.not_true,cond_false,aej,agK,Option.bind_some]
   cases i with
   | zero=>
    rw [aF (by omega)]
    simp only [Cv,ad8,agK]
    cases inR y.2 0 100 9<;>simp
   | succ i=>
    have hp:v.2.2.2.2.2.2.1[i]? =some (v.2.2.2.2.2.2.1[i]'(by omega)):=aH (by omega)
    rw [aE (by omega),W6 (by omega) (by omega),hp,Option.bind_some]
    have ep:Cv v.2.2.2.2.2.2.1 (i+1) y=(Op.bytesLess y.1 (v.2.2.2.2.2.2.1[i]'(by omega)).1||y.1==(v.2.2.2.2.2.2.1[i]'(by omega)).1):=by simp only [Cv,hp]
    rw [ep]
    cases (Op.bytesLess y.1 (v.2.2.2.2.2.2.1[i]'(by omega)).1||y.1==(v.2.2.2.2.2.2.1[i]'(by omega)).1) with
    | true=>simp
    | false=>cases inR y.2 0 100 9<;>simp
 ·intro again
  unfold o4
  dsimp only
  rw [aF (by omega)]
 ·omega
structure Uf (pl:Int) (x:av):Prop where
 dec:b6 x.2.1
 place:x.1=false→x.2.1.2≤pl
 nz:x.2.1.1≠0
theorem rO {pl:Int} {rates:List aD} {line:Bool} {l:List av} (h:lQ pl rates line l=0):l.length≤20∧∀ x∈l,Uf pl x∧(line=true→x.2.2=[])∧(x.2.2=[]∨(cn (·.1) x.2.2 rates).isSome=true):=by
 unfold lQ at h
 split at h
 ·omega
 ·refine ⟨by omega,fun x hx=> ?_⟩
  obtain ⟨i,hi⟩:=afv.1 hx
  have:=CG h i x hi
  unfold Ul at this
  by_cases hd:b6 x.2.1
  ·rw [if_pos hd] at this
   by_cases h0:x.2.1.1=0
   ·rw [if_pos h0] at this;omega
   ·rw [if_neg h0] at this
    by_cases hr:(if x.1=true then inR x.2.1 (-100) 100 9 else inR x.2.1 (-1000000000) 1000000000 pl)=true
    ·rw [if_pos hr] at this
     refine ⟨⟨hd,fun hp=> ?_,h0⟩,fun hline=> ?_, ?_⟩
     ·rw [hp] at hr
      simp only [ad8,agK,inR,decide_eq_true_eq] at hr
      exact hr.2.1
     ·rw [hline] at this
      by_cases hn:x.2.2=[]
      ·exact hn
      ·rw [if_neg hn] at this;simp at this
     ·by_cases hn:x.2.2=[]
      ·exact .inl hn
      ·rw [if_neg hn] at this
       right
       cases hx2:(cn (fun x:aD=>x.1) x.2.2 rates).isSome with
       | true=>rfl
       | false=>rw [hx2] at this;cases line<;>simp at this
    ·rw [if_neg hr] at this;omega
  ·rw [if_neg hd] at this;omega
structure zx (pl:Int) (rates:List aD) (x:au):Prop where
 q:b6 x.2.2.2.1
 qp:x.2.2.2.1.2≤3
 qn:x.2.2.2.1.1≠0
 p:b6 x.2.2.2.2.2.1
 pp:x.2.2.2.2.2.1.2≤4
 p0:0≤x.2.2.2.2.2.1.1
 per:1≤x.2.2.2.2.2.2.1∧x.2.2.2.2.2.2.1≤100000
 ext:lQ pl rates true x.2.2.2.2.2.2.2.1=0
 rate:(cn (·.1) x.2.2.2.2.2.2.2.2 rates).isSome=true
theorem aaU {pl:Int} {rates:List aD} {lines:List au} {i:Nat} {x:au} (h:yp pl rates lines i x=0):zx pl rates x:=by
 unfold yp at h
 split at h
 ·omega
 split at h
 ·omega
 split at h
 ·omega
 split at h
 ·omega
 split at h
 ·omega
 rename_i h1
 split at h
 ·omega
 rename_i h2
 split at h
 ·omega
 split at h
 ·omega
 rename_i h3
 split at h
 ·omega
 rename_i h4
 split at h
 ·omega
 rename_i h5
 split at h
 ·rename_i h6
  have h1':inR x.2.2.2.1 (-1000000000) 1000000000 3=true:=by simpa using h1
  have h3':inR x.2.2.2.2.2.1 0 1000000000 4=true:=by simpa using h3
  unfold inR at h1' h3'
  rw [decide_eq_true_eq] at h1' h3'
  exact ⟨h1'.1,h1'.2.1,h2,h3'.1,h3'.2.1,by have:=h3'.2.2.1;rw [aeG] at this;exact this,by omega,by omega,h6⟩
 ·omega
structure lf (v:ah):Prop where
 pl:0≤v.2.2.2.1∧v.2.2.2.1≤4
 way:1≤v.2.2.2.2.1∧v.2.2.2.2.1≤6
 rn:0<v.2.2.2.2.2.2.1.length∧v.2.2.2.2.2.2.1.length≤20
 asc:Asc (·.1) v.2.2.2.2.2.2.1
 rates:∀ r∈v.2.2.2.2.2.2.1,inR r.2 0 100 9=true
 ln:0<v.2.2.2.2.2.2.2.1.length∧v.2.2.2.2.2.2.2.1.length≤500
 lines:∀ x∈v.2.2.2.2.2.2.2.1,zx v.2.2.2.1 v.2.2.2.2.2.2.1 x
 ext:lQ v.2.2.2.1 v.2.2.2.2.2.2.1 false v.2.2.2.2.2.2.2.2=0
theorem jM {v:ah} (h:iq v=0):lf v:=by
 unfold iq at h
 split at h
 ·omega
 split at h
 ·omega
 split at h
 ·omega
 split at h
 ·omega
 split at h
 ·omega
 split at h
 ·omega
 rename_i h1
 split at h
 ·omega
 split at h
 ·omega
 split at h
 ·omega
 rename_i h2
 have hr:=Rx (show pZ v.2.2.2.2.2.2.1=0 by omega)
 refine ⟨by omega,by omega,⟨hr.1,hr.2.1⟩,hr.2.2.1,hr.2.2.2,by omega,fun x hx=> ?_,h⟩
 obtain ⟨i,hi⟩:=afv.1 hx
 have:=CG (show OS v=0 by omega) i x hi
 exact aaU this
end Go.Md
namespace Go.Md
open Go.Dn
abbrev MU:Int:=1000000000000000
def vf (v:ah) (x:au):Int:=
 rnd v.2.2.2.2.1 (x.2.2.2.1.1*x.2.2.2.2.2.1.1*10 ^ v.2.2.2.1.toNat) (10 ^ (x.2.2.2.1.2+x.2.2.2.2.2.1.2).toNat*x.2.2.2.2.2.2.1.toNat)
theorem Le.dec {d:ak} (h:b6 d):Le 15 d.1:=by
 have:=h.1
 unfold Le;omega
theorem Le.i1 {n:Int} (h1: -9223372036854775808≤n) (h2:n≤9223372036854775807):n.natAbs<4294967296 ^ 99:=(Le.int h1 h2).w (by omega)
theorem L4 (k:Nat):((10 ^ k:Nat):Int)=10 ^ k:=by simp
theorem Sa {v:ah} {x:au} (hv:lf v) (hx:zx v.2.2.2.1 v.2.2.2.2.2.2.1 x):Le 34 (x.2.2.2.1.1*x.2.2.2.2.2.1.1*10 ^ v.2.2.2.1.toNat):=
 ((Le.dec hx.q).mul (Le.dec hx.p)).mul ((Le.pow v.2.2.2.1.toNat).mono (by have:=hv.pl;omega:_≤4))
theorem VJ {v:ah} {x:au} (hx:zx v.2.2.2.1 v.2.2.2.2.2.2.1 x):0<10 ^ (x.2.2.2.1.2+x.2.2.2.2.2.1.2).toNat*x.2.2.2.2.2.2.1.toNat∧Le 12 ((10 ^ (x.2.2.2.1.2+x.2.2.2.2.2.1.2).toNat*x.2.2.2.2.2.2.1.toNat:Nat):Int):=by
 have h1:=hx.qp;have h2:=hx.pp;have h3:=hx.per
 refine ⟨Nat.mul_pos (agk (by omega)) (by omega), ?_⟩
 have:Le (7+5) (((10 ^ (x.2.2.2.1.2+x.2.2.2.2.2.1.2).toNat:Nat):Int)*((x.2.2.2.2.2.2.1.toNat:Nat):Int)):=Le.mul (by rw [L4];exact (Le.pow _).mono (by omega)) (Le.nat (by omega))
 rw [← aev] at this
 exact this
theorem CL {n:Int} (h0:0≤n) (h1:n≤60):pI n=some (W (10 ^ n.toNat),()):=by
 obtain ⟨m,rfl⟩:∃ m:Nat,n=m:=⟨n.toNat,by omega⟩
 exact Lc m (by omega)
theorem B2 {n:Int} (h0:0≤n) (h1:n≤40):wQ n=some (N (10 ^ n.toNat),()):=by
 obtain ⟨m,rfl⟩:∃ m:Nat,n=m:=⟨n.toNat,by omega⟩
 exact RN m (by omega)
theorem CP (z:Int):jK (W z)=some (decide (z.natAbs≤MU),()):=by
 unfold jK
 rw [ur z _ (by omega) (by omega),Option.bind_some]
 by_cases h:(z.natAbs:Int)≤1000000000000000
 ·rw [if_pos h,agE h]
 ·rw [if_neg h,agD h]
theorem V8 {v:ah} {x:au} (hv:lf v) (hx:zx v.2.2.2.1 v.2.2.2.2.2.2.1 x):Hj v x=some (W (vf v x),decide ((vf v x).natAbs≤MU),()):=by
 have hq:=hx.q.1;have hp:=hx.p.1;have hper:=hx.per;have hpl:=hv.pl;have h1:=hx.qp;have h2:=hx.pp;have h3:=hx.q.2.1;have h4:=hx.p.2.1
 have hL:=Sa hv hx
 have hD:=VJ hx
 unfold Hj
 rw [fX _ (by omega) (by omega),Option.bind_some,fX _ (by omega) (by omega),Option.bind_some]
 dsimp only
 rw [gM _ _ ((Le.dec hx.q).w (by omega)) ((Le.dec hx.p).w (by omega)),Option.bind_some,CL (by omega) (by omega),Option.bind_some]
 dsimp only
 rw [gM _ _ (((Le.dec hx.q).mul (Le.dec hx.p)).w (by omega)) ((Le.pow _).w (by omega)),Option.bind_some,aA (by omega) (by omega),CL (by omega) (by omega),Option.bind_some,fX _ (by omega) (by omega),Option.bind_some]
 dsimp only
 rw [gM _ _ ((Le.pow _).w (by omega)) (Le.i1 (by omega) (by omega)),Option.bind_some]
 have e:(10:Int) ^ (x.2.2.2.1.2+x.2.2.2.2.2.1.2).toNat*x.2.2.2.2.2.2.1=((10 ^ (x.2.2.2.1.2+x.2.2.2.2.2.1.2).toNat*x.2.2.2.2.2.2.1.toNat:Nat):Int):=by
  rw [aev,L4,Int.toNat_of_nonneg (by omega)]
 dsimp only
 rw [e,G6 _ _ _ hD.1 (hL.mono (by omega)) (hD.2.mono (by omega)),Option.bind_some]
 dsimp only
 rw [CP,Option.bind_some]
 rfl
theorem K1 (v:ah) (a:Int) (b:Nat) (hb:0<b) (ha:Le 300 a) (hb2:Le 300 (b:Int)):zK v (N a) (N (b:Int))=some (if (rnd v.2.2.2.2.1 a b).natAbs≤MU then (rnd v.2.2.2.2.1 a b,true,()) else (0,false,())):=by
 unfold zK
 rw [YN a b _ hb (ha.mono (by omega)) (hb2.mono (by omega)),Option.bind_some]
 dsimp only
 rw [EF _ _ (by omega) (by omega) ((Yp ha).mono (by omega)),Option.bind_some]
theorem X5 {v:ah} {x:au} (hv:lf v) (hx:zx v.2.2.2.1 v.2.2.2.2.2.2.1 x):Jx v x=some (if (vf v x).natAbs≤MU then (vf v x,true,()) else (0,false,())):=by
 have hq:=hx.q.1;have hp:=hx.p.1;have hper:=hx.per;have hpl:=hv.pl;have h1:=hx.qp;have h2:=hx.pp;have h3:=hx.q.2.1;have h4:=hx.p.2.1
 have hL:=Sa hv hx
 have hD:=VJ hx
 have l1:=(Le.dec hx.q).n (by omega);have l2:=(Le.dec hx.p).n (by omega);have l3:=((Le.dec hx.q).mul (Le.dec hx.p)).n (by omega)
 have l4:=(Le.pow v.2.2.2.1.toNat).n (by omega)
 have l5:=(Le.pow (x.2.2.2.1.2+x.2.2.2.2.2.1.2).toNat).n (by omega)
 have l6:=(Le.int (n:=x.2.2.2.2.2.2.1) (by omega) (by omega)).n (by omega)
 unfold Jx
 rw [gQ _ (by omega) (by omega),Option.bind_some,gQ _ (by omega) (by omega),Option.bind_some]
 dsimp only
 rw [gw _ _ (by omega) (by omega),Option.bind_some,B2 (by omega) (by omega),Option.bind_some]
 dsimp only
 rw [gw _ _ (by omega) (by omega),Option.bind_some,aA (by omega) (by omega),B2 (by omega) (by omega),Option.bind_some,gQ _ (by omega) (by omega),Option.bind_some]
 dsimp only
 rw [gw _ _ (by omega) (by omega),Option.bind_some]
 have e:(10:Int) ^ (x.2.2.2.1.2+x.2.2.2.2.2.1.2).toNat*x.2.2.2.2.2.2.1=((10 ^ (x.2.2.2.1.2+x.2.2.2.2.2.1.2).toNat*x.2.2.2.2.2.2.1.toNat:Nat):Int):=by
  rw [aev,L4,Int.toNat_of_nonneg (by omega)]
 dsimp only
 rw [e,K1 v _ _ hD.1 (hL.mono (by omega)) (hD.2.mono (by omega)),Option.bind_some]
 rfl
def iT (way n:Int) (d:ak):Int:=rnd way (n*d.1) (100*10 ^ d.2.toNat)
theorem Xc (d:ak) (h:b6 d):0<100*10 ^ d.2.toNat∧Le 11 ((100*10 ^ d.2.toNat:Nat):Int):=by
 refine ⟨Nat.mul_pos (by omega) (agk (by omega)), ?_⟩
 have:=h.2.2
 have h2:Le (2+9) ((100:Int)*((10 ^ d.2.toNat:Nat):Int)):=Le.mul (by unfold Le;decide) (by rw [L4];exact (Le.pow _).mono (by omega))
 rw [show (100:Int)=((100:Nat):Int) from rfl, ← aev] at h2
 exact h2
theorem UG {way n:Int} {d:ak} {k:Nat} (hn:Le k n) (hd:b6 d):Le (k+16) (iT way n d):=Yp (k:=k+15) (hn.mul (Le.dec hd))
theorem B6 (v:ah) (n:Int) (d:ak) (hd:b6 d) (hn:Le 300 n):rG v (W n) d=some (W (iT v.2.2.2.2.1 n d),()):=by
 have h1:=hd.1;have h2:=hd.2
 have hD:=Xc d hd
 unfold rG
 rw [fX _ (by omega) (by omega),Option.bind_some]
 dsimp only
 rw [gM _ _ (hn.w (by omega)) ((Le.dec hd).w (by omega)),Option.bind_some,fX 100 (by omega) (by omega),Option.bind_some,CL (by omega) (by omega),Option.bind_some]
 dsimp only
 rw [gM _ _ (Le.i1 (by omega) (by omega)) ((Le.pow _).w (by omega)),Option.bind_some]
 dsimp only
 have e:(100:Int)*10 ^ d.2.toNat=((100*10 ^ d.2.toNat:Nat):Int):=by rw [aev,L4];rfl
 rw [e,G6 _ _ _ hD.1 ((hn.mul (Le.dec hd)).mono (by omega)) (hD.2.mono (by omega)),Option.bind_some]
 rfl
theorem L6 (v:ah) (n:Int) (d:ak) (hd:b6 d) (hn:n.natAbs≤9000000000000000000):pG v n d=some (if (iT v.2.2.2.2.1 n d).natAbs≤MU then (iT v.2.2.2.2.1 n d,true,()) else (0,false,())):=by
 have h1:=hd.1;have h2:=hd.2
 have hD:=Xc d hd
 have hn':Le 19 n:=Le.int (by omega) (by omega)
 have l1:=hn'.n (by omega);have l2:=(Le.dec hd).n (by omega);have l3:=(Le.pow d.2.toNat).n (by omega)
 have l4:(dg6 (Int.natAbs 100)).length<90:=(Le.int (n:=100) (by omega) (by omega)).n (by omega)
 unfold pG
 rw [gQ _ (by omega) (by omega),Option.bind_some,gQ _ (by omega) (by omega),Option.bind_some]
 dsimp only
 rw [gw _ _ (by omega) (by omega),Option.bind_some,B2 (by omega) (by omega),Option.bind_some,gQ 100 (by omega) (by omega),Option.bind_some]
 dsimp only
 rw [gw _ _ (by omega) (by omega),Option.bind_some]
 dsimp only
 have e:(10:Int) ^ d.2.toNat*100=((100*10 ^ d.2.toNat:Nat):Int):=by rw [aev,L4,Int.mul_comm];rfl
 rw [e,K1 v _ _ hD.1 ((hn'.mul (Le.dec hd)).mono (by omega)) (hD.2.mono (by omega)),Option.bind_some]
 rfl
def gj (way pl g:Int) (x:av):Int:=if x.1=true then iT way g x.2.1 else x.2.1.1*10 ^ (pl - x.2.1.2).toNat
theorem abU (d:ak) (p:Int) (hd:b6 d) (hp:d.2≤p) (hp2:p≤9):J2 d p=some (N (d.1*10 ^ (p - d.2).toNat),()):=by
 have h1:=hd.1;have h2:=hd.2
 have l2:=(Le.dec hd).n (by omega);have l3:=(Le.pow (p - d.2).toNat).n (by omega)
 unfold J2
 rw [gQ _ (by omega) (by omega),Option.bind_some,aA (by omega) (by omega),B2 (by omega) (by omega),Option.bind_some]
 dsimp only
 rw [gw _ _ (by omega) (by omega),Option.bind_some]
theorem NQ (v:ah) (x:av) (n:Int) (hpl:0≤v.2.2.2.1∧v.2.2.2.1≤4) (hx:Uf v.2.2.2.1 x) (hn:n.natAbs≤9000000000000000000):B8 v x n=some (if (gj v.2.2.2.2.1 v.2.2.2.1 n x).natAbs≤MU then (gj v.2.2.2.2.1 v.2.2.2.1 n x,true,()) else (0,false,())):=by
 unfold B8 gj
 cases hp:x.1 with
 | true=>
  rw [cond_true,L6 v n _ hx.dec hn,Option.bind_some]
  simp only [agL]
 | false=>
  have h1:=hx.place hp;have h2:=hx.dec.2
  rw [cond_false,abU _ _ hx.dec h1 (by omega),Option.bind_some]
  dsimp only
  rw [EF _ _ (by omega) (by omega) (((Le.dec hx.dec).mul (Le.pow _)).mono (by omega)),Option.bind_some]
  simp only [ad8,agK]
end Go.Md
namespace Go.Md
open Go.Dn
def qL (am:av→Int):List av→Int→Option Int
 | [],n=>some n
 | x::r,n=>if (am x).natAbs≤MU∧(n+am x).natAbs≤MU then qL am r (n+am x) else none
def BY (am:av→Int) (l:List av):Int:=(l.map am).sum
theorem VP {am:av→Int}:∀ {l:List av} {n m:Int},qL am l n=some m→m=n+BY am l
 | [],n,m,h=>by simp only [qL,Option.some.injEq] at h;simp [BY,h]
 | x::r,n,m,h=>by
  simp only [qL] at h
  split at h
  ·have:=VP h
   simp only [BY,afn,afL] at this ⊢
   omega
  ·cases h
theorem TL {am:av→Int}:∀ {l:List av} {n m:Int},n.natAbs≤MU→qL am l n=some m→m.natAbs≤MU
 | [],n,m,hn,h=>by simp only [qL,Option.some.injEq] at h;subst h;exact hn
 | x::r,n,m,hn,h=>by
  simp only [qL] at h
  split at h
  ·rename_i hc;exact TL hc.2 h
  ·cases h
def A1 (v:ah) (x:au):Option Int:=
 if (vf v x).natAbs≤MU then qL (gj v.2.2.2.2.1 v.2.2.2.1 (vf v x)) x.2.2.2.2.2.2.2.1 (vf v x) else none
def acg (v:ah) (x:au):Int:=vf v x+BY (gj v.2.2.2.2.1 v.2.2.2.1 (vf v x)) x.2.2.2.2.2.2.2.1
theorem OJ {v:ah} {x:au} {m:Int} (h:A1 v x=some m):m=acg v x∧m.natAbs≤MU:=by
 unfold A1 at h
 split at h
 ·rename_i hc;exact ⟨VP h,TL hc h⟩
 ·cases h
theorem adC {way pl g:Int} {x:av} {k:Nat} (hk:8≤k) (hpl:0≤pl∧pl≤4) (hx:Uf pl x) (hg:Le k g):Le (k+16) (gj way pl g x):=by
 unfold gj
 split
 ·exact UG hg hx.dec
 ·have:=hx.dec.2
  exact ((Le.dec hx.dec).mul (Le.pow _)).mono (by omega)
theorem YT {v:ah} {x:au} (hv:lf v) (hx:zx v.2.2.2.1 v.2.2.2.2.2.2.1 x):Mj v x=some (W (acg v x),(A1 v x).isSome,()):=by
 have hpl:=hv.pl
 obtain ⟨hl,hex⟩:=rO hx.ext
 have hG:Le 35 (vf v x):=Yp (Sa hv hx)
 unfold Mj
 rw [V8 hv hx,Option.bind_some]
 dsimp only
 unfold A1 acg
 generalize x.2.2.2.2.2.2.2.1=l at*
 generalize vf v x=g at*
 obtain ⟨a,b,c,d,e,f,rt,ln,k⟩:=v
 dsimp only at*
 have key:∀ f',l.length<f'→iter f' ((decide (g.natAbs≤MU),l,(l.length:Int),(0:Int),a,b,c,d,e,f,rt,ln,k,false,([]:List Int),(W g).1,(W g).2,(W g).1,(W g).2,()):zw) EJ=
  some (Sum.inr (decide (g.natAbs≤MU)&&(qL (gj e d g) l g).isSome,false,[],(W (g+BY (gj e d g) l)).1,(W (g+BY (gj e d g) l)).2,())):=by
  intro f' hf
  refine bn (Inv:=fun i X=>∃ (ok:Bool) (n:Int),X=((ok,l,(l.length:Int),(i:Int),a,b,c,d,e,f,rt,ln,k,false,([]:List Int),(W g).1,(W g).2,(W n).1,(W n).2,()):zw)∧(ok&&(qL (gj e d g) (l.drop i) n).isSome)=(decide (g.natAbs≤MU)&&(qL (gj e d g) l g).isSome)∧n+BY (gj e d g) (l.drop i)=g+BY (gj e d g) l∧Le (52+i) n) l.length
   (fun r=>r=some (Sum.inr (decide (g.natAbs≤MU)&&(qL (gj e d g) l g).isSome,false,[],(W (g+BY (gj e d g) l)).1,(W (g+BY (gj e d g) l)).2,()))) ?_ ?_ f' 0 _ ⟨_,g,rfl,by simp,by simp,hG.mono (by omega)⟩ (by omega) (by omega)
  ·rintro i _ again hi ⟨ok,n,rfl,h1,h2,h3⟩ ih
   unfold EJ
   dsimp only
   have hy:l[i]? =some l[i]:=aH hi
   have hym:l[i]∈l:=afb hi
   have hcons:=u5 hy
   generalize l[i]=y at hy hcons hym
   obtain ⟨hyo,_,_⟩:=hex y hym
   have hd1:=hyo.dec.1;have hd2:=hyo.dec.2
   rw [hcons] at h1 h2
   have hA:=adC (way:=e) (by omega) hpl hyo hG
   have hmx:(if y.2.1.2>d then y.2.1.2 else d)=max d y.2.1.2:=by omega
   rw [aE (by omega),bh,hy,Option.bind_some,hmx,IQ _ _ (by omega) (by omega) (by omega) (by omega) (by omega),Option.bind_some]
   dsimp only
   have hjoin:∀ K,aP (β:=((aa×Bool×Unit) ⊕ (Bool×Bool×(List Int)×Bool×(List Int)×Unit))) (bif y.1 then Option.bind (rG (a,b,c,d,e,f,rt,ln,k) ((W g).1,(W g).2) y.2.1) fun r4=>some (Sum.inr (ok,l,(l.length:Int),(i:Int),a,b,c,d,e,f,rt,ln,k,false,([]:List Int),(W g).1,(W g).2,(W n).1,(W n).2,r4.1.1,r4.1.2,())) else some (Sum.inr (ok,l,(l.length:Int),(i:Int),a,b,c,d,e,f,rt,ln,k,false,([]:List Int),(W g).1,(W g).2,(W n).1,(W n).2,(W (y.2.1.1*10 ^ (max d y.2.1.2 - y.2.1.2).toNat)).1,(W (y.2.1.1*10 ^ (max d y.2.1.2 - y.2.1.2).toNat)).2,()))) K=
    K (ok,l,(l.length:Int),(i:Int),a,b,c,d,e,f,rt,ln,k,false,([]:List Int),(W g).1,(W g).2,(W n).1,(W n).2,(W (gj e d g y)).1,(W (gj e d g y)).2,()):=by
    intro K
    unfold gj
    cases hp:y.1 with
    | true=>
     rw [cond_true,show ((W g).1,(W g).2)=W g from rfl,B6 _ g _ hyo.dec (hG.mono (by omega)),Option.bind_some,aG]
     simp only [agL]
    | false=>
     have:=hyo.place hp
     rw [cond_false,aG,show max d y.2.1.2=d by omega]
     simp only [ad8,agK]
   rw [hjoin]
   dsimp only
   generalize hzd:gj e d g y=z at*
   have hz:Le (52+i) z:=hA.mono (by omega)
   rw [show ((W n).1,(W n).2)=W n from rfl,show ((W z).1,(W z).2)=W z from rfl,dP _ _ (h3.w (by omega)) (hz.w (by omega)),Option.bind_some]
   dsimp only
   rw [CP,CP,Option.bind_some,Option.bind_some,aA (by omega) (by omega)]
   have hs:n+z+BY (gj e d g) (l.drop (i+1))=g+BY (gj e d g) l:=by
    rw [← h2]
    simp only [BY,afn,afL,hzd]
    omega
   have hn:qL (gj e d g) (y::l.drop (i+1)) n=if z.natAbs≤MU∧(n+z).natAbs≤MU then qL (gj e d g) (l.drop (i+1)) (n+z) else none:=by simp only [qL,hzd]
   rw [hn] at h1
   cases ok with
   | false=>
    rw [cond_false]
    exact ih _ ⟨false,n+z,rfl,by simpa using h1,hs,h3.add hz⟩
   | true=>
    rw [cond_true]
    by_cases f1:(z.natAbs:Int)≤MU
    ·rw [agE f1,cond_true]
     refine ih _ ⟨_,n+z,rfl, ?_,hs,h3.add hz⟩
     by_cases f2:((n+z).natAbs:Int)≤MU
     ·rw [agE f2, ← h1,if_pos ⟨f1,f2⟩]
     ·rw [agD f2, ← h1,if_neg (fun h=>f2 h.2)];rfl
    ·rw [agD f1,cond_false]
     refine ih _ ⟨false,n+z,rfl, ?_,hs,h3.add hz⟩
     rw [← h1,if_neg (fun h=>f1 h.1)];rfl
  ·rintro _ again ⟨ok,n,rfl,h1,h2,h3⟩
   unfold EJ
   dsimp only
   rw [aF (by omega)]
   rw [List.drop_length] at h1 h2
   simp only [qL,agu,ad7,BY,afo,List.sum_nil,ael] at h1 h2
   rw [h1,h2]
   rfl
 rw [key _ (by omega),aG]
 dsimp only
 congr 3
 by_cases hg:(g.natAbs:Int)≤MU
 ·rw [agE hg,if_pos hg,aei]
 ·rw [agD hg,if_neg hg];rfl
theorem lN (n:Int):nR n=some (decide (n.natAbs≤MU),()):=by
 unfold nR
 rw [Gj,Option.bind_some]
 congr 2
 rw [agC]
 show _↔(n.natAbs:Int)≤1000000000000000
 omega
def adp:Option Int→Option Hw
 | some m=>some (Sum.inr (m,()))
 | none=>some (Sum.inl (0,false,()))
def acq:Option Int→Int×Bool×Unit
 | some n=>(n,true,())
 | none=>(0,false,())
theorem SS {v:ah} {x:au} (hv:lf v) (hx:zx v.2.2.2.1 v.2.2.2.2.2.2.1 x):QL v x=some (acq (A1 v x)):=by
 have hpl:=hv.pl
 obtain ⟨hl,hex⟩:=rO hx.ext
 unfold QL
 rw [X5 hv hx,Option.bind_some]
 unfold A1
 generalize x.2.2.2.2.2.2.2.1=l at*
 generalize vf v x=g at*
 by_cases hg:(g.natAbs:Int)≤MU
 ·rw [if_pos hg,if_pos hg]
  have hg':(g.natAbs:Int)≤1000000000000000:=hg
  dsimp only
  rw [Bool.not_true,cond_false]
  obtain ⟨a,b,c,d,e,f,rt,ln,k⟩:=v
  dsimp only at*
  have key:∀ f',l.length<f'→iter f' ((g,g,l,(l.length:Int),(0:Int),a,b,c,d,e,f,rt,ln,k,()):De) G8=adp (qL (gj e d g) l g):=by
   intro f' hf
   refine bn (Inv:=fun i X=>∃ n:Int,X=((g,n,l,(l.length:Int),(i:Int),a,b,c,d,e,f,rt,ln,k,()):De)∧qL (gj e d g) (l.drop i) n=qL (gj e d g) l g∧n.natAbs≤MU) l.length
    (fun r=>r=adp (qL (gj e d g) l g)) ?_ ?_ f' 0 _ ⟨g,rfl,rfl,hg⟩ (by omega) (by omega)
   ·rintro i _ again hi ⟨n,rfl,h1,h3⟩ ih
    unfold G8
    dsimp only
    have hy:l[i]? =some l[i]:=aH hi
    have hym:l[i]∈l:=afb hi
    have hcons:=u5 hy
    generalize l[i]=y at hy hcons hym
    obtain ⟨hyo,_,_⟩:=hex y hym
    rw [hcons] at h1
    simp only [qL] at h1
    have h3':(n.natAbs:Int)≤1000000000000000:=h3
    rw [aE (by omega),bh,hy,Option.bind_some,NQ (a,b,c,d,e,f,rt,ln,k) y g hpl hyo (by omega),Option.bind_some]
    dsimp only
    generalize gj e d g y=z at*
    by_cases f1:(z.natAbs:Int)≤MU
    ·have f1':(z.natAbs:Int)≤1000000000000000:=f1
     rw [if_pos f1]
     dsimp only
     rw [Bool.not_true,cond_false,aA (n:=n+z) (by omega) (by omega),lN,Option.bind_some,aA (by omega) (by omega)]
     by_cases f2:((n+z).natAbs:Int)≤MU
     ·rw [if_pos ⟨f1,f2⟩] at h1
      rw [agE f2,Bool.not_true,cond_false]
      exact ih _ ⟨n+z,rfl,h1,f2⟩
     ·rw [if_neg (fun h=>f2 h.2)] at h1
      rw [agD f2, ← h1]
      rfl
    ·rw [if_neg (fun h=>f1 h.1)] at h1
     rw [if_neg f1, ← h1]
     rfl
   ·rintro _ again ⟨n,rfl,h1,h3⟩
    unfold G8
    dsimp only
    rw [aF (by omega)]
    rw [List.drop_length] at h1
    rw [← h1]
    rfl
  rw [key _ (by omega)]
  cases qL (gj e d g) l g<;>rfl
 ·rw [if_neg hg,if_neg hg]
  rfl
theorem Y6:Qh=some (true,()):=by kernel_rfl
end Go.Md
