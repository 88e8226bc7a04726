/-
  Plain facts: what is wrong with an invoice; gross and net. No condition.
-/
import Derived.Test.YtalfglakknbjkaaGreatDoorTr
set_option linter.all false
namespace Go.Md
open Go.Dn
theorem si:∀ a:List UInt8,Op.bytesLess a a=false
 | []=>rfl
 | x::a=>by simp [Op.bytesLess,si a]
theorem Ka:∀ {a b:List UInt8},Lib.compareBytes a b=0↔a=b
 | [],[]=>by simp [Lib.compareBytes]
 | [],_::_=>by simp [Lib.compareBytes]
 | _::_,[]=>by simp [Lib.compareBytes]
 | x::a,y::b=>by
  simp only [Lib.compareBytes,List.cons.injEq]
  by_cases h1:x<y
  ·simp only [h1,YM]
   constructor
   ·intro h;omega
   ·rintro ⟨rfl,_⟩;exact absurd h1 (UInt8.lt_irrefl x)
  ·by_cases h2:y<x
   ·simp only [h1,h2,YM,YL]
    constructor
    ·intro h;omega
    ·rintro ⟨rfl,_⟩;exact absurd h2 (UInt8.lt_irrefl x)
   ·have:x=y:=UInt8.le_antisymm (YC.1 h2) (YC.1 h1)
    subst this
    simp only [h1,YL,true_and]
    exact Ka
theorem H9:∀ {a b:List UInt8},Lib.compareBytes a b<0↔Op.bytesLess a b=true
 | [],[]=>by simp [Lib.compareBytes,Op.bytesLess]
 | [],_::_=>by simp [Lib.compareBytes,Op.bytesLess]
 | _::_,[]=>by simp [Lib.compareBytes,Op.bytesLess]
 | x::a,y::b=>by
  have ih:= @H9 a b
  simp only [Lib.compareBytes,Op.bytesLess]
  by_cases h1:x<y
  ·simp [h1]
  ·by_cases h2:y<x
   ·have hne:¬ x=y:=fun e=>by subst e;exact absurd h2 (UInt8.lt_irrefl x)
    simp [h1,h2,hne]
   ·have:x=y:=UInt8.le_antisymm (YC.1 h2) (YC.1 h1)
    subst this
    simp [h1,ih]
theorem BJ:∀ {a b c:List UInt8},Op.bytesLess a b=true→Op.bytesLess b c=true→Op.bytesLess a c=true
 | [],[],_,h,_=>by simp [Op.bytesLess] at h
 | [],_::_,[],_,h=>by simp [Op.bytesLess] at h
 | [],_::_,_::_,_,_=>rfl
 | _::_,[],_,h,_=>by simp [Op.bytesLess] at h
 | _::_,_::_,[],_,h=>by simp [Op.bytesLess] at h
 | x::a,y::b,z::c,h,k=>by
  simp only [Op.bytesLess,Wz,Wo,decide_eq_true_eq,YD] at h k ⊢
  rcases h with h | ⟨rfl,h⟩
  ·rcases k with k | ⟨rfl,k⟩
   ·exact .inl (UInt8.lt_trans h k)
   ·exact .inl h
  ·rcases k with k | ⟨rfl,k⟩
   ·exact .inl k
   ·exact .inr ⟨rfl,BJ h k⟩
theorem Ut (a b:List UInt8):Op.bytesLess a b=true∨a=b∨Op.bytesLess b a=true:=by
 induction a generalizing b with
 | nil=>cases b with
  | nil=>simp
  | cons y b=>simp [Op.bytesLess]
 | cons x a ih=>cases b with
  | nil=>simp [Op.bytesLess]
  | cons y b=>
   simp only [Op.bytesLess,Wz,Wo,decide_eq_true_eq,YD,List.cons.injEq]
   by_cases h1:x<y
   ·simp [h1]
   ·by_cases h2:y<x
    ·simp [h2]
    ·have:x=y:=UInt8.le_antisymm (YC.1 h2) (YC.1 h1)
     subst this
     rcases ih b with h | h | h<;>simp [h]
def Asc {α:Type} (key:α→List UInt8) (l:List α):Prop:=∀ (i j:Nat) (x y:α),i<j→l[i]? =some x→l[j]? =some y→Op.bytesLess (key x) (key y)=true
def jM {α:Type} (key:α→List UInt8) (t:List UInt8) (l:List α):Option Nat:=l.findIdx? (fun r=>key r==t)
theorem qs {α:Type} {key:α→List UInt8} {t:List UInt8} {l:List α} {k:Nat} (h:jM key t l=some k):∃ x,l[k]? =some x∧key x=t:=by
 unfold jM at h
 rw [List.findIdx?_eq_some_iff_getElem] at h
 obtain ⟨h1,h2,_⟩:=h
 exact ⟨_,List.getElem?_eq_getElem h1,by simpa using h2⟩
theorem TE {α:Type} {key:α→List UInt8} {t:List UInt8} {l:List α} (h:jM key t l=none):∀ x∈l,key x≠t:=by
 unfold jM at h
 rw [List.findIdx?_eq_none_iff] at h
 intro x hx e
 have:=h x hx
 simp [e] at this
theorem Vj {α:Type} {key:α→List UInt8} {t:List UInt8} {l:List α} (hs:Asc key l) {k:Nat} {x:α} (hk:l[k]? =some x) (hx:key x=t):jM key t l=some k:=by
 cases h:jM key t l with
 | none=>exact absurd hx (TE h x (List.mem_of_getElem? hk))
 | some j=>
  obtain ⟨y,h1,h2⟩:=qs h
  rcases Yi j k with hlt | rfl | hlt
  ·have:=hs j k y x hlt h1 hk
   rw [h2,hx,si] at this;cases this
  ·rfl
  ·have:=hs k j x y hlt hk h1
   rw [h2,hx,si] at this;cases this
theorem Qg (l:List aJ) (t:List UInt8) (hl:l.length<1000000000) (hs:Asc (·.1) l):
 ∃ i:Nat,eH l t ()=some ((i:Int),(jM (·.1) t l).isSome,())∧∀ k,jM (·.1) t l=some k→i=k:=by
 unfold eH
 have loop:∀ f,l.length<f→∃ i:Nat,iter f ((l,t,(),(l.length:Int),(0:Int),(l.length:Int),()):cq) ic=some (Sum.inr (l,t,(),(l.length:Int),(i:Int),()))∧i≤l.length∧(∀ k x,l[k]? =some x→k<i→Op.bytesLess x.1 t=true)∧∀ k x,l[k]? =some x→i≤k→Op.bytesLess x.1 t=false:=by
  intro f hf
  refine JY (Inv:=fun X=>∃ i j:Nat,X=((l,t,(),(l.length:Int),(i:Int),(j:Int),()):cq)∧i≤j∧j≤l.length∧(∀ k x,l[k]? =some x→k<i→Op.bytesLess x.1 t=true)∧∀ k x,l[k]? =some x→j≤k→Op.bytesLess x.1 t=false)
   (fun X=>(X.2.2.2.2.2.1 - X.2.2.2.2.1).toNat)
   (fun _ r=>∃ i:Nat,r=some (Sum.inr (l,t,(),(l.length:Int),(i:Int),()))∧i≤l.length∧(∀ k x,l[k]? =some x→k<i→Op.bytesLess x.1 t=true)∧∀ k x,l[k]? =some x→i≤k→Op.bytesLess x.1 t=false) ?_ f _ ⟨0,l.length,rfl,by omega,by omega,fun _ _ _ h=>absurd h (Yo _),fun k x hk hle=>by have:=(List.getElem?_eq_some_iff.1 hk).1;omega⟩ (by dsimp only;omega)
  rintro _ again ⟨i,j,rfl,hij,hj,h1,h2⟩ ih
  dsimp only at ih
  unfold ic
  dsimp only
  by_cases hlt:i<j
  ·rw [az (by omega)]
   have em:w64 (Int.fdiv (bP (w64 ((i:Int)+(j:Int)))) (2 ^ 1))=(((i+j) / 2:Nat):Int):=by
    rw [au (n:=(i:Int)+(j:Int)) (by omega) (by omega),ef (by omega) (by omega),WD _ (by omega),au (by omega) (by omega)]
    omega
   rw [em]
   have hm:(i+j) / 2<l.length:=by omega
   have hy:l[(i+j) / 2]? =some l[(i+j) / 2]:=aO hm
   have hmi:i≤(i+j) / 2∧(i+j) / 2<j:=by omega
   generalize (i+j) / 2=m at*
   generalize l[m]=y at hy
   rw [bF,hy,Option.bind_some]
   show ∃ i,Option.bind (Option.bind (some (Lib.compareBytes y.1 t,())) fun r1=>some (r1.1,())) _=_∧_
   rw [Option.bind_some,Option.bind_some]
   dsimp only
   by_cases hc:Lib.compareBytes y.1 t<0
   ·rw [az hc,au (by omega) (by omega)]
    refine ih _ ⟨m+1,j,rfl,by omega,hj,fun k x hk hkm=> ?_,h2⟩ (by dsimp only;omega)
    rcases Nat.lt_succ_iff_lt_or_eq.1 hkm with h | h
    ·have:=hs k m x y h hk hy
     exact BJ this (H9.1 hc)
    ·subst h;rw [hy] at hk;cases hk;exact H9.1 hc
   ·rw [ay hc]
    refine ih _ ⟨i,m,rfl,by omega,by omega,h1,fun k x hk hkm=> ?_⟩ (by dsimp only;omega)
    have hc':Op.bytesLess y.1 t=false:=by
     cases h:Op.bytesLess y.1 t with
     | false=>rfl
     | true=>exact absurd (H9.2 h) hc
    rcases Nat.lt_or_eq_of_le hkm with h | h
    ·cases hx:Op.bytesLess x.1 t with
     | false=>rfl
     | true=>rw [BJ (hs m k y x h hy hk) hx] at hc';cases hc'
    ·subst h;rw [hy] at hk;cases hk;exact hc'
  ·rw [ay (by omega)]
   have:i=j:=by omega
   subst this
   exact ⟨i,rfl,hj,h1,h2⟩
 obtain ⟨i,h1,h2,h3,h4⟩:=loop (List.length l+(List.length t+(Int.natAbs ((List.length l:Int))+(Int.natAbs (0:Int)+(Int.natAbs ((List.length l:Int))+2))))) (by omega)
 refine ⟨i, ?_,fun k hk=> ?_⟩
 ·rw [h1,aE]
  dsimp only
  by_cases hi:i<l.length
  ·have hy:l[i]? =some l[i]:=aO hi
   generalize l[i]=y at hy
   rw [az (by omega),bF,hy,Option.bind_some]
   show Option.bind (Option.bind (some (Lib.compareBytes y.1 t,())) fun r1=>some (r1.1,())) _=_
   rw [Option.bind_some,Option.bind_some]
   congr 3
   by_cases he:y.1=t
   ·rw [Vj hs hy he,Ka.2 he];rfl
   ·have hne:¬ Lib.compareBytes y.1 t=0:=fun h=>he (Ka.1 h)
    rw [show (Lib.compareBytes y.1 t==0)=false by simpa using hne]
    cases hx:jM (·.1) t l with
    | none=>rfl
    | some k=>
     exfalso
     obtain ⟨x,k1,k2⟩:=qs hx
     rcases Yi k i with h | h | h
     ·have:=h3 k x k1 h;rw [k2,si] at this;cases this
     ·subst h;rw [hy] at k1;cases k1;exact he k2
     ·have:=hs i k y x h hy k1
      dsimp only at this
      rw [k2,h4 i y hy (Yc _)] at this;cases this
  ·rw [ay (by omega)]
   congr 3
   cases hx:jM (·.1) t l with
   | none=>rfl
   | some k=>
    exfalso
    obtain ⟨x,k1,k2⟩:=qs hx
    have:=h3 k x k1 (by have:=(List.getElem?_eq_some_iff.1 k1).1;omega)
    rw [k2,si] at this;cases this
 ·obtain ⟨x,k1,k2⟩:=qs hk
  rcases Yi k i with h | h | h
  ·have:=h3 k x k1 h;rw [k2,si] at this;cases this
  ·exact h.symm
  ·have hy:l[i]? =some (l[i]'(by have:=(List.getElem?_eq_some_iff.1 k1).1;omega)):=aO _
   have:=hs i k _ x h hy k1
   dsimp only at this
   rw [k2,h4 i _ hy (Yc _)] at this;cases this
theorem Bh (l:List aJ) (t:List UInt8) (hl:l.length<1000000000) (hs:Asc (·.1) l):
 ∃ i:Nat,qV l t=some ((i:Int),(jM (·.1) t l).isSome,())∧∀ k,jM (·.1) t l=some k→i=k:=by
 obtain ⟨i,h1,h2⟩:=Qg l t hl hs
 exact ⟨i,by unfold qV;rw [h1,Option.bind_some],h2⟩
theorem Fh (v:aj) (t:List UInt8) (hl:v.2.2.2.2.2.2.1.length<1000000000) (hs:Asc (·.1) v.2.2.2.2.2.2.1):j9 v t=some ((jM (·.1) t v.2.2.2.2.2.2.1).isSome,()):=by
 obtain ⟨i,h1,h2⟩:=Bh v.2.2.2.2.2.2.1 t hl hs
 unfold j9
 rw [h1,Option.bind_some]
end Go.Md
namespace Go.Md
open Go.Dn
instance (d:ak):Decidable (gU d):=by unfold gU;exact inferInstance
def inR (d:ak) (lo hi pl:Int):Bool:=decide (gU d∧d.2≤pl∧lo*10 ^ d.2.toNat≤d.1∧d.1≤hi*10 ^ d.2.toNat)
theorem jG (d:ak):bW d=some (if gU d then 0 else 1,()):=by
 rw [xz]
 congr 2
 by_cases h:gU d
 ·rw [if_pos h,if_pos (by unfold gU at h;omega)]
 ·rw [if_neg h,if_neg (by unfold gU at h;omega)]
theorem tC {d:ak} (h:gU d) (most:Int) (hm0:0≤most) (hm1:most≤1000000000):fX d most=some (inR d (-most) most 9,()):=by
 rw [Fp d most h.2.1 h.2.2 hm0 hm1]
 unfold inR
 congr 2
 rw [YF,Int.neg_mul]
 constructor
 ·rintro ⟨h1,h2⟩;exact ⟨h,h.2.2,h1,h2⟩
 ·rintro ⟨_,_,h1,h2⟩;exact ⟨h1,h2⟩
def SY (pl:Int) (rates:List aJ) (line:Bool) (x:aG):Int:=
 if gU x.2.1 then
  (if x.2.1.1=0 then 13
  else if (if x.1=true then inR x.2.1 (-100) 100 9 else inR x.2.1 (-1000000000) 1000000000 pl)=true then
   (if x.2.2=[] then 0 else if line=true then 3 else if (jM (·.1) x.2.2 rates).isSome=true then 0 else 5)
  else 1)
 else 1
def tw (pl:Int) (rates:List aJ) (line:Bool) (l:List aG):Int:=if 20<l.length then 2 else dP (fun _ x=>SY pl rates line x) 0 l
theorem UY {γ:Type} (s:Int) (u:γ):aS (β:=Int×Unit) (γ:=γ) (if s=0 then some (Sum.inr u) else some (Sum.inl (s,()))) (fun _=>some (0,()))=some (s,()):=by
 by_cases h:s=0
 ·rw [if_pos h,aE,h]
 ·rw [if_neg h,iV]
theorem TF {d:ak} {lo hi pl:Int} (h:gU d):inR d lo hi pl=(inR d lo hi 9&&decide (d.2≤pl)):=by
 unfold inR
 rw [← Bool.decide_and,YF]
 constructor
 ·rintro ⟨h1,h2,h3⟩;exact ⟨⟨h1,h.2.2,h3⟩,h2⟩
 ·rintro ⟨⟨h1,_,h3⟩,h2⟩;exact ⟨h1,h2,h3⟩
theorem H7 {X α:Type} {γ:Type} {f:X→(X→Option ((Int×Unit) ⊕ γ))→Option ((Int×Unit) ⊕ γ)} {x0:X} (mk:Nat→X) (l:List α) (g:Nat→α→Int) (u:γ) (h0:x0=mk 0)
 (hstep:∀ i y again,l[i]? =some y→f (mk i) again=if g i y=0 then again (mk (i+1)) else some (Sum.inl (g i y,()))) (hend:∀ again,f (mk l.length) again=some (Sum.inr u)) (n:Nat) (hn:l.length<n):
 iter n x0 f=if dP g 0 l=0 then some (Sum.inr u) else some (Sum.inl (dP g 0 l,())):=by
 rw [h0];exact Fj mk l g u hstep hend l 0 n rfl (Yu _) hn
theorem AM (v:aj) (l:List aG) (line:Bool) (hl:v.2.2.2.2.2.2.1.length<1000000000) (hs:Asc (·.1) v.2.2.2.2.2.2.1):kM v l line=some (tw v.2.2.2.1 v.2.2.2.2.2.2.1 line l,()):=by
 unfold kM tw
 by_cases hb:20<l.length
 ·rw [az (by omega),if_pos hb]
 ·rw [ay (by omega),if_neg hb]
  obtain ⟨a,b,c,d,e,f,g,h,k⟩:=v
  dsimp only at*
  have hR:∀ t,j9 (a,b,c,d,e,f,g,h,k) t=some ((jM (·.1) t g).isSome,()):=fun t=>Fh _ t hl hs
  rw [H7 (f:=pN) (fun i=>((line,l,(l.length:Int),(i:Int),a,b,c,d,e,f,g,h,k,()):pR)) l (fun _ x=>SY d g line x) () ?_ ?_ ?_ _ ?_]
  ·exact UY _ _
  ·rfl
  ·intro i y again hy
   have hi:=(List.getElem?_eq_some_iff.1 hy).1
   unfold pN
   dsimp only
   rw [az (by omega),bF,hy,Option.bind_some,jG,Option.bind_some]
   have hw:w64 ((i:Int)+1)=(i:Int)+1:=au (by omega) (by omega)
   unfold SY
   by_cases hd:gU y.2.1
   ·rw [if_pos hd,show ((0:Int) != 0)=false from rfl,cond_false,if_pos hd]
    by_cases h0:y.2.1.1=0
    ·rw [show (y.2.1.1==0)=true by simpa using h0,cond_true,if_pos h0];rfl
    ·rw [show (y.2.1.1==0)=false by simpa using h0,cond_false,if_neg h0]
     rw [tC hd 100 (by omega) (by omega),tC hd 1000000000 (by omega) (by omega),TF (pl:=d) hd]
     have hgt:decide (y.2.1.2>d)= !decide (y.2.1.2≤d):=by
      by_cases hq:y.2.1.2≤d
      ·simp [hq]
      ·simp [hq];omega
     have hnil:∀ (s:List UInt8),(s==[])=decide (s=[]):=fun s=>by cases s<;>rfl
     simp only [hR,Option.bind_some,hgt,hnil]
     generalize inR y.2.1 (-100) 100 9=b1
     generalize inR y.2.1 (-1000000000) 1000000000 9=b2
     generalize decide (y.2.1.2≤d)=b3
     generalize y.1=p
     by_cases hn:y.2.2=[]
     ·cases p<;>cases b1<;>cases b2<;>cases b3<;>cases line<;>simp [aS,hw,hnil,hn,hR]
     ·cases h4:(jM (fun x:aJ=>x.1) y.2.2 g).isSome<;>cases p<;>cases b1<;>cases b2<;>cases b3<;>cases line<;>simp [aS,hw,hnil,hn,hR,h4]
   ·rw [if_neg hd,if_neg hd];rfl
  ·intro again
   unfold pN
   dsimp only
   rw [ay (by omega)]
  ·omega
end Go.Md
namespace Go.Md
open Go.Dn
theorem GQ {α:Type} (l:List α):((l.length:Int)==0)=decide (l.length=0):=by
 cases l with
 | nil=>rfl
 | cons a r=>rw [show decide ((a::r).length=0)=false by simp,beq_eq_false_iff_ne];simp only [Xs];omega
def GP (l:List aJ) (i:Nat) (y:aJ):Bool:=match i with
 | 0=>false
 | i+1=>match l[i]? with
  | some p=>Op.bytesLess y.1 p.1||y.1==p.1
  | none=>false
def Nd (l:List aJ) (i:Nat) (r:aJ):Int:=if qU r.1=false then 5 else if GP l i r=true then 8 else if inR r.2 0 100 9=true then 0 else 1
def vr (l:List aJ):Int:=if l.length=0 then 9 else if 20<l.length then 2 else dP (Nd l) 0 l
theorem RN {l:List aJ} (h:∀ i y,l[i]? =some y→GP l i y=false):Asc (·.1) l:=by
 have step:∀ i x y,l[i]? =some x→l[i+1]? =some y→Op.bytesLess x.1 y.1=true:=fun i x y hx hy=>by
  have:=h (i+1) y hy
  simp only [GP,hx,Wy,beq_eq_false_iff_ne] at this
  rcases Ut x.1 y.1 with h1 | h1 | h1
  ·exact h1
  ·exact absurd h1.symm this.2
  ·rw [this.1] at h1;cases h1
 intro i j x y hij hx hy
 induction j generalizing y with
 | zero=>omega
 | succ j ih=>
  rcases Nat.lt_succ_iff_lt_or_eq.1 hij with h1 | h1
  ·have hj:j<l.length:=by have:=(List.getElem?_eq_some_iff.1 hy).1;omega
   have hz:l[j]? =some l[j]:=aO hj
   exact BJ (ih _ h1 hz) (step j _ y hz hy)
  ·subst h1;exact step i x y hx hy
theorem LK {l:List aJ} (h:vr l=0):0<l.length∧l.length≤20∧Asc (·.1) l∧∀ r∈l,inR r.2 0 100 9=true:=by
 unfold vr at h
 split at h
 ·omega
 ·split at h
  ·omega
  ·have hz:=qj h
   refine ⟨by omega,by omega,RN fun i y hy=> ?_,fun r hr=> ?_⟩
   ·have:=hz i y hy
    rw [Yt] at this
    unfold Nd at this
    split at this
    ·omega
    ·split at this
     ·omega
     ·rename_i h1;simpa using h1
   ·obtain ⟨i,hi⟩:=XL.1 hr
    have:=hz i r hi
    rw [Yt] at this
    unfold Nd at this
    split at this
    ·omega
    ·split at this
     ·omega
     ·split at this
      ·assumption
      ·omega
theorem SX {d:ak} (h:gU d) (hi:Int):inR d 0 hi 9=(!decide (d.1<0)&&inR d (-hi) hi 9):=by
 have hp:=sS d.2.toNat
 unfold inR
 rw [← decide_not, ← Bool.decide_and,YF]
 constructor
 ·rintro ⟨h1,h2,h3,h4⟩
  rw [Int.zero_mul] at h3
  refine ⟨by omega,h1,h2, ?_,h4⟩
  rw [Int.neg_mul]
  have:0≤hi*10 ^ d.2.toNat:=by omega
  omega
 ·rintro ⟨h0,h1,h2,h3,h4⟩
  exact ⟨h1,h2,by rw [Int.zero_mul];omega,h4⟩
theorem UJ {l:List aJ} {i:Nat} (hi:i+1<l.length+1) (hl:l.length<1000000000):idx l (w64 (((i+1:Nat):Int) - 1))=l[i]? :=by
 rw [au (by omega) (by omega),show ((i+1:Nat):Int) - 1=((i:Nat):Int) by omega,bF]
theorem JO (l:List aJ) (hl:l.length<1000000000):nM l=some (vr l,()):=by
 unfold nM vr
 by_cases h0:l.length=0
 ·rw [GQ,YH h0,cond_true,if_pos h0]
 ·rw [GQ,YG h0,cond_false,if_neg h0]
  by_cases hb:20<l.length
  ·rw [az (by omega),if_pos hb]
  ·rw [ay (by omega),if_neg hb]
   rw [H7 (f:=qv) (fun i=>((l,l,(l.length:Int),(i:Int),()):qw)) l (Nd l) () ?_ ?_ ?_ _ ?_]
   ·exact UY _ _
   ·rfl
   ·intro i y again hy
    have hi:=(List.getElem?_eq_some_iff.1 hy).1
    unfold qv
    dsimp only
    rw [az (by omega),bF,hy,Option.bind_some,tQ,Option.bind_some,au (n:=(i:Int)+1) (by omega) (by omega)]
    unfold Nd
    cases hn:qU y.1 with
    | false=>simp
    | true=>
     have tail:(Option.bind (bW y.2) fun r5=>bif r5.1 != 0 then some (Sum.inl (r5.1,())) else bif decide (y.2.1<0) then some (Sum.inl (1,())) else Option.bind (fX y.2 100) fun r6=>bif !r6.1 then some (Sum.inl (1,())) else again (l,l,(l.length:Int),(i:Int)+1,()))=if (if inR y.2 0 100 9=true then (0:Int) else 1)=0 then again (l,l,(l.length:Int),((i+1:Nat):Int),()) else some (Sum.inl (1,())):=by
      rw [jG,Option.bind_some]
      by_cases hd:gU y.2
      ·rw [SX hd 100,tC hd 100 (by omega) (by omega)]
       generalize inR y.2 (-100) 100 9=b
       by_cases hneg:y.2.1<0
       ·simp [hd,hneg]
       ·cases b<;>simp [hd,hneg]
      ·have:inR y.2 0 100 9=false:=by unfold inR;simp [hd]
       simp [hd,this]
     simp only [Bool.not_true,cond_false,WB,YL]
     cases i with
     | zero=>
      rw [ay (by omega),tail]
      simp only [GP,Wr,YL]
      split<;>simp_all
     | succ i=>
      have hp:l[i]? =some (l[i]'(by omega)):=aO (by omega)
      rw [az (by omega),UJ (by omega) hl,hp,Option.bind_some]
      have ep:GP l (i+1) y=(Op.bytesLess y.1 (l[i]'(by omega)).1||y.1==(l[i]'(by omega)).1):=by simp only [GP,hp]
      rw [ep]
      cases (Op.bytesLess y.1 (l[i]'(by omega)).1||y.1==(l[i]'(by omega)).1) with
      | true=>simp
      | false=>
       simp only [cond_false]
       rw [tail]
       simp only [Wr,YL]
       split<;>simp_all
   ·intro again
    unfold qv
    dsimp only
    rw [ay (by omega)]
   ·omega
def QO (l:List ax) (i:Nat) (y:ax):Bool:=match i with
 | 0=>false
 | i+1=>match l[i]? with
  | some p=>decide (y.1≤p.1)
  | none=>false
def Fk (pl:Int) (rates:List aJ) (lines:List ax) (i:Nat) (x:ax):Int:=
 if x.1<1∨99999<x.1 then 1
 else if QO lines i x=true then 8
 else if x.2.1<1∨99999<x.2.1 then 1
 else if qU x.2.2.1=false then 5
 else if inR x.2.2.2.1 (-1000000000) 1000000000 3=false then 1
 else if x.2.2.2.1.1=0 then 13
 else if qU x.2.2.2.2.1=false then 5
 else if inR x.2.2.2.2.2.1 0 1000000000 4=false then 1
 else if x.2.2.2.2.2.2.1<1∨100000<x.2.2.2.2.2.2.1 then 1
 else if tw pl rates true x.2.2.2.2.2.2.2.1≠0 then tw pl rates true x.2.2.2.2.2.2.2.1
 else if (jM (·.1) x.2.2.2.2.2.2.2.2 rates).isSome=true then 0 else 5
theorem Ot (n:Int) (h0:0≤n) (h1:n≤18):Ga n=some (10 ^ n.toNat,()):=yq n h0 h1
theorem Jb (d:ak):o8 d=some (if inR d 0 1000000000 4=true then 0 else 1,()):=by
 unfold o8 Er
 rw [jG,Option.bind_some]
 by_cases hd:gU d
 ·have hp:=sS d.2.toNat
  have hp2:(10:Int) ^ d.2.toNat≤1000000000:=by
   have:=Yr (n:=10) (by omega) (show d.2.toNat≤9 by have:=hd.2.2;omega)
   have h2:=WL.2 this
   simpa using h2
  rw [Ot d.2 hd.2.1 (by have:=hd.2.2;omega)]
  dsimp only
  rw [if_pos hd,show ((0:Int) != 0)=false from rfl,cond_false]
  have e:inR d 0 1000000000 4=(decide (d.2≤4)&&(decide (d.1≥0)&&decide (d.1≤1000000000*10 ^ d.2.toNat))):=by
   unfold inR
   rw [← Bool.decide_and, ← Bool.decide_and,YF,Int.zero_mul]
   constructor
   ·rintro ⟨_,h2,h3,h4⟩;exact ⟨h2,h3,h4⟩
   ·rintro ⟨h2,h3,h4⟩;exact ⟨hd,h2,h3,h4⟩
  rw [e,Option.bind_some,au (n:=1000000000*10 ^ d.2.toNat) (by omega) (by omega)]
  cases decide (d.2≤4)<;>cases decide (d.1≥0)<;>cases decide (d.1≤1000000000*10 ^ d.2.toNat)<;>rfl
 ·have:inR d 0 1000000000 4=false:=by unfold inR;simp [hd]
  simp [hd,this]
end Go.Md
namespace Go.Md
open Go.Dn
theorem Sz {l:List ax} {i:Nat} (hi:i<l.length) (hl:l.length<1000000000):idx l (w64 (((i+1:Nat):Int) - 1))=l[i]? :=by
 rw [au (by omega) (by omega),show ((i+1:Nat):Int) - 1=((i:Nat):Int) by omega,bF]
theorem VY (d:ak):(if gU d then (decide (d.2>3)|| !inR d (-1000000000) 1000000000 9) else true)= !inR d (-1000000000) 1000000000 3:=by
 by_cases h:gU d
 ·rw [if_pos h,TF (pl:=3) h]
  by_cases h3:d.2≤3
  ·have:¬ d.2>3:=by omega
   simp [h3,this]
  ·have:d.2>3:=by omega
   simp [h3,this]
 ·have:inR d (-1000000000) 1000000000 3=false:=by unfold inR;simp [h]
  simp [h,this]
theorem Lc (v:aj) (i:Nat) (y:ax) (hl:v.2.2.2.2.2.2.1.length<1000000000) (hs:Asc (·.1) v.2.2.2.2.2.2.1) (hll:v.2.2.2.2.2.2.2.1.length<1000000000) (hy:v.2.2.2.2.2.2.2.1[i]? =some y):
 su v (i:Int)=some (Fk v.2.2.2.1 v.2.2.2.2.2.2.1 v.2.2.2.2.2.2.2.1 i y,()):=by
 unfold su Fk
 have hR:=fun t=>Fh v t hl hs
 have hE:=fun l=>AM v l true hl hs
 generalize v.2.2.2.2.2.2.1=rates at*
 generalize v.2.2.2.2.2.2.2.1=lines at*
 generalize v.2.2.2.1=pl at*
 have hi:=(List.getElem?_eq_some_iff.1 hy).1
 rw [bF,hy,Option.bind_some]
 simp only [iQ,tQ,Jb,hR,hE,Option.bind_some,jG]
 by_cases c1:y.1<1∨99999<y.1
 ·simp only [c1,YI,cond_true,YM]
 rw [YG c1,cond_false,if_neg c1]
 have tail:(bif decide (y.2.1<1∨99999<y.2.1) then some ((1:Int),()) else bif !qU y.2.2.1 then some (5,()) else bif (if gU y.2.2.2.1 then (0:Int) else 1) != 0 then some (if gU y.2.2.2.1 then (0:Int) else 1,()) else bif decide (y.2.2.2.1.2>3) then some (1,()) else
  Option.bind (fX y.2.2.2.1 1000000000) fun r7=>bif !r7.1 then some (1,()) else bif y.2.2.2.1.1==0 then some (13,()) else bif !qU y.2.2.2.2.1 then some (5,()) else bif (if inR y.2.2.2.2.2.1 0 1000000000 4=true then (0:Int) else 1) != 0 then some (if inR y.2.2.2.2.2.1 0 1000000000 4=true then (0:Int) else 1,()) else
  bif decide (y.2.2.2.2.2.2.1<1∨100000<y.2.2.2.2.2.2.1) then some (1,()) else bif tw pl rates true y.2.2.2.2.2.2.2.1 != 0 then some (tw pl rates true y.2.2.2.2.2.2.2.1,()) else bif !(jM (fun x:aJ=>x.1) y.2.2.2.2.2.2.2.2 rates).isSome then some (5,()) else some (0,()))=
  some (if y.2.1<1∨99999<y.2.1 then 1 else if qU y.2.2.1=false then 5 else if inR y.2.2.2.1 (-1000000000) 1000000000 3=false then 1 else if y.2.2.2.1.1=0 then 13 else if qU y.2.2.2.2.1=false then 5 else if inR y.2.2.2.2.2.1 0 1000000000 4=false then 1
   else if y.2.2.2.2.2.2.1<1∨100000<y.2.2.2.2.2.2.1 then 1 else if tw pl rates true y.2.2.2.2.2.2.2.1≠0 then tw pl rates true y.2.2.2.2.2.2.2.1 else if (jM (fun x:aJ=>x.1) y.2.2.2.2.2.2.2.2 rates).isSome=true then 0 else 5,()):=by
  by_cases c2:y.2.1<1∨99999<y.2.1
  ·simp only [c2,YI,cond_true,YM]
  rw [YG c2,cond_false,if_neg c2]
  cases qU y.2.2.1 with
  | false=>rfl
  | true=>
  simp only [Bool.not_true,cond_false,WB,YL]
  have hq:=VY y.2.2.2.1
  by_cases hd:gU y.2.2.2.1
  ·rw [if_pos hd] at hq
   rw [tC hd 1000000000 (by omega) (by omega)]
   rw [if_pos hd,show ((0:Int) != 0)=false from rfl,cond_false,Option.bind_some]
   dsimp only
   have hq':inR y.2.2.2.1 (-1000000000) 1000000000 3= !(decide (y.2.2.2.1.2>3)|| !inR y.2.2.2.1 (-1000000000) 1000000000 9):=by rw [hq,Bool.not_not]
   rw [hq']
   cases decide (y.2.2.2.1.2>3) with
   | true=>rfl
   | false=>
    cases inR y.2.2.2.1 (-1000000000) 1000000000 9 with
    | false=>rfl
    | true=>
     simp only [Bool.not_true,Bool.or_false,Wx,cond_false,WB,YL]
     by_cases c3:y.2.2.2.1.1=0
     ·rw [show (y.2.2.2.1.1==0)=true by simpa using c3,cond_true,if_pos c3]
     ·rw [show (y.2.2.2.1.1==0)=false by simpa using c3,cond_false,if_neg c3]
      cases qU y.2.2.2.2.1 with
      | false=>rfl
      | true=>
       cases inR y.2.2.2.2.2.1 0 1000000000 4 with
       | false=>rfl
       | true=>
        simp only [Bool.not_true,cond_false,WB,YL,YM]
        rw [show ((0:Int) != 0)=false from rfl,cond_false]
        by_cases c4:y.2.2.2.2.2.2.1<1∨100000<y.2.2.2.2.2.2.1
        ·simp only [c4,YI,cond_true,YM]
        ·rw [YG c4,cond_false,if_neg c4]
         by_cases c5:tw pl rates true y.2.2.2.2.2.2.2.1=0
         ·rw [c5,show ((0:Int) != 0)=false from rfl,cond_false,if_neg (by simp)]
          cases (jM (fun x:aJ=>x.1) y.2.2.2.2.2.2.2.2 rates).isSome<;>rfl
         ·rw [show (tw pl rates true y.2.2.2.2.2.2.2.1 != 0)=true by simpa using c5,cond_true,if_pos c5]
  ·rw [if_neg hd] at hq
   have:inR y.2.2.2.1 (-1000000000) 1000000000 3=false:=by simpa using hq.symm
   rw [this,if_neg hd]
   rfl
 cases i with
 | zero=>
  rw [ay (by omega),tail]
  rfl
 | succ i=>
  have hp:lines[i]? =some (lines[i]'(by omega)):=aO (by omega)
  rw [az (by omega),Sz (by omega) hll,hp,Option.bind_some]
  have ep:QO lines (i+1) y=decide (y.1≤(lines[i]'(by omega)).1):=by simp only [QO,hp]
  rw [ep]
  cases decide (y.1≤(lines[i]'(by omega)).1) with
  | true=>rfl
  | false=>
   rw [cond_false,tail]
   rfl
def Nt (v:aj):Int:=dP (Fk v.2.2.2.1 v.2.2.2.2.2.2.1 v.2.2.2.2.2.2.2.1) 0 v.2.2.2.2.2.2.2.1
def CS (v:aj):Int:=
 if qU v.1=false then 5 else if qU v.2.1=false then 5
 else if ¬(1≤v.2.2.1∧v.2.2.1≤3652059) then 1
 else if v.2.2.2.1<0∨4<v.2.2.2.1 then 1
 else if v.2.2.2.2.1<1∨6<v.2.2.2.2.1 then 4
 else if vr v.2.2.2.2.2.2.1≠0 then vr v.2.2.2.2.2.2.1
 else if v.2.2.2.2.2.2.2.1.length=0 then 9
 else if 500<v.2.2.2.2.2.2.2.1.length then 2
 else if Nt v≠0 then Nt v
 else tw v.2.2.2.1 v.2.2.2.2.2.2.1 false v.2.2.2.2.2.2.2.2
theorem Vw {γ:Type} (s:Int) (u:γ) (k:γ→Option (Int×Unit)) (z:Int) (hk:k u=some (z,())):aS (β:=Int×Unit) (γ:=γ) (if s=0 then some (Sum.inr u) else some (Sum.inl (s,()))) k=some (if s≠0 then s else z,()):=by
 by_cases h:s=0
 ·rw [if_pos h,aE,hk,if_neg (by simpa using h)]
 ·rw [if_neg h,iV,if_pos h]
theorem zX (v:aj):rD v=some (CS v,()):=by
 unfold rD CS
 simp only [tQ,EF,iQ,Option.bind_some,EZ]
 cases qU v.1 with
 | false=>rfl
 | true=>
 cases qU v.2.1 with
 | false=>rfl
 | true=>
 simp only [Bool.not_true,cond_false,WB,YL]
 by_cases n_c1:¬(1≤v.2.2.1∧v.2.2.1≤3652059)
 ·rw [YG n_c1,if_pos n_c1];rfl
 have c1:=WC n_c1
 rw [YH c1,if_neg (by simpa using c1),Bool.not_true,cond_false]
 by_cases c2:v.2.2.2.1<0∨4<v.2.2.2.1
 ·rw [YH c2,if_pos c2];rfl
 rw [YG c2,if_neg c2,cond_false]
 by_cases c3:v.2.2.2.2.1<1∨6<v.2.2.2.2.1
 ·rw [YH c3,if_pos c3];rfl
 rw [YG c3,if_neg c3,Wx,Bool.not_true,cond_false]
 by_cases n_hrl:¬(v.2.2.2.2.2.2.1.length<1000000000)
 ·have e:vr v.2.2.2.2.2.2.1=2:=by unfold vr;rw [if_neg (by omega),if_pos (by omega)]
  have e2:nM v.2.2.2.2.2.2.1=some (2,()):=by
   unfold nM
   rw [GQ,YG (by omega),cond_false,az (by omega)]
  rw [e,e2];rfl
 have hrl:=WC n_hrl
 rw [JO _ hrl,Option.bind_some]
 dsimp only
 by_cases n_c4:¬(vr v.2.2.2.2.2.2.1=0)
 ·rw [show (vr v.2.2.2.2.2.2.1 != 0)=true by simpa using n_c4,cond_true,if_pos n_c4]
 have c4:=WC n_c4
 obtain ⟨_,_,hs,_⟩:=LK c4
 rw [c4,show ((0:Int) != 0)=false from rfl,cond_false,if_neg (by simp),GQ]
 by_cases c5:v.2.2.2.2.2.2.2.1.length=0
 ·rw [YH c5,cond_true,if_pos c5]
 rw [YG c5,cond_false,if_neg c5]
 by_cases c6:500<v.2.2.2.2.2.2.2.1.length
 ·rw [az (by omega),if_pos c6]
 rw [ay (by omega),if_neg c6]
 unfold Nt
 rw [H7 (f:=nO) (fun i=>(((v.2.2.2.2.2.2.2.1.length:Int)),(i:Int),v.1,v.2.1,v.2.2.1,v.2.2.2.1,v.2.2.2.2.1,v.2.2.2.2.2.1,v.2.2.2.2.2.2.1,v.2.2.2.2.2.2.2.1,v.2.2.2.2.2.2.2.2,()) ) v.2.2.2.2.2.2.2.1 (Fk v.2.2.2.1 v.2.2.2.2.2.2.1 v.2.2.2.2.2.2.2.1) (v.1,v.2.1,v.2.2.1,v.2.2.2.1,v.2.2.2.2.1,v.2.2.2.2.2.1,v.2.2.2.2.2.2.1,v.2.2.2.2.2.2.2.1,v.2.2.2.2.2.2.2.2,()) ?_ ?_ ?_ _ ?_]
 ·refine Vw _ _ _ _ ?_
  show Option.bind (kM v v.2.2.2.2.2.2.2.2 false) _=_
  rw [AM v _ false hrl hs,Option.bind_some]
 ·rfl
 ·intro i y again hy
  have hi:=(List.getElem?_eq_some_iff.1 hy).1
  unfold nO
  show (bif decide ((i:Int)<(v.2.2.2.2.2.2.2.1.length:Int)) then Option.bind (su v (i:Int)) _ else _)=_
  rw [az (by omega),Lc v i y hrl hs (by omega) hy,Option.bind_some]
  dsimp only
  rw [au (n:=(i:Int)+1) (by omega) (by omega)]
  by_cases hz:Fk v.2.2.2.1 v.2.2.2.2.2.2.1 v.2.2.2.2.2.2.2.1 i y=0
  ·rw [hz];rfl
  ·rw [show (Fk v.2.2.2.1 v.2.2.2.2.2.2.1 v.2.2.2.2.2.2.2.1 i y != 0)=true by simpa using hz,cond_true,if_neg hz]
 ·intro again
  unfold nO
  dsimp only
  rw [ay (by omega)]
 ·omega
end Go.Md
namespace Go.Md
open Go.Dn
structure PS (pl:Int) (x:aG):Prop where
 dec:gU x.2.1
 place:x.1=false→x.2.1.2≤pl
 nz:x.2.1.1≠0
theorem DE {pl:Int} {rates:List aJ} {line:Bool} {l:List aG} (h:tw pl rates line l=0):l.length≤20∧∀ x∈l,PS pl x∧(line=true→x.2.2=[])∧(x.2.2=[]∨(jM (·.1) x.2.2 rates).isSome=true):=by
 unfold tw at h
 split at h
 ·omega
 ·refine ⟨by omega,fun x hx=> ?_⟩
  obtain ⟨i,hi⟩:=XL.1 hx
  have:=qj h i x hi
  unfold SY at this
  by_cases hd:gU x.2.1
  ·rw [if_pos hd] at this
   by_cases h0:x.2.1.1=0
   ·rw [if_pos h0] at this;omega
   ·rw [if_neg h0] at this
    by_cases hr:(if x.1=true then inR x.2.1 (-100) 100 9 else inR x.2.1 (-1000000000) 1000000000 pl)=true
    ·rw [if_pos hr] at this
     refine ⟨⟨hd,fun hp=> ?_,h0⟩,fun hline=> ?_, ?_⟩
     ·rw [hp] at hr
      simp only [Wr,YL,inR,decide_eq_true_eq] at hr
      exact hr.2.1
     ·rw [hline] at this
      by_cases hn:x.2.2=[]
      ·exact hn
      ·rw [if_neg hn] at this;simp at this
     ·by_cases hn:x.2.2=[]
      ·exact .inl hn
      ·rw [if_neg hn] at this
       right
       cases hx2:(jM (fun x:aJ=>x.1) x.2.2 rates).isSome with
       | true=>rfl
       | false=>rw [hx2] at this;cases line<;>simp at this
    ·rw [if_neg hr] at this;omega
  ·rw [if_neg hd] at this;omega
structure GY (pl:Int) (rates:List aJ) (x:ax):Prop where
 q:gU x.2.2.2.1
 qp:x.2.2.2.1.2≤3
 qn:x.2.2.2.1.1≠0
 p:gU x.2.2.2.2.2.1
 pp:x.2.2.2.2.2.1.2≤4
 p0:0≤x.2.2.2.2.2.1.1
 per:1≤x.2.2.2.2.2.2.1∧x.2.2.2.2.2.2.1≤100000
 ext:tw pl rates true x.2.2.2.2.2.2.2.1=0
 rate:(jM (·.1) x.2.2.2.2.2.2.2.2 rates).isSome=true
theorem Ta {pl:Int} {rates:List aJ} {lines:List ax} {i:Nat} {x:ax} (h:Fk pl rates lines i x=0):GY pl rates x:=by
 unfold Fk at h
 split at h
 ·omega
 split at h
 ·omega
 split at h
 ·omega
 split at h
 ·omega
 split at h
 ·omega
 rename_i h1
 split at h
 ·omega
 rename_i h2
 split at h
 ·omega
 split at h
 ·omega
 rename_i h3
 split at h
 ·omega
 rename_i h4
 split at h
 ·omega
 rename_i h5
 split at h
 ·rename_i h6
  have h1':inR x.2.2.2.1 (-1000000000) 1000000000 3=true:=by simpa using h1
  have h3':inR x.2.2.2.2.2.1 0 1000000000 4=true:=by simpa using h3
  unfold inR at h1' h3'
  rw [decide_eq_true_eq] at h1' h3'
  exact ⟨h1'.1,h1'.2.1,h2,h3'.1,h3'.2.1,by have:=h3'.2.2.1;rw [Int.zero_mul] at this;exact this,by omega,by omega,h6⟩
 ·omega
structure oL (v:aj):Prop where
 pl:0≤v.2.2.2.1∧v.2.2.2.1≤4
 way:1≤v.2.2.2.2.1∧v.2.2.2.2.1≤6
 rn:0<v.2.2.2.2.2.2.1.length∧v.2.2.2.2.2.2.1.length≤20
 asc:Asc (·.1) v.2.2.2.2.2.2.1
 rates:∀ r∈v.2.2.2.2.2.2.1,inR r.2 0 100 9=true
 ln:0<v.2.2.2.2.2.2.2.1.length∧v.2.2.2.2.2.2.2.1.length≤500
 lines:∀ x∈v.2.2.2.2.2.2.2.1,GY v.2.2.2.1 v.2.2.2.2.2.2.1 x
 ext:tw v.2.2.2.1 v.2.2.2.2.2.2.1 false v.2.2.2.2.2.2.2.2=0
theorem OX {v:aj} (h:CS v=0):oL v:=by
 unfold CS at h
 split at h
 ·omega
 split at h
 ·omega
 split at h
 ·omega
 split at h
 ·omega
 split at h
 ·omega
 split at h
 ·omega
 rename_i h1
 split at h
 ·omega
 split at h
 ·omega
 split at h
 ·omega
 rename_i h2
 have hr:=LK (show vr v.2.2.2.2.2.2.1=0 by omega)
 refine ⟨by omega,by omega,⟨hr.1,hr.2.1⟩,hr.2.2.1,hr.2.2.2,by omega,fun x hx=> ?_,h⟩
 obtain ⟨i,hi⟩:=XL.1 hx
 have:=qj (show Nt v=0 by omega) i x hi
 exact Ta this
end Go.Md
namespace Go.Md
open Go.Dn
abbrev MU:Int:=1000000000000000
def zS (v:aj) (x:ax):Int:=
 rnd v.2.2.2.2.1 (x.2.2.2.1.1*x.2.2.2.2.2.1.1*10 ^ v.2.2.2.1.toNat) (10 ^ (x.2.2.2.1.2+x.2.2.2.2.2.1.2).toNat*x.2.2.2.2.2.2.1.toNat)
theorem Le.dec {d:ak} (h:gU d):Le 15 d.1:=by
 have:=h.1
 unfold Le;omega
theorem Le.i1 {n:Int} (h1: -9223372036854775808≤n) (h2:n≤9223372036854775807):n.natAbs<4294967296 ^ 99:=(Le.int h1 h2).w (by omega)
theorem MY (k:Nat):((10 ^ k:Nat):Int)=10 ^ k:=by simp
theorem Rg {v:aj} {x:ax} (hv:oL v) (hx:GY v.2.2.2.1 v.2.2.2.2.2.2.1 x):Le 34 (x.2.2.2.1.1*x.2.2.2.2.2.1.1*10 ^ v.2.2.2.1.toNat):=
 ((Le.dec hx.q).mul (Le.dec hx.p)).mul ((Le.pow v.2.2.2.1.toNat).mono (by have:=hv.pl;omega:_≤4))
theorem TW {v:aj} {x:ax} (hx:GY v.2.2.2.1 v.2.2.2.2.2.2.1 x):0<10 ^ (x.2.2.2.1.2+x.2.2.2.2.2.1.2).toNat*x.2.2.2.2.2.2.1.toNat∧Le 12 ((10 ^ (x.2.2.2.1.2+x.2.2.2.2.2.1.2).toNat*x.2.2.2.2.2.2.1.toNat:Nat):Int):=by
 have h1:=hx.qp;have h2:=hx.pp;have h3:=hx.per
 refine ⟨Nat.mul_pos (Nat.pow_pos (by omega)) (by omega), ?_⟩
 have:Le (7+5) (((10 ^ (x.2.2.2.1.2+x.2.2.2.2.2.1.2).toNat:Nat):Int)*((x.2.2.2.2.2.2.1.toNat:Nat):Int)):=Le.mul (by rw [MY];exact (Le.pow _).mono (by omega)) (Le.nat (by omega))
 rw [← WK] at this
 exact this
theorem zG {n:Int} (h0:0≤n) (h1:n≤60):oR n=some (W (10 ^ n.toNat),()):=by
 obtain ⟨m,rfl⟩:∃ m:Nat,n=m:=⟨n.toNat,by omega⟩
 exact G6 m (by omega)
theorem zW (z:Int):jU (W z)=some (decide (z.natAbs≤MU),()):=by
 unfold jU
 rw [sX z _ (by omega) (by omega),Option.bind_some]
 by_cases h:(z.natAbs:Int)≤1000000000000000
 ·rw [if_pos h,YH h]
 ·rw [if_neg h,YG h]
theorem PL {v:aj} {x:ax} (hv:oL v) (hx:GY v.2.2.2.1 v.2.2.2.2.2.2.1 x):DJ v x=some (W (zS v x),decide ((zS v x).natAbs≤MU),()):=by
 have hq:=hx.q.1;have hp:=hx.p.1;have hper:=hx.per;have hpl:=hv.pl;have h1:=hx.qp;have h2:=hx.pp;have h3:=hx.q.2.1;have h4:=hx.p.2.1
 have hL:=Rg hv hx
 have hD:=TW hx
 unfold DJ
 rw [dS _ (by omega) (by omega),Option.bind_some,dS _ (by omega) (by omega),Option.bind_some]
 dsimp only
 rw [iA _ _ ((Le.dec hx.q).w (by omega)) ((Le.dec hx.p).w (by omega)),Option.bind_some,zG (by omega) (by omega),Option.bind_some]
 dsimp only
 rw [iA _ _ (((Le.dec hx.q).mul (Le.dec hx.p)).w (by omega)) ((Le.pow _).w (by omega)),Option.bind_some,au (by omega) (by omega),zG (by omega) (by omega),Option.bind_some,dS _ (by omega) (by omega),Option.bind_some]
 dsimp only
 rw [iA _ _ ((Le.pow _).w (by omega)) (Le.i1 (by omega) (by omega)),Option.bind_some]
 have e:(10:Int) ^ (x.2.2.2.1.2+x.2.2.2.2.2.1.2).toNat*x.2.2.2.2.2.2.1=((10 ^ (x.2.2.2.1.2+x.2.2.2.2.2.1.2).toNat*x.2.2.2.2.2.2.1.toNat:Nat):Int):=by
  rw [WK,MY,Int.toNat_of_nonneg (by omega)]
 dsimp only
 rw [e,Dd _ _ _ hD.1 (hL.mono (by omega)) (hD.2.mono (by omega)),Option.bind_some]
 dsimp only
 rw [zW,Option.bind_some]
 rfl
def wk (way n:Int) (d:ak):Int:=rnd way (n*d.1) (100*10 ^ d.2.toNat)
theorem UP (d:ak) (h:gU d):0<100*10 ^ d.2.toNat∧Le 11 ((100*10 ^ d.2.toNat:Nat):Int):=by
 refine ⟨Nat.mul_pos (by omega) (Nat.pow_pos (by omega)), ?_⟩
 have:=h.2.2
 have h2:Le (2+9) ((100:Int)*((10 ^ d.2.toNat:Nat):Int)):=Le.mul (by unfold Le;decide) (by rw [MY];exact (Le.pow _).mono (by omega))
 rw [show (100:Int)=((100:Nat):Int) from rfl, ← WK] at h2
 exact h2
theorem OH {way n:Int} {d:ak} {k:Nat} (hn:Le k n) (hd:gU d):Le (k+16) (wk way n d):=Us (k:=k+15) (hn.mul (Le.dec hd))
theorem Ax (v:aj) (n:Int) (d:ak) (hd:gU d) (hn:Le 300 n):qN v (W n) d=some (W (wk v.2.2.2.2.1 n d),()):=by
 have h1:=hd.1;have h2:=hd.2
 have hD:=UP d hd
 unfold qN
 rw [dS _ (by omega) (by omega),Option.bind_some]
 dsimp only
 rw [iA _ _ (hn.w (by omega)) ((Le.dec hd).w (by omega)),Option.bind_some,dS 100 (by omega) (by omega),Option.bind_some,zG (by omega) (by omega),Option.bind_some]
 dsimp only
 rw [iA _ _ (Le.i1 (by omega) (by omega)) ((Le.pow _).w (by omega)),Option.bind_some]
 dsimp only
 have e:(100:Int)*10 ^ d.2.toNat=((100*10 ^ d.2.toNat:Nat):Int):=by rw [WK,MY];rfl
 rw [e,Dd _ _ _ hD.1 ((hn.mul (Le.dec hd)).mono (by omega)) (hD.2.mono (by omega)),Option.bind_some]
 rfl
def kK (way pl g:Int) (x:aG):Int:=if x.1=true then wk way g x.2.1 else x.2.1.1*10 ^ (pl - x.2.1.2).toNat
end Go.Md
namespace Go.Md
open Go.Dn
def xo (am:aG→Int):List aG→Int→Option Int
 | [],n=>some n
 | x::r,n=>if (am x).natAbs≤MU∧(n+am x).natAbs≤MU then xo am r (n+am x) else none
def zV (am:aG→Int) (l:List aG):Int:=(l.map am).sum
theorem O1 {am:aG→Int}:∀ {l:List aG} {n m:Int},xo am l n=some m→m=n+zV am l
 | [],n,m,h=>by simp only [xo,Option.some.injEq] at h;simp [zV,h]
 | x::r,n,m,h=>by
  simp only [xo] at h
  split at h
  ·have:=O1 h
   simp only [zV,XC,XZ] at this ⊢
   omega
  ·cases h
theorem MN {am:aG→Int}:∀ {l:List aG} {n m:Int},n.natAbs≤MU→xo am l n=some m→m.natAbs≤MU
 | [],n,m,hn,h=>by simp only [xo,Option.some.injEq] at h;subst h;exact hn
 | x::r,n,m,hn,h=>by
  simp only [xo] at h
  split at h
  ·rename_i hc;exact MN hc.2 h
  ·cases h
def C8 (v:aj) (x:ax):Option Int:=
 if (zS v x).natAbs≤MU then xo (kK v.2.2.2.2.1 v.2.2.2.1 (zS v x)) x.2.2.2.2.2.2.2.1 (zS v x) else none
def Uw (v:aj) (x:ax):Int:=zS v x+zV (kK v.2.2.2.2.1 v.2.2.2.1 (zS v x)) x.2.2.2.2.2.2.2.1
theorem Pc {v:aj} {x:ax} {m:Int} (h:C8 v x=some m):m=Uw v x∧m.natAbs≤MU:=by
 unfold C8 at h
 split at h
 ·rename_i hc;exact ⟨O1 h,MN hc h⟩
 ·cases h
theorem VU {way pl g:Int} {x:aG} {k:Nat} (hk:8≤k) (hpl:0≤pl∧pl≤4) (hx:PS pl x) (hg:Le k g):Le (k+16) (kK way pl g x):=by
 unfold kK
 split
 ·exact OH hg hx.dec
 ·have:=hx.dec.2
  exact ((Le.dec hx.dec).mul (Le.pow _)).mono (by omega)
theorem RB {v:aj} {x:ax} (hv:oL v) (hx:GY v.2.2.2.1 v.2.2.2.2.2.2.1 x):HD v x=some (W (Uw v x),(C8 v x).isSome,()):=by
 have hpl:=hv.pl
 obtain ⟨hl,hex⟩:=DE hx.ext
 have hG:Le 35 (zS v x):=Us (Rg hv hx)
 unfold HD
 rw [PL hv hx,Option.bind_some]
 dsimp only
 unfold C8 Uw
 generalize x.2.2.2.2.2.2.2.1=l at*
 generalize zS v x=g at*
 obtain ⟨a,b,c,d,e,f,rt,ln,k⟩:=v
 dsimp only at*
 have key:∀ f',l.length<f'→iter f' ((decide (g.natAbs≤MU),l,(l.length:Int),(0:Int),a,b,c,d,e,f,rt,ln,k,false,([]:List Int),(W g).1,(W g).2,(W g).1,(W g).2,()):xO) BM=
  some (Sum.inr (decide (g.natAbs≤MU)&&(xo (kK e d g) l g).isSome,false,[],(W (g+zV (kK e d g) l)).1,(W (g+zV (kK e d g) l)).2,())):=by
  intro f' hf
  refine bN (Inv:=fun i X=>∃ (ok:Bool) (n:Int),X=((ok,l,(l.length:Int),(i:Int),a,b,c,d,e,f,rt,ln,k,false,([]:List Int),(W g).1,(W g).2,(W n).1,(W n).2,()):xO)∧(ok&&(xo (kK e d g) (l.drop i) n).isSome)=(decide (g.natAbs≤MU)&&(xo (kK e d g) l g).isSome)∧n+zV (kK e d g) (l.drop i)=g+zV (kK e d g) l∧Le (52+i) n) l.length
   (fun r=>r=some (Sum.inr (decide (g.natAbs≤MU)&&(xo (kK e d g) l g).isSome,false,[],(W (g+zV (kK e d g) l)).1,(W (g+zV (kK e d g) l)).2,()))) ?_ ?_ f' 0 _ ⟨_,g,rfl,by simp,by simp,hG.mono (by omega)⟩ (by omega) (by omega)
  ·rintro i _ again hi ⟨ok,n,rfl,h1,h2,h3⟩ ih
   unfold BM
   dsimp only
   have hy:l[i]? =some l[i]:=aO hi
   have hym:l[i]∈l:=Xq hi
   have hcons:=PI hy
   generalize l[i]=y at hy hcons hym
   obtain ⟨hyo,_,_⟩:=hex y hym
   have hd1:=hyo.dec.1;have hd2:=hyo.dec.2
   rw [hcons] at h1 h2
   have hA:=VU (way:=e) (by omega) hpl hyo hG
   have hmx:(if y.2.1.2>d then y.2.1.2 else d)=max d y.2.1.2:=by omega
   rw [az (by omega),bF,hy,Option.bind_some,hmx,EB _ _ (by omega) (by omega) (by omega) (by omega) (by omega),Option.bind_some]
   dsimp only
   have hjoin:∀ K,aS (β:=((aa×Bool×Unit) ⊕ (Bool×Bool×(List Int)×Bool×(List Int)×Unit))) (bif y.1 then Option.bind (qN (a,b,c,d,e,f,rt,ln,k) ((W g).1,(W g).2) y.2.1) fun r4=>some (Sum.inr (ok,l,(l.length:Int),(i:Int),a,b,c,d,e,f,rt,ln,k,false,([]:List Int),(W g).1,(W g).2,(W n).1,(W n).2,r4.1.1,r4.1.2,())) else some (Sum.inr (ok,l,(l.length:Int),(i:Int),a,b,c,d,e,f,rt,ln,k,false,([]:List Int),(W g).1,(W g).2,(W n).1,(W n).2,(W (y.2.1.1*10 ^ (max d y.2.1.2 - y.2.1.2).toNat)).1,(W (y.2.1.1*10 ^ (max d y.2.1.2 - y.2.1.2).toNat)).2,()))) K=
    K (ok,l,(l.length:Int),(i:Int),a,b,c,d,e,f,rt,ln,k,false,([]:List Int),(W g).1,(W g).2,(W n).1,(W n).2,(W (kK e d g y)).1,(W (kK e d g y)).2,()):=by
    intro K
    unfold kK
    cases hp:y.1 with
    | true=>
     rw [cond_true,show ((W g).1,(W g).2)=W g from rfl,Ax _ g _ hyo.dec (hG.mono (by omega)),Option.bind_some,aE]
     simp only [YM]
    | false=>
     have:=hyo.place hp
     rw [cond_false,aE,show max d y.2.1.2=d by omega]
     simp only [Wr,YL]
   rw [hjoin]
   dsimp only
   generalize hzd:kK e d g y=z at*
   have hz:Le (52+i) z:=hA.mono (by omega)
   rw [show ((W n).1,(W n).2)=W n from rfl,show ((W z).1,(W z).2)=W z from rfl,dJ _ _ (h3.w (by omega)) (hz.w (by omega)),Option.bind_some]
   dsimp only
   rw [zW,zW,Option.bind_some,Option.bind_some,au (by omega) (by omega)]
   have hs:n+z+zV (kK e d g) (l.drop (i+1))=g+zV (kK e d g) l:=by
    rw [← h2]
    simp only [zV,XC,XZ,hzd]
    omega
   have hn:xo (kK e d g) (y::l.drop (i+1)) n=if z.natAbs≤MU∧(n+z).natAbs≤MU then xo (kK e d g) (l.drop (i+1)) (n+z) else none:=by simp only [xo,hzd]
   rw [hn] at h1
   cases ok with
   | false=>
    rw [cond_false]
    exact ih _ ⟨false,n+z,rfl,by simpa using h1,hs,h3.add hz⟩
   | true=>
    rw [cond_true]
    by_cases f1:(z.natAbs:Int)≤MU
    ·rw [YH f1,cond_true]
     refine ih _ ⟨_,n+z,rfl, ?_,hs,h3.add hz⟩
     by_cases f2:((n+z).natAbs:Int)≤MU
     ·rw [YH f2, ← h1,if_pos ⟨f1,f2⟩]
     ·rw [YG f2, ← h1,if_neg (fun h=>f2 h.2)];rfl
    ·rw [YG f1,cond_false]
     refine ih _ ⟨false,n+z,rfl, ?_,hs,h3.add hz⟩
     rw [← h1,if_neg (fun h=>f1 h.1)];rfl
  ·rintro _ again ⟨ok,n,rfl,h1,h2,h3⟩
   unfold BM
   dsimp only
   rw [ay (by omega)]
   rw [List.drop_length] at h1 h2
   simp only [xo,Yz,Wq,zV,XD,List.sum_nil,Int.add_zero] at h1 h2
   rw [h1,h2]
   rfl
 rw [key _ (by omega),aE]
 dsimp only
 congr 3
 by_cases hg:(g.natAbs:Int)≤MU
 ·rw [YH hg,if_pos hg,WA]
 ·rw [YG hg,if_neg hg];rfl
end Go.Md
