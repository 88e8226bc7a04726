/-
  The plain law ParcelReadsMatchSpec is true of all data. No condition.
-/
import Derived.Test.YtjlkkapojeldlaaGreatDoorYs
import Derived.Test.YtjlkkapojeldlaaGreatDoorYr
import Derived.Test.YtjlkkapojeldlaaGreatDoorYf
set_option linter.all false
namespace Go.Md
open Go.Dn
def fQ (e:Bool):List (List UInt8)->List UInt8
 | []=>[]
 | l::M=>l++(bif M.isEmpty then (bif e then [10] else []) else 10::fQ e M)
theorem yH (e:Bool):∀ s:List UInt8,fQ e (aR 10 s)=s++(bif e then [10] else [])
 | []=>rfl
 | b::r=>by
  have ih:=yH e r
  have hne:=yF 10 r
  simp only[aR]
  cases hb:(b==10) with
  | true=>
   rw[eq_of_beq hb,VW]
   simp only[fQ]
   have:(aR 10 r).isEmpty=false:=by
    cases h:aR 10 r with
    | nil=>exact absurd h hne
    | cons _ _=>rfl
   rw[this,VV,ih]
   rfl
  | false=>
   rw[VV]
   cases h:aR 10 r with
   | nil=>exact absurd h hne
   | cons l t=>
    rw[h] at ih
    simp only[fQ] at ih ⊢
    rw[T7,ih]
    rfl
theorem yG (c:UInt8):∀ s:List UInt8,∀ l,l∈aR c s->c∉l
 | [],l,h=>by simp[aR] at h;simp[h]
 | b::r,l,h=>by
  have ih:=yG c r
  simp only[aR] at h
  cases hb:(b==c) with
  | true=>
   rw[hb,VW] at h
   rcases UX.1 h with rfl | h
   ·simp
   ·exact ih l h
  | false=>
   rw[hb,VV] at h
   have hbc:c≠b:=fun e=>by rw[e] at hb;simp at hb
   split at h
   ·rename_i hd t he
    rw[he] at ih
    rcases UX.1 h with rfl | h
    ·simp[hbc,ih hd (by simp)]
    ·exact ih l (by simp[h])
   ·simp at h
    subst h
    simp[hbc]
theorem E6 (c:UInt8):∀ (l t:List UInt8),c∉l->cW c (l++c::t)=(l,t,true)
 | [],t,_=>by simp[cW]
 | b::r,t,h=>by
  have hb:(b==c)=false:=by
   cases e:(b==c) with
   | false=>rfl
   | true=>exact absurd (by simp[eq_of_beq e]) h
  rw[T7]
  simp only[cW,hb,VV,E6 c r t (fun hm=>h (by simp[hm]))]
theorem Jj (c:UInt8):∀ l:List UInt8,c∉l->cW c l=(l,[],false)
 | [],_=>rfl
 | b::r,h=>by
  have hb:(b==c)=false:=by
   cases e:(b==c) with
   | false=>rfl
   | true=>exact absurd (by simp[eq_of_beq e]) h
  simp only[cW,hb,VV,Jj c r (fun hm=>h (by simp[hm]))]
theorem Cy (s:List UInt8) (hs:s.length<=1000000):∃ (L:List (List UInt8)) (e:Bool),lz s=some (L,e,())/\fQ e L=s/\(∀ l,l∈L->(10:UInt8)∉l)/\L.length<=s.length+1/\(∀ l,l∈L->l.length<=1000000)/\(e=false->L≠[]->s≠[]/\s.getLast? ≠some 10):=by
 unfold lz
 by_cases h0:s=[]
 ·subst h0
  refine⟨[],true,rfl,rfl, ?_,by simp, ?_, ?_⟩<;>simp
 ·have h0':(s==[])=false:=by
   cases s with
   | nil=>exact absurd rfl h0
   | cons _ _=>rfl
  obtain⟨i,x,rfl⟩:∃ i x,s=i++[x]:=⟨s.dropLast,s.getLast h0,(List.dropLast_concat_getLast h0).symm⟩
  have hl:(i++[x]).length=i.length+1:=by simp
  rw[h0',VV]
  have hsuf:kE (i++[x]) [10]=some ((bif x==10 then i else i++[x]),x==10,()):=by
   unfold kE fF fH
   have e1:w64 ((((i++[x]).length:Nat):Int) - ((([10]:List UInt8).length:Nat):Int))=(i.length:Int):=by
    rw[aE (by simp<;>omega) (by simp<;>omega)];simp<;>omega
   simp only[e1]
   rw[aC (by simp<;>omega),bn (by simp<;>omega),VJ]
   dsimp only
   have e2:List.drop (Int.toNat (i.length:Int)) (List.take (Int.toNat (((i++[x]).length:Nat):Int)) (i++[x]))=[x]:=by
    rw[TW,TW,Vh (Vu _),Ud]
   have e3:List.drop 0 (List.take (Int.toNat (i.length:Int)) (i++[x]))=i:=by
    rw[TW,Vg];rfl
   rw[e2,show ([x]==[10])=(x==10) by simp]
   cases hx:(x==10) with
   | false=>rfl
   | true=>
    rw[TH,VV,bn (by simp<;>omega),e3]
    rfl
  rw[hsuf,VJ]
  dsimp only
  cases hx:(x==10) with
  | true=>
   rw[VW,l8 i 10 (by omega),VJ]
   obtain⟨g1,g2⟩:=iP 10 i
   refine⟨aR 10 i,true,rfl, ?_,yG 10 i,by omega,fun l hl=>by have:=g2 l hl;omega,fun h=>by cases h⟩
   rw[yH,eq_of_beq hx]
   rfl
  | false=>
   rw[VV,l8 _ 10 hs,VJ]
   obtain⟨g1,g2⟩:=iP 10 (i++[x])
   refine⟨aR 10 (i++[x]),false,rfl, ?_,yG 10 _,g1,fun l hl=>by have:=g2 l hl;omega,fun _ _=>⟨h0, ?_⟩⟩
   ·rw[yH];simp
   ·rw[List.getLast?_append]
    simp only[List.getLast?_singleton,Option.some_or,ne_eq,Option.some.injEq]
    intro e
    rw[e] at hx;cases hx
end Go.Md
namespace Go.Md
open Go.Dn
theorem SG {γ:Type} (s:Int) (u:γ) (k:γ->Option (Int×Unit)) (z:Int) (hk:k u=some (z,())):aT (β:=Int×Unit) (γ:=γ) (if s=0 then some (Sum.inr u) else some (Sum.inl (s,()))) k=some (if s≠0 then s else z,()):=by
 by_cases h:s=0
 ·rw[V7 h,bp,hk,V6 (by simpa using h)]
 ·rw[V6 h,lu,V7 h]
end Go.Md
namespace Go.Md
open Go.Dn
theorem rW (l:List aa) (t:List UInt8) (hl:l.length<1000000000):kV l t=some (ixI (gm (·.1) t l),()):=by
 unfold kV
 have loop:∀ f,l.length<f->iter f ((t,l,(l.length:Int),(0:Int),()):jJ) mZ=(match gm (·.1) t l with | some k=>some (Sum.inl ((k:Int),())) | none=>some (Sum.inr ())):=by
  intro f hf
  refine bN (Inv:=fun i X=>X=((t,l,(l.length:Int),(i:Int),()):jJ)/\∀ j x,j<i->l[j]? =some x->x.1≠t) l.length
   (fun r=>r=(match gm (·.1) t l with | some k=>some (Sum.inl ((k:Int),())) | none=>some (Sum.inr ()))) ?_ ?_ f 0 _ ⟨rfl,fun _ _ h=>absurd h (VF _)⟩ (by omega) (by omega)
  ·rintro i _ again hi ⟨rfl,hb⟩ ih
   unfold mZ
   dsimp only
   have hy:l[i]? =some l[i]:=aG hi
   generalize l[i]=y at hy
   rw[aC (by omega),bM,hy,VJ]
   by_cases he:y.1=t
   ·rw[show (y.1==t)=true by simpa using he,VW]
    have:gm (·.1) t l=some i:=by
     unfold gm
     rw[List.findIdx?_eq_some_iff_getElem]
     refine⟨hi, ?_,fun j hj=> ?_⟩
     ·have:=(Uy.1 hy).2
      rw[this];simpa using he
     ·have:=hb j l[j] hj (Uw _)
      simpa using this
    rw[this]
   ·rw[show (y.1==t)=false by simpa using he,VV,aE (by omega) (by omega)]
    refine ih _ ⟨rfl,fun j x hj hx=> ?_⟩
    rcases Vz.1 hj with h | h
    ·exact hb j x h hx
    ·subst h;rw[hy] at hx;cases hx;exact he
  ·rintro _ again ⟨rfl,hb⟩
   unfold mZ
   dsimp only
   rw[aF (by omega)]
   have:gm (·.1) t l=none:=by
    unfold gm
    rw[List.findIdx?_eq_none_iff]
    intro x hx
    obtain⟨j,hj⟩:=U1.1 hx
    have:=hb j x (Uy.1 hj).1 hj
    simpa using this
   rw[this]
 rw[loop _ (by omega)]
 cases gm (·.1) t l<;>rfl
theorem HO (l:List aa) (t:List UInt8) (hl:l.length<1000000000) (hs:Asc (·.1) l): ∃ i:Nat,cw l t ()=some ((i:Int),(gm (·.1) t l).isSome,())/\∀ k,gm (·.1) t l=some k->i=k:=by
 unfold cw
 have loop:∀ f,l.length<f->∃ i:Nat,iter f ((l,t,(),(l.length:Int),(0:Int),(l.length:Int),()):bF) cS=some (Sum.inr (l,t,(),(l.length:Int),(i:Int),()))/\i<=l.length/\(∀ k x,l[k]? =some x->k<i->Op.bytesLess x.1 t=true)/\∀ k x,l[k]? =some x->i<=k->Op.bytesLess x.1 t=false:=by
  intro f hf
  refine qU (Inv:=fun X=>∃ i j:Nat,X=((l,t,(),(l.length:Int),(i:Int),(j:Int),()):bF)/\i<=j/\j<=l.length/\(∀ k x,l[k]? =some x->k<i->Op.bytesLess x.1 t=true)/\∀ k x,l[k]? =some x->j<=k->Op.bytesLess x.1 t=false)
   (fun X=>(X.2.2.2.2.2.1 - X.2.2.2.2.1).toNat)
   (fun _ r=>∃ i:Nat,r=some (Sum.inr (l,t,(),(l.length:Int),(i:Int),()))/\i<=l.length/\(∀ k x,l[k]? =some x->k<i->Op.bytesLess x.1 t=true)/\∀ k x,l[k]? =some x->i<=k->Op.bytesLess x.1 t=false) ?_ f _ ⟨0,l.length,rfl,by omega,by omega,fun _ _ _ h=>absurd h (VF _),fun k x hk hle=>by have:=(Uy.1 hk).1;omega⟩ (by dsimp only;omega)
  rintro _ again ⟨i,j,rfl,hij,hj,h1,h2⟩ ih
  dsimp only at ih
  unfold cS
  dsimp only
  by_cases hlt:i<j
  ·rw[aC (by omega)]
   have em:w64 (Int.fdiv (bG (w64 ((i:Int)+(j:Int)))) (2 ^ 1))=(((i+j) / 2:Nat):Int):=by
    rw[aE (n:=(i:Int)+(j:Int)) (by omega) (by omega),cJ (by omega) (by omega),TL _ (by omega),aE (by omega) (by omega)]
    omega
   rw[em]
   have hm:(i+j) / 2<l.length:=by omega
   have hy:l[(i+j) / 2]? =some l[(i+j) / 2]:=aG hm
   have hmi:i<=(i+j) / 2/\(i+j) / 2<j:=by omega
   generalize (i+j) / 2=m at*
   generalize l[m]=y at hy
   rw[bM,hy,VJ]
   show ∃ i,Option.bind (Option.bind (some (Lib.compareBytes y.1 t,())) fun r1=>some (r1.1,())) _=_/\_
   rw[VJ,VJ]
   dsimp only
   by_cases hc:Lib.compareBytes y.1 t<0
   ·rw[aC hc,aE (by omega) (by omega)]
    refine ih _ ⟨m+1,j,rfl,by omega,hj,fun k x hk hkm=> ?_,h2⟩ (by dsimp only;omega)
    rcases Vz.1 hkm with h | h
    ·have:=hs k m x y h hk hy
     exact tW this (Ag.1 hc)
    ·subst h;rw[hy] at hk;cases hk;exact Ag.1 hc
   ·rw[aF hc]
    refine ih _ ⟨i,m,rfl,by omega,by omega,h1,fun k x hk hkm=> ?_⟩ (by dsimp only;omega)
    have hc':Op.bytesLess y.1 t=false:=by
     cases h:Op.bytesLess y.1 t with
     | false=>rfl
     | true=>exact absurd (Ag.2 h) hc
    rcases Nat.lt_or_eq_of_le hkm with h | h
    ·cases hx:Op.bytesLess x.1 t with
     | false=>rfl
     | true=>rw[tW (hs m k y x h hy hk) hx] at hc';cases hc'
    ·subst h;rw[hy] at hk;cases hk;exact hc'
  ·rw[aF (by omega)]
   have:i=j:=by omega
   subst this
   exact⟨i,rfl,hj,h1,h2⟩
 obtain⟨i,h1,h2,h3,h4⟩:=loop (List.length l+(List.length t+(Int.natAbs ((List.length l:Int))+(Int.natAbs (0:Int)+(Int.natAbs ((List.length l:Int))+2))))) (by omega)
 refine⟨i, ?_,fun k hk=> ?_⟩
 ·rw[h1,bp]
  dsimp only
  by_cases hi:i<l.length
  ·have hy:l[i]? =some l[i]:=aG hi
   generalize l[i]=y at hy
   rw[aC (by omega),bM,hy,VJ]
   show Option.bind (Option.bind (some (Lib.compareBytes y.1 t,())) fun r1=>some (r1.1,())) _=_
   rw[VJ,VJ]
   congr 3
   by_cases he:y.1=t
   ·rw[RJ hs hy he,B0.2 he];rfl
   ·have hne:¬ Lib.compareBytes y.1 t=0:=fun h=>he (B0.1 h)
    rw[show (Lib.compareBytes y.1 t==0)=false by simpa using hne]
    cases hx:gm (·.1) t l with
    | none=>rfl
    | some k=>
     exfalso
     obtain⟨x,k1,k2⟩:=uH hx
     rcases VB k i with h | h | h
     ·have:=h3 k x k1 h;rw[k2,kJ] at this;cases this
     ·subst h;rw[hy] at k1;cases k1;exact he k2
     ·have:=hs i k y x h hy k1
      dsimp only at this
      rw[k2,h4 i y hy (Vu _)] at this;cases this
  ·rw[aF (by omega)]
   congr 3
   cases hx:gm (·.1) t l with
   | none=>rfl
   | some k=>
    exfalso
    obtain⟨x,k1,k2⟩:=uH hx
    have:=h3 k x k1 (by have:=(Uy.1 k1).1;omega)
    rw[k2,kJ] at this;cases this
 ·obtain⟨x,k1,k2⟩:=uH hk
  rcases VB k i with h | h | h
  ·have:=h3 k x k1 h;rw[k2,kJ] at this;cases this
  ·exact h.symm
  ·have hy:l[i]? =some (l[i]'(by have:=(Uy.1 k1).1;omega)):=aG _
   have:=hs i k _ x h hy k1
   dsimp only at this
   rw[k2,h4 i _ hy (Vu _)] at this;cases this
theorem uP (a:ai) (t:List UInt8) (hl:a.2.2.2.length<1000000000) (hs:Asc (·.1) a.2.2.2): ∃ i:Nat,jD a t=some ((i:Int),(gm (·.1) t a.2.2.2).isSome,())/\∀ k,gm (·.1) t a.2.2.2=some k->i=k:=by
 obtain⟨i,h1,h2⟩:=HO a.2.2.2 t hl hs
 exact⟨i,by unfold jD;rw[h1,VJ],h2⟩
def Ae (a b:aJ):Int:=cZ (fun _ y=>y) 0 [Lib.compareBytes a.1 b.1,Lib.compareBytes a.2.1 b.2.1,Lib.compareBytes a.2.2.1 b.2.2.1]
theorem Py (l:List Int) (hl:l.length<1000):vI l=some (cZ (fun _ y=>y) 0 l,()):=by
 unfold vI
 rw[eS (f:=pX) (fun i=>(((0:Int),l,(l.length:Int),(i:Int),()):pY)) l (fun _ y=>y) (0,()) ?_ ?_ ?_ _ ?_]
 ·exact (SG _ _ _ 0 rfl).trans (by
   by_cases h:cZ (fun _ y=>y) 0 l=0
   ·rw[V6 (by simpa using h),h]
   ·rw[V7 h])
 ·rfl
 ·intro i y again hy
  have hi:=(Uy.1 hy).1
  unfold pX
  dsimp only
  rw[aC (by omega),bM,hy,VJ,aE (by omega) (by omega)]
  by_cases h:y=0
  ·subst h;rfl
  ·rw[show (y != 0)=true by simpa using h,VW,V6 h]
 ·intro again
  unfold pX
  dsimp only
  rw[aF (by omega)]
 ·omega
theorem vP (a b:aJ):eE a b=some (Ae a b,()):=by
 unfold eE strings_Compare Ae
 simp only[VJ]
 rw[Py _ (by simp),VJ]
theorem BG (a b:aJ):iM a b=some (Ae a b,()):=by
 unfold iM strings_Compare Ae
 simp only[VJ]
 generalize hL:[Lib.compareBytes a.1 b.1,Lib.compareBytes a.2.1 b.2.1,Lib.compareBytes a.2.2.1 b.2.2.1]=l
 have hl:l.length=3:=by subst hL;rfl
 rw[eS (f:=iY) (fun i=>((l,(l.length:Int),(i:Int),()):iZ)) l (fun _ y=>y) () ?_ ?_ ?_ _ ?_]
 ·exact KM _ _
 ·rfl
 ·intro i y again hy
  have hi:=(Uy.1 hy).1
  unfold iY
  dsimp only
  rw[aC (by omega),bM,hy,VJ,aE (by omega) (by omega)]
  by_cases h:y=0
  ·subst h;rfl
  ·rw[show (y != 0)=true by simpa using h,VW,V6 h]
 ·intro again
  unfold iY
  dsimp only
  rw[aF (by omega)]
 ·omega
def AP (l:List aJ) (i:Nat) (y:aJ):Bool:=match i with
 | 0=>false
 | i+1=>match l[i]? with
  | some p=>decide (Ae p y>=0)
  | none=>false
def F7 (l:List aJ) (i:Nat) (c:aJ):Int:=
 if gQ c.1=false then 5 else if gQ c.2.1=false then 5 else if (!(c.2.2.1==[])&& !gQ c.2.2.1)=true then 5
 else if AP l i c=true then 8 else if qOk c.2.2.2 false=true then 0 else 1
def nu (l:List aJ):Int:=if 100<l.length then 2 else cZ (F7 l) 0 l
theorem xV {α:Type} {l:List α} {i:Nat} (hi:i<l.length) (hl:l.length<1000000000):idx l (w64 (((i+1:Nat):Int) - 1))=l[i]? :=by
 rw[aE (by omega) (by omega),show ((i+1:Nat):Int) - 1=((i:Nat):Int) by omega,bM]
theorem xD (l:List aJ):fN l=some (nu l,()):=by
 unfold fN nu
 by_cases hb:100<l.length
 ·rw[aC (by omega),V7 hb]
 ·rw[aF (by omega),V6 hb]
  rw[eS (f:=fV) (fun i=>((l,l,(l.length:Int),(i:Int),()):fW)) l (F7 l) () ?_ ?_ ?_ _ ?_]
  ·exact KM _ _
  ·rfl
  ·intro i y again hy
   have hi:=(Uy.1 hy).1
   unfold fV
   dsimp only
   rw[aC (by omega),bM,hy,VJ]
   simp only[Bh,VJ,pG,vP]
   have hw:w64 ((i:Int)+1)=((i+1:Nat):Int):=by rw[aE (by omega) (by omega)];omega
   rw[hw]
   unfold F7
   generalize qOk y.2.2.2 false=q
   cases i with
   | zero=>
    simp only[AP]
    cases gQ y.1<;>cases gQ y.2.1<;>cases (y.2.2.1==[])<;>cases gQ y.2.2.1<;>cases q<;>simp
   | succ i=>
    have hp:l[i]? =some (l[i]'(by omega)):=aG (by omega)
    have ep:AP l (i+1) y=decide (Ae (l[i]'(by omega)) y>=0):=by simp only[AP,hp]
    have hpos:decide (((i+1:Nat):Int)>0)=true:=by simp
    rw[xV (by omega) (by omega),hp,ep,hpos]
    simp only[VJ,VW]
    generalize decide (Ae (l[i]'(by omega)) y>=0)=p
    cases gQ y.1<;>cases gQ y.2.1<;>cases (y.2.2.1==[])<;>cases gQ y.2.2.1<;>cases q<;>cases p<;>simp
  ·intro again
   unfold fV
   dsimp only
   rw[aF (by omega)]
  ·omega
theorem AR (l:List aJ):gU l=some (nu l,()):=by
 unfold gU nu
 by_cases hb:100<l.length
 ·rw[aC (by omega),V7 hb]
 ·rw[aF (by omega),V6 hb]
  rw[eS (f:=ig) (fun i=>((l,l,(l.length:Int),(i:Int),()):ij)) l (F7 l) () ?_ ?_ ?_ _ ?_]
  ·exact KM _ _
  ·rfl
  ·intro i y again hy
   have hi:=(Uy.1 hy).1
   unfold ig
   dsimp only
   rw[aC (by omega),bM,hy,VJ]
   simp only[CX,VJ,Bk,BG,TH]
   have hw:w64 ((i:Int)+1)=((i+1:Nat):Int):=by rw[aE (by omega) (by omega)];omega
   rw[hw]
   unfold F7
   generalize qOk y.2.2.2 false=q
   cases i with
   | zero=>
    simp only[AP]
    cases gQ y.1<;>cases gQ y.2.1<;>cases (y.2.2.1==[])<;>cases gQ y.2.2.1<;>cases q<;>simp
   | succ i=>
    have hp:l[i]? =some (l[i]'(by omega)):=aG (by omega)
    have ep:AP l (i+1) y=decide (Ae (l[i]'(by omega)) y>=0):=by simp only[AP,hp]
    have hpos:decide (((i+1:Nat):Int)>0)=true:=by simp
    rw[xV (by omega) (by omega),hp,ep,hpos]
    simp only[VJ,VW]
    generalize decide (Ae (l[i]'(by omega)) y>=0)=p
    cases gQ y.1<;>cases gQ y.2.1<;>cases (y.2.2.1==[])<;>cases gQ y.2.2.1<;>cases q<;>cases p<;>simp
  ·intro again
   unfold ig
   dsimp only
   rw[aF (by omega)]
  ·omega
def vQ (l:List aa) (i:Nat) (y:aa):Bool:=match i with
 | 0=>false
 | i+1=>match l[i]? with
  | some p=>Op.bytesLess y.1 p.1||y.1==p.1
  | none=>false
def rQ (l:List aa) (i:Nat) (p:aa):Int:=
 if lbl p.1=false then 3 else if vQ l i p=true then 8 else if qOk p.2.2.1 true=false then 1 else nu p.2.2.2
theorem zz (l:List aa) (i:Nat) (y:aa) (hy:l[i]? =some y) (hl:l.length<1000000000) (hs:y.1.length<=9223372036854775807):jE l (i:Int)=some (rQ l i y,()):=by
 have hi:=(Uy.1 hy).1
 unfold jE rQ
 rw[bM,hy,VJ,D9 _ hs]
 simp only[VJ,pG,xD]
 cases i with
 | zero=>
  simp only[vQ]
  cases lbl y.1<;>cases qOk y.2.2.1 true<;>simp
 | succ i=>
  have hp:l[i]? =some (l[i]'(by omega)):=aG (by omega)
  have ep:vQ l (i+1) y=(Op.bytesLess y.1 (l[i]'(by omega)).1||y.1==(l[i]'(by omega)).1):=by simp only[vQ,hp]
  have hpos:decide (((i+1:Nat):Int)>0)=true:=by simp
  rw[xV (by omega) hl,hp,ep,hpos]
  simp only[VJ,VW]
  generalize (Op.bytesLess y.1 (l[i]'(by omega)).1||y.1==(l[i]'(by omega)).1)=p
  cases lbl y.1<;>cases qOk y.2.2.1 true<;>cases p<;>simp
end Go.Md
namespace Go.Md
open Go.Dn
def par (l:List aa) (k:Nat):Option Nat:=match l[k]? with
 | some p=>if p.2.1=[] then none else gm (·.1) p.2.1 l
 | none=>none
theorem zw {l:List aa} {k k':Nat} (h:par l k=some k'):k'<l.length:=by
 unfold par at h
 split at h
 ·split at h
  ·cases h
  ·obtain⟨x,hx,_⟩:=uH h
   exact (Uy.1 hx).1
 ·cases h
def FP (l:List aa):Prop:=∀ p∈l,p.2.1=[]\/(gm (·.1) p.2.1 l).isSome=true
theorem IS {l:List aa} {k:Nat} {p:aa} (h1:FP l) (hp:l[k]? =some p):(p.2.1=[]/\par l k=none)\/(p.2.1≠[]/\∃ k',par l k=some k'/\gm (·.1) p.2.1 l=some k'):=by
 unfold par
 rw[hp]
 dsimp only
 by_cases h:p.2.1=[]
 ·exact .inl ⟨h,by rw[V7 h]⟩
 ·right
  rw[V6 h]
  rcases h1 p (U3 hp) with h2 | h2
  ·exact absurd h2 h
  ·obtain⟨k',hk'⟩:=VM.1 h2
   exact⟨h,k',hk',hk'⟩
def q8 (l:List aa):Prop:=∀ k,k<l.length->¬ fX (par l) k
def jU (l:List aa) (i:Nat):List Nat:=anc (par l) l.length i
theorem EU {l:List aa} (h:q8 l) {i:Nat} (hi:i<l.length):(jU l i).length<l.length:=Ry (fun _ _=>zw) h hi
theorem BM {l:List aa} (h:q8 l) {i k:Nat} (hi:i<l.length) (hp:par l i=some k):jU l i=k::jU l k:=by
 have h1:=EU h hi
 unfold jU at*
 rw[<- Jf h1 (show l.length<=l.length+1 by omega),sQ hp]
theorem Je {l:List aa} {i:Nat} (hp:par l i=none):jU l i=[]:=EV hp _
theorem Od {l:List aa} (h:q8 l) {i:Nat} (hi:i<l.length):(i::jU l i).Nodup:=BN (fun _ _=>zw) h hi
def cI (l:List Nat):List Int:=l.map (fun n:Nat=>(n:Int))
theorem Pu {l:List Nat} {x:Nat}:(x:Int)∈cI l↔x∈l:=by
 unfold cI
 rw[U2]
 constructor
 ·rintro⟨a,h1,h2⟩;have:a=x:=by omega
  exact this ▸ h1
 ·intro h;exact⟨x,h,rfl⟩
theorem oW (l:List Nat):(cI l).length=l.length:=by simp[cI]
theorem FD (a:ai) (hl:a.2.2.2.length<=500) (hs:Asc (·.1) a.2.2.2) (h1:FP a.2.2.2) (i:Nat) (hi:i<a.2.2.2.length): ∃ (out:List Nat) (ok:Bool),mq a (i:Int)=some (cI out,ok,())/\(ok=false↔fX (par a.2.2.2) i)/\(q8 a.2.2.2->out=jU a.2.2.2 i):=by
 unfold mq
 have hat:=fun t=>uP a t (by omega) hs
 obtain⟨a1,a2,a3,l⟩:=a
 dsimp only at*
 have loop:∀ f,l.length+1<f->∃ (out:List Nat) (ok:Bool),(iter f (((i:Int),([]:List Int),(i:Int),a1,a2,a3,l,()):gp) lW=(if ok=true then (some (Sum.inr (cI out,())):Option fe) else some (Sum.inl (cI out,false,())))\/(ok=true/\iter f (((i:Int),([]:List Int),(i:Int),a1,a2,a3,l,()):gp) lW=(some (Sum.inl (cI out,true,())):Option fe)))/\(ok=false↔fX (par l) i)/\(q8 l->out=jU l i):=by
  intro f hf
  refine qU (Inv:=fun X=>∃ (out:List Nat) (k:Nat),X=(((i:Int),cI out,(k:Int),a1,a2,a3,l,()):gp)/\k<l.length/\out.Nodup/\(∀ x∈out,x<l.length)/\(∃ j,itp (par l) j i=some k)/\(fX (par l) i->∃ d,qv (par l) i k d/\∀ x∈out,∃ e,d<=e/\qv (par l) i x e)/\(q8 l->out++jU l k=jU l i))
   (fun X=>l.length+1 - X.2.1.length)
   (fun _ r=>∃ (out:List Nat) (ok:Bool),(r=(if ok=true then (some (Sum.inr (cI out,())):Option fe) else some (Sum.inl (cI out,false,())))\/(ok=true/\r=(some (Sum.inl (cI out,true,())):Option fe)))/\(ok=false↔fX (par l) i)/\(q8 l->out=jU l i)) ?_ f _
   ⟨[],i,rfl,hi,by simp,by simp,⟨0,rfl⟩,fun hon=>by obtain⟨d,hd⟩:=hon.QV;exact⟨d,hd,by simp⟩,fun _=>by simp⟩ (by dsimp only;simp;omega)
  rintro _ again ⟨out,k,rfl,hk,hnd,hlt,⟨j,hj⟩,hon,hno⟩ ih
  dsimp only at ih
  have hlen:=uL l.length out hnd hlt
  unfold lW
  dsimp only
  have hy:l[k]? =some l[k]:=aG hk
  generalize l[k]=p at hy
  rw[bM,hy,VJ,VJ]
  rcases IS h1 hy with ⟨g1,g2⟩ | ⟨g1,k',g2,g3⟩
  ·rw[g1]
   refine⟨out,true,.inl rfl, ?_,fun hn=> ?_⟩
   ·constructor
    ·intro h;cases h
    ·intro h
     obtain⟨d,hd,_⟩:=hon h
     obtain⟨k',e,_⟩:=hd.step
     rw[g2] at e;cases e
   ·have:=hno hn
    rw[Je g2,T6] at this
    exact this
  ·have hk':=zw g2
   rw[show (!(p.2.1==[]))=true by cases hp:p.2.1<;>simp_all,VW]
   obtain⟨q,hq1,hq2⟩:=hat p.2.1
   have:q=k':=hq2 k' g3
   subst this
   rw[hq1,VJ]
   dsimp only
   by_cases e1:q=i
   ·subst e1
    rw[show ((q:Int)==(q:Int))=true by simp,VW]
    have hloop:fX (par l) q:=⟨j,by rw[zm (b:=1) hj];simp[itp,g2]⟩
    exact⟨[],false,.inl rfl,⟨fun _=>hloop,fun _=>rfl⟩,fun hn=>absurd hloop (hn q hi)⟩
   ·rw[show ((q:Int)==(i:Int))=false by rw[VR];omega,VV,pL _ _ (by rw[oW];omega),VJ]
    by_cases e2:q∈out
    ·rw[VZ (Pu.2 e2),VW]
     refine⟨out,true,.inr ⟨rfl,rfl⟩,⟨fun h=>(by cases h),fun h=> ?_⟩,fun hn=> ?_⟩
     ·obtain⟨d,hd,hx⟩:=hon h
      obtain⟨k2,e,h2⟩:=hd.step
      rw[g2] at e;cases e
      rcases h2 with ⟨h2,_⟩ | ⟨_,e,he,h3⟩
      ·exact absurd h2 e1
      ·obtain⟨f',hf',hx'⟩:=hx q e2
       have:=h3.uniq hx'
       omega
     ·exfalso
      have h3:=hno hn
      have h4:=(U8.1 (Od hn hi)).2
      rw[<- h3,BM hn hk g2,U7] at h4
      exact h4.2.2 q e2 q (by simp) rfl
    ·rw[VY (fun h=>e2 (Pu.1 h)),VV,bn (kK (by rw[oW];omega) (by rw[oW];omega))]
     refine ih _ ⟨out++[q],q,by simp[cI],hk', ?_, ?_,⟨j+1, ?_⟩,fun h=> ?_,fun hn=> ?_⟩ (by simp[oW];omega)
     ·rw[U7]
      exact⟨hnd,by simp,fun x hx y hy=>by simp at hy;subst hy;exact fun e=>e2 (e ▸ hx)⟩
     ·intro x hx
      rcases UW.1 hx with hx | hx
      ·exact hlt x hx
      ·simp at hx;omega
     ·rw[zm (b:=1) hj];simp[itp,g2]
     ·obtain⟨d,hd,hx⟩:=hon h
      obtain⟨k2,e,h2⟩:=hd.step
      rw[g2] at e;cases e
      rcases h2 with ⟨h2,_⟩ | ⟨_,e,he,h3⟩
      ·exact absurd h2 e1
      ·refine⟨e,h3,fun x hx2=> ?_⟩
       rcases UW.1 hx2 with hx2 | hx2
       ·obtain⟨f',hf',hx'⟩:=hx x hx2;exact⟨f',by omega,hx'⟩
       ·simp at hx2;subst hx2;exact⟨e,Vu _,h3⟩
     ·rw[<- hno hn,BM hn hk g2,T4];rfl
 obtain⟨out,ok,h2,h3,h4⟩:=loop (Int.natAbs (i:Int)+(List.length ([]:List Int)+(Int.natAbs (i:Int)+(List.length a1+(List.length a2+(Int.natAbs a3+(List.length l+2))))))) (by omega)
 refine⟨out,ok, ?_,h3,h4⟩
 rcases h2 with h2 | ⟨h5,h2⟩
 ·rw[h2]
  cases ok<;>rfl
 ·rw[h2,h5];rfl
end Go.Md
namespace Go.Md
open Go.Dn
theorem Mf (l:List aa) (hl:l.length<=500) (h1:FP l) (i:Nat) (hi:i<l.length):∃ b:Bool,xW l (i:Int)=some (b,())/\(b=true↔fX (par l) i):=by
 unfold xW
 have loop:∀ f,l.length<f->∃ b:Bool,iter f ((l,(i:Int),(i:Int),(l.length:Int),(0:Int),()):kU) nM=(if b=true then some (Sum.inl (true,())) else some (Sum.inr ()))/\(b=true↔fX (par l) i)\/
  iter f ((l,(i:Int),(i:Int),(l.length:Int),(0:Int),()):kU) nM=some (Sum.inl (false,()))/\¬ fX (par l) i:=by
  intro f hf
  refine bN (Inv:=fun c X=>∃ k:Nat,X=((l,(i:Int),(k:Int),(l.length:Int),(c:Int),()):kU)/\k<l.length/\itp (par l) c i=some k/\∀ e,e<c->itp (par l) (e+1) i≠some i) l.length
   (fun r=>∃ b:Bool,r=(if b=true then some (Sum.inl (true,())) else some (Sum.inr ()))/\(b=true↔fX (par l) i)\/r=some (Sum.inl (false,()))/\¬ fX (par l) i) ?_ ?_ f 0 _ ⟨i,rfl,hi,rfl,fun e h=>absurd h (VF _)⟩ (by omega) (by omega)
  ·rintro c _ again hc ⟨k,rfl,hk,hit,hne⟩ ih
   unfold nM
   dsimp only
   have hy:l[k]? =some l[k]:=aG hk
   generalize l[k]=p at hy
   rw[aC (by omega),bM,hy,VJ,VJ]
   rcases IS h1 hy with ⟨g1,g2⟩ | ⟨g1,k',g2,g3⟩
   ·rw[g1]
    refine⟨false,.inr ⟨rfl,fun hon=> ?_⟩⟩
    obtain⟨d,hd⟩:=hon.QV
    rcases Vx d c with h | h
    ·exact hne d h hd.1
    ·have:=hd.1
     rw[show d+1=c+(d - c+1) by omega,zm hit] at this
     simp[itp,g2] at this
   ·have hk':=zw g2
    rw[show (p.2.1==[])=false by cases hp:p.2.1<;>simp_all,VV,rW l _ (by omega),g3,VJ]
    dsimp only[ixI]
    have hit':itp (par l) (c+1) i=some k':=by rw[zm hit];simp[itp,g2]
    by_cases e1:k'=i
    ·subst e1
     rw[show ((k':Int)==(k':Int))=true by simp,VW]
     exact⟨true,.inl ⟨rfl,⟨fun _=>⟨c,hit'⟩,fun _=>rfl⟩⟩⟩
    ·rw[show ((k':Int)==(i:Int))=false by rw[VR];omega,VV,aE (by omega) (by omega)]
     refine ih _ ⟨k',rfl,hk',hit',fun e he=> ?_⟩
     rcases Vz.1 he with h | h
     ·exact hne e h
     ·subst h;rw[hit'];simpa using e1
  ·rintro _ again ⟨k,rfl,hk,hit,hne⟩
   unfold nM
   dsimp only
   rw[aF (by omega)]
   refine⟨false,.inl ⟨rfl,⟨fun h=>(by cases h),fun hon=> ?_⟩⟩⟩
   obtain⟨d,hd⟩:=hon.QV
   have:=hd.le (fun _ _=>zw) hi
   exact absurd hd.1 (hne d (by omega))
 obtain⟨b,h⟩:=loop (List.length l+(Int.natAbs (i:Int)+(Int.natAbs (i:Int)+(Int.natAbs ((List.length l:Int))+(Int.natAbs (0:Int)+2))))) (by omega)
 rcases h with ⟨h2,h3⟩ | ⟨h2,h3⟩
 ·exact⟨b,by rw[h2];cases b<;>rfl,h3⟩
 ·exact⟨false,by rw[h2];rfl,⟨fun h=>(by cases h),fun h=>absurd h h3⟩⟩
theorem Ql (l:List aa) (hl:l.length<=500) (h1:FP l) (hn:q8 l) (i:Nat) (hi:i<l.length):GX l (i:Int)=some (cI (i::jU l i),true,()):=by
 unfold GX
 have loop:∀ f,l.length<f->iter f ((l,(i:Int),[(i:Int)],()):uS) CS=some (Sum.inr (cI (i::jU l i),())):=by
  intro f hf
  refine qU (Inv:=fun X=>∃ (pre:List Nat) (k:Nat),X=((l,(k:Int),cI pre,()):uS)/\k<l.length/\pre++jU l k=i::jU l i) (fun X=>l.length+1 - X.2.2.1.length)
   (fun _ r=>r=some (Sum.inr (cI (i::jU l i),()))) ?_ f _ ⟨[i],i,rfl,hi,rfl⟩ (by dsimp only;simp;omega)
  rintro _ again ⟨pre,k,rfl,hk,hpre⟩ ih
  dsimp only at ih
  have hlen:pre.length+(jU l k).length=(jU l i).length+1:=by
   have:=congrArg List.length hpre
   simpa using this
  have hlt:=EU hn hi
  unfold CS
  dsimp only
  have hy:l[k]? =some l[k]:=aG hk
  generalize l[k]=p at hy
  rw[bM,hy,VJ,VJ]
  rcases IS h1 hy with ⟨g1,g2⟩ | ⟨g1,k',g2,g3⟩
  ·rw[g1]
   rw[Je g2,T6] at hpre
   rw[hpre]
   rfl
  ·have hk':=zw g2
   rw[show (!(p.2.1==[]))=true by cases hp:p.2.1<;>simp_all,VW,rW l _ (by omega),g3,VJ]
   dsimp only[ixI]
   rw[aF (by rw[oW];omega),bn (kK (by rw[oW];omega) (by rw[oW];omega))]
   refine ih _ ⟨pre++[k'],k',by simp[cI],hk', ?_⟩ (by simp[oW];omega)
   rw[<- hpre,BM hn hk g2,T4];rfl
 rw[loop _ (by simp only[UK,UN];omega),bp]
def n1 (l:List aa) (p:aa):Int:=if p.2.1≠[]/\(gm (·.1) p.2.1 l).isSome=false then 9 else 0
open Classical in
noncomputable def n2 (l:List aa) (i:Nat):Int:=if fX (par l) i then 17 else 0
def n3 (l:List aa) (i:Nat):Int:=if 5<(jU l i).length then 2 else 0
def LX (l:List aa):Int:=cZ (fun _ p=>n1 l p) 0 l
noncomputable def LY (l:List aa):Int:=cZ (fun i _=>n2 l i) 0 l
def Su (l:List aa):Int:=cZ (fun i _=>n3 l i) 0 l
noncomputable def GL (l:List aa):Int:=if LX l≠0 then LX l else if LY l≠0 then LY l else Su l
theorem Et {l:List aa} (h:LX l=0):FP l:=by
 intro p hp
 obtain⟨i,hi⟩:=U1.1 hp
 have:=vS h i p hi
 unfold n1 at this
 by_cases h1:p.2.1=[]
 ·exact .inl h1
 ·cases h2:(gm (fun x:aa=>x.1) p.2.1 l).isSome with
  | true=>exact .inr rfl
  | false=>rw[V7 ⟨h1,h2⟩] at this;omega
theorem Eu {l:List aa} (h:LY l=0):q8 l:=by
 intro k hk hon
 have:=vS h k l[k] (aG hk)
 unfold n2 at this
 rw[VH,V7 hon] at this
 omega
theorem zH {γ:Type} (s:Int) (u:γ) (k:γ->Option (Int×Unit)) (z:Int) (hk:s=0->k u=some (z,())):aT (β:=Int×Unit) (γ:=γ) (if s=0 then some (Sum.inr u) else some (Sum.inl (s,()))) k=some (if s≠0 then s else z,()):=by
 by_cases h:s=0
 ·rw[V7 h,bp,hk h,V6 (by simpa using h)]
 ·rw[V6 h,lu,V7 h]
theorem QB {γ:Type} (s:Int) (u:γ):aT (β:=Int×Unit) (γ:=γ) (if s=0 then some (Sum.inr u) else some (Sum.inl (s,()))) (fun _=>some (0,()))=some (s,()):=KM s u
theorem BF (a:ai) (hl:a.2.2.2.length<=500) (hs:Asc (·.1) a.2.2.2):lX a=some (GL a.2.2.2,()):=by
 unfold lX GL
 have hat:=fun t=>uP a t (by omega) hs
 have har:=fun h1 i hi=>FD a hl hs h1 i hi
 obtain⟨a1,a2,a3,l⟩:=a
 dsimp only at*
 rw[eS (f:=iU) (fun i=>((l,(l.length:Int),(i:Int),a1,a2,a3,l,()):iW)) l (fun _ p=>n1 l p) (a1,a2,a3,l,()) ?_ ?_ ?_ _ ?_]
 ·refine zH _ _ _ _ fun z1=> ?_
  have h1:=Et z1
  dsimp only
  rw[eS (f:=iV) (fun i=>(((l.length:Int),(i:Int),a1,a2,a3,l,()):iX)) l (fun i _=>n2 l i) (a1,a2,a3,l,()) ?_ ?_ ?_ _ ?_]
  ·refine zH _ _ _ _ fun z2=> ?_
   have h2:=Eu z2
   dsimp only
   rw[eS (f:=hY) (fun i=>(((l.length:Int),(i:Int),a1,a2,a3,l,()):ia)) l (fun i _=>n3 l i) () ?_ ?_ ?_ _ ?_]
   ·exact QB _ _
   ·rfl
   ·intro i y again hy
    have hi:=(Uy.1 hy).1
    unfold hY
    dsimp only
    obtain⟨out,ok,g1,g2,g3⟩:=har h1 i hi
    rw[aC (by omega),g1,VJ,aE (by omega) (by omega)]
    dsimp only
    rw[g3 h2,oW]
    unfold n3
    by_cases h5:5<(jU l i).length
    ·rw[aC (by omega),V7 h5,V6 (by omega)]
    ·rw[aF (by omega),V6 h5,V7 rfl];rfl
   ·intro again
    unfold hY
    dsimp only
    rw[aF (by omega)]
   ·omega
  ·rfl
  ·intro i y again hy
   have hi:=(Uy.1 hy).1
   unfold iV
   dsimp only
   obtain⟨out,ok,g1,g2,g3⟩:=har h1 i hi
   rw[aC (by omega),g1,VJ,aE (by omega) (by omega)]
   dsimp only
   unfold n2
   by_cases hon:fX (par l) i
   ·rw[g2.2 hon,V7 hon,V6 (by omega)];rfl
   ·have:ok=true:=by
     cases ok with
     | true=>rfl
     | false=>exact absurd (g2.1 rfl) hon
    rw[this,V6 hon,V7 rfl];rfl
  ·intro again
   unfold iV
   dsimp only
   rw[aF (by omega)]
  ·omega
 ·rfl
 ·intro i y again hy
  have hi:=(Uy.1 hy).1
  unfold iU
  dsimp only
  obtain⟨q,hq1,hq2⟩:=hat y.2.1
  rw[aC (by omega),bM,hy,VJ,hq1,VJ,aE (by omega) (by omega)]
  dsimp only
  by_cases e1:y.2.1=[]
  ·have hn:n1 l y=0:=by unfold n1;rw[V6 (fun h=>h.1 e1)]
   rw[hn,V7 rfl,e1];rfl
  ·rw[show (!(y.2.1==[]))=true by cases hp:y.2.1<;>simp_all,VW]
   cases h2:(gm (fun x:aa=>x.1) y.2.1 l).isSome with
   | true=>
    have hn:n1 l y=0:=by unfold n1;rw[V6 (fun h=>by rw[h2] at h;exact absurd h.2 (by simp))]
    rw[hn,V7 rfl];rfl
   | false=>
    have hn:n1 l y=9:=by unfold n1;rw[V7 ⟨e1,h2⟩]
    rw[hn,V6 (by omega)];rfl
 ·intro again
  unfold iU
  dsimp only
  rw[aF (by omega)]
 ·omega
theorem Mg (l:List aa) (hl:l.length<=500):xX l=some (GL l,()):=by
 unfold xX GL
 rw[eS (f:=rR) (fun i=>((l,l,(l.length:Int),(i:Int),()):rT)) l (fun _ p=>n1 l p) (l,()) ?_ ?_ ?_ _ ?_]
 ·refine zH _ _ _ _ fun z1=> ?_
  have h1:=Et z1
  dsimp only
  rw[eS (f:=rS) (fun i=>((l,(l.length:Int),(i:Int),()):rU)) l (fun i _=>n2 l i) (l,()) ?_ ?_ ?_ _ ?_]
  ·refine zH _ _ _ _ fun z2=> ?_
   have h2:=Eu z2
   dsimp only
   rw[eS (f:=p9) (fun i=>((l,(l.length:Int),(i:Int),()):qa)) l (fun i _=>n3 l i) () ?_ ?_ ?_ _ ?_]
   ·exact QB _ _
   ·rfl
   ·intro i y again hy
    have hi:=(Uy.1 hy).1
    have hlt:=EU h2 hi
    unfold p9
    dsimp only
    rw[aC (by omega),Ql l hl h1 h2 i hi,VJ,aE (n:=(i:Int)+1) (by omega) (by omega)]
    dsimp only
    rw[TH,VV,oW,UK,aE (by omega) (by omega)]
    unfold n3
    by_cases h5:5<(jU l i).length
    ·rw[aC (by omega),V7 h5,V6 (by omega)]
    ·rw[aF (by omega),V6 h5,V7 rfl];rfl
   ·intro again
    unfold p9
    dsimp only
    rw[aF (by omega)]
   ·omega
  ·rfl
  ·intro i y again hy
   have hi:=(Uy.1 hy).1
   unfold rS
   dsimp only
   obtain⟨b,g1,g2⟩:=Mf l hl h1 i hi
   rw[aC (by omega),g1,VJ,aE (by omega) (by omega)]
   dsimp only
   unfold n2
   by_cases hon:fX (par l) i
   ·rw[g2.2 hon,V7 hon,V6 (by omega)];rfl
   ·have:b=false:=by
     cases b with
     | false=>rfl
     | true=>exact absurd (g2.1 rfl) hon
    rw[this,V6 hon,V7 rfl];rfl
  ·intro again
   unfold rS
   dsimp only
   rw[aF (by omega)]
  ·omega
 ·rfl
 ·intro i y again hy
  have hi:=(Uy.1 hy).1
  unfold rR
  dsimp only
  rw[aC (by omega),bM,hy,VJ,rW l _ (by omega),VJ,aE (by omega) (by omega)]
  dsimp only
  rw[RI]
  by_cases e1:y.2.1=[]
  ·have hn:n1 l y=0:=by unfold n1;rw[V6 (fun h=>h.1 e1)]
   rw[hn,V7 rfl,e1];rfl
  ·rw[show (!(y.2.1==[]))=true by cases hp:y.2.1<;>simp_all,VW]
   cases h2:(gm (fun x:aa=>x.1) y.2.1 l).isSome with
   | true=>
    have hn:n1 l y=0:=by unfold n1;rw[V6 (fun h=>by rw[h2] at h;exact absurd h.2 (by simp))]
    rw[hn,V7 rfl];rfl
   | false=>
    have hn:n1 l y=9:=by unfold n1;rw[V7 ⟨e1,h2⟩]
    rw[hn,V6 (by omega)];rfl
 ·intro again
  unfold rR
  dsimp only
  rw[aF (by omega)]
 ·omega
noncomputable def KS (a:ai):Int:=
 if gQ a.1=false then 5 else if gQ a.2.1=false then 5 else if ¬(1<=a.2.2.1/\a.2.2.1<=3652059) then 1
 else if 500<a.2.2.2.length then 2 else if cZ (rQ a.2.2.2) 0 a.2.2.2≠0 then cZ (rQ a.2.2.2) 0 a.2.2.2 else GL a.2.2.2
theorem KW {l:List aa} (h:cZ (rQ l) 0 l=0):Asc (·.1) l:=by
 have step:∀ i x y,l[i]? =some x->l[i+1]? =some y->Op.bytesLess x.1 y.1=true:=fun i x y hx hy=>by
  have:=vS h (i+1) y hy
  rw[VH] at this
  unfold rQ at this
  split at this
  ·omega
  ·split at this
   ·omega
   ·rename_i h2
    have h3:vQ l (i+1) y=false:=by simpa using h2
    simp only[vQ,hx,TI,VR] at h3
    rcases Po x.1 y.1 with h1 | h1 | h1
    ·exact h1
    ·exact absurd h1.symm h3.2
    ·rw[h3.1] at h1;cases h1
 intro i j x y hij hx hy
 induction j generalizing y with
 | zero=>omega
 | succ j ih=>
  rcases Vz.1 hij with h1 | h1
  ·have hj:j<l.length:=by have:=(Uy.1 hy).1;omega
   have hz:l[j]? =some l[j]:=aG hj
   exact tW (ih _ h1 hz) (step j _ y hz hy)
  ·subst h1;exact step i x y hx hy
def QI (a:ai):Prop:=∀ p∈a.2.2.2,p.1.length<=9223372036854775807
theorem zx (a:ai) (hf:QI a):dQ a=some (KS a,()):=by
 unfold dQ KS
 simp only[Bh,LK,VJ]
 cases gQ a.1 with
 | false=>rfl
 | true=>
 cases gQ a.2.1 with
 | false=>rfl
 | true=>
 simp only[TH,VV,Bool.true_eq_false,V5]
 by_cases n_c1:¬(1<=a.2.2.1/\a.2.2.1<=3652059)
 ·rw[VY n_c1,V7 n_c1];rfl
 have c1:=Decidable.of_not_not n_c1
 rw[VZ c1,V6 (by simpa using c1),TH,VV]
 by_cases c2:500<a.2.2.2.length
 ·rw[aC (by omega),V7 c2]
 rw[aF (by omega),V6 c2]
 obtain⟨a1,a2,a3,l⟩:=a
 dsimp only at*
 rw[eS (f:=gN) (fun i=>(((l.length:Int),(i:Int),a1,a2,a3,l,()):gO)) l (rQ l) (a1,a2,a3,l,()) ?_ ?_ ?_ _ ?_]
 ·refine zH _ _ _ _ fun z=> ?_
  dsimp only
  rw[BF (a1,a2,a3,l) (by dsimp only;omega) (KW z),VJ]
 ·rfl
 ·intro i y again hy
  have hi:=(Uy.1 hy).1
  unfold gN
  dsimp only
  rw[aC (by omega),zz l i y hy (by omega) (hf y (U3 hy)),VJ,aE (by omega) (by omega)]
  dsimp only
  by_cases hz:rQ l i y=0
  ·rw[hz];rfl
  ·rw[show (rQ l i y != 0)=true by simpa using hz,VW,V6 hz]
 ·intro again
  unfold gN
  dsimp only
  rw[aF (by omega)]
 ·omega
theorem CR (a:ai) (hf:QI a):fO a=some (KS a,()):=by
 unfold fO KS
 simp only[CX,Nf,VJ]
 cases gQ a.1 with
 | false=>rfl
 | true=>
 cases gQ a.2.1 with
 | false=>rfl
 | true=>
 simp only[TH,VV,Bool.true_eq_false,V5]
 by_cases n_c1:¬(1<=a.2.2.1/\a.2.2.1<=3652059)
 ·rw[VY n_c1,V7 n_c1];rfl
 have c1:=Decidable.of_not_not n_c1
 rw[VZ c1,V6 (by simpa using c1),TH,VV]
 by_cases c2:500<a.2.2.2.length
 ·rw[aC (by omega),V7 c2]
 rw[aF (by omega),V6 c2]
 obtain⟨a1,a2,a3,l⟩:=a
 dsimp only at*
 rw[eS (f:=jF) (fun i=>((l,(l.length:Int),(i:Int),a1,a2,a3,l,()):jG)) l (rQ l) (a1,a2,a3,l,()) ?_ ?_ ?_ _ ?_]
 ·refine zH _ _ _ _ fun z=> ?_
  dsimp only
  rw[Mg l (by omega),VJ]
 ·rfl
 ·intro i y again hy
  have hi:=(Uy.1 hy).1
  unfold jF
  dsimp only
  rw[aC (by omega),bM,hy,VJ,IU _ (hf y (U3 hy)),VJ]
  simp only[Bk,AR,VJ,TG]
  have hw:w64 ((i:Int)+1)=((i+1:Nat):Int):=by rw[aE (by omega) (by omega)];omega
  rw[hw]
  unfold rQ
  have fin:(bif nu y.2.2.2 != 0 then some (Sum.inl (nu y.2.2.2,())) else again (l,(l.length:Int),((i+1:Nat):Int),a1,a2,a3,l,()))=if nu y.2.2.2=0 then again (l,(l.length:Int),((i+1:Nat):Int),a1,a2,a3,l,()) else some (Sum.inl (nu y.2.2.2,())):=by
   by_cases hz:nu y.2.2.2=0
   ·rw[hz];rfl
   ·rw[show (nu y.2.2.2 != 0)=true by simpa using hz,VW,V6 hz]
  rw[fin]
  cases i with
  | zero=>
   simp only[vQ]
   cases lbl y.1<;>cases qOk y.2.2.1 true<;>simp
  | succ i=>
   have hp:l[i]? =some (l[i]'(by omega)):=aG (by omega)
   have ep:vQ l (i+1) y=(Op.bytesLess y.1 (l[i]'(by omega)).1||y.1==(l[i]'(by omega)).1):=by simp only[vQ,hp]
   have hpos:decide (((i+1:Nat):Int)>0)=true:=by simp
   rw[xV (by omega) (by omega),hp,ep,hpos]
   simp only[VJ,VW]
   generalize (Op.bytesLess y.1 (l[i]'(by omega)).1||y.1==(l[i]'(by omega)).1)=p
   cases lbl y.1<;>cases qOk y.2.2.1 true<;>cases p<;>simp
 ·intro again
  unfold jF
  dsimp only
  rw[aF (by omega)]
 ·omega
end Go.Md
namespace Go.Md
open Go.Dn
theorem bif_some' {α:Type} {c:Bool} {x y:α} (h:(bif c then some x else none)=some y):c=true/\x=y:=by
 cases c with
 | false=>cases h
 | true=>exact⟨rfl,Option.some.inj h⟩
theorem bif_or' {α:Type} {c:Bool} {x y:Option α} {z:α} (h:(bif c then x else y)=some z):x=some z\/y=some z:=by
 cases c with
 | false=>exact .inr h
 | true=>exact .inl h
theorem same_go (e:Bool):∀ (M:List (List UInt8)) (a:ai) (i f:Nat),(fQ e M).length<=f->(∀ l,l∈M->(10:UInt8)∉l)->(e=false->M≠[]->fQ e M≠[]/\(fQ e M).getLast? ≠some 10)->rGo f (fQ e M) (i+1) a=pGo e M i a
 | [],a,i,f,_,_,_=>by cases f<;>rfl
 | l::M,a,i,f,hf,hno,hlast=>by
  have hl10:=hno l (by simp)
  have hne:fQ e (l::M)≠[]:=by
   cases he:e with
   | false=>exact he ▸ (hlast he (by simp)).1
   | true=>
    intro h
    have:=congrArg List.length h
    simp only[fQ,UJ,UN,VW] at this
    cases hM:M.isEmpty with
    | true=>rw[hM] at this;simp at this
    | false=>rw[hM] at this;simp at this
  have hne':(fQ e (l::M)==[])=false:=by
   cases h:fQ e (l::M) with
   | nil=>exact absurd h hne
   | cons _ _=>rfl
  obtain⟨f',rfl⟩:∃ f',f=f'+1:=by
   cases f with
   | zero=>exact absurd (UL.1 (by omega)) hne
   | succ f'=>exact⟨f',rfl⟩
  have hcut:cW 10 (fQ e (l::M))=(l,fQ e M, !(!e&&M.isEmpty)):=by
   simp only[fQ]
   cases M with
   | nil=>
    simp only[List.isEmpty_nil,VW,Tx,Bool.not_not,fQ]
    cases e with
    | true=>exact E6 10 l [] hl10
    | false=>simp only[VV,T6];exact Jj 10 l hl10
   | cons m M'=>
    simp only[List.isEmpty_cons,VV,Tv,TG]
    exact E6 10 l _ hl10
  rw[rGo,hne',VV,hcut,pGo]
  have e1:(i+1==1)=(i==0):=by
   by_cases h:i=0
   ·subst h;rfl
   ·rw[VS h,VS (by omega)]
  rw[e1]
  cases rdL a (i==0) l with
  | none=>rfl
  | some b=>
   dsimp only
   cases hE:(!e&&M.isEmpty) with
   | true=>rfl
   | false=>
    rw[TG,VW,VV]
    refine same_go e M b (i+1) f' ?_ (fun l hl=>hno l (by simp[hl])) (fun he hM=> ?_)
    ·have:(fQ e M).length+1<=(fQ e (l::M)).length:=by
      simp only[fQ]
      cases M with
      | nil=>
       cases e with
       | false=>cases hE
       | true=>simp[fQ]
      | cons m M'=>simp only[List.isEmpty_cons,VV,UJ,UK];omega
     omega
    ·obtain⟨h4,h5⟩:=hlast he (by simp)
     simp only[fQ] at h5
     have hMe:M.isEmpty=false:=by cases M with
      | nil=>exact absurd rfl hM
      | cons _ _=>rfl
     rw[hMe,VV] at h5
     have hn:fQ e M≠[]:=fun h=>by
      rw[h] at h5
      simp at h5
     refine⟨hn,fun h=>h5 ?_⟩
     rw[List.getLast?_append,List.getLast?_cons,h]
     rfl
def FitP (n:Nat) (a:ai):Prop:=a.2.2.2.length<=n/\∀ p∈a.2.2.2,p.1.length<=1000000/\p.2.2.2.length<=n
theorem putC_fit (i:Nat) (c:aJ):∀ l:List aa,(∀ p∈l,p.1.length<=1000000/\p.2.2.2.length<=i)->(putC l c).length=l.length/\∀ p∈putC l c,p.1.length<=1000000/\p.2.2.2.length<=i+1
 | [],_=>⟨rfl,fun p hp=>by cases hp⟩
 | [p],h=>⟨rfl,fun q hq=>by
  have:=h p (by simp)
  rw[U6.1 hq]
  refine⟨this.1, ?_⟩
  simp only[UJ,UQ];omega⟩
 | p::q::r,h=>by
  obtain⟨h1,h2⟩:=putC_fit i c (q::r) fun x hx=>h x (by simp at hx ⊢;exact .inr hx)
  refine⟨by rw[putC,UK,h1];rfl,fun x hx=> ?_⟩
  rcases UX.1 hx with rfl | hx
  ·have:=h x (by simp);exact⟨this.1,by omega⟩
  ·exact h2 x hx
theorem getD_len {W:List (List UInt8)} {m:Nat} (h:∀ w,w∈W->w.length<=m) (i:Nat):(W.getD i []).length<=m:=by
 rw[Up]
 cases hi:W[i]? with
 | none=>exact VI _
 | some x=>exact h x (U3 hi)
theorem rdL_fit {a b:ai} {f:Bool} {s:List UInt8} {i:Nat} (hs:s.length<=1000000) (h:rdL a f s=some b) (ha:FitP i a):FitP (i+1) b:=by
 obtain⟨h1,h2⟩:=ha
 unfold rdL at h
 have hw:=(iP 32 s).2
 generalize aR 32 s=W at h hw
 cases hf:kD W with
 | false=>rw[hf] at h;cases h
 | true=>
  rw[hf,VW] at h
  unfold rdW at h
  cases f with
  | true=>
   rw[VW] at h
   obtain⟨_,rfl⟩:=bif_some' h
   exact⟨by show a.2.2.2.length<=i+1;omega,fun p hp=>by have:=h2 p hp;exact⟨this.1,by omega⟩⟩
  | false=>
   rw[VV] at h
   rcases bif_or' h with h | h
   ·obtain⟨_,rfl⟩:=bif_some' h
    refine⟨by simp only[UJ,UQ];omega,fun p hp=> ?_⟩
    rcases UW.1 hp with hp | hp
    ·have:=h2 p hp;exact⟨this.1,by omega⟩
    ·rw[U6.1 hp]
     exact⟨getD_len (fun w hw'=>Vv (hw w hw') hs) 1,VI _⟩
   ·rcases bif_or' h with h | h
    ·obtain⟨_,rfl⟩:=bif_some' h
     obtain⟨c1,c2⟩:=putC_fit i ((W.getD 1 [],W.getD 2 [],xF (W.getD 3 []),(kF (W.getD 4 [])).1):aJ) a.2.2.2 h2
     exact⟨by show (putC _ _).length<=_;rw[c1];omega,c2⟩
    ·cases h
theorem pGo_fit (e:Bool):∀ (M:List (List UInt8)) (i:Nat) (a b:ai),(∀ l∈M,l.length<=1000000)->FitP i a->pGo e M i a= .inl b->FitP (i+M.length) b
 | [],i,a,b,_,ha,h=>by cases h;exact ha
 | l::M,i,a,b,hl,ha,h=>by
  rw[pGo] at h
  cases hr:rdL a (i==0) l with
  | none=>rw[hr] at h;cases h
  | some c=>
   rw[hr] at h
   dsimp only at h
   cases hE:(!e&&M.isEmpty) with
   | true=>rw[hE] at h;cases h
   | false=>
    rw[hE,VV] at h
    have:=pGo_fit e M (i+1) c b (fun l h=>hl l (by simp[h])) (rdL_fit (hl l (by simp)) hr ha) h
    rw[UK,show i+(M.length+1)=i+1+M.length by omega]
    exact this
theorem eq_content_self (l:List aJ) (hl:l.length<=1000000):fP l l=some (true,()):=by
 unfold fP
 rw[show ((l.length:Int) != (l.length:Int))=false by simp,VV]
 have:∀ n,l.length<n->iter (X:=dx) (β:=ef) n (l,l,(l.length:Int),0,()) dZ=some (Sum.inr ()):=by
  intro n hn
  refine bN (Inv:=fun i X=>X=((l,l,(l.length:Int),(i:Int),()):dx)) l.length (fun z=>z=some (Sum.inr ())) ?_ ?_ n 0 _ rfl (VI _) (by omega)
  ·rintro i X again hi rfl hag
   unfold dZ
   dsimp only
   obtain⟨y,hy⟩:∃ y,l[i]? =some y:=⟨l[i],Uw hi⟩
   rw[VZ (show (i:Int)<(l.length:Int) by omega),VW,NC hy,VJ,VJ,aE (n:=(i:Int)+1) (by omega) (by omega)]
   simp only[VT,Tw,TH,VV]
   exact hag _ rfl
  ·rintro X again rfl
   unfold dZ
   dsimp only
   rw[VY (show ¬(l.length:Int)<(l.length:Int) by omega),VV]
 rw[this _ (by omega)]
 rfl
theorem same_parcels_self (l:List aa) (hl:l.length<=1000000) (hc:∀ p∈l,p.2.2.2.length<=1000000):mY l l=some (true,()):=by
 unfold mY
 rw[show ((l.length:Int) != (l.length:Int))=false by simp,VV]
 have:∀ n,l.length<n->iter (X:=gI) (β:=jI) n (l,l,(l.length:Int),0,()) jH=some (Sum.inr ()):=by
  intro n hn
  refine bN (Inv:=fun i X=>X=((l,l,(l.length:Int),(i:Int),()):gI)) l.length (fun z=>z=some (Sum.inr ())) ?_ ?_ n 0 _ rfl (VI _) (by omega)
  ·rintro i X again hi rfl hag
   unfold jH
   dsimp only
   obtain⟨y,hy⟩:∃ y,l[i]? =some y:=⟨l[i],Uw hi⟩
   rw[VZ (show (i:Int)<(l.length:Int) by omega),VW,NC hy,VJ,VJ,aE (n:=(i:Int)+1) (by omega) (by omega),eq_content_self _ (hc y (U3 hy))]
   simp only[VT,Tw,TH,VV,VJ]
   exact hag _ rfl
  ·rintro X again rfl
   unfold jH
   dsimp only
   rw[VY (show ¬(l.length:Int)<(l.length:Int) by omega),VV]
 rw[this _ (by omega)]
 rfl
theorem same_self (a:ai) (n:Nat) (hn:n<=1000000) (h:FitP n a):AQ a a=some (true,()):=by
 unfold AQ
 simp only[VT,VW]
 rw[same_parcels_self _ (by have:=h.1;omega) (fun p hp=>by have:=(h.2 p hp).2;omega)]
 rfl
theorem fit_of {a:ai} {n:Nat} (h:FitP n a):QI a:=fun p hp=>Vv (h.2 p hp).1 (by decide)
theorem awake10:Cz=some (true,()):=by kernel_rfl
theorem reads_same (t:List UInt8):∃ r:ai×Int×Int×Unit,mK t=some r/\tr t=some r/\FitP 400000 r.1:=by
 have hz:FitP 400000 zA:=⟨by show 0<=_;omega,fun p hp=>by cases hp⟩
 unfold mK tr
 by_cases hl:(300000:Int)<(t.length:Int)
 ·rw[VZ hl,VW,VW]
  exact⟨_,rfl,rfl,hz⟩
 ·rw[VY hl,VV,VV]
  obtain⟨L,e,h1,h2,h3,h4,h5,h6⟩:=Cy t (by omega)
  rw[h1,VJ]
  dsimp only
  cases hL:L.isEmpty with
  | true=>
   have:L=[]:=by simpa using hL
   subst this
   have ht:t=[]:=h2.symm
   subst ht
   exact⟨_,rfl,rfl,hz⟩
  | false=>
   have hne:L≠[]:=fun h=>by rw[h] at hL;cases hL
   have ht:(t==[])=false:=by
    cases ht:t with
    | cons x y=>rfl
    | nil=>
     subst ht
     have:lz []=some ([],true,()):=rfl
     rw[this] at h1
     cases h1
     exact absurd rfl hne
   rw[VV,ht,VV]
   have hgo:=same_go e L zA 0 t.length (by rw[h2];exact Vu _) h3 (by rw[h2];exact h6)
   rw[h2] at hgo
   rw[hgo]
   obtain⟨o,ho⟩:∃ o,pGo e L 0 zA=o:=⟨_,rfl⟩
   rw[ho]
   cases o with
   | inr n=>exact⟨_,rfl,rfl,hz⟩
   | inl a=>
    have hfit:=pGo_fit e L 0 zA a h5 ⟨by show 0<=_;omega,fun p hp=>by cases hp⟩ ho
    dsimp only
    rw[zx a (fit_of hfit),CR a (fit_of hfit),VJ]
    dsimp only
    have hfit2:FitP 400000 a:=⟨by have:=hfit.1;omega,fun p hp=>by have:=hfit.2 p hp;exact⟨this.1,by omega⟩⟩
    cases hb:(KS a != 0) with
    | true=>exact⟨_,rfl,rfl,hz⟩
    | false=>exact⟨_,rfl,rfl,hfit2⟩
theorem law_ParcelReads (t:List UInt8):fJ t=some (true,()):=by
 obtain⟨r,h1,h2,h3⟩:=reads_same t
 unfold fJ
 rw[h1,h2,VJ,VJ]
 simp only[VT,VW]
 rw[same_self r.1 400000 (by omega) h3,awake10]
 rfl
end Go.Md
