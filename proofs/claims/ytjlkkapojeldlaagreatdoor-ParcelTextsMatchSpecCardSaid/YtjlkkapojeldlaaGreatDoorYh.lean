/-
  The plain law ParcelTextsMatchSpec is true of all data. No condition.
-/
import Derived.Test.YtjlkkapojeldlaaGreatDoorYs
import Derived.Test.YtjlkkapojeldlaaGreatDoorYr
import Derived.Test.YtjlkkapojeldlaaGreatDoorYf
set_option linter.all false
namespace Go.Md
open Go.Dn
def B0 (e:Bool):List (List UInt8)->List UInt8
 | []=>[]
 | l::M=>l++(bif M.isEmpty then (bif e then [10] else []) else 10::B0 e M)
theorem zF (e:Bool):∀ s:List UInt8,B0 e (aS 10 s)=s++(bif e then [10] else [])
 | []=>rfl
 | b::r=>by
  have ih:=zF e r
  have hne:=F1 10 r
  simp only[aS]
  cases hb:(b==10) with
  | true=>
   rw[eq_of_beq hb,YG]
   simp only[B0]
   have:(aS 10 r).isEmpty=false:=by
    cases h:aS 10 r with
    | nil=>exact absurd h hne
    | cons _ _=>rfl
   rw[this,YF,ih]
   rfl
  | false=>
   rw[YF]
   cases h:aS 10 r with
   | nil=>exact absurd h hne
   | cons l t=>
    rw[h] at ih
    simp only[B0] at ih ⊢
    rw[WB,ih]
    rfl
theorem zE (c:UInt8):∀ s:List UInt8,∀ l,l∈aS c s->c∉l
 | [],l,h=>by simp[aS] at h;simp[h]
 | b::r,l,h=>by
  have ih:=zE c r
  simp only[aS] at h
  cases hb:(b==c) with
  | true=>
   rw[hb,YG] at h
   rcases XB.1 h with rfl | h
   ·simp
   ·exact ih l h
  | false=>
   rw[hb,YF] at h
   have hbc:c≠b:=fun e=>by rw[e] at hb;simp at hb
   split at h
   ·rename_i hd t he
    rw[he] at ih
    rcases XB.1 h with rfl | h
    ·simp[hbc,ih hd (by simp)]
    ·exact ih l (by simp[h])
   ·simp at h
    subst h
    simp[hbc]
theorem A6 (c:UInt8):∀ (l t:List UInt8),c∉l->dz c (l++c::t)=(l,t,true)
 | [],t,_=>by simp[dz]
 | b::r,t,h=>by
  have hb:(b==c)=false:=by
   cases e:(b==c) with
   | false=>rfl
   | true=>exact absurd (by simp[eq_of_beq e]) h
  rw[WB]
  simp only[dz,hb,YF,A6 c r t (fun hm=>h (by simp[hm]))]
theorem KR (c:UInt8):∀ l:List UInt8,c∉l->dz c l=(l,[],false)
 | [],_=>rfl
 | b::r,h=>by
  have hb:(b==c)=false:=by
   cases e:(b==c) with
   | false=>rfl
   | true=>exact absurd (by simp[eq_of_beq e]) h
  simp only[dz,hb,YF,KR c r (fun hm=>h (by simp[hm]))]
theorem DC (s:List UInt8) (hs:s.length<=1000000):∃ (L:List (List UInt8)) (e:Bool),lM s=some (L,e,())/\B0 e L=s/\(∀ l,l∈L->(10:UInt8)∉l)/\L.length<=s.length+1/\(∀ l,l∈L->l.length<=1000000)/\(e=false->L≠[]->s≠[]/\s.getLast? ≠some 10):=by
 unfold lM
 by_cases h0:s=[]
 ·subst h0
  refine⟨[],true,rfl,rfl, ?_,by simp, ?_, ?_⟩<;>simp
 ·have h0':(s==[])=false:=by
   cases s with
   | nil=>exact absurd rfl h0
   | cons _ _=>rfl
  obtain⟨i,x,rfl⟩:∃ i x,s=i++[x]:=⟨s.dropLast,s.getLast h0,(List.dropLast_concat_getLast h0).symm⟩
  have hl:(i++[x]).length=i.length+1:=by simp
  rw[h0',YF]
  have hsuf:kT (i++[x]) [10]=some ((bif x==10 then i else i++[x]),x==10,()):=by
   unfold kT fG fI
   have e1:w64 ((((i++[x]).length:Nat):Int) - ((([10]:List UInt8).length:Nat):Int))=(i.length:Int):=by
    rw[aD (by simp<;>omega) (by simp<;>omega)];simp<;>omega
   simp only[e1]
   rw[aF (by simp<;>omega),aJ (by simp<;>omega),Yt]
   dsimp only
   have e2:List.drop (Int.toNat (i.length:Int)) (List.take (Int.toNat (((i++[x]).length:Nat):Int)) (i++[x]))=[x]:=by
    rw[Ws,Ws,X0 (Yc _),WH]
   have e3:List.drop 0 (List.take (Int.toNat (i.length:Int)) (i++[x]))=i:=by
    rw[Ws,XY];rfl
   rw[e2,show ([x]==[10])=(x==10) by simp]
   cases hx:(x==10) with
   | false=>rfl
   | true=>
    rw[Wd,YF,aJ (by simp<;>omega),e3]
    rfl
  rw[hsuf,Yt]
  dsimp only
  cases hx:(x==10) with
  | true=>
   rw[YG,rq i 10 (by omega),Yt]
   obtain⟨g1,g2⟩:=ov 10 i
   refine⟨aS 10 i,true,rfl, ?_,zE 10 i,by omega,fun l hl=>by have:=g2 l hl;omega,fun h=>by cases h⟩
   rw[zF,eq_of_beq hx]
   rfl
  | false=>
   rw[YF,rq _ 10 hs,Yt]
   obtain⟨g1,g2⟩:=ov 10 (i++[x])
   refine⟨aS 10 (i++[x]),false,rfl, ?_,zE 10 _,g1,fun l hl=>by have:=g2 l hl;omega,fun _ _=>⟨h0, ?_⟩⟩
   ·rw[zF];simp
   ·rw[List.getLast?_append]
    simp only[List.getLast?_singleton,Option.some_or,ne_eq,Option.some.injEq]
    intro e
    rw[e] at hx;cases hx
end Go.Md
namespace Go.Md
open Go.Dn
theorem Ve {γ:Type} (s:Int) (u:γ) (k:γ->Option (Int×Unit)) (z:Int) (hk:k u=some (z,())):aP (β:=Int×Unit) (γ:=γ) (if s=0 then some (Sum.inr u) else some (Sum.inl (s,()))) k=some (if s≠0 then s else z,()):=by
 by_cases h:s=0
 ·rw[YR h,bg,hk,YQ (by simpa using h)]
 ·rw[YQ h,nT,YR h]
end Go.Md
namespace Go.Md
open Go.Dn
theorem sR (l:List aa) (t:List UInt8) (hl:l.length<1000000000):lC l t=some (ixI (fJ (·.1) t l),()):=by
 unfold lC
 have loop:∀ f,l.length<f->iter f ((t,l,(l.length:Int),(0:Int),()):jZ) nJ=(match fJ (·.1) t l with | some k=>some (Sum.inl ((k:Int),())) | none=>some (Sum.inr ())):=by
  intro f hf
  refine b8 (Inv:=fun i X=>X=((t,l,(l.length:Int),(i:Int),()):jZ)/\∀ j x,j<i->l[j]? =some x->x.1≠t) l.length
   (fun r=>r=(match fJ (·.1) t l with | some k=>some (Sum.inl ((k:Int),())) | none=>some (Sum.inr ()))) ?_ ?_ f 0 _ ⟨rfl,fun _ _ h=>absurd h (Yo _)⟩ (by omega) (by omega)
  ·rintro i _ again hi ⟨rfl,hb⟩ ih
   unfold nJ
   dsimp only
   have hy:l[i]? =some l[i]:=aK hi
   generalize l[i]=y at hy
   rw[aF (by omega),bK,hy,Yt]
   by_cases he:y.1=t
   ·rw[show (y.1==t)=true by simpa using he,YG]
    have:fJ (·.1) t l=some i:=by
     unfold fJ
     rw[List.findIdx?_eq_some_iff_getElem]
     refine⟨hi, ?_,fun j hj=> ?_⟩
     ·have:=(Xa.1 hy).2
      rw[this];simpa using he
     ·have:=hb j l[j] hj (WZ _)
      simpa using this
    rw[this]
   ·rw[show (y.1==t)=false by simpa using he,YF,aD (by omega) (by omega)]
    refine ih _ ⟨rfl,fun j x hj hx=> ?_⟩
    rcases Yh.1 hj with h | h
    ·exact hb j x h hx
    ·subst h;rw[hy] at hx;cases hx;exact he
  ·rintro _ again ⟨rfl,hb⟩
   unfold nJ
   dsimp only
   rw[aI (by omega)]
   have:fJ (·.1) t l=none:=by
    unfold fJ
    rw[List.findIdx?_eq_none_iff]
    intro x hx
    obtain⟨j,hj⟩:=XF.1 hx
    have:=hb j x (Xa.1 hj).1 hj
    simpa using this
   rw[this]
 rw[loop _ (by omega)]
 cases fJ (·.1) t l<;>rfl
theorem Jk (l:List aa) (t:List UInt8) (hl:l.length<1000000000) (hs:Asc (·.1) l): ∃ i:Nat,cA l t ()=some ((i:Int),(fJ (·.1) t l).isSome,())/\∀ k,fJ (·.1) t l=some k->i=k:=by
 unfold cA
 have loop:∀ f,l.length<f->∃ i:Nat,iter f ((l,t,(),(l.length:Int),(0:Int),(l.length:Int),()):bG) cY=some (Sum.inr (l,t,(),(l.length:Int),(i:Int),()))/\i<=l.length/\(∀ k x,l[k]? =some x->k<i->Op.bytesLess x.1 t=true)/\∀ k x,l[k]? =some x->i<=k->Op.bytesLess x.1 t=false:=by
  intro f hf
  refine rI (Inv:=fun X=>∃ i j:Nat,X=((l,t,(),(l.length:Int),(i:Int),(j:Int),()):bG)/\i<=j/\j<=l.length/\(∀ k x,l[k]? =some x->k<i->Op.bytesLess x.1 t=true)/\∀ k x,l[k]? =some x->j<=k->Op.bytesLess x.1 t=false)
   (fun X=>(X.2.2.2.2.2.1 - X.2.2.2.2.1).toNat)
   (fun _ r=>∃ i:Nat,r=some (Sum.inr (l,t,(),(l.length:Int),(i:Int),()))/\i<=l.length/\(∀ k x,l[k]? =some x->k<i->Op.bytesLess x.1 t=true)/\∀ k x,l[k]? =some x->i<=k->Op.bytesLess x.1 t=false) ?_ f _ ⟨0,l.length,rfl,by omega,by omega,fun _ _ _ h=>absurd h (Yo _),fun k x hk hle=>by have:=(Xa.1 hk).1;omega⟩ (by dsimp only;omega)
  rintro _ again ⟨i,j,rfl,hij,hj,h1,h2⟩ ih
  dsimp only at ih
  unfold cY
  dsimp only
  by_cases hlt:i<j
  ·rw[aF (by omega)]
   have em:w64 (Int.fdiv (bp (w64 ((i:Int)+(j:Int)))) (2 ^ 1))=(((i+j) / 2:Nat):Int):=by
    rw[aD (n:=(i:Int)+(j:Int)) (by omega) (by omega),bY (by omega) (by omega),Wh _ (by omega),aD (by omega) (by omega)]
    omega
   rw[em]
   have hm:(i+j) / 2<l.length:=by omega
   have hy:l[(i+j) / 2]? =some l[(i+j) / 2]:=aK hm
   have hmi:i<=(i+j) / 2/\(i+j) / 2<j:=by omega
   generalize (i+j) / 2=m at*
   generalize l[m]=y at hy
   rw[bK,hy,Yt]
   show ∃ i,Option.bind (Option.bind (some (Lib.compareBytes y.1 t,())) fun r1=>some (r1.1,())) _=_/\_
   rw[Yt,Yt]
   dsimp only
   by_cases hc:Lib.compareBytes y.1 t<0
   ·rw[aF hc,aD (by omega) (by omega)]
    refine ih _ ⟨m+1,j,rfl,by omega,hj,fun k x hk hkm=> ?_,h2⟩ (by dsimp only;omega)
    rcases Yh.1 hkm with h | h
    ·have:=hs k m x y h hk hy
     exact uI this (A5.1 hc)
    ·subst h;rw[hy] at hk;cases hk;exact A5.1 hc
   ·rw[aI hc]
    refine ih _ ⟨i,m,rfl,by omega,by omega,h1,fun k x hk hkm=> ?_⟩ (by dsimp only;omega)
    have hc':Op.bytesLess y.1 t=false:=by
     cases h:Op.bytesLess y.1 t with
     | false=>rfl
     | true=>exact absurd (A5.2 h) hc
    rcases Nat.lt_or_eq_of_le hkm with h | h
    ·cases hx:Op.bytesLess x.1 t with
     | false=>rfl
     | true=>rw[uI (hs m k y x h hy hk) hx] at hc';cases hc'
    ·subst h;rw[hy] at hk;cases hk;exact hc'
  ·rw[aI (by omega)]
   have:i=j:=by omega
   subst this
   exact⟨i,rfl,hj,h1,h2⟩
 obtain⟨i,h1,h2,h3,h4⟩:=loop (List.length l+(List.length t+(Int.natAbs ((List.length l:Int))+(Int.natAbs (0:Int)+(Int.natAbs ((List.length l:Int))+2))))) (by omega)
 refine⟨i, ?_,fun k hk=> ?_⟩
 ·rw[h1,bg]
  dsimp only
  by_cases hi:i<l.length
  ·have hy:l[i]? =some l[i]:=aK hi
   generalize l[i]=y at hy
   rw[aF (by omega),bK,hy,Yt]
   show Option.bind (Option.bind (some (Lib.compareBytes y.1 t,())) fun r1=>some (r1.1,())) _=_
   rw[Yt,Yt]
   congr 3
   by_cases he:y.1=t
   ·rw[Uf hs hy he,C3.2 he];rfl
   ·have hne:¬ Lib.compareBytes y.1 t=0:=fun h=>he (C3.1 h)
    rw[show (Lib.compareBytes y.1 t==0)=false by simpa using hne]
    cases hx:fJ (·.1) t l with
    | none=>rfl
    | some k=>
     exfalso
     obtain⟨x,k1,k2⟩:=nS hx
     rcases Yk k i with h | h | h
     ·have:=h3 k x k1 h;rw[k2,kZ] at this;cases this
     ·subst h;rw[hy] at k1;cases k1;exact he k2
     ·have:=hs i k y x h hy k1
      dsimp only at this
      rw[k2,h4 i y hy (Yc _)] at this;cases this
  ·rw[aI (by omega)]
   congr 3
   cases hx:fJ (·.1) t l with
   | none=>rfl
   | some k=>
    exfalso
    obtain⟨x,k1,k2⟩:=nS hx
    have:=h3 k x k1 (by have:=(Xa.1 k1).1;omega)
    rw[k2,kZ] at this;cases this
 ·obtain⟨x,k1,k2⟩:=nS hk
  rcases Yk k i with h | h | h
  ·have:=h3 k x k1 h;rw[k2,kZ] at this;cases this
  ·exact h.symm
  ·have hy:l[i]? =some (l[i]'(by have:=(Xa.1 k1).1;omega)):=aK _
   have:=hs i k _ x h hy k1
   dsimp only at this
   rw[k2,h4 i _ hy (Yc _)] at this;cases this
theorem vD (a:ai) (t:List UInt8) (hl:a.2.2.2.length<1000000000) (hs:Asc (·.1) a.2.2.2): ∃ i:Nat,jT a t=some ((i:Int),(fJ (·.1) t a.2.2.2).isSome,())/\∀ k,fJ (·.1) t a.2.2.2=some k->i=k:=by
 obtain⟨i,h1,h2⟩:=Jk a.2.2.2 t hl hs
 exact⟨i,by unfold jT;rw[h1,Yt],h2⟩
def A3 (a b:ay):Int:=cV (fun _ y=>y) 0 [Lib.compareBytes a.1 b.1,Lib.compareBytes a.2.1 b.2.1,Lib.compareBytes a.2.2.1 b.2.2.1]
theorem RC (l:List Int) (hl:l.length<1000):wK l=some (cV (fun _ y=>y) 0 l,()):=by
 unfold wK
 rw[eW (f:=qA) (fun i=>(((0:Int),l,(l.length:Int),(i:Int),()):qB)) l (fun _ y=>y) (0,()) ?_ ?_ ?_ _ ?_]
 ·exact (Ve _ _ _ 0 rfl).trans (by
   by_cases h:cV (fun _ y=>y) 0 l=0
   ·rw[YQ (by simpa using h),h]
   ·rw[YR h])
 ·rfl
 ·intro i y again hy
  have hi:=(Xa.1 hy).1
  unfold qA
  dsimp only
  rw[aF (by omega),bK,hy,Yt,aD (by omega) (by omega)]
  by_cases h:y=0
  ·subst h;rfl
  ·rw[show (y != 0)=true by simpa using h,YG,YQ h]
 ·intro again
  unfold qA
  dsimp only
  rw[aI (by omega)]
 ·omega
theorem wP (a b:ay):eK a b=some (A3 a b,()):=by
 unfold eK strings_Compare A3
 simp only[Yt]
 rw[RC _ (by simp),Yt]
theorem CF (a b:ay):iX a b=some (A3 a b,()):=by
 unfold iX strings_Compare A3
 simp only[Yt]
 generalize hL:[Lib.compareBytes a.1 b.1,Lib.compareBytes a.2.1 b.2.1,Lib.compareBytes a.2.2.1 b.2.2.1]=l
 have hl:l.length=3:=by subst hL;rfl
 rw[eW (f:=ji) (fun i=>((l,(l.length:Int),(i:Int),()):jj)) l (fun _ y=>y) () ?_ ?_ ?_ _ ?_]
 ·exact Mv _ _
 ·rfl
 ·intro i y again hy
  have hi:=(Xa.1 hy).1
  unfold ji
  dsimp only
  rw[aF (by omega),bK,hy,Yt,aD (by omega) (by omega)]
  by_cases h:y=0
  ·subst h;rfl
  ·rw[show (y != 0)=true by simpa using h,YG,YQ h]
 ·intro again
  unfold ji
  dsimp only
  rw[aI (by omega)]
 ·omega
def BN (l:List ay) (i:Nat) (y:ay):Bool:=match i with
 | 0=>false
 | i+1=>match l[i]? with
  | some p=>decide (A3 p y>=0)
  | none=>false
def EB (l:List ay) (i:Nat) (c:ay):Int:=
 if dO c.1=false then 5 else if dO c.2.1=false then 5 else if (!(c.2.2.1==[])&& !dO c.2.2.1)=true then 5
 else if BN l i c=true then 8 else if qOk c.2.2.2 false=true then 0 else 1
def jH (l:List ay):Int:=if 100<l.length then 2 else cV (EB l) 0 l
theorem yD {α:Type} {l:List α} {i:Nat} (hi:i<l.length) (hl:l.length<1000000000):idx l (w64 (((i+1:Nat):Int) - 1))=l[i]? :=by
 rw[aD (by omega) (by omega),show ((i+1:Nat):Int) - 1=((i:Nat):Int) by omega,bK]
theorem yh (l:List ay):fN l=some (jH l,()):=by
 unfold fN jH
 by_cases hb:100<l.length
 ·rw[aF (by omega),YR hb]
 ·rw[aI (by omega),YQ hb]
  rw[eW (f:=fY) (fun i=>((l,l,(l.length:Int),(i:Int),()):fZ)) l (EB l) () ?_ ?_ ?_ _ ?_]
  ·exact Mv _ _
  ·rfl
  ·intro i y again hy
   have hi:=(Xa.1 hy).1
   unfold fY
   dsimp only
   rw[aF (by omega),bK,hy,Yt]
   simp only[Cf,Yt,qa,wP]
   have hw:w64 ((i:Int)+1)=((i+1:Nat):Int):=by rw[aD (by omega) (by omega)];omega
   rw[hw]
   unfold EB
   generalize qOk y.2.2.2 false=q
   cases i with
   | zero=>
    simp only[BN]
    cases dO y.1<;>cases dO y.2.1<;>cases (y.2.2.1==[])<;>cases dO y.2.2.1<;>cases q<;>simp
   | succ i=>
    have hp:l[i]? =some (l[i]'(by omega)):=aK (by omega)
    have ep:BN l (i+1) y=decide (A3 (l[i]'(by omega)) y>=0):=by simp only[BN,hp]
    have hpos:decide (((i+1:Nat):Int)>0)=true:=by simp
    rw[yD (by omega) (by omega),hp,ep,hpos]
    simp only[Yt,YG]
    generalize decide (A3 (l[i]'(by omega)) y>=0)=p
    cases dO y.1<;>cases dO y.2.1<;>cases (y.2.2.1==[])<;>cases dO y.2.2.1<;>cases q<;>cases p<;>simp
  ·intro again
   unfold fY
   dsimp only
   rw[aI (by omega)]
  ·omega
theorem BQ (l:List ay):ig l=some (jH l,()):=by
 unfold ig jH
 by_cases hb:100<l.length
 ·rw[aF (by omega),YR hb]
 ·rw[aI (by omega),YQ hb]
  rw[eW (f:=iF) (fun i=>((l,l,(l.length:Int),(i:Int),()):iG)) l (EB l) () ?_ ?_ ?_ _ ?_]
  ·exact Mv _ _
  ·rfl
  ·intro i y again hy
   have hi:=(Xa.1 hy).1
   unfold iF
   dsimp only
   rw[aF (by omega),bK,hy,Yt]
   simp only[DZ,Yt,Ci,CF,Wd]
   have hw:w64 ((i:Int)+1)=((i+1:Nat):Int):=by rw[aD (by omega) (by omega)];omega
   rw[hw]
   unfold EB
   generalize qOk y.2.2.2 false=q
   cases i with
   | zero=>
    simp only[BN]
    cases dO y.1<;>cases dO y.2.1<;>cases (y.2.2.1==[])<;>cases dO y.2.2.1<;>cases q<;>simp
   | succ i=>
    have hp:l[i]? =some (l[i]'(by omega)):=aK (by omega)
    have ep:BN l (i+1) y=decide (A3 (l[i]'(by omega)) y>=0):=by simp only[BN,hp]
    have hpos:decide (((i+1:Nat):Int)>0)=true:=by simp
    rw[yD (by omega) (by omega),hp,ep,hpos]
    simp only[Yt,YG]
    generalize decide (A3 (l[i]'(by omega)) y>=0)=p
    cases dO y.1<;>cases dO y.2.1<;>cases (y.2.2.1==[])<;>cases dO y.2.2.1<;>cases q<;>cases p<;>simp
  ·intro again
   unfold iF
   dsimp only
   rw[aI (by omega)]
  ·omega
def wQ (l:List aa) (i:Nat) (y:aa):Bool:=match i with
 | 0=>false
 | i+1=>match l[i]? with
  | some p=>Op.bytesLess y.1 p.1||y.1==p.1
  | none=>false
def nG (l:List aa) (i:Nat) (p:aa):Int:=
 if lbl p.1=false then 3 else if wQ l i p=true then 8 else if qOk p.2.2.1 true=false then 1 else jH p.2.2.2
theorem Ao (l:List aa) (i:Nat) (y:aa) (hy:l[i]? =some y) (hl:l.length<1000000000) (hs:y.1.length<=9223372036854775807):jU l (i:Int)=some (nG l i y,()):=by
 have hi:=(Xa.1 hy).1
 unfold jU nG
 rw[bK,hy,Yt,Fj _ hs]
 simp only[Yt,qa,yh]
 cases i with
 | zero=>
  simp only[wQ]
  cases lbl y.1<;>cases qOk y.2.2.1 true<;>simp
 | succ i=>
  have hp:l[i]? =some (l[i]'(by omega)):=aK (by omega)
  have ep:wQ l (i+1) y=(Op.bytesLess y.1 (l[i]'(by omega)).1||y.1==(l[i]'(by omega)).1):=by simp only[wQ,hp]
  have hpos:decide (((i+1:Nat):Int)>0)=true:=by simp
  rw[yD (by omega) hl,hp,ep,hpos]
  simp only[Yt,YG]
  generalize (Op.bytesLess y.1 (l[i]'(by omega)).1||y.1==(l[i]'(by omega)).1)=p
  cases lbl y.1<;>cases qOk y.2.2.1 true<;>cases p<;>simp
end Go.Md
namespace Go.Md
open Go.Dn
def par (l:List aa) (k:Nat):Option Nat:=match l[k]? with
 | some p=>if p.2.1=[] then none else fJ (·.1) p.2.1 l
 | none=>none
theorem Am {l:List aa} {k k':Nat} (h:par l k=some k'):k'<l.length:=by
 unfold par at h
 split at h
 ·split at h
  ·cases h
  ·obtain⟨x,hx,_⟩:=nS h
   exact (Xa.1 hx).1
 ·cases h
def G6 (l:List aa):Prop:=∀ p∈l,p.2.1=[]\/(fJ (·.1) p.2.1 l).isSome=true
theorem Km {l:List aa} {k:Nat} {p:aa} (h1:G6 l) (hp:l[k]? =some p):(p.2.1=[]/\par l k=none)\/(p.2.1≠[]/\∃ k',par l k=some k'/\fJ (·.1) p.2.1 l=some k'):=by
 unfold par
 rw[hp]
 dsimp only
 by_cases h:p.2.1=[]
 ·exact .inl ⟨h,by rw[YR h]⟩
 ·right
  rw[YQ h]
  rcases h1 p (XH hp) with h2 | h2
  ·exact absurd h2 h
  ·obtain⟨k',hk'⟩:=Yw.1 h2
   exact⟨h,k',hk',hk'⟩
def rT (l:List aa):Prop:=∀ k,k<l.length->¬ gf (par l) k
def kD (l:List aa) (i:Nat):List Nat:=anc (par l) l.length i
theorem F5 {l:List aa} (h:rT l) {i:Nat} (hi:i<l.length):(kD l i).length<l.length:=T3 (fun _ _=>Am) h hi
theorem CN {l:List aa} (h:rT l) {i k:Nat} (hi:i<l.length) (hp:par l i=some k):kD l i=k::kD l k:=by
 have h1:=F5 h hi
 unfold kD at*
 rw[<- KM h1 (show l.length<=l.length+1 by omega),tN hp]
theorem KL {l:List aa} {i:Nat} (hp:par l i=none):kD l i=[]:=F6 hp _
theorem P9 {l:List aa} (h:rT l) {i:Nat} (hi:i<l.length):(i::kD l i).Nodup:=CO (fun _ _=>Am) h hi
def cI (l:List Nat):List Int:=l.map (fun n:Nat=>(n:Int))
theorem Ry {l:List Nat} {x:Nat}:(x:Int)∈cI l↔x∈l:=by
 unfold cI
 rw[XG]
 constructor
 ·rintro⟨a,h1,h2⟩;have:a=x:=by omega
  exact this ▸ h1
 ·intro h;exact⟨x,h,rfl⟩
theorem pO (l:List Nat):(cI l).length=l.length:=by simp[cI]
theorem GP (a:ai) (hl:a.2.2.2.length<=500) (hs:Asc (·.1) a.2.2.2) (h1:G6 a.2.2.2) (i:Nat) (hi:i<a.2.2.2.length): ∃ (out:List Nat) (ok:Bool),mL a (i:Int)=some (cI out,ok,())/\(ok=false↔gf (par a.2.2.2) i)/\(rT a.2.2.2->out=kD a.2.2.2 i):=by
 unfold mL
 have hat:=fun t=>vD a t (by omega) hs
 obtain⟨a1,a2,a3,l⟩:=a
 dsimp only at*
 have loop:∀ f,l.length+1<f->∃ (out:List Nat) (ok:Bool),(iter f (((i:Int),([]:List Int),(i:Int),a1,a2,a3,l,()):gw) mm=(if ok=true then (some (Sum.inr (cI out,())):Option ff) else some (Sum.inl (cI out,false,())))\/(ok=true/\iter f (((i:Int),([]:List Int),(i:Int),a1,a2,a3,l,()):gw) mm=(some (Sum.inl (cI out,true,())):Option ff)))/\(ok=false↔gf (par l) i)/\(rT l->out=kD l i):=by
  intro f hf
  refine rI (Inv:=fun X=>∃ (out:List Nat) (k:Nat),X=(((i:Int),cI out,(k:Int),a1,a2,a3,l,()):gw)/\k<l.length/\out.Nodup/\(∀ x∈out,x<l.length)/\(∃ j,itp (par l) j i=some k)/\(gf (par l) i->∃ d,qU (par l) i k d/\∀ x∈out,∃ e,d<=e/\qU (par l) i x e)/\(rT l->out++kD l k=kD l i))
   (fun X=>l.length+1 - X.2.1.length)
   (fun _ r=>∃ (out:List Nat) (ok:Bool),(r=(if ok=true then (some (Sum.inr (cI out,())):Option ff) else some (Sum.inl (cI out,false,())))\/(ok=true/\r=(some (Sum.inl (cI out,true,())):Option ff)))/\(ok=false↔gf (par l) i)/\(rT l->out=kD l i)) ?_ f _
   ⟨[],i,rfl,hi,by simp,by simp,⟨0,rfl⟩,fun hon=>by obtain⟨d,hd⟩:=hon.Tj;exact⟨d,hd,by simp⟩,fun _=>by simp⟩ (by dsimp only;simp;omega)
  rintro _ again ⟨out,k,rfl,hk,hnd,hlt,⟨j,hj⟩,hon,hno⟩ ih
  dsimp only at ih
  have hlen:=vz l.length out hnd hlt
  unfold mm
  dsimp only
  have hy:l[k]? =some l[k]:=aK hk
  generalize l[k]=p at hy
  rw[bK,hy,Yt,Yt]
  rcases Km h1 hy with ⟨g1,g2⟩ | ⟨g1,k',g2,g3⟩
  ·rw[g1]
   refine⟨out,true,.inl rfl, ?_,fun hn=> ?_⟩
   ·constructor
    ·intro h;cases h
    ·intro h
     obtain⟨d,hd,_⟩:=hon h
     obtain⟨k',e,_⟩:=hd.step
     rw[g2] at e;cases e
   ·have:=hno hn
    rw[KL g2,WA] at this
    exact this
  ·have hk':=Am g2
   rw[show (!(p.2.1==[]))=true by cases hp:p.2.1<;>simp_all,YG]
   obtain⟨q,hq1,hq2⟩:=hat p.2.1
   have:q=k':=hq2 k' g3
   subst this
   rw[hq1,Yt]
   dsimp only
   by_cases e1:q=i
   ·subst e1
    rw[show ((q:Int)==(q:Int))=true by simp,YG]
    have hloop:gf (par l) q:=⟨j,by rw[Ai (b:=1) hj];simp[itp,g2]⟩
    exact⟨[],false,.inl rfl,⟨fun _=>hloop,fun _=>rfl⟩,fun hn=>absurd hloop (hn q hi)⟩
   ·rw[show ((q:Int)==(i:Int))=false by rw[YB];omega,YF,qk _ _ (by rw[pO];omega),Yt]
    by_cases e2:q∈out
    ·rw[YJ (Ry.2 e2),YG]
     refine⟨out,true,.inr ⟨rfl,rfl⟩,⟨fun h=>(by cases h),fun h=> ?_⟩,fun hn=> ?_⟩
     ·obtain⟨d,hd,hx⟩:=hon h
      obtain⟨k2,e,h2⟩:=hd.step
      rw[g2] at e;cases e
      rcases h2 with ⟨h2,_⟩ | ⟨_,e,he,h3⟩
      ·exact absurd h2 e1
      ·obtain⟨f',hf',hx'⟩:=hx q e2
       have:=h3.uniq hx'
       omega
     ·exfalso
      have h3:=hno hn
      have h4:=(XO.1 (P9 hn hi)).2
      rw[<- h3,CN hn hk g2,XN] at h4
      exact h4.2.2 q e2 q (by simp) rfl
    ·rw[YI (fun h=>e2 (Ry.1 h)),YF,aJ (k8 (by rw[pO];omega) (by rw[pO];omega))]
     refine ih _ ⟨out++[q],q,by simp[cI],hk', ?_, ?_,⟨j+1, ?_⟩,fun h=> ?_,fun hn=> ?_⟩ (by simp[pO];omega)
     ·rw[XN]
      exact⟨hnd,by simp,fun x hx y hy=>by simp at hy;subst hy;exact fun e=>e2 (e ▸ hx)⟩
     ·intro x hx
      rcases Xy.1 hx with hx | hx
      ·exact hlt x hx
      ·simp at hx;omega
     ·rw[Ai (b:=1) hj];simp[itp,g2]
     ·obtain⟨d,hd,hx⟩:=hon h
      obtain⟨k2,e,h2⟩:=hd.step
      rw[g2] at e;cases e
      rcases h2 with ⟨h2,_⟩ | ⟨_,e,he,h3⟩
      ·exact absurd h2 e1
      ·refine⟨e,h3,fun x hx2=> ?_⟩
       rcases Xy.1 hx2 with hx2 | hx2
       ·obtain⟨f',hf',hx'⟩:=hx x hx2;exact⟨f',by omega,hx'⟩
       ·simp at hx2;subst hx2;exact⟨e,Yc _,h3⟩
     ·rw[<- hno hn,CN hn hk g2,Wy];rfl
 obtain⟨out,ok,h2,h3,h4⟩:=loop (Int.natAbs (i:Int)+(List.length ([]:List Int)+(Int.natAbs (i:Int)+(List.length a1+(List.length a2+(Int.natAbs a3+(List.length l+2))))))) (by omega)
 refine⟨out,ok, ?_,h3,h4⟩
 rcases h2 with h2 | ⟨h5,h2⟩
 ·rw[h2]
  cases ok<;>rfl
 ·rw[h2,h5];rfl
end Go.Md
namespace Go.Md
open Go.Dn
theorem N1 (l:List aa) (hl:l.length<=500) (h1:G6 l) (i:Nat) (hi:i<l.length):∃ b:Bool,yE l (i:Int)=some (b,())/\(b=true↔gf (par l) i):=by
 unfold yE
 have loop:∀ f,l.length<f->∃ b:Bool,iter f ((l,(i:Int),(i:Int),(l.length:Int),(0:Int),()):lB) n8=(if b=true then some (Sum.inl (true,())) else some (Sum.inr ()))/\(b=true↔gf (par l) i)\/
  iter f ((l,(i:Int),(i:Int),(l.length:Int),(0:Int),()):lB) n8=some (Sum.inl (false,()))/\¬ gf (par l) i:=by
  intro f hf
  refine b8 (Inv:=fun c X=>∃ k:Nat,X=((l,(i:Int),(k:Int),(l.length:Int),(c:Int),()):lB)/\k<l.length/\itp (par l) c i=some k/\∀ e,e<c->itp (par l) (e+1) i≠some i) l.length
   (fun r=>∃ b:Bool,r=(if b=true then some (Sum.inl (true,())) else some (Sum.inr ()))/\(b=true↔gf (par l) i)\/r=some (Sum.inl (false,()))/\¬ gf (par l) i) ?_ ?_ f 0 _ ⟨i,rfl,hi,rfl,fun e h=>absurd h (Yo _)⟩ (by omega) (by omega)
  ·rintro c _ again hc ⟨k,rfl,hk,hit,hne⟩ ih
   unfold n8
   dsimp only
   have hy:l[k]? =some l[k]:=aK hk
   generalize l[k]=p at hy
   rw[aF (by omega),bK,hy,Yt,Yt]
   rcases Km h1 hy with ⟨g1,g2⟩ | ⟨g1,k',g2,g3⟩
   ·rw[g1]
    refine⟨false,.inr ⟨rfl,fun hon=> ?_⟩⟩
    obtain⟨d,hd⟩:=hon.Tj
    rcases Yf d c with h | h
    ·exact hne d h hd.1
    ·have:=hd.1
     rw[show d+1=c+(d - c+1) by omega,Ai hit] at this
     simp[itp,g2] at this
   ·have hk':=Am g2
    rw[show (p.2.1==[])=false by cases hp:p.2.1<;>simp_all,YF,sR l _ (by omega),g3,Yt]
    dsimp only[ixI]
    have hit':itp (par l) (c+1) i=some k':=by rw[Ai hit];simp[itp,g2]
    by_cases e1:k'=i
    ·subst e1
     rw[show ((k':Int)==(k':Int))=true by simp,YG]
     exact⟨true,.inl ⟨rfl,⟨fun _=>⟨c,hit'⟩,fun _=>rfl⟩⟩⟩
    ·rw[show ((k':Int)==(i:Int))=false by rw[YB];omega,YF,aD (by omega) (by omega)]
     refine ih _ ⟨k',rfl,hk',hit',fun e he=> ?_⟩
     rcases Yh.1 he with h | h
     ·exact hne e h
     ·subst h;rw[hit'];simpa using e1
  ·rintro _ again ⟨k,rfl,hk,hit,hne⟩
   unfold n8
   dsimp only
   rw[aI (by omega)]
   refine⟨false,.inl ⟨rfl,⟨fun h=>(by cases h),fun hon=> ?_⟩⟩⟩
   obtain⟨d,hd⟩:=hon.Tj
   have:=hd.le (fun _ _=>Am) hi
   exact absurd hd.1 (hne d (by omega))
 obtain⟨b,h⟩:=loop (List.length l+(Int.natAbs (i:Int)+(Int.natAbs (i:Int)+(Int.natAbs ((List.length l:Int))+(Int.natAbs (0:Int)+2))))) (by omega)
 rcases h with ⟨h2,h3⟩ | ⟨h2,h3⟩
 ·exact⟨b,by rw[h2];cases b<;>rfl,h3⟩
 ·exact⟨false,by rw[h2];rfl,⟨fun h=>(by cases h),fun h=>absurd h h3⟩⟩
theorem Sy (l:List aa) (hl:l.length<=500) (h1:G6 l) (hn:rT l) (i:Nat) (hi:i<l.length):ID l (i:Int)=some (cI (i::kD l i),true,()):=by
 unfold ID
 have loop:∀ f,l.length<f->iter f ((l,(i:Int),[(i:Int)],()):vG) DV=some (Sum.inr (cI (i::kD l i),())):=by
  intro f hf
  refine rI (Inv:=fun X=>∃ (pre:List Nat) (k:Nat),X=((l,(k:Int),cI pre,()):vG)/\k<l.length/\pre++kD l k=i::kD l i) (fun X=>l.length+1 - X.2.2.1.length)
   (fun _ r=>r=some (Sum.inr (cI (i::kD l i),()))) ?_ f _ ⟨[i],i,rfl,hi,rfl⟩ (by dsimp only;simp;omega)
  rintro _ again ⟨pre,k,rfl,hk,hpre⟩ ih
  dsimp only at ih
  have hlen:pre.length+(kD l k).length=(kD l i).length+1:=by
   have:=congrArg List.length hpre
   simpa using this
  have hlt:=F5 hn hi
  unfold DV
  dsimp only
  have hy:l[k]? =some l[k]:=aK hk
  generalize l[k]=p at hy
  rw[bK,hy,Yt,Yt]
  rcases Km h1 hy with ⟨g1,g2⟩ | ⟨g1,k',g2,g3⟩
  ·rw[g1]
   rw[KL g2,WA] at hpre
   rw[hpre]
   rfl
  ·have hk':=Am g2
   rw[show (!(p.2.1==[]))=true by cases hp:p.2.1<;>simp_all,YG,sR l _ (by omega),g3,Yt]
   dsimp only[ixI]
   rw[aI (by rw[pO];omega),aJ (k8 (by rw[pO];omega) (by rw[pO];omega))]
   refine ih _ ⟨pre++[k'],k',by simp[cI],hk', ?_⟩ (by simp[pO];omega)
   rw[<- hpre,CN hn hk g2,Wy];rfl
 rw[loop _ (by simp only[Xm,Xp];omega),bg]
def n1 (l:List aa) (p:aa):Int:=if p.2.1≠[]/\(fJ (·.1) p.2.1 l).isSome=false then 9 else 0
open Classical in
noncomputable def n2 (l:List aa) (i:Nat):Int:=if gf (par l) i then 17 else 0
def n3 (l:List aa) (i:Nat):Int:=if 5<(kD l i).length then 2 else 0
def DJ (l:List aa):Int:=cV (fun _ p=>n1 l p) 0 l
noncomputable def NM (l:List aa):Int:=cV (fun i _=>n2 l i) 0 l
def U0 (l:List aa):Int:=cV (fun i _=>n3 l i) 0 l
noncomputable def yB (l:List aa):Int:=if DJ l≠0 then DJ l else if NM l≠0 then NM l else U0 l
theorem uN {l:List aa} (h:DJ l=0):G6 l:=by
 intro p hp
 obtain⟨i,hi⟩:=XF.1 hp
 have:=pe h i p hi
 unfold n1 at this
 by_cases h1:p.2.1=[]
 ·exact .inl h1
 ·cases h2:(fJ (fun x:aa=>x.1) p.2.1 l).isSome with
  | true=>exact .inr rfl
  | false=>rw[YR ⟨h1,h2⟩] at this;omega
theorem FF {l:List aa} (h:NM l=0):rT l:=by
 intro k hk hon
 have:=pe h k l[k] (aK hk)
 unfold n2 at this
 rw[Yr,YR hon] at this
 omega
theorem At {γ:Type} (s:Int) (u:γ) (k:γ->Option (Int×Unit)) (z:Int) (hk:s=0->k u=some (z,())):aP (β:=Int×Unit) (γ:=γ) (if s=0 then some (Sum.inr u) else some (Sum.inl (s,()))) k=some (if s≠0 then s else z,()):=by
 by_cases h:s=0
 ·rw[YR h,bg,hk h,YQ (by simpa using h)]
 ·rw[YQ h,nT,YR h]
theorem SS {γ:Type} (s:Int) (u:γ):aP (β:=Int×Unit) (γ:=γ) (if s=0 then some (Sum.inr u) else some (Sum.inl (s,()))) (fun _=>some (0,()))=some (s,()):=Mv s u
theorem CE (a:ai) (hl:a.2.2.2.length<=500) (hs:Asc (·.1) a.2.2.2):mo a=some (yB a.2.2.2,()):=by
 unfold mo yB
 have hat:=fun t=>vD a t (by omega) hs
 have har:=fun h1 i hi=>GP a hl hs h1 i hi
 obtain⟨a1,a2,a3,l⟩:=a
 dsimp only at*
 rw[eW (f:=je) (fun i=>((l,(l.length:Int),(i:Int),a1,a2,a3,l,()):jg)) l (fun _ p=>n1 l p) (a1,a2,a3,l,()) ?_ ?_ ?_ _ ?_]
 ·refine At _ _ _ _ fun z1=> ?_
  have h1:=uN z1
  dsimp only
  rw[eW (f:=jf) (fun i=>(((l.length:Int),(i:Int),a1,a2,a3,l,()):jh)) l (fun i _=>n2 l i) (a1,a2,a3,l,()) ?_ ?_ ?_ _ ?_]
  ·refine At _ _ _ _ fun z2=> ?_
   have h2:=FF z2
   dsimp only
   rw[eW (f:=iD) (fun i=>(((l.length:Int),(i:Int),a1,a2,a3,l,()):iE)) l (fun i _=>n3 l i) () ?_ ?_ ?_ _ ?_]
   ·exact SS _ _
   ·rfl
   ·intro i y again hy
    have hi:=(Xa.1 hy).1
    unfold iD
    dsimp only
    obtain⟨out,ok,g1,g2,g3⟩:=har h1 i hi
    rw[aF (by omega),g1,Yt,aD (by omega) (by omega)]
    dsimp only
    rw[g3 h2,pO]
    unfold n3
    by_cases h5:5<(kD l i).length
    ·rw[aF (by omega),YR h5,YQ (by omega)]
    ·rw[aI (by omega),YQ h5,YR rfl];rfl
   ·intro again
    unfold iD
    dsimp only
    rw[aI (by omega)]
   ·omega
  ·rfl
  ·intro i y again hy
   have hi:=(Xa.1 hy).1
   unfold jf
   dsimp only
   obtain⟨out,ok,g1,g2,g3⟩:=har h1 i hi
   rw[aF (by omega),g1,Yt,aD (by omega) (by omega)]
   dsimp only
   unfold n2
   by_cases hon:gf (par l) i
   ·rw[g2.2 hon,YR hon,YQ (by omega)];rfl
   ·have:ok=true:=by
     cases ok with
     | true=>rfl
     | false=>exact absurd (g2.1 rfl) hon
    rw[this,YQ hon,YR rfl];rfl
  ·intro again
   unfold jf
   dsimp only
   rw[aI (by omega)]
  ·omega
 ·rfl
 ·intro i y again hy
  have hi:=(Xa.1 hy).1
  unfold je
  dsimp only
  obtain⟨q,hq1,hq2⟩:=hat y.2.1
  rw[aF (by omega),bK,hy,Yt,hq1,Yt,aD (by omega) (by omega)]
  dsimp only
  by_cases e1:y.2.1=[]
  ·have hn:n1 l y=0:=by unfold n1;rw[YQ (fun h=>h.1 e1)]
   rw[hn,YR rfl,e1];rfl
  ·rw[show (!(y.2.1==[]))=true by cases hp:y.2.1<;>simp_all,YG]
   cases h2:(fJ (fun x:aa=>x.1) y.2.1 l).isSome with
   | true=>
    have hn:n1 l y=0:=by unfold n1;rw[YQ (fun h=>by rw[h2] at h;exact absurd h.2 (by simp))]
    rw[hn,YR rfl];rfl
   | false=>
    have hn:n1 l y=9:=by unfold n1;rw[YR ⟨e1,h2⟩]
    rw[hn,YQ (by omega)];rfl
 ·intro again
  unfold je
  dsimp only
  rw[aI (by omega)]
 ·omega
theorem N2 (l:List aa) (hl:l.length<=500):yF l=some (yB l,()):=by
 unfold yF yB
 rw[eW (f:=sN) (fun i=>((l,l,(l.length:Int),(i:Int),()):sP)) l (fun _ p=>n1 l p) (l,()) ?_ ?_ ?_ _ ?_]
 ·refine At _ _ _ _ fun z1=> ?_
  have h1:=uN z1
  dsimp only
  rw[eW (f:=sO) (fun i=>((l,(l.length:Int),(i:Int),()):sQ)) l (fun i _=>n2 l i) (l,()) ?_ ?_ ?_ _ ?_]
  ·refine At _ _ _ _ fun z2=> ?_
   have h2:=FF z2
   dsimp only
   rw[eW (f:=qE) (fun i=>((l,(l.length:Int),(i:Int),()):qF)) l (fun i _=>n3 l i) () ?_ ?_ ?_ _ ?_]
   ·exact SS _ _
   ·rfl
   ·intro i y again hy
    have hi:=(Xa.1 hy).1
    have hlt:=F5 h2 hi
    unfold qE
    dsimp only
    rw[aF (by omega),Sy l hl h1 h2 i hi,Yt,aD (n:=(i:Int)+1) (by omega) (by omega)]
    dsimp only
    rw[Wd,YF,pO,Xm,aD (by omega) (by omega)]
    unfold n3
    by_cases h5:5<(kD l i).length
    ·rw[aF (by omega),YR h5,YQ (by omega)]
    ·rw[aI (by omega),YQ h5,YR rfl];rfl
   ·intro again
    unfold qE
    dsimp only
    rw[aI (by omega)]
   ·omega
  ·rfl
  ·intro i y again hy
   have hi:=(Xa.1 hy).1
   unfold sO
   dsimp only
   obtain⟨b,g1,g2⟩:=N1 l hl h1 i hi
   rw[aF (by omega),g1,Yt,aD (by omega) (by omega)]
   dsimp only
   unfold n2
   by_cases hon:gf (par l) i
   ·rw[g2.2 hon,YR hon,YQ (by omega)];rfl
   ·have:b=false:=by
     cases b with
     | false=>rfl
     | true=>exact absurd (g2.1 rfl) hon
    rw[this,YQ hon,YR rfl];rfl
  ·intro again
   unfold sO
   dsimp only
   rw[aI (by omega)]
  ·omega
 ·rfl
 ·intro i y again hy
  have hi:=(Xa.1 hy).1
  unfold sN
  dsimp only
  rw[aF (by omega),bK,hy,Yt,sR l _ (by omega),Yt,aD (by omega) (by omega)]
  dsimp only
  rw[Ue]
  by_cases e1:y.2.1=[]
  ·have hn:n1 l y=0:=by unfold n1;rw[YQ (fun h=>h.1 e1)]
   rw[hn,YR rfl,e1];rfl
  ·rw[show (!(y.2.1==[]))=true by cases hp:y.2.1<;>simp_all,YG]
   cases h2:(fJ (fun x:aa=>x.1) y.2.1 l).isSome with
   | true=>
    have hn:n1 l y=0:=by unfold n1;rw[YQ (fun h=>by rw[h2] at h;exact absurd h.2 (by simp))]
    rw[hn,YR rfl];rfl
   | false=>
    have hn:n1 l y=9:=by unfold n1;rw[YR ⟨e1,h2⟩]
    rw[hn,YQ (by omega)];rfl
 ·intro again
  unfold sN
  dsimp only
  rw[aI (by omega)]
 ·omega
noncomputable def jq (a:ai):Int:=
 if dO a.1=false then 5 else if dO a.2.1=false then 5 else if ¬(1<=a.2.2.1/\a.2.2.1<=3652059) then 1
 else if 500<a.2.2.2.length then 2 else if cV (nG a.2.2.2) 0 a.2.2.2≠0 then cV (nG a.2.2.2) 0 a.2.2.2 else yB a.2.2.2
theorem MG {l:List aa} (h:cV (nG l) 0 l=0):Asc (·.1) l:=by
 have step:∀ i x y,l[i]? =some x->l[i+1]? =some y->Op.bytesLess x.1 y.1=true:=fun i x y hx hy=>by
  have:=pe h (i+1) y hy
  rw[Yr] at this
  unfold nG at this
  split at this
  ·omega
  ·split at this
   ·omega
   ·rename_i h2
    have h3:wQ l (i+1) y=false:=by simpa using h2
    simp only[wQ,hx,We,YB] at h3
    rcases Rs x.1 y.1 with h1 | h1 | h1
    ·exact h1
    ·exact absurd h1.symm h3.2
    ·rw[h3.1] at h1;cases h1
 intro i j x y hij hx hy
 induction j generalizing y with
 | zero=>omega
 | succ j ih=>
  rcases Yh.1 hij with h1 | h1
  ·have hj:j<l.length:=by have:=(Xa.1 hy).1;omega
   have hz:l[j]? =some l[j]:=aK hj
   exact uI (ih _ h1 hz) (step j _ y hz hy)
  ·subst h1;exact step i x y hx hy
def Jb (a:ai):Prop:=∀ p∈a.2.2.2,p.1.length<=9223372036854775807
theorem rL (a:ai) (hf:Jb a):cg a=some (jq a,()):=by
 unfold cg jq
 simp only[Cf,NA,Yt]
 cases dO a.1 with
 | false=>rfl
 | true=>
 cases dO a.2.1 with
 | false=>rfl
 | true=>
 simp only[Wd,YF,Bool.true_eq_false,YP]
 by_cases n_c1:¬(1<=a.2.2.1/\a.2.2.1<=3652059)
 ·rw[YI n_c1,YR n_c1];rfl
 have c1:=Decidable.of_not_not n_c1
 rw[YJ c1,YQ (by simpa using c1),Wd,YF]
 by_cases c2:500<a.2.2.2.length
 ·rw[aF (by omega),YR c2]
 rw[aI (by omega),YQ c2]
 obtain⟨a1,a2,a3,l⟩:=a
 dsimp only at*
 rw[eW (f:=gR) (fun i=>(((l.length:Int),(i:Int),a1,a2,a3,l,()):gS)) l (nG l) (a1,a2,a3,l,()) ?_ ?_ ?_ _ ?_]
 ·refine At _ _ _ _ fun z=> ?_
  dsimp only
  rw[CE (a1,a2,a3,l) (by dsimp only;omega) (MG z),Yt]
 ·rfl
 ·intro i y again hy
  have hi:=(Xa.1 hy).1
  unfold gR
  dsimp only
  rw[aF (by omega),Ao l i y hy (by omega) (hf y (XH hy)),Yt,aD (by omega) (by omega)]
  dsimp only
  by_cases hz:nG l i y=0
  ·rw[hz];rfl
  ·rw[show (nG l i y != 0)=true by simpa using hz,YG,YQ hz]
 ·intro again
  unfold gR
  dsimp only
  rw[aI (by omega)]
 ·omega
theorem DT (a:ai) (hf:Jb a):nH a=some (jq a,()):=by
 unfold nH jq
 simp only[DZ,O8,Yt]
 cases dO a.1 with
 | false=>rfl
 | true=>
 cases dO a.2.1 with
 | false=>rfl
 | true=>
 simp only[Wd,YF,Bool.true_eq_false,YP]
 by_cases n_c1:¬(1<=a.2.2.1/\a.2.2.1<=3652059)
 ·rw[YI n_c1,YR n_c1];rfl
 have c1:=Decidable.of_not_not n_c1
 rw[YJ c1,YQ (by simpa using c1),Wd,YF]
 by_cases c2:500<a.2.2.2.length
 ·rw[aF (by omega),YR c2]
 rw[aI (by omega),YQ c2]
 obtain⟨a1,a2,a3,l⟩:=a
 dsimp only at*
 rw[eW (f:=jV) (fun i=>((l,(l.length:Int),(i:Int),a1,a2,a3,l,()):jW)) l (nG l) (a1,a2,a3,l,()) ?_ ?_ ?_ _ ?_]
 ·refine At _ _ _ _ fun z=> ?_
  dsimp only
  rw[N2 l (by omega),Yt]
 ·rfl
 ·intro i y again hy
  have hi:=(Xa.1 hy).1
  unfold jV
  dsimp only
  rw[aF (by omega),bK,hy,Yt,Ko _ (hf y (XH hy)),Yt]
  simp only[Ci,BQ,Yt,Wc]
  have hw:w64 ((i:Int)+1)=((i+1:Nat):Int):=by rw[aD (by omega) (by omega)];omega
  rw[hw]
  unfold nG
  have fin:(bif jH y.2.2.2 != 0 then some (Sum.inl (jH y.2.2.2,())) else again (l,(l.length:Int),((i+1:Nat):Int),a1,a2,a3,l,()))=if jH y.2.2.2=0 then again (l,(l.length:Int),((i+1:Nat):Int),a1,a2,a3,l,()) else some (Sum.inl (jH y.2.2.2,())):=by
   by_cases hz:jH y.2.2.2=0
   ·rw[hz];rfl
   ·rw[show (jH y.2.2.2 != 0)=true by simpa using hz,YG,YQ hz]
  rw[fin]
  cases i with
  | zero=>
   simp only[wQ]
   cases lbl y.1<;>cases qOk y.2.2.1 true<;>simp
  | succ i=>
   have hp:l[i]? =some (l[i]'(by omega)):=aK (by omega)
   have ep:wQ l (i+1) y=(Op.bytesLess y.1 (l[i]'(by omega)).1||y.1==(l[i]'(by omega)).1):=by simp only[wQ,hp]
   have hpos:decide (((i+1:Nat):Int)>0)=true:=by simp
   rw[yD (by omega) (by omega),hp,ep,hpos]
   simp only[Yt,YG]
   generalize (Op.bytesLess y.1 (l[i]'(by omega)).1||y.1==(l[i]'(by omega)).1)=p
   cases lbl y.1<;>cases qOk y.2.2.1 true<;>cases p<;>simp
 ·intro again
  unfold jV
  dsimp only
  rw[aI (by omega)]
 ·omega
end Go.Md
namespace Go.Md
open Go.Dn
def FitP (n:Nat) (a:ai):Prop:=a.2.2.2.length<=n/\∀ p∈a.2.2.2,p.1.length<=1000000/\p.2.2.2.length<=n
theorem eq_content_self (l:List ay) (hl:l.length<=1000000):fO l l=some (true,()):=by
 unfold fO
 rw[show ((l.length:Int) != (l.length:Int))=false by simp,YF]
 have:∀ n,l.length<n->iter (X:=dy) (β:=eA) n (l,l,(l.length:Int),0,()) ez=some (Sum.inr ()):=by
  intro n hn
  refine b8 (Inv:=fun i X=>X=((l,l,(l.length:Int),(i:Int),()):dy)) l.length (fun z=>z=some (Sum.inr ())) ?_ ?_ n 0 _ rfl (Ys _) (by omega)
  ·rintro i X again hi rfl hag
   unfold ez
   dsimp only
   obtain⟨y,hy⟩:∃ y,l[i]? =some y:=⟨l[i],WZ hi⟩
   rw[YJ (show (i:Int)<(l.length:Int) by omega),YG,Px hy,Yt,Yt,aD (n:=(i:Int)+1) (by omega) (by omega)]
   simp only[YD,V1,Wd,YF]
   exact hag _ rfl
  ·rintro X again rfl
   unfold ez
   dsimp only
   rw[YI (show ¬(l.length:Int)<(l.length:Int) by omega),YF]
 rw[this _ (by omega)]
 rfl
theorem same_parcels_self (l:List aa) (hl:l.length<=1000000) (hc:∀ p∈l,p.2.2.2.length<=1000000):nI l l=some (true,()):=by
 unfold nI
 rw[show ((l.length:Int) != (l.length:Int))=false by simp,YF]
 have:∀ n,l.length<n->iter (X:=gM) (β:=jY) n (l,l,(l.length:Int),0,()) jX=some (Sum.inr ()):=by
  intro n hn
  refine b8 (Inv:=fun i X=>X=((l,l,(l.length:Int),(i:Int),()):gM)) l.length (fun z=>z=some (Sum.inr ())) ?_ ?_ n 0 _ rfl (Ys _) (by omega)
  ·rintro i X again hi rfl hag
   unfold jX
   dsimp only
   obtain⟨y,hy⟩:∃ y,l[i]? =some y:=⟨l[i],WZ hi⟩
   rw[YJ (show (i:Int)<(l.length:Int) by omega),YG,Px hy,Yt,Yt,aD (n:=(i:Int)+1) (by omega) (by omega),eq_content_self _ (hc y (XH hy))]
   simp only[YD,V1,Wd,YF,Yt]
   exact hag _ rfl
  ·rintro X again rfl
   unfold jX
   dsimp only
   rw[YI (show ¬(l.length:Int)<(l.length:Int) by omega),YF]
 rw[this _ (by omega)]
 rfl
theorem same_self (a:ai) (n:Nat) (hn:n<=1000000) (h:FitP n a):BO a a=some (true,()):=by
 unfold BO
 simp only[YD,YG]
 rw[same_parcels_self _ (by have:=h.1;omega) (fun p hp=>by have:=(h.2 p hp).2;omega)]
 rfl
theorem awake10:DD=some (true,()):=by kernel_rfl
end Go.Md
