/-
  Plain facts, a part. No condition.
-/
import Derived.Test.YtakjkcibbeeekaaGreatDoorYj
import Derived.Test.YtakjkcibbeeekaaGreatDoorYi
import Derived.Test.YtakjkcibbeeekaaGreatDoorYh
set_option linter.all false
namespace Go.Md
open Go.Dn
theorem Uk (l:List ak) (t:Bys) (hl:l.length<1000000000) (hs:Asc (·.1) l): ∃ i:Nat,dZ l t ()=some ((i:Int),(gK (·.1) t l).isSome,())/\∀ k,gK (·.1) t l=some k->i=k:=by
 unfold dZ
 have loop:∀ f,l.length<f->∃ i:Nat,iter f ((l,t,(),(l.length:Int),(0:Int),(l.length:Int),()):cK) gj=some (Sum.inr (l,t,(),(l.length:Int),(i:Int),()))/\i<=l.length/\(∀ k x,l[k]? =some x->k<i->Op.bytesLess x.1 t=true)/\∀ k x,l[k]? =some x->i<=k->Op.bytesLess x.1 t=false:=by
  intro f hf
  refine ze (Inv:=fun X=>∃ i j:Nat,X=((l,t,(),(l.length:Int),(i:Int),(j:Int),()):cK)/\i<=j/\j<=l.length/\(∀ k x,l[k]? =some x->k<i->Op.bytesLess x.1 t=true)/\∀ k x,l[k]? =some x->j<=k->Op.bytesLess x.1 t=false)
   (fun X=>(X.2.2.2.2.2.1 - X.2.2.2.2.1).toNat)
   (fun _ r=>∃ i:Nat,r=some (Sum.inr (l,t,(),(l.length:Int),(i:Int),()))/\i<=l.length/\(∀ k x,l[k]? =some x->k<i->Op.bytesLess x.1 t=true)/\∀ k x,l[k]? =some x->i<=k->Op.bytesLess x.1 t=false) ?_ f _ ⟨0,l.length,rfl,by omega,by omega,fun _ _ _ h=>absurd h (ajs _),fun k x hk hle=>by have:=(aia.1 hk).1;omega⟩ (by dsimp only;omega)
  rintro _ again ⟨i,j,rfl,hij,hj,h1,h2⟩ ih
  dsimp only at ih
  unfold gj
  dsimp only
  by_cases hlt:i<j
  ·rw[aB (by omega)]
   have em:w64 (Int.fdiv (cg (w64 ((i:Int)+(j:Int)))) (2 ^ 1))=(((i+j) / 2:Nat):Int):=by
    rw[ax (n:=(i:Int)+(j:Int)) (by omega) (by omega),dW (by omega) (by omega),ahl _ (by omega),ax (by omega) (by omega)]
    omega
   rw[em]
   have hm:(i+j) / 2<l.length:=by omega
   have hy:l[(i+j) / 2]? =some l[(i+j) / 2]:=aJ hm
   have hmi:i<=(i+j) / 2/\(i+j) / 2<j:=by omega
   generalize (i+j) / 2=m at*
   generalize l[m]=y at hy
   rw[bq,hy,ajA]
   show ∃ i,Option.bind (Option.bind (some (Lib.compareBytes y.1 t,())) fun r1=>some (r1.1,())) _=_/\_
   rw[ajA,ajA]
   dsimp only
   by_cases hc:Lib.compareBytes y.1 t<0
   ·rw[aB hc,ax (by omega) (by omega)]
    refine ih _ ⟨m+1,j,rfl,by omega,hj,fun k x hk hkm=> ?_,h2⟩ (by dsimp only;omega)
    rcases ajk.1 hkm with h | h
    ·have:=hs k m x y h hk hy
     exact jC this (pe.1 hc)
    ·subst h;rw[hy] at hk;cases hk;exact pe.1 hc
   ·rw[az hc]
    refine ih _ ⟨i,m,rfl,by omega,by omega,h1,fun k x hk hkm=> ?_⟩ (by dsimp only;omega)
    have hc':Op.bytesLess y.1 t=false:=by
     cases h:Op.bytesLess y.1 t with
     | false=>rfl
     | true=>exact absurd (pe.2 h) hc
    rcases aji hkm with h | h
    ·cases hx:Op.bytesLess x.1 t with
     | false=>rfl
     | true=>rw[jC (hs m k y x h hy hk) hx] at hc';cases hc'
    ·subst h;rw[hy] at hk;cases hk;exact hc'
  ·rw[az (by omega)]
   have:i=j:=by omega
   subst this
   exact⟨i,rfl,hj,h1,h2⟩
 obtain⟨i,h1,h2,h3,h4⟩:=loop (List.length l+(List.length t+(Int.natAbs ((List.length l:Int))+(Int.natAbs (0:Int)+(Int.natAbs ((List.length l:Int))+2))))) (by omega)
 refine⟨i, ?_,fun k hk=> ?_⟩
 ·rw[h1,aS]
  dsimp only
  by_cases hi:i<l.length
  ·have hy:l[i]? =some l[i]:=aJ hi
   generalize l[i]=y at hy
   rw[aB (by omega),bq,hy,ajA]
   show Option.bind (Option.bind (some (Lib.compareBytes y.1 t,())) fun r1=>some (r1.1,())) _=_
   rw[ajA,ajA]
   congr 3
   by_cases he:y.1=t
   ·rw[U3 hs hy he,sN.2 he];rfl
   ·have hne:¬ Lib.compareBytes y.1 t=0:=fun h=>he (sN.1 h)
    rw[show (Lib.compareBytes y.1 t==0)=false by simpa using hne]
    cases hx:gK (·.1) t l with
    | none=>rfl
    | some k=>
     exfalso
     obtain⟨x,k1,k2⟩:=nc hx
     rcases ajm k i with h | h | h
     ·have:=h3 k x k1 h;rw[k2,dA] at this;cases this
     ·subst h;rw[hy] at k1;cases k1;exact he k2
     ·have:=hs i k y x h hy k1
      dsimp only at this
      rw[k2,h4 i y hy (ajc _)] at this;cases this
  ·rw[az (by omega)]
   congr 3
   cases hx:gK (·.1) t l with
   | none=>rfl
   | some k=>
    exfalso
    obtain⟨x,k1,k2⟩:=nc hx
    have:=h3 k x k1 (by have:=(aia.1 k1).1;omega)
    rw[k2,dA] at this;cases this
 ·obtain⟨x,k1,k2⟩:=nc hk
  rcases ajm k i with h | h | h
  ·have:=h3 k x k1 h;rw[k2,dA] at this;cases this
  ·exact h.symm
  ·have hy:l[i]? =some (l[i]'(by have:=(aia.1 k1).1;omega)):=aJ _
   have:=hs i k _ x h hy k1
   dsimp only at this
   rw[k2,h4 i _ hy (ajc _)] at this;cases this
theorem zw (a:bC) (t:Bys) (hl:a.2.2.2.length<1000000000) (hs:Asc (·.1) a.2.2.2): ∃ i:Nat,oU a t=some ((i:Int),(gK (·.1) t a.2.2.2).isSome,())/\∀ k,gK (·.1) t a.2.2.2=some k->i=k:=by
 obtain⟨i,h1,h2⟩:=Uk a.2.2.2 t hl hs
 exact⟨i,by unfold oU;rw[h1,ajA],h2⟩
def Xz (a b:aF):Int:=fk (fun _ y=>y) 0 [Lib.compareBytes a.1 b.1,Lib.compareBytes a.2.1 b.2.1,Lib.compareBytes a.2.2.1 b.2.2.1]
theorem abU (l:List Int) (hl:l.length<1000):Gk l=some (fk (fun _ y=>y) 0 l,()):=by
 unfold Gk
 rw[kT (f:=Bu) (fun i=>(((0:Int),l,(l.length:Int),(i:Int),()):Bv)) l (fun _ y=>y) (0,()) ?_ ?_ ?_ _ ?_]
 ·exact (ac4 _ _ _ 0 rfl).trans (by
   by_cases h:fk (fun _ y=>y) 0 l=0
   ·rw[ajY (by simpa using h),h]
   ·rw[ajZ h])
 ·rfl
 ·intro i y again hy
  have hi:=(aia.1 hy).1
  unfold Bu
  dsimp only
  rw[aB (by omega),bq,hy,ajA,ax (by omega) (by omega)]
  by_cases h:y=0
  ·subst h;rfl
  ·rw[show (y != 0)=true by simpa using h,ajO,ajY h]
 ·intro again
  unfold Bu
  dsimp only
  rw[az (by omega)]
 ·omega
theorem Gy (a b:aF):gh a b=some (Xz a b,()):=by
 unfold gh strings_Compare Xz
 simp only[ajA]
 rw[abU _ (by simp),ajA]
def TK (l:List aF) (i:Nat) (y:aF):Bool:=match i with
 | 0=>false
 | i+1=>match l[i]? with
  | some p=>decide (Xz p y>=0)
  | none=>false
def Pg (l:List aF) (i:Nat) (c:aF):Int:=
 if bF c.1=false then 5 else if bF c.2.1=false then 5 else if (!(c.2.2.1==[])&& !bF c.2.2.1)=true then 5
 else if TK l i c=true then 8 else if qOk c.2.2.2 false=true then 0 else 1
def CT (l:List aF):Int:=if 100<l.length then 2 else fk (Pg l) 0 l
theorem IF {α:Type} {l:List α} {i:Nat} (hi:i<l.length) (hl:l.length<1000000000):idx l (w64 (((i+1:Nat):Int) - 1))=l[i]? :=by
 rw[ax (by omega) (by omega),show ((i+1:Nat):Int) - 1=((i:Nat):Int) by omega,bq]
theorem Ax (l:List aF):jJ l=some (CT l,()):=by
 unfold jJ CT
 by_cases hb:100<l.length
 ·rw[aB (by omega),ajZ hb]
 ·rw[az (by omega),ajY hb]
  rw[kT (f:=nt) (fun i=>((l,l,(l.length:Int),(i:Int),()):nu)) l (Pg l) () ?_ ?_ ?_ _ ?_]
  ·exact Mh _ _
  ·rfl
  ·intro i y again hy
   have hi:=(aia.1 hy).1
   unfold nt
   dsimp only
   rw[aB (by omega),bq,hy,ajA]
   simp only[gH,ajA,kN,Gy]
   have hw:w64 ((i:Int)+1)=((i+1:Nat):Int):=by rw[ax (by omega) (by omega)];omega
   rw[hw]
   unfold Pg
   generalize qOk y.2.2.2 false=q
   cases i with
   | zero=>
    simp only[TK]
    cases bF y.1<;>cases bF y.2.1<;>cases (y.2.2.1==[])<;>cases bF y.2.2.1<;>cases q<;>simp
   | succ i=>
    have hp:l[i]? =some (l[i]'(by omega)):=aJ (by omega)
    have ep:TK l (i+1) y=decide (Xz (l[i]'(by omega)) y>=0):=by simp only[TK,hp]
    have hpos:decide (((i+1:Nat):Int)>0)=true:=by simp
    rw[IF (by omega) (by omega),hp,ep,hpos]
    simp only[ajA,ajO]
    generalize decide (Xz (l[i]'(by omega)) y>=0)=p
    cases bF y.1<;>cases bF y.2.1<;>cases (y.2.2.1==[])<;>cases bF y.2.2.1<;>cases q<;>cases p<;>simp
  ·intro again
   unfold nt
   dsimp only
   rw[az (by omega)]
  ·omega
def Ma (l:List ak) (i:Nat) (y:ak):Bool:=match i with
 | 0=>false
 | i+1=>match l[i]? with
  | some p=>Op.bytesLess y.1 p.1||y.1==p.1
  | none=>false
def rF (l:List ak) (i:Nat) (p:ak):Int:=
 if lbl p.1=false then 3 else if Ma l i p=true then 8 else if qOk p.2.2.1 true=false then 1 else CT p.2.2.2
theorem Ku (l:List ak) (i:Nat) (y:ak) (hy:l[i]? =some y) (hl:l.length<1000000000) (hs:y.1.length<=9223372036854775807):tN l (i:Int)=some (rF l i y,()):=by
 have hi:=(aia.1 hy).1
 unfold tN rF
 rw[bq,hy,ajA,AL _ hs]
 simp only[ajA,kN,Ax]
 cases i with
 | zero=>
  simp only[Ma]
  cases lbl y.1<;>cases qOk y.2.2.1 true<;>simp
 | succ i=>
  have hp:l[i]? =some (l[i]'(by omega)):=aJ (by omega)
  have ep:Ma l (i+1) y=(Op.bytesLess y.1 (l[i]'(by omega)).1||y.1==(l[i]'(by omega)).1):=by simp only[Ma,hp]
  have hpos:decide (((i+1:Nat):Int)>0)=true:=by simp
  rw[IF (by omega) hl,hp,ep,hpos]
  simp only[ajA,ajO]
  generalize (Op.bytesLess y.1 (l[i]'(by omega)).1||y.1==(l[i]'(by omega)).1)=p
  cases lbl y.1<;>cases qOk y.2.2.1 true<;>cases p<;>simp
end Go.Md
namespace Go.Md
open Go.Dn
def par (l:List ak) (k:Nat):Option Nat:=match l[k]? with
 | some p=>if p.2.1=[] then none else gK (·.1) p.2.1 l
 | none=>none
theorem TH {l:List ak} {k k':Nat} (h:par l k=some k'):k'<l.length:=by
 unfold par at h
 split at h
 ·split at h
  ·cases h
  ·obtain⟨x,hx,_⟩:=nc h
   exact (aia.1 hx).1
 ·cases h
def W6 (l:List ak):Prop:=∀ p∈l,p.2.1=[]\/(gK (·.1) p.2.1 l).isSome=true
theorem aag {l:List ak} {k:Nat} {p:ak} (h1:W6 l) (hp:l[k]? =some p):(p.2.1=[]/\par l k=none)\/(p.2.1≠[]/\∃ k',par l k=some k'/\gK (·.1) p.2.1 l=some k'):=by
 unfold par
 rw[hp]
 dsimp only
 by_cases h:p.2.1=[]
 ·exact .inl ⟨h,by rw[ajZ h]⟩
 ·right
  rw[ajY h]
  rcases h1 p (aiF hp) with h2 | h2
  ·exact absurd h2 h
  ·obtain⟨k',hk'⟩:=ajE.1 h2
   exact⟨h,k',hk',hk'⟩
def CL (l:List ak):Prop:=∀ k,k<l.length->¬ w6 (par l) k
def uX (l:List ak) (i:Nat):List Nat:=anc (par l) l.length i
theorem Xn {l:List ak} (h:CL l) {i:Nat} (hi:i<l.length):(uX l i).length<l.length:=aeG (fun _ _=>TH) h hi
theorem Nk {l:List ak} (h:CL l) {i k:Nat} (hi:i<l.length) (hp:par l i=some k):uX l i=k::uX l k:=by
 have h1:=Xn h hi
 unfold uX at*
 rw[<- VD h1 (show l.length<=l.length+1 by omega),D6 hp]
theorem VC {l:List ak} {i:Nat} (hp:par l i=none):uX l i=[]:=QV hp _
theorem aeF {l:List ak} {i x:Nat} (h:x∈uX l i):x<l.length:=Xo (fun _ _=>TH) h
theorem aaD {l:List ak} (h:CL l) {i:Nat} (hi:i<l.length):(i::uX l i).Nodup:=Nl (fun _ _=>TH) h hi
def cI (l:List Nat):List Int:=l.map (fun n:Nat=>(n:Int))
theorem abK {l:List Nat} {x:Nat}:(x:Int)∈cI l↔x∈l:=by
 unfold cI
 rw[aiE]
 constructor
 ·rintro⟨a,h1,h2⟩;have:a=x:=by omega
  exact this ▸ h1
 ·intro h;exact⟨x,h,rfl⟩
theorem NA (l:List Nat):(cI l).length=l.length:=by simp[cI]
theorem RO (a:bC) (hl:a.2.2.2.length<=500) (hs:Asc (·.1) a.2.2.2) (h1:W6 a.2.2.2) (i:Nat) (hi:i<a.2.2.2.length): ∃ (out:List Nat) (ok:Bool),xy a (i:Int)=some (cI out,ok,())/\(ok=false↔w6 (par a.2.2.2) i)/\(CL a.2.2.2->out=uX a.2.2.2 i):=by
 unfold xy
 have hat:=fun t=>zw a t (by omega) hs
 obtain⟨a1,a2,a3,l⟩:=a
 dsimp only at*
 have loop:∀ f,l.length+1<f->∃ (out:List Nat) (ok:Bool),(iter f (((i:Int),([]:List Int),(i:Int),a1,a2,a3,l,()):nQ) wD=(if ok=true then (some (Sum.inr (cI out,())):Option lD) else some (Sum.inl (cI out,false,())))\/(ok=true/\iter f (((i:Int),([]:List Int),(i:Int),a1,a2,a3,l,()):nQ) wD=(some (Sum.inl (cI out,true,())):Option lD)))/\(ok=false↔w6 (par l) i)/\(CL l->out=uX l i):=by
  intro f hf
  refine ze (Inv:=fun X=>∃ (out:List Nat) (k:Nat),X=(((i:Int),cI out,(k:Int),a1,a2,a3,l,()):nQ)/\k<l.length/\out.Nodup/\(∀ x∈out,x<l.length)/\(∃ j,itp (par l) j i=some k)/\(w6 (par l) i->∃ d,DY (par l) i k d/\∀ x∈out,∃ e,d<=e/\DY (par l) i x e)/\(CL l->out++uX l k=uX l i))
   (fun X=>l.length+1 - X.2.1.length)
   (fun _ r=>∃ (out:List Nat) (ok:Bool),(r=(if ok=true then (some (Sum.inr (cI out,())):Option lD) else some (Sum.inl (cI out,false,())))\/(ok=true/\r=(some (Sum.inl (cI out,true,())):Option lD)))/\(ok=false↔w6 (par l) i)/\(CL l->out=uX l i)) ?_ f _
   ⟨[],i,rfl,hi,by simp,by simp,⟨0,rfl⟩,fun hon=>by obtain⟨d,hd⟩:=hon.agF;exact⟨d,hd,by simp⟩,fun _=>by simp⟩ (by dsimp only;simp;omega)
  rintro _ again ⟨out,k,rfl,hk,hnd,hlt,⟨j,hj⟩,hon,hno⟩ ih
  dsimp only at ih
  have hlen:=IC l.length out hnd hlt
  unfold wD
  dsimp only
  have hy:l[k]? =some l[k]:=aJ hk
  generalize l[k]=p at hy
  rw[bq,hy,ajA,ajA]
  rcases aag h1 hy with ⟨g1,g2⟩ | ⟨g1,k',g2,g3⟩
  ·rw[g1]
   refine⟨out,true,.inl rfl, ?_,fun hn=> ?_⟩
   ·constructor
    ·intro h;cases h
    ·intro h
     obtain⟨d,hd,_⟩:=hon h
     obtain⟨k',e,_⟩:=hd.step
     rw[g2] at e;cases e
   ·have:=hno hn
    rw[VC g2,ahM] at this
    exact this
  ·have hk':=TH g2
   rw[show (!(p.2.1==[]))=true by cases hp:p.2.1<;>simp_all,ajO]
   obtain⟨q,hq1,hq2⟩:=hat p.2.1
   have:q=k':=hq2 k' g3
   subst this
   rw[hq1,ajA]
   dsimp only
   by_cases e1:q=i
   ·subst e1
    rw[show ((q:Int)==(q:Int))=true by simp,ajO]
    have hloop:w6 (par l) q:=⟨j,by rw[UZ (b:=1) hj];simp[itp,g2]⟩
    exact⟨[],false,.inl rfl,⟨fun _=>hloop,fun _=>rfl⟩,fun hn=>absurd hloop (hn q hi)⟩
   ·rw[show ((q:Int)==(i:Int))=false by rw[ajK];omega,ajN,Bb _ _ (by rw[NA];omega),ajA]
    by_cases e2:q∈out
    ·rw[ajR (abK.2 e2),ajO]
     refine⟨out,true,.inr ⟨rfl,rfl⟩,⟨fun h=>(by cases h),fun h=> ?_⟩,fun hn=> ?_⟩
     ·obtain⟨d,hd,hx⟩:=hon h
      obtain⟨k2,e,h2⟩:=hd.step
      rw[g2] at e;cases e
      rcases h2 with ⟨h2,_⟩ | ⟨_,e,he,h3⟩
      ·exact absurd h2 e1
      ·obtain⟨f',hf',hx'⟩:=hx q e2
       have:=h3.uniq hx'
       omega
     ·exfalso
      have h3:=hno hn
      have h4:=(aiM.1 (aaD hn hi)).2
      rw[<- h3,Nk hn hk g2,List.nodup_append] at h4
      exact h4.2.2 q e2 q (by simp) rfl
    ·rw[ajQ (fun h=>e2 (abK.1 h)),ajN,bg (u7 (by rw[NA];omega) (by rw[NA];omega))]
     refine ih _ ⟨out++[q],q,by simp[cI],hk', ?_, ?_,⟨j+1, ?_⟩,fun h=> ?_,fun hn=> ?_⟩ (by simp[NA];omega)
     ·rw[List.nodup_append]
      exact⟨hnd,by simp,fun x hx y hy=>by simp at hy;subst hy;exact fun e=>e2 (e ▸ hx)⟩
     ·intro x hx
      rcases aiy.1 hx with hx | hx
      ·exact hlt x hx
      ·simp at hx;omega
     ·rw[UZ (b:=1) hj];simp[itp,g2]
     ·obtain⟨d,hd,hx⟩:=hon h
      obtain⟨k2,e,h2⟩:=hd.step
      rw[g2] at e;cases e
      rcases h2 with ⟨h2,_⟩ | ⟨_,e,he,h3⟩
      ·exact absurd h2 e1
      ·refine⟨e,h3,fun x hx2=> ?_⟩
       rcases aiy.1 hx2 with hx2 | hx2
       ·obtain⟨f',hf',hx'⟩:=hx x hx2;exact⟨f',by omega,hx'⟩
       ·simp at hx2;subst hx2;exact⟨e,ajc _,h3⟩
     ·rw[<- hno hn,Nk hn hk g2,ahL];rfl
 obtain⟨out,ok,h2,h3,h4⟩:=loop (Int.natAbs (i:Int)+(List.length ([]:List Int)+(Int.natAbs (i:Int)+(List.length a1+(List.length a2+(Int.natAbs a3+(List.length l+2))))))) (by omega)
 refine⟨out,ok, ?_,h3,h4⟩
 rcases h2 with h2 | ⟨h5,h2⟩
 ·rw[h2]
  cases ok<;>rfl
 ·rw[h2,h5];rfl
end Go.Md
namespace Go.Md
open Go.Dn
def n1 (l:List ak) (p:ak):Int:=if p.2.1≠[]/\(gK (·.1) p.2.1 l).isSome=false then 9 else 0
open Classical in
noncomputable def n2 (l:List ak) (i:Nat):Int:=if w6 (par l) i then 17 else 0
def n3 (l:List ak) (i:Nat):Int:=if 5<(uX l i).length then 2 else 0
def Tt (l:List ak):Int:=fk (fun _ p=>n1 l p) 0 l
noncomputable def Tu (l:List ak):Int:=fk (fun i _=>n2 l i) 0 l
def acH (l:List ak):Int:=fk (fun i _=>n3 l i) 0 l
noncomputable def Tv (l:List ak):Int:=if Tt l≠0 then Tt l else if Tu l≠0 then Tu l else acH l
theorem QG {l:List ak} (h:Tt l=0):W6 l:=by
 intro p hp
 obtain⟨i,hi⟩:=aiD.1 hp
 have:=iN h i p hi
 unfold n1 at this
 by_cases h1:p.2.1=[]
 ·exact .inl h1
 ·cases h2:(gK (fun x:ak=>x.1) p.2.1 l).isSome with
  | true=>exact .inr rfl
  | false=>rw[ajZ ⟨h1,h2⟩] at this;omega
theorem QH {l:List ak} (h:Tu l=0):CL l:=by
 intro k hk hon
 have:=iN h k l[k] (aJ hk)
 unfold n2 at this
 rw[ajx,ajZ hon] at this
 omega
theorem YM {γ:Type} (s:Int) (u:γ) (k:γ->Option (Int×Unit)) (z:Int) (hk:s=0->k u=some (z,())):aG (β:=Int×Unit) (γ:=γ) (if s=0 then some (Sum.inr u) else some (Sum.inl (s,()))) k=some (if s≠0 then s else z,()):=by
 by_cases h:s=0
 ·rw[ajZ h,aS,hk h,ajY (by simpa using h)]
 ·rw[ajY h,lI,ajZ h]
theorem af9 {γ:Type} (s:Int) (u:γ):aG (β:=Int×Unit) (γ:=γ) (if s=0 then some (Sum.inr u) else some (Sum.inl (s,()))) (fun _=>some (0,()))=some (s,()):=Mh s u
theorem Nc (a:bC) (hl:a.2.2.2.length<=500) (hs:Asc (·.1) a.2.2.2):wI a=some (Tv a.2.2.2,()):=by
 unfold wI Tv
 have hat:=fun t=>zw a t (by omega) hs
 have har:=fun h1 i hi=>RO a hl hs h1 i hi
 obtain⟨a1,a2,a3,l⟩:=a
 dsimp only at*
 rw[kT (f:=rL) (fun i=>((l,(l.length:Int),(i:Int),a1,a2,a3,l,()):rN)) l (fun _ p=>n1 l p) (a1,a2,a3,l,()) ?_ ?_ ?_ _ ?_]
 ·refine YM _ _ _ _ fun z1=> ?_
  have h1:=QG z1
  dsimp only
  rw[kT (f:=rM) (fun i=>(((l.length:Int),(i:Int),a1,a2,a3,l,()):rO)) l (fun i _=>n2 l i) (a1,a2,a3,l,()) ?_ ?_ ?_ _ ?_]
  ·refine YM _ _ _ _ fun z2=> ?_
   have h2:=QH z2
   dsimp only
   rw[kT (f:=qj) (fun i=>(((l.length:Int),(i:Int),a1,a2,a3,l,()):qm)) l (fun i _=>n3 l i) () ?_ ?_ ?_ _ ?_]
   ·exact af9 _ _
   ·rfl
   ·intro i y again hy
    have hi:=(aia.1 hy).1
    unfold qj
    dsimp only
    obtain⟨out,ok,g1,g2,g3⟩:=har h1 i hi
    rw[aB (by omega),g1,ajA,ax (by omega) (by omega)]
    dsimp only
    rw[g3 h2,NA]
    unfold n3
    by_cases h5:5<(uX l i).length
    ·rw[aB (by omega),ajZ h5,ajY (by omega)]
    ·rw[az (by omega),ajY h5,ajZ rfl];rfl
   ·intro again
    unfold qj
    dsimp only
    rw[az (by omega)]
   ·omega
  ·rfl
  ·intro i y again hy
   have hi:=(aia.1 hy).1
   unfold rM
   dsimp only
   obtain⟨out,ok,g1,g2,g3⟩:=har h1 i hi
   rw[aB (by omega),g1,ajA,ax (by omega) (by omega)]
   dsimp only
   unfold n2
   by_cases hon:w6 (par l) i
   ·rw[g2.2 hon,ajZ hon,ajY (by omega)];rfl
   ·have:ok=true:=by
     cases ok with
     | true=>rfl
     | false=>exact absurd (g2.1 rfl) hon
    rw[this,ajY hon,ajZ rfl];rfl
  ·intro again
   unfold rM
   dsimp only
   rw[az (by omega)]
  ·omega
 ·rfl
 ·intro i y again hy
  have hi:=(aia.1 hy).1
  unfold rL
  dsimp only
  obtain⟨q,hq1,hq2⟩:=hat y.2.1
  rw[aB (by omega),bq,hy,ajA,hq1,ajA,ax (by omega) (by omega)]
  dsimp only
  by_cases e1:y.2.1=[]
  ·have hn:n1 l y=0:=by unfold n1;rw[ajY (fun h=>h.1 e1)]
   rw[hn,ajZ rfl,e1];rfl
  ·rw[show (!(y.2.1==[]))=true by cases hp:y.2.1<;>simp_all,ajO]
   cases h2:(gK (fun x:ak=>x.1) y.2.1 l).isSome with
   | true=>
    have hn:n1 l y=0:=by unfold n1;rw[ajY (fun h=>by rw[h2] at h;exact absurd h.2 (by simp))]
    rw[hn,ajZ rfl];rfl
   | false=>
    have hn:n1 l y=9:=by unfold n1;rw[ajZ ⟨e1,h2⟩]
    rw[hn,ajY (by omega)];rfl
 ·intro again
  unfold rL
  dsimp only
  rw[az (by omega)]
 ·omega
noncomputable def rZ (a:bC):Int:=
 if bF a.1=false then 5 else if bF a.2.1=false then 5 else if ¬(1<=a.2.2.1/\a.2.2.1<=3652059) then 1
 else if 500<a.2.2.2.length then 2 else if fk (rF a.2.2.2) 0 a.2.2.2≠0 then fk (rF a.2.2.2) 0 a.2.2.2 else Tv a.2.2.2
theorem Nu {l:List ak} (h:fk (rF l) 0 l=0):Asc (·.1) l:=by
 have step:∀ i x y,l[i]? =some x->l[i+1]? =some y->Op.bytesLess x.1 y.1=true:=fun i x y hx hy=>by
  have:=iN h (i+1) y hy
  rw[ajx] at this
  unfold rF at this
  split at this
  ·omega
  ·split at this
   ·omega
   ·rename_i h2
    have h3:Ma l (i+1) y=false:=by simpa using h2
    simp only[Ma,hx,ahe,ajK] at h3
    rcases Is x.1 y.1 with h1 | h1 | h1
    ·exact h1
    ·exact absurd h1.symm h3.2
    ·rw[h3.1] at h1;cases h1
 intro i j x y hij hx hy
 induction j generalizing y with
 | zero=>omega
 | succ j ih=>
  rcases ajk.1 hij with h1 | h1
  ·have hj:j<l.length:=by have:=(aia.1 hy).1;omega
   have hz:l[j]? =some l[j]:=aJ hj
   exact jC (ih _ h1 hz) (step j _ y hz hy)
  ·subst h1;exact step i x y hx hy
def Xi (a:bC):Prop:=∀ p∈a.2.2.2,p.1.length<=9223372036854775807
theorem Cp (a:bC) (hf:Xi a):oo a=some (rZ a,()):=by
 unfold oo rZ
 simp only[gH,qO,ajA]
 cases bF a.1 with
 | false=>rfl
 | true=>
 cases bF a.2.1 with
 | false=>rfl
 | true=>
 simp only[ahd,ajN,ahi,ajX]
 by_cases n_c1:¬(1<=a.2.2.1/\a.2.2.1<=3652059)
 ·rw[ajQ n_c1,ajZ n_c1];rfl
 have c1:=ahk n_c1
 rw[ajR c1,ajY (by simpa using c1),ahd,ajN]
 by_cases c2:500<a.2.2.2.length
 ·rw[aB (by omega),ajZ c2]
 rw[az (by omega),ajY c2]
 obtain⟨a1,a2,a3,l⟩:=a
 dsimp only at*
 rw[kT (f:=oO) (fun i=>(((l.length:Int),(i:Int),a1,a2,a3,l,()):oP)) l (rF l) (a1,a2,a3,l,()) ?_ ?_ ?_ _ ?_]
 ·refine YM _ _ _ _ fun z=> ?_
  dsimp only
  rw[Nc (a1,a2,a3,l) (by dsimp only;omega) (Nu z),ajA]
 ·rfl
 ·intro i y again hy
  have hi:=(aia.1 hy).1
  unfold oO
  dsimp only
  rw[aB (by omega),Ku l i y hy (by omega) (hf y (aiF hy)),ajA,ax (by omega) (by omega)]
  dsimp only
  by_cases hz:rF l i y=0
  ·rw[hz];rfl
  ·rw[show (rF l i y != 0)=true by simpa using hz,ajO,ajY hz]
 ·intro again
  unfold oO
  dsimp only
  rw[az (by omega)]
 ·omega
end Go.Md
namespace Go.Md
open Go.Dn
structure R3 (a:bC):Prop where
 len:a.2.2.2.length<=500
 asc:Asc (·.1) a.2.2.2
 n1:W6 a.2.2.2
 nl:CL a.2.2.2
theorem Im {a:bC} (h:rZ a=0):R3 a:=by
 unfold rZ at h
 split at h
 ·omega
 split at h
 ·omega
 split at h
 ·omega
 split at h
 ·omega
 split at h
 ·omega
 rename_i h1 h2
 have h3:fk (rF a.2.2.2) 0 a.2.2.2=0:=by omega
 unfold Tv at h
 split at h
 ·omega
 rename_i h4
 split at h
 ·omega
 rename_i h5
 exact⟨by omega,Nu h3,QG (by omega),QH (by omega)⟩
end Go.Md
namespace Go.Md
open Go.Dn
structure Xj (pl:Int) (rates:List aZ) (x:aI):Prop where
 q:cm x.2.2.2.1
 qp:x.2.2.2.1.2<=3
 qn:x.2.2.2.1.1≠0
 p:cm x.2.2.2.2.2.1
 pp:x.2.2.2.2.2.1.2<=4
 p0:0<=x.2.2.2.2.2.1.1
 per:1<=x.2.2.2.2.2.2.1/\x.2.2.2.2.2.2.1<=100000
 ext:yt pl rates true x.2.2.2.2.2.2.2.1=0
 rate:(gK (·.1) x.2.2.2.2.2.2.2.2 rates).isSome=true
theorem aa1 {pl:Int} {rates:List aZ} {lines:List aI} {i:Nat} {x:aI} (h:Gt pl rates lines i x=0):Xj pl rates x:=by
 unfold Gt at h
 split at h
 ·omega
 split at h
 ·omega
 split at h
 ·omega
 split at h
 ·omega
 split at h
 ·omega
 rename_i h1
 split at h
 ·omega
 rename_i h2
 split at h
 ·omega
 split at h
 ·omega
 rename_i h3
 split at h
 ·omega
 rename_i h4
 split at h
 ·omega
 rename_i h5
 split at h
 ·rename_i h6
  have h1':inR x.2.2.2.1 (-1000000000) 1000000000 3=true:=by simpa using h1
  have h3':inR x.2.2.2.2.2.1 0 1000000000 4=true:=by simpa using h3
  unfold inR at h1' h3'
  rw[ajS] at h1' h3'
  exact⟨h1'.1,h1'.2.1,h2,h3'.1,h3'.2.1,by have:=h3'.2.2.1;rw[ahD] at this;exact this,by omega,by omega,h6⟩
 ·omega
structure agh (v:an):Prop where
 pl:0<=v.2.2.2.1/\v.2.2.2.1<=4
 way:1<=v.2.2.2.2.1/\v.2.2.2.2.1<=6
 rn:0<v.2.2.2.2.2.2.1.length/\v.2.2.2.2.2.2.1.length<=20
 asc:Asc (·.1) v.2.2.2.2.2.2.1
 rates:∀ r∈v.2.2.2.2.2.2.1,inR r.2 0 100 9=true
 ln:0<v.2.2.2.2.2.2.2.1.length/\v.2.2.2.2.2.2.2.1.length<=500
 lines:∀ x∈v.2.2.2.2.2.2.2.1,Xj v.2.2.2.1 v.2.2.2.2.2.2.1 x
 ext:yt v.2.2.2.1 v.2.2.2.2.2.2.1 false v.2.2.2.2.2.2.2.2=0
theorem Oo {v:an} (h:mA v=0):agh v:=by
 unfold mA at h
 split at h
 ·omega
 split at h
 ·omega
 split at h
 ·omega
 split at h
 ·omega
 split at h
 ·omega
 split at h
 ·omega
 rename_i h1
 split at h
 ·omega
 split at h
 ·omega
 split at h
 ·omega
 rename_i h2
 have hr:=QK (show xA v.2.2.2.2.2.2.1=0 by omega)
 refine⟨by omega,by omega,⟨hr.1,hr.2.1⟩,hr.2.2.1,hr.2.2.2,by omega,fun x hx=> ?_,h⟩
 obtain⟨i,hi⟩:=aiD.1 hx
 have:=iN (show Kp v=0 by omega) i x hi
 exact aa1 this
end Go.Md
namespace Go.Md
open Go.Dn
theorem Le.dec {d:ah} (h:cm d):Le 15 d.1:=by
 have:=h.1
 unfold Le;omega
end Go.Md
namespace Go.Md
open Go.Dn
structure QOk (d:ah):Prop where
 dec:cm d
 pl:d.2<=3
theorem acR {d:ah} {z:Bool} (h:qOk d z=true):QOk d:=by
 unfold qOk at h
 rw[ag1] at h
 have h1:=h.1
 unfold inR at h1
 rw[ajS] at h1
 exact⟨h1.1,h1.2.1⟩
structure agE (p:ak):Prop where
 t:QOk p.2.2.1
 n:p.2.2.2.length<=100
 c:∀ c∈p.2.2.2,QOk c.2.2.2
end Go.Md
namespace Go.Md
open Go.Dn
theorem Qr {l:List aF} (h:CT l=0):l.length<=100/\∀ c∈l,QOk c.2.2.2:=by
 unfold CT at h
 split at h
 ·omega
 rename_i h1
 refine⟨by omega,fun c hc=> ?_⟩
 obtain⟨i,hi⟩:=aiD.1 hc
 have:=iN h i c hi
 unfold Pg at this
 split at this
 ·omega
 split at this
 ·omega
 split at this
 ·omega
 split at this
 ·omega
 split at this
 ·rename_i hq;exact acR hq
 ·omega
theorem afh {a:bC} (h:rZ a=0):∀ p∈a.2.2.2,agE p:=by
 unfold rZ at h
 split at h
 ·omega
 split at h
 ·omega
 split at h
 ·omega
 split at h
 ·omega
 split at h
 ·omega
 have h3:fk (rF a.2.2.2) 0 a.2.2.2=0:=by omega
 intro p hp
 obtain⟨i,hi⟩:=aiD.1 hp
 have:=iN h3 i p hi
 unfold rF at this
 split at this
 ·omega
 split at this
 ·omega
 split at this
 ·omega
 rename_i hq
 have hc:=Qr this
 exact⟨acR (z:=true) (by simpa using hq),hc.1,hc.2⟩
def Ra (l:List ak) (t:Bys) (i:Nat):Bool:=if t=[] then true else match gK (·.1) t l with
 | some T=>decide (T∈i::uX l i)
 | none=>false
end Go.Md
namespace Go.Md
open Go.Dn
def v9 (d:ah):Int:=d.1*10 ^ ((9:Int) - d.2).toNat
theorem CP {d:ah} (h:cm d):ew d=some (W (v9 d),()):=by
 unfold ew
 have h1:=h.1;have h2:=h.2
 rw[we d 9 (by omega) (by omega) (by omega) (by omega) (by omega),ajA]
 rfl
theorem abu {d:ah} (h:cm d):Le 24 (v9 d):=(Le.dec h).mul ((Le.pow (9 - d.2).toNat).mono (show (9 - d.2).toNat<=9 by have:=h.2;omega))
def Ti (y:bw):Int:=if bF y.1=false then 5 else if bF y.2.1=false then 5 else if ¬ cm y.2.2 then 1 else if y.2.2.1<0 then 1 else 0
def HA (l:List bw):Int:=if 100<l.length then 2 else fk (fun _ y=>Ti y) 0 l
theorem L8 (l:List bw):uT l=some (HA l,()):=by
 unfold uT HA
 by_cases hb:100<l.length
 ·rw[aB (by omega),ajZ hb]
 ·rw[az (by omega),ajY hb]
  rw[kT (f:=qd) (fun i=>((l,(l.length:Int),(i:Int),()):qg)) l (fun _ y=>Ti y) () ?_ ?_ ?_ _ ?_]
  ·exact Mh _ _
  ·rfl
  ·intro i y again hy
   have hi:=(aia.1 hy).1
   unfold qd Ti
   dsimp only
   rw[aB (by omega),bq,hy,ajA,ax (by omega) (by omega)]
   simp only[gH,ajA,fK]
   cases bF y.1<;>cases bF y.2.1<;>by_cases hd:cm y.2.2<;>by_cases hn:y.2.2.1<0<;>simp[hd,hn]
  ·intro again
   unfold qd
   dsimp only
   rw[az (by omega)]
  ·omega
theorem Zj {l:List bw} (h:HA l=0):l.length<=100/\∀ y∈l,cm y.2.2/\0<=y.2.2.1:=by
 unfold HA at h
 split at h
 ·omega
 refine⟨by omega,fun y hy=> ?_⟩
 obtain⟨i,hi⟩:=aiD.1 hy
 have:=iN h i y hi
 unfold Ti at this
 split at this
 ·omega
 split at this
 ·omega
 split at this
 ·omega
 split at this
 ·omega
 rename_i h1 h2
 exact⟨ahk h1,by omega⟩
def opn (y:aj):ah:=y.2.2.2.2.2.2.2.2.2
def TL (l:List aj) (i:Nat) (y:aj):Bool:=match i with
 | 0=>false
 | i+1=>match l[i]? with
  | some p=>decide (y.1<=p.1)
  | none=>false
def Oy (l:List aj) (i:Nat) (y:aj):Int:=
 if y.1<1\/99999<y.1 then 1 else if TL l i y=true then 8 else if ¬ cm (opn y) then 1 else if (opn y).1<0 then 1 else 0
def Ef (l:List aj):Int:=if 500<l.length then 2 else fk (Oy l) 0 l
theorem L9 (l:List aj):uU l=some (Ef l,()):=by
 unfold uU Ef
 by_cases hb:500<l.length
 ·rw[aB (by omega),ajZ hb]
 ·rw[az (by omega),ajY hb]
  rw[kT (f:=qh) (fun i=>((l,l,(l.length:Int),(i:Int),()):qi)) l (Oy l) () ?_ ?_ ?_ _ ?_]
  ·exact Mh _ _
  ·rfl
  ·intro i y again hy
   have hi:=(aia.1 hy).1
   unfold qh Oy opn
   dsimp only
   rw[aB (by omega),bq,hy,ajA]
   simp only[cG,ajA,fK]
   have hw:w64 ((i:Int)+1)=((i+1:Nat):Int):=by rw[ax (by omega) (by omega)];omega
   rw[hw]
   by_cases ho:y.1<1\/99999<y.1
   ·simp[ho]
   ·rw[ajQ ho,ajN,ajY ho]
    cases i with
    | zero=>
     simp only[TL]
     by_cases hd:cm y.2.2.2.2.2.2.2.2.2<;>by_cases hn:y.2.2.2.2.2.2.2.2.2.1<0<;>simp[hd,hn]
    | succ i=>
     have hp:l[i]? =some (l[i]'(by omega)):=aJ (by omega)
     have ep:TL l (i+1) y=decide (y.1<=(l[i]'(by omega)).1):=by simp only[TL,hp]
     rw[aB (by omega),IF (by omega) (by omega),hp,ajA,ep]
     by_cases hq:y.1<=(l[i]'(by omega)).1
     ·simp[hq]
     ·by_cases hd:cm y.2.2.2.2.2.2.2.2.2<;>by_cases hn:y.2.2.2.2.2.2.2.2.2.1<0<;>simp[hd,hn,hq]
  ·intro again
   unfold qh
   dsimp only
   rw[az (by omega)]
  ·omega
theorem Yo {l:List aj} (h:Ef l=0):l.length<=500/\∀ y∈l,cm (opn y)/\0<=(opn y).1:=by
 unfold Ef at h
 split at h
 ·omega
 refine⟨by omega,fun y hy=> ?_⟩
 obtain⟨i,hi⟩:=aiD.1 hy
 have:=iN h i y hi
 unfold Oy at this
 split at this
 ·omega
 split at this
 ·omega
 split at this
 ·omega
 split at this
 ·omega
 rename_i h1 h2
 exact⟨ahk h1,by omega⟩
theorem afE (ar:List aj):SP.Bl (fun _=>0) ar (fun x=>0<=x/\x<ar.length):=by
 rintro a b ⟨ha,ha'⟩ ⟨hb,hb'⟩
 unfold pq
 obtain⟨a,rfl⟩:=Int.eq_ofNat_of_zero_le ha
 obtain⟨b,rfl⟩:=Int.eq_ofNat_of_zero_le hb
 have e1:ar[a]? =some (ar[a]'(by omega)):=aJ (by omega)
 have e2:ar[b]? =some (ar[b]'(by omega)):=aJ (by omega)
 rw[bq,bq,e1,e2]
 exact⟨_,rfl⟩
end Go.Md
namespace Go.Md
open Go.Dn
def op9 (l:List aj):List Int:=l.map fun y=>v9 (opn y)
def cIr (n:Nat):List Int:=cI (List.range n)
theorem adv (n:Nat):cIr (n+1)=cIr n++[(n:Int)]:=by simp[cIr,cI,List.range_succ]
theorem Pe (n:Nat):(cIr n).length=n:=by simp[cIr,cI]
def opT (l:List aj) (i:Nat):List au:=((op9 l).take i).map W++List.replicate (l.length - i) (false,[])
theorem aff {l:List aj} {i:Nat} (h:i<=l.length):(opT l i).length=l.length:=by
 simp[opT,op9];omega
theorem afg {l:List aj} {i:Nat} {y:aj} (hy:l[i]? =some y):(opT l i).set i (W (v9 (opn y)))=opT l (i+1):=by
 have hi:=(aia.1 hy).1
 unfold opT
 have hlen:(((op9 l).take i).map W).length=i:=by simp[op9];omega
 obtain⟨m,hm⟩:∃ m,l.length - i=m+1:=⟨l.length - i - 1,by omega⟩
 rw[hm,show l.length - (i+1)=m by omega,aiQ]
 have hs:=Vn (((op9 l).take i).map W) (List.replicate m ((false,[]):au)) (false,[]) (W (v9 (opn y)))
 rw[hlen] at hs
 rw[hs]
 have:(op9 l)[i]? =some (v9 (opn y)):=by unfold op9;rw[aib,hy];rfl
 rw[aiV,this]
 simp
theorem acp (items:List bw) (l:List aj) (hl:l.length<=500) (hd:∀ y∈l,cm (opn y)) (f:Nat) (hf:l.length<f): iter f ((items,([]:List Int),l,(l.length:Int),(0:Int),l,List.replicate (Int.toNat (l.length:Int)) ((false,[]):au),()):tg) yC=some (Sum.inr (items,cIr l.length,l,(op9 l).map W,())):=by
 refine bX (Inv:=fun i X=>X=((items,cIr i,l,(l.length:Int),(i:Int),l,opT l i,()):tg)) l.length (fun r=>r=some (Sum.inr (items,cIr l.length,l,(op9 l).map W,()))) ?_ ?_ f 0 _ (by simp[opT,cIr,cI]) (by omega) (by omega)
 ·rintro i _ again hi rfl ih
  unfold yC
  dsimp only
  have hy:l[i]? =some l[i]:=aJ hi
  have hdy:=hd _ (ail hi)
  generalize l[i]=y at hy hdy
  have hol:=aff (l:=l) (i:=i) (by omega)
  have hget:(opT l i)[i]? =some ((opT l i)[i]'(by omega)):=aJ (by omega)
  rw[aB (by omega),bq,hy,ajA,bg (u7 (by rw[Pe];omega) (by rw[Pe];omega))]
  have hv:=CP hdy
  unfold opn at hv
  rw[hv,ajA,bg (by rw[hol];simp only[ag1,ajS];omega),ahC,hget,ajA,ax (by omega) (by omega)]
  refine ih _ ?_
  have hs:=afg hy
  unfold opn at hs
  dsimp only
  rw[hs,adv]
  rfl
 ·rintro _ again rfl
  unfold yC
  dsimp only
  rw[az (by omega)]
  have:opT l l.length=(op9 l).map W:=by
   unfold opT
   rw[aiZ (by simp[op9])]
   simp
  rw[this]
end Go.Md
namespace Go.Md
open Go.Dn
def aej:List bw->Int
 | []=>0
 | x::r=>v9 x.2.2+aej r
def wT (z:Int):ah:=((few 9 z).1,((few 9 z).2:Int))
theorem Wl (z:Int):v9 (wT z)=z:=by
 obtain⟨h1,h2,_⟩:=mR 9 z
 unfold v9 wT
 dsimp only
 rw[show ((9:Int) - ((few 9 z).2:Int)).toNat=9 - (few 9 z).2 by omega]
 exact h2
theorem YX {z:Int} (h:(few 9 z).1.natAbs<=1000000000000000):cm (wT z):=by
 obtain⟨h1,_⟩:=mR 9 z
 exact⟨h,by unfold wT;dsimp only;omega,by unfold wT;dsimp only;omega⟩
theorem Kv {z:Int} (hz:Le 42 z):xK (W z)=some (if (few 9 z).1.natAbs<=1000000000000000 then (wT z,0,()) else ((0,0),1,())):=by
 unfold xK
 rw[show (9:Int)=((9:Nat):Int) from rfl,vX z (hz.w (by omega)) 9 (by omega),ajA]
 split<;>rfl
end Go.Md
set_option linter.all false
set_option maxRecDepth 20000
namespace Go.Md
open Go.Dn
abbrev Tw:Type:=Bys×Bys
theorem KV (a b:Tw):Ty.beq aK a b=decide (a=b):=by
 show (RT a.1 b.1&&RT a.2 b.2)=_
 by_cases h1:a.1=b.1
 ·by_cases h2:a.2=b.2
  ·rw[ajR (Prod.ext h1 h2)]
   simp[RT,h1,h2]
  ·rw[ajQ (fun e=>h2 (by rw[e]))]
   simp[RT,h2]
 ·rw[ajQ (fun e=>h1 (by rw[e]))]
  simp[RT,h1]
def toW (p:Tw×Int):Tw×au:=(p.1,W p.2)
def rA (k:Tw):List (Tw×Int)->Option Int
 | []=>none
 | p::r=>if k=p.1 then some p.2 else rA k r
def me (k:Tw) (z:Int):List (Tw×Int)->List (Tw×Int)
 | []=>[(k,z)]
 | p::r=>if k=p.1 then (k,p.2+z)::r else p::me k z r
theorem acD (k:Tw):∀ S:List (Tw×Int),dN (k:=aK) (v:=aA) (S.map toW) k=(rA k S).map W
 | []=>rfl
 | p::r=>by
  refine (@zg aK aA (toW p) (r.map toW) k).trans ?_
  have ih:=acD k r
  simp only[rA]
  by_cases h:k=p.1
  ·rw[ajZ h,show Ty.beq aK k (toW p).1=true from (KV _ _).trans (ajR h)];rfl
  ·rw[ajY h,show Ty.beq aK k (toW p).1=false from (KV _ _).trans (ajQ h),ajN];exact ih
theorem V5 (k:Tw) (z:Int):∀ (S:List (Tw×Int)) (b:Int),rA k S=some b->jG (k:=aK) (v:=aA) (S.map toW) k (W (b+z))=(me k z S).map toW
 | p::r,b,h=>by
  refine (@OC aK aA (toW p) (r.map toW) k _).trans ?_
  simp only[rA] at h
  simp only[me]
  by_cases e:k=p.1
  ·rw[ajZ e] at h
   cases h
   rw[ajZ e,show Ty.beq aK k (toW p).1=true from (KV _ _).trans (ajR e)];rfl
  ·rw[ajY e] at h
   rw[ajY e,show Ty.beq aK k (toW p).1=false from (KV _ _).trans (ajQ e),ajN,V5 k z r b h]
   rfl
theorem V4 (k:Tw) (z:Int):∀ (S:List (Tw×Int)),rA k S=none->jG (k:=aK) (v:=aA) (S.map toW) k (W z)=(me k z S).map toW
 | [],_=>rfl
 | p::r,h=>by
  refine (@OC aK aA (toW p) (r.map toW) k _).trans ?_
  simp only[rA] at h
  simp only[me]
  by_cases e:k=p.1
  ·rw[ajZ e] at h;cases h
  ·rw[ajY e] at h
   rw[ajY e,show Ty.beq aK k (toW p).1=false from (KV _ _).trans (ajQ e),ajN,V4 k z r h]
   rfl
theorem acC (k:Tw) (S:List (Tw×Int)) (M:List (Tw×au)) (hM:M=S.map toW):dN (k:=aK) (v:=aA) M k=(rA k S).map W:=by
 subst hM;exact acD k S
theorem aa8 (k:Tw) (z:Int) (S:List (Tw×Int)) (M:List (Tw×au)) (hM:M=S.map toW) (b:Int) (h:rA k S=some b):jG (k:=aK) (v:=aA) M k (W (b+z))=(me k z S).map toW:=by
 subst hM;exact V5 k z S b h
theorem aa7 (k:Tw) (z:Int) (S:List (Tw×Int)) (M:List (Tw×au)) (hM:M=S.map toW) (h:rA k S=none):jG (k:=aK) (v:=aA) M k (W z)=(me k z S).map toW:=by
 subst hM;exact V4 k z S h
def M24:Nat:=10 ^ 24
def Sm (n:Nat) (S:List (Tw×Int)):Prop:=∀ p∈S,p.2.natAbs<=n*M24
theorem Sm.add {n:Nat} {S:List (Tw×Int)} (h:Sm n S) {k:Tw} {z:Int} (hz:z.natAbs<=10 ^ 24):Sm (n+1) (me k z S):=by
 have hz:z.natAbs<=M24:=hz
 have e:(n+1)*M24=n*M24+M24:=by rw[ai4,ajt]
 induction S with
 | nil=>
  intro p hp
  rcases aiJ.1 hp with rfl
  show z.natAbs<=_
  rw[e];omega
 | cons q r ih=>
  have h1:=h q aiB
  intro p hp
  simp only[me] at hp
  split at hp
  ·rcases aiz.1 hp with rfl | hp
   ·show (q.2+z).natAbs<=_
    rw[e];omega
   ·have:=h p (aiA _ hp)
    rw[e];omega
  ·rcases aiz.1 hp with rfl | hp
   ·rw[e];omega
   ·exact ih (fun x hx=>h x (aiA _ hx)) p hp
theorem OA {k:Tw}:∀ {S:List (Tw×Int)} {b:Int},rA k S=some b->(k,b)∈S
 | p::r,b,h=>by
  simp only[rA] at h
  split at h
  ·rename_i e
   cases h
   rw[e];exact aiB
  ·exact aiA _ (OA h)
theorem Sm.le {n:Nat} {S:List (Tw×Int)} (h:Sm n S) (hn:n<=1000000) {p:Tw×Int} (hp:p∈S):p.2.natAbs<=10 ^ 30:=by
 have h1:=h p hp
 have h2:=ajr M24 hn
 exact ajd h1 (ajd h2 (by unfold M24;decide))
theorem aar {d:ah} (h:cm d):(v9 d).natAbs<=10 ^ 24:=abu h
theorem aal {d:ah} (h:cm d):jB d 9=some (W (v9 d),()):=by
 have h1:=h.1;have h2:=h.2
 exact we d 9 (by omega) (by omega) (by omega) (by omega) (by omega)
theorem Xg {n:Nat} (h:n<=10 ^ 40):n<4294967296 ^ 99:=by
 refine ajg h ?_
 exact ajh (show 10 ^ 40<4294967296 ^ 5 by decide) (ajv (by decide) (by decide))
theorem ZH {n:Nat} {S:List (Tw×Int)} (hS:Sm n S) (hn:n<=1000000) (k:Tw) {d:ah} (hd:cm d):jc (S.map toW) k d=some ((me k (v9 d) S).map toW,()):=by
 have hv:=aar hd
 obtain⟨M,hM⟩:∃ M:List (Tw×au),M=S.map toW:=⟨_,rfl⟩
 rw[<- hM]
 have hg:=acC k S M hM
 have hs:=fun b h=>aa8 k (v9 d) S M hM b h
 have hs0:=aa7 k (v9 d) S M hM
 unfold jc
 rw[hg]
 cases h:rA k S with
 | none=>
  show (Option.bind (gX 0) fun r1=>Option.bind (jB d 9) fun r2=>Option.bind (gQ r1.1 r2.1) fun r3=>some (jG (k:=aK) (v:=aA) M k r3.1,()))=_
  rw[l9 0 (by omega) (by omega),ajA,aal hd,ajA]
  dsimp only
  rw[pO 0 _ (Xg (by omega)) (Xg (by omega)),ajA]
  dsimp only
  rw[Int.zero_add,hs0 h]
  rfl
 | some b=>
  have hb:=hS.le hn (OA h)
  show (Option.bind (jB d 9) fun r4=>Option.bind (gQ (W b) r4.1) fun r5=>some (jG (k:=aK) (v:=aA) M k r5.1,()))=_
  rw[aal hd,ajA]
  dsimp only
  rw[pO b _ (Xg (by omega)) (Xg (by omega)),ajA]
  dsimp only
  rw[hs b h]
  rfl
theorem Ni (k:Tw) (z:Int):∀ S:List (Tw×Int),(∀ p,p∈me k z S->p.1=k\/∃ q∈S,q.1=p.1)
 | [],p,hp=>by rcases aiJ.1 hp with rfl;exact .inl rfl
 | q::r,p,hp=>by
  simp only[me] at hp
  split at hp
  ·rcases aiz.1 hp with rfl | hp
   ·exact .inl rfl
   ·exact .inr ⟨p,aiA _ hp,rfl⟩
  ·rcases aiz.1 hp with rfl | hp
   ·exact .inr ⟨p,aiB,rfl⟩
   ·rcases Ni k z r p hp with h | ⟨x,hx,h⟩
    ·exact .inl h
    ·exact .inr ⟨x,aiA _ hx,h⟩
theorem ZL (k:Tw) (z:Int):∀ S:List (Tw×Int),(S.map (·.1)).Nodup->((me k z S).map (·.1)).Nodup
 | [],_=>by simp[me]
 | q::r,h=>by
  rw[aiv,aiM] at h
  simp only[me]
  split
  ·rename_i e
   rw[aiv,aiM,e];exact h
  ·rename_i e
   rw[aiv,aiM]
   refine⟨fun hm=> ?_,ZL k z r h.2⟩
   obtain⟨p,hp,e1⟩:=aiE.1 hm
   rcases Ni k z r p hp with h1 | ⟨x,hx,h1⟩
   ·exact e (by rw[<- h1,e1])
   ·exact h.1 (aiE.2 ⟨x,hx,h1.trans e1⟩)
theorem Xk (k:Tw) (z:Int):∀ S:List (Tw×Int),(me k z S).length<=S.length+1
 | []=>by simp[me]
 | q::r=>by
  have ih:=Xk k z r
  simp only[me]
  split
  ·simp
  ·simp only[ain];omega
structure AB (n:Nat) (S:List (Tw×Int)):Prop where
 sm:Sm n S
 nd:(S.map (·.1)).Nodup
 st:∀ p∈S,p.1.1.length<=1000/\p.1.2.length<=1000
 len:S.length<=n
theorem AB.nil:AB 0 []:=⟨fun _ h=>(by cases h),List.nodup_nil,fun _ h=>(by cases h),ajc _⟩
theorem AB.add {n:Nat} {S:List (Tw×Int)} (h:AB n S) {k:Tw} {z:Int} (hz:z.natAbs<=10 ^ 24) (hk:k.1.length<=1000/\k.2.length<=1000):AB (n+1) (me k z S):=
 ⟨h.sm.add hz,ZL k z S h.nd,fun p hp=>by
   rcases Ni k z S p hp with e | ⟨q,hq,e⟩
   ·rw[e];exact hk
   ·rw[<- e];exact h.st q hq,ajd (Xk k z S) (Nat.succ_le_succ h.len)⟩
theorem Z5 {s:Bys} (h:bF s=true):s.length<=1000:=by
 apply Decidable.byContradiction
 intro hc
 unfold bF at h
 have e:bZ s=some (false,()):=by
  unfold bZ
  rw[az (by omega),aB (by omega)]
 rw[e] at h
 cases h
structure aau (c:aF):Prop where
 d:cm c.2.2.2
 n1:c.1.length<=1000
 n2:c.2.1.length<=1000
def ado (l:List ak):Prop:=∀ p∈l,p.2.2.2.length<=100/\∀ c∈p.2.2.2,aau c
theorem XK {l:List aF} (h:CT l=0):∀ c∈l,aau c:=by
 have hq:=(Qr h).2
 unfold CT at h
 split at h
 ·omega
 intro c hc
 have hd:=(hq c hc).dec
 obtain⟨i,hi⟩:=aiD.1 hc
 have:=iN h i c hi
 unfold Pg at this
 split at this
 ·omega
 rename_i h1
 split at this
 ·omega
 rename_i h2
 exact⟨hd,Z5 (by simpa using h1),Z5 (by simpa using h2)⟩
theorem aai {a:bC} (h:rZ a=0):ado a.2.2.2:=by
 intro p hp
 refine⟨(afh h p hp).n, ?_⟩
 unfold rZ at h
 split at h
 ·omega
 split at h
 ·omega
 split at h
 ·omega
 split at h
 ·omega
 split at h
 ·omega
 have h3:fk (rF a.2.2.2) 0 a.2.2.2=0:=by omega
 obtain⟨i,hi⟩:=aiD.1 hp
 have:=iN h3 i p hi
 unfold rF at this
 split at this
 ·omega
 split at this
 ·omega
 split at this
 ·omega
 exact XK this
def ck (c:aF):Tw:=(c.1,c.2.1)
def JH (S:List (Tw×Int)) (cs:List aF):List (Tw×Int):=cs.foldl (fun S c=>me (ck c) (v9 c.2.2.2) S) S
theorem adg (S:List (Tw×Int)) (cs:List aF) (c:aF):JH S (cs++[c])=me (ck c) (v9 c.2.2.2) (JH S cs):=by
 unfold JH;rw[List.foldl_append];rfl
theorem AB.aeq {n:Nat} {S:List (Tw×Int)} (h:AB n S):∀ cs:List aF,(∀ c∈cs,aau c)->AB (n+cs.length) (JH S cs):=by
 intro cs
 induction cs generalizing n S with
 | nil=>intro _;exact h
 | cons c r ih=>
  intro hc
  have h1:=hc c aiB
  have:=ih (h.add (k:=ck c) (aar h1.d) ⟨h1.n1,h1.n2⟩) (fun x hx=>hc x (aiA _ hx))
  rw[ain,show n+(r.length+1)=n+1+r.length by omega]
  exact this
end Go.Md
set_option linter.all false
set_option maxRecDepth 20000
namespace Go.Md
open Go.Dn
theorem O6 {a b:Tw}:lZ a b<0↔Op.bytesLess a.1 b.1=true\/(a.1=b.1/\Op.bytesLess a.2 b.2=true):=by
 unfold lZ
 by_cases h:Lib.compareBytes a.1 b.1=0
 ·rw[show (Lib.compareBytes a.1 b.1==0)=true by simpa using h,ajO,pe]
  have e:=sN.1 h
  constructor
  ·intro h2;exact .inr ⟨e,h2⟩
  ·rintro (h2 | ⟨_,h2⟩)
   ·rw[e,dA] at h2;cases h2
   ·exact h2
 ·rw[show (Lib.compareBytes a.1 b.1==0)=false by simpa using h,ajN,pe]
  constructor
  ·exact .inl
  ·rintro (h2 | ⟨e,_⟩)
   ·exact h2
   ·exact absurd (sN.2 e) h
theorem Wn (a b:Tw):lZ a b<0\/a=b\/lZ b a<0:=by
 rw[O6,O6]
 rcases Is a.1 b.1 with h | h | h
 ·exact .inl (.inl h)
 ·rcases Is a.2 b.2 with g | g | g
  ·exact .inl (.inr ⟨h,g⟩)
  ·exact .inr (.inl (Prod.ext h g))
  ·exact .inr (.inr (.inr ⟨h.symm,g⟩))
 ·exact .inr (.inr (.inl h))
theorem adL {n:Nat} {S:List (Tw×Int)} (h:AB n S) (hn:n<=1000000):GG lZ (S.map toW)=true:=by
 have e:(S.map toW).map (·.1)=S.map (·.1):=by rw[aiw];rfl
 have h1:=h.len
 unfold GG
 rw[e]
 simp only[ag1,ajS,aio,ahH,ahf]
 refine⟨by omega,fun p hp=> ?_,h.nd,fun x _ y _=> ?_⟩
 ·obtain⟨q,hq,rfl⟩:=aiE.1 hp
  have:=h.st q hq
  show q.1.1.length<=_/\q.1.2.length<=_
  omega
 ·rcases Wn x y with h | h | h
  ·exact .inl h
  ·exact .inr (.inr h)
  ·exact .inr (.inl h)
def ksS (S:List (Tw×Int)):List Tw:=(S.map (·.1)).mergeSort fun x y=> !decide (lZ y x<0)
theorem afK (S:List (Tw×Int)):sW lZ (S.map toW)=ksS S:=by
 have e:(S.map toW).map (·.1)=S.map (·.1):=by rw[aiw];rfl
 unfold sW ksS
 rw[e]
theorem Yj (S:List (Tw×Int)):(ksS S).Perm (S.map (·.1)):=aiK _ _
def B5 (S:List (Tw×Int)) (k:Tw):Int:=(rA k S).getD 0
theorem Yq {S:List (Tw×Int)} (hnd:(S.map (·.1)).Nodup) {p:Tw×Int} (hp:p∈S):rA p.1 S=some p.2:=by
 induction S with
 | nil=>cases hp
 | cons q r ih=>
  rw[aiv,aiM] at hnd
  simp only[rA]
  rcases aiz.1 hp with rfl | hp
  ·rw[ajZ rfl]
  ·rw[ajY (fun e=>hnd.1 (aiE.2 ⟨p,hp,e⟩))]
   exact ih hnd.2 hp
def okD (z:Int):Bool:=decide ((few 9 z).1.natAbs<=1000000000000000)
def yZ (S:List (Tw×Int)):List Tw->Option (List av)
 | []=>some []
 | k::r=>if okD (B5 S k)=true then (yZ S r).map fun l=>if (few 9 (B5 S k)).1=0 then l else (k.1,k.2,wT (B5 S k))::l else none
def UU (S:List (Tw×Int)):List av×Int:=match yZ S (ksS S) with
 | some l=>(l,0)
 | none=>([],1)
theorem afa {z:Int} (h:z.natAbs<=10 ^ 30):Le 42 z:=ajd h (by decide)
theorem afI {n:Nat} {S:List (Tw×Int)} (h:AB n S) (hn:n<=1000000) {M:List (Tw×au)} (hM:M=S.map toW) (ks:List Tw) (hks:ks.length<=1000000) (hsub:∀ k∈ks,∃ z,rA k S=some z):
 ∀ (r:List Tw) (i f:Nat) (acc:List av),ks.drop i=r->i<=ks.length->r.length<f->acc.length<=i->
 iter (X:=pJ) (β:=pI) f (acc,(ks.length:Int),(i:Int),ks,M,()) mU=
  some (match yZ S r with | some l=>Sum.inr (acc++l,M,()) | none=>Sum.inl ([],1,M,())):=by
 have BN:maxLen=9223372036854775807:=rfl
 intro r
 induction r with
 | nil=>
  intro i f acc hdr hi hf ha
  have:i=ks.length:=by
   have:=congrArg List.length hdr
   simp at this;omega
  subst this
  obtain⟨f,rfl⟩:∃ m,f=m+1:=⟨f - 1,by omega⟩
  rw[bR]
  unfold mU
  dsimp only
  rw[az (by omega)]
  simp only[yZ,ahM]
 | cons k r ih=>
  intro i f acc hdr hi hf ha
  have hki:ks[i]? =some k:=by
   have:=congrArg (·[0]?) hdr
   simpa [ah7] using this
  have hr':ks.drop (i+1)=r:=by
   have:=congrArg List.tail hdr
   simpa [aiU] using this
  have hlt:=(aia.1 hki).1
  obtain⟨z,hz⟩:=hsub k (aiF hki)
  have hv:B5 S k=z:=by unfold B5;rw[hz];rfl
  have hzb:=h.sm.le hn (OA hz)
  obtain⟨f,rfl⟩:∃ m,f=m+1:=⟨f - 1,by simp at hf;omega⟩
  simp only[ain] at hf
  have hg:Option.getD (α:=au) (dN (k:=aK) (v:=aA) M k) (false,[])=W z:=by
   rw[acC k S M hM,hz];rfl
  rw[bR]
  generalize hag:(fun y=>iter f y mU)=again
  unfold mU
  dsimp only
  rw[aB (by omega),bg (by simp only[ag1,ajS];omega),ahC,hki,ajA,hg,Kv (afa hzb),ajA]
  simp only[yZ]
  rw[hv]
  by_cases hok:(few 9 z).1.natAbs<=1000000000000000
  ·rw[ajZ hok,ajZ (show okD z=true from ajR hok)]
   dsimp only
   rw[zne,ajN,ax (n:=(i:Int)+1) (by omega) (by omega), <- hag,show (i:Int)+1=((i+1:Nat):Int) by omega]
   have ht:(wT z).1=(few 9 z).1:=rfl
   rw[ht]
   by_cases h0:(few 9 z).1=0
   ·rw[h0,zne,ajN]
    refine (ih (i+1) f acc hr' (by omega) (by omega) (by omega)).trans ?_
    cases yZ S r with
    | none=>rfl
    | some l=>rfl
   ·rw[show ((few 9 z).1 != 0)=true by simpa using h0,ajO,bg (by rw[ag1];exact⟨ajR (by omega),ajR (by omega)⟩)]
    refine (ih (i+1) f _ hr' (by omega) (by omega) (by simp;omega)).trans ?_
    cases yZ S r with
    | none=>rfl
    | some l=>
     show some (Sum.inr ((acc++[(k.1,k.2,wT z)])++l,M,()))=some (Sum.inr (acc++(if (few 9 z).1=0 then l else (k.1,k.2,wT z)::l),M,()))
     rw[ajY h0,ahL]
     rfl
  ·rw[ajY hok,ajY (show ¬okD z=true from fun e=>hok (aj5 e))]
   rfl
theorem aaP {n:Nat} {S:List (Tw×Int)} (h:AB n S) (hn:n<=1000000):An (S.map toW)=some ((UU S).1,(UU S).2,S.map toW,()):=by
 have hk:=adL h hn
 have he:=afK S
 have hp:=Yj S
 have hl:=h.len
 have hkl:(ksS S).length<=1000000:=by rw[hp.length_eq,aio];omega
 obtain⟨M,hM⟩:∃ M:List (Tw×au),M=S.map toW:=⟨_,rfl⟩
 rw[<- hM] at hk he ⊢
 unfold An
 rw[bg hk,he]
 have loop:=afI h hn hM (ksS S) hkl (fun k hk=>by
  obtain⟨p,hp',rfl⟩:=aiE.1 (hp.mem_iff.1 hk)
  exact⟨_,Yq h.nd hp'⟩) (ksS S) 0
 have loop':∀ f,(ksS S).length<f->iter (X:=pJ) (β:=pI) f ([],((ksS S).length:Int),0,ksS S,M,()) mU=_:=fun f hf=>loop f [] rfl (ajy _) hf (ajc _)
 rw[loop' _ (by rw[ahs];omega)]
 unfold UU
 cases yZ S (ksS S) with
 | none=>rfl
 | some l=>rfl
def yL (B:Nat->Bool) (l:List ak):Nat->List (Tw×Int)
 | 0=>[]
 | i+1=>if B i=true then JH (yL B l i) ((l[i]?).map (·.2.2.2)).get! else yL B l i
theorem Vp {B:Nat->Bool} {l:List ak} (hl:ado l):∀ i,i<=l.length->AB (100*i) (yL B l i)
 | 0,_=>AB.nil
 | i+1,hi=>by
  have ih:=Vp (B:=B) hl i (by omega)
  have hy:l[i]? =some l[i]:=aJ (by omega)
  have hp:=hl l[i] (ail (by omega))
  simp only[yL]
  split
  ·rw[hy]
   have:=ih.aeq l[i].2.2.2 hp.2
   exact⟨fun p h=>ajd (this.sm p h) (ajr _ (by omega)),this.nd,this.st,by have:=this.len;show (JH _ l[i].2.2.2).length<=_;omega⟩
  ·exact⟨fun p h=>ajd (ih.sm p h) (ajr _ (by omega)),ih.nd,ih.st,by have:=ih.len;omega⟩
def Vr (l:List ak) (t:Bys):List (Tw×Int):=yL (Ra l t) l l.length
end Go.Md
