/-
  The plain models of the functions that the law reaches, fourth part; strings.Join by contract. No condition.
-/
import Derived.Test.YtjlkkapojeldlaaGreatDoorYd
import Derived.Shelf.Strings.OnBuilder
import Derived.Test.YtjlkkapojeldlaaGreatDoorYo
import Derived.Test.YtjlkkapojeldlaaGreatDoorYp
import Derived.Lib.ItoaNum
import Derived.Lib.Repeat
set_option linter.all false
namespace Go.Md
open Go.Dn
def strings_Join (l:List (List UInt8)) (c:List UInt8):Option (List UInt8×Unit):=
 bif decide (l.length<=140737488355328)&&decide ((Lib.join l c).length<=140737488355328) then some (Lib.join l c,()) else none
end Go.Md
namespace Go.Dn
open Go Go.Md Go.Proofs Go.Shelf
theorem uv {G:Gh}:∀ {l:List (List UInt8)} {vs:List Value},bA (ax G .str) l vs->vs=l.map fun s=>Value.string (bs s)
 | [],vs,h=>h
 | x::r,vs,h=>by
  obtain⟨a,b,e,h1,h2⟩:=h
  have h1:a=[.string (bs x)]:=h1
  rw[e,h1,uv h2]
  rfl
theorem join_some {l:List (List UInt8)} {c r:List UInt8} {u:Unit} (h:strings_Join l c=some (r,u)):l.length<=140737488355328/\(Lib.join l c).length<=140737488355328/\r=Lib.join l c:=by
 unfold strings_Join at h
 cases hb:(decide (l.length<=140737488355328)&&decide ((Lib.join l c).length<=140737488355328)) with
 | false=>rw[hb] at h;cases h
 | true=>
  rw[hb,YG] at h
  simp only[Option.some.injEq,Prod.mk.injEq] at h
  simp only[VZ,YK] at hb
  exact⟨hb.1,hb.2,h.1.symm⟩
theorem RW {P:Program} {ρ:Ren} (L:Lays.n156 P ρ) (X:Builder.Extra P ρ) {G:Gh} {w:World} {ow:Nat->Option Nat} (l:List (List UInt8)) (c:List UInt8) (v:Value) (hG:Agr G w) (hv:ax G (.slice .str) l [v]) (hN:l.length<=140737488355328) (hlen:(Lib.join l c).length<=140737488355328) (u':cS [.val (.slice .str),.val .str]): Calls P (ρ.f 156) #[v,.string (bs c)] w fun e w'=>∃ G' ow' vs,Ev G w ow ⟨[.val (.slice .str),.val .str],[.val .str],fun x=>strings_Join x.1 x.2.1⟩ [v,.string (bs c)] (Lib.join l c,u') e w' G' ow' vs:=by
 have hmap:(l.map bs).map (·.data.toList)=l:=by
  rw[Xx]
  conv=>rhs;rw[<- List.map_id l]
  apply Xv
  intro a _
  simp[bs]
 have hsep:(bs c).data.toList=c:=by simp[bs]
 have hcall:Calls P (ρ.f 156) #[v,.string (bs c)] w fun e w'=>e= .returned (.string (bs (Lib.join l c)))/\RowKit.Below w.heap.size w w':=by
  have hv0:∃ v0,[v]=[v0]/\bN G Ty.str.size (ax G .str) l v0:=hv
  obtain⟨v0,e0,a,cap,rfl,hcap,sw,hr⟩:=hv0
  have e0:v= .slice a (List.length (α:=List UInt8) l) cap:=(List.cons.inj e0).1
  subst e0
  rcases hr with rfl | ⟨b,off,cs,T,fz,rfl,hg,hin,hrep⟩
  ·exact (Any.strings_Join_none L X a cap (bs c) w).mono fun e w' ⟨he,hw⟩=>⟨by rw[he];rfl,hw ▸ RowKit.Below.refl _ _⟩
  ·have hw:=hG b _ hg
   have hvs:=uv hrep
   have h:=Any.strings_Join L X b off cap (l.map bs) (bs c) w (fun j x hj=>by
    have hjl:j<l.length:=by
     have:=(Xa.1 hj).1
     simpa using this
    rw[Xb,WZ hjl] at hj
    have hx:bs l[j]=x:=by simpa using hj
    have h3:=congrArg (·[j]?) hvs
    simp only[Xb,WZ hjl,Yy] at h3
    rw[Xh (by show j<l.length*1;omega),WY,hx] at h3
    simp[World.cell?,hw]
    simpa using h3) (aG hw) (by simpa using hN) (by rw[Xo];exact hcap) (by rw[hmap,hsep];exact hlen)
   rw[hmap,hsep,Xo] at h
   exact h
 refine hcall.mono ?_
 rintro e w' ⟨he,hb⟩
 refine⟨G,fun _=>none,[.string (bs (Lib.join l c))], ?_⟩
 exact {
  ret:=he
  le:=Gh.le_refl G
  agr:=fun b o hbo=>by
   have hw:=hG b o hbo
   rw[hb.block b (aG hw)];exact hw
  size:=hb.size
  os:=hb.os
  output:=hb.output
  old:=fun b hlt _=>⟨hb.block b hlt,rfl⟩
  own:=fun b i hbi=>by cases hbi
  out:=⟨_,_,rfl,rfl,rfl,trivial⟩
  hnd:=fun _=>rfl }
theorem Uh {P:Program} {ρ:Ren} (L:Lays.n156 P ρ) (X:Builder.Extra P ρ):bQ P (ρ.f 156) ⟨[.val (.slice .str),.val .str],[.val .str],fun x=>strings_Join x.1 x.2.1⟩:=by
 intro G w ow args x y hG how ha hm _
 obtain⟨l,c,u⟩:=x
 obtain⟨r,u'⟩:=y
 obtain⟨v,us,h1,l1,hv,v',us',h2,l2,hv',h3⟩:=ha
 have e1:=h1 rfl
 have e2:=h2 rfl
 have e3:us'=[]:=h3
 have e5:v'= .string (bs c):=by simpa [wF,bC,ax] using hv'
 subst e1;subst e2;subst e3;subst e5
 obtain⟨hN,hlen,rfl⟩:=join_some hm
 exact RW L X l c v hG hv hN hlen u'
end Go.Dn
set_option linter.all false
namespace Go.Md
open Go.Dn
noncomputable section
def fQ (a0:List Int):Option (List Int×Unit):=bif decide (a0.length<=1000000) then some (trim a0,()) else none
def qO (a0:bI):Option (bI×Unit):=
 Option.bind (fP false a0.2) fun r1=>
 some (r1.1,())
noncomputable def jl (a0:List Int):Option ((List Int)×Unit):=
 bif List.isEmpty a0 then
  both (
   some ([],())) (
   chk (decide ((0+(List.length a0))*4<=140737488355328)&&decide (0+(List.length a0)<=maxLen)) <|
   some (a0,()))
 else
  chk (decide ((0+(List.length a0))*4<=140737488355328)&&decide (0+(List.length a0)<=maxLen)) <|
  some (a0,())
def nE (a0:Int) (a1:Int) (a2:Int):Option (Int×Int×Unit):=
 Option.bind (
  bif a2 != 0 then
   some (decide (a2<=a0),())
  else
   some (false,())) fun v1=>
 aP (β:=(Int×Int×Unit)) (γ:=(Int×Int×Int×Unit)) (
  bif v1.1 then
   none
  else
   some (Sum.inr (a0,a1,a2,()))) fun v2=>
 let n3:Int:=bp (((BitVec.ofInt (IntKind.bits .u64) (bp ((bp v2.1)*2 ^ 32)) ||| BitVec.ofInt (IntKind.bits .u64) (bp v2.2.1)).toNat:Int))
 chk ((bp v2.2.2.1) != (0:Int)) <|
 chk ((bp v2.2.2.1) != (0:Int)) <|
 some (mF (bp (Int.tdiv n3 (bp v2.2.2.1))),mF (Int.tmod n3 (bp v2.2.2.1)),())
abbrev gC:Type:=Int×Int×(List Int)×Unit
abbrev kM:Type:=(((List Int)×Unit) ⊕ ((List Int)×Unit))
def dI (x1:gC) (again:gC->Option kM):Option kM:=
 bif decide (x1.1<x1.2.1) then
  chk (decide (0<=x1.2.1)&&decide (x1.2.1<(x1.2.2.1.length:Int))) <|
  Option.bind (x1.2.2.1[x1.2.1.toNat]?) fun y2=>
  chk (decide (0<=x1.1)&&decide (x1.1<(x1.2.2.1.length:Int))) <|
  Option.bind (x1.2.2.1[x1.1.toNat]?) fun y3=>
  chk (decide (0<=x1.1)&&decide (x1.1<(x1.2.2.1.length:Int))) <|
  Option.bind (x1.2.2.1[x1.1.toNat]?) fun _=>
  chk (decide (0<=x1.2.1)&&decide (x1.2.1<(List.length (List.set x1.2.2.1 x1.1.toNat y2):Int))) <|
  Option.bind ((List.set x1.2.2.1 x1.1.toNat y2)[x1.2.1.toNat]?) fun _=>
  again (w64 (x1.1+1),w64 (x1.2.1 - 1),List.set (List.set x1.2.2.1 x1.1.toNat y2) x1.2.1.toNat y3,())
 else
  some (Sum.inr (x1.2.2.1,()))
def gp (a0:List Int):Option ((List Int)×Unit):=
 aP (β:=((List Int)×Unit)) (γ:=((List Int)×Unit)) (
  iter (X:=gC) (β:=kM) (Int.natAbs (0:Int)+(Int.natAbs (w64 (((List.length a0:Int)) - 1))+(List.length a0+2))) (0,w64 (((List.length a0:Int)) - 1),a0,()) (dI)) fun v6=>
 some (v6.1,())
abbrev kW:Type:=(List Int)×(List Int)×Int×Int×Bool×(List Int)×Unit
abbrev pK:Type:=((((List UInt8)×Unit) ⊕ ((List Int)×Bool×(List Int)×Unit)) ⊕ ((List Int)×(List Int)×Int×Bool×(List Int)×Unit))
noncomputable def cN (x1:kW) (again:kW->Option pK):Option pK:=
 bif decide (x1.2.2.2.1>=0) then
  chk (decide (0<=x1.2.2.2.1)&&decide (x1.2.2.2.1<(x1.2.1.length:Int))) <|
  Option.bind (x1.2.1[x1.2.2.2.1.toNat]?) fun y2=>
  Option.bind (nE x1.2.2.1 y2 10) fun r3=>
  chk (decide (0<=x1.2.2.2.1)&&decide (x1.2.2.2.1<(x1.2.1.length:Int))) <|
  Option.bind (x1.2.1[x1.2.2.2.1.toNat]?) fun _=>
  again (x1.1,List.set x1.2.1 x1.2.2.2.1.toNat r3.1,r3.2.1,w64 (x1.2.2.2.1 - 1),x1.2.2.2.2.1,x1.2.2.2.2.2.1,())
 else
  some (Sum.inr (x1.1,x1.2.1,x1.2.2.1,x1.2.2.2.2.1,x1.2.2.2.2.2.1,()))
abbrev ir:Type:=(List Int)×(List Int)×Bool×(List Int)×Unit
abbrev pJ:Type:=(((List UInt8)×Unit) ⊕ ((List Int)×Bool×(List Int)×Unit))
noncomputable def fS (x1:ir) (again:ir->Option pJ):Option pJ:=
 bif decide (((x1.2.1.length:Int))>0) then
  aP (β:=(((List UInt8)×Unit) ⊕ ((List Int)×Bool×(List Int)×Unit))) (γ:=((List Int)×(List Int)×Int×Bool×(List Int)×Unit)) (
   iter (X:=kW) (β:=pK) (x1.1.length+(x1.2.1.length+(Int.natAbs (0:Int)+(Int.natAbs (w64 (((x1.2.1.length:Int)) - 1))+(x1.2.2.2.1.length+2))))) (x1.1,x1.2.1,0,w64 (((x1.2.1.length:Int)) - 1),x1.2.2.1,x1.2.2.2.1,()) (cN)) fun v2=>
  chk (decide (((v2.1.length)+1)*1<=140737488355328)&&decide ((v2.1.length)+1<=maxLen)) <|
  Option.bind (fQ v2.2.1) fun r3=>
  again (v2.1++[(wu8 (48+(wu8 v2.2.2.1)))],r3.1,v2.2.2.2.1,v2.2.2.2.2.1,())
 else
  some (Sum.inr (x1.1,x1.2.2.1,x1.2.2.2.1,()))
noncomputable def pn (a0:bI):Option ((List UInt8)×Unit):=
 bif ((a0.2.length:Int))==0 then
  some ([48],())
 else
  Option.bind (jl a0.2) fun r1=>
  aP (β:=((List UInt8)×Unit)) (γ:=((List Int)×Bool×(List Int)×Unit)) (
   iter (X:=ir) (β:=pJ) ((20*List.length (([],r1.1,a0.1,a0.2,()):ir).2.1+2)) ([],r1.1,a0.1,a0.2,()) (fS)) fun v9=>
  bif v9.2.1 then
   chk (decide (((v9.1.length)+1)*1<=140737488355328)&&decide ((v9.1.length)+1<=maxLen)) <|
   Option.bind (gp (v9.1++[45])) fun r10=>
   some (List.map (fun n=>UInt8.ofNat (Int.toNat n)) r10.1,())
  else
   Option.bind (gp v9.1) fun r11=>
   some (List.map (fun n=>UInt8.ofNat (Int.toNat n)) r11.1,())
def oK (a0:List UInt8) (a1:Int):Option ((List UInt8)×(List UInt8)×Unit):=
 let n1:Int:=w64 ((w64 (a1+1)) - ((List.length a0:Int)))
 Option.bind (strings_Repeat [48] (if n1>0 then n1 else 0)) fun r2=>
 chk (decide (r2.1.length+List.length a0<=maxLen)) <|
 chk (decide (0<=(0:Int))&&decide ((0:Int)<=(w64 (((List.length (r2.1++a0):Int)) - a1)))&&decide ((w64 (((List.length (r2.1++a0):Int)) - a1))<=(List.length (r2.1++a0):Int))) <|
 chk (decide (0<=(w64 (((List.length (r2.1++a0):Int)) - a1)))&&decide ((w64 (((List.length (r2.1++a0):Int)) - a1))<=((List.length (r2.1++a0):Int)))&&decide (((List.length (r2.1++a0):Int))<=(List.length (r2.1++a0):Int))) <|
 some (List.drop 0 (List.take (Int.toNat (w64 (((List.length (r2.1++a0):Int)) - a1))) (r2.1++a0)),List.drop (Int.toNat (w64 (((List.length (r2.1++a0):Int)) - a1))) (List.take (Int.toNat ((List.length (r2.1++a0):Int))) (r2.1++a0)),())
def pN (a0:ah):Option ((List UInt8)×Unit):=
 bif decide (a0.1<0) then
  some ([45],())
 else
  some ([],())
noncomputable def uG (a0:ah):Option ((List UInt8)×Int×Unit):=
 Option.bind (eD a0) fun r1=>
 bif r1.1 != 0 then
  some ([],r1.1,())
 else
  Option.bind (ru a0.1) fun r2=>
  Option.bind (qO r2.1) fun r3=>
  Option.bind (pn r3.1) fun r4=>
  Option.bind (oK r4.1 a0.2) fun r5=>
  bif a0.2==0 then
   Option.bind (pN a0) fun r6=>
   chk (decide (r6.1.length+r5.1.length<=maxLen)) <|
   some (r6.1++r5.1,0,())
  else
   Option.bind (pN a0) fun r7=>
   chk (decide (r7.1.length+r5.1.length<=maxLen)) <|
   chk (decide (List.length (r7.1++r5.1)+List.length [46]<=maxLen)) <|
   chk (decide (List.length ((r7.1++r5.1)++[46])+r5.2.1.length<=maxLen)) <|
   some (((r7.1++r5.1)++[46])++r5.2.1,0,())
noncomputable def fA (a0:ah):Option ((List UInt8)×Unit):=
 Option.bind (uG a0) fun r1=>
 some (r1.1,())
def gv (a0:List (List UInt8)):Option ((List UInt8)×Unit):=
 Option.bind (strings_Join a0 [32]) fun r1=>
 chk (decide (r1.1.length+List.length [10]<=maxLen)) <|
 some (r1.1++[10],())
def EV (a0:ah):Option ((List UInt8)×Int×Unit):=
 Option.bind (gT a0) fun r1=>
 bif r1.1 != 0 then
  some ([],1,())
 else
  Option.bind (strconv_Itoa (if (w64 (0 - a0.1))>a0.1 then (w64 (0 - a0.1)) else a0.1)) fun r2=>
  let n3:Int:=w64 ((w64 (a0.2+1)) - ((r2.1.length:Int)))
  Option.bind (strings_Repeat [48] (if n3>0 then n3 else 0)) fun r4=>
  chk (decide (r4.1.length+r2.1.length<=maxLen)) <|
  aP (β:=((List UInt8)×Int×Unit)) (γ:=((List UInt8)×Int×Int×Unit)) (
   bif decide (a0.2>0) then
    chk (decide (0<=(0:Int))&&decide ((0:Int)<=(w64 (((List.length (r4.1++r2.1):Int)) - a0.2)))&&decide ((w64 (((List.length (r4.1++r2.1):Int)) - a0.2))<=(List.length (r4.1++r2.1):Int))) <|
    chk (decide (List.length (List.drop 0 (List.take (Int.toNat (w64 (((List.length (r4.1++r2.1):Int)) - a0.2))) (r4.1++r2.1)))+List.length [46]<=maxLen)) <|
    chk (decide (0<=(w64 (((List.length (r4.1++r2.1):Int)) - a0.2)))&&decide ((w64 (((List.length (r4.1++r2.1):Int)) - a0.2))<=((List.length (r4.1++r2.1):Int)))&&decide (((List.length (r4.1++r2.1):Int))<=(List.length (r4.1++r2.1):Int))) <|
    chk (decide (List.length ((List.drop 0 (List.take (Int.toNat (w64 (((List.length (r4.1++r2.1):Int)) - a0.2))) (r4.1++r2.1)))++[46])+List.length (List.drop (Int.toNat (w64 (((List.length (r4.1++r2.1):Int)) - a0.2))) (List.take (Int.toNat ((List.length (r4.1++r2.1):Int))) (r4.1++r2.1)))<=maxLen)) <|
    some (Sum.inr (((List.drop 0 (List.take (Int.toNat (w64 (((List.length (r4.1++r2.1):Int)) - a0.2))) (r4.1++r2.1)))++[46])++(List.drop (Int.toNat (w64 (((List.length (r4.1++r2.1):Int)) - a0.2))) (List.take (Int.toNat ((List.length (r4.1++r2.1):Int))) (r4.1++r2.1))),a0.1,a0.2,()))
   else
    some (Sum.inr (r4.1++r2.1,a0.1,a0.2,()))) fun v5=>
  bif decide (v5.2.1<0) then
   chk (decide (List.length [45]+v5.1.length<=maxLen)) <|
   some ([45]++v5.1,0,())
  else
   some (v5.1,0,())
end
end Go.Md
