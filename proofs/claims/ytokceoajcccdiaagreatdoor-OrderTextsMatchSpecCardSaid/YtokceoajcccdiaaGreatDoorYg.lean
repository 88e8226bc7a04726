/-
  The plain models of the functions that the law reaches, fourth part; strings.Join by contract. No condition.
-/
import Derived.Test.YtokceoajcccdiaaGreatDoorYd
import Derived.Shelf.Strings.OnBuilder
import Derived.Test.YtokceoajcccdiaaGreatDoorYo
import Derived.Test.YtokceoajcccdiaaGreatDoorYp
import Derived.Lib.ItoaNum
import Derived.Lib.Repeat
set_option linter.all false
namespace Go.Md
open Go.Dn
def strings_Join (l:List (List UInt8)) (c:List UInt8):Option (List UInt8×Unit):=
 bif decide (l.length<=140737488355328)&&decide ((Lib.join l c).length<=140737488355328) then some (Lib.join l c,()) else none
end Go.Md
namespace Go.Dn
open Go Go.Md Go.Proofs Go.Shelf
theorem yO {G:Gh}:∀ {l:List (List UInt8)} {vs:List Value},bF (an G .str) l vs->vs=l.map fun s=>Value.string (bs s)
 | [],vs,h=>h
 | x::r,vs,h=>by
  obtain⟨a,b,e,h1,h2⟩:=h
  have h1:a=[.string (bs x)]:=h1
  rw[e,h1,yO h2]
  rfl
theorem join_some {l:List (List UInt8)} {c r:List UInt8} {u:Unit} (h:strings_Join l c=some (r,u)):l.length<=140737488355328/\(Lib.join l c).length<=140737488355328/\r=Lib.join l c:=by
 unfold strings_Join at h
 cases hb:(decide (l.length<=140737488355328)&&decide ((Lib.join l c).length<=140737488355328)) with
 | false=>rw[hb] at h;cases h
 | true=>
  rw[hb,VW] at h
  simp only[Option.some.injEq,Prod.mk.injEq] at h
  simp only[Tr,V0] at hb
  exact⟨hb.1,hb.2,h.1.symm⟩
theorem Pc {P:Program} {ρ:Ren} (L:Lays.n156 P ρ) (X:Builder.Extra P ρ) {G:Gh} {w:World} {ow:Nat->Option Nat} (l:List (List UInt8)) (c:List UInt8) (v:Value) (hG:Agr G w) (hv:an G (.slice .str) l [v]) (hN:l.length<=140737488355328) (hlen:(Lib.join l c).length<=140737488355328) (u':dh [.val (.slice .str),.val .str]): Calls P (ρ.f 156) #[v,.string (bs c)] w fun e w'=>∃ G' ow' vs,zm G w ow ⟨[.val (.slice .str),.val .str],[.val .str],fun x=>strings_Join x.1 x.2.1⟩ [v,.string (bs c)] (Lib.join l c,u') e w' G' ow' vs:=by
 have hmap:(l.map bs).map (·.data.toList)=l:=by
  rw[US]
  conv=>rhs;rw[<- List.map_id l]
  apply UQ
  intro a _
  simp[bs]
 have hsep:(bs c).data.toList=c:=by simp[bs]
 have hcall:Calls P (ρ.f 156) #[v,.string (bs c)] w fun e w'=>e= .returned (.string (bs (Lib.join l c)))/\RowKit.Below w.heap.size w w':=by
  have hv0:∃ v0,[v]=[v0]/\cW G Ty.str.size (an G .str) l v0:=hv
  obtain⟨v0,e0,a,cap,rfl,hcap,sr,hr⟩:=hv0
  have e0:v= .slice a (List.length (α:=List UInt8) l) cap:=(List.cons.inj e0).1
  subst e0
  rcases hr with rfl | ⟨b,off,cs,T,fz,rfl,hg,hin,hrep⟩
  ·exact (Any.strings_Join_none L X a cap (bs c) w).mono fun e w' ⟨he,hw⟩=>⟨by rw[he];rfl,hw ▸ RowKit.Below.refl _ _⟩
  ·have hw:=hG b _ hg
   have hvs:=yO hrep
   have h:=Any.strings_Join L X b off cap (l.map bs) (bs c) w (fun j x hj=>by
    have hjl:j<l.length:=by
     have:=(Ut.1 hj).1
     simpa using this
    rw[Uu,Ur hjl] at hj
    have hx:bs l[j]=x:=by simpa using hj
    have h3:=congrArg (·[j]?) hvs
    simp only[Uu,Ur hjl,VO] at h3
    rw[UA (by show j<l.length*1;omega),Uq,hx] at h3
    simp[World.cell?,hw]
    simpa using h3) (bJ hw) (by simpa using hN) (by rw[UK];exact hcap) (by rw[hmap,hsep];exact hlen)
   rw[hmap,hsep,UK] at h
   exact h
 refine hcall.mono ?_
 rintro e w' ⟨he,hb⟩
 refine⟨G,fun _=>none,[.string (bs (Lib.join l c))], ?_⟩
 exact {
  ret:=he
  le:=Gh.le_refl G
  agr:=fun b o hbo=>by
   have hw:=hG b o hbo
   rw[hb.block b (bJ hw)];exact hw
  size:=hb.size
  os:=hb.os
  output:=hb.output
  old:=fun b hlt _=>⟨hb.block b hlt,rfl⟩
  own:=fun b i hbi=>by cases hbi
  out:=⟨_,_,rfl,rfl,rfl,trivial⟩
  hnd:=fun _=>rfl }
theorem Ry {P:Program} {ρ:Ren} (L:Lays.n156 P ρ) (X:Builder.Extra P ρ):eC P (ρ.f 156) ⟨[.val (.slice .str),.val .str],[.val .str],fun x=>strings_Join x.1 x.2.1⟩:=by
 intro G w ow args x y hG how ha hm _
 obtain⟨l,c,u⟩:=x
 obtain⟨r,u'⟩:=y
 obtain⟨v,us,h1,l1,hv,v',us',h2,l2,hv',h3⟩:=ha
 have e1:=h1 rfl
 have e2:=h2 rfl
 have e3:us'=[]:=h3
 have e5:v'= .string (bs c):=by simpa [uS,bK,an] using hv'
 subst e1;subst e2;subst e3;subst e5
 obtain⟨hN,hlen,rfl⟩:=join_some hm
 exact Pc L X l c v hG hv hN hlen u'
end Go.Dn
set_option linter.all false
namespace Go.Md
open Go.Dn
noncomputable section
abbrev rJ (s c:List UInt8):Option (List (List UInt8)×Unit):=strings_Split s c
def gq (a0:List Int):Option (List Int×Unit):=bif decide (a0.length<=1000000) then some (trim a0,()) else none
def pO (a0:bQ):Option (bQ×Unit):=
 Option.bind (gp false a0.2) fun r1=>
 some (r1.1,())
noncomputable def jj (a0:List Int):Option ((List Int)×Unit):=
 bif List.isEmpty a0 then
  both (
   some ([],())) (
   chk (decide ((0+(List.length a0))*4<=140737488355328)&&decide (0+(List.length a0)<=maxLen)) <|
   some (a0,()))
 else
  chk (decide ((0+(List.length a0))*4<=140737488355328)&&decide (0+(List.length a0)<=maxLen)) <|
  some (a0,())
def mN (a0:Int) (a1:Int) (a2:Int):Option (Int×Int×Unit):=
 Option.bind (
  bif a2 != 0 then
   some (decide (a2<=a0),())
  else
   some (false,())) fun v1=>
 aF (β:=(Int×Int×Unit)) (γ:=(Int×Int×Int×Unit)) (
  bif v1.1 then
   none
  else
   some (Sum.inr (a0,a1,a2,()))) fun v2=>
 let n3:Int:=bn (((BitVec.ofInt (IntKind.bits .u64) (bn ((bn v2.1)*2 ^ 32)) ||| BitVec.ofInt (IntKind.bits .u64) (bn v2.2.1)).toNat:Int))
 chk ((bn v2.2.2.1) != (0:Int)) <|
 chk ((bn v2.2.2.1) != (0:Int)) <|
 some (lW (bn (Int.tdiv n3 (bn v2.2.2.1))),lW (Int.tmod n3 (bn v2.2.2.1)),())
abbrev gQ:Type:=Int×Int×(List Int)×Unit
abbrev ke:Type:=(((List Int)×Unit) ⊕ ((List Int)×Unit))
def dY (x1:gQ) (again:gQ->Option ke):Option ke:=
 bif decide (x1.1<x1.2.1) then
  chk (decide (0<=x1.2.1)&&decide (x1.2.1<(x1.2.2.1.length:Int))) <|
  Option.bind (x1.2.2.1[x1.2.1.toNat]?) fun y2=>
  chk (decide (0<=x1.1)&&decide (x1.1<(x1.2.2.1.length:Int))) <|
  Option.bind (x1.2.2.1[x1.1.toNat]?) fun y3=>
  chk (decide (0<=x1.1)&&decide (x1.1<(x1.2.2.1.length:Int))) <|
  Option.bind (x1.2.2.1[x1.1.toNat]?) fun _=>
  chk (decide (0<=x1.2.1)&&decide (x1.2.1<(List.length (List.set x1.2.2.1 x1.1.toNat y2):Int))) <|
  Option.bind ((List.set x1.2.2.1 x1.1.toNat y2)[x1.2.1.toNat]?) fun _=>
  again (w64 (x1.1+1),w64 (x1.2.1 - 1),List.set (List.set x1.2.2.1 x1.1.toNat y2) x1.2.1.toNat y3,())
 else
  some (Sum.inr (x1.2.2.1,()))
def gG (a0:List Int):Option ((List Int)×Unit):=
 aF (β:=((List Int)×Unit)) (γ:=((List Int)×Unit)) (
  iter (X:=gQ) (β:=ke) (Int.natAbs (0:Int)+(Int.natAbs (w64 (((List.length a0:Int)) - 1))+(List.length a0+2))) (0,w64 (((List.length a0:Int)) - 1),a0,()) (dY)) fun v6=>
 some (v6.1,())
abbrev kz:Type:=(List Int)×(List Int)×Int×Int×Bool×(List Int)×Unit
abbrev ox:Type:=((((List UInt8)×Unit) ⊕ ((List Int)×Bool×(List Int)×Unit)) ⊕ ((List Int)×(List Int)×Int×Bool×(List Int)×Unit))
noncomputable def cU (x1:kz) (again:kz->Option ox):Option ox:=
 bif decide (x1.2.2.2.1>=0) then
  chk (decide (0<=x1.2.2.2.1)&&decide (x1.2.2.2.1<(x1.2.1.length:Int))) <|
  Option.bind (x1.2.1[x1.2.2.2.1.toNat]?) fun y2=>
  Option.bind (mN x1.2.2.1 y2 10) fun r3=>
  chk (decide (0<=x1.2.2.2.1)&&decide (x1.2.2.2.1<(x1.2.1.length:Int))) <|
  Option.bind (x1.2.1[x1.2.2.2.1.toNat]?) fun _=>
  again (x1.1,List.set x1.2.1 x1.2.2.2.1.toNat r3.1,r3.2.1,w64 (x1.2.2.2.1 - 1),x1.2.2.2.2.1,x1.2.2.2.2.2.1,())
 else
  some (Sum.inr (x1.1,x1.2.1,x1.2.2.1,x1.2.2.2.2.1,x1.2.2.2.2.2.1,()))
abbrev iD:Type:=(List Int)×(List Int)×Bool×(List Int)×Unit
abbrev ov:Type:=(((List UInt8)×Unit) ⊕ ((List Int)×Bool×(List Int)×Unit))
noncomputable def gv (x1:iD) (again:iD->Option ov):Option ov:=
 bif decide (((x1.2.1.length:Int))>0) then
  aF (β:=(((List UInt8)×Unit) ⊕ ((List Int)×Bool×(List Int)×Unit))) (γ:=((List Int)×(List Int)×Int×Bool×(List Int)×Unit)) (
   iter (X:=kz) (β:=ox) (x1.1.length+(x1.2.1.length+(Int.natAbs (0:Int)+(Int.natAbs (w64 (((x1.2.1.length:Int)) - 1))+(x1.2.2.2.1.length+2))))) (x1.1,x1.2.1,0,w64 (((x1.2.1.length:Int)) - 1),x1.2.2.1,x1.2.2.2.1,()) (cU)) fun v2=>
  chk (decide (((v2.1.length)+1)*1<=140737488355328)&&decide ((v2.1.length)+1<=maxLen)) <|
  Option.bind (gq v2.2.1) fun r3=>
  again (v2.1++[(wu8 (48+(wu8 v2.2.2.1)))],r3.1,v2.2.2.2.1,v2.2.2.2.2.1,())
 else
  some (Sum.inr (x1.1,x1.2.2.1,x1.2.2.2.1,()))
noncomputable def oo (a0:bQ):Option ((List UInt8)×Unit):=
 bif ((a0.2.length:Int))==0 then
  some ([48],())
 else
  Option.bind (jj a0.2) fun r1=>
  aF (β:=((List UInt8)×Unit)) (γ:=((List Int)×Bool×(List Int)×Unit)) (
   iter (X:=iD) (β:=ov) ((20*List.length (([],r1.1,a0.1,a0.2,()):iD).2.1+2)) ([],r1.1,a0.1,a0.2,()) (gv)) fun v9=>
  bif v9.2.1 then
   chk (decide (((v9.1.length)+1)*1<=140737488355328)&&decide ((v9.1.length)+1<=maxLen)) <|
   Option.bind (gG (v9.1++[45])) fun r10=>
   some (List.map (fun n=>UInt8.ofNat (Int.toNat n)) r10.1,())
  else
   Option.bind (gG v9.1) fun r11=>
   some (List.map (fun n=>UInt8.ofNat (Int.toNat n)) r11.1,())
def nP (a0:List UInt8) (a1:Int):Option ((List UInt8)×(List UInt8)×Unit):=
 let n1:Int:=w64 ((w64 (a1+1)) - ((List.length a0:Int)))
 Option.bind (strings_Repeat [48] (if n1>0 then n1 else 0)) fun r2=>
 chk (decide (r2.1.length+List.length a0<=maxLen)) <|
 chk (decide (0<=(0:Int))&&decide ((0:Int)<=(w64 (((List.length (r2.1++a0):Int)) - a1)))&&decide ((w64 (((List.length (r2.1++a0):Int)) - a1))<=(List.length (r2.1++a0):Int))) <|
 chk (decide (0<=(w64 (((List.length (r2.1++a0):Int)) - a1)))&&decide ((w64 (((List.length (r2.1++a0):Int)) - a1))<=((List.length (r2.1++a0):Int)))&&decide (((List.length (r2.1++a0):Int))<=(List.length (r2.1++a0):Int))) <|
 some (List.drop 0 (List.take (Int.toNat (w64 (((List.length (r2.1++a0):Int)) - a1))) (r2.1++a0)),List.drop (Int.toNat (w64 (((List.length (r2.1++a0):Int)) - a1))) (List.take (Int.toNat ((List.length (r2.1++a0):Int))) (r2.1++a0)),())
def oB (a0:ah):Option ((List UInt8)×Unit):=
 bif decide (a0.1<0) then
  some ([45],())
 else
  some ([],())
noncomputable def sR (a0:ah):Option ((List UInt8)×Int×Unit):=
 Option.bind (dZ a0) fun r1=>
 bif r1.1 != 0 then
  some ([],r1.1,())
 else
  Option.bind (qg a0.1) fun r2=>
  Option.bind (pO r2.1) fun r3=>
  Option.bind (oo r3.1) fun r4=>
  Option.bind (nP r4.1 a0.2) fun r5=>
  bif a0.2==0 then
   Option.bind (oB a0) fun r6=>
   chk (decide (r6.1.length+r5.1.length<=maxLen)) <|
   some (r6.1++r5.1,0,())
  else
   Option.bind (oB a0) fun r7=>
   chk (decide (r7.1.length+r5.1.length<=maxLen)) <|
   chk (decide (List.length (r7.1++r5.1)+List.length [46]<=maxLen)) <|
   chk (decide (List.length ((r7.1++r5.1)++[46])+r5.2.1.length<=maxLen)) <|
   some (((r7.1++r5.1)++[46])++r5.2.1,0,())
noncomputable def oA (a0:ah):Option ((List UInt8)×Unit):=
 Option.bind (sR a0) fun r1=>
 some (r1.1,())
def nh (a0:List (List UInt8)):Option ((List UInt8)×Unit):=
 Option.bind (strings_Join a0 [32]) fun r1=>
 chk (decide (r1.1.length+List.length [10]<=maxLen)) <|
 some (r1.1++[10],())
noncomputable def gI (a0:aa):Option ((List UInt8)×Unit):=
 Option.bind (strconv_Itoa a0.1) fun r1=>
 Option.bind (eP) fun r2=>
 Option.bind (idx r2.1 a0.2.1) fun y3=>
 Option.bind (strconv_Itoa a0.2.2.1) fun r4=>
 Option.bind (dL) fun r5=>
 Option.bind (idx r5.1 a0.2.2.2.1) fun y6=>
 Option.bind (strconv_Itoa a0.2.2.2.2.1) fun r7=>
 Option.bind (bp a0.2.2.2.1) fun r8=>
 aF (β:=((List UInt8)×Unit)) (γ:=((List (List UInt8))×Int×Int×Int×Int×Int×(List UInt8)×Int×Int×(List UInt8)×Int×Int×Int×Int×Bool×Bool×Bool×Bool×Bool×Bool×Unit)) (
  bif r8.1.1 then
   some (Sum.inr ([r1.1,y3,r4.1,y6,r7.1]++[a0.2.2.2.2.2.1],a0.1,a0.2.1,a0.2.2.1,a0.2.2.2.1,a0.2.2.2.2.1,a0.2.2.2.2.2.1,a0.2.2.2.2.2.2.1.1,a0.2.2.2.2.2.2.1.2,a0.2.2.2.2.2.2.2.1,a0.2.2.2.2.2.2.2.2.1.1,a0.2.2.2.2.2.2.2.2.1.2,a0.2.2.2.2.2.2.2.2.2.1,a0.2.2.2.2.2.2.2.2.2.2,r8.1.1,r8.1.2.1,r8.1.2.2.1,r8.1.2.2.2.1,r8.1.2.2.2.2.1,r8.1.2.2.2.2.2,()))
  else
   some (Sum.inr ([r1.1,y3,r4.1,y6,r7.1],a0.1,a0.2.1,a0.2.2.1,a0.2.2.2.1,a0.2.2.2.2.1,a0.2.2.2.2.2.1,a0.2.2.2.2.2.2.1.1,a0.2.2.2.2.2.2.1.2,a0.2.2.2.2.2.2.2.1,a0.2.2.2.2.2.2.2.2.1.1,a0.2.2.2.2.2.2.2.2.1.2,a0.2.2.2.2.2.2.2.2.2.1,a0.2.2.2.2.2.2.2.2.2.2,r8.1.1,r8.1.2.1,r8.1.2.2.1,r8.1.2.2.2.1,r8.1.2.2.2.2.1,r8.1.2.2.2.2.2,()))) fun v9=>
 aF (β:=((List UInt8)×Unit)) (γ:=((List (List UInt8))×Int×Int×Int×Int×Int×(List UInt8)×Int×Int×(List UInt8)×Int×Int×Int×Int×Bool×Bool×Bool×Bool×Bool×Bool×Unit)) (
  bif v9.2.2.2.2.2.2.2.2.2.2.2.2.2.2.2.1 then
   Option.bind (oA (v9.2.2.2.2.2.2.2.1,v9.2.2.2.2.2.2.2.2.1)) fun r10=>
   chk (decide (((v9.1.length)+1)*16<=140737488355328)&&decide ((v9.1.length)+1<=maxLen)) <|
   some (Sum.inr (v9.1++[r10.1],v9.2.1,v9.2.2.1,v9.2.2.2.1,v9.2.2.2.2.1,v9.2.2.2.2.2.1,v9.2.2.2.2.2.2.1,v9.2.2.2.2.2.2.2.1,v9.2.2.2.2.2.2.2.2.1,v9.2.2.2.2.2.2.2.2.2.1,v9.2.2.2.2.2.2.2.2.2.2.1,v9.2.2.2.2.2.2.2.2.2.2.2.1,v9.2.2.2.2.2.2.2.2.2.2.2.2.1,v9.2.2.2.2.2.2.2.2.2.2.2.2.2.1,v9.2.2.2.2.2.2.2.2.2.2.2.2.2.2.1,v9.2.2.2.2.2.2.2.2.2.2.2.2.2.2.2.1,v9.2.2.2.2.2.2.2.2.2.2.2.2.2.2.2.2.1,v9.2.2.2.2.2.2.2.2.2.2.2.2.2.2.2.2.2.1,v9.2.2.2.2.2.2.2.2.2.2.2.2.2.2.2.2.2.2.1,v9.2.2.2.2.2.2.2.2.2.2.2.2.2.2.2.2.2.2.2.1,()))
  else
   some (Sum.inr (v9.1,v9.2.1,v9.2.2.1,v9.2.2.2.1,v9.2.2.2.2.1,v9.2.2.2.2.2.1,v9.2.2.2.2.2.2.1,v9.2.2.2.2.2.2.2.1,v9.2.2.2.2.2.2.2.2.1,v9.2.2.2.2.2.2.2.2.2.1,v9.2.2.2.2.2.2.2.2.2.2.1,v9.2.2.2.2.2.2.2.2.2.2.2.1,v9.2.2.2.2.2.2.2.2.2.2.2.2.1,v9.2.2.2.2.2.2.2.2.2.2.2.2.2.1,v9.2.2.2.2.2.2.2.2.2.2.2.2.2.2.1,v9.2.2.2.2.2.2.2.2.2.2.2.2.2.2.2.1,v9.2.2.2.2.2.2.2.2.2.2.2.2.2.2.2.2.1,v9.2.2.2.2.2.2.2.2.2.2.2.2.2.2.2.2.2.1,v9.2.2.2.2.2.2.2.2.2.2.2.2.2.2.2.2.2.2.1,v9.2.2.2.2.2.2.2.2.2.2.2.2.2.2.2.2.2.2.2.1,()))) fun v11=>
 aF (β:=((List UInt8)×Unit)) (γ:=((List (List UInt8))×Int×Int×Int×Int×Int×(List UInt8)×Int×Int×(List UInt8)×Int×Int×Int×Int×Bool×Bool×Bool×Bool×Bool×Bool×Unit)) (
  bif v11.2.2.2.2.2.2.2.2.2.2.2.2.2.2.2.2.1 then
   chk (decide (((v11.1.length)+1)*16<=140737488355328)&&decide ((v11.1.length)+1<=maxLen)) <|
   some (Sum.inr (v11.1++[v11.2.2.2.2.2.2.2.2.2.1],v11.2.1,v11.2.2.1,v11.2.2.2.1,v11.2.2.2.2.1,v11.2.2.2.2.2.1,v11.2.2.2.2.2.2.1,v11.2.2.2.2.2.2.2.1,v11.2.2.2.2.2.2.2.2.1,v11.2.2.2.2.2.2.2.2.2.1,v11.2.2.2.2.2.2.2.2.2.2.1,v11.2.2.2.2.2.2.2.2.2.2.2.1,v11.2.2.2.2.2.2.2.2.2.2.2.2.1,v11.2.2.2.2.2.2.2.2.2.2.2.2.2.1,v11.2.2.2.2.2.2.2.2.2.2.2.2.2.2.1,v11.2.2.2.2.2.2.2.2.2.2.2.2.2.2.2.1,v11.2.2.2.2.2.2.2.2.2.2.2.2.2.2.2.2.1,v11.2.2.2.2.2.2.2.2.2.2.2.2.2.2.2.2.2.1,v11.2.2.2.2.2.2.2.2.2.2.2.2.2.2.2.2.2.2.1,v11.2.2.2.2.2.2.2.2.2.2.2.2.2.2.2.2.2.2.2.1,()))
  else
   some (Sum.inr (v11.1,v11.2.1,v11.2.2.1,v11.2.2.2.1,v11.2.2.2.2.1,v11.2.2.2.2.2.1,v11.2.2.2.2.2.2.1,v11.2.2.2.2.2.2.2.1,v11.2.2.2.2.2.2.2.2.1,v11.2.2.2.2.2.2.2.2.2.1,v11.2.2.2.2.2.2.2.2.2.2.1,v11.2.2.2.2.2.2.2.2.2.2.2.1,v11.2.2.2.2.2.2.2.2.2.2.2.2.1,v11.2.2.2.2.2.2.2.2.2.2.2.2.2.1,v11.2.2.2.2.2.2.2.2.2.2.2.2.2.2.1,v11.2.2.2.2.2.2.2.2.2.2.2.2.2.2.2.1,v11.2.2.2.2.2.2.2.2.2.2.2.2.2.2.2.2.1,v11.2.2.2.2.2.2.2.2.2.2.2.2.2.2.2.2.2.1,v11.2.2.2.2.2.2.2.2.2.2.2.2.2.2.2.2.2.2.1,v11.2.2.2.2.2.2.2.2.2.2.2.2.2.2.2.2.2.2.2.1,()))) fun v12=>
 aF (β:=((List UInt8)×Unit)) (γ:=((List (List UInt8))×Int×Int×Int×Int×Int×(List UInt8)×Int×Int×(List UInt8)×Int×Int×Int×Int×Bool×Bool×Bool×Bool×Bool×Bool×Unit)) (
  bif v12.2.2.2.2.2.2.2.2.2.2.2.2.2.2.2.2.2.1 then
   Option.bind (oA (v12.2.2.2.2.2.2.2.2.2.2.1,v12.2.2.2.2.2.2.2.2.2.2.2.1)) fun r13=>
   chk (decide (((v12.1.length)+1)*16<=140737488355328)&&decide ((v12.1.length)+1<=maxLen)) <|
   some (Sum.inr (v12.1++[r13.1],v12.2.1,v12.2.2.1,v12.2.2.2.1,v12.2.2.2.2.1,v12.2.2.2.2.2.1,v12.2.2.2.2.2.2.1,v12.2.2.2.2.2.2.2.1,v12.2.2.2.2.2.2.2.2.1,v12.2.2.2.2.2.2.2.2.2.1,v12.2.2.2.2.2.2.2.2.2.2.1,v12.2.2.2.2.2.2.2.2.2.2.2.1,v12.2.2.2.2.2.2.2.2.2.2.2.2.1,v12.2.2.2.2.2.2.2.2.2.2.2.2.2.1,v12.2.2.2.2.2.2.2.2.2.2.2.2.2.2.1,v12.2.2.2.2.2.2.2.2.2.2.2.2.2.2.2.1,v12.2.2.2.2.2.2.2.2.2.2.2.2.2.2.2.2.1,v12.2.2.2.2.2.2.2.2.2.2.2.2.2.2.2.2.2.1,v12.2.2.2.2.2.2.2.2.2.2.2.2.2.2.2.2.2.2.1,v12.2.2.2.2.2.2.2.2.2.2.2.2.2.2.2.2.2.2.2.1,()))
  else
   some (Sum.inr (v12.1,v12.2.1,v12.2.2.1,v12.2.2.2.1,v12.2.2.2.2.1,v12.2.2.2.2.2.1,v12.2.2.2.2.2.2.1,v12.2.2.2.2.2.2.2.1,v12.2.2.2.2.2.2.2.2.1,v12.2.2.2.2.2.2.2.2.2.1,v12.2.2.2.2.2.2.2.2.2.2.1,v12.2.2.2.2.2.2.2.2.2.2.2.1,v12.2.2.2.2.2.2.2.2.2.2.2.2.1,v12.2.2.2.2.2.2.2.2.2.2.2.2.2.1,v12.2.2.2.2.2.2.2.2.2.2.2.2.2.2.1,v12.2.2.2.2.2.2.2.2.2.2.2.2.2.2.2.1,v12.2.2.2.2.2.2.2.2.2.2.2.2.2.2.2.2.1,v12.2.2.2.2.2.2.2.2.2.2.2.2.2.2.2.2.2.1,v12.2.2.2.2.2.2.2.2.2.2.2.2.2.2.2.2.2.2.1,v12.2.2.2.2.2.2.2.2.2.2.2.2.2.2.2.2.2.2.2.1,()))) fun v14=>
 aF (β:=((List UInt8)×Unit)) (γ:=((List (List UInt8))×Int×Int×Int×Int×Int×(List UInt8)×Int×Int×(List UInt8)×Int×Int×Int×Int×Bool×Bool×Bool×Bool×Bool×Bool×Unit)) (
  bif v14.2.2.2.2.2.2.2.2.2.2.2.2.2.2.2.2.2.2.1 then
   Option.bind (strconv_Itoa v14.2.2.2.2.2.2.2.2.2.2.2.2.1) fun r15=>
   chk (decide (((v14.1.length)+1)*16<=140737488355328)&&decide ((v14.1.length)+1<=maxLen)) <|
   some (Sum.inr (v14.1++[r15.1],v14.2.1,v14.2.2.1,v14.2.2.2.1,v14.2.2.2.2.1,v14.2.2.2.2.2.1,v14.2.2.2.2.2.2.1,v14.2.2.2.2.2.2.2.1,v14.2.2.2.2.2.2.2.2.1,v14.2.2.2.2.2.2.2.2.2.1,v14.2.2.2.2.2.2.2.2.2.2.1,v14.2.2.2.2.2.2.2.2.2.2.2.1,v14.2.2.2.2.2.2.2.2.2.2.2.2.1,v14.2.2.2.2.2.2.2.2.2.2.2.2.2.1,v14.2.2.2.2.2.2.2.2.2.2.2.2.2.2.1,v14.2.2.2.2.2.2.2.2.2.2.2.2.2.2.2.1,v14.2.2.2.2.2.2.2.2.2.2.2.2.2.2.2.2.1,v14.2.2.2.2.2.2.2.2.2.2.2.2.2.2.2.2.2.1,v14.2.2.2.2.2.2.2.2.2.2.2.2.2.2.2.2.2.2.1,v14.2.2.2.2.2.2.2.2.2.2.2.2.2.2.2.2.2.2.2.1,()))
  else
   some (Sum.inr (v14.1,v14.2.1,v14.2.2.1,v14.2.2.2.1,v14.2.2.2.2.1,v14.2.2.2.2.2.1,v14.2.2.2.2.2.2.1,v14.2.2.2.2.2.2.2.1,v14.2.2.2.2.2.2.2.2.1,v14.2.2.2.2.2.2.2.2.2.1,v14.2.2.2.2.2.2.2.2.2.2.1,v14.2.2.2.2.2.2.2.2.2.2.2.1,v14.2.2.2.2.2.2.2.2.2.2.2.2.1,v14.2.2.2.2.2.2.2.2.2.2.2.2.2.1,v14.2.2.2.2.2.2.2.2.2.2.2.2.2.2.1,v14.2.2.2.2.2.2.2.2.2.2.2.2.2.2.2.1,v14.2.2.2.2.2.2.2.2.2.2.2.2.2.2.2.2.1,v14.2.2.2.2.2.2.2.2.2.2.2.2.2.2.2.2.2.1,v14.2.2.2.2.2.2.2.2.2.2.2.2.2.2.2.2.2.2.1,v14.2.2.2.2.2.2.2.2.2.2.2.2.2.2.2.2.2.2.2.1,()))) fun v16=>
 bif v16.2.2.2.2.2.2.2.2.2.2.2.2.2.2.2.2.2.2.2.1 then
  Option.bind (strconv_Itoa v16.2.2.2.2.2.2.2.2.2.2.2.2.2.1) fun r17=>
  chk (decide (((v16.1.length)+1)*16<=140737488355328)&&decide ((v16.1.length)+1<=maxLen)) <|
  Option.bind (nh (v16.1++[r17.1])) fun r18=>
  some (r18.1,())
 else
  Option.bind (nh v16.1) fun r19=>
  some (r19.1,())
def iI:List aa->Option (List UInt8)
 | []=>some []
 | d::r=>Option.bind (gI d) fun s=>Option.bind (iI r) fun t=>some (s.1++t)
def jF (a0:List aa):Option ((List UInt8)×Int×Unit):=
 Option.bind (eH a0) fun r1=>
 bif r1.1 != 0 then
  some ([],r1.1,())
 else
  Option.bind (iI a0) fun t=>
  chk (decide (t.length<=140737488355328)) <|
  bif decide (((List.length t:Int))>200000) then
   some ([],2,())
  else
   some (t,0,())
def Ds (a0:ah):Option ((List UInt8)×Int×Unit):=
 Option.bind (gh a0) fun r1=>
 bif r1.1 != 0 then
  some ([],1,())
 else
  Option.bind (strconv_Itoa (if (w64 (0 - a0.1))>a0.1 then (w64 (0 - a0.1)) else a0.1)) fun r2=>
  let n3:Int:=w64 ((w64 (a0.2+1)) - ((r2.1.length:Int)))
  Option.bind (strings_Repeat [48] (if n3>0 then n3 else 0)) fun r4=>
  chk (decide (r4.1.length+r2.1.length<=maxLen)) <|
  aF (β:=((List UInt8)×Int×Unit)) (γ:=((List UInt8)×Int×Int×Unit)) (
   bif decide (a0.2>0) then
    chk (decide (0<=(0:Int))&&decide ((0:Int)<=(w64 (((List.length (r4.1++r2.1):Int)) - a0.2)))&&decide ((w64 (((List.length (r4.1++r2.1):Int)) - a0.2))<=(List.length (r4.1++r2.1):Int))) <|
    chk (decide (List.length (List.drop 0 (List.take (Int.toNat (w64 (((List.length (r4.1++r2.1):Int)) - a0.2))) (r4.1++r2.1)))+List.length [46]<=maxLen)) <|
    chk (decide (0<=(w64 (((List.length (r4.1++r2.1):Int)) - a0.2)))&&decide ((w64 (((List.length (r4.1++r2.1):Int)) - a0.2))<=((List.length (r4.1++r2.1):Int)))&&decide (((List.length (r4.1++r2.1):Int))<=(List.length (r4.1++r2.1):Int))) <|
    chk (decide (List.length ((List.drop 0 (List.take (Int.toNat (w64 (((List.length (r4.1++r2.1):Int)) - a0.2))) (r4.1++r2.1)))++[46])+List.length (List.drop (Int.toNat (w64 (((List.length (r4.1++r2.1):Int)) - a0.2))) (List.take (Int.toNat ((List.length (r4.1++r2.1):Int))) (r4.1++r2.1)))<=maxLen)) <|
    some (Sum.inr (((List.drop 0 (List.take (Int.toNat (w64 (((List.length (r4.1++r2.1):Int)) - a0.2))) (r4.1++r2.1)))++[46])++(List.drop (Int.toNat (w64 (((List.length (r4.1++r2.1):Int)) - a0.2))) (List.take (Int.toNat ((List.length (r4.1++r2.1):Int))) (r4.1++r2.1))),a0.1,a0.2,()))
   else
    some (Sum.inr (r4.1++r2.1,a0.1,a0.2,()))) fun v5=>
  bif decide (v5.2.1<0) then
   chk (decide (List.length [45]+v5.1.length<=maxLen)) <|
   some ([45]++v5.1,0,())
  else
   some (v5.1,0,())
def lO (a0:ah):Option ((List UInt8)×Unit):=
 Option.bind (Ds a0) fun r1=>
 some (r1.1,())
def Al (a0:aa):Option ((List (List UInt8))×Unit):=
 aF (β:=((List (List UInt8))×Unit)) (γ:=((List UInt8)×Int×Int×Int×Int×Int×(List UInt8)×Int×Int×(List UInt8)×Int×Int×Int×Int×Unit)) (
  bif a0.2.1==2 then
   some (Sum.inr ([115,101,108,108,101,114],a0.1,a0.2.1,a0.2.2.1,a0.2.2.2.1,a0.2.2.2.2.1,a0.2.2.2.2.2.1,a0.2.2.2.2.2.2.1.1,a0.2.2.2.2.2.2.1.2,a0.2.2.2.2.2.2.2.1,a0.2.2.2.2.2.2.2.2.1.1,a0.2.2.2.2.2.2.2.2.1.2,a0.2.2.2.2.2.2.2.2.2.1,a0.2.2.2.2.2.2.2.2.2.2,()))
  else
   some (Sum.inr ([98,117,121,101,114],a0.1,a0.2.1,a0.2.2.1,a0.2.2.2.1,a0.2.2.2.2.1,a0.2.2.2.2.2.1,a0.2.2.2.2.2.2.1.1,a0.2.2.2.2.2.2.1.2,a0.2.2.2.2.2.2.2.1,a0.2.2.2.2.2.2.2.2.1.1,a0.2.2.2.2.2.2.2.2.1.2,a0.2.2.2.2.2.2.2.2.2.1,a0.2.2.2.2.2.2.2.2.2.2,()))) fun v1=>
 Option.bind (strconv_Itoa v1.2.1) fun r2=>
 Option.bind (strconv_Itoa v1.2.2.2.1) fun r3=>
 Option.bind (rJ [97,100,100,32,113,117,97,110,116,105,116,121,32,100,117,101,32,112,114,105,99,101,32,121,101,115,32,110,111,32,111,102,102,101,114,32,116,97,107,101,32,115,104,105,112,32,114,101,99,101,105,118,101,32,114,101,116,117,114,110] [32]) fun r4=>
 Option.bind (idx r4.1 (w64 (v1.2.2.2.2.1 - 1))) fun y5=>
 Option.bind (strconv_Itoa v1.2.2.2.2.2.1) fun r6=>
 Option.bind (cA v1.2.2.2.2.1) fun r7=>
 bif r7.1.2.2.2.1 then
  Option.bind (lO (v1.2.2.2.2.2.2.2.1,v1.2.2.2.2.2.2.2.2.1)) fun r8=>
  Option.bind (lO (v1.2.2.2.2.2.2.2.2.2.2.1,v1.2.2.2.2.2.2.2.2.2.2.2.1)) fun r9=>
  Option.bind (strconv_Itoa v1.2.2.2.2.2.2.2.2.2.2.2.2.1) fun r10=>
  some ([r2.1,v1.1,r3.1,y5,r6.1]++[v1.2.2.2.2.2.2.1,r8.1,v1.2.2.2.2.2.2.2.2.2.1,r9.1,r10.1],())
 else
  aF (β:=((List (List UInt8))×Unit)) (γ:=((List (List UInt8))×Int×Int×Int×Int×Int×(List UInt8)×Int×Int×(List UInt8)×Int×Int×Int×Int×Bool×Bool×Bool×Bool×Bool×Unit)) (
   bif r7.1.1 then
    Option.bind (lO (v1.2.2.2.2.2.2.2.1,v1.2.2.2.2.2.2.2.2.1)) fun r11=>
    some (Sum.inr ([r2.1,v1.1,r3.1,y5,r6.1]++[r11.1],v1.2.1,v1.2.2.1,v1.2.2.2.1,v1.2.2.2.2.1,v1.2.2.2.2.2.1,v1.2.2.2.2.2.2.1,v1.2.2.2.2.2.2.2.1,v1.2.2.2.2.2.2.2.2.1,v1.2.2.2.2.2.2.2.2.2.1,v1.2.2.2.2.2.2.2.2.2.2.1,v1.2.2.2.2.2.2.2.2.2.2.2.1,v1.2.2.2.2.2.2.2.2.2.2.2.2.1,v1.2.2.2.2.2.2.2.2.2.2.2.2.2.1,r7.1.1,r7.1.2.1,r7.1.2.2.1,r7.1.2.2.2.1,r7.1.2.2.2.2,()))
   else
    some (Sum.inr ([r2.1,v1.1,r3.1,y5,r6.1],v1.2.1,v1.2.2.1,v1.2.2.2.1,v1.2.2.2.2.1,v1.2.2.2.2.2.1,v1.2.2.2.2.2.2.1,v1.2.2.2.2.2.2.2.1,v1.2.2.2.2.2.2.2.2.1,v1.2.2.2.2.2.2.2.2.2.1,v1.2.2.2.2.2.2.2.2.2.2.1,v1.2.2.2.2.2.2.2.2.2.2.2.1,v1.2.2.2.2.2.2.2.2.2.2.2.2.1,v1.2.2.2.2.2.2.2.2.2.2.2.2.2.1,r7.1.1,r7.1.2.1,r7.1.2.2.1,r7.1.2.2.2.1,r7.1.2.2.2.2,()))) fun v12=>
  aF (β:=((List (List UInt8))×Unit)) (γ:=((List (List UInt8))×Int×Int×Int×Int×Int×(List UInt8)×Int×Int×(List UInt8)×Int×Int×Int×Int×Bool×Bool×Bool×Bool×Bool×Unit)) (
   bif v12.2.2.2.2.2.2.2.2.2.2.2.2.2.2.2.1 then
    Option.bind (lO (v12.2.2.2.2.2.2.2.2.2.2.1,v12.2.2.2.2.2.2.2.2.2.2.2.1)) fun r13=>
    chk (decide (((v12.1.length)+1)*16<=140737488355328)&&decide ((v12.1.length)+1<=maxLen)) <|
    some (Sum.inr (v12.1++[r13.1],v12.2.1,v12.2.2.1,v12.2.2.2.1,v12.2.2.2.2.1,v12.2.2.2.2.2.1,v12.2.2.2.2.2.2.1,v12.2.2.2.2.2.2.2.1,v12.2.2.2.2.2.2.2.2.1,v12.2.2.2.2.2.2.2.2.2.1,v12.2.2.2.2.2.2.2.2.2.2.1,v12.2.2.2.2.2.2.2.2.2.2.2.1,v12.2.2.2.2.2.2.2.2.2.2.2.2.1,v12.2.2.2.2.2.2.2.2.2.2.2.2.2.1,v12.2.2.2.2.2.2.2.2.2.2.2.2.2.2.1,v12.2.2.2.2.2.2.2.2.2.2.2.2.2.2.2.1,v12.2.2.2.2.2.2.2.2.2.2.2.2.2.2.2.2.1,v12.2.2.2.2.2.2.2.2.2.2.2.2.2.2.2.2.2.1,v12.2.2.2.2.2.2.2.2.2.2.2.2.2.2.2.2.2.2.1,()))
   else
    some (Sum.inr (v12.1,v12.2.1,v12.2.2.1,v12.2.2.2.1,v12.2.2.2.2.1,v12.2.2.2.2.2.1,v12.2.2.2.2.2.2.1,v12.2.2.2.2.2.2.2.1,v12.2.2.2.2.2.2.2.2.1,v12.2.2.2.2.2.2.2.2.2.1,v12.2.2.2.2.2.2.2.2.2.2.1,v12.2.2.2.2.2.2.2.2.2.2.2.1,v12.2.2.2.2.2.2.2.2.2.2.2.2.1,v12.2.2.2.2.2.2.2.2.2.2.2.2.2.1,v12.2.2.2.2.2.2.2.2.2.2.2.2.2.2.1,v12.2.2.2.2.2.2.2.2.2.2.2.2.2.2.2.1,v12.2.2.2.2.2.2.2.2.2.2.2.2.2.2.2.2.1,v12.2.2.2.2.2.2.2.2.2.2.2.2.2.2.2.2.2.1,v12.2.2.2.2.2.2.2.2.2.2.2.2.2.2.2.2.2.2.1,()))) fun v14=>
  aF (β:=((List (List UInt8))×Unit)) (γ:=((List (List UInt8))×Int×Int×Int×Int×Int×(List UInt8)×Int×Int×(List UInt8)×Int×Int×Int×Int×Bool×Bool×Bool×Bool×Bool×Unit)) (
   bif v14.2.2.2.2.2.2.2.2.2.2.2.2.2.2.2.2.1 then
    Option.bind (strconv_Itoa v14.2.2.2.2.2.2.2.2.2.2.2.2.1) fun r15=>
    chk (decide (((v14.1.length)+1)*16<=140737488355328)&&decide ((v14.1.length)+1<=maxLen)) <|
    some (Sum.inr (v14.1++[r15.1],v14.2.1,v14.2.2.1,v14.2.2.2.1,v14.2.2.2.2.1,v14.2.2.2.2.2.1,v14.2.2.2.2.2.2.1,v14.2.2.2.2.2.2.2.1,v14.2.2.2.2.2.2.2.2.1,v14.2.2.2.2.2.2.2.2.2.1,v14.2.2.2.2.2.2.2.2.2.2.1,v14.2.2.2.2.2.2.2.2.2.2.2.1,v14.2.2.2.2.2.2.2.2.2.2.2.2.1,v14.2.2.2.2.2.2.2.2.2.2.2.2.2.1,v14.2.2.2.2.2.2.2.2.2.2.2.2.2.2.1,v14.2.2.2.2.2.2.2.2.2.2.2.2.2.2.2.1,v14.2.2.2.2.2.2.2.2.2.2.2.2.2.2.2.2.1,v14.2.2.2.2.2.2.2.2.2.2.2.2.2.2.2.2.2.1,v14.2.2.2.2.2.2.2.2.2.2.2.2.2.2.2.2.2.2.1,()))
   else
    some (Sum.inr (v14.1,v14.2.1,v14.2.2.1,v14.2.2.2.1,v14.2.2.2.2.1,v14.2.2.2.2.2.1,v14.2.2.2.2.2.2.1,v14.2.2.2.2.2.2.2.1,v14.2.2.2.2.2.2.2.2.1,v14.2.2.2.2.2.2.2.2.2.1,v14.2.2.2.2.2.2.2.2.2.2.1,v14.2.2.2.2.2.2.2.2.2.2.2.1,v14.2.2.2.2.2.2.2.2.2.2.2.2.1,v14.2.2.2.2.2.2.2.2.2.2.2.2.2.1,v14.2.2.2.2.2.2.2.2.2.2.2.2.2.2.1,v14.2.2.2.2.2.2.2.2.2.2.2.2.2.2.2.1,v14.2.2.2.2.2.2.2.2.2.2.2.2.2.2.2.2.1,v14.2.2.2.2.2.2.2.2.2.2.2.2.2.2.2.2.2.1,v14.2.2.2.2.2.2.2.2.2.2.2.2.2.2.2.2.2.2.1,()))) fun v16=>
  bif v16.2.2.2.2.2.2.2.2.2.2.2.2.2.2.2.2.2.2.1 then
   Option.bind (strconv_Itoa v16.2.2.2.2.2.2.2.2.2.2.2.2.2.1) fun r17=>
   chk (decide (((v16.1.length)+1)*16<=140737488355328)&&decide ((v16.1.length)+1<=maxLen)) <|
   some (v16.1++[r17.1],())
  else
   some (v16.1,())
abbrev uY:Type:=(List UInt8)×(List aa)×Int×Int×Unit
abbrev Ak:Type:=(((List UInt8)×Int×Unit) ⊕ ((List UInt8)×Unit))
def gO (x1:uY) (again:uY->Option Ak):Option Ak:=
 bif decide (x1.2.2.2.1<x1.2.2.1) then
  Option.bind (idx x1.2.1 x1.2.2.2.1) fun y2=>
  Option.bind (Al y2) fun r3=>
  Option.bind (strings_Join r3.1 [32]) fun r4=>
  chk (decide (r4.1.length+List.length [10]<=maxLen)) <|
  chk (decide (x1.1.length+List.length (r4.1++[10])<=maxLen)) <|
  again (x1.1++(r4.1++[10]),x1.2.1,x1.2.2.1,w64 (x1.2.2.2.1+1),())
 else
  some (Sum.inr (x1.1,()))
def vp (a0:List aa):Option ((List UInt8)×Int×Unit):=
 Option.bind (pI a0) fun r1=>
 bif r1.1 != 0 then
  some ([],r1.1,())
 else
  aF (β:=((List UInt8)×Int×Unit)) (γ:=((List UInt8)×Unit)) (
   iter (X:=uY) (β:=Ak) (List.length ([]:List UInt8)+(List.length a0+(Int.natAbs ((List.length a0:Int))+(Int.natAbs (0:Int)+2)))) ([],a0,(List.length a0:Int),0,()) (gO)) fun v6=>
  bif decide (((v6.1.length:Int))>200000) then
   some ([],2,())
  else
   some (v6.1,0,())
def gL (a0:List aa):Option (Bool×Unit):=
 Option.bind (jF a0) fun r1=>
 Option.bind (vp a0) fun r2=>
 bif r1.2.1 != r2.2.1 then
  some (false,())
 else
  bif !(r1.1==r2.1) then
   some (false,())
  else
   Option.bind (EX) fun r3=>
   bif !r3.1 then
    some (false,())
   else
    bif r1.2.1 != 0 then
     some (true,())
    else
     Option.bind (qY r1.1) fun r4=>
     Option.bind (
      bif r4.2.2.1==0 then
       bif r4.2.1==0 then
        Option.bind (ij a0 r4.1) fun r5=>
        some (r5.1,())
       else
        some (false,())
      else
       some (false,())) fun v6=>
     some (v6.1,())
end
end Go.Md
