/-
  The plain models of the functions that the law reaches, fourth part; strings.Join by contract. No condition.
-/
import Derived.Test.YtjlkkapojeldlabGreatDoorYd
import Derived.Shelf.Strings.OnBuilder
import Derived.Test.YtjlkkapojeldlabGreatDoorYo
import Derived.Test.YtjlkkapojeldlabGreatDoorYp
import Derived.Lib.ItoaNum
import Derived.Lib.Repeat
set_option linter.all false
noncomputable section
namespace Go.Md
open Go.Dn
def strings_Join (l:List Bys) (c:Bys):Option (Bys×Unit):=
 bif decide (l.length<=140737488355328)&&decide ((Lib.join l c).length<=140737488355328) then some (Lib.join l c,()) else none
end Go.Md
namespace Go.Dn
open Go Go.Md Go.Proofs Go.Shelf
theorem yh {G:Gh}:∀ {l:List Bys} {vs:List Value},bQ (ax G .str) l vs->vs=l.map fun s=>Value.string (bs s)
 | [],vs,h=>h
 | x::r,vs,h=>by
  obtain⟨a,b,e,h1,h2⟩:=h
  have h1:a=[.string (bs x)]:=h1
  rw[e,h1,yh h2]
  rfl
theorem join_some {l:List Bys} {c r:Bys} {u:Unit} (h:strings_Join l c=some (r,u)):l.length<=140737488355328/\(Lib.join l c).length<=140737488355328/\r=Lib.join l c:=by
 unfold strings_Join at h
 cases hb:(decide (l.length<=140737488355328)&&decide ((Lib.join l c).length<=140737488355328)) with
 | false=>rw[hb] at h;cases h
 | true=>
  rw[hb,afX] at h
  simp only[Option.some.injEq,Prod.mk.injEq] at h
  simp only[adj,af1] at hb
  exact⟨hb.1,hb.2,h.1.symm⟩
theorem YD {P:Program} {ρ:Ren} (L:Lays.n156 P ρ) (X:Builder.Extra P ρ) {G:Gh} {w:World} {ow:Nat->Option Nat} (l:List Bys) (c:Bys) (v:Value) (hG:Agr G w) (hv:ax G (.slice .str) l [v]) (hN:l.length<=140737488355328) (hlen:(Lib.join l c).length<=140737488355328) (u':dK [.val (.slice .str),.val .str]): Calls P (ρ.f 156) #[v,.string (bs c)] w fun e w'=>∃ G' ow' vs,Jt G w ow ⟨[.val (.slice .str),.val .str],[.val .str],fun x=>strings_Join x.1 x.2.1⟩ [v,.string (bs c)] (Lib.join l c,u') e w' G' ow' vs:=by
 have hmap:(l.map bs).map (·.data.toList)=l:=by
  rw[aeL]
  conv=>rhs;rw[<- List.map_id l]
  apply aeJ
  intro a _
  simp[bs]
 have hsep:(bs c).data.toList=c:=by simp[bs]
 have hcall:Calls P (ρ.f 156) #[v,.string (bs c)] w fun e w'=>e= .returned (.string (bs (Lib.join l c)))/\RowKit.Below w.heap.size w w':=by
  have hv0:∃ v0,[v]=[v0]/\bJ G Ty.str.size (ax G .str) l v0:=hv
  obtain⟨v0,e0,a,cap,rfl,hcap,qJ,hr⟩:=hv0
  have e0:v= .slice a (List.length (α:=Bys) l) cap:=(List.cons.inj e0).1
  subst e0
  rcases hr with rfl | ⟨b,off,cs,T,fz,rfl,hg,hin,hrep⟩
  ·exact (Any.strings_Join_none L X a cap (bs c) w).mono fun e w' ⟨he,hw⟩=>⟨by rw[he];rfl,hw ▸ RowKit.Below.refl _ _⟩
  ·have hw:=hG b _ hg
   have hvs:=yh hrep
   have h:=Any.strings_Join L X b off cap (l.map bs) (bs c) w (fun j x hj=>by
    have hjl:j<l.length:=by
     have:=(aen.1 hj).1
     simpa using this
    rw[aeo,ael hjl] at hj
    have hx:bs l[j]=x:=by simpa using hj
    have h3:=congrArg (·[j]?) hvs
    simp only[aeo,ael hjl,afP] at h3
    rw[aeu (by show j<l.length*1;omega),aek,hx] at h3
    simp[World.cell?,hw]
    simpa using h3) (aB hw) (by simpa using hN) (by rw[aeB];exact hcap) (by rw[hmap,hsep];exact hlen)
   rw[hmap,hsep,aeB] at h
   exact h
 refine hcall.mono ?_
 rintro e w' ⟨he,hb⟩
 refine⟨G,fun _=>none,[.string (bs (Lib.join l c))], ?_⟩
 exact {
  ret:=he
  le:=Gh.le_refl G
  agr:=fun b o hbo=>by
   have hw:=hG b o hbo
   rw[hb.block b (aB hw)];exact hw
  size:=hb.size
  os:=hb.os
  output:=hb.output
  old:=fun b hlt _=>⟨hb.block b hlt,rfl⟩
  own:=fun b i hbi=>by cases hbi
  out:=⟨_,_,rfl,rfl,rfl,trivial⟩
  hnd:=fun _=>rfl }
theorem xT {P:Program} {ρ:Ren} (L:Lays.n156 P ρ) (X:Builder.Extra P ρ):cM P (ρ.f 156) ⟨[.val (.slice .str),.val .str],[.val .str],fun x=>strings_Join x.1 x.2.1⟩:=by
 intro G w ow args x y hG how ha hm _
 obtain⟨l,c,u⟩:=x
 obtain⟨r,u'⟩:=y
 obtain⟨v,us,h1,l1,hv,v',us',h2,l2,hv',h3⟩:=ha
 have e1:=h1 rfl
 have e2:=h2 rfl
 have e3:us'=[]:=h3
 have e5:v'= .string (bs c):=by simpa [AK,bT,ax] using hv'
 subst e1;subst e2;subst e3;subst e5
 obtain⟨hN,hlen,rfl⟩:=join_some hm
 exact YD L X l c v hG hv hN hlen u'
end Go.Dn
set_option linter.all false
namespace Go.Md
open Go.Dn
noncomputable section
def iN (a0:List Int):Option (List Int×Unit):=bif decide (a0.length<=1000000) then some (trim a0,()) else none
def uM (a0:bN):Option (bN×Unit):=
 (fZ false a0.2).bind fun r1=>
 some (r1.1,())
def lE (a0:List Int):Option ((List Int)×Unit):=
 bif List.isEmpty a0 then
  both (
   some ([],())) (
   chk (decide ((0+(a0.length))*4<=140737488355328)&&decide (0+(a0.length)<=maxLen)) <|
   some (a0,()))
 else
  chk (decide ((0+(a0.length))*4<=140737488355328)&&decide (0+(a0.length)<=maxLen)) <|
  some (a0,())
def qg (a0:Int) (a1:Int) (a2:Int):Option (Int×Int×Unit):=
 (
  bif a2 != 0 then
   some (decide (a2<=a0),())
  else
   some (false,())).bind fun v1=>
 aJ (γ:=(Int×Int×Int×Unit)) (
  bif v1.1 then
   none
  else
   some (.inr (a0,a1,a2,()))) fun (A,B,C,_)=>
 let n3:Int:=bB (((BitVec.ofInt (IntKind.bits .u64) (bB ((bB A)*2 ^ 32)) ||| BitVec.ofInt (IntKind.bits .u64) (bB B)).toNat:Int))
 chk ((bB C) != (0:Int)) <|
 chk ((bB C) != (0:Int)) <|
 some (lz (bB (Int.tdiv n3 (bB C))),lz (Int.tmod n3 (bB C)),())
abbrev jt:Type:=Int×Int×(List Int)×Unit
abbrev nk:Type:=(((List Int)×Unit) ⊕ ((List Int)×Unit))
def fm (x1:jt) (again:jt->Option nk):Option nk:=
 match x1 with
 | (A,B,C,_)=>
 bif decide (A<B) then
  chk (decide (0<=B)&&decide (B<(C.length:Int))) <|
  (C[B.toNat]?).bind fun y2=>
  chk (decide (0<=A)&&decide (A<(C.length:Int))) <|
  (C[A.toNat]?).bind fun y3=>
  chk (decide (0<=A)&&decide (A<(C.length:Int))) <|
  (C[A.toNat]?).bind fun _=>
  chk (decide (0<=B)&&decide (B<(List.length (List.set C A.toNat y2):Int))) <|
  ((List.set C A.toNat y2)[B.toNat]?).bind fun _=>
  again (w64 (A+1),w64 (B - 1),List.set (List.set C A.toNat y2) B.toNat y3,())
 else
  some (.inr (C,()))
def iY (a0:List Int):Option ((List Int)×Unit):=
 aJ (
  iter (X:=jt) (β:=nk) (Int.natAbs (0:Int)+(Int.natAbs (w64 (((a0.length:Int)) - 1))+(a0.length+2))) (0,w64 (((a0.length:Int)) - 1),a0,()) (fm)) fun v6=>
 some (v6.1,())
abbrev nB:Type:=(List Int)×(List Int)×Int×Int×Bool×(List Int)×Unit
abbrev tD:Type:=(((Bys×Unit) ⊕ ((List Int)×Bool×(List Int)×Unit)) ⊕ ((List Int)×(List Int)×Int×Bool×(List Int)×Unit))
def dJ (x1:nB) (again:nB->Option tD):Option tD:=
 match x1 with
 | (A,B,C,D,E,F,_)=>
 bif decide (D>=0) then
  chk (decide (0<=D)&&decide (D<(B.length:Int))) <|
  (B[D.toNat]?).bind fun y2=>
  (qg C y2 10).bind fun r3=>
  chk (decide (0<=D)&&decide (D<(B.length:Int))) <|
  (B[D.toNat]?).bind fun _=>
  again (A,List.set B D.toNat r3.1,r3.2.1,w64 (D - 1),E,F,())
 else
  some (.inr (A,B,C,E,F,()))
abbrev kj:Type:=(List Int)×(List Int)×Bool×(List Int)×Unit
abbrev tC:Type:=((Bys×Unit) ⊕ ((List Int)×Bool×(List Int)×Unit))
def iP (x1:kj) (again:kj->Option tC):Option tC:=
 match x1 with
 | (A,B,C,D,_)=>
 bif decide (((B.length:Int))>0) then
  aJ (
   iter (X:=nB) (β:=tD) (A.length+(B.length+(Int.natAbs (0:Int)+(Int.natAbs (w64 (((B.length:Int)) - 1))+(D.length+2))))) (A,B,0,w64 (((B.length:Int)) - 1),C,D,()) (dJ)) fun (E,F,G,H,I,_)=>
  chk (decide (((E.length)+1)*1<=140737488355328)&&decide ((E.length)+1<=maxLen)) <|
  (iN F).bind fun r3=>
  again (E++[(wu8 (48+(wu8 G)))],r3.1,H,I,())
 else
  some (.inr (A,C,D,()))
def sO (a0:bN):Option (Bys×Unit):=
 bif ((a0.2.length:Int))==0 then
  some ([48],())
 else
  (lE a0.2).bind fun r1=>
  aJ (
   iter (X:=kj) (β:=tC) ((20*List.length (([],r1.1,a0.1,a0.2,()):kj).2.1+2)) ([],r1.1,a0.1,a0.2,()) (iP)) fun (A,B,_,_)=>
  bif B then
   chk (decide (((A.length)+1)*1<=140737488355328)&&decide ((A.length)+1<=maxLen)) <|
   (iY (A++[45])).bind fun r10=>
   some (List.map (fun n=>UInt8.ofNat (Int.toNat n)) r10.1,())
  else
   (iY A).bind fun r11=>
   some (List.map (fun n=>UInt8.ofNat (Int.toNat n)) r11.1,())
def rV (a0:Bys) (a1:Int):Option (Bys×Bys×Unit):=
 let n1:Int:=w64 ((w64 (a1+1)) - ((a0.length:Int)))
 (strings_Repeat [48] (if n1>0 then n1 else 0)).bind fun r2=>
 chk (decide (r2.1.length+a0.length<=maxLen)) <|
 chk (decide (0<=(0:Int))&&decide ((0:Int)<=(w64 (((List.length (r2.1++a0):Int)) - a1)))&&decide ((w64 (((List.length (r2.1++a0):Int)) - a1))<=(List.length (r2.1++a0):Int))) <|
 chk (decide (0<=(w64 (((List.length (r2.1++a0):Int)) - a1)))&&decide ((w64 (((List.length (r2.1++a0):Int)) - a1))<=((List.length (r2.1++a0):Int)))&&decide (((List.length (r2.1++a0):Int))<=(List.length (r2.1++a0):Int))) <|
 some (List.drop 0 (List.take (Int.toNat (w64 (((List.length (r2.1++a0):Int)) - a1))) (r2.1++a0)),List.drop (Int.toNat (w64 (((List.length (r2.1++a0):Int)) - a1))) (List.take (Int.toNat ((List.length (r2.1++a0):Int))) (r2.1++a0)),())
def tF (a0:ah):Option (Bys×Unit):=
 bif decide (a0.1<0) then
  some ([45],())
 else
  some ([],())
def yB (a0:ah):Option (Bys×Int×Unit):=
 (b8 a0).bind fun r1=>
 bif r1.1 != 0 then
  some ([],r1.1,())
 else
  (oX a0.1).bind fun r2=>
  (uM r2.1).bind fun r3=>
  (sO r3.1).bind fun r4=>
  (rV r4.1 a0.2).bind fun r5=>
  bif a0.2==0 then
   (tF a0).bind fun r6=>
   chk (decide (r6.1.length+r5.1.length<=maxLen)) <|
   some (r6.1++r5.1,0,())
  else
   (tF a0).bind fun r7=>
   chk (decide (r7.1.length+r5.1.length<=maxLen)) <|
   chk (decide (List.length (r7.1++r5.1)+List.length [46]<=maxLen)) <|
   chk (decide (List.length ((r7.1++r5.1)++[46])+r5.2.1.length<=maxLen)) <|
   some (((r7.1++r5.1)++[46])++r5.2.1,0,())
def cR (a0:ah):Option (Bys×Unit):=
 (yB a0).bind fun r1=>
 some (r1.1,())
def cC (a0:List Bys):Option (Bys×Unit):=
 (strings_Join a0 [32]).bind fun r1=>
 chk (decide (r1.1.length+List.length [10]<=maxLen)) <|
 some (r1.1++[10],())
def JU (a0:ah):Option (Bys×Int×Unit):=
 (iK a0).bind fun r1=>
 bif r1.1 != 0 then
  some ([],1,())
 else
  (strconv_Itoa (if (w64 (0 - a0.1))>a0.1 then (w64 (0 - a0.1)) else a0.1)).bind fun r2=>
  let n3:Int:=w64 ((w64 (a0.2+1)) - ((r2.1.length:Int)))
  (strings_Repeat [48] (if n3>0 then n3 else 0)).bind fun r4=>
  chk (decide (r4.1.length+r2.1.length<=maxLen)) <|
  aJ (γ:=(Bys×Int×Int×Unit)) (
   bif decide (a0.2>0) then
    chk (decide (0<=(0:Int))&&decide ((0:Int)<=(w64 (((List.length (r4.1++r2.1):Int)) - a0.2)))&&decide ((w64 (((List.length (r4.1++r2.1):Int)) - a0.2))<=(List.length (r4.1++r2.1):Int))) <|
    chk (decide (List.length (List.drop 0 (List.take (Int.toNat (w64 (((List.length (r4.1++r2.1):Int)) - a0.2))) (r4.1++r2.1)))+List.length [46]<=maxLen)) <|
    chk (decide (0<=(w64 (((List.length (r4.1++r2.1):Int)) - a0.2)))&&decide ((w64 (((List.length (r4.1++r2.1):Int)) - a0.2))<=((List.length (r4.1++r2.1):Int)))&&decide (((List.length (r4.1++r2.1):Int))<=(List.length (r4.1++r2.1):Int))) <|
    chk (decide (List.length ((List.drop 0 (List.take (Int.toNat (w64 (((List.length (r4.1++r2.1):Int)) - a0.2))) (r4.1++r2.1)))++[46])+List.length (List.drop (Int.toNat (w64 (((List.length (r4.1++r2.1):Int)) - a0.2))) (List.take (Int.toNat ((List.length (r4.1++r2.1):Int))) (r4.1++r2.1)))<=maxLen)) <|
    some (.inr (((List.drop 0 (List.take (Int.toNat (w64 (((List.length (r4.1++r2.1):Int)) - a0.2))) (r4.1++r2.1)))++[46])++(List.drop (Int.toNat (w64 (((List.length (r4.1++r2.1):Int)) - a0.2))) (List.take (Int.toNat ((List.length (r4.1++r2.1):Int))) (r4.1++r2.1))),a0.1,a0.2,()))
   else
    some (.inr (r4.1++r2.1,a0.1,a0.2,()))) fun v5=>
  bif decide (v5.2.1<0) then
   chk (decide (List.length [45]+v5.1.length<=maxLen)) <|
   some ([45]++v5.1,0,())
  else
   some (v5.1,0,())
end
end Go.Md
end
