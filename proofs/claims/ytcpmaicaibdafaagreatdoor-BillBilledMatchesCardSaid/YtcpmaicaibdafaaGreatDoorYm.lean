/-
  The plain models of the functions that the laws reach, first part. No condition.
-/
import Derived.Test.YtcpmaicaibdafaaGreatDoorYd
import Derived.Lib.SlTrimSet
set_option linter.all false
noncomputable section
namespace Go.Md
open Go.Dn
abbrev Bys:Type:=List UInt8
def qC (s c:Bys):Option (Bys×Unit):=
 bif decide (s.length≤9223372036854775807)&&(decide (c.length<4294967281)&&c.all fun b=>decide (b.toNat<128)) then some (Lib.trimS s c,()) else none
abbrev bR:Ty:=(.st (.pair tI tI))
abbrev ah:Type:=Int×Int
abbrev cw:Ty:=(.st (.pair tI (.pair bR (.slice .str))))
abbrev cm:Type:=Int×ah×(List Bys)
abbrev yy:Ty:=(.st (.pair .str (.pair bR (.pair bR tI))))
abbrev nV:Type:=Bys×ah×ah×Int
abbrev D8:Type:=Bool×(List Int)
abbrev eF:Ty:=(.st (.pair .str (.pair tI (.pair bR (.pair tI (.pair tI tI))))))
abbrev cB:Type:=Bys×Int×ah×Int×Int×Int
abbrev aJ:Ty:=(.st (.pair eF (.pair tI (.pair tI (.pair tI tI)))))
abbrev av:Type:=cB×Int×Int×Int×Int
abbrev aS:Ty:=(.st (.pair .bool (.slice (.int .u32))))
abbrev aF:Type:=Bool×(List Int)
def bW (a0:Bys):Option (Bool×Unit):=
 bif decide (((a0.length:Int))<1) then
  some (false,())
 else
  bif decide (((a0.length:Int))>40) then
   some (false,())
  else
   (Oo a0 0).bind fun c1=>
   bif decide ((c1.toNat:Int)<97) then
    some (false,())
   else
    (Oo a0 0).bind fun c2=>
    bif decide ((c2.toNat:Int)>122) then
     some (false,())
    else
     (qC a0 [97,98,99,100,101,102,103,104,105,106,107,108,109,110,111,112,113,114,115,116,117,118,119,120,121,122,48,49,50,51,52,53,54,55,56,57,45]).bind fun r3=>
     some (r3.1==[],())
def AS (a0:cB) (a1:cB):Option (Bool×Unit):=
 some (a0.1==a1.1,())
abbrev kr:Type:=(List cB)×cB×Int×Int×Unit
abbrev ko:Type:=((Int×Unit) ⊕ Unit)
def zg (x1:kr) (again:kr→Option ko):Option ko:=
 match x1 with
 | (A,B,C,D,_)=>
 bif decide (D<C) then
  (idx A D).bind fun y2=>
  (AS y2 B).bind fun r3=>
  bif r3.1 then
   some (.inl (D,()))
  else
   again (A,B,C,w64 (D+1),())
 else
  some (.inr ())
def s6 (a0:List cB) (a1:cB):Option (Int×Unit):=
 aK (
  iter (X:=kr) (β:=ko) (a0.length+(Int.natAbs ((a0.length:Int))+(Int.natAbs (0:Int)+2))) (a0,a1,(a0.length:Int),0,()) (zg)) fun _=>
 some ((-1),())
def qx (a0:List cB) (a1:cB):Option (Bool×Unit):=
 (s6 a0 a1).bind fun r1=>
 some (decide (r1.1≥0),())
def bD (a0:Int) (a1:Int) (a2:Int):Option (Bool×Unit):=
 bif decide (a0<a1) then
  some (true,())
 else
  some (decide (a0>a2),())
def gZ (a0:Int):Option (Bool×Unit):=
 (bD a0 1 3652059).bind fun r1=>
 some (!r1.1,())
def bU (a0:ah):Option (Int×Unit):=
 (bD a0.1 (-1000000000000000) 1000000000000000).bind fun r1=>
 bif r1.1 then
  some (1,())
 else
  (bD a0.2 0 9).bind fun r2=>
  bif r2.1 then
   some (1,())
  else
   some (0,())
abbrev wJ:Type:=Int×Int×Int×Unit
abbrev wI:Type:=((Int×Unit) ⊕ (Int×Unit))
def wH (x1:wJ) (again:wJ→Option wI):Option wI:=
 bif decide (x1.2.2.1<x1.2.1) then
  again (w64 (x1.1*10),x1.2.1,w64 (x1.2.2.1+1),())
 else
  some (.inr (x1.1,()))
def uM (a0:Int):Option (Int×Unit):=
 aK (
  iter (X:=wJ) (β:=wI) (Int.natAbs (1:Int)+(a0.natAbs+(Int.natAbs (0:Int)+2))) (1,a0,0,()) (wH)) fun v2=>
 some (v2.1,())
def dW (a0:ah) (a1:Int):Option (Bool×Unit):=
 (uM a0.2).bind fun r1=>
 (bD a0.1 (w64 (0 - (w64 (a1*r1.1)))) (w64 (a1*r1.1))).bind fun r2=>
 some (!r2.1,())
def oa (a0:ah):Option (Int×Unit):=
 (bU a0).bind fun r1=>
 bif r1.1 != 0 then
  some (r1.1,())
 else
  bif decide (a0.1≤0) then
   some (1,())
  else
   bif decide (a0.2>4) then
    some (1,())
   else
    (dW a0 1000000000).bind fun r2=>
    bif !r2.1 then
     some (1,())
    else
     some (0,())
abbrev tH:Type:=(List cB)×(List cB)×Int×Int×Unit
abbrev tG:Type:=((Int×Unit) ⊕ Unit)
def Hg (x1:tH) (again:tH→Option tG):Option tG:=
 match x1 with
 | (A,B,C,D,_)=>
 bif decide (D<C) then
  (idx B D).bind fun y2=>
  (bW y2.1).bind fun r3=>
  bif !r3.1 then
   some (.inl (5,()))
  else
   chk (decide (0≤(0:Int))&&decide ((0:Int)≤D)&&decide (D≤(A.length:Int))) <|
   (qx (List.drop 0 (List.take (Int.toNat D) A)) y2).bind fun r4=>
   bif r4.1 then
    some (.inl (7,()))
   else
    (gZ y2.2.1).bind fun r5=>
    bif !r5.1 then
     some (.inl (1,()))
    else
     bif decide (D>0) then
      (idx A (w64 (D - 1))).bind fun y6=>
      bif decide (y2.2.1<y6.2.1) then
       some (.inl (8,()))
      else
       (oa y2.2.2.1).bind fun r7=>
       bif r7.1 != 0 then
        some (.inl (r7.1,()))
       else
        (bD y2.2.2.2.1 0 10000).bind fun r8=>
        bif r8.1 then
         some (.inl (1,()))
        else
         (bD y2.2.2.2.2.1 0 y2.2.2.2.1).bind fun r9=>
         bif r9.1 then
          some (.inl (1,()))
         else
          (bD y2.2.2.2.2.2 0 1000).bind fun r10=>
          bif r10.1 then
           some (.inl (1,()))
          else
           again (A,B,C,w64 (D+1),())
     else
      (oa y2.2.2.1).bind fun r11=>
      bif r11.1 != 0 then
       some (.inl (r11.1,()))
      else
       (bD y2.2.2.2.1 0 10000).bind fun r12=>
       bif r12.1 then
        some (.inl (1,()))
       else
        (bD y2.2.2.2.2.1 0 y2.2.2.2.1).bind fun r13=>
        bif r13.1 then
         some (.inl (1,()))
        else
         (bD y2.2.2.2.2.2 0 1000).bind fun r14=>
         bif r14.1 then
          some (.inl (1,()))
         else
          again (A,B,C,w64 (D+1),())
 else
  some (.inr ())
def CT (a0:List cB):Option (Int×Unit):=
 bif decide (((a0.length:Int))>200) then
  some (2,())
 else
  aK (
   iter (X:=tH) (β:=tG) (a0.length+(a0.length+(Int.natAbs ((a0.length:Int))+(Int.natAbs (0:Int)+2)))) (a0,a0,(a0.length:Int),0,()) (Hg)) fun _=>
  some (0,())
abbrev pE:Type:=(List Bys)×Bys×Int×Int×Unit
abbrev pz:Type:=((Int×Unit) ⊕ Unit)
def D2 (x1:pE) (again:pE→Option pz):Option pz:=
 match x1 with
 | (A,B,C,D,_)=>
 bif decide (D<C) then
  (idx A D).bind fun y2=>
  bif B==y2 then
   some (.inl (D,()))
  else
   again (A,B,C,w64 (D+1),())
 else
  some (.inr ())
def yN (a0:List Bys) (a1:Bys):Option (Int×Unit):=
 aK (
  iter (X:=pE) (β:=pz) (a0.length+(a1.length+(Int.natAbs ((a0.length:Int))+(Int.natAbs (0:Int)+2)))) (a0,a1,(a0.length:Int),0,()) (D2)) fun _=>
 some ((-1),())
def wq (a0:List Bys) (a1:Bys):Option (Bool×Unit):=
 (yN a0 a1).bind fun r1=>
 some (decide (r1.1≥0),())
abbrev kI:Type:=(List cm)×(List cm)×Int×Int×(List Bys)×Int×Int×Int×Int×Int×(List Bys)×Unit
abbrev kH:Type:=(((Int×Unit) ⊕ Unit) ⊕ ((List cm)×(List cm)×Int×Int×Unit))
def vZ (x1:kI) (again:kI→Option kH):Option kH:=
 match x1 with
 | (A,B,C,D,E,F,G,H,I,J,K,_)=>
 bif decide (G<F) then
  (idx E G).bind fun y2=>
  (bW y2).bind fun r3=>
  bif !r3.1 then
   DL <|
    some (.inl (5,()))
  else
   chk (decide (0≤(0:Int))&&decide ((0:Int)≤G)&&decide (G≤(K.length:Int))) <|
   (wq (List.drop 0 (List.take (Int.toNat G) K)) y2).bind fun r4=>
   bif r4.1 then
    DL <|
     some (.inl (7,()))
   else
    again (A,B,C,D,E,F,w64 (G+1),H,I,J,K,())
 else
  some (.inr (A,B,C,D,()))
abbrev pZ:Type:=(List cm)×(List cm)×Int×Int×Unit
abbrev pY:Type:=((Int×Unit) ⊕ Unit)
def Ef (x1:pZ) (again:pZ→Option pY):Option pY:=
 match x1 with
 | (A,B,C,D,_)=>
 bif decide (D<C) then
  (idx B D).bind fun y2=>
  (gZ y2.1).bind fun r3=>
  bif !r3.1 then
   some (.inl (1,()))
  else
   bif decide (D>0) then
    (idx A (w64 (D - 1))).bind fun y4=>
    bif decide (y2.1<y4.1) then
     some (.inl (8,()))
    else
     (oa y2.2.1).bind fun r5=>
     bif r5.1 != 0 then
      some (.inl (r5.1,()))
     else
      bif decide (((y2.2.2.length:Int))>100) then
       some (.inl (2,()))
      else
       aK (
        iter (X:=kI) (β:=kH) (A.length+(B.length+(C.natAbs+(D.natAbs+(y2.2.2.length+(Int.natAbs ((y2.2.2.length:Int))+(Int.natAbs (0:Int)+(y2.1.natAbs+(y2.2.1.1.natAbs+(y2.2.1.2.natAbs+(y2.2.2.length+2))))))))))) (A,B,C,D,y2.2.2,(y2.2.2.length:Int),0,y2.1,y2.2.1.1,y2.2.1.2,y2.2.2,()) (vZ)) fun (E,F,G,H,_)=>
       again (E,F,G,w64 (H+1),())
   else
    (oa y2.2.1).bind fun r7=>
    bif r7.1 != 0 then
     some (.inl (r7.1,()))
    else
     bif decide (((y2.2.2.length:Int))>100) then
      some (.inl (2,()))
     else
      aK (
       iter (X:=kI) (β:=kH) (A.length+(B.length+(C.natAbs+(D.natAbs+(y2.2.2.length+(Int.natAbs ((y2.2.2.length:Int))+(Int.natAbs (0:Int)+(y2.1.natAbs+(y2.2.1.1.natAbs+(y2.2.1.2.natAbs+(y2.2.2.length+2))))))))))) (A,B,C,D,y2.2.2,(y2.2.2.length:Int),0,y2.1,y2.2.1.1,y2.2.1.2,y2.2.2,()) (vZ)) fun (I,J,K,L,_)=>
      again (I,J,K,w64 (L+1),())
 else
  some (.inr ())
def zQ (a0:List cm):Option (Int×Unit):=
 bif decide (((a0.length:Int))>500) then
  some (2,())
 else
  aK (
   iter (X:=pZ) (β:=pY) (a0.length+(a0.length+(Int.natAbs ((a0.length:Int))+(Int.natAbs (0:Int)+2)))) (a0,a0,(a0.length:Int),0,()) (Ef)) fun _=>
  some (0,())
def Eg (a0:List cB) (a1:List cm):Option (Int×Unit):=
 (CT a0).bind fun r1=>
 bif r1.1 != 0 then
  some (r1.1,())
 else
  (zQ a1).bind fun r2=>
  some (r2.1,())
def Fb (a0:ah):Option (Int×Unit):=
 (uM (w64 (4 - a0.2))).bind fun r1=>
 some (w64 (a0.1*r1.1),())
def vl (a0:List (Option Nat)):Option ((List (Option Nat))×Unit):=
 bif List.isEmpty a0 then
  both (
   some ([],())) (
   chk (decide ((0+(a0.length))*8≤140737488355328)&&decide (0+(a0.length)≤maxLen)) <|
   some (a0,()))
 else
  chk (decide ((0+(a0.length))*8≤140737488355328)&&decide (0+(a0.length)≤maxLen)) <|
  some (a0,())
def yP (a0:Option Nat) (a1:List av):Option (Int×Unit):=
 (a0).bind fun h1=>
 (a1[h1]?).bind fun y2=>
 (a0).bind fun h3=>
 (a1[h3]?).bind fun y4=>
 some (w64 (y2.1.2.1+y4.1.2.2.2.1),())
def oc (a0:Option Nat) (a1:Option Nat) (a2:List av):Option (Int×Unit):=
 (yP a0 a2).bind fun r1=>
 (yP a1 a2).bind fun r2=>
 some (w64 (r1.1 - r2.1),())
abbrev eX:Type:=Int×Int×Unit×Int×Int×(List (Option Nat))×(List av)×Unit
abbrev eV:Type:=((((List (Option Nat))×Unit) ⊕ ((List (Option Nat))×(List av)×Unit)) ⊕ (Int×Int×Unit×Int×(List (Option Nat))×(List av)×Unit))
def qK (x1:eX) (again:eX→Option eV):Option eV:=
 match x1 with
 | (A,B,C,D,E,F,G,_)=>
 bif decide (E>A) then
  chk (decide (0≤E)&&decide (E<(F.length:Int))) <|
  (F[E.toNat]?).bind fun y2=>
  chk (decide (0≤(w64 (E - 1)))&&decide ((w64 (E - 1))<(F.length:Int))) <|
  (F[(w64 (E - 1)).toNat]?).bind fun y3=>
  (oc y2 y3 G).bind fun r4=>
  bif decide (r4.1<0) then
   chk (decide (0≤(w64 (E - 1)))&&decide ((w64 (E - 1))<(F.length:Int))) <|
   (F[(w64 (E - 1)).toNat]?).bind fun y5=>
   chk (decide (0≤E)&&decide (E<(F.length:Int))) <|
   (F[E.toNat]?).bind fun y6=>
   chk (decide (0≤E)&&decide (E<(F.length:Int))) <|
   (F[E.toNat]?).bind fun _=>
   chk (decide (0≤(w64 (E - 1)))&&decide ((w64 (E - 1))<(List.length (List.set F E.toNat y5):Int))) <|
   ((List.set F E.toNat y5)[(w64 (E - 1)).toNat]?).bind fun _=>
   again (A,B,C,D,w64 (E - 1),List.set (List.set F E.toNat y5) (w64 (E - 1)).toNat y6,G,())
  else
   some (.inr (A,B,C,D,F,G,()))
 else
  some (.inr (A,B,C,D,F,G,()))
abbrev eW:Type:=Int×Int×Unit×Int×(List (Option Nat))×(List av)×Unit
abbrev eU:Type:=(((List (Option Nat))×Unit) ⊕ ((List (Option Nat))×(List av)×Unit))
def qJ (x1:eW) (again:eW→Option eU):Option eU:=
 match x1 with
 | (A,B,C,D,E,F,_)=>
 bif decide (D<B) then
  aK (
   iter (X:=eX) (β:=eV) (A.natAbs+(B.natAbs+(D.natAbs+(D.natAbs+(E.length+2))))) (A,B,C,D,D,E,F,()) (qK)) fun (G,H,I,J,K,L,_)=>
  again (G,H,I,w64 (J+1),K,L,())
 else
  some (.inr (E,F,()))
def fJ (a0:List (Option Nat)) (a1:Int) (a2:Int) (a3:Unit) (a4:List av):Option ((List (Option Nat))×Unit):=
 aK (
  iter (X:=eW) (β:=eU) (a1.natAbs+(a2.natAbs+(Int.natAbs (w64 (a1+1))+(a0.length+2)))) (a1,a2,a3,w64 (a1+1),a0,a4,()) (qJ)) fun v11=>
 some (v11.1,())
abbrev fO:Type:=Int×Int×Int×Int×(List (Option Nat))×(List av)×Unit
abbrev fN:Type:=(((List (Option Nat))×Unit) ⊕ ((List (Option Nat))×(List av)×Unit))
def tr (x1:fO) (again:fO→Option fN):Option fN:=
 match x1 with
 | (A,B,C,D,E,F,_)=>
 bif decide (D<C) then
  chk (decide (0≤(w64 (B+D)))&&decide ((w64 (B+D))<(E.length:Int))) <|
  (E[(w64 (B+D)).toNat]?).bind fun y2=>
  chk (decide (0≤(w64 (A+D)))&&decide ((w64 (A+D))<(E.length:Int))) <|
  (E[(w64 (A+D)).toNat]?).bind fun y3=>
  chk (decide (0≤(w64 (A+D)))&&decide ((w64 (A+D))<(E.length:Int))) <|
  (E[(w64 (A+D)).toNat]?).bind fun _=>
  chk (decide (0≤(w64 (B+D)))&&decide ((w64 (B+D))<(List.length (List.set E (w64 (A+D)).toNat y2):Int))) <|
  ((List.set E (w64 (A+D)).toNat y2)[(w64 (B+D)).toNat]?).bind fun _=>
  again (A,B,C,w64 (D+1),List.set (List.set E (w64 (A+D)).toNat y2) (w64 (B+D)).toNat y3,F,())
 else
  some (.inr (E,F,()))
def eE (a0:List (Option Nat)) (a1:Int) (a2:Int) (a3:Int) (_a4:Unit) (a5:List av):Option ((List (Option Nat))×Unit):=
 aK (
  iter (X:=fO) (β:=fN) (a1.natAbs+(a2.natAbs+(a3.natAbs+(Int.natAbs (0:Int)+(a0.length+2))))) (a1,a2,a3,0,a0,a5,()) (tr)) fun v6=>
 some (v6.1,())
abbrev gN:Type:=Int×Unit×Int×Int×(List (Option Nat))×(List av)×Unit
abbrev gM:Type:=(((List (Option Nat))×Unit) ⊕ (Int×Unit×Int×(List (Option Nat))×(List av)×Unit))
def vM (x1:gN) (again:gN→Option gM):Option gM:=
 match x1 with
 | (A,B,C,D,E,F,_)=>
 bif C != D then
  bif decide (C>D) then
   (eE E (w64 (A - C)) A D B F).bind fun r2=>
   again (A,B,w64 (C - D),D,r2.1,F,())
  else
   (eE E (w64 (A - C)) (w64 ((w64 (A+D)) - C)) C B F).bind fun r3=>
   again (A,B,C,w64 (D - C),r3.1,F,())
 else
  some (.inr (A,B,C,E,F,()))
def nN (a0:List (Option Nat)) (a1:Int) (a2:Int) (a3:Int) (a4:Unit) (a5:List av):Option ((List (Option Nat))×Unit):=
 aK (
  iter (X:=gN) (β:=gM) (a2.natAbs+(Int.natAbs (w64 (a2 - a1))+(Int.natAbs (w64 (a3 - a2))+(a0.length+2)))) (a2,a4,w64 (a2 - a1),w64 (a3 - a2),a0,a5,()) (vM)) fun (A,B,C,D,E,_)=>
 (eE D (w64 (A - C)) A C B E).bind fun r5=>
 some (r5.1,())
abbrev gv:Type:=Int×Unit×Int×Int×(List (Option Nat))×(List av)×Unit
abbrev gq:Type:=(((List (Option Nat))×Unit) ⊕ (Int×Int×(List (Option Nat))×(List av)×Unit))
def uf (x1:gv) (again:gv→Option gq):Option gq:=
 match x1 with
 | (A,B,C,D,E,F,_)=>
 bif decide (C<D) then
  let n2:Int:=w64 (Int.fdiv (bO (w64 (C+D))) (2 ^ 1))
  chk (decide (0≤n2)&&decide (n2<(E.length:Int))) <|
  (E[n2.toNat]?).bind fun y3=>
  chk (decide (0≤A)&&decide (A<(E.length:Int))) <|
  (E[A.toNat]?).bind fun y4=>
  (oc y3 y4 F).bind fun r5=>
  bif decide (r5.1<0) then
   again (A,B,w64 (n2+1),D,E,F,())
  else
   again (A,B,C,n2,E,F,())
 else
  some (.inr (A,C,E,F,()))
abbrev gw:Type:=Int×Int×(List (Option Nat))×(List av)×Unit
abbrev gu:Type:=(((List (Option Nat))×Unit) ⊕ ((List (Option Nat))×(List av)×Unit))
def ug (x1:gw) (again:gw→Option gu):Option gu:=
 match x1 with
 | (A,B,C,D,_)=>
 bif decide (B<(w64 (A - 1))) then
  chk (decide (0≤(w64 (B+1)))&&decide ((w64 (B+1))<(C.length:Int))) <|
  (C[(w64 (B+1)).toNat]?).bind fun y2=>
  chk (decide (0≤B)&&decide (B<(C.length:Int))) <|
  (C[B.toNat]?).bind fun y3=>
  chk (decide (0≤B)&&decide (B<(C.length:Int))) <|
  (C[B.toNat]?).bind fun _=>
  chk (decide (0≤(w64 (B+1)))&&decide ((w64 (B+1))<(List.length (List.set C B.toNat y2):Int))) <|
  ((List.set C B.toNat y2)[(w64 (B+1)).toNat]?).bind fun _=>
  again (A,w64 (B+1),List.set (List.set C B.toNat y2) (w64 (B+1)).toNat y3,D,())
 else
  some (.inr (C,D,()))
abbrev fS:Type:=Int×Unit×Int×Int×(List (Option Nat))×(List av)×Unit
abbrev fP:Type:=(((List (Option Nat))×Unit) ⊕ (Int×Int×(List (Option Nat))×(List av)×Unit))
def tu (x1:fS) (again:fS→Option fP):Option fP:=
 match x1 with
 | (A,B,C,D,E,F,_)=>
 bif decide (C<D) then
  let n2:Int:=w64 (Int.fdiv (bO (w64 (C+D))) (2 ^ 1))
  chk (decide (0≤A)&&decide (A<(E.length:Int))) <|
  (E[A.toNat]?).bind fun y3=>
  chk (decide (0≤n2)&&decide (n2<(E.length:Int))) <|
  (E[n2.toNat]?).bind fun y4=>
  (oc y3 y4 F).bind fun r5=>
  bif !(decide (r5.1<0)) then
   again (A,B,w64 (n2+1),D,E,F,())
  else
   again (A,B,C,n2,E,F,())
 else
  some (.inr (A,C,E,F,()))
abbrev fT:Type:=Int×Int×(List (Option Nat))×(List av)×Unit
abbrev fQ:Type:=(((List (Option Nat))×Unit) ⊕ ((List (Option Nat))×(List av)×Unit))
def tv (x1:fT) (again:fT→Option fQ):Option fQ:=
 match x1 with
 | (A,B,C,D,_)=>
 bif decide (B>A) then
  chk (decide (0≤(w64 (B - 1)))&&decide ((w64 (B - 1))<(C.length:Int))) <|
  (C[(w64 (B - 1)).toNat]?).bind fun y2=>
  chk (decide (0≤B)&&decide (B<(C.length:Int))) <|
  (C[B.toNat]?).bind fun y3=>
  chk (decide (0≤B)&&decide (B<(C.length:Int))) <|
  (C[B.toNat]?).bind fun _=>
  chk (decide (0≤(w64 (B - 1)))&&decide ((w64 (B - 1))<(List.length (List.set C B.toNat y2):Int))) <|
  ((List.set C B.toNat y2)[(w64 (B - 1)).toNat]?).bind fun _=>
  again (A,w64 (B - 1),List.set (List.set C B.toNat y2) (w64 (B - 1)).toNat y3,D,())
 else
  some (.inr (C,D,()))
abbrev fU:Type:=Int×Int×Int×Unit×Int×Int×Int×Int×Int×(List (Option Nat))×(List av)×Unit
abbrev fR:Type:=(((List (Option Nat))×Unit) ⊕ (Int×Int×Int×Unit×Int×Int×Int×(List (Option Nat))×(List av)×Unit))
def tw (x1:fU) (again:fU→Option fR):Option fR:=
 match x1 with
 | (A,B,C,D,E,F,G,H,I,J,K,_)=>
 bif decide (G<H) then
  let n2:Int:=w64 (Int.fdiv (bO (w64 (G+H))) (2 ^ 1))
  chk (decide (0≤(w64 (I - n2)))&&decide ((w64 (I - n2))<(J.length:Int))) <|
  (J[(w64 (I - n2)).toNat]?).bind fun y3=>
  chk (decide (0≤n2)&&decide (n2<(J.length:Int))) <|
  (J[n2.toNat]?).bind fun y4=>
  (oc y3 y4 K).bind fun r5=>
  bif !(decide (r5.1<0)) then
   again (A,B,C,D,E,F,w64 (n2+1),H,I,J,K,())
  else
   again (A,B,C,D,E,F,G,n2,I,J,K,())
 else
  some (.inr (A,B,C,D,E,F,G,J,K,()))
def cM (self:((List (Option Nat))×Int×Int×Int×Unit×(List av)×Unit)→Option ((List (Option Nat))×Unit)) (a0:List (Option Nat)) (a1:Int) (a2:Int) (a3:Int) (a4:Unit) (a5:List av):Option ((List (Option Nat))×Unit):=
 bif (w64 (a2 - a1))==1 then
  aK (
   iter (X:=gv) (β:=gq) (a1.natAbs+(a2.natAbs+(a3.natAbs+(a0.length+2)))) (a1,a4,a2,a3,a0,a5,()) (uf)) fun (A,B,C,D,_)=>
  aK (
   iter (X:=gw) (β:=gu) (B.natAbs+(A.natAbs+(C.length+2))) (B,A,C,D,()) (ug)) fun v12=>
  some (v12.1,())
 else
  bif (w64 (a3 - a2))==1 then
   aK (
    iter (X:=fS) (β:=fP) (a2.natAbs+(a1.natAbs+(a2.natAbs+(a0.length+2)))) (a2,a4,a1,a2,a0,a5,()) (tu)) fun (F,G,H,I,_)=>
   aK (
    iter (X:=fT) (β:=fQ) (G.natAbs+(F.natAbs+(H.length+2))) (G,F,H,I,()) (tv)) fun v24=>
   some (v24.1,())
  else
   let n25:Int:=w64 (Int.fdiv (bO (w64 (a1+a3))) (2 ^ 1))
   aK (γ:=(Int×Int×Int×Unit×Int×Int×Int×Int×(List (Option Nat))×(List av)×Unit)) (
    bif decide (a2>n25) then
     some (.inr (a1,a2,a3,a4,n25,w64 (n25+a2),w64 ((w64 (n25+a2)) - a3),n25,a0,a5,()))
    else
     some (.inr (a1,a2,a3,a4,n25,w64 (n25+a2),a1,a2,a0,a5,()))) fun (K,L,M,N,O,P,Q,R,S,T,_)=>
   aK (
    iter (X:=fU) (β:=fR) (K.natAbs+(L.natAbs+(M.natAbs+(O.natAbs+(P.natAbs+(Q.natAbs+(R.natAbs+(Int.natAbs (w64 (P - 1))+(S.length+2))))))))) (K,L,M,N,O,P,Q,R,w64 (P - 1),S,T,()) (tw)) fun (U,V,W,Y,Z,A0,B0,C0,D0,_)=>
   bif decide (B0<V) then
    aK (γ:=(Int×Int×Unit×Int×Int×Int×(List (Option Nat))×(List av)×Unit)) (
     bif decide (V<(w64 (A0 - B0))) then
      (nN C0 B0 V (w64 (A0 - B0)) Y D0).bind fun r33=>
      some (.inr (U,W,Y,Z,B0,w64 (A0 - B0),r33.1,D0,()))
     else
      some (.inr (U,W,Y,Z,B0,w64 (A0 - B0),C0,D0,()))) fun (E0,F0,G0,H0,I0,J0,K0,L0,_)=>
    bif decide (E0<I0) then
     aK (γ:=(Int×Unit×Int×Int×(List (Option Nat))×(List av)×Unit)) (
      bif decide (I0<H0) then
       (self (K0,E0,I0,H0,G0,L0,())).bind fun r35=>
       some (.inr (F0,G0,H0,J0,r35.1,L0,()))
      else
       some (.inr (F0,G0,H0,J0,K0,L0,()))) fun (M0,N0,O0,P0,Q0,R0,_)=>
     bif decide (O0<P0) then
      bif decide (P0<M0) then
       (self (Q0,O0,P0,M0,N0,R0,())).bind fun r37=>
       some (r37.1,())
      else
       some (Q0,())
     else
      some (Q0,())
    else
     bif decide (H0<J0) then
      bif decide (J0<F0) then
       (self (K0,H0,J0,F0,G0,L0,())).bind fun r38=>
       some (r38.1,())
      else
       some (K0,())
     else
      some (K0,())
   else
    bif decide (U<B0) then
     aK (γ:=(Int×Unit×Int×Int×(List (Option Nat))×(List av)×Unit)) (
      bif decide (B0<Z) then
       (self (C0,U,B0,Z,Y,D0,())).bind fun r39=>
       some (.inr (W,Y,Z,w64 (A0 - B0),r39.1,D0,()))
      else
       some (.inr (W,Y,Z,w64 (A0 - B0),C0,D0,()))) fun (S0,T0,U0,V0,W0,X0,_)=>
     bif decide (U0<V0) then
      bif decide (V0<S0) then
       (self (W0,U0,V0,S0,T0,X0,())).bind fun r41=>
       some (r41.1,())
      else
       some (W0,())
     else
      some (W0,())
    else
     bif decide (Z<(w64 (A0 - B0))) then
      bif decide ((w64 (A0 - B0))<W) then
       (self (C0,Z,w64 (A0 - B0),W,Y,D0,())).bind fun r42=>
       some (r42.1,())
      else
       some (C0,())
     else
      some (C0,())
def jU (a0:List (Option Nat)) (a1:Int) (a2:Int) (a3:Int) (_a4:Unit) (_a5:List av):Nat:=a0.length+(a1.natAbs+(a2.natAbs+(a3.natAbs+2)))
def iA (a0:List (Option Nat)) (a1:Int) (a2:Int) (a3:Int) (a4:Unit) (a5:List av):Option ((List (Option Nat))×Unit):=
 IT (fun self x=>cM self x.1 x.2.1 x.2.2.1 x.2.2.2.1 x.2.2.2.2.1 x.2.2.2.2.2.1) (jU a0 a1 a2 a3 a4 a5) (a0,a1,a2,a3,a4,a5,())
abbrev gR:Type:=Int×Unit×Int×Int×Int×(List (Option Nat))×(List av)×Unit
abbrev gO:Type:=(((List (Option Nat))×Unit) ⊕ (Int×Unit×Int×Int×(List (Option Nat))×(List av)×Unit))
def vN (x1:gR) (again:gR→Option gO):Option gO:=
 match x1 with
 | (A,B,C,D,E,F,G,_)=>
 bif decide (E≤A) then
  (fJ F D E B G).bind fun r2=>
  again (A,B,C,E,w64 (E+C),r2.1,G,())
 else
  some (.inr (A,B,C,D,F,G,()))
abbrev gU:Type:=Int×Unit×Int×Int×Int×(List (Option Nat))×(List av)×Unit
abbrev gQ:Type:=((((List (Option Nat))×Unit) ⊕ ((List (Option Nat))×(List av)×Unit)) ⊕ (Int×Unit×Int×Int×(List (Option Nat))×(List av)×Unit))
def vP (x1:gU) (again:gU→Option gQ):Option gQ:=
 match x1 with
 | (A,B,C,D,E,F,G,_)=>
 bif decide (E≤A) then
  (iA F D (w64 (D+C)) E B G).bind fun r2=>
  again (A,B,C,E,w64 (E+(w64 (2*C))),r2.1,G,())
 else
  some (.inr (A,B,C,D,F,G,()))
abbrev gT:Type:=Int×Unit×Int×(List (Option Nat))×(List av)×Unit
abbrev gP:Type:=(((List (Option Nat))×Unit) ⊕ ((List (Option Nat))×(List av)×Unit))
def vO (x1:gT) (again:gT→Option gP):Option gP:=
 match x1 with
 | (A,B,C,D,E,_)=>
 bif decide (C<A) then
  aK (
   iter (X:=gU) (β:=gQ) (A.natAbs+(C.natAbs+(Int.natAbs (0:Int)+(Int.natAbs (w64 (2*C))+(D.length+2))))) (A,B,C,0,w64 (2*C),D,E,()) (vP)) fun (F,G,H,I,J,K,_)=>
  bif decide ((w64 (I+H))<F) then
   (iA J I (w64 (I+H)) F G K).bind fun r3=>
   again (F,G,w64 (H*2),r3.1,K,())
  else
   again (F,G,w64 (H*2),J,K,())
 else
  some (.inr (D,E,()))
def nO (a0:List (Option Nat)) (a1:Int) (a2:Unit) (a3:List av):Option ((List (Option Nat))×Unit):=
 aK (
  iter (X:=gR) (β:=gO) (a1.natAbs+(Int.natAbs (20:Int)+(Int.natAbs (0:Int)+(Int.natAbs (20:Int)+(a0.length+2))))) (a1,a2,20,0,20,a0,a3,()) (vN)) fun (A,B,C,D,E,F,_)=>
 (fJ E D A B F).bind fun r4=>
 aK (
  iter (X:=gT) (β:=gP) (A.natAbs+(C.natAbs+(r4.1.length+2))) (A,B,C,r4.1,F,()) (vO)) fun v10=>
 some (v10.1,())
def nj (a0:List (Option Nat)) (a1:Unit) (a2:List av):Option ((List (Option Nat))×Unit):=
 (nO a0 ((a0.length:Int)) a1 a2).bind fun r1=>
 some (r1.1,())
def x5 (a0:Option Nat) (a1:Int) (a2:List av):Option (Bool×Unit):=
 (a0).bind fun h1=>
 (a2[h1]?).bind fun y2=>
 bif decide (y2.1.2.1≤a1) then
  (a0).bind fun h3=>
  (a2[h3]?).bind fun y4=>
  some (y4.2.2.2.2==0,())
 else
  some (false,())
def zR (a0:Option Nat) (a1:List av):Option (Int×Unit):=
 (a0).bind fun h1=>
 (a1[h1]?).bind fun y2=>
 (a0).bind fun h3=>
 (a1[h3]?).bind fun y4=>
 (a0).bind fun h5=>
 (a1[h5]?).bind fun y6=>
 (uM (w64 (4 - y6.1.2.2.1.2))).bind fun r7=>
 let n8:Int:=w64 ((w64 (Int.tdiv (w64 (y2.1.2.2.1.1*y4.1.2.2.2.2.2)) 1000))*r7.1)
 (a0).bind fun h9=>
 (a1[h9]?).bind fun y10=>
 some (if y10.2.1<n8 then y10.2.1 else n8,())
def wG (a0:Option Nat) (a1:Int) (a2:Int) (a3:List av):Option (Int×(List av)×Unit):=
 (a0).bind fun h1=>
 (a3[h1]?).bind fun y2=>
 (a0).bind fun h3=>
 (a3[h3]?).bind fun y4=>
 (a0).bind fun h5=>
 (a3[h5]?).bind fun y6=>
 (a0).bind fun h7=>
 (a3[h7]?).bind fun y8=>
 (a0).bind fun h9=>
 ((List.set a3 h7 (y8.1,y8.2.1,w64 (y4.2.2.1+(if y2.2.1<a1 then y2.2.1 else a1)),y8.2.2.2))[h9]?).bind fun y10=>
 (a0).bind fun h11=>
 ((List.set (List.set a3 h7 (y8.1,y8.2.1,w64 (y4.2.2.1+(if y2.2.1<a1 then y2.2.1 else a1)),y8.2.2.2)) h9 (y10.1,w64 (y6.2.1 - (if y2.2.1<a1 then y2.2.1 else a1)),y10.2.2))[h11]?).bind fun y12=>
 bif y12.2.1==0 then
  (a0).bind fun h13=>
  ((List.set (List.set a3 h7 (y8.1,y8.2.1,w64 (y4.2.2.1+(if y2.2.1<a1 then y2.2.1 else a1)),y8.2.2.2)) h9 (y10.1,w64 (y6.2.1 - (if y2.2.1<a1 then y2.2.1 else a1)),y10.2.2))[h13]?).bind fun y14=>
  some (w64 (a1 - (if y2.2.1<a1 then y2.2.1 else a1)),List.set (List.set (List.set a3 h7 (y8.1,y8.2.1,w64 (y4.2.2.1+(if y2.2.1<a1 then y2.2.1 else a1)),y8.2.2.2)) h9 (y10.1,w64 (y6.2.1 - (if y2.2.1<a1 then y2.2.1 else a1)),y10.2.2)) h13 (y14.1,y14.2.1,y14.2.2.1,y14.2.2.2.1,a2),())
 else
  some (w64 (a1 - (if y2.2.1<a1 then y2.2.1 else a1)),List.set (List.set a3 h7 (y8.1,y8.2.1,w64 (y4.2.2.1+(if y2.2.1<a1 then y2.2.1 else a1)),y8.2.2.2)) h9 (y10.1,w64 (y6.2.1 - (if y2.2.1<a1 then y2.2.1 else a1)),y10.2.2),())
def CU (a0:Option Nat) (a1:Int) (a2:Int) (a3:List av):Option (Int×(List av)×Unit):=
 (zR a0 a3).bind fun r1=>
 (a0).bind fun h2=>
 (a3[h2]?).bind fun y3=>
 bif decide ((w64 (y3.2.1 - r1.1))>a1) then
  (wG a0 a1 a2 a3).bind fun r4=>
  some (r4.1,r4.2.1,())
 else
  (a0).bind fun h5=>
  (a3[h5]?).bind fun y6=>
  (a0).bind fun h7=>
  (a3[h7]?).bind fun y8=>
  bif decide (a2>(w64 (y6.1.2.1+y8.1.2.2.2.2.1))) then
   (wG a0 a1 a2 a3).bind fun r9=>
   some (r9.1,r9.2.1,())
  else
   (a0).bind fun h10=>
   (a3[h10]?).bind fun y11=>
   (a0).bind fun h12=>
   (a3[h12]?).bind fun y13=>
   (a0).bind fun h14=>
   (a3[h14]?).bind fun y15=>
   (a0).bind fun h16=>
   ((List.set a3 h14 (y15.1,y15.2.1,w64 (y13.2.2.1+(w64 (y11.2.1 - r1.1))),y15.2.2.2))[h16]?).bind fun y17=>
   (a0).bind fun h18=>
   ((List.set (List.set a3 h14 (y15.1,y15.2.1,w64 (y13.2.2.1+(w64 (y11.2.1 - r1.1))),y15.2.2.2)) h16 (y17.1,y17.2.1,y17.2.2.1,r1.1,y17.2.2.2.2))[h18]?).bind fun y19=>
   (a0).bind fun h20=>
   ((List.set (List.set (List.set a3 h14 (y15.1,y15.2.1,w64 (y13.2.2.1+(w64 (y11.2.1 - r1.1))),y15.2.2.2)) h16 (y17.1,y17.2.1,y17.2.2.1,r1.1,y17.2.2.2.2)) h18 (y19.1,0,y19.2.2))[h20]?).bind fun y21=>
   some (w64 (a1 - (w64 (y11.2.1 - r1.1))),List.set (List.set (List.set (List.set a3 h14 (y15.1,y15.2.1,w64 (y13.2.2.1+(w64 (y11.2.1 - r1.1))),y15.2.2.2)) h16 (y17.1,y17.2.1,y17.2.2.1,r1.1,y17.2.2.2.2)) h18 (y19.1,0,y19.2.2)) h20 (y21.1,y21.2.1,y21.2.2.1,y21.2.2.2.1,a2),())
abbrev wW:Type:=(List cm)×Int×(List (Option Nat))×(List cB)×Int×Int×(List (Bys×(Option Nat)))×(List av)×Unit
abbrev wV:Type:=(((List (Option Nat))×(List Int)×(List av)×Unit) ⊕ ((List cm)×Int×(List (Option Nat))×(List (Bys×(Option Nat)))×(List av)×Unit))
def KD (x1:wW) (again:wW→Option wV):Option wV:=
 match x1 with
 | (A,B,C,D,E,F,G,H,_)=>
 bif decide (F<E) then
  (idx D F).bind fun y2=>
  (Fb y2.2.2.1).bind fun r3=>
  chk (decide (((C.length)+1)*8≤140737488355328)&&decide ((C.length)+1≤maxLen)) <|
  again (A,B,C++[(some (H.length))],D,E,w64 (F+1),jY (k:= .str) (v:= .hnd) G y2.1 (some (H.length)),H++[(y2,r3.1,0,0,0)],())
 else
  some (.inr (A,B,C,G,H,()))
abbrev vt:Type:=Int×(List (Option Nat))×(List Int)×Int×(List cm)×Int×Int×(List Bys)×Int×Int×Int×Int×Int×(List Bys)×(List (Option Nat))×(List (Bys×(Option Nat)))×(List av)×Unit
abbrev vp:Type:=((((List (Option Nat))×(List Int)×(List av)×Unit) ⊕ ((List (Option Nat))×(List Int)×(List av)×Unit)) ⊕ (Int×(List (Option Nat))×(List Int)×Int×(List cm)×Int×Int×Int×Int×Int×(List Bys)×(List (Option Nat))×(List (Bys×(Option Nat)))×(List av)×Unit))
def JD (x1:vt) (again:vt→Option vp):Option vp:=
 match x1 with
 | (A,B,C,D,E,F,G,H,I,J,K,L,M,N,O,P,Q,_)=>
 bif decide (J<I) then
  (idx H J).bind fun y2=>
  bif !(Option.isNone (Option.getD (bM (k:= .str) (v:= .hnd) P y2) none)) then
   (x5 (Option.getD (bM (k:= .str) (v:= .hnd) P y2) none) K Q).bind fun r3=>
   bif r3.1 then
    (CU (Option.getD (bM (k:= .str) (v:= .hnd) P y2) none) D K Q).bind fun r4=>
    again (A,B,C,r4.1,E,F,G,H,I,w64 (J+1),K,L,M,N,O,P,r4.2.1,())
   else
    again (A,B,C,D,E,F,G,H,I,w64 (J+1),K,L,M,N,O,P,Q,())
  else
   again (A,B,C,D,E,F,G,H,I,w64 (J+1),K,L,M,N,O,P,Q,())
 else
  some (.inr (A,B,C,D,E,F,G,K,L,M,N,O,P,Q,()))
abbrev vu:Type:=Int×(List (Option Nat))×(List Int)×Int×(List cm)×Int×Int×Int×Int×Int×Int×Int×(List Bys)×(List (Option Nat))×(List (Bys×(Option Nat)))×(List av)×Unit
abbrev vq:Type:=((((List (Option Nat))×(List Int)×(List av)×Unit) ⊕ ((List (Option Nat))×(List Int)×(List av)×Unit)) ⊕ (Int×(List (Option Nat))×(List Int)×Int×(List cm)×Int×Int×(List (Option Nat))×(List (Bys×(Option Nat)))×(List av)×Unit))
def JE (x1:vu) (again:vu→Option vq):Option vq:=
 match x1 with
 | (A,B,C,D,E,F,G,H,I,J,K,L,M,N,O,P,_)=>
 bif decide (I<H) then
  chk (decide (0≤I)&&decide (I<(N.length:Int))) <|
  (N[I.toNat]?).bind fun y2=>
  bif decide (D>0) then
   (x5 y2 J P).bind fun r3=>
   bif r3.1 then
    (wG y2 D J P).bind fun r4=>
    again (A,B,C,r4.1,E,F,G,H,w64 (I+1),J,K,L,M,N,O,r4.2.1,())
   else
    again (A,B,C,D,E,F,G,H,w64 (I+1),J,K,L,M,N,O,P,())
  else
   again (A,B,C,D,E,F,G,H,w64 (I+1),J,K,L,M,N,O,P,())
 else
  some (.inr (A,B,C,D,E,F,G,N,O,P,()))
abbrev vr:Type:=Int×(List (Option Nat))×(List Int)×(List cm)×Int×Int×(List (Option Nat))×(List (Bys×(Option Nat)))×(List av)×Unit
abbrev vo:Type:=(((List (Option Nat))×(List Int)×(List av)×Unit) ⊕ ((List (Option Nat))×(List Int)×(List av)×Unit))
def JC (x1:vr) (again:vr→Option vo):Option vo:=
 match x1 with
 | (A,B,C,D,E,F,G,H,I,_)=>
 bif decide (F<E) then
  (idx D F).bind fun y2=>
  bif decide (y2.1>A) then
   some (.inr (B,C,I,()))
  else
   (Fb y2.2.1).bind fun r3=>
   aK (
    iter (X:=vt) (β:=vp) (A.natAbs+(B.length+(C.length+(r3.1.natAbs+(D.length+(E.natAbs+(F.natAbs+(y2.2.2.length+(Int.natAbs ((y2.2.2.length:Int))+(Int.natAbs (0:Int)+(y2.1.natAbs+(y2.2.1.1.natAbs+(y2.2.1.2.natAbs+(y2.2.2.length+(G.length+(H.length+(I.length+2))))))))))))))))) (A,B,C,r3.1,D,E,F,y2.2.2,(y2.2.2.length:Int),0,y2.1,y2.2.1.1,y2.2.1.2,y2.2.2,G,H,I,()) (JD)) fun (J,K,L,M,N,O,P,Q,R,S,T,U,V,W,_)=>
   aK (
    iter (X:=vu) (β:=vq) (J.natAbs+(K.length+(L.length+(M.natAbs+(N.length+(O.natAbs+(P.natAbs+(Int.natAbs ((U.length:Int))+(Int.natAbs (0:Int)+(Q.natAbs+(R.natAbs+(S.natAbs+(T.length+(U.length+(V.length+(W.length+2)))))))))))))))) (J,K,L,M,N,O,P,(U.length:Int),0,Q,R,S,T,U,V,W,()) (JE)) fun (Y,Z,A0,B0,C0,D0,E0,F0,G0,H0,_)=>
   chk (decide (((A0.length)+1)*8≤140737488355328)&&decide ((A0.length)+1≤maxLen)) <|
   again (Y,Z,A0++[B0],C0,D0,w64 (E0+1),F0,G0,H0,())
 else
  some (.inr (B,C,I,()))
def Gk (a0:List cB) (a1:List cm) (a2:Int) (a3:List av):Option ((List (Option Nat))×(List Int)×(List av)×Unit):=
 aK (
  iter (X:=wW) (β:=wV) (a1.length+(a2.natAbs+(List.length ([]:List (Option Nat))+(a0.length+(Int.natAbs ((a0.length:Int))+(Int.natAbs (0:Int)+(List.length ([]:List (Bys×(Option Nat)))+(a3.length+2)))))))) (a1,a2,[],a0,(a0.length:Int),0,[],a3,()) (KD)) fun (A,B,C,D,E,_)=>
 (vl C).bind fun r5=>
 (nj r5.1 () E).bind fun r6=>
 aK (
  iter (X:=vr) (β:=vo) (B.natAbs+(C.length+(List.length ([]:List Int)+(A.length+(Int.natAbs ((A.length:Int))+(Int.natAbs (0:Int)+(r6.1.length+(D.length+(E.length+2))))))))) (B,C,[],A,(A.length:Int),0,r6.1,D,E,()) (JC)) fun (F,G,H,_)=>
 some (F,G,H,())
abbrev nw:Type:=(List Int)×Unit
abbrev xy:Type:=(((List Int)×Unit) ⊕ ((List Int)×Unit))
def xu (x1:nw) (again:nw→Option xy):Option xy:=
 bif decide (((x1.1.length:Int))>0) then
  (idx x1.1 (w64 (((x1.1.length:Int)) - 1))).bind fun y2=>
  bif y2==0 then
   chk (decide (0≤(0:Int))&&decide ((0:Int)≤(w64 (((x1.1.length:Int)) - 1)))&&decide ((w64 (((x1.1.length:Int)) - 1))≤(x1.1.length:Int))) <|
   again (List.drop 0 (List.take (Int.toNat (w64 (((x1.1.length:Int)) - 1))) x1.1),())
  else
   some (.inr (x1.1,()))
 else
  some (.inr (x1.1,()))
def nU (a0:List Int):Option ((List Int)×Unit):=
 aK (
  iter (X:=nw) (β:=xy) (a0.length+2) (a0,()) (xu)) fun v3=>
 some (v3.1,())
def iG (a0:Bool) (a1:List Int):Option (aF×Unit):=
 (nU a1).bind fun r1=>
 bif a0 then
  some ((decide (((r1.1.length:Int))>0),r1.1),())
 else
  some ((false,r1.1),())
def kE (a0:Int):Option (aF×Unit):=
 aK (γ:=(Int×Int×Bool×(List Int)×Unit)) (
  bif decide (a0<0) then
   some (.inr (a0,bO (0 - (bO a0)),false,[],()))
  else
   some (.inr (a0,bO a0,false,[],()))) fun v1=>
 (iG (decide (v1.1<0)) [(lW v1.2.1),(lW (Int.fdiv v1.2.1 (2 ^ 32)))]).bind fun r2=>
 some (r2.1,())
abbrev uK:Type:=(List Int)×(List Int)×Int×(List Int)×Int×Int×Unit
abbrev uJ:Type:=(((List Int)×Unit) ⊕ ((List Int)×Int×Unit))
def uI (x1:uK) (again:uK→Option uJ):Option uJ:=
 match x1 with
 | (A,B,C,D,E,F,_)=>
 bif decide (F<E) then
  (idx D F).bind fun y2=>
  aK (γ:=((List Int)×(List Int)×Int×(List Int)×Int×Int×Unit)) (
   bif decide (F<((A.length:Int))) then
    (idx A F).bind fun y3=>
    let n4:Int:=bO ((bO (C+(bO y2)))+(bO y3))
    some (.inr (A,B,n4,D,E,F,()))
   else
    some (.inr (A,B,bO (C+(bO y2)),D,E,F,()))) fun (G,H,I,J,K,L,_)=>
  chk (decide (((H.length)+1)*4≤140737488355328)&&decide ((H.length)+1≤maxLen)) <|
  again (G,H++[(lW I)],Int.fdiv I (2 ^ 32),J,K,w64 (L+1),())
 else
  some (.inr (B,C,()))
def As (a0:List Int) (a1:List Int):Option ((List Int)×Unit):=
 aK (γ:=((List Int)×(List Int)×Unit)) (
  bif decide (((a0.length:Int))<((a1.length:Int))) then
   some (.inr (a1,a0,()))
  else
   some (.inr (a0,a1,()))) fun (A,B,_)=>
 chk (decide (0≤(0:Int))&&decide ((0:Int)≤(w64 (((A.length:Int))+1)))&&decide ((4:Int)*(w64 (((A.length:Int))+1))≤281474976710656)&&decide ((w64 (((A.length:Int))+1))≤9223372036854775807)) <|
 aK (
  iter (X:=uK) (β:=uJ) (B.length+(List.length ([]:List Int)+(Int.natAbs (0:Int)+(A.length+(Int.natAbs ((A.length:Int))+(Int.natAbs (0:Int)+2)))))) (B,[],0,A,(A.length:Int),0,()) (uI)) fun (C,D,_)=>
 chk (decide (((C.length)+1)*4≤140737488355328)&&decide ((C.length)+1≤maxLen)) <|
 some (C++[(lW D)],())
abbrev rL:Type:=(List Int)×(List Int)×Int×Unit
abbrev rK:Type:=((Int×Unit) ⊕ Unit)
def nv (x1:rL) (again:rL→Option rK):Option rK:=
 match x1 with
 | (A,B,C,_)=>
 bif decide (C≥0) then
  (idx A C).bind fun y2=>
  (idx B C).bind fun y3=>
  bif y2 != y3 then
   (idx A C).bind fun y4=>
   (idx B C).bind fun y5=>
   bif decide (y4<y5) then
    some (.inl ((-1),()))
   else
    some (.inl (1,()))
  else
   again (A,B,w64 (C - 1),())
 else
  some (.inr ())
def se (a0:List Int) (a1:List Int):Option (Int×Unit):=
 bif ((a0.length:Int)) != ((a1.length:Int)) then
  some (w64 (((a0.length:Int)) - ((a1.length:Int))),())
 else
  aK (
   iter (X:=rL) (β:=rK) (a0.length+(a1.length+(Int.natAbs (w64 (((a0.length:Int)) - 1))+2))) (a0,a1,w64 (((a0.length:Int)) - 1),()) (nv)) fun _=>
  some (0,())
abbrev wU:Type:=(List Int)×(List Int)×Int×(List Int)×Int×Int×Unit
abbrev wT:Type:=(((List Int)×Unit) ⊕ ((List Int)×Unit))
def wS (x1:wU) (again:wU→Option wT):Option wT:=
 match x1 with
 | (A,B,C,D,E,F,_)=>
 bif decide (F<E) then
  (idx D F).bind fun y2=>
  aK (γ:=((List Int)×(List Int)×Int×(List Int)×Int×Int×Unit)) (
   bif decide (F<((A.length:Int))) then
    (idx A F).bind fun y3=>
    let n4:Int:=bO ((bO ((bO y2) - C)) - (bO y3))
    some (.inr (A,B,n4,D,E,F,()))
   else
    some (.inr (A,B,bO ((bO y2) - C),D,E,F,()))) fun (G,H,I,J,K,L,_)=>
  chk (decide (((H.length)+1)*4≤140737488355328)&&decide ((H.length)+1≤maxLen)) <|
  again (G,H++[(lW I)],bO (((BitVec.ofInt (IntKind.bits .u64) (Int.fdiv I (2 ^ 32)) &&& BitVec.ofInt (IntKind.bits .u64) 1).toNat:Int)),J,K,w64 (L+1),())
 else
  some (.inr (B,()))
def vi (a0:List Int) (a1:List Int):Option ((List Int)×Unit):=
 chk (decide (0≤(0:Int))&&decide ((0:Int)≤((a0.length:Int)))&&decide ((4:Int)*((a0.length:Int))≤281474976710656)&&decide (((a0.length:Int))≤9223372036854775807)) <|
 aK (
  iter (X:=wU) (β:=wT) (a1.length+(List.length ([]:List Int)+(Int.natAbs (0:Int)+(a0.length+(Int.natAbs ((a0.length:Int))+(Int.natAbs (0:Int)+2)))))) (a1,[],0,a0,(a0.length:Int),0,()) (wS)) fun v6=>
 (nU v6.1).bind fun r7=>
 some (r7.1,())
abbrev td:Type:=(List Int)×Int×Bool×(List Int)×Bool×(List Int)×Bool×(List Int)×Bool×(List Int)×(List Int)×Unit
abbrev tc:Type:=((aF×aF×Unit) ⊕ ((List Int)×Bool×(List Int)×Bool×(List Int)×(List Int)×Unit))
def s9 (x1:td) (again:td→Option tc):Option tc:=
 match x1 with
 | (A,B,C,D,E,F,G,H,I,J,K,_)=>
 bif decide (B≥0) then
  (As A A).bind fun r2=>
  chk (decide (0≤(0:Int))&&decide ((0:Int)<(r2.1.length:Int))) <|
  (r2.1[0]?).bind fun y3=>
  (idx D (w64 (Int.tdiv B 32))).bind fun y4=>
  chk (decide (0≤(Int.tmod B 32))) <|
  let n5:Int:=lW (((BitVec.ofInt (IntKind.bits .u32) (Int.fdiv y4 (2 ^ (min (Int.toNat (Int.tmod B 32)) (IntKind.bits .u32)))) &&& BitVec.ofInt (IntKind.bits .u32) 1).toNat:Int))
  chk (decide (0≤(0:Int))&&decide ((0:Int)<(r2.1.length:Int))) <|
  (r2.1[0]?).bind fun _=>
  (nU (List.set r2.1 0 (lW (((BitVec.ofInt (IntKind.bits .u32) y3 ||| BitVec.ofInt (IntKind.bits .u32) n5).toNat:Int))))).bind fun r6=>
  (se r6.1 F).bind fun r7=>
  bif decide (r7.1≥0) then
   (vi r6.1 F).bind fun r8=>
   chk (decide (0≤(w64 (Int.tdiv B 32)))&&decide ((w64 (Int.tdiv B 32))<(K.length:Int))) <|
   (K[(w64 (Int.tdiv B 32)).toNat]?).bind fun y9=>
   chk (decide (0≤(Int.tmod B 32))) <|
   let n10:Int:=lW (((BitVec.ofInt (IntKind.bits .u32) y9 ||| BitVec.ofInt (IntKind.bits .u32) (lW (1*2 ^ (min (Int.toNat (Int.tmod B 32)) (IntKind.bits .u32))))).toNat:Int))
   chk (decide (0≤(w64 (Int.tdiv B 32)))&&decide ((w64 (Int.tdiv B 32))<(K.length:Int))) <|
   (K[(w64 (Int.tdiv B 32)).toNat]?).bind fun _=>
   again (r8.1,w64 (B - 1),C,D,E,F,G,H,I,J,List.set K (w64 (Int.tdiv B 32)).toNat n10,())
  else
   again (r6.1,w64 (B - 1),C,D,E,F,G,H,I,J,K,())
 else
  some (.inr (A,G,H,I,J,K,()))
def uF (a0:aF) (a1:aF):Option (aF×aF×Unit):=
 chk (decide (0≤((a0.2.length:Int)))&&decide (((a0.2.length:Int))≤((a0.2.length:Int)))&&decide ((4:Int)*((a0.2.length:Int))≤281474976710656)&&decide (((a0.2.length:Int))≤9223372036854775807)) <|
 let n1:Int:=w64 ((w64 (((a0.2.length:Int))*32)) - 1)
 aK (
  iter (X:=td) (β:=tc) (List.length ([]:List Int)+(n1.natAbs+(a0.2.length+(a1.2.length+(List.length ([]:List Int)+(List.length ([]:List Int)+(List.length ((List.replicate (Int.toNat ((a0.2.length:Int))) 0):List Int)+2))))))) ([],n1,a0.1,a0.2,a1.1,a1.2,false,[],false,[],List.replicate (Int.toNat ((a0.2.length:Int))) 0,()) (s9)) fun v14=>
 (iG false v14.2.2.2.2.2.1).bind fun r15=>
 (iG false v14.1).bind fun r16=>
 some (r15.1,r16.1,())
def fG (a0:aF):Option (Int×Unit):=
 bif a0.1 then
  some ((-1),())
 else
  bif ((a0.2.length:Int))==0 then
   some (0,())
  else
   some (1,())
def oN (a0:aF):Option (aF×Unit):=
 (iG (!a0.1) a0.2).bind fun r1=>
 some (r1.1,())
abbrev rJ:Type:=Int×Int×(List Int)×Int×Int×Bool×(List Int)×Unit
abbrev rI:Type:=((Int×Bool×Unit) ⊕ (Int×Int×Bool×(List Int)×Unit))
def rH (x1:rJ) (again:rJ→Option rI):Option rI:=
 match x1 with
 | (A,B,C,D,E,F,G,_)=>
 bif decide (E<D) then
  (idx C E).bind fun y2=>
  chk (decide (0≤(w64 (32*E)))) <|
  let n3:Int:=bO ((bO y2)*2 ^ (min (Int.toNat (w64 (32*E))) (IntKind.bits .u64)))
  again (A,bO (((BitVec.ofInt (IntKind.bits .u64) B ||| BitVec.ofInt (IntKind.bits .u64) n3).toNat:Int)),C,D,w64 (E+1),F,G,())
 else
  some (.inr (A,B,F,G,()))
def wR (a0:aF) (a1:Int):Option (Int×Bool×Unit):=
 bif decide (((a0.2.length:Int))>2) then
  some (0,false,())
 else
  aK (
   iter (X:=rJ) (β:=rI) (a1.natAbs+(Int.natAbs (0:Int)+(a0.2.length+(Int.natAbs ((a0.2.length:Int))+(Int.natAbs (0:Int)+(a0.2.length+2)))))) (a1,0,a0.2,(a0.2.length:Int),0,a0.1,a0.2,()) (rH)) fun (A,B,C,_,_)=>
  bif decide (B>(bO A)) then
   some (0,false,())
  else
   bif C then
    some (w64 (0 - (w64 B)),true,())
   else
    some (w64 B,true,())
def vX (a0:aF) (a1:Int):Option (ah×Int×Unit):=
 (wR a0 1000000000000000).bind fun r1=>
 bif !r1.2.1 then
  some ((0,0),1,())
 else
  some ((r1.1,a1),0,())
abbrev qQ:Type:=Int×Bool×(List Int)×Int×Int×Bool×(List Int)×Unit
abbrev qP:Type:=((ah×Int×Unit) ⊕ (Int×Bool×(List Int)×Int×Int×Unit))
def qO (x1:qQ) (again:qQ→Option qP):Option qP:=
 match x1 with
 | (A,B,C,D,E,F,G,_)=>
 bif decide (A>0) then
  (uF (B,C) (F,G)).bind fun r2=>
  (fG r2.2.1).bind fun r3=>
  bif r3.1 != 0 then
   some (.inr (A,B,C,D,E,()))
  else
   (fG (B,C)).bind fun r4=>
   bif decide (r4.1<0) then
    (oN r2.1).bind fun r5=>
    again (w64 (A - 1),r5.1.1,r5.1.2,D,E,F,G,())
   else
    again (w64 (A - 1),r2.1.1,r2.1.2,D,E,F,G,())
 else
  some (.inr (A,B,C,D,E,()))
def jC (a0:aF) (a1:Int):Option (ah×Int×Unit):=
 (kE 10).bind fun r1=>
 aK (
  iter (X:=qQ) (β:=qP) (a1.natAbs+(a0.2.length+(Int.natAbs (0:Int)+(Int.natAbs (0:Int)+(r1.1.2.length+2))))) (a1,a0.1,a0.2,0,0,r1.1.1,r1.1.2,()) (qO)) fun v7=>
 (vX (v7.2.1,v7.2.2.1) v7.1).bind fun r8=>
 some (r8.1,r8.2.1,())
def LO (a0:Int):Option (ah×Int×Unit):=
 (kE a0).bind fun r1=>
 (jC r1.1 4).bind fun r2=>
 some (r2.1,r2.2.1,())
def uN (a0:Int):Option (ah×Unit):=
 (LO a0).bind fun r1=>
 some (r1.1,())
abbrev Dk:Type:=(List Int)×(List nV)×(List (Option Nat))×Int×Int×(List av)×Unit
abbrev Dj:Type:=(((List nV)×(List ah)×Int×Unit) ⊕ ((List Int)×(List nV)×(List av)×Unit))
def Rs (x1:Dk) (again:Dk→Option Dj):Option Dj:=
 match x1 with
 | (A,B,C,D,E,F,_)=>
 bif decide (E<D) then
  (idx C E).bind fun y2=>
  (y2).bind fun h3=>
  (F[h3]?).bind fun y4=>
  (y2).bind fun h5=>
  (F[h5]?).bind fun y6=>
  (uN y6.2.2.1).bind fun r7=>
  (y2).bind fun h8=>
  (F[h8]?).bind fun y9=>
  (uN y9.2.2.2.1).bind fun r10=>
  (y2).bind fun h11=>
  (F[h11]?).bind fun y12=>
  chk (decide (((B.length)+1)*56≤140737488355328)&&decide ((B.length)+1≤maxLen)) <|
  again (A,B++[(y4.1.1,r7.1,r10.1,y12.2.2.2.2)],C,D,w64 (E+1),F,())
 else
  some (.inr (A,B,F,()))
abbrev BH:Type:=(List nV)×(List ah)×(List Int)×Int×Int×(List av)×Unit
abbrev BG:Type:=(((List nV)×(List ah)×Int×Unit) ⊕ ((List nV)×(List ah)×(List av)×Unit))
def Qh (x1:BH) (again:BH→Option BG):Option BG:=
 match x1 with
 | (A,B,C,D,E,F,_)=>
 bif decide (E<D) then
  (idx C E).bind fun y2=>
  (uN y2).bind fun r3=>
  chk (decide (((B.length)+1)*16≤140737488355328)&&decide ((B.length)+1≤maxLen)) <|
  again (A,B++[r3.1],C,D,w64 (E+1),F,())
 else
  some (.inr (A,B,F,()))
def Qg (a0:List cB) (a1:List cm):Option ((List nV)×(List ah)×Int×Unit):=
 (Eg a0 a1).bind fun r1=>
 bif r1.1 != 0 then
  some ([],[],r1.1,())
 else
  (Gk a0 a1 3652059 []).bind fun r2=>
  aK (
   iter (X:=Dk) (β:=Dj) (r2.2.1.length+(List.length ([]:List nV)+(r2.1.length+(Int.natAbs ((r2.1.length:Int))+(Int.natAbs (0:Int)+(r2.2.2.1.length+2)))))) (r2.2.1,[],r2.1,(r2.1.length:Int),0,r2.2.2.1,()) (Rs)) fun (A,B,C,_)=>
  aK (
   iter (X:=BH) (β:=BG) (B.length+(List.length ([]:List ah)+(A.length+(Int.natAbs ((A.length:Int))+(Int.natAbs (0:Int)+(C.length+2)))))) (B,[],A,(A.length:Int),0,C,()) (Qh)) fun v19=>
  some (v19.1,v19.2.1,0,())
def Aa:Option (Bool×Unit):=
 (Qg [([97],5,(7,0),0,0,0)] [(6,(9,0),[])]).bind fun r1=>
 bif r1.2.2.1==0 then
  bif ((r1.1.length:Int))==1 then
   (idx r1.1 0).bind fun y2=>
   bif y2.2.2.2==6 then
    bif ((r1.2.1.length:Int))==1 then
     (idx r1.2.1 0).bind fun y3=>
     some (y3.1==2,())
    else
     some (false,())
   else
    some (false,())
  else
   some (false,())
 else
  some (false,())
end Go.Md
namespace Go.Md
open Go.Dn
end Go.Md
end
