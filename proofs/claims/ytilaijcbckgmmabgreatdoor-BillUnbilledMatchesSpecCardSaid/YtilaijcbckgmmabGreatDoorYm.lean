/-
  Plain models, first part. No condition.
-/
import Derived.Test.YtilaijcbckgmmabGreatDoorYd
import Derived.Lib.SlTrimSet
noncomputable section
namespace Go.Md
open Go.Dn
abbrev Bys:Type:=List UInt8
def lU (s c:Bys):Option (Bys×Unit):=
 bif decide (s.length<=9223372036854775807)&&(decide (c.length<4294967281)&&c.all fun b=>decide (b.toNat<128)) then some (Lib.trimS s c,()) else none
abbrev cl:Ty:=(.st (.pair tI tI))
abbrev ah:Type:=Int×Int
abbrev cQ:Ty:=(.st (.pair tI (.pair cl (.slice .str))))
abbrev cP:Type:=Int×ah×(List Bys)
abbrev BR:Ty:=(.st (.pair .str (.pair cl (.pair cl tI))))
abbrev pI:Type:=Bys×ah×ah×Int
abbrev bn:Ty:=(.st (.pair .bool (.slice tI)))
abbrev aJ:Type:=Bool×(List Int)
abbrev ff:Ty:=(.st (.pair .str (.pair tI (.pair cl (.pair tI (.pair tI tI))))))
abbrev eZ:Type:=Bys×Int×ah×Int×Int×Int
abbrev aS:Ty:=(.st (.pair ff (.pair tI (.pair tI (.pair tI tI)))))
abbrev aE:Type:=eZ×Int×Int×Int×Int
abbrev bh:Ty:=(.st (.pair .bool (.slice (.int .u32))))
abbrev aO:Type:=Bool×(List Int)
def cK (a0:Bys):Option (Bool×Unit):=
 bif decide (((a0.length:Int))<1) then
  some (false,())
 else
  bif decide (((a0.length:Int))>40) then
   some (false,())
  else
   (En a0 0).bind fun c1=>
   bif decide ((c1.toNat:Int)<97) then
    some (false,())
   else
    (En a0 0).bind fun c2=>
    bif decide ((c2.toNat:Int)>122) then
     some (false,())
    else
     (lU a0 [97,98,99,100,101,102,103,104,105,106,107,108,109,110,111,112,113,114,115,116,117,118,119,120,121,122,48,49,50,51,52,53,54,55,56,57,45]).bind fun r3=>
     some (r3.1==[],())
def Eu (a0:eZ) (a1:eZ):Option (Bool×Unit):=
 some (a0.1==a1.1,())
abbrev kY:Type:=(List eZ)×eZ×Int×Int×Unit
abbrev kX:Type:=((Int×Unit) ⊕ Unit)
def Ct (x1:kY) (again:kY->Option kX):Option kX:=
 match x1 with
 | (A,B,C,D,_)=>
 bif decide (D<C) then
  (idx A D).bind fun y2=>
  (Eu y2 B).bind fun r3=>
  bif r3.1 then
   some (.inl (D,()))
  else
   again (A,B,C,w64 (D+1),())
 else
  some (.inr ())
def vo (a0:List eZ) (a1:eZ):Option (Int×Unit):=
 aB (
  iter (X:=kY) (β:=kX) (a0.length+(Int.natAbs ((a0.length:Int))+(Int.natAbs (0:Int)+2))) (a0,a1,(a0.length:Int),0,()) (Ct)) fun _=>
 some ((-1),())
def sd (a0:List eZ) (a1:eZ):Option (Bool×Unit):=
 (vo a0 a1).bind fun r1=>
 some (decide (r1.1>=0),())
def bP (a0:Int) (a1:Int) (a2:Int):Option (Bool×Unit):=
 bif decide (a0<a1) then
  some (true,())
 else
  some (decide (a0>a2),())
def iw (a0:Int):Option (Bool×Unit):=
 (bP a0 1 3652059).bind fun r1=>
 some (!r1.1,())
def cA (a0:ah):Option (Int×Unit):=
 (bP a0.1 (-1000000000000000) 1000000000000000).bind fun r1=>
 bif r1.1 then
  some (1,())
 else
  (bP a0.2 0 9).bind fun r2=>
  bif r2.1 then
   some (1,())
  else
   some (0,())
abbrev zo:Type:=Int×Int×Int×Unit
abbrev zn:Type:=((Int×Unit) ⊕ (Int×Unit))
def zm (x1:zo) (again:zo->Option zn):Option zn:=
 bif decide (x1.2.2.1<x1.2.1) then
  again (w64 (x1.1*10),x1.2.1,w64 (x1.2.2.1+1),())
 else
  some (.inr (x1.1,()))
def xm (a0:Int):Option (Int×Unit):=
 aB (
  iter (X:=zo) (β:=zn) (Int.natAbs (1:Int)+(a0.natAbs+(Int.natAbs (0:Int)+2))) (1,a0,0,()) (zm)) fun v2=>
 some (v2.1,())
def eE (a0:ah) (a1:Int):Option (Bool×Unit):=
 (xm a0.2).bind fun r1=>
 (bP a0.1 (w64 (0 - (w64 (a1*r1.1)))) (w64 (a1*r1.1))).bind fun r2=>
 some (!r2.1,())
def pO (a0:ah):Option (Int×Unit):=
 (cA a0).bind fun r1=>
 bif r1.1 != 0 then
  some (r1.1,())
 else
  bif decide (a0.1<=0) then
   some (1,())
  else
   bif decide (a0.2>4) then
    some (1,())
   else
    (eE a0 1000000000).bind fun r2=>
    bif !r2.1 then
     some (1,())
    else
     some (0,())
abbrev vR:Type:=(List eZ)×(List eZ)×Int×Int×Unit
abbrev vQ:Type:=((Int×Unit) ⊕ Unit)
def Mn (x1:vR) (again:vR->Option vQ):Option vQ:=
 match x1 with
 | (A,B,C,D,_)=>
 bif decide (D<C) then
  (idx B D).bind fun y2=>
  (cK y2.1).bind fun r3=>
  bif !r3.1 then
   some (.inl (5,()))
  else
   chk (decide (0<=(0:Int))&&decide ((0:Int)<=D)&&decide (D<=(A.length:Int))) <|
   (sd (List.drop 0 (List.take (Int.toNat D) A)) y2).bind fun r4=>
   bif r4.1 then
    some (.inl (7,()))
   else
    (iw y2.2.1).bind fun r5=>
    bif !r5.1 then
     some (.inl (1,()))
    else
     bif decide (D>0) then
      (idx A (w64 (D - 1))).bind fun y6=>
      bif decide (y2.2.1<y6.2.1) then
       some (.inl (8,()))
      else
       (pO y2.2.2.1).bind fun r7=>
       bif r7.1 != 0 then
        some (.inl (r7.1,()))
       else
        (bP y2.2.2.2.1 0 10000).bind fun r8=>
        bif r8.1 then
         some (.inl (1,()))
        else
         (bP y2.2.2.2.2.1 0 y2.2.2.2.1).bind fun r9=>
         bif r9.1 then
          some (.inl (1,()))
         else
          (bP y2.2.2.2.2.2 0 1000).bind fun r10=>
          bif r10.1 then
           some (.inl (1,()))
          else
           again (A,B,C,w64 (D+1),())
     else
      (pO y2.2.2.1).bind fun r11=>
      bif r11.1 != 0 then
       some (.inl (r11.1,()))
      else
       (bP y2.2.2.2.1 0 10000).bind fun r12=>
       bif r12.1 then
        some (.inl (1,()))
       else
        (bP y2.2.2.2.2.1 0 y2.2.2.2.1).bind fun r13=>
        bif r13.1 then
         some (.inl (1,()))
        else
         (bP y2.2.2.2.2.2 0 1000).bind fun r14=>
         bif r14.1 then
          some (.inl (1,()))
         else
          again (A,B,C,w64 (D+1),())
 else
  some (.inr ())
def Hq (a0:List eZ):Option (Int×Unit):=
 bif decide (((a0.length:Int))>200) then
  some (2,())
 else
  aB (
   iter (X:=vR) (β:=vQ) (a0.length+(a0.length+(Int.natAbs ((a0.length:Int))+(Int.natAbs (0:Int)+2)))) (a0,a0,(a0.length:Int),0,()) (Mn)) fun _=>
  some (0,())
abbrev qO:Type:=(List Bys)×Bys×Int×Int×Unit
abbrev qN:Type:=((Int×Unit) ⊕ Unit)
def IU (x1:qO) (again:qO->Option qN):Option qN:=
 match x1 with
 | (A,B,C,D,_)=>
 bif decide (D<C) then
  (idx A D).bind fun y2=>
  bif B==y2 then
   some (.inl (D,()))
  else
   again (A,B,C,w64 (D+1),())
 else
  some (.inr ())
def B7 (a0:List Bys) (a1:Bys):Option (Int×Unit):=
 aB (
  iter (X:=qO) (β:=qN) (a0.length+(a1.length+(Int.natAbs ((a0.length:Int))+(Int.natAbs (0:Int)+2)))) (a0,a1,(a0.length:Int),0,()) (IU)) fun _=>
 some ((-1),())
def yX (a0:List Bys) (a1:Bys):Option (Bool×Unit):=
 (B7 a0 a1).bind fun r1=>
 some (decide (r1.1>=0),())
abbrev lu:Type:=(List cP)×(List cP)×Int×Int×(List Bys)×Int×Int×Int×Int×Int×(List Bys)×Unit
abbrev lq:Type:=(((Int×Unit) ⊕ Unit) ⊕ ((List cP)×(List cP)×Int×Int×Unit))
def yK (x1:lu) (again:lu->Option lq):Option lq:=
 match x1 with
 | (A,B,C,D,E,F,G,H,I,J,K,_)=>
 bif decide (G<F) then
  (idx E G).bind fun y2=>
  (cK y2).bind fun r3=>
  bif !r3.1 then
   IE <|
    some (.inl (5,()))
  else
   chk (decide (0<=(0:Int))&&decide ((0:Int)<=G)&&decide (G<=(K.length:Int))) <|
   (yX (List.drop 0 (List.take (Int.toNat G) K)) y2).bind fun r4=>
   bif r4.1 then
    IE <|
     some (.inl (7,()))
   else
    again (A,B,C,D,E,F,w64 (G+1),H,I,J,K,())
 else
  some (.inr (A,B,C,D,()))
abbrev rD:Type:=(List cP)×(List cP)×Int×Int×Unit
abbrev rC:Type:=((Int×Unit) ⊕ Unit)
def Ja (x1:rD) (again:rD->Option rC):Option rC:=
 match x1 with
 | (A,B,C,D,_)=>
 bif decide (D<C) then
  (idx B D).bind fun y2=>
  (iw y2.1).bind fun r3=>
  bif !r3.1 then
   some (.inl (1,()))
  else
   bif decide (D>0) then
    (idx A (w64 (D - 1))).bind fun y4=>
    bif decide (y2.1<y4.1) then
     some (.inl (8,()))
    else
     (pO y2.2.1).bind fun r5=>
     bif r5.1 != 0 then
      some (.inl (r5.1,()))
     else
      bif decide (((y2.2.2.length:Int))>100) then
       some (.inl (2,()))
      else
       aB (
        iter (X:=lu) (β:=lq) (A.length+(B.length+(C.natAbs+(D.natAbs+(y2.2.2.length+(Int.natAbs ((y2.2.2.length:Int))+(Int.natAbs (0:Int)+(y2.1.natAbs+(y2.2.1.1.natAbs+(y2.2.1.2.natAbs+(y2.2.2.length+2))))))))))) (A,B,C,D,y2.2.2,(y2.2.2.length:Int),0,y2.1,y2.2.1.1,y2.2.1.2,y2.2.2,()) (yK)) fun (E,F,G,H,_)=>
       again (E,F,G,w64 (H+1),())
   else
    (pO y2.2.1).bind fun r7=>
    bif r7.1 != 0 then
     some (.inl (r7.1,()))
    else
     bif decide (((y2.2.2.length:Int))>100) then
      some (.inl (2,()))
     else
      aB (
       iter (X:=lu) (β:=lq) (A.length+(B.length+(C.natAbs+(D.natAbs+(y2.2.2.length+(Int.natAbs ((y2.2.2.length:Int))+(Int.natAbs (0:Int)+(y2.1.natAbs+(y2.2.1.1.natAbs+(y2.2.1.2.natAbs+(y2.2.2.length+2))))))))))) (A,B,C,D,y2.2.2,(y2.2.2.length:Int),0,y2.1,y2.2.1.1,y2.2.1.2,y2.2.2,()) (yK)) fun (I,J,K,L,_)=>
      again (I,J,K,w64 (L+1),())
 else
  some (.inr ())
def Df (a0:List cP):Option (Int×Unit):=
 bif decide (((a0.length:Int))>500) then
  some (2,())
 else
  aB (
   iter (X:=rD) (β:=rC) (a0.length+(a0.length+(Int.natAbs ((a0.length:Int))+(Int.natAbs (0:Int)+2)))) (a0,a0,(a0.length:Int),0,()) (Ja)) fun _=>
  some (0,())
def Jb (a0:List eZ) (a1:List cP):Option (Int×Unit):=
 (Hq a0).bind fun r1=>
 bif r1.1 != 0 then
  some (r1.1,())
 else
  (Df a1).bind fun r2=>
  some (r2.1,())
def Kf (a0:ah):Option (Int×Unit):=
 (xm (w64 (4 - a0.2))).bind fun r1=>
 some (w64 (a0.1*r1.1),())
def xX (a0:List (Option Nat)):Option ((List (Option Nat))×Unit):=
 bif List.isEmpty a0 then
  both (
   some ([],())) (
   chk (decide ((0+(a0.length))*8<=140737488355328)&&decide (0+(a0.length)<=maxLen)) <|
   some (a0,()))
 else
  chk (decide ((0+(a0.length))*8<=140737488355328)&&decide (0+(a0.length)<=maxLen)) <|
  some (a0,())
def Cb (a0:Option Nat) (a1:List aE):Option (Int×Unit):=
 (a0).bind fun h1=>
 (a1[h1]?).bind fun y2=>
 (a0).bind fun h3=>
 (a1[h3]?).bind fun y4=>
 some (w64 (y2.1.2.1+y4.1.2.2.2.1),())
def pP (a0:Option Nat) (a1:Option Nat) (a2:List aE):Option (Int×Unit):=
 (Cb a0 a2).bind fun r1=>
 (Cb a1 a2).bind fun r2=>
 some (w64 (r1.1 - r2.1),())
abbrev fD:Type:=Int×Int×Unit×Int×Int×(List (Option Nat))×(List aE)×Unit
abbrev fB:Type:=((((List (Option Nat))×Unit) ⊕ ((List (Option Nat))×(List aE)×Unit)) ⊕ (Int×Int×Unit×Int×(List (Option Nat))×(List aE)×Unit))
def sC (x1:fD) (again:fD->Option fB):Option fB:=
 match x1 with
 | (A,B,C,D,E,F,G,_)=>
 bif decide (E>A) then
  chk (decide (0<=E)&&decide (E<(F.length:Int))) <|
  (F[E.toNat]?).bind fun y2=>
  chk (decide (0<=(w64 (E - 1)))&&decide ((w64 (E - 1))<(F.length:Int))) <|
  (F[(w64 (E - 1)).toNat]?).bind fun y3=>
  (pP y2 y3 G).bind fun r4=>
  bif decide (r4.1<0) then
   chk (decide (0<=(w64 (E - 1)))&&decide ((w64 (E - 1))<(F.length:Int))) <|
   (F[(w64 (E - 1)).toNat]?).bind fun y5=>
   chk (decide (0<=E)&&decide (E<(F.length:Int))) <|
   (F[E.toNat]?).bind fun y6=>
   chk (decide (0<=E)&&decide (E<(F.length:Int))) <|
   (F[E.toNat]?).bind fun _=>
   chk (decide (0<=(w64 (E - 1)))&&decide ((w64 (E - 1))<(List.length (List.set F E.toNat y5):Int))) <|
   ((List.set F E.toNat y5)[(w64 (E - 1)).toNat]?).bind fun _=>
   again (A,B,C,D,w64 (E - 1),List.set (List.set F E.toNat y5) (w64 (E - 1)).toNat y6,G,())
  else
   some (.inr (A,B,C,D,F,G,()))
 else
  some (.inr (A,B,C,D,F,G,()))
abbrev fC:Type:=Int×Int×Unit×Int×(List (Option Nat))×(List aE)×Unit
abbrev fA:Type:=(((List (Option Nat))×Unit) ⊕ ((List (Option Nat))×(List aE)×Unit))
def sB (x1:fC) (again:fC->Option fA):Option fA:=
 match x1 with
 | (A,B,C,D,E,F,_)=>
 bif decide (D<B) then
  aB (
   iter (X:=fD) (β:=fB) (A.natAbs+(B.natAbs+(D.natAbs+(D.natAbs+(E.length+2))))) (A,B,C,D,D,E,F,()) (sC)) fun (G,H,I,J,K,L,_)=>
  again (G,H,I,w64 (J+1),K,L,())
 else
  some (.inr (E,F,()))
def fV (a0:List (Option Nat)) (a1:Int) (a2:Int) (a3:Unit) (a4:List aE):Option ((List (Option Nat))×Unit):=
 aB (
  iter (X:=fC) (β:=fA) (a1.natAbs+(a2.natAbs+(Int.natAbs (w64 (a1+1))+(a0.length+2)))) (a1,a2,a3,w64 (a1+1),a0,a4,()) (sB)) fun v11=>
 some (v11.1,())
abbrev gj:Type:=Int×Int×Int×Int×(List (Option Nat))×(List aE)×Unit
abbrev gh:Type:=(((List (Option Nat))×Unit) ⊕ ((List (Option Nat))×(List aE)×Unit))
def vI (x1:gj) (again:gj->Option gh):Option gh:=
 match x1 with
 | (A,B,C,D,E,F,_)=>
 bif decide (D<C) then
  chk (decide (0<=(w64 (B+D)))&&decide ((w64 (B+D))<(E.length:Int))) <|
  (E[(w64 (B+D)).toNat]?).bind fun y2=>
  chk (decide (0<=(w64 (A+D)))&&decide ((w64 (A+D))<(E.length:Int))) <|
  (E[(w64 (A+D)).toNat]?).bind fun y3=>
  chk (decide (0<=(w64 (A+D)))&&decide ((w64 (A+D))<(E.length:Int))) <|
  (E[(w64 (A+D)).toNat]?).bind fun _=>
  chk (decide (0<=(w64 (B+D)))&&decide ((w64 (B+D))<(List.length (List.set E (w64 (A+D)).toNat y2):Int))) <|
  ((List.set E (w64 (A+D)).toNat y2)[(w64 (B+D)).toNat]?).bind fun _=>
  again (A,B,C,w64 (D+1),List.set (List.set E (w64 (A+D)).toNat y2) (w64 (B+D)).toNat y3,F,())
 else
  some (.inr (E,F,()))
def fe (a0:List (Option Nat)) (a1:Int) (a2:Int) (a3:Int) (_a4:Unit) (a5:List aE):Option ((List (Option Nat))×Unit):=
 aB (
  iter (X:=gj) (β:=gh) (a1.natAbs+(a2.natAbs+(a3.natAbs+(Int.natAbs (0:Int)+(a0.length+2))))) (a1,a2,a3,0,a0,a5,()) (vI)) fun v6=>
 some (v6.1,())
abbrev ia:Type:=Int×Unit×Int×Int×(List (Option Nat))×(List aE)×Unit
abbrev gZ:Type:=(((List (Option Nat))×Unit) ⊕ (Int×Unit×Int×(List (Option Nat))×(List aE)×Unit))
def yA (x1:ia) (again:ia->Option gZ):Option gZ:=
 match x1 with
 | (A,B,C,D,E,F,_)=>
 bif C != D then
  bif decide (C>D) then
   (fe E (w64 (A - C)) A D B F).bind fun r2=>
   again (A,B,w64 (C - D),D,r2.1,F,())
  else
   (fe E (w64 (A - C)) (w64 ((w64 (A+D)) - C)) C B F).bind fun r3=>
   again (A,B,C,w64 (D - C),r3.1,F,())
 else
  some (.inr (A,B,C,E,F,()))
def oS (a0:List (Option Nat)) (a1:Int) (a2:Int) (a3:Int) (a4:Unit) (a5:List aE):Option ((List (Option Nat))×Unit):=
 aB (
  iter (X:=ia) (β:=gZ) (a2.natAbs+(Int.natAbs (w64 (a2 - a1))+(Int.natAbs (w64 (a3 - a2))+(a0.length+2)))) (a2,a4,w64 (a2 - a1),w64 (a3 - a2),a0,a5,()) (yA)) fun (A,B,C,D,E,_)=>
 (fe D (w64 (A - C)) A C B E).bind fun r5=>
 some (r5.1,())
abbrev gJ:Type:=Int×Unit×Int×Int×(List (Option Nat))×(List aE)×Unit
abbrev gH:Type:=(((List (Option Nat))×Unit) ⊕ (Int×Int×(List (Option Nat))×(List aE)×Unit))
def wK (x1:gJ) (again:gJ->Option gH):Option gH:=
 match x1 with
 | (A,B,C,D,E,F,_)=>
 bif decide (C<D) then
  let n2:Int:=w64 (Int.fdiv (cn (w64 (C+D))) (2 ^ 1))
  chk (decide (0<=n2)&&decide (n2<(E.length:Int))) <|
  (E[n2.toNat]?).bind fun y3=>
  chk (decide (0<=A)&&decide (A<(E.length:Int))) <|
  (E[A.toNat]?).bind fun y4=>
  (pP y3 y4 F).bind fun r5=>
  bif decide (r5.1<0) then
   again (A,B,w64 (n2+1),D,E,F,())
  else
   again (A,B,C,n2,E,F,())
 else
  some (.inr (A,C,E,F,()))
abbrev gK:Type:=Int×Int×(List (Option Nat))×(List aE)×Unit
abbrev gI:Type:=(((List (Option Nat))×Unit) ⊕ ((List (Option Nat))×(List aE)×Unit))
def wL (x1:gK) (again:gK->Option gI):Option gI:=
 match x1 with
 | (A,B,C,D,_)=>
 bif decide (B<(w64 (A - 1))) then
  chk (decide (0<=(w64 (B+1)))&&decide ((w64 (B+1))<(C.length:Int))) <|
  (C[(w64 (B+1)).toNat]?).bind fun y2=>
  chk (decide (0<=B)&&decide (B<(C.length:Int))) <|
  (C[B.toNat]?).bind fun y3=>
  chk (decide (0<=B)&&decide (B<(C.length:Int))) <|
  (C[B.toNat]?).bind fun _=>
  chk (decide (0<=(w64 (B+1)))&&decide ((w64 (B+1))<(List.length (List.set C B.toNat y2):Int))) <|
  ((List.set C B.toNat y2)[(w64 (B+1)).toNat]?).bind fun _=>
  again (A,w64 (B+1),List.set (List.set C B.toNat y2) (w64 (B+1)).toNat y3,D,())
 else
  some (.inr (C,D,()))
abbrev gu:Type:=Int×Unit×Int×Int×(List (Option Nat))×(List aE)×Unit
abbrev gm:Type:=(((List (Option Nat))×Unit) ⊕ (Int×Int×(List (Option Nat))×(List aE)×Unit))
def vJ (x1:gu) (again:gu->Option gm):Option gm:=
 match x1 with
 | (A,B,C,D,E,F,_)=>
 bif decide (C<D) then
  let n2:Int:=w64 (Int.fdiv (cn (w64 (C+D))) (2 ^ 1))
  chk (decide (0<=A)&&decide (A<(E.length:Int))) <|
  (E[A.toNat]?).bind fun y3=>
  chk (decide (0<=n2)&&decide (n2<(E.length:Int))) <|
  (E[n2.toNat]?).bind fun y4=>
  (pP y3 y4 F).bind fun r5=>
  bif !(decide (r5.1<0)) then
   again (A,B,w64 (n2+1),D,E,F,())
  else
   again (A,B,C,n2,E,F,())
 else
  some (.inr (A,C,E,F,()))
abbrev gv:Type:=Int×Int×(List (Option Nat))×(List aE)×Unit
abbrev gp:Type:=(((List (Option Nat))×Unit) ⊕ ((List (Option Nat))×(List aE)×Unit))
def vK (x1:gv) (again:gv->Option gp):Option gp:=
 match x1 with
 | (A,B,C,D,_)=>
 bif decide (B>A) then
  chk (decide (0<=(w64 (B - 1)))&&decide ((w64 (B - 1))<(C.length:Int))) <|
  (C[(w64 (B - 1)).toNat]?).bind fun y2=>
  chk (decide (0<=B)&&decide (B<(C.length:Int))) <|
  (C[B.toNat]?).bind fun y3=>
  chk (decide (0<=B)&&decide (B<(C.length:Int))) <|
  (C[B.toNat]?).bind fun _=>
  chk (decide (0<=(w64 (B - 1)))&&decide ((w64 (B - 1))<(List.length (List.set C B.toNat y2):Int))) <|
  ((List.set C B.toNat y2)[(w64 (B - 1)).toNat]?).bind fun _=>
  again (A,w64 (B - 1),List.set (List.set C B.toNat y2) (w64 (B - 1)).toNat y3,D,())
 else
  some (.inr (C,D,()))
abbrev gw:Type:=Int×Int×Int×Unit×Int×Int×Int×Int×Int×(List (Option Nat))×(List aE)×Unit
abbrev gq:Type:=(((List (Option Nat))×Unit) ⊕ (Int×Int×Int×Unit×Int×Int×Int×(List (Option Nat))×(List aE)×Unit))
def vL (x1:gw) (again:gw->Option gq):Option gq:=
 match x1 with
 | (A,B,C,D,E,F,G,H,I,J,K,_)=>
 bif decide (G<H) then
  let n2:Int:=w64 (Int.fdiv (cn (w64 (G+H))) (2 ^ 1))
  chk (decide (0<=(w64 (I - n2)))&&decide ((w64 (I - n2))<(J.length:Int))) <|
  (J[(w64 (I - n2)).toNat]?).bind fun y3=>
  chk (decide (0<=n2)&&decide (n2<(J.length:Int))) <|
  (J[n2.toNat]?).bind fun y4=>
  (pP y3 y4 K).bind fun r5=>
  bif !(decide (r5.1<0)) then
   again (A,B,C,D,E,F,w64 (n2+1),H,I,J,K,())
  else
   again (A,B,C,D,E,F,G,n2,I,J,K,())
 else
  some (.inr (A,B,C,D,E,F,G,J,K,()))
def dB (self:((List (Option Nat))×Int×Int×Int×Unit×(List aE)×Unit)->Option ((List (Option Nat))×Unit)) (a0:List (Option Nat)) (a1:Int) (a2:Int) (a3:Int) (a4:Unit) (a5:List aE):Option ((List (Option Nat))×Unit):=
 bif (w64 (a2 - a1))==1 then
  aB (
   iter (X:=gJ) (β:=gH) (a1.natAbs+(a2.natAbs+(a3.natAbs+(a0.length+2)))) (a1,a4,a2,a3,a0,a5,()) (wK)) fun (A,B,C,D,_)=>
  aB (
   iter (X:=gK) (β:=gI) (B.natAbs+(A.natAbs+(C.length+2))) (B,A,C,D,()) (wL)) fun v12=>
  some (v12.1,())
 else
  bif (w64 (a3 - a2))==1 then
   aB (
    iter (X:=gu) (β:=gm) (a2.natAbs+(a1.natAbs+(a2.natAbs+(a0.length+2)))) (a2,a4,a1,a2,a0,a5,()) (vJ)) fun (F,G,H,I,_)=>
   aB (
    iter (X:=gv) (β:=gp) (G.natAbs+(F.natAbs+(H.length+2))) (G,F,H,I,()) (vK)) fun v24=>
   some (v24.1,())
  else
   let n25:Int:=w64 (Int.fdiv (cn (w64 (a1+a3))) (2 ^ 1))
   aB (γ:=(Int×Int×Int×Unit×Int×Int×Int×Int×(List (Option Nat))×(List aE)×Unit)) (
    bif decide (a2>n25) then
     some (.inr (a1,a2,a3,a4,n25,w64 (n25+a2),w64 ((w64 (n25+a2)) - a3),n25,a0,a5,()))
    else
     some (.inr (a1,a2,a3,a4,n25,w64 (n25+a2),a1,a2,a0,a5,()))) fun (K,L,M,N,O,P,Q,R,S,T,_)=>
   aB (
    iter (X:=gw) (β:=gq) (K.natAbs+(L.natAbs+(M.natAbs+(O.natAbs+(P.natAbs+(Q.natAbs+(R.natAbs+(Int.natAbs (w64 (P - 1))+(S.length+2))))))))) (K,L,M,N,O,P,Q,R,w64 (P - 1),S,T,()) (vL)) fun (U,V,W,Y,Z,A0,B0,C0,D0,_)=>
   bif decide (B0<V) then
    aB (γ:=(Int×Int×Unit×Int×Int×Int×(List (Option Nat))×(List aE)×Unit)) (
     bif decide (V<(w64 (A0 - B0))) then
      (oS C0 B0 V (w64 (A0 - B0)) Y D0).bind fun r33=>
      some (.inr (U,W,Y,Z,B0,w64 (A0 - B0),r33.1,D0,()))
     else
      some (.inr (U,W,Y,Z,B0,w64 (A0 - B0),C0,D0,()))) fun (E0,F0,G0,H0,I0,J0,K0,L0,_)=>
    bif decide (E0<I0) then
     aB (γ:=(Int×Unit×Int×Int×(List (Option Nat))×(List aE)×Unit)) (
      bif decide (I0<H0) then
       (self (K0,E0,I0,H0,G0,L0,())).bind fun r35=>
       some (.inr (F0,G0,H0,J0,r35.1,L0,()))
      else
       some (.inr (F0,G0,H0,J0,K0,L0,()))) fun (M0,N0,O0,P0,Q0,R0,_)=>
     bif decide (O0<P0) then
      bif decide (P0<M0) then
       (self (Q0,O0,P0,M0,N0,R0,())).bind fun r37=>
       some (r37.1,())
      else
       some (Q0,())
     else
      some (Q0,())
    else
     bif decide (H0<J0) then
      bif decide (J0<F0) then
       (self (K0,H0,J0,F0,G0,L0,())).bind fun r38=>
       some (r38.1,())
      else
       some (K0,())
     else
      some (K0,())
   else
    bif decide (U<B0) then
     aB (γ:=(Int×Unit×Int×Int×(List (Option Nat))×(List aE)×Unit)) (
      bif decide (B0<Z) then
       (self (C0,U,B0,Z,Y,D0,())).bind fun r39=>
       some (.inr (W,Y,Z,w64 (A0 - B0),r39.1,D0,()))
      else
       some (.inr (W,Y,Z,w64 (A0 - B0),C0,D0,()))) fun (S0,T0,U0,V0,W0,X0,_)=>
     bif decide (U0<V0) then
      bif decide (V0<S0) then
       (self (W0,U0,V0,S0,T0,X0,())).bind fun r41=>
       some (r41.1,())
      else
       some (W0,())
     else
      some (W0,())
    else
     bif decide (Z<(w64 (A0 - B0))) then
      bif decide ((w64 (A0 - B0))<W) then
       (self (C0,Z,w64 (A0 - B0),W,Y,D0,())).bind fun r42=>
       some (r42.1,())
      else
       some (C0,())
     else
      some (C0,())
def kM (a0:List (Option Nat)) (a1:Int) (a2:Int) (a3:Int) (_a4:Unit) (_a5:List aE):Nat:=a0.length+(a1.natAbs+(a2.natAbs+(a3.natAbs+2)))
def iM (a0:List (Option Nat)) (a1:Int) (a2:Int) (a3:Int) (a4:Unit) (a5:List aE):Option ((List (Option Nat))×Unit):=
 NV (fun self x=>dB self x.1 x.2.1 x.2.2.1 x.2.2.2.1 x.2.2.2.2.1 x.2.2.2.2.2.1) (kM a0 a1 a2 a3 a4 a5) (a0,a1,a2,a3,a4,a5,())
abbrev iq:Type:=Int×Unit×Int×Int×Int×(List (Option Nat))×(List aE)×Unit
abbrev ic:Type:=(((List (Option Nat))×Unit) ⊕ (Int×Unit×Int×Int×(List (Option Nat))×(List aE)×Unit))
def yB (x1:iq) (again:iq->Option ic):Option ic:=
 match x1 with
 | (A,B,C,D,E,F,G,_)=>
 bif decide (E<=A) then
  (fV F D E B G).bind fun r2=>
  again (A,B,C,E,w64 (E+C),r2.1,G,())
 else
  some (.inr (A,B,C,D,F,G,()))
abbrev iu:Type:=Int×Unit×Int×Int×Int×(List (Option Nat))×(List aE)×Unit
abbrev ij:Type:=((((List (Option Nat))×Unit) ⊕ ((List (Option Nat))×(List aE)×Unit)) ⊕ (Int×Unit×Int×Int×(List (Option Nat))×(List aE)×Unit))
def yD (x1:iu) (again:iu->Option ij):Option ij:=
 match x1 with
 | (A,B,C,D,E,F,G,_)=>
 bif decide (E<=A) then
  (iM F D (w64 (D+C)) E B G).bind fun r2=>
  again (A,B,C,E,w64 (E+(w64 (2*C))),r2.1,G,())
 else
  some (.inr (A,B,C,D,F,G,()))
abbrev ir:Type:=Int×Unit×Int×(List (Option Nat))×(List aE)×Unit
abbrev ig:Type:=(((List (Option Nat))×Unit) ⊕ ((List (Option Nat))×(List aE)×Unit))
def yC (x1:ir) (again:ir->Option ig):Option ig:=
 match x1 with
 | (A,B,C,D,E,_)=>
 bif decide (C<A) then
  aB (
   iter (X:=iu) (β:=ij) (A.natAbs+(C.natAbs+(Int.natAbs (0:Int)+(Int.natAbs (w64 (2*C))+(D.length+2))))) (A,B,C,0,w64 (2*C),D,E,()) (yD)) fun (F,G,H,I,J,K,_)=>
  bif decide ((w64 (I+H))<F) then
   (iM J I (w64 (I+H)) F G K).bind fun r3=>
   again (F,G,w64 (H*2),r3.1,K,())
  else
   again (F,G,w64 (H*2),J,K,())
 else
  some (.inr (D,E,()))
def oT (a0:List (Option Nat)) (a1:Int) (a2:Unit) (a3:List aE):Option ((List (Option Nat))×Unit):=
 aB (
  iter (X:=iq) (β:=ic) (a1.natAbs+(Int.natAbs (20:Int)+(Int.natAbs (0:Int)+(Int.natAbs (20:Int)+(a0.length+2))))) (a1,a2,20,0,20,a0,a3,()) (yB)) fun (A,B,C,D,E,F,_)=>
 (fV E D A B F).bind fun r4=>
 aB (
  iter (X:=ir) (β:=ig) (A.natAbs+(C.natAbs+(r4.1.length+2))) (A,B,C,r4.1,F,()) (yC)) fun v10=>
 some (v10.1,())
def om (a0:List (Option Nat)) (a1:Unit) (a2:List aE):Option ((List (Option Nat))×Unit):=
 (oT a0 ((a0.length:Int)) a1 a2).bind fun r1=>
 some (r1.1,())
def AX (a0:Option Nat) (a1:Int) (a2:List aE):Option (Bool×Unit):=
 (a0).bind fun h1=>
 (a2[h1]?).bind fun y2=>
 bif decide (y2.1.2.1<=a1) then
  (a0).bind fun h3=>
  (a2[h3]?).bind fun y4=>
  some (y4.2.2.2.2==0,())
 else
  some (false,())
def Dh (a0:Option Nat) (a1:List aE):Option (Int×Unit):=
 (a0).bind fun h1=>
 (a1[h1]?).bind fun y2=>
 (a0).bind fun h3=>
 (a1[h3]?).bind fun y4=>
 (a0).bind fun h5=>
 (a1[h5]?).bind fun y6=>
 (xm (w64 (4 - y6.1.2.2.1.2))).bind fun r7=>
 let n8:Int:=w64 ((w64 (Int.tdiv (w64 (y2.1.2.2.1.1*y4.1.2.2.2.2.2)) 1000))*r7.1)
 (a0).bind fun h9=>
 (a1[h9]?).bind fun y10=>
 some (if y10.2.1<n8 then y10.2.1 else n8,())
def zl (a0:Option Nat) (a1:Int) (a2:Int) (a3:List aE):Option (Int×(List aE)×Unit):=
 (a0).bind fun h1=>
 (a3[h1]?).bind fun y2=>
 (a0).bind fun h3=>
 (a3[h3]?).bind fun y4=>
 (a0).bind fun h5=>
 (a3[h5]?).bind fun y6=>
 (a0).bind fun h7=>
 (a3[h7]?).bind fun y8=>
 (a0).bind fun h9=>
 ((List.set a3 h7 (y8.1,y8.2.1,w64 (y4.2.2.1+(if y2.2.1<a1 then y2.2.1 else a1)),y8.2.2.2))[h9]?).bind fun y10=>
 (a0).bind fun h11=>
 ((List.set (List.set a3 h7 (y8.1,y8.2.1,w64 (y4.2.2.1+(if y2.2.1<a1 then y2.2.1 else a1)),y8.2.2.2)) h9 (y10.1,w64 (y6.2.1 - (if y2.2.1<a1 then y2.2.1 else a1)),y10.2.2))[h11]?).bind fun y12=>
 bif y12.2.1==0 then
  (a0).bind fun h13=>
  ((List.set (List.set a3 h7 (y8.1,y8.2.1,w64 (y4.2.2.1+(if y2.2.1<a1 then y2.2.1 else a1)),y8.2.2.2)) h9 (y10.1,w64 (y6.2.1 - (if y2.2.1<a1 then y2.2.1 else a1)),y10.2.2))[h13]?).bind fun y14=>
  some (w64 (a1 - (if y2.2.1<a1 then y2.2.1 else a1)),List.set (List.set (List.set a3 h7 (y8.1,y8.2.1,w64 (y4.2.2.1+(if y2.2.1<a1 then y2.2.1 else a1)),y8.2.2.2)) h9 (y10.1,w64 (y6.2.1 - (if y2.2.1<a1 then y2.2.1 else a1)),y10.2.2)) h13 (y14.1,y14.2.1,y14.2.2.1,y14.2.2.2.1,a2),())
 else
  some (w64 (a1 - (if y2.2.1<a1 then y2.2.1 else a1)),List.set (List.set a3 h7 (y8.1,y8.2.1,w64 (y4.2.2.1+(if y2.2.1<a1 then y2.2.1 else a1)),y8.2.2.2)) h9 (y10.1,w64 (y6.2.1 - (if y2.2.1<a1 then y2.2.1 else a1)),y10.2.2),())
def Hr (a0:Option Nat) (a1:Int) (a2:Int) (a3:List aE):Option (Int×(List aE)×Unit):=
 (Dh a0 a3).bind fun r1=>
 (a0).bind fun h2=>
 (a3[h2]?).bind fun y3=>
 bif decide ((w64 (y3.2.1 - r1.1))>a1) then
  (zl a0 a1 a2 a3).bind fun r4=>
  some (r4.1,r4.2.1,())
 else
  (a0).bind fun h5=>
  (a3[h5]?).bind fun y6=>
  (a0).bind fun h7=>
  (a3[h7]?).bind fun y8=>
  bif decide (a2>(w64 (y6.1.2.1+y8.1.2.2.2.2.1))) then
   (zl a0 a1 a2 a3).bind fun r9=>
   some (r9.1,r9.2.1,())
  else
   (a0).bind fun h10=>
   (a3[h10]?).bind fun y11=>
   (a0).bind fun h12=>
   (a3[h12]?).bind fun y13=>
   (a0).bind fun h14=>
   (a3[h14]?).bind fun y15=>
   (a0).bind fun h16=>
   ((List.set a3 h14 (y15.1,y15.2.1,w64 (y13.2.2.1+(w64 (y11.2.1 - r1.1))),y15.2.2.2))[h16]?).bind fun y17=>
   (a0).bind fun h18=>
   ((List.set (List.set a3 h14 (y15.1,y15.2.1,w64 (y13.2.2.1+(w64 (y11.2.1 - r1.1))),y15.2.2.2)) h16 (y17.1,y17.2.1,y17.2.2.1,r1.1,y17.2.2.2.2))[h18]?).bind fun y19=>
   (a0).bind fun h20=>
   ((List.set (List.set (List.set a3 h14 (y15.1,y15.2.1,w64 (y13.2.2.1+(w64 (y11.2.1 - r1.1))),y15.2.2.2)) h16 (y17.1,y17.2.1,y17.2.2.1,r1.1,y17.2.2.2.2)) h18 (y19.1,0,y19.2.2))[h20]?).bind fun y21=>
   some (w64 (a1 - (w64 (y11.2.1 - r1.1))),List.set (List.set (List.set (List.set a3 h14 (y15.1,y15.2.1,w64 (y13.2.2.1+(w64 (y11.2.1 - r1.1))),y15.2.2.2)) h16 (y17.1,y17.2.1,y17.2.2.1,r1.1,y17.2.2.2.2)) h18 (y19.1,0,y19.2.2)) h20 (y21.1,y21.2.1,y21.2.2.1,y21.2.2.2.1,a2),())
abbrev zV:Type:=(List cP)×Int×(List (Option Nat))×(List eZ)×Int×Int×(List (Bys×(Option Nat)))×(List aE)×Unit
abbrev zU:Type:=(((List (Option Nat))×(List Int)×(List aE)×Unit) ⊕ ((List cP)×Int×(List (Option Nat))×(List (Bys×(Option Nat)))×(List aE)×Unit))
def Qa (x1:zV) (again:zV->Option zU):Option zU:=
 match x1 with
 | (A,B,C,D,E,F,G,H,_)=>
 bif decide (F<E) then
  (idx D F).bind fun y2=>
  (Kf y2.2.2.1).bind fun r3=>
  chk (decide (((C.length)+1)*8<=140737488355328)&&decide ((C.length)+1<=maxLen)) <|
  again (A,B,C++[(some (H.length))],D,E,w64 (F+1),jG (k:= .str) (v:= .hnd) G y2.1 (some (H.length)),H++[(y2,r3.1,0,0,0)],())
 else
  some (.inr (A,B,C,G,H,()))
abbrev yg:Type:=Int×(List (Option Nat))×(List Int)×Int×(List cP)×Int×Int×(List Bys)×Int×Int×Int×Int×Int×(List Bys)×(List (Option Nat))×(List (Bys×(Option Nat)))×(List aE)×Unit
abbrev yc:Type:=((((List (Option Nat))×(List Int)×(List aE)×Unit) ⊕ ((List (Option Nat))×(List Int)×(List aE)×Unit)) ⊕ (Int×(List (Option Nat))×(List Int)×Int×(List cP)×Int×Int×Int×Int×Int×(List Bys)×(List (Option Nat))×(List (Bys×(Option Nat)))×(List aE)×Unit))
def OM (x1:yg) (again:yg->Option yc):Option yc:=
 match x1 with
 | (A,B,C,D,E,F,G,H,I,J,K,L,M,N,O,P,Q,_)=>
 bif decide (J<I) then
  (idx H J).bind fun y2=>
  bif !(Option.isNone (Option.getD (bV (k:= .str) (v:= .hnd) P y2) none)) then
   (AX (Option.getD (bV (k:= .str) (v:= .hnd) P y2) none) K Q).bind fun r3=>
   bif r3.1 then
    (Hr (Option.getD (bV (k:= .str) (v:= .hnd) P y2) none) D K Q).bind fun r4=>
    again (A,B,C,r4.1,E,F,G,H,I,w64 (J+1),K,L,M,N,O,P,r4.2.1,())
   else
    again (A,B,C,D,E,F,G,H,I,w64 (J+1),K,L,M,N,O,P,Q,())
  else
   again (A,B,C,D,E,F,G,H,I,w64 (J+1),K,L,M,N,O,P,Q,())
 else
  some (.inr (A,B,C,D,E,F,G,K,L,M,N,O,P,Q,()))
abbrev yh:Type:=Int×(List (Option Nat))×(List Int)×Int×(List cP)×Int×Int×Int×Int×Int×Int×Int×(List Bys)×(List (Option Nat))×(List (Bys×(Option Nat)))×(List aE)×Unit
abbrev yd:Type:=((((List (Option Nat))×(List Int)×(List aE)×Unit) ⊕ ((List (Option Nat))×(List Int)×(List aE)×Unit)) ⊕ (Int×(List (Option Nat))×(List Int)×Int×(List cP)×Int×Int×(List (Option Nat))×(List (Bys×(Option Nat)))×(List aE)×Unit))
def ON (x1:yh) (again:yh->Option yd):Option yd:=
 match x1 with
 | (A,B,C,D,E,F,G,H,I,J,K,L,M,N,O,P,_)=>
 bif decide (I<H) then
  chk (decide (0<=I)&&decide (I<(N.length:Int))) <|
  (N[I.toNat]?).bind fun y2=>
  bif decide (D>0) then
   (AX y2 J P).bind fun r3=>
   bif r3.1 then
    (zl y2 D J P).bind fun r4=>
    again (A,B,C,r4.1,E,F,G,H,w64 (I+1),J,K,L,M,N,O,r4.2.1,())
   else
    again (A,B,C,D,E,F,G,H,w64 (I+1),J,K,L,M,N,O,P,())
  else
   again (A,B,C,D,E,F,G,H,w64 (I+1),J,K,L,M,N,O,P,())
 else
  some (.inr (A,B,C,D,E,F,G,N,O,P,()))
abbrev yf:Type:=Int×(List (Option Nat))×(List Int)×(List cP)×Int×Int×(List (Option Nat))×(List (Bys×(Option Nat)))×(List aE)×Unit
abbrev yb:Type:=(((List (Option Nat))×(List Int)×(List aE)×Unit) ⊕ ((List (Option Nat))×(List Int)×(List aE)×Unit))
def OL (x1:yf) (again:yf->Option yb):Option yb:=
 match x1 with
 | (A,B,C,D,E,F,G,H,I,_)=>
 bif decide (F<E) then
  (idx D F).bind fun y2=>
  bif decide (y2.1>A) then
   some (.inr (B,C,I,()))
  else
   (Kf y2.2.1).bind fun r3=>
   aB (
    iter (X:=yg) (β:=yc) (A.natAbs+(B.length+(C.length+(r3.1.natAbs+(D.length+(E.natAbs+(F.natAbs+(y2.2.2.length+(Int.natAbs ((y2.2.2.length:Int))+(Int.natAbs (0:Int)+(y2.1.natAbs+(y2.2.1.1.natAbs+(y2.2.1.2.natAbs+(y2.2.2.length+(G.length+(H.length+(I.length+2))))))))))))))))) (A,B,C,r3.1,D,E,F,y2.2.2,(y2.2.2.length:Int),0,y2.1,y2.2.1.1,y2.2.1.2,y2.2.2,G,H,I,()) (OM)) fun (J,K,L,M,N,O,P,Q,R,S,T,U,V,W,_)=>
   aB (
    iter (X:=yh) (β:=yd) (J.natAbs+(K.length+(L.length+(M.natAbs+(N.length+(O.natAbs+(P.natAbs+(Int.natAbs ((U.length:Int))+(Int.natAbs (0:Int)+(Q.natAbs+(R.natAbs+(S.natAbs+(T.length+(U.length+(V.length+(W.length+2)))))))))))))))) (J,K,L,M,N,O,P,(U.length:Int),0,Q,R,S,T,U,V,W,()) (ON)) fun (Y,Z,A0,B0,C0,D0,E0,F0,G0,H0,_)=>
   chk (decide (((A0.length)+1)*8<=140737488355328)&&decide ((A0.length)+1<=maxLen)) <|
   again (Y,Z,A0++[B0],C0,D0,w64 (E0+1),F0,G0,H0,())
 else
  some (.inr (B,C,I,()))
def Lt (a0:List eZ) (a1:List cP) (a2:Int) (a3:List aE):Option ((List (Option Nat))×(List Int)×(List aE)×Unit):=
 aB (
  iter (X:=zV) (β:=zU) (a1.length+(a2.natAbs+(List.length ([]:List (Option Nat))+(a0.length+(Int.natAbs ((a0.length:Int))+(Int.natAbs (0:Int)+(List.length ([]:List (Bys×(Option Nat)))+(a3.length+2)))))))) (a1,a2,[],a0,(a0.length:Int),0,[],a3,()) (Qa)) fun (A,B,C,D,E,_)=>
 (xX C).bind fun r5=>
 (om r5.1 () E).bind fun r6=>
 aB (
  iter (X:=yf) (β:=yb) (B.natAbs+(C.length+(List.length ([]:List Int)+(A.length+(Int.natAbs ((A.length:Int))+(Int.natAbs (0:Int)+(r6.1.length+(D.length+(E.length+2))))))))) (B,C,[],A,(A.length:Int),0,r6.1,D,E,()) (OL)) fun (F,G,H,_)=>
 some (F,G,H,())
abbrev oB:Type:=(List Int)×Unit
abbrev Al:Type:=(((List Int)×Unit) ⊕ ((List Int)×Unit))
def Aj (x1:oB) (again:oB->Option Al):Option Al:=
 bif decide (((x1.1.length:Int))>0) then
  (idx x1.1 (w64 (((x1.1.length:Int)) - 1))).bind fun y2=>
  bif y2==0 then
   chk (decide (0<=(0:Int))&&decide ((0:Int)<=(w64 (((x1.1.length:Int)) - 1)))&&decide ((w64 (((x1.1.length:Int)) - 1))<=(x1.1.length:Int))) <|
   again (List.drop 0 (List.take (Int.toNat (w64 (((x1.1.length:Int)) - 1))) x1.1),())
  else
   some (.inr (x1.1,()))
 else
  some (.inr (x1.1,()))
def pH (a0:List Int):Option ((List Int)×Unit):=
 aB (
  iter (X:=oB) (β:=Al) (a0.length+2) (a0,()) (Aj)) fun v3=>
 some (v3.1,())
def iR (a0:Bool) (a1:List Int):Option (aO×Unit):=
 (pH a1).bind fun r1=>
 bif a0 then
  some ((decide (((r1.1.length:Int))>0),r1.1),())
 else
  some ((false,r1.1),())
def ld (a0:Int):Option (aO×Unit):=
 aB (γ:=(Int×Int×Bool×(List Int)×Unit)) (
  bif decide (a0<0) then
   some (.inr (a0,cn (0 - (cn a0)),false,[],()))
  else
   some (.inr (a0,cn a0,false,[],()))) fun v1=>
 (iR (decide (v1.1<0)) [(mJ v1.2.1),(mJ (Int.fdiv v1.2.1 (2 ^ 32)))]).bind fun r2=>
 some (r2.1,())
abbrev xg:Type:=(List Int)×(List Int)×Int×(List Int)×Int×Int×Unit
abbrev xe:Type:=(((List Int)×Unit) ⊕ ((List Int)×Int×Unit))
def xd (x1:xg) (again:xg->Option xe):Option xe:=
 match x1 with
 | (A,B,C,D,E,F,_)=>
 bif decide (F<E) then
  (idx D F).bind fun y2=>
  aB (γ:=((List Int)×(List Int)×Int×(List Int)×Int×Int×Unit)) (
   bif decide (F<((A.length:Int))) then
    (idx A F).bind fun y3=>
    let n4:Int:=cn ((cn (C+(cn y2)))+(cn y3))
    some (.inr (A,B,n4,D,E,F,()))
   else
    some (.inr (A,B,cn (C+(cn y2)),D,E,F,()))) fun (G,H,I,J,K,L,_)=>
  chk (decide (((H.length)+1)*4<=140737488355328)&&decide ((H.length)+1<=maxLen)) <|
  again (G,H++[(mJ I)],Int.fdiv I (2 ^ 32),J,K,w64 (L+1),())
 else
  some (.inr (B,C,()))
def DV (a0:List Int) (a1:List Int):Option ((List Int)×Unit):=
 aB (γ:=((List Int)×(List Int)×Unit)) (
  bif decide (((a0.length:Int))<((a1.length:Int))) then
   some (.inr (a1,a0,()))
  else
   some (.inr (a0,a1,()))) fun (A,B,_)=>
 chk (decide (0<=(0:Int))&&decide ((0:Int)<=(w64 (((A.length:Int))+1)))&&decide ((4:Int)*(w64 (((A.length:Int))+1))<=281474976710656)&&decide ((w64 (((A.length:Int))+1))<=9223372036854775807)) <|
 aB (
  iter (X:=xg) (β:=xe) (B.length+(List.length ([]:List Int)+(Int.natAbs (0:Int)+(A.length+(Int.natAbs ((A.length:Int))+(Int.natAbs (0:Int)+2)))))) (B,[],0,A,(A.length:Int),0,()) (xd)) fun (C,D,_)=>
 chk (decide (((C.length)+1)*4<=140737488355328)&&decide ((C.length)+1<=maxLen)) <|
 some (C++[(mJ D)],())
abbrev tK:Type:=(List Int)×(List Int)×Int×Unit
abbrev tJ:Type:=((Int×Unit) ⊕ Unit)
def oA (x1:tK) (again:tK->Option tJ):Option tJ:=
 match x1 with
 | (A,B,C,_)=>
 bif decide (C>=0) then
  (idx A C).bind fun y2=>
  (idx B C).bind fun y3=>
  bif y2 != y3 then
   (idx A C).bind fun y4=>
   (idx B C).bind fun y5=>
   bif decide (y4<y5) then
    some (.inl ((-1),()))
   else
    some (.inl (1,()))
  else
   again (A,B,w64 (C - 1),())
 else
  some (.inr ())
def uv (a0:List Int) (a1:List Int):Option (Int×Unit):=
 bif ((a0.length:Int)) != ((a1.length:Int)) then
  some (w64 (((a0.length:Int)) - ((a1.length:Int))),())
 else
  aB (
   iter (X:=tK) (β:=tJ) (a0.length+(a1.length+(Int.natAbs (w64 (((a0.length:Int)) - 1))+2))) (a0,a1,w64 (((a0.length:Int)) - 1),()) (oA)) fun _=>
  some (0,())
abbrev zR:Type:=(List Int)×(List Int)×Int×(List Int)×Int×Int×Unit
abbrev zQ:Type:=(((List Int)×Unit) ⊕ ((List Int)×Unit))
def zP (x1:zR) (again:zR->Option zQ):Option zQ:=
 match x1 with
 | (A,B,C,D,E,F,_)=>
 bif decide (F<E) then
  (idx D F).bind fun y2=>
  aB (γ:=((List Int)×(List Int)×Int×(List Int)×Int×Int×Unit)) (
   bif decide (F<((A.length:Int))) then
    (idx A F).bind fun y3=>
    let n4:Int:=cn ((cn ((cn y2) - C)) - (cn y3))
    some (.inr (A,B,n4,D,E,F,()))
   else
    some (.inr (A,B,cn ((cn y2) - C),D,E,F,()))) fun (G,H,I,J,K,L,_)=>
  chk (decide (((H.length)+1)*4<=140737488355328)&&decide ((H.length)+1<=maxLen)) <|
  again (G,H++[(mJ I)],cn (((BitVec.ofInt (IntKind.bits .u64) (Int.fdiv I (2 ^ 32)) &&& BitVec.ofInt (IntKind.bits .u64) 1).toNat:Int)),J,K,w64 (L+1),())
 else
  some (.inr (B,()))
def xW (a0:List Int) (a1:List Int):Option ((List Int)×Unit):=
 chk (decide (0<=(0:Int))&&decide ((0:Int)<=((a0.length:Int)))&&decide ((4:Int)*((a0.length:Int))<=281474976710656)&&decide (((a0.length:Int))<=9223372036854775807)) <|
 aB (
  iter (X:=zR) (β:=zQ) (a1.length+(List.length ([]:List Int)+(Int.natAbs (0:Int)+(a0.length+(Int.natAbs ((a0.length:Int))+(Int.natAbs (0:Int)+2)))))) (a1,[],0,a0,(a0.length:Int),0,()) (zP)) fun v6=>
 (pH v6.1).bind fun r7=>
 some (r7.1,())
abbrev vB:Type:=(List Int)×Int×Bool×(List Int)×Bool×(List Int)×Bool×(List Int)×Bool×(List Int)×(List Int)×Unit
abbrev vA:Type:=((aO×aO×Unit) ⊕ ((List Int)×Bool×(List Int)×Bool×(List Int)×(List Int)×Unit))
def vz (x1:vB) (again:vB->Option vA):Option vA:=
 match x1 with
 | (A,B,C,D,E,F,G,H,I,J,K,_)=>
 bif decide (B>=0) then
  (DV A A).bind fun r2=>
  chk (decide (0<=(0:Int))&&decide ((0:Int)<(r2.1.length:Int))) <|
  (r2.1[0]?).bind fun y3=>
  (idx D (w64 (Int.tdiv B 32))).bind fun y4=>
  chk (decide (0<=(Int.tmod B 32))) <|
  let n5:Int:=mJ (((BitVec.ofInt (IntKind.bits .u32) (Int.fdiv y4 (2 ^ (min (Int.toNat (Int.tmod B 32)) (IntKind.bits .u32)))) &&& BitVec.ofInt (IntKind.bits .u32) 1).toNat:Int))
  chk (decide (0<=(0:Int))&&decide ((0:Int)<(r2.1.length:Int))) <|
  (r2.1[0]?).bind fun _=>
  (pH (List.set r2.1 0 (mJ (((BitVec.ofInt (IntKind.bits .u32) y3 ||| BitVec.ofInt (IntKind.bits .u32) n5).toNat:Int))))).bind fun r6=>
  (uv r6.1 F).bind fun r7=>
  bif decide (r7.1>=0) then
   (xW r6.1 F).bind fun r8=>
   chk (decide (0<=(w64 (Int.tdiv B 32)))&&decide ((w64 (Int.tdiv B 32))<(K.length:Int))) <|
   (K[(w64 (Int.tdiv B 32)).toNat]?).bind fun y9=>
   chk (decide (0<=(Int.tmod B 32))) <|
   let n10:Int:=mJ (((BitVec.ofInt (IntKind.bits .u32) y9 ||| BitVec.ofInt (IntKind.bits .u32) (mJ (1*2 ^ (min (Int.toNat (Int.tmod B 32)) (IntKind.bits .u32))))).toNat:Int))
   chk (decide (0<=(w64 (Int.tdiv B 32)))&&decide ((w64 (Int.tdiv B 32))<(K.length:Int))) <|
   (K[(w64 (Int.tdiv B 32)).toNat]?).bind fun _=>
   again (r8.1,w64 (B - 1),C,D,E,F,G,H,I,J,List.set K (w64 (Int.tdiv B 32)).toNat n10,())
  else
   again (r6.1,w64 (B - 1),C,D,E,F,G,H,I,J,K,())
 else
  some (.inr (A,G,H,I,J,K,()))
def w8 (a0:aO) (a1:aO):Option (aO×aO×Unit):=
 chk (decide (0<=((a0.2.length:Int)))&&decide (((a0.2.length:Int))<=((a0.2.length:Int)))&&decide ((4:Int)*((a0.2.length:Int))<=281474976710656)&&decide (((a0.2.length:Int))<=9223372036854775807)) <|
 let n1:Int:=w64 ((w64 (((a0.2.length:Int))*32)) - 1)
 aB (
  iter (X:=vB) (β:=vA) (List.length ([]:List Int)+(n1.natAbs+(a0.2.length+(a1.2.length+(List.length ([]:List Int)+(List.length ([]:List Int)+(List.length ((List.replicate (Int.toNat ((a0.2.length:Int))) 0):List Int)+2))))))) ([],n1,a0.1,a0.2,a1.1,a1.2,false,[],false,[],List.replicate (Int.toNat ((a0.2.length:Int))) 0,()) (vz)) fun v14=>
 (iR false v14.2.2.2.2.2.1).bind fun r15=>
 (iR false v14.1).bind fun r16=>
 some (r15.1,r16.1,())
def fS (a0:aO):Option (Int×Unit):=
 bif a0.1 then
  some ((-1),())
 else
  bif ((a0.2.length:Int))==0 then
   some (0,())
  else
   some (1,())
def qy (a0:aO):Option (aO×Unit):=
 (iR (!a0.1) a0.2).bind fun r1=>
 some (r1.1,())
abbrev tH:Type:=Int×Int×(List Int)×Int×Int×Bool×(List Int)×Unit
abbrev tG:Type:=((Int×Bool×Unit) ⊕ (Int×Int×Bool×(List Int)×Unit))
def tF (x1:tH) (again:tH->Option tG):Option tG:=
 match x1 with
 | (A,B,C,D,E,F,G,_)=>
 bif decide (E<D) then
  (idx C E).bind fun y2=>
  chk (decide (0<=(w64 (32*E)))) <|
  let n3:Int:=cn ((cn y2)*2 ^ (min (Int.toNat (w64 (32*E))) (IntKind.bits .u64)))
  again (A,cn (((BitVec.ofInt (IntKind.bits .u64) B ||| BitVec.ofInt (IntKind.bits .u64) n3).toNat:Int)),C,D,w64 (E+1),F,G,())
 else
  some (.inr (A,B,F,G,()))
def zO (a0:aO) (a1:Int):Option (Int×Bool×Unit):=
 bif decide (((a0.2.length:Int))>2) then
  some (0,false,())
 else
  aB (
   iter (X:=tH) (β:=tG) (a1.natAbs+(Int.natAbs (0:Int)+(a0.2.length+(Int.natAbs ((a0.2.length:Int))+(Int.natAbs (0:Int)+(a0.2.length+2)))))) (a1,0,a0.2,(a0.2.length:Int),0,a0.1,a0.2,()) (tF)) fun (A,B,C,_,_)=>
  bif decide (B>(cn A)) then
   some (0,false,())
  else
   bif C then
    some (w64 (0 - (w64 B)),true,())
   else
    some (w64 B,true,())
def yI (a0:aO) (a1:Int):Option (ah×Int×Unit):=
 (zO a0 1000000000000000).bind fun r1=>
 bif !r1.2.1 then
  some ((0,0),1,())
 else
  some ((r1.1,a1),0,())
abbrev sI:Type:=Int×Bool×(List Int)×Int×Int×Bool×(List Int)×Unit
abbrev sH:Type:=((ah×Int×Unit) ⊕ (Int×Bool×(List Int)×Int×Int×Unit))
def sG (x1:sI) (again:sI->Option sH):Option sH:=
 match x1 with
 | (A,B,C,D,E,F,G,_)=>
 bif decide (A>0) then
  (w8 (B,C) (F,G)).bind fun r2=>
  (fS r2.2.1).bind fun r3=>
  bif r3.1 != 0 then
   some (.inr (A,B,C,D,E,()))
  else
   (fS (B,C)).bind fun r4=>
   bif decide (r4.1<0) then
    (qy r2.1).bind fun r5=>
    again (w64 (A - 1),r5.1.1,r5.1.2,D,E,F,G,())
   else
    again (w64 (A - 1),r2.1.1,r2.1.2,D,E,F,G,())
 else
  some (.inr (A,B,C,D,E,()))
def ke (a0:aO) (a1:Int):Option (ah×Int×Unit):=
 (ld 10).bind fun r1=>
 aB (
  iter (X:=sI) (β:=sH) (a1.natAbs+(a0.2.length+(Int.natAbs (0:Int)+(Int.natAbs (0:Int)+(r1.1.2.length+2))))) (a1,a0.1,a0.2,0,0,r1.1.1,r1.1.2,()) (sG)) fun v7=>
 (yI (v7.2.1,v7.2.2.1) v7.1).bind fun r8=>
 some (r8.1,r8.2.1,())
def Rk (a0:Int):Option (ah×Int×Unit):=
 (ld a0).bind fun r1=>
 (ke r1.1 4).bind fun r2=>
 some (r2.1,r2.2.1,())
def xo (a0:Int):Option (ah×Unit):=
 (Rk a0).bind fun r1=>
 some (r1.1,())
abbrev Ij:Type:=(List Int)×(List pI)×(List (Option Nat))×Int×Int×(List aE)×Unit
abbrev Ii:Type:=(((List pI)×(List ah)×Int×Unit) ⊕ ((List Int)×(List pI)×(List aE)×Unit))
def X9 (x1:Ij) (again:Ij->Option Ii):Option Ii:=
 match x1 with
 | (A,B,C,D,E,F,_)=>
 bif decide (E<D) then
  (idx C E).bind fun y2=>
  (y2).bind fun h3=>
  (F[h3]?).bind fun y4=>
  (y2).bind fun h5=>
  (F[h5]?).bind fun y6=>
  (xo y6.2.2.1).bind fun r7=>
  (y2).bind fun h8=>
  (F[h8]?).bind fun y9=>
  (xo y9.2.2.2.1).bind fun r10=>
  (y2).bind fun h11=>
  (F[h11]?).bind fun y12=>
  chk (decide (((B.length)+1)*56<=140737488355328)&&decide ((B.length)+1<=maxLen)) <|
  again (A,B++[(y4.1.1,r7.1,r10.1,y12.2.2.2.2)],C,D,w64 (E+1),F,())
 else
  some (.inr (A,B,F,()))
abbrev FH:Type:=(List pI)×(List ah)×(List Int)×Int×Int×(List aE)×Unit
abbrev FG:Type:=(((List pI)×(List ah)×Int×Unit) ⊕ ((List pI)×(List ah)×(List aE)×Unit))
def Ws (x1:FH) (again:FH->Option FG):Option FG:=
 match x1 with
 | (A,B,C,D,E,F,_)=>
 bif decide (E<D) then
  (idx C E).bind fun y2=>
  (xo y2).bind fun r3=>
  chk (decide (((B.length)+1)*16<=140737488355328)&&decide ((B.length)+1<=maxLen)) <|
  again (A,B++[r3.1],C,D,w64 (E+1),F,())
 else
  some (.inr (A,B,F,()))
def Wr (a0:List eZ) (a1:List cP):Option ((List pI)×(List ah)×Int×Unit):=
 (Jb a0 a1).bind fun r1=>
 bif r1.1 != 0 then
  some ([],[],r1.1,())
 else
  (Lt a0 a1 3652059 []).bind fun r2=>
  aB (
   iter (X:=Ij) (β:=Ii) (r2.2.1.length+(List.length ([]:List pI)+(r2.1.length+(Int.natAbs ((r2.1.length:Int))+(Int.natAbs (0:Int)+(r2.2.2.1.length+2)))))) (r2.2.1,[],r2.1,(r2.1.length:Int),0,r2.2.2.1,()) (X9)) fun (A,B,C,_)=>
  aB (
   iter (X:=FH) (β:=FG) (B.length+(List.length ([]:List ah)+(A.length+(Int.natAbs ((A.length:Int))+(Int.natAbs (0:Int)+(C.length+2)))))) (B,[],A,(A.length:Int),0,C,()) (Ws)) fun v19=>
  some (v19.1,v19.2.1,0,())
def Ns:Option (Bool×Unit):=
 (Wr [([97],5,(7,0),0,0,0)] [(6,(9,0),[])]).bind fun r1=>
 bif r1.2.2.1==0 then
  bif ((r1.1.length:Int))==1 then
   (idx r1.1 0).bind fun y2=>
   bif y2.2.2.2==6 then
    bif ((r1.2.1.length:Int))==1 then
     (idx r1.2.1 0).bind fun y3=>
     some (y3.1==2,())
    else
     some (false,())
   else
    some (false,())
  else
   some (false,())
 else
  some (false,())
abbrev Gx:Type:=Int×Bool×(List Int)×Bool×(List Int)×Unit
abbrev Gv:Type:=((aJ×Unit) ⊕ (Bool×(List Int)×Bool×(List Int)×Unit))
def z8 (x1:Gx) (again:Gx->Option Gv):Option Gv:=
 match x1 with
 | (A,B,C,D,E,_)=>
 bif A != 0 then
  chk (decide (((E.length)+1)*8<=140737488355328)&&decide ((E.length)+1<=maxLen)) <|
  again (w64 (Int.tdiv A 1000000),B,C,D,E++[(if (w64 (0 - (Int.tmod A 1000000)))>(Int.tmod A 1000000) then (w64 (0 - (Int.tmod A 1000000))) else (Int.tmod A 1000000))],())
 else
  some (.inr (B,C,D,E,()))
def tg (a0:Int):Option (aJ×Unit):=
 aB (
  iter (X:=Gx) (β:=Gv) (a0.natAbs+(List.length ([]:List Int)+(List.length ([]:List Int)+2))) (a0,false,[],decide (a0<0),[],()) (z8)) fun v2=>
 some ((v2.2.2.1,v2.2.2.2.1),())
abbrev uh:Type:=Bool×(List Int)×Bool×(List Int)×Unit
abbrev El:Type:=((aJ×Unit) ⊕ (Bool×(List Int)×Bool×(List Int)×Unit))
def Ek (x1:uh) (again:uh->Option El):Option El:=
 match x1 with
 | (A,B,C,D,_)=>
 bif decide (((B.length:Int))>0) then
  (idx B (w64 (((B.length:Int)) - 1))).bind fun y2=>
  bif y2==0 then
   chk (decide (0<=(0:Int))&&decide ((0:Int)<=(w64 (((B.length:Int)) - 1)))&&decide ((w64 (((B.length:Int)) - 1))<=(B.length:Int))) <|
   again (A,List.drop 0 (List.take (Int.toNat (w64 (((B.length:Int)) - 1))) B),C,D,())
  else
   some (.inr (A,B,C,D,()))
 else
  some (.inr (A,B,C,D,()))
def qv (a0:aJ):Option (aJ×Unit):=
 aB (
  iter (X:=uh) (β:=El) (a0.2.length+(List.length ([]:List Int)+2)) (a0.1,a0.2,false,[],()) (Ek)) fun v3=>
 bif ((v3.2.1.length:Int))==0 then
  some ((false,v3.2.1),())
 else
  some ((v3.1,v3.2.1),())
abbrev zF:Type:=Int×Int×(List Int)×Int×Int×(List Int)×Int×Int×Bool×(List Int)×Bool×(List Int)×Bool×(List Int)×Unit
abbrev zD:Type:=(((aJ×Unit) ⊕ (Bool×(List Int)×Bool×(List Int)×Unit)) ⊕ ((List Int)×Int×Int×Bool×(List Int)×Bool×(List Int)×Bool×(List Int)×Unit))
def zB (x1:zF) (again:zF->Option zD):Option zD:=
 match x1 with
 | (A,B,C,D,E,F,G,H,I,J,K,L,M,N,_)=>
 bif decide (H<G) then
  (idx F H).bind fun y2=>
  chk (decide (0<=(w64 (A+H)))&&decide ((w64 (A+H))<(N.length:Int))) <|
  (N[(w64 (A+H)).toNat]?).bind fun y3=>
  chk (decide (0<=(w64 (A+H)))&&decide ((w64 (A+H))<(N.length:Int))) <|
  (N[(w64 (A+H)).toNat]?).bind fun _=>
  chk (decide (0<=(w64 ((w64 (A+H))+1)))&&decide ((w64 ((w64 (A+H))+1))<(List.length (List.set N (w64 (A+H)).toNat (w64 (y3+(w64 (B*y2))))):Int))) <|
  ((List.set N (w64 (A+H)).toNat (w64 (y3+(w64 (B*y2)))))[(w64 ((w64 (A+H))+1)).toNat]?).bind fun y4=>
  chk (decide (0<=(w64 (A+H)))&&decide ((w64 (A+H))<(List.length (List.set N (w64 (A+H)).toNat (w64 (y3+(w64 (B*y2))))):Int))) <|
  ((List.set N (w64 (A+H)).toNat (w64 (y3+(w64 (B*y2)))))[(w64 (A+H)).toNat]?).bind fun y5=>
  chk (decide (0<=(w64 ((w64 (A+H))+1)))&&decide ((w64 ((w64 (A+H))+1))<(List.length (List.set N (w64 (A+H)).toNat (w64 (y3+(w64 (B*y2))))):Int))) <|
  ((List.set N (w64 (A+H)).toNat (w64 (y3+(w64 (B*y2)))))[(w64 ((w64 (A+H))+1)).toNat]?).bind fun _=>
  chk (decide (0<=(w64 (A+H)))&&decide ((w64 (A+H))<(List.length (List.set (List.set N (w64 (A+H)).toNat (w64 (y3+(w64 (B*y2))))) (w64 ((w64 (A+H))+1)).toNat (w64 (y4+(w64 (Int.tdiv y5 1000000))))):Int))) <|
  ((List.set (List.set N (w64 (A+H)).toNat (w64 (y3+(w64 (B*y2))))) (w64 ((w64 (A+H))+1)).toNat (w64 (y4+(w64 (Int.tdiv y5 1000000)))))[(w64 (A+H)).toNat]?).bind fun y6=>
  chk (decide (0<=(w64 (A+H)))&&decide ((w64 (A+H))<(List.length (List.set (List.set N (w64 (A+H)).toNat (w64 (y3+(w64 (B*y2))))) (w64 ((w64 (A+H))+1)).toNat (w64 (y4+(w64 (Int.tdiv y5 1000000))))):Int))) <|
  ((List.set (List.set N (w64 (A+H)).toNat (w64 (y3+(w64 (B*y2))))) (w64 ((w64 (A+H))+1)).toNat (w64 (y4+(w64 (Int.tdiv y5 1000000)))))[(w64 (A+H)).toNat]?).bind fun _=>
  again (A,B,C,D,E,F,G,w64 (H+1),I,J,K,L,M,List.set (List.set (List.set N (w64 (A+H)).toNat (w64 (y3+(w64 (B*y2))))) (w64 ((w64 (A+H))+1)).toNat (w64 (y4+(w64 (Int.tdiv y5 1000000))))) (w64 (A+H)).toNat (Int.tmod y6 1000000),())
 else
  some (.inr (C,D,E,I,J,K,L,M,N,()))
abbrev zE:Type:=(List Int)×Int×Int×Bool×(List Int)×Bool×(List Int)×Bool×(List Int)×Unit
abbrev zC:Type:=((aJ×Unit) ⊕ (Bool×(List Int)×Bool×(List Int)×Unit))
def zA (x1:zE) (again:zE->Option zC):Option zC:=
 match x1 with
 | (A,B,C,D,E,F,G,H,I,_)=>
 bif decide (C<B) then
  (idx A C).bind fun y2=>
  aB (
   iter (X:=zF) (β:=zD) (C.natAbs+(y2.natAbs+(A.length+(B.natAbs+(C.natAbs+(E.length+(Int.natAbs ((E.length:Int))+(Int.natAbs (0:Int)+(E.length+(G.length+(I.length+2))))))))))) (C,y2,A,B,C,E,(E.length:Int),0,D,E,F,G,H,I,()) (zB)) fun (J,K,L,M,N,O,P,Q,R,_)=>
  again (J,K,w64 (L+1),M,N,O,P,Q,R,())
 else
  some (.inr (F,G,H,I,()))
abbrev xQ:Type:=Int×Int×Bool×(List Int)×Bool×(List Int)×Unit
abbrev xP:Type:=((aJ×Unit) ⊕ (Bool×(List Int)×Bool×(List Int)×Unit))
def xO (x1:xQ) (again:xQ->Option xP):Option xP:=
 match x1 with
 | (A,B,C,D,E,F,_)=>
 bif decide (B<A) then
  chk (decide (0<=(w64 (B+1)))&&decide ((w64 (B+1))<(F.length:Int))) <|
  (F[(w64 (B+1)).toNat]?).bind fun y2=>
  chk (decide (0<=B)&&decide (B<(F.length:Int))) <|
  (F[B.toNat]?).bind fun y3=>
  chk (decide (0<=(w64 (B+1)))&&decide ((w64 (B+1))<(F.length:Int))) <|
  (F[(w64 (B+1)).toNat]?).bind fun _=>
  chk (decide (0<=B)&&decide (B<(List.length (List.set F (w64 (B+1)).toNat (w64 (y2+(w64 (Int.tdiv y3 1000000))))):Int))) <|
  ((List.set F (w64 (B+1)).toNat (w64 (y2+(w64 (Int.tdiv y3 1000000)))))[B.toNat]?).bind fun y4=>
  chk (decide (0<=B)&&decide (B<(List.length (List.set F (w64 (B+1)).toNat (w64 (y2+(w64 (Int.tdiv y3 1000000))))):Int))) <|
  ((List.set F (w64 (B+1)).toNat (w64 (y2+(w64 (Int.tdiv y3 1000000)))))[B.toNat]?).bind fun _=>
  again (A,w64 (B+1),C,D,E,List.set (List.set F (w64 (B+1)).toNat (w64 (y2+(w64 (Int.tdiv y3 1000000))))) B.toNat (Int.tmod y4 1000000),())
 else
  some (.inr (C,D,E,F,()))
def lD (a0:aJ) (a1:aJ):Option (aJ×Unit):=
 let n1:Int:=w64 ((w64 (((a0.2.length:Int))+((a1.2.length:Int))))+1)
 chk (decide (0<=n1)&&decide (n1<=n1)&&decide ((8:Int)*n1<=281474976710656)&&decide (n1<=9223372036854775807)) <|
 aB (
  iter (X:=zE) (β:=zC) (a0.2.length+(Int.natAbs ((a0.2.length:Int))+(Int.natAbs (0:Int)+(a1.2.length+(List.length ([]:List Int)+(List.length ((List.replicate (Int.toNat n1) 0):List Int)+2)))))) (a0.2,(a0.2.length:Int),0,a1.1,a1.2,false,[], !(a0.1==a1.1),List.replicate (Int.toNat n1) 0,()) (zA)) fun (A,B,C,D,_)=>
 aB (
  iter (X:=xQ) (β:=xP) (Int.natAbs (w64 (((D.length:Int)) - 1))+(Int.natAbs (0:Int)+(B.length+(D.length+2)))) (w64 (((D.length:Int)) - 1),0,A,B,C,D,()) (xO)) fun v21=>
 (qv (v21.2.2.1,v21.2.2.2.1)).bind fun r22=>
 some (r22.1,())
abbrev C3:Type:=Int×Int×Bool×(List Int)×Bool×(List Int)×Unit
abbrev CZ:Type:=((aJ×Unit) ⊕ (Bool×(List Int)×Bool×(List Int)×Unit))
def CY (x1:C3) (again:C3->Option CZ):Option CZ:=
 match x1 with
 | (A,B,C,D,E,F,_)=>
 bif decide (B<A) then
  (tg 10).bind fun r2=>
  (lD (E,F) r2.1).bind fun r3=>
  again (A,w64 (B+1),C,D,r3.1.1,r3.1.2,())
 else
  some (.inr (C,D,E,F,()))
def K9 (a0:Int):Option (aJ×Unit):=
 (tg 1).bind fun r1=>
 aB (
  iter (X:=C3) (β:=CZ) (a0.natAbs+(Int.natAbs (0:Int)+(List.length ([]:List Int)+(r1.1.2.length+2)))) (a0,0,false,[],r1.1.1,r1.1.2,()) (CY)) fun v5=>
 some ((v5.2.2.1,v5.2.2.2.1),())
def Bq (a0:ah) (a1:Int):Option (aJ×Unit):=
 (tg a0.1).bind fun r1=>
 (K9 (w64 (a1 - a0.2))).bind fun r2=>
 (lD r1.1 r2.1).bind fun r3=>
 some (r3.1,())
abbrev C5:Type:=(List Int)×(List Int)×Int×Unit
abbrev C4:Type:=((Int×Unit) ⊕ Unit)
def yU (x1:C5) (again:C5->Option C4):Option C4:=
 match x1 with
 | (A,B,C,_)=>
 bif decide (C>=0) then
  (idx A C).bind fun y2=>
  (idx B C).bind fun y3=>
  bif y2 != y3 then
   (idx A C).bind fun y4=>
   (idx B C).bind fun y5=>
   some (.inl (w64 (y4 - y5),()))
  else
   again (A,B,w64 (C - 1),())
 else
  some (.inr ())
def La (a0:List Int) (a1:List Int):Option (Int×Unit):=
 bif ((a0.length:Int)) != ((a1.length:Int)) then
  some (w64 (((a0.length:Int)) - ((a1.length:Int))),())
 else
  aB (
   iter (X:=C5) (β:=C4) (a0.length+(a1.length+(Int.natAbs (w64 (((a0.length:Int)) - 1))+2))) (a0,a1,w64 (((a0.length:Int)) - 1),()) (yU)) fun _=>
  some (0,())
def Cq (a0:List Int) (a1:Int):Option (Int×Unit):=
 bif decide (a1<((a0.length:Int))) then
  (idx a0 a1).bind fun y1=>
  some (y1,())
 else
  some (0,())
abbrev Bx:Type:=Int×Int×Int×Bool×(List Int)×Bool×(List Int)×Bool×(List Int)×Bool×(List Int)×Unit
abbrev Bw:Type:=((aJ×Unit) ⊕ (Bool×(List Int)×Bool×(List Int)×Unit))
def Bv (x1:Bx) (again:Bx->Option Bw):Option Bw:=
 match x1 with
 | (A,B,C,D,E,F,G,H,I,J,K,_)=>
 bif decide (C<B) then
  (idx E C).bind fun y2=>
  (Cq G C).bind fun r3=>
  aB (γ:=(Int×Int×Int×Int×Bool×(List Int)×Bool×(List Int)×Bool×(List Int)×Bool×(List Int)×Unit)) (
   bif decide ((w64 ((w64 (y2 - r3.1)) - A))<0) then
    let n4:Int:=w64 ((w64 ((w64 (y2 - r3.1)) - A))+1000000)
    some (.inr (1,n4,B,C,D,E,F,G,H,I,J,K,()))
   else
    some (.inr (0,w64 ((w64 (y2 - r3.1)) - A),B,C,D,E,F,G,H,I,J,K,()))) fun (L,M,N,O,P,Q,R,S,T,U,V,W,_)=>
  chk (decide (((W.length)+1)*8<=140737488355328)&&decide ((W.length)+1<=maxLen)) <|
  again (L,N,w64 (O+1),P,Q,R,S,T,U,V,W++[M],())
 else
  some (.inr (H,I,J,K,()))
abbrev CX:Type:=Int×Int×Int×Bool×(List Int)×Bool×(List Int)×Bool×(List Int)×Bool×(List Int)×Unit
abbrev CW:Type:=((aJ×Unit) ⊕ (Bool×(List Int)×Bool×(List Int)×Unit))
def CU (x1:CX) (again:CX->Option CW):Option CW:=
 match x1 with
 | (A,B,C,D,E,F,G,H,I,J,K,_)=>
 bif decide (C<B) then
  (Cq E C).bind fun r2=>
  (Cq G C).bind fun r3=>
  let n4:Int:=Int.tmod (w64 ((w64 (r2.1+r3.1))+A)) 1000000
  chk (decide (((K.length)+1)*8<=140737488355328)&&decide ((K.length)+1<=maxLen)) <|
  let n5:Int:=w64 (Int.tdiv (w64 ((w64 (r2.1+r3.1))+A)) 1000000)
  again (n5,B,w64 (C+1),D,E,F,G,H,I,J,K++[n4],())
 else
  some (.inr (H,I,J,K,()))
def Oy (a0:aJ) (a1:aJ):Option (aJ×Unit):=
 bif !(a0.1==a1.1) then
  (La a0.2 a1.2).bind fun r1=>
  aB (γ:=(Bool×(List Int)×Bool×(List Int)×Bool×(List Int)×Unit)) (
   bif decide (r1.1<0) then
    some (.inr (a1.1,a1.2,a0.1,a0.2,false,[],()))
   else
    some (.inr (a0.1,a0.2,a1.1,a1.2,false,[],()))) fun (A,B,C,D,E,F,_)=>
  aB (
   iter (X:=Bx) (β:=Bw) (Int.natAbs (0:Int)+(Int.natAbs ((B.length:Int))+(Int.natAbs (0:Int)+(B.length+(D.length+(F.length+(List.length ([]:List Int)+2))))))) (0,(B.length:Int),0,A,B,C,D,E,F,A,[],()) (Bv)) fun v8=>
  (qv (v8.2.2.1,v8.2.2.2.1)).bind fun r9=>
  some (r9.1,())
 else
  let n10:Int:=w64 ((if ((a1.2.length:Int))>((a0.2.length:Int)) then ((a1.2.length:Int)) else ((a0.2.length:Int)))+1)
  aB (
   iter (X:=CX) (β:=CW) (Int.natAbs (0:Int)+(n10.natAbs+(Int.natAbs (0:Int)+(a0.2.length+(a1.2.length+(List.length ([]:List Int)+(List.length ([]:List Int)+2))))))) (0,n10,0,a0.1,a0.2,a1.1,a1.2,false,[],a0.1,[],()) (CU)) fun v16=>
  (qv (v16.2.2.1,v16.2.2.2.1)).bind fun r17=>
  some (r17.1,())
def K8 (a0:aJ):Option (aJ×Unit):=
 bif decide (((a0.2.length:Int))>0) then
  some ((!a0.1,a0.2),())
 else
  some (a0,())
def Oz (a0:aJ):Option (Int×Unit):=
 bif ((a0.2.length:Int))==0 then
  some (0,())
 else
  bif a0.1 then
   some ((-1),())
  else
   some (1,())
def Gu (a0:aJ) (a1:aJ):Option (Int×Unit):=
 (K8 a1).bind fun r1=>
 (Oy a0 r1.1).bind fun r2=>
 (Oz r2.1).bind fun r3=>
 some (r3.1,())
end Go.Md
namespace Go.Md
open Go.Dn
abbrev Gz:Type:=Bys×Int×Int×Unit
abbrev Gy:Type:=((Bool×Unit) ⊕ Unit)
def By (x1:Gz) (again:Gz->Option Gy):Option Gy:=
 match x1 with
 | (A,B,C,_)=>
 bif decide (C<B) then
  (En A C).bind fun c2=>
  bif decide ((c2.toNat:Int)<97) then
   bif decide ((c2.toNat:Int)<48) then
    bif (c2.toNat:Int) != 45 then
     some (.inl (false,()))
    else
     again (A,B,w64 (C+1),())
   else
    bif decide ((c2.toNat:Int)>57) then
     bif (c2.toNat:Int) != 45 then
      some (.inl (false,()))
     else
      again (A,B,w64 (C+1),())
    else
     again (A,B,w64 (C+1),())
  else
   bif decide ((c2.toNat:Int)>122) then
    bif decide ((c2.toNat:Int)<48) then
     bif (c2.toNat:Int) != 45 then
      some (.inl (false,()))
     else
      again (A,B,w64 (C+1),())
    else
     bif decide ((c2.toNat:Int)>57) then
      bif (c2.toNat:Int) != 45 then
       some (.inl (false,()))
      else
       again (A,B,w64 (C+1),())
     else
      again (A,B,w64 (C+1),())
   else
    again (A,B,w64 (C+1),())
 else
  some (.inr ())
def NT (a0:Bys):Option (Bool×Unit):=
 bif a0==[] then
  some (false,())
 else
  bif decide (((a0.length:Int))>40) then
   some (false,())
  else
   (En a0 0).bind fun c1=>
   bif decide ((c1.toNat:Int)<97) then
    some (false,())
   else
    (En a0 0).bind fun c2=>
    bif decide ((c2.toNat:Int)>122) then
     some (false,())
    else
     aB (
      iter (X:=Gz) (β:=Gy) (a0.length+(Int.natAbs ((a0.length:Int))+(Int.natAbs (0:Int)+2))) (a0,(a0.length:Int),0,()) (By)) fun _=>
     some (true,())
def eX (a0:Bys):Option (Bool×Unit):=
 (NT a0).bind fun r1=>
 some (r1.1,())
def Az (a0:Int) (a1:Int) (a2:Int):Option (Bool×Unit):=
 bif decide (a1<=a0) then
  some (decide (a0<=a2),())
 else
  some (false,())
def QW (a0:Int):Option (Bool×Unit):=
 (Az a0 1 3652059).bind fun r1=>
 some (r1.1,())
def td (a0:Int):Option (Bool×Unit):=
 (QW a0).bind fun r1=>
 some (r1.1,())
def iB (a0:ah):Option (Int×Unit):=
 (Az a0.1 (-1000000000000000) 1000000000000000).bind fun r1=>
 bif !r1.1 then
  some (1,())
 else
  (Az a0.2 0 9).bind fun r2=>
  bif !r2.1 then
   some (1,())
  else
   some (0,())
def JJ (a0:ah) (a1:ah):Option (Int×Unit):=
 (Bq a0 9).bind fun r1=>
 (Bq a1 9).bind fun r2=>
 (Gu r1.1 r2.1).bind fun r3=>
 some (r3.1,())
def kU (a0:ah) (a1:Int) (a2:Int) (a3:Int):Option (Bool×Unit):=
 (iB a0).bind fun r1=>
 bif r1.1==0 then
  bif decide (a0.2<=a3) then
   (JJ a0 (a1,0)).bind fun r2=>
   bif decide (r2.1>=0) then
    (JJ a0 (a2,0)).bind fun r3=>
    some (decide (r3.1<=0),())
   else
    some (false,())
  else
   some (false,())
 else
  some (false,())
def jN (a0:Int) (a1:Int) (a2:Int):Option (Bool×Unit):=
 bif decide (a1<=a0) then
  some (decide (a0<=a2),())
 else
  some (false,())
abbrev Bu:Type:=Int×Int×Int×Int×Unit
abbrev Bt:Type:=((ah×Unit) ⊕ (Int×Int×Int×Int×Unit))
def Br (x1:Bu) (again:Bu->Option Bt):Option Bt:=
 match x1 with
 | (A,B,C,D,_)=>
 bif decide (B>0) then
  bif (Int.tmod A 10)==0 then
   again (w64 (Int.tdiv A 10),w64 (B - 1),C,D,())
  else
   some (.inr (A,B,C,D,()))
 else
  some (.inr (A,B,C,D,()))
def eY (a0:ah):Option (ah×Unit):=
 aB (
  iter (X:=Bu) (β:=Bt) (a0.1.natAbs+(a0.2.natAbs+(Int.natAbs (0:Int)+(Int.natAbs (0:Int)+2)))) (a0.1,a0.2,0,0,()) (Br)) fun v2=>
 some ((v2.1,v2.2.1),())
end Go.Md
end
