/-
  The plain models of the functions that the law reaches, first part. No condition.
-/
import Derived.Test.YtjlkkapojeldlabGreatDoorYd
import Derived.Lib.SlTrimSet
noncomputable section
namespace Go.Md
open Go.Dn
abbrev Bys:Type:=List UInt8
def fV (s c:Bys):Option (Bys×Unit):=
 bif decide (s.length<=9223372036854775807)&&(decide (c.length<4294967281)&&c.all fun b=>decide (b.toNat<128)) then some (Lib.trimS s c,()) else none
abbrev aS:Ty:=(.st (.pair tI tI))
abbrev ah:Type:=Int×Int
abbrev cG:Ty:=(.st (.pair tI (.pair aS (.slice .str))))
abbrev cy:Type:=Int×ah×(List Bys)
abbrev w9:Ty:=(.st (.pair .str (.pair aS (.pair aS tI))))
abbrev lY:Type:=Bys×ah×ah×Int
abbrev bq:Ty:=(.st (.pair .bool (.slice tI)))
abbrev aH:Type:=Bool×(List Int)
abbrev eE:Ty:=(.st (.pair .str (.pair tI (.pair aS (.pair tI (.pair tI tI))))))
abbrev cL:Type:=Bys×Int×ah×Int×Int×Int
abbrev aE:Ty:=(.st (.pair eE (.pair tI (.pair tI (.pair tI tI)))))
abbrev ay:Type:=cL×Int×Int×Int×Int
abbrev cB:Ty:=(.st (.pair .bool (.slice (.int .u32))))
abbrev bN:Type:=Bool×(List Int)
def eA (a0:Bys):Option (Bool×Unit):=
 bif decide (((a0.length:Int))<1) then
  some (false,())
 else
  bif decide (((a0.length:Int))>40) then
   some (false,())
  else
   (iS a0 0).bind fun c1=>
   bif decide ((c1.toNat:Int)<97) then
    some (false,())
   else
    (iS a0 0).bind fun c2=>
    bif decide ((c2.toNat:Int)>122) then
     some (false,())
    else
     (fV a0 [97,98,99,100,101,102,103,104,105,106,107,108,109,110,111,112,113,114,115,116,117,118,119,120,121,122,48,49,50,51,52,53,54,55,56,57,45]).bind fun r3=>
     some (r3.1==[],())
def Av (a0:cL) (a1:cL):Option (Bool×Unit):=
 some (a0.1==a1.1,())
abbrev je:Type:=(List cL)×cL×Int×Int×Unit
abbrev jd:Type:=((Int×Unit) ⊕ Unit)
def yl (x1:je) (again:je->Option jd):Option jd:=
 match x1 with
 | (A,B,C,D,_)=>
 bif decide (D<C) then
  (idx A D).bind fun y2=>
  (Av y2 B).bind fun r3=>
  bif r3.1 then
   some (.inl (D,()))
  else
   again (A,B,C,w64 (D+1),())
 else
  some (.inr ())
def qi (a0:List cL) (a1:cL):Option (Int×Unit):=
 aJ (
  iter (X:=je) (β:=jd) (a0.length+(Int.natAbs ((a0.length:Int))+(Int.natAbs (0:Int)+2))) (a0,a1,(a0.length:Int),0,()) (yl)) fun _=>
 some ((-1),())
def nU (a0:List cL) (a1:cL):Option (Bool×Unit):=
 (qi a0 a1).bind fun r1=>
 some (decide (r1.1>=0),())
def cK (a0:Int) (a1:Int) (a2:Int):Option (Bool×Unit):=
 bif decide (a0<a1) then
  some (true,())
 else
  some (decide (a0>a2),())
def vG (a0:Int):Option (Bool×Unit):=
 (cK a0 1 3652059).bind fun r1=>
 some (!r1.1,())
def b8 (a0:ah):Option (Int×Unit):=
 (cK a0.1 (-1000000000000000) 1000000000000000).bind fun r1=>
 bif r1.1 then
  some (1,())
 else
  (cK a0.2 0 9).bind fun r2=>
  bif r2.1 then
   some (1,())
  else
   some (0,())
abbrev ux:Type:=Int×Int×Int×Unit
abbrev uw:Type:=((Int×Unit) ⊕ (Int×Unit))
def uv (x1:ux) (again:ux->Option uw):Option uw:=
 bif decide (x1.2.2.1<x1.2.1) then
  again (w64 (x1.1*10),x1.2.1,w64 (x1.2.2.1+1),())
 else
  some (.inr (x1.1,()))
def rY (a0:Int):Option (Int×Unit):=
 aJ (
  iter (X:=ux) (β:=uw) (Int.natAbs (1:Int)+(a0.natAbs+(Int.natAbs (0:Int)+2))) (1,a0,0,()) (uv)) fun v2=>
 some (v2.1,())
def dR (a0:ah) (a1:Int):Option (Bool×Unit):=
 (rY a0.2).bind fun r1=>
 (cK a0.1 (w64 (0 - (w64 (a1*r1.1)))) (w64 (a1*r1.1))).bind fun r2=>
 some (!r2.1,())
def l9 (a0:ah):Option (Int×Unit):=
 (b8 a0).bind fun r1=>
 bif r1.1 != 0 then
  some (r1.1,())
 else
  bif decide (a0.1<=0) then
   some (1,())
  else
   bif decide (a0.2>4) then
    some (1,())
   else
    (dR a0 1000000000).bind fun r2=>
    bif !r2.1 then
     some (1,())
    else
     some (0,())
abbrev qC:Type:=(List cL)×(List cL)×Int×Int×Unit
abbrev qB:Type:=((Int×Unit) ⊕ Unit)
def Ht (x1:qC) (again:qC->Option qB):Option qB:=
 match x1 with
 | (A,B,C,D,_)=>
 bif decide (D<C) then
  (idx B D).bind fun y2=>
  (eA y2.1).bind fun r3=>
  bif !r3.1 then
   some (.inl (5,()))
  else
   chk (decide (0<=(0:Int))&&decide ((0:Int)<=D)&&decide (D<=(A.length:Int))) <|
   (nU (List.drop 0 (List.take (Int.toNat D) A)) y2).bind fun r4=>
   bif r4.1 then
    some (.inl (7,()))
   else
    (vG y2.2.1).bind fun r5=>
    bif !r5.1 then
     some (.inl (1,()))
    else
     bif decide (D>0) then
      (idx A (w64 (D - 1))).bind fun y6=>
      bif decide (y2.2.1<y6.2.1) then
       some (.inl (8,()))
      else
       (l9 y2.2.2.1).bind fun r7=>
       bif r7.1 != 0 then
        some (.inl (r7.1,()))
       else
        (cK y2.2.2.2.1 0 10000).bind fun r8=>
        bif r8.1 then
         some (.inl (1,()))
        else
         (cK y2.2.2.2.2.1 0 y2.2.2.2.1).bind fun r9=>
         bif r9.1 then
          some (.inl (1,()))
         else
          (cK y2.2.2.2.2.2 0 1000).bind fun r10=>
          bif r10.1 then
           some (.inl (1,()))
          else
           again (A,B,C,w64 (D+1),())
     else
      (l9 y2.2.2.1).bind fun r11=>
      bif r11.1 != 0 then
       some (.inl (r11.1,()))
      else
       (cK y2.2.2.2.1 0 10000).bind fun r12=>
       bif r12.1 then
        some (.inl (1,()))
       else
        (cK y2.2.2.2.2.1 0 y2.2.2.2.1).bind fun r13=>
        bif r13.1 then
         some (.inl (1,()))
        else
         (cK y2.2.2.2.2.2 0 1000).bind fun r14=>
         bif r14.1 then
          some (.inl (1,()))
         else
          again (A,B,C,w64 (D+1),())
 else
  some (.inr ())
def Cs (a0:List cL):Option (Int×Unit):=
 bif decide (((a0.length:Int))>200) then
  some (2,())
 else
  aJ (
   iter (X:=qC) (β:=qB) (a0.length+(a0.length+(Int.natAbs ((a0.length:Int))+(Int.natAbs (0:Int)+2)))) (a0,a0,(a0.length:Int),0,()) (Ht)) fun _=>
  some (0,())
abbrev nj:Type:=(List Bys)×Bys×Int×Int×Unit
abbrev ni:Type:=((Int×Unit) ⊕ Unit)
def DH (x1:nj) (again:nj->Option ni):Option ni:=
 match x1 with
 | (A,B,C,D,_)=>
 bif decide (D<C) then
  (idx A D).bind fun y2=>
  bif B==y2 then
   some (.inl (D,()))
  else
   again (A,B,C,w64 (D+1),())
 else
  some (.inr ())
def lF (a0:List Bys) (a1:Bys):Option (Int×Unit):=
 aJ (
  iter (X:=nj) (β:=ni) (a0.length+(a1.length+(Int.natAbs ((a0.length:Int))+(Int.natAbs (0:Int)+2)))) (a0,a1,(a0.length:Int),0,()) (DH)) fun _=>
 some ((-1),())
def jr (a0:List Bys) (a1:Bys):Option (Bool×Unit):=
 (lF a0 a1).bind fun r1=>
 some (decide (r1.1>=0),())
abbrev jj:Type:=(List cy)×(List cy)×Int×Int×(List Bys)×Int×Int×Int×Int×Int×(List Bys)×Unit
abbrev ji:Type:=(((Int×Unit) ⊕ Unit) ⊕ ((List cy)×(List cy)×Int×Int×Unit))
def tH (x1:jj) (again:jj->Option ji):Option ji:=
 match x1 with
 | (A,B,C,D,E,F,G,H,I,J,K,_)=>
 bif decide (G<F) then
  (idx E G).bind fun y2=>
  (eA y2).bind fun r3=>
  bif !r3.1 then
   Dt <|
    some (.inl (5,()))
  else
   chk (decide (0<=(0:Int))&&decide ((0:Int)<=G)&&decide (G<=(K.length:Int))) <|
   (jr (List.drop 0 (List.take (Int.toNat G) K)) y2).bind fun r4=>
   bif r4.1 then
    Dt <|
     some (.inl (7,()))
   else
    again (A,B,C,D,E,F,w64 (G+1),H,I,J,K,())
 else
  some (.inr (A,B,C,D,()))
abbrev nI:Type:=(List cy)×(List cy)×Int×Int×Unit
abbrev nH:Type:=((Int×Unit) ⊕ Unit)
def DS (x1:nI) (again:nI->Option nH):Option nH:=
 match x1 with
 | (A,B,C,D,_)=>
 bif decide (D<C) then
  (idx B D).bind fun y2=>
  (vG y2.1).bind fun r3=>
  bif !r3.1 then
   some (.inl (1,()))
  else
   bif decide (D>0) then
    (idx A (w64 (D - 1))).bind fun y4=>
    bif decide (y2.1<y4.1) then
     some (.inl (8,()))
    else
     (l9 y2.2.1).bind fun r5=>
     bif r5.1 != 0 then
      some (.inl (r5.1,()))
     else
      bif decide (((y2.2.2.length:Int))>100) then
       some (.inl (2,()))
      else
       aJ (
        iter (X:=jj) (β:=ji) (A.length+(B.length+(C.natAbs+(D.natAbs+(y2.2.2.length+(Int.natAbs ((y2.2.2.length:Int))+(Int.natAbs (0:Int)+(y2.1.natAbs+(y2.2.1.1.natAbs+(y2.2.1.2.natAbs+(y2.2.2.length+2))))))))))) (A,B,C,D,y2.2.2,(y2.2.2.length:Int),0,y2.1,y2.2.1.1,y2.2.1.2,y2.2.2,()) (tH)) fun (E,F,G,H,_)=>
       again (E,F,G,w64 (H+1),())
   else
    (l9 y2.2.1).bind fun r7=>
    bif r7.1 != 0 then
     some (.inl (r7.1,()))
    else
     bif decide (((y2.2.2.length:Int))>100) then
      some (.inl (2,()))
     else
      aJ (
       iter (X:=jj) (β:=ji) (A.length+(B.length+(C.natAbs+(D.natAbs+(y2.2.2.length+(Int.natAbs ((y2.2.2.length:Int))+(Int.natAbs (0:Int)+(y2.1.natAbs+(y2.2.1.1.natAbs+(y2.2.1.2.natAbs+(y2.2.2.length+2))))))))))) (A,B,C,D,y2.2.2,(y2.2.2.length:Int),0,y2.1,y2.2.1.1,y2.2.1.2,y2.2.2,()) (tH)) fun (I,J,K,L,_)=>
      again (I,J,K,w64 (L+1),())
 else
  some (.inr ())
def zh (a0:List cy):Option (Int×Unit):=
 bif decide (((a0.length:Int))>500) then
  some (2,())
 else
  aJ (
   iter (X:=nI) (β:=nH) (a0.length+(a0.length+(Int.natAbs ((a0.length:Int))+(Int.natAbs (0:Int)+2)))) (a0,a0,(a0.length:Int),0,()) (DS)) fun _=>
  some (0,())
def DT (a0:List cL) (a1:List cy):Option (Int×Unit):=
 (Cs a0).bind fun r1=>
 bif r1.1 != 0 then
  some (r1.1,())
 else
  (zh a1).bind fun r2=>
  some (r2.1,())
def E6 (a0:ah):Option (Int×Unit):=
 (rY (w64 (4 - a0.2))).bind fun r1=>
 some (w64 (a0.1*r1.1),())
def sR (a0:List (Option Nat)):Option ((List (Option Nat))×Unit):=
 bif List.isEmpty a0 then
  both (
   some ([],())) (
   chk (decide ((0+(a0.length))*8<=140737488355328)&&decide (0+(a0.length)<=maxLen)) <|
   some (a0,()))
 else
  chk (decide ((0+(a0.length))*8<=140737488355328)&&decide (0+(a0.length)<=maxLen)) <|
  some (a0,())
def xH (a0:Option Nat) (a1:List ay):Option (Int×Unit):=
 (a0).bind fun h1=>
 (a1[h1]?).bind fun y2=>
 (a0).bind fun h3=>
 (a1[h3]?).bind fun y4=>
 some (w64 (y2.1.2.1+y4.1.2.2.2.1),())
def mc (a0:Option Nat) (a1:Option Nat) (a2:List ay):Option (Int×Unit):=
 (xH a0 a2).bind fun r1=>
 (xH a1 a2).bind fun r2=>
 some (w64 (r1.1 - r2.1),())
abbrev eS:Type:=Int×Int×Unit×Int×Int×(List (Option Nat))×(List ay)×Unit
abbrev eN:Type:=((((List (Option Nat))×Unit) ⊕ ((List (Option Nat))×(List ay)×Unit)) ⊕ (Int×Int×Unit×Int×(List (Option Nat))×(List ay)×Unit))
def oa (x1:eS) (again:eS->Option eN):Option eN:=
 match x1 with
 | (A,B,C,D,E,F,G,_)=>
 bif decide (E>A) then
  chk (decide (0<=E)&&decide (E<(F.length:Int))) <|
  (F[E.toNat]?).bind fun y2=>
  chk (decide (0<=(w64 (E - 1)))&&decide ((w64 (E - 1))<(F.length:Int))) <|
  (F[(w64 (E - 1)).toNat]?).bind fun y3=>
  (mc y2 y3 G).bind fun r4=>
  bif decide (r4.1<0) then
   chk (decide (0<=(w64 (E - 1)))&&decide ((w64 (E - 1))<(F.length:Int))) <|
   (F[(w64 (E - 1)).toNat]?).bind fun y5=>
   chk (decide (0<=E)&&decide (E<(F.length:Int))) <|
   (F[E.toNat]?).bind fun y6=>
   chk (decide (0<=E)&&decide (E<(F.length:Int))) <|
   (F[E.toNat]?).bind fun _=>
   chk (decide (0<=(w64 (E - 1)))&&decide ((w64 (E - 1))<(List.length (List.set F E.toNat y5):Int))) <|
   ((List.set F E.toNat y5)[(w64 (E - 1)).toNat]?).bind fun _=>
   again (A,B,C,D,w64 (E - 1),List.set (List.set F E.toNat y5) (w64 (E - 1)).toNat y6,G,())
  else
   some (.inr (A,B,C,D,F,G,()))
 else
  some (.inr (A,B,C,D,F,G,()))
abbrev eP:Type:=Int×Int×Unit×Int×(List (Option Nat))×(List ay)×Unit
abbrev eM:Type:=(((List (Option Nat))×Unit) ⊕ ((List (Option Nat))×(List ay)×Unit))
def n9 (x1:eP) (again:eP->Option eM):Option eM:=
 match x1 with
 | (A,B,C,D,E,F,_)=>
 bif decide (D<B) then
  aJ (
   iter (X:=eS) (β:=eN) (A.natAbs+(B.natAbs+(D.natAbs+(D.natAbs+(E.length+2))))) (A,B,C,D,D,E,F,()) (oa)) fun (G,H,I,J,K,L,_)=>
  again (G,H,I,w64 (J+1),K,L,())
 else
  some (.inr (E,F,()))
def fy (a0:List (Option Nat)) (a1:Int) (a2:Int) (a3:Unit) (a4:List ay):Option ((List (Option Nat))×Unit):=
 aJ (
  iter (X:=eP) (β:=eM) (a1.natAbs+(a2.natAbs+(Int.natAbs (w64 (a1+1))+(a0.length+2)))) (a1,a2,a3,w64 (a1+1),a0,a4,()) (n9)) fun v11=>
 some (v11.1,())
abbrev fF:Type:=Int×Int×Int×Int×(List (Option Nat))×(List ay)×Unit
abbrev fE:Type:=(((List (Option Nat))×Unit) ⊕ ((List (Option Nat))×(List ay)×Unit))
def qv (x1:fF) (again:fF->Option fE):Option fE:=
 match x1 with
 | (A,B,C,D,E,F,_)=>
 bif decide (D<C) then
  chk (decide (0<=(w64 (B+D)))&&decide ((w64 (B+D))<(E.length:Int))) <|
  (E[(w64 (B+D)).toNat]?).bind fun y2=>
  chk (decide (0<=(w64 (A+D)))&&decide ((w64 (A+D))<(E.length:Int))) <|
  (E[(w64 (A+D)).toNat]?).bind fun y3=>
  chk (decide (0<=(w64 (A+D)))&&decide ((w64 (A+D))<(E.length:Int))) <|
  (E[(w64 (A+D)).toNat]?).bind fun _=>
  chk (decide (0<=(w64 (B+D)))&&decide ((w64 (B+D))<(List.length (List.set E (w64 (A+D)).toNat y2):Int))) <|
  ((List.set E (w64 (A+D)).toNat y2)[(w64 (B+D)).toNat]?).bind fun _=>
  again (A,B,C,w64 (D+1),List.set (List.set E (w64 (A+D)).toNat y2) (w64 (B+D)).toNat y3,F,())
 else
  some (.inr (E,F,()))
def eD (a0:List (Option Nat)) (a1:Int) (a2:Int) (a3:Int) (_a4:Unit) (a5:List ay):Option ((List (Option Nat))×Unit):=
 aJ (
  iter (X:=fF) (β:=fE) (a1.natAbs+(a2.natAbs+(a3.natAbs+(Int.natAbs (0:Int)+(a0.length+2))))) (a1,a2,a3,0,a0,a5,()) (qv)) fun v6=>
 some (v6.1,())
abbrev gv:Type:=Int×Unit×Int×Int×(List (Option Nat))×(List ay)×Unit
abbrev gu:Type:=(((List (Option Nat))×Unit) ⊕ (Int×Unit×Int×(List (Option Nat))×(List ay)×Unit))
def tq (x1:gv) (again:gv->Option gu):Option gu:=
 match x1 with
 | (A,B,C,D,E,F,_)=>
 bif C != D then
  bif decide (C>D) then
   (eD E (w64 (A - C)) A D B F).bind fun r2=>
   again (A,B,w64 (C - D),D,r2.1,F,())
  else
   (eD E (w64 (A - C)) (w64 ((w64 (A+D)) - C)) C B F).bind fun r3=>
   again (A,B,C,w64 (D - C),r3.1,F,())
 else
  some (.inr (A,B,C,E,F,()))
def lG (a0:List (Option Nat)) (a1:Int) (a2:Int) (a3:Int) (a4:Unit) (a5:List ay):Option ((List (Option Nat))×Unit):=
 aJ (
  iter (X:=gv) (β:=gu) (a2.natAbs+(Int.natAbs (w64 (a2 - a1))+(Int.natAbs (w64 (a3 - a2))+(a0.length+2)))) (a2,a4,w64 (a2 - a1),w64 (a3 - a2),a0,a5,()) (tq)) fun (A,B,C,D,E,_)=>
 (eD D (w64 (A - C)) A C B E).bind fun r5=>
 some (r5.1,())
abbrev fT:Type:=Int×Unit×Int×Int×(List (Option Nat))×(List ay)×Unit
abbrev fR:Type:=(((List (Option Nat))×Unit) ⊕ (Int×Int×(List (Option Nat))×(List ay)×Unit))
def ru (x1:fT) (again:fT->Option fR):Option fR:=
 match x1 with
 | (A,B,C,D,E,F,_)=>
 bif decide (C<D) then
  let n2:Int:=w64 (Int.fdiv (bB (w64 (C+D))) (2 ^ 1))
  chk (decide (0<=n2)&&decide (n2<(E.length:Int))) <|
  (E[n2.toNat]?).bind fun y3=>
  chk (decide (0<=A)&&decide (A<(E.length:Int))) <|
  (E[A.toNat]?).bind fun y4=>
  (mc y3 y4 F).bind fun r5=>
  bif decide (r5.1<0) then
   again (A,B,w64 (n2+1),D,E,F,())
  else
   again (A,B,C,n2,E,F,())
 else
  some (.inr (A,C,E,F,()))
abbrev fU:Type:=Int×Int×(List (Option Nat))×(List ay)×Unit
abbrev fS:Type:=(((List (Option Nat))×Unit) ⊕ ((List (Option Nat))×(List ay)×Unit))
def ry (x1:fU) (again:fU->Option fS):Option fS:=
 match x1 with
 | (A,B,C,D,_)=>
 bif decide (B<(w64 (A - 1))) then
  chk (decide (0<=(w64 (B+1)))&&decide ((w64 (B+1))<(C.length:Int))) <|
  (C[(w64 (B+1)).toNat]?).bind fun y2=>
  chk (decide (0<=B)&&decide (B<(C.length:Int))) <|
  (C[B.toNat]?).bind fun y3=>
  chk (decide (0<=B)&&decide (B<(C.length:Int))) <|
  (C[B.toNat]?).bind fun _=>
  chk (decide (0<=(w64 (B+1)))&&decide ((w64 (B+1))<(List.length (List.set C B.toNat y2):Int))) <|
  ((List.set C B.toNat y2)[(w64 (B+1)).toNat]?).bind fun _=>
  again (A,w64 (B+1),List.set (List.set C B.toNat y2) (w64 (B+1)).toNat y3,D,())
 else
  some (.inr (C,D,()))
abbrev fJ:Type:=Int×Unit×Int×Int×(List (Option Nat))×(List ay)×Unit
abbrev fG:Type:=(((List (Option Nat))×Unit) ⊕ (Int×Int×(List (Option Nat))×(List ay)×Unit))
def qw (x1:fJ) (again:fJ->Option fG):Option fG:=
 match x1 with
 | (A,B,C,D,E,F,_)=>
 bif decide (C<D) then
  let n2:Int:=w64 (Int.fdiv (bB (w64 (C+D))) (2 ^ 1))
  chk (decide (0<=A)&&decide (A<(E.length:Int))) <|
  (E[A.toNat]?).bind fun y3=>
  chk (decide (0<=n2)&&decide (n2<(E.length:Int))) <|
  (E[n2.toNat]?).bind fun y4=>
  (mc y3 y4 F).bind fun r5=>
  bif !(decide (r5.1<0)) then
   again (A,B,w64 (n2+1),D,E,F,())
  else
   again (A,B,C,n2,E,F,())
 else
  some (.inr (A,C,E,F,()))
abbrev fK:Type:=Int×Int×(List (Option Nat))×(List ay)×Unit
abbrev fH:Type:=(((List (Option Nat))×Unit) ⊕ ((List (Option Nat))×(List ay)×Unit))
def qx (x1:fK) (again:fK->Option fH):Option fH:=
 match x1 with
 | (A,B,C,D,_)=>
 bif decide (B>A) then
  chk (decide (0<=(w64 (B - 1)))&&decide ((w64 (B - 1))<(C.length:Int))) <|
  (C[(w64 (B - 1)).toNat]?).bind fun y2=>
  chk (decide (0<=B)&&decide (B<(C.length:Int))) <|
  (C[B.toNat]?).bind fun y3=>
  chk (decide (0<=B)&&decide (B<(C.length:Int))) <|
  (C[B.toNat]?).bind fun _=>
  chk (decide (0<=(w64 (B - 1)))&&decide ((w64 (B - 1))<(List.length (List.set C B.toNat y2):Int))) <|
  ((List.set C B.toNat y2)[(w64 (B - 1)).toNat]?).bind fun _=>
  again (A,w64 (B - 1),List.set (List.set C B.toNat y2) (w64 (B - 1)).toNat y3,D,())
 else
  some (.inr (C,D,()))
abbrev fL:Type:=Int×Int×Int×Unit×Int×Int×Int×Int×Int×(List (Option Nat))×(List ay)×Unit
abbrev fI:Type:=(((List (Option Nat))×Unit) ⊕ (Int×Int×Int×Unit×Int×Int×Int×(List (Option Nat))×(List ay)×Unit))
def qy (x1:fL) (again:fL->Option fI):Option fI:=
 match x1 with
 | (A,B,C,D,E,F,G,H,I,J,K,_)=>
 bif decide (G<H) then
  let n2:Int:=w64 (Int.fdiv (bB (w64 (G+H))) (2 ^ 1))
  chk (decide (0<=(w64 (I - n2)))&&decide ((w64 (I - n2))<(J.length:Int))) <|
  (J[(w64 (I - n2)).toNat]?).bind fun y3=>
  chk (decide (0<=n2)&&decide (n2<(J.length:Int))) <|
  (J[n2.toNat]?).bind fun y4=>
  (mc y3 y4 K).bind fun r5=>
  bif !(decide (r5.1<0)) then
   again (A,B,C,D,E,F,w64 (n2+1),H,I,J,K,())
  else
   again (A,B,C,D,E,F,G,n2,I,J,K,())
 else
  some (.inr (A,B,C,D,E,F,G,J,K,()))
def dc (self:((List (Option Nat))×Int×Int×Int×Unit×(List ay)×Unit)->Option ((List (Option Nat))×Unit)) (a0:List (Option Nat)) (a1:Int) (a2:Int) (a3:Int) (a4:Unit) (a5:List ay):Option ((List (Option Nat))×Unit):=
 bif (w64 (a2 - a1))==1 then
  aJ (
   iter (X:=fT) (β:=fR) (a1.natAbs+(a2.natAbs+(a3.natAbs+(a0.length+2)))) (a1,a4,a2,a3,a0,a5,()) (ru)) fun (A,B,C,D,_)=>
  aJ (
   iter (X:=fU) (β:=fS) (B.natAbs+(A.natAbs+(C.length+2))) (B,A,C,D,()) (ry)) fun v12=>
  some (v12.1,())
 else
  bif (w64 (a3 - a2))==1 then
   aJ (
    iter (X:=fJ) (β:=fG) (a2.natAbs+(a1.natAbs+(a2.natAbs+(a0.length+2)))) (a2,a4,a1,a2,a0,a5,()) (qw)) fun (F,G,H,I,_)=>
   aJ (
    iter (X:=fK) (β:=fH) (G.natAbs+(F.natAbs+(H.length+2))) (G,F,H,I,()) (qx)) fun v24=>
   some (v24.1,())
  else
   let n25:Int:=w64 (Int.fdiv (bB (w64 (a1+a3))) (2 ^ 1))
   aJ (γ:=(Int×Int×Int×Unit×Int×Int×Int×Int×(List (Option Nat))×(List ay)×Unit)) (
    bif decide (a2>n25) then
     some (.inr (a1,a2,a3,a4,n25,w64 (n25+a2),w64 ((w64 (n25+a2)) - a3),n25,a0,a5,()))
    else
     some (.inr (a1,a2,a3,a4,n25,w64 (n25+a2),a1,a2,a0,a5,()))) fun (K,L,M,N,O,P,Q,R,S,T,_)=>
   aJ (
    iter (X:=fL) (β:=fI) (K.natAbs+(L.natAbs+(M.natAbs+(O.natAbs+(P.natAbs+(Q.natAbs+(R.natAbs+(Int.natAbs (w64 (P - 1))+(S.length+2))))))))) (K,L,M,N,O,P,Q,R,w64 (P - 1),S,T,()) (qy)) fun (U,V,W,Y,Z,A0,B0,C0,D0,_)=>
   bif decide (B0<V) then
    aJ (γ:=(Int×Int×Unit×Int×Int×Int×(List (Option Nat))×(List ay)×Unit)) (
     bif decide (V<(w64 (A0 - B0))) then
      (lG C0 B0 V (w64 (A0 - B0)) Y D0).bind fun r33=>
      some (.inr (U,W,Y,Z,B0,w64 (A0 - B0),r33.1,D0,()))
     else
      some (.inr (U,W,Y,Z,B0,w64 (A0 - B0),C0,D0,()))) fun (E0,F0,G0,H0,I0,J0,K0,L0,_)=>
    bif decide (E0<I0) then
     aJ (γ:=(Int×Unit×Int×Int×(List (Option Nat))×(List ay)×Unit)) (
      bif decide (I0<H0) then
       (self (K0,E0,I0,H0,G0,L0,())).bind fun r35=>
       some (.inr (F0,G0,H0,J0,r35.1,L0,()))
      else
       some (.inr (F0,G0,H0,J0,K0,L0,()))) fun (M0,N0,O0,P0,Q0,R0,_)=>
     bif decide (O0<P0) then
      bif decide (P0<M0) then
       (self (Q0,O0,P0,M0,N0,R0,())).bind fun r37=>
       some (r37.1,())
      else
       some (Q0,())
     else
      some (Q0,())
    else
     bif decide (H0<J0) then
      bif decide (J0<F0) then
       (self (K0,H0,J0,F0,G0,L0,())).bind fun r38=>
       some (r38.1,())
      else
       some (K0,())
     else
      some (K0,())
   else
    bif decide (U<B0) then
     aJ (γ:=(Int×Unit×Int×Int×(List (Option Nat))×(List ay)×Unit)) (
      bif decide (B0<Z) then
       (self (C0,U,B0,Z,Y,D0,())).bind fun r39=>
       some (.inr (W,Y,Z,w64 (A0 - B0),r39.1,D0,()))
      else
       some (.inr (W,Y,Z,w64 (A0 - B0),C0,D0,()))) fun (S0,T0,U0,V0,W0,X0,_)=>
     bif decide (U0<V0) then
      bif decide (V0<S0) then
       (self (W0,U0,V0,S0,T0,X0,())).bind fun r41=>
       some (r41.1,())
      else
       some (W0,())
     else
      some (W0,())
    else
     bif decide (Z<(w64 (A0 - B0))) then
      bif decide ((w64 (A0 - B0))<W) then
       (self (C0,Z,w64 (A0 - B0),W,Y,D0,())).bind fun r42=>
       some (r42.1,())
      else
       some (C0,())
     else
      some (C0,())
def iZ (a0:List (Option Nat)) (a1:Int) (a2:Int) (a3:Int) (_a4:Unit) (_a5:List ay):Nat:=a0.length+(a1.natAbs+(a2.natAbs+(a3.natAbs+2)))
def gL (a0:List (Option Nat)) (a1:Int) (a2:Int) (a3:Int) (a4:Unit) (a5:List ay):Option ((List (Option Nat))×Unit):=
 IZ (fun self x=>dc self x.1 x.2.1 x.2.2.1 x.2.2.2.1 x.2.2.2.2.1 x.2.2.2.2.2.1) (iZ a0 a1 a2 a3 a4 a5) (a0,a1,a2,a3,a4,a5,())
abbrev gz:Type:=Int×Unit×Int×Int×Int×(List (Option Nat))×(List ay)×Unit
abbrev gw:Type:=(((List (Option Nat))×Unit) ⊕ (Int×Unit×Int×Int×(List (Option Nat))×(List ay)×Unit))
def tr (x1:gz) (again:gz->Option gw):Option gw:=
 match x1 with
 | (A,B,C,D,E,F,G,_)=>
 bif decide (E<=A) then
  (fy F D E B G).bind fun r2=>
  again (A,B,C,E,w64 (E+C),r2.1,G,())
 else
  some (.inr (A,B,C,D,F,G,()))
abbrev gB:Type:=Int×Unit×Int×Int×Int×(List (Option Nat))×(List ay)×Unit
abbrev gy:Type:=((((List (Option Nat))×Unit) ⊕ ((List (Option Nat))×(List ay)×Unit)) ⊕ (Int×Unit×Int×Int×(List (Option Nat))×(List ay)×Unit))
def tv (x1:gB) (again:gB->Option gy):Option gy:=
 match x1 with
 | (A,B,C,D,E,F,G,_)=>
 bif decide (E<=A) then
  (gL F D (w64 (D+C)) E B G).bind fun r2=>
  again (A,B,C,E,w64 (E+(w64 (2*C))),r2.1,G,())
 else
  some (.inr (A,B,C,D,F,G,()))
abbrev gA:Type:=Int×Unit×Int×(List (Option Nat))×(List ay)×Unit
abbrev gx:Type:=(((List (Option Nat))×Unit) ⊕ ((List (Option Nat))×(List ay)×Unit))
def tu (x1:gA) (again:gA->Option gx):Option gx:=
 match x1 with
 | (A,B,C,D,E,_)=>
 bif decide (C<A) then
  aJ (
   iter (X:=gB) (β:=gy) (A.natAbs+(C.natAbs+(Int.natAbs (0:Int)+(Int.natAbs (w64 (2*C))+(D.length+2))))) (A,B,C,0,w64 (2*C),D,E,()) (tv)) fun (F,G,H,I,J,K,_)=>
  bif decide ((w64 (I+H))<F) then
   (gL J I (w64 (I+H)) F G K).bind fun r3=>
   again (F,G,w64 (H*2),r3.1,K,())
  else
   again (F,G,w64 (H*2),J,K,())
 else
  some (.inr (D,E,()))
def lH (a0:List (Option Nat)) (a1:Int) (a2:Unit) (a3:List ay):Option ((List (Option Nat))×Unit):=
 aJ (
  iter (X:=gz) (β:=gw) (a1.natAbs+(Int.natAbs (20:Int)+(Int.natAbs (0:Int)+(Int.natAbs (20:Int)+(a0.length+2))))) (a1,a2,20,0,20,a0,a3,()) (tr)) fun (A,B,C,D,E,F,_)=>
 (fy E D A B F).bind fun r4=>
 aJ (
  iter (X:=gA) (β:=gx) (A.natAbs+(C.natAbs+(r4.1.length+2))) (A,B,C,r4.1,F,()) (tu)) fun v10=>
 some (v10.1,())
def lf (a0:List (Option Nat)) (a1:Unit) (a2:List ay):Option ((List (Option Nat))×Unit):=
 (lH a0 ((a0.length:Int)) a1 a2).bind fun r1=>
 some (r1.1,())
def vZ (a0:Option Nat) (a1:Int) (a2:List ay):Option (Bool×Unit):=
 (a0).bind fun h1=>
 (a2[h1]?).bind fun y2=>
 bif decide (y2.1.2.1<=a1) then
  (a0).bind fun h3=>
  (a2[h3]?).bind fun y4=>
  some (y4.2.2.2.2==0,())
 else
  some (false,())
def zi (a0:Option Nat) (a1:List ay):Option (Int×Unit):=
 (a0).bind fun h1=>
 (a1[h1]?).bind fun y2=>
 (a0).bind fun h3=>
 (a1[h3]?).bind fun y4=>
 (a0).bind fun h5=>
 (a1[h5]?).bind fun y6=>
 (rY (w64 (4 - y6.1.2.2.1.2))).bind fun r7=>
 let n8:Int:=w64 ((w64 (Int.tdiv (w64 (y2.1.2.2.1.1*y4.1.2.2.2.2.2)) 1000))*r7.1)
 (a0).bind fun h9=>
 (a1[h9]?).bind fun y10=>
 some (if y10.2.1<n8 then y10.2.1 else n8,())
def uu (a0:Option Nat) (a1:Int) (a2:Int) (a3:List ay):Option (Int×(List ay)×Unit):=
 (a0).bind fun h1=>
 (a3[h1]?).bind fun y2=>
 (a0).bind fun h3=>
 (a3[h3]?).bind fun y4=>
 (a0).bind fun h5=>
 (a3[h5]?).bind fun y6=>
 (a0).bind fun h7=>
 (a3[h7]?).bind fun y8=>
 (a0).bind fun h9=>
 ((List.set a3 h7 (y8.1,y8.2.1,w64 (y4.2.2.1+(if y2.2.1<a1 then y2.2.1 else a1)),y8.2.2.2))[h9]?).bind fun y10=>
 (a0).bind fun h11=>
 ((List.set (List.set a3 h7 (y8.1,y8.2.1,w64 (y4.2.2.1+(if y2.2.1<a1 then y2.2.1 else a1)),y8.2.2.2)) h9 (y10.1,w64 (y6.2.1 - (if y2.2.1<a1 then y2.2.1 else a1)),y10.2.2))[h11]?).bind fun y12=>
 bif y12.2.1==0 then
  (a0).bind fun h13=>
  ((List.set (List.set a3 h7 (y8.1,y8.2.1,w64 (y4.2.2.1+(if y2.2.1<a1 then y2.2.1 else a1)),y8.2.2.2)) h9 (y10.1,w64 (y6.2.1 - (if y2.2.1<a1 then y2.2.1 else a1)),y10.2.2))[h13]?).bind fun y14=>
  some (w64 (a1 - (if y2.2.1<a1 then y2.2.1 else a1)),List.set (List.set (List.set a3 h7 (y8.1,y8.2.1,w64 (y4.2.2.1+(if y2.2.1<a1 then y2.2.1 else a1)),y8.2.2.2)) h9 (y10.1,w64 (y6.2.1 - (if y2.2.1<a1 then y2.2.1 else a1)),y10.2.2)) h13 (y14.1,y14.2.1,y14.2.2.1,y14.2.2.2.1,a2),())
 else
  some (w64 (a1 - (if y2.2.1<a1 then y2.2.1 else a1)),List.set (List.set a3 h7 (y8.1,y8.2.1,w64 (y4.2.2.1+(if y2.2.1<a1 then y2.2.1 else a1)),y8.2.2.2)) h9 (y10.1,w64 (y6.2.1 - (if y2.2.1<a1 then y2.2.1 else a1)),y10.2.2),())
def Ct (a0:Option Nat) (a1:Int) (a2:Int) (a3:List ay):Option (Int×(List ay)×Unit):=
 (zi a0 a3).bind fun r1=>
 (a0).bind fun h2=>
 (a3[h2]?).bind fun y3=>
 bif decide ((w64 (y3.2.1 - r1.1))>a1) then
  (uu a0 a1 a2 a3).bind fun r4=>
  some (r4.1,r4.2.1,())
 else
  (a0).bind fun h5=>
  (a3[h5]?).bind fun y6=>
  (a0).bind fun h7=>
  (a3[h7]?).bind fun y8=>
  bif decide (a2>(w64 (y6.1.2.1+y8.1.2.2.2.2.1))) then
   (uu a0 a1 a2 a3).bind fun r9=>
   some (r9.1,r9.2.1,())
  else
   (a0).bind fun h10=>
   (a3[h10]?).bind fun y11=>
   (a0).bind fun h12=>
   (a3[h12]?).bind fun y13=>
   (a0).bind fun h14=>
   (a3[h14]?).bind fun y15=>
   (a0).bind fun h16=>
   ((List.set a3 h14 (y15.1,y15.2.1,w64 (y13.2.2.1+(w64 (y11.2.1 - r1.1))),y15.2.2.2))[h16]?).bind fun y17=>
   (a0).bind fun h18=>
   ((List.set (List.set a3 h14 (y15.1,y15.2.1,w64 (y13.2.2.1+(w64 (y11.2.1 - r1.1))),y15.2.2.2)) h16 (y17.1,y17.2.1,y17.2.2.1,r1.1,y17.2.2.2.2))[h18]?).bind fun y19=>
   (a0).bind fun h20=>
   ((List.set (List.set (List.set a3 h14 (y15.1,y15.2.1,w64 (y13.2.2.1+(w64 (y11.2.1 - r1.1))),y15.2.2.2)) h16 (y17.1,y17.2.1,y17.2.2.1,r1.1,y17.2.2.2.2)) h18 (y19.1,0,y19.2.2))[h20]?).bind fun y21=>
   some (w64 (a1 - (w64 (y11.2.1 - r1.1))),List.set (List.set (List.set (List.set a3 h14 (y15.1,y15.2.1,w64 (y13.2.2.1+(w64 (y11.2.1 - r1.1))),y15.2.2.2)) h16 (y17.1,y17.2.1,y17.2.2.1,r1.1,y17.2.2.2.2)) h18 (y19.1,0,y19.2.2)) h20 (y21.1,y21.2.1,y21.2.2.1,y21.2.2.2.1,a2),())
abbrev uU:Type:=(List cy)×Int×(List (Option Nat))×(List cL)×Int×Int×(List (Bys×(Option Nat)))×(List ay)×Unit
abbrev uT:Type:=(((List (Option Nat))×(List Int)×(List ay)×Unit) ⊕ ((List cy)×Int×(List (Option Nat))×(List (Bys×(Option Nat)))×(List ay)×Unit))
def Lj (x1:uU) (again:uU->Option uT):Option uT:=
 match x1 with
 | (A,B,C,D,E,F,G,H,_)=>
 bif decide (F<E) then
  (idx D F).bind fun y2=>
  (E6 y2.2.2.1).bind fun r3=>
  chk (decide (((C.length)+1)*8<=140737488355328)&&decide ((C.length)+1<=maxLen)) <|
  again (A,B,C++[(some (H.length))],D,E,w64 (F+1),wF (k:= .str) (v:= .hnd) G y2.1 (some (H.length)),H++[(y2,r3.1,0,0,0)],())
 else
  some (.inr (A,B,C,G,H,()))
abbrev sY:Type:=Int×(List (Option Nat))×(List Int)×Int×(List cy)×Int×Int×(List Bys)×Int×Int×Int×Int×Int×(List Bys)×(List (Option Nat))×(List (Bys×(Option Nat)))×(List ay)×Unit
abbrev sV:Type:=((((List (Option Nat))×(List Int)×(List ay)×Unit) ⊕ ((List (Option Nat))×(List Int)×(List ay)×Unit)) ⊕ (Int×(List (Option Nat))×(List Int)×Int×(List cy)×Int×Int×Int×Int×Int×(List Bys)×(List (Option Nat))×(List (Bys×(Option Nat)))×(List ay)×Unit))
def J9 (x1:sY) (again:sY->Option sV):Option sV:=
 match x1 with
 | (A,B,C,D,E,F,G,H,I,J,K,L,M,N,O,P,Q,_)=>
 bif decide (J<I) then
  (idx H J).bind fun y2=>
  bif !(Option.isNone (Option.getD (jy (k:= .str) (v:= .hnd) P y2) none)) then
   (vZ (Option.getD (jy (k:= .str) (v:= .hnd) P y2) none) K Q).bind fun r3=>
   bif r3.1 then
    (Ct (Option.getD (jy (k:= .str) (v:= .hnd) P y2) none) D K Q).bind fun r4=>
    again (A,B,C,r4.1,E,F,G,H,I,w64 (J+1),K,L,M,N,O,P,r4.2.1,())
   else
    again (A,B,C,D,E,F,G,H,I,w64 (J+1),K,L,M,N,O,P,Q,())
  else
   again (A,B,C,D,E,F,G,H,I,w64 (J+1),K,L,M,N,O,P,Q,())
 else
  some (.inr (A,B,C,D,E,F,G,K,L,M,N,O,P,Q,()))
abbrev sZ:Type:=Int×(List (Option Nat))×(List Int)×Int×(List cy)×Int×Int×Int×Int×Int×Int×Int×(List Bys)×(List (Option Nat))×(List (Bys×(Option Nat)))×(List ay)×Unit
abbrev sW:Type:=((((List (Option Nat))×(List Int)×(List ay)×Unit) ⊕ ((List (Option Nat))×(List Int)×(List ay)×Unit)) ⊕ (Int×(List (Option Nat))×(List Int)×Int×(List cy)×Int×Int×(List (Option Nat))×(List (Bys×(Option Nat)))×(List ay)×Unit))
def Ka (x1:sZ) (again:sZ->Option sW):Option sW:=
 match x1 with
 | (A,B,C,D,E,F,G,H,I,J,K,L,M,N,O,P,_)=>
 bif decide (I<H) then
  chk (decide (0<=I)&&decide (I<(N.length:Int))) <|
  (N[I.toNat]?).bind fun y2=>
  bif decide (D>0) then
   (vZ y2 J P).bind fun r3=>
   bif r3.1 then
    (uu y2 D J P).bind fun r4=>
    again (A,B,C,r4.1,E,F,G,H,w64 (I+1),J,K,L,M,N,O,r4.2.1,())
   else
    again (A,B,C,D,E,F,G,H,w64 (I+1),J,K,L,M,N,O,P,())
  else
   again (A,B,C,D,E,F,G,H,w64 (I+1),J,K,L,M,N,O,P,())
 else
  some (.inr (A,B,C,D,E,F,G,N,O,P,()))
abbrev sX:Type:=Int×(List (Option Nat))×(List Int)×(List cy)×Int×Int×(List (Option Nat))×(List (Bys×(Option Nat)))×(List ay)×Unit
abbrev sU:Type:=(((List (Option Nat))×(List Int)×(List ay)×Unit) ⊕ ((List (Option Nat))×(List Int)×(List ay)×Unit))
def J8 (x1:sX) (again:sX->Option sU):Option sU:=
 match x1 with
 | (A,B,C,D,E,F,G,H,I,_)=>
 bif decide (F<E) then
  (idx D F).bind fun y2=>
  bif decide (y2.1>A) then
   some (.inr (B,C,I,()))
  else
   (E6 y2.2.1).bind fun r3=>
   aJ (
    iter (X:=sY) (β:=sV) (A.natAbs+(B.length+(C.length+(r3.1.natAbs+(D.length+(E.natAbs+(F.natAbs+(y2.2.2.length+(Int.natAbs ((y2.2.2.length:Int))+(Int.natAbs (0:Int)+(y2.1.natAbs+(y2.2.1.1.natAbs+(y2.2.1.2.natAbs+(y2.2.2.length+(G.length+(H.length+(I.length+2))))))))))))))))) (A,B,C,r3.1,D,E,F,y2.2.2,(y2.2.2.length:Int),0,y2.1,y2.2.1.1,y2.2.1.2,y2.2.2,G,H,I,()) (J9)) fun (J,K,L,M,N,O,P,Q,R,S,T,U,V,W,_)=>
   aJ (
    iter (X:=sZ) (β:=sW) (J.natAbs+(K.length+(L.length+(M.natAbs+(N.length+(O.natAbs+(P.natAbs+(Int.natAbs ((U.length:Int))+(Int.natAbs (0:Int)+(Q.natAbs+(R.natAbs+(S.natAbs+(T.length+(U.length+(V.length+(W.length+2)))))))))))))))) (J,K,L,M,N,O,P,(U.length:Int),0,Q,R,S,T,U,V,W,()) (Ka)) fun (Y,Z,A0,B0,C0,D0,E0,F0,G0,H0,_)=>
   chk (decide (((A0.length)+1)*8<=140737488355328)&&decide ((A0.length)+1<=maxLen)) <|
   again (Y,Z,A0++[B0],C0,D0,w64 (E0+1),F0,G0,H0,())
 else
  some (.inr (B,C,I,()))
def Gj (a0:List cL) (a1:List cy) (a2:Int) (a3:List ay):Option ((List (Option Nat))×(List Int)×(List ay)×Unit):=
 aJ (
  iter (X:=uU) (β:=uT) (a1.length+(a2.natAbs+(List.length ([]:List (Option Nat))+(a0.length+(Int.natAbs ((a0.length:Int))+(Int.natAbs (0:Int)+(List.length ([]:List (Bys×(Option Nat)))+(a3.length+2)))))))) (a1,a2,[],a0,(a0.length:Int),0,[],a3,()) (Lj)) fun (A,B,C,D,E,_)=>
 (sR C).bind fun r5=>
 (lf r5.1 () E).bind fun r6=>
 aJ (
  iter (X:=sX) (β:=sU) (B.natAbs+(C.length+(List.length ([]:List Int)+(A.length+(Int.natAbs ((A.length:Int))+(Int.natAbs (0:Int)+(r6.1.length+(D.length+(E.length+2))))))))) (B,C,[],A,(A.length:Int),0,r6.1,D,E,()) (J8)) fun (F,G,H,_)=>
 some (F,G,H,())
abbrev lu:Type:=(List Int)×Unit
abbrev vo:Type:=(((List Int)×Unit) ⊕ ((List Int)×Unit))
def vn (x1:lu) (again:lu->Option vo):Option vo:=
 bif decide (((x1.1.length:Int))>0) then
  (idx x1.1 (w64 (((x1.1.length:Int)) - 1))).bind fun y2=>
  bif y2==0 then
   chk (decide (0<=(0:Int))&&decide ((0:Int)<=(w64 (((x1.1.length:Int)) - 1)))&&decide ((w64 (((x1.1.length:Int)) - 1))<=(x1.1.length:Int))) <|
   again (List.drop 0 (List.take (Int.toNat (w64 (((x1.1.length:Int)) - 1))) x1.1),())
  else
   some (.inr (x1.1,()))
 else
  some (.inr (x1.1,()))
def lX (a0:List Int):Option ((List Int)×Unit):=
 aJ (
  iter (X:=lu) (β:=vo) (a0.length+2) (a0,()) (vn)) fun v3=>
 some (v3.1,())
def fZ (a0:Bool) (a1:List Int):Option (bN×Unit):=
 (lX a1).bind fun r1=>
 bif a0 then
  some ((decide (((r1.1.length:Int))>0),r1.1),())
 else
  some ((false,r1.1),())
def oX (a0:Int):Option (bN×Unit):=
 aJ (γ:=(Int×Int×Bool×(List Int)×Unit)) (
  bif decide (a0<0) then
   some (.inr (a0,bB (0 - (bB a0)),false,[],()))
  else
   some (.inr (a0,bB a0,false,[],()))) fun v1=>
 (fZ (decide (v1.1<0)) [(lz v1.2.1),(lz (Int.fdiv v1.2.1 (2 ^ 32)))]).bind fun r2=>
 some (r2.1,())
abbrev rP:Type:=(List Int)×(List Int)×Int×(List Int)×Int×Int×Unit
abbrev rO:Type:=(((List Int)×Unit) ⊕ ((List Int)×Int×Unit))
def rN (x1:rP) (again:rP->Option rO):Option rO:=
 match x1 with
 | (A,B,C,D,E,F,_)=>
 bif decide (F<E) then
  (idx D F).bind fun y2=>
  aJ (γ:=((List Int)×(List Int)×Int×(List Int)×Int×Int×Unit)) (
   bif decide (F<((A.length:Int))) then
    (idx A F).bind fun y3=>
    let n4:Int:=bB ((bB (C+(bB y2)))+(bB y3))
    some (.inr (A,B,n4,D,E,F,()))
   else
    some (.inr (A,B,bB (C+(bB y2)),D,E,F,()))) fun (G,H,I,J,K,L,_)=>
  chk (decide (((H.length)+1)*4<=140737488355328)&&decide ((H.length)+1<=maxLen)) <|
  again (G,H++[(lz I)],Int.fdiv I (2 ^ 32),J,K,w64 (L+1),())
 else
  some (.inr (B,C,()))
def zW (a0:List Int) (a1:List Int):Option ((List Int)×Unit):=
 aJ (γ:=((List Int)×(List Int)×Unit)) (
  bif decide (((a0.length:Int))<((a1.length:Int))) then
   some (.inr (a1,a0,()))
  else
   some (.inr (a0,a1,()))) fun (A,B,_)=>
 chk (decide (0<=(0:Int))&&decide ((0:Int)<=(w64 (((A.length:Int))+1)))&&decide ((4:Int)*(w64 (((A.length:Int))+1))<=281474976710656)&&decide ((w64 (((A.length:Int))+1))<=9223372036854775807)) <|
 aJ (
  iter (X:=rP) (β:=rO) (B.length+(List.length ([]:List Int)+(Int.natAbs (0:Int)+(A.length+(Int.natAbs ((A.length:Int))+(Int.natAbs (0:Int)+2)))))) (B,[],0,A,(A.length:Int),0,()) (rN)) fun (C,D,_)=>
 chk (decide (((C.length)+1)*4<=140737488355328)&&decide ((C.length)+1<=maxLen)) <|
 some (C++[(lz D)],())
abbrev oZ:Type:=(List Int)×(List Int)×Int×Unit
abbrev oY:Type:=((Int×Unit) ⊕ Unit)
def lq (x1:oZ) (again:oZ->Option oY):Option oY:=
 match x1 with
 | (A,B,C,_)=>
 bif decide (C>=0) then
  (idx A C).bind fun y2=>
  (idx B C).bind fun y3=>
  bif y2 != y3 then
   (idx A C).bind fun y4=>
   (idx B C).bind fun y5=>
   bif decide (y4<y5) then
    some (.inl ((-1),()))
   else
    some (.inl (1,()))
  else
   again (A,B,w64 (C - 1),())
 else
  some (.inr ())
def pN (a0:List Int) (a1:List Int):Option (Int×Unit):=
 bif ((a0.length:Int)) != ((a1.length:Int)) then
  some (w64 (((a0.length:Int)) - ((a1.length:Int))),())
 else
  aJ (
   iter (X:=oZ) (β:=oY) (a0.length+(a1.length+(Int.natAbs (w64 (((a0.length:Int)) - 1))+2))) (a0,a1,w64 (((a0.length:Int)) - 1),()) (lq)) fun _=>
  some (0,())
abbrev uQ:Type:=(List Int)×(List Int)×Int×(List Int)×Int×Int×Unit
abbrev uP:Type:=(((List Int)×Unit) ⊕ ((List Int)×Unit))
def uO (x1:uQ) (again:uQ->Option uP):Option uP:=
 match x1 with
 | (A,B,C,D,E,F,_)=>
 bif decide (F<E) then
  (idx D F).bind fun y2=>
  aJ (γ:=((List Int)×(List Int)×Int×(List Int)×Int×Int×Unit)) (
   bif decide (F<((A.length:Int))) then
    (idx A F).bind fun y3=>
    let n4:Int:=bB ((bB ((bB y2) - C)) - (bB y3))
    some (.inr (A,B,n4,D,E,F,()))
   else
    some (.inr (A,B,bB ((bB y2) - C),D,E,F,()))) fun (G,H,I,J,K,L,_)=>
  chk (decide (((H.length)+1)*4<=140737488355328)&&decide ((H.length)+1<=maxLen)) <|
  again (G,H++[(lz I)],bB (((BitVec.ofInt (IntKind.bits .u64) (Int.fdiv I (2 ^ 32)) &&& BitVec.ofInt (IntKind.bits .u64) 1).toNat:Int)),J,K,w64 (L+1),())
 else
  some (.inr (B,()))
def sP (a0:List Int) (a1:List Int):Option ((List Int)×Unit):=
 chk (decide (0<=(0:Int))&&decide ((0:Int)<=((a0.length:Int)))&&decide ((4:Int)*((a0.length:Int))<=281474976710656)&&decide (((a0.length:Int))<=9223372036854775807)) <|
 aJ (
  iter (X:=uQ) (β:=uP) (a1.length+(List.length ([]:List Int)+(Int.natAbs (0:Int)+(a0.length+(Int.natAbs ((a0.length:Int))+(Int.natAbs (0:Int)+2)))))) (a1,[],0,a0,(a0.length:Int),0,()) (uO)) fun v6=>
 (lX v6.1).bind fun r7=>
 some (r7.1,())
abbrev xk:Type:=(List Int)×Int×Bool×(List Int)×Bool×(List Int)×Bool×(List Int)×Bool×(List Int)×(List Int)×Unit
abbrev xj:Type:=((bN×bN×Unit) ⊕ ((List Int)×Bool×(List Int)×Bool×(List Int)×(List Int)×Unit))
def Od (x1:xk) (again:xk->Option xj):Option xj:=
 match x1 with
 | (A,B,C,D,E,F,G,H,I,J,K,_)=>
 bif decide (B>=0) then
  (zW A A).bind fun r2=>
  chk (decide (0<=(0:Int))&&decide ((0:Int)<(r2.1.length:Int))) <|
  (r2.1[0]?).bind fun y3=>
  (idx D (w64 (Int.tdiv B 32))).bind fun y4=>
  chk (decide (0<=(Int.tmod B 32))) <|
  let n5:Int:=lz (((BitVec.ofInt (IntKind.bits .u32) (Int.fdiv y4 (2 ^ (min (Int.toNat (Int.tmod B 32)) (IntKind.bits .u32)))) &&& BitVec.ofInt (IntKind.bits .u32) 1).toNat:Int))
  chk (decide (0<=(0:Int))&&decide ((0:Int)<(r2.1.length:Int))) <|
  (r2.1[0]?).bind fun _=>
  (lX (List.set r2.1 0 (lz (((BitVec.ofInt (IntKind.bits .u32) y3 ||| BitVec.ofInt (IntKind.bits .u32) n5).toNat:Int))))).bind fun r6=>
  (pN r6.1 F).bind fun r7=>
  bif decide (r7.1>=0) then
   (sP r6.1 F).bind fun r8=>
   chk (decide (0<=(w64 (Int.tdiv B 32)))&&decide ((w64 (Int.tdiv B 32))<(K.length:Int))) <|
   (K[(w64 (Int.tdiv B 32)).toNat]?).bind fun y9=>
   chk (decide (0<=(Int.tmod B 32))) <|
   let n10:Int:=lz (((BitVec.ofInt (IntKind.bits .u32) y9 ||| BitVec.ofInt (IntKind.bits .u32) (lz (1*2 ^ (min (Int.toNat (Int.tmod B 32)) (IntKind.bits .u32))))).toNat:Int))
   chk (decide (0<=(w64 (Int.tdiv B 32)))&&decide ((w64 (Int.tdiv B 32))<(K.length:Int))) <|
   (K[(w64 (Int.tdiv B 32)).toNat]?).bind fun _=>
   again (r8.1,w64 (B - 1),C,D,E,F,G,H,I,J,List.set K (w64 (Int.tdiv B 32)).toNat n10,())
  else
   again (r6.1,w64 (B - 1),C,D,E,F,G,H,I,J,K,())
 else
  some (.inr (A,G,H,I,J,K,()))
def Jo (a0:bN) (a1:bN):Option (bN×bN×Unit):=
 chk (decide (0<=((a0.2.length:Int)))&&decide (((a0.2.length:Int))<=((a0.2.length:Int)))&&decide ((4:Int)*((a0.2.length:Int))<=281474976710656)&&decide (((a0.2.length:Int))<=9223372036854775807)) <|
 let n1:Int:=w64 ((w64 (((a0.2.length:Int))*32)) - 1)
 aJ (
  iter (X:=xk) (β:=xj) (List.length ([]:List Int)+(n1.natAbs+(a0.2.length+(a1.2.length+(List.length ([]:List Int)+(List.length ([]:List Int)+(List.length ((List.replicate (Int.toNat ((a0.2.length:Int))) 0):List Int)+2))))))) ([],n1,a0.1,a0.2,a1.1,a1.2,false,[],false,[],List.replicate (Int.toNat ((a0.2.length:Int))) 0,()) (Od)) fun v14=>
 (fZ false v14.2.2.2.2.2.1).bind fun r15=>
 (fZ false v14.1).bind fun r16=>
 some (r15.1,r16.1,())
def jf (a0:bN):Option (Int×Unit):=
 bif a0.1 then
  some ((-1),())
 else
  bif ((a0.2.length:Int))==0 then
   some (0,())
  else
   some (1,())
def jQ (a0:bN):Option (bN×Unit):=
 (fZ (!a0.1) a0.2).bind fun r1=>
 some (r1.1,())
abbrev oW:Type:=Int×Int×(List Int)×Int×Int×Bool×(List Int)×Unit
abbrev oV:Type:=((Int×Bool×Unit) ⊕ (Int×Int×Bool×(List Int)×Unit))
def oU (x1:oW) (again:oW->Option oV):Option oV:=
 match x1 with
 | (A,B,C,D,E,F,G,_)=>
 bif decide (E<D) then
  (idx C E).bind fun y2=>
  chk (decide (0<=(w64 (32*E)))) <|
  let n3:Int:=bB ((bB y2)*2 ^ (min (Int.toNat (w64 (32*E))) (IntKind.bits .u64)))
  again (A,bB (((BitVec.ofInt (IntKind.bits .u64) B ||| BitVec.ofInt (IntKind.bits .u64) n3).toNat:Int)),C,D,w64 (E+1),F,G,())
 else
  some (.inr (A,B,F,G,()))
def uN (a0:bN) (a1:Int):Option (Int×Bool×Unit):=
 bif decide (((a0.2.length:Int))>2) then
  some (0,false,())
 else
  aJ (
   iter (X:=oW) (β:=oV) (a1.natAbs+(Int.natAbs (0:Int)+(a0.2.length+(Int.natAbs ((a0.2.length:Int))+(Int.natAbs (0:Int)+(a0.2.length+2)))))) (a1,0,a0.2,(a0.2.length:Int),0,a0.1,a0.2,()) (oU)) fun (A,B,C,_,_)=>
  bif decide (B>(bB A)) then
   some (0,false,())
  else
   bif C then
    some (w64 (0 - (w64 B)),true,())
   else
    some (w64 B,true,())
def mT (a0:bN) (a1:Int):Option (ah×Int×Unit):=
 (uN a0 1000000000000000).bind fun r1=>
 bif !r1.2.1 then
  some ((0,0),1,())
 else
  some ((r1.1,a1),0,())
abbrev uS:Type:=Int×Bool×(List Int)×Int×Int×Bool×(List Int)×Unit
abbrev uR:Type:=((ah×Int×Unit) ⊕ (Int×Bool×(List Int)×Int×Int×Unit))
def Lf (x1:uS) (again:uS->Option uR):Option uR:=
 match x1 with
 | (A,B,C,D,E,F,G,_)=>
 bif decide (A>0) then
  (Jo (B,C) (F,G)).bind fun r2=>
  (jf r2.2.1).bind fun r3=>
  bif r3.1 != 0 then
   some (.inr (A,B,C,D,E,()))
  else
   (jf (B,C)).bind fun r4=>
   bif decide (r4.1<0) then
    (jQ r2.1).bind fun r5=>
    again (w64 (A - 1),r5.1.1,r5.1.2,D,E,F,G,())
   else
    again (w64 (A - 1),r2.1.1,r2.1.2,D,E,F,G,())
 else
  some (.inr (A,B,C,D,E,()))
def Gi (a0:bN) (a1:Int):Option (ah×Int×Unit):=
 (oX 10).bind fun r1=>
 aJ (
  iter (X:=uS) (β:=uR) (a1.natAbs+(a0.2.length+(Int.natAbs (0:Int)+(Int.natAbs (0:Int)+(r1.1.2.length+2))))) (a1,a0.1,a0.2,0,0,r1.1.1,r1.1.2,()) (Lf)) fun v7=>
 (mT (v7.2.1,v7.2.2.1) v7.1).bind fun r8=>
 some (r8.1,r8.2.1,())
def Mx (a0:Int):Option (ah×Int×Unit):=
 (oX a0).bind fun r1=>
 (Gi r1.1 4).bind fun r2=>
 some (r2.1,r2.2.1,())
def rZ (a0:Int):Option (ah×Unit):=
 (Mx a0).bind fun r1=>
 some (r1.1,())
abbrev Dc:Type:=(List Int)×(List lY)×(List (Option Nat))×Int×Int×(List ay)×Unit
abbrev Db:Type:=(((List lY)×(List ah)×Int×Unit) ⊕ ((List Int)×(List lY)×(List ay)×Unit))
def TZ (x1:Dc) (again:Dc->Option Db):Option Db:=
 match x1 with
 | (A,B,C,D,E,F,_)=>
 bif decide (E<D) then
  (idx C E).bind fun y2=>
  (y2).bind fun h3=>
  (F[h3]?).bind fun y4=>
  (y2).bind fun h5=>
  (F[h5]?).bind fun y6=>
  (rZ y6.2.2.1).bind fun r7=>
  (y2).bind fun h8=>
  (F[h8]?).bind fun y9=>
  (rZ y9.2.2.2.1).bind fun r10=>
  (y2).bind fun h11=>
  (F[h11]?).bind fun y12=>
  chk (decide (((B.length)+1)*56<=140737488355328)&&decide ((B.length)+1<=maxLen)) <|
  again (A,B++[(y4.1.1,r7.1,r10.1,y12.2.2.2.2)],C,D,w64 (E+1),F,())
 else
  some (.inr (A,B,F,()))
abbrev Bq:Type:=(List lY)×(List ah)×(List Int)×Int×Int×(List ay)×Unit
abbrev Bp:Type:=(((List lY)×(List ah)×Int×Unit) ⊕ ((List lY)×(List ah)×(List ay)×Unit))
def RX (x1:Bq) (again:Bq->Option Bp):Option Bp:=
 match x1 with
 | (A,B,C,D,E,F,_)=>
 bif decide (E<D) then
  (idx C E).bind fun y2=>
  (rZ y2).bind fun r3=>
  chk (decide (((B.length)+1)*16<=140737488355328)&&decide ((B.length)+1<=maxLen)) <|
  again (A,B++[r3.1],C,D,w64 (E+1),F,())
 else
  some (.inr (A,B,F,()))
def RW (a0:List cL) (a1:List cy):Option ((List lY)×(List ah)×Int×Unit):=
 (DT a0 a1).bind fun r1=>
 bif r1.1 != 0 then
  some ([],[],r1.1,())
 else
  (Gj a0 a1 3652059 []).bind fun r2=>
  aJ (
   iter (X:=Dc) (β:=Db) (r2.2.1.length+(List.length ([]:List lY)+(r2.1.length+(Int.natAbs ((r2.1.length:Int))+(Int.natAbs (0:Int)+(r2.2.2.1.length+2)))))) (r2.2.1,[],r2.1,(r2.1.length:Int),0,r2.2.2.1,()) (TZ)) fun (A,B,C,_)=>
  aJ (
   iter (X:=Bq) (β:=Bp) (B.length+(List.length ([]:List ah)+(A.length+(Int.natAbs ((A.length:Int))+(Int.natAbs (0:Int)+(C.length+2)))))) (B,[],A,(A.length:Int),0,C,()) (RX)) fun v19=>
  some (v19.1,v19.2.1,0,())
def IA:Option (Bool×Unit):=
 (RW [([97],5,(7,0),0,0,0)] [(6,(9,0),[])]).bind fun r1=>
 bif r1.2.2.1==0 then
  bif ((r1.1.length:Int))==1 then
   (idx r1.1 0).bind fun y2=>
   bif y2.2.2.2==6 then
    bif ((r1.2.1.length:Int))==1 then
     (idx r1.2.1 0).bind fun y3=>
     some (y3.1==2,())
    else
     some (false,())
   else
    some (false,())
  else
   some (false,())
 else
  some (false,())
abbrev BS:Type:=Int×Bool×(List Int)×Bool×(List Int)×Unit
abbrev BR:Type:=((aH×Unit) ⊕ (Bool×(List Int)×Bool×(List Int)×Unit))
def vf (x1:BS) (again:BS->Option BR):Option BR:=
 match x1 with
 | (A,B,C,D,E,_)=>
 bif A != 0 then
  chk (decide (((E.length)+1)*8<=140737488355328)&&decide ((E.length)+1<=maxLen)) <|
  again (w64 (Int.tdiv A 1000000),B,C,D,E++[(if (w64 (0 - (Int.tmod A 1000000)))>(Int.tmod A 1000000) then (w64 (0 - (Int.tmod A 1000000))) else (Int.tmod A 1000000))],())
 else
  some (.inr (B,C,D,E,()))
def JR (a0:Int):Option (aH×Unit):=
 aJ (
  iter (X:=BS) (β:=BR) (a0.natAbs+(List.length ([]:List Int)+(List.length ([]:List Int)+2))) (a0,false,[],decide (a0<0),[],()) (vf)) fun v2=>
 some ((v2.2.2.1,v2.2.2.2.1),())
abbrev pJ:Type:=Bool×(List Int)×Bool×(List Int)×Unit
abbrev Ao:Type:=((aH×Unit) ⊕ (Bool×(List Int)×Bool×(List Int)×Unit))
def An (x1:pJ) (again:pJ->Option Ao):Option Ao:=
 match x1 with
 | (A,B,C,D,_)=>
 bif decide (((B.length:Int))>0) then
  (idx B (w64 (((B.length:Int)) - 1))).bind fun y2=>
  bif y2==0 then
   chk (decide (0<=(0:Int))&&decide ((0:Int)<=(w64 (((B.length:Int)) - 1)))&&decide ((w64 (((B.length:Int)) - 1))<=(B.length:Int))) <|
   again (A,List.drop 0 (List.take (Int.toNat (w64 (((B.length:Int)) - 1))) B),C,D,())
  else
   some (.inr (A,B,C,D,()))
 else
  some (.inr (A,B,C,D,()))
def mI (a0:aH):Option (aH×Unit):=
 aJ (
  iter (X:=pJ) (β:=Ao) (a0.2.length+(List.length ([]:List Int)+2)) (a0.1,a0.2,false,[],()) (An)) fun v3=>
 bif ((v3.2.1.length:Int))==0 then
  some ((false,v3.2.1),())
 else
  some ((v3.1,v3.2.1),())
abbrev uI:Type:=Int×Int×(List Int)×Int×Int×(List Int)×Int×Int×Bool×(List Int)×Bool×(List Int)×Bool×(List Int)×Unit
abbrev uG:Type:=(((aH×Unit) ⊕ (Bool×(List Int)×Bool×(List Int)×Unit)) ⊕ ((List Int)×Int×Int×Bool×(List Int)×Bool×(List Int)×Bool×(List Int)×Unit))
def uE (x1:uI) (again:uI->Option uG):Option uG:=
 match x1 with
 | (A,B,C,D,E,F,G,H,I,J,K,L,M,N,_)=>
 bif decide (H<G) then
  (idx F H).bind fun y2=>
  chk (decide (0<=(w64 (A+H)))&&decide ((w64 (A+H))<(N.length:Int))) <|
  (N[(w64 (A+H)).toNat]?).bind fun y3=>
  chk (decide (0<=(w64 (A+H)))&&decide ((w64 (A+H))<(N.length:Int))) <|
  (N[(w64 (A+H)).toNat]?).bind fun _=>
  chk (decide (0<=(w64 ((w64 (A+H))+1)))&&decide ((w64 ((w64 (A+H))+1))<(List.length (List.set N (w64 (A+H)).toNat (w64 (y3+(w64 (B*y2))))):Int))) <|
  ((List.set N (w64 (A+H)).toNat (w64 (y3+(w64 (B*y2)))))[(w64 ((w64 (A+H))+1)).toNat]?).bind fun y4=>
  chk (decide (0<=(w64 (A+H)))&&decide ((w64 (A+H))<(List.length (List.set N (w64 (A+H)).toNat (w64 (y3+(w64 (B*y2))))):Int))) <|
  ((List.set N (w64 (A+H)).toNat (w64 (y3+(w64 (B*y2)))))[(w64 (A+H)).toNat]?).bind fun y5=>
  chk (decide (0<=(w64 ((w64 (A+H))+1)))&&decide ((w64 ((w64 (A+H))+1))<(List.length (List.set N (w64 (A+H)).toNat (w64 (y3+(w64 (B*y2))))):Int))) <|
  ((List.set N (w64 (A+H)).toNat (w64 (y3+(w64 (B*y2)))))[(w64 ((w64 (A+H))+1)).toNat]?).bind fun _=>
  chk (decide (0<=(w64 (A+H)))&&decide ((w64 (A+H))<(List.length (List.set (List.set N (w64 (A+H)).toNat (w64 (y3+(w64 (B*y2))))) (w64 ((w64 (A+H))+1)).toNat (w64 (y4+(w64 (Int.tdiv y5 1000000))))):Int))) <|
  ((List.set (List.set N (w64 (A+H)).toNat (w64 (y3+(w64 (B*y2))))) (w64 ((w64 (A+H))+1)).toNat (w64 (y4+(w64 (Int.tdiv y5 1000000)))))[(w64 (A+H)).toNat]?).bind fun y6=>
  chk (decide (0<=(w64 (A+H)))&&decide ((w64 (A+H))<(List.length (List.set (List.set N (w64 (A+H)).toNat (w64 (y3+(w64 (B*y2))))) (w64 ((w64 (A+H))+1)).toNat (w64 (y4+(w64 (Int.tdiv y5 1000000))))):Int))) <|
  ((List.set (List.set N (w64 (A+H)).toNat (w64 (y3+(w64 (B*y2))))) (w64 ((w64 (A+H))+1)).toNat (w64 (y4+(w64 (Int.tdiv y5 1000000)))))[(w64 (A+H)).toNat]?).bind fun _=>
  again (A,B,C,D,E,F,G,w64 (H+1),I,J,K,L,M,List.set (List.set (List.set N (w64 (A+H)).toNat (w64 (y3+(w64 (B*y2))))) (w64 ((w64 (A+H))+1)).toNat (w64 (y4+(w64 (Int.tdiv y5 1000000))))) (w64 (A+H)).toNat (Int.tmod y6 1000000),())
 else
  some (.inr (C,D,E,I,J,K,L,M,N,()))
abbrev uH:Type:=(List Int)×Int×Int×Bool×(List Int)×Bool×(List Int)×Bool×(List Int)×Unit
abbrev uF:Type:=((aH×Unit) ⊕ (Bool×(List Int)×Bool×(List Int)×Unit))
def uD (x1:uH) (again:uH->Option uF):Option uF:=
 match x1 with
 | (A,B,C,D,E,F,G,H,I,_)=>
 bif decide (C<B) then
  (idx A C).bind fun y2=>
  aJ (
   iter (X:=uI) (β:=uG) (C.natAbs+(y2.natAbs+(A.length+(B.natAbs+(C.natAbs+(E.length+(Int.natAbs ((E.length:Int))+(Int.natAbs (0:Int)+(E.length+(G.length+(I.length+2))))))))))) (C,y2,A,B,C,E,(E.length:Int),0,D,E,F,G,H,I,()) (uE)) fun (J,K,L,M,N,O,P,Q,R,_)=>
  again (J,K,w64 (L+1),M,N,O,P,Q,R,())
 else
  some (.inr (F,G,H,I,()))
abbrev sJ:Type:=Int×Int×Bool×(List Int)×Bool×(List Int)×Unit
abbrev sI:Type:=((aH×Unit) ⊕ (Bool×(List Int)×Bool×(List Int)×Unit))
def sH (x1:sJ) (again:sJ->Option sI):Option sI:=
 match x1 with
 | (A,B,C,D,E,F,_)=>
 bif decide (B<A) then
  chk (decide (0<=(w64 (B+1)))&&decide ((w64 (B+1))<(F.length:Int))) <|
  (F[(w64 (B+1)).toNat]?).bind fun y2=>
  chk (decide (0<=B)&&decide (B<(F.length:Int))) <|
  (F[B.toNat]?).bind fun y3=>
  chk (decide (0<=(w64 (B+1)))&&decide ((w64 (B+1))<(F.length:Int))) <|
  (F[(w64 (B+1)).toNat]?).bind fun _=>
  chk (decide (0<=B)&&decide (B<(List.length (List.set F (w64 (B+1)).toNat (w64 (y2+(w64 (Int.tdiv y3 1000000))))):Int))) <|
  ((List.set F (w64 (B+1)).toNat (w64 (y2+(w64 (Int.tdiv y3 1000000)))))[B.toNat]?).bind fun y4=>
  chk (decide (0<=B)&&decide (B<(List.length (List.set F (w64 (B+1)).toNat (w64 (y2+(w64 (Int.tdiv y3 1000000))))):Int))) <|
  ((List.set F (w64 (B+1)).toNat (w64 (y2+(w64 (Int.tdiv y3 1000000)))))[B.toNat]?).bind fun _=>
  again (A,w64 (B+1),C,D,E,List.set (List.set F (w64 (B+1)).toNat (w64 (y2+(w64 (Int.tdiv y3 1000000))))) B.toNat (Int.tmod y4 1000000),())
 else
  some (.inr (C,D,E,F,()))
def sG (a0:aH) (a1:aH):Option (aH×Unit):=
 let n1:Int:=w64 ((w64 (((a0.2.length:Int))+((a1.2.length:Int))))+1)
 chk (decide (0<=n1)&&decide (n1<=n1)&&decide ((8:Int)*n1<=281474976710656)&&decide (n1<=9223372036854775807)) <|
 aJ (
  iter (X:=uH) (β:=uF) (a0.2.length+(Int.natAbs ((a0.2.length:Int))+(Int.natAbs (0:Int)+(a1.2.length+(List.length ([]:List Int)+(List.length ((List.replicate (Int.toNat n1) 0):List Int)+2)))))) (a0.2,(a0.2.length:Int),0,a1.1,a1.2,false,[], !(a0.1==a1.1),List.replicate (Int.toNat n1) 0,()) (uD)) fun (A,B,C,D,_)=>
 aJ (
  iter (X:=sJ) (β:=sI) (Int.natAbs (w64 (((D.length:Int)) - 1))+(Int.natAbs (0:Int)+(B.length+(D.length+2)))) (w64 (((D.length:Int)) - 1),0,A,B,C,D,()) (sH)) fun v21=>
 (mI (v21.2.2.1,v21.2.2.2.1)).bind fun r22=>
 some (r22.1,())
abbrev yT:Type:=Int×Int×Bool×(List Int)×Bool×(List Int)×Unit
abbrev yS:Type:=((aH×Unit) ⊕ (Bool×(List Int)×Bool×(List Int)×Unit))
def yR (x1:yT) (again:yT->Option yS):Option yS:=
 match x1 with
 | (A,B,C,D,E,F,_)=>
 bif decide (B<A) then
  (JR 10).bind fun r2=>
  (sG (E,F) r2.1).bind fun r3=>
  again (A,w64 (B+1),C,D,r3.1.1,r3.1.2,())
 else
  some (.inr (C,D,E,F,()))
def FV (a0:Int):Option (aH×Unit):=
 (JR 1).bind fun r1=>
 aJ (
  iter (X:=yT) (β:=yS) (a0.natAbs+(Int.natAbs (0:Int)+(List.length ([]:List Int)+(r1.1.2.length+2)))) (a0,0,false,[],r1.1.1,r1.1.2,()) (yR)) fun v5=>
 some ((v5.2.2.1,v5.2.2.2.1),())
def NC (a0:ah) (a1:Int):Option (aH×Unit):=
 (JR a0.1).bind fun r1=>
 (FV (w64 (a1 - a0.2))).bind fun r2=>
 (sG r1.1 r2.1).bind fun r3=>
 some (r3.1,())
abbrev yV:Type:=(List Int)×(List Int)×Int×Unit
abbrev yU:Type:=((Int×Unit) ⊕ Unit)
def uc (x1:yV) (again:yV->Option yU):Option yU:=
 match x1 with
 | (A,B,C,_)=>
 bif decide (C>=0) then
  (idx A C).bind fun y2=>
  (idx B C).bind fun y3=>
  bif y2 != y3 then
   (idx A C).bind fun y4=>
   (idx B C).bind fun y5=>
   some (.inl (w64 (y4 - y5),()))
  else
   again (A,B,w64 (C - 1),())
 else
  some (.inr ())
def FW (a0:List Int) (a1:List Int):Option (Int×Unit):=
 bif ((a0.length:Int)) != ((a1.length:Int)) then
  some (w64 (((a0.length:Int)) - ((a1.length:Int))),())
 else
  aJ (
   iter (X:=yV) (β:=yU) (a0.length+(a1.length+(Int.natAbs (w64 (((a0.length:Int)) - 1))+2))) (a0,a1,w64 (((a0.length:Int)) - 1),()) (uc)) fun _=>
  some (0,())
def yb (a0:List Int) (a1:Int):Option (Int×Unit):=
 bif decide (a1<((a0.length:Int))) then
  (idx a0 a1).bind fun y1=>
  some (y1,())
 else
  some (0,())
abbrev wS:Type:=Int×Int×Int×Bool×(List Int)×Bool×(List Int)×Bool×(List Int)×Bool×(List Int)×Unit
abbrev wR:Type:=((aH×Unit) ⊕ (Bool×(List Int)×Bool×(List Int)×Unit))
def wQ (x1:wS) (again:wS->Option wR):Option wR:=
 match x1 with
 | (A,B,C,D,E,F,G,H,I,J,K,_)=>
 bif decide (C<B) then
  (idx E C).bind fun y2=>
  (yb G C).bind fun r3=>
  aJ (γ:=(Int×Int×Int×Int×Bool×(List Int)×Bool×(List Int)×Bool×(List Int)×Bool×(List Int)×Unit)) (
   bif decide ((w64 ((w64 (y2 - r3.1)) - A))<0) then
    let n4:Int:=w64 ((w64 ((w64 (y2 - r3.1)) - A))+1000000)
    some (.inr (1,n4,B,C,D,E,F,G,H,I,J,K,()))
   else
    some (.inr (0,w64 ((w64 (y2 - r3.1)) - A),B,C,D,E,F,G,H,I,J,K,()))) fun (L,M,N,O,P,Q,R,S,T,U,V,W,_)=>
  chk (decide (((W.length)+1)*8<=140737488355328)&&decide ((W.length)+1<=maxLen)) <|
  again (L,N,w64 (O+1),P,Q,R,S,T,U,V,W++[M],())
 else
  some (.inr (H,I,J,K,()))
abbrev yQ:Type:=Int×Int×Int×Bool×(List Int)×Bool×(List Int)×Bool×(List Int)×Bool×(List Int)×Unit
abbrev yP:Type:=((aH×Unit) ⊕ (Bool×(List Int)×Bool×(List Int)×Unit))
def yO (x1:yQ) (again:yQ->Option yP):Option yP:=
 match x1 with
 | (A,B,C,D,E,F,G,H,I,J,K,_)=>
 bif decide (C<B) then
  (yb E C).bind fun r2=>
  (yb G C).bind fun r3=>
  let n4:Int:=Int.tmod (w64 ((w64 (r2.1+r3.1))+A)) 1000000
  chk (decide (((K.length)+1)*8<=140737488355328)&&decide ((K.length)+1<=maxLen)) <|
  let n5:Int:=w64 (Int.tdiv (w64 ((w64 (r2.1+r3.1))+A)) 1000000)
  again (n5,B,w64 (C+1),D,E,F,G,H,I,J,K++[n4],())
 else
  some (.inr (H,I,J,K,()))
def JS (a0:aH) (a1:aH):Option (aH×Unit):=
 bif !(a0.1==a1.1) then
  (FW a0.2 a1.2).bind fun r1=>
  aJ (γ:=(Bool×(List Int)×Bool×(List Int)×Bool×(List Int)×Unit)) (
   bif decide (r1.1<0) then
    some (.inr (a1.1,a1.2,a0.1,a0.2,false,[],()))
   else
    some (.inr (a0.1,a0.2,a1.1,a1.2,false,[],()))) fun (A,B,C,D,E,F,_)=>
  aJ (
   iter (X:=wS) (β:=wR) (Int.natAbs (0:Int)+(Int.natAbs ((B.length:Int))+(Int.natAbs (0:Int)+(B.length+(D.length+(F.length+(List.length ([]:List Int)+2))))))) (0,(B.length:Int),0,A,B,C,D,E,F,A,[],()) (wQ)) fun v8=>
  (mI (v8.2.2.1,v8.2.2.2.1)).bind fun r9=>
  some (r9.1,())
 else
  let n10:Int:=w64 ((if ((a1.2.length:Int))>((a0.2.length:Int)) then ((a1.2.length:Int)) else ((a0.2.length:Int)))+1)
  aJ (
   iter (X:=yQ) (β:=yP) (Int.natAbs (0:Int)+(n10.natAbs+(Int.natAbs (0:Int)+(a0.2.length+(a1.2.length+(List.length ([]:List Int)+(List.length ([]:List Int)+2))))))) (0,n10,0,a0.1,a0.2,a1.1,a1.2,false,[],a0.1,[],()) (yO)) fun v16=>
  (mI (v16.2.2.1,v16.2.2.2.1)).bind fun r17=>
  some (r17.1,())
def FU (a0:aH):Option (aH×Unit):=
 bif decide (((a0.2.length:Int))>0) then
  some ((!a0.1,a0.2),())
 else
  some (a0,())
def JT (a0:aH):Option (Int×Unit):=
 bif ((a0.2.length:Int))==0 then
  some (0,())
 else
  bif a0.1 then
   some ((-1),())
  else
   some (1,())
def ND (a0:aH) (a1:aH):Option (Int×Unit):=
 (FU a1).bind fun r1=>
 (JS a0 r1.1).bind fun r2=>
 (JT r2.1).bind fun r3=>
 some (r3.1,())
end Go.Md
namespace Go.Md
open Go.Dn
abbrev BU:Type:=Bys×Int×Int×Unit
abbrev BT:Type:=((Bool×Unit) ⊕ Unit)
def wT (x1:BU) (again:BU->Option BT):Option BT:=
 match x1 with
 | (A,B,C,_)=>
 bif decide (C<B) then
  (iS A C).bind fun c2=>
  bif decide ((c2.toNat:Int)<97) then
   bif decide ((c2.toNat:Int)<48) then
    bif (c2.toNat:Int) != 45 then
     some (.inl (false,()))
    else
     again (A,B,w64 (C+1),())
   else
    bif decide ((c2.toNat:Int)>57) then
     bif (c2.toNat:Int) != 45 then
      some (.inl (false,()))
     else
      again (A,B,w64 (C+1),())
    else
     again (A,B,w64 (C+1),())
  else
   bif decide ((c2.toNat:Int)>122) then
    bif decide ((c2.toNat:Int)<48) then
     bif (c2.toNat:Int) != 45 then
      some (.inl (false,()))
     else
      again (A,B,w64 (C+1),())
    else
     bif decide ((c2.toNat:Int)>57) then
      bif (c2.toNat:Int) != 45 then
       some (.inl (false,()))
      else
       again (A,B,w64 (C+1),())
     else
      again (A,B,w64 (C+1),())
   else
    again (A,B,w64 (C+1),())
 else
  some (.inr ())
def IY (a0:Bys):Option (Bool×Unit):=
 bif a0==[] then
  some (false,())
 else
  bif decide (((a0.length:Int))>40) then
   some (false,())
  else
   (iS a0 0).bind fun c1=>
   bif decide ((c1.toNat:Int)<97) then
    some (false,())
   else
    (iS a0 0).bind fun c2=>
    bif decide ((c2.toNat:Int)>122) then
     some (false,())
    else
     aJ (
      iter (X:=BU) (β:=BT) (a0.length+(Int.natAbs ((a0.length:Int))+(Int.natAbs (0:Int)+2))) (a0,(a0.length:Int),0,()) (wT)) fun _=>
     some (true,())
def kJ (a0:Bys):Option (Bool×Unit):=
 (IY a0).bind fun r1=>
 some (r1.1,())
def vK (a0:Int) (a1:Int) (a2:Int):Option (Bool×Unit):=
 bif decide (a1<=a0) then
  some (decide (a0<=a2),())
 else
  some (false,())
def Me (a0:Int):Option (Bool×Unit):=
 (vK a0 1 3652059).bind fun r1=>
 some (r1.1,())
def FT (a0:Int):Option (Bool×Unit):=
 (Me a0).bind fun r1=>
 some (r1.1,())
def iK (a0:ah):Option (Int×Unit):=
 (vK a0.1 (-1000000000000000) 1000000000000000).bind fun r1=>
 bif !r1.1 then
  some (1,())
 else
  (vK a0.2 0 9).bind fun r2=>
  bif !r2.1 then
   some (1,())
  else
   some (0,())
def Ev (a0:ah) (a1:ah):Option (Int×Unit):=
 (NC a0 9).bind fun r1=>
 (NC a1 9).bind fun r2=>
 (ND r1.1 r2.1).bind fun r3=>
 some (r3.1,())
def jb (a0:ah) (a1:Int) (a2:Int) (a3:Int):Option (Bool×Unit):=
 (iK a0).bind fun r1=>
 bif r1.1==0 then
  bif decide (a0.2<=a3) then
   (Ev a0 (a1,0)).bind fun r2=>
   bif decide (r2.1>=0) then
    (Ev a0 (a2,0)).bind fun r3=>
    some (decide (r3.1<=0),())
   else
    some (false,())
  else
   some (false,())
 else
  some (false,())
def kE (a0:Int) (a1:Int) (a2:Int):Option (Bool×Unit):=
 bif decide (a1<=a0) then
  some (decide (a0<=a2),())
 else
  some (false,())
end Go.Md
end
