/-
  The plain models of the functions that the law reaches, first part. No condition.
-/
import Derived.Test.YtjlkkapojeldlabGreatDoorYd
import Derived.Lib.SlTrimSet
noncomputable section
namespace Go.Md
open Go.Dn
abbrev Bys:Type:=List UInt8
def fQ (s c:Bys):Option (Bys×Unit):=
 bif decide (s.length<=9223372036854775807)&&(decide (c.length<4294967281)&&c.all fun b=>decide (b.toNat<128)) then some (Lib.trimS s c,()) else none
abbrev bg:Ty:=(.st (.pair tI tI))
abbrev ah:Type:=Int×Int
abbrev cG:Ty:=(.st (.pair tI (.pair bg (.slice .str))))
abbrev cx:Type:=Int×ah×(List Bys)
abbrev vV:Ty:=(.st (.pair .str (.pair bg (.pair bg tI))))
abbrev lZ:Type:=Bys×ah×ah×Int
abbrev bz:Ty:=(.st (.pair .bool (.slice tI)))
abbrev aH:Type:=Bool×(List Int)
abbrev ez:Ty:=(.st (.pair .str (.pair tI (.pair bg (.pair tI (.pair tI tI))))))
abbrev cM:Type:=Bys×Int×ah×Int×Int×Int
abbrev aE:Ty:=(.st (.pair ez (.pair tI (.pair tI (.pair tI tI)))))
abbrev aq:Type:=cM×Int×Int×Int×Int
abbrev dx:Ty:=(.st (.pair .bool (.slice (.int .u32))))
abbrev bZ:Type:=Bool×(List Int)
def eN (a0:Bys):Option (Bool×Unit):=
 bif decide (((a0.length:Int))<1) then
  some (false,())
 else
  bif decide (((a0.length:Int))>40) then
   some (false,())
  else
   (iV a0 0).bind fun c1=>
   bif decide ((c1.toNat:Int)<97) then
    some (false,())
   else
    (iV a0 0).bind fun c2=>
    bif decide ((c2.toNat:Int)>122) then
     some (false,())
    else
     (fQ a0 [97,98,99,100,101,102,103,104,105,106,107,108,109,110,111,112,113,114,115,116,117,118,119,120,121,122,48,49,50,51,52,53,54,55,56,57,45]).bind fun r3=>
     some (r3.1==[],())
def zb (a0:cM) (a1:cM):Option (Bool×Unit):=
 some (a0.1==a1.1,())
abbrev jn:Type:=(List cM)×cM×Int×Int×Unit
abbrev jm:Type:=((Int×Unit) ⊕ Unit)
def w7 (x1:jn) (again:jn->Option jm):Option jm:=
 match x1 with
 | (A,B,C,D,_)=>
 bif decide (D<C) then
  (idx A D).bind fun y2=>
  (zb y2 B).bind fun r3=>
  bif r3.1 then
   some (.inl (D,()))
  else
   again (A,B,C,w64 (D+1),())
 else
  some (.inr ())
def pW (a0:List cM) (a1:cM):Option (Int×Unit):=
 aR (
  iter (X:=jn) (β:=jm) (a0.length+(Int.natAbs ((a0.length:Int))+(Int.natAbs (0:Int)+2))) (a0,a1,(a0.length:Int),0,()) (w7)) fun _=>
 some ((-1),())
def nN (a0:List cM) (a1:cM):Option (Bool×Unit):=
 (pW a0 a1).bind fun r1=>
 some (decide (r1.1>=0),())
def cL (a0:Int) (a1:Int) (a2:Int):Option (Bool×Unit):=
 bif decide (a0<a1) then
  some (true,())
 else
  some (decide (a0>a2),())
def uM (a0:Int):Option (Bool×Unit):=
 (cL a0 1 3652059).bind fun r1=>
 some (!r1.1,())
def cy (a0:ah):Option (Int×Unit):=
 (cL a0.1 (-1000000000000000) 1000000000000000).bind fun r1=>
 bif r1.1 then
  some (1,())
 else
  (cL a0.2 0 9).bind fun r2=>
  bif r2.1 then
   some (1,())
  else
   some (0,())
abbrev tG:Type:=Int×Int×Int×Unit
abbrev tF:Type:=((Int×Unit) ⊕ (Int×Unit))
def tE (x1:tG) (again:tG->Option tF):Option tF:=
 bif decide (x1.2.2.1<x1.2.1) then
  again (w64 (x1.1*10),x1.2.1,w64 (x1.2.2.1+1),())
 else
  some (.inr (x1.1,()))
def rF (a0:Int):Option (Int×Unit):=
 aR (
  iter (X:=tG) (β:=tF) (Int.natAbs (1:Int)+(a0.natAbs+(Int.natAbs (0:Int)+2))) (1,a0,0,()) (tE)) fun v2=>
 some (v2.1,())
def dQ (a0:ah) (a1:Int):Option (Bool×Unit):=
 (rF a0.2).bind fun r1=>
 (cL a0.1 (w64 (0 - (w64 (a1*r1.1)))) (w64 (a1*r1.1))).bind fun r2=>
 some (!r2.1,())
def l9 (a0:ah):Option (Int×Unit):=
 (cy a0).bind fun r1=>
 bif r1.1 != 0 then
  some (r1.1,())
 else
  bif decide (a0.1<=0) then
   some (1,())
  else
   bif decide (a0.2>4) then
    some (1,())
   else
    (dQ a0 1000000000).bind fun r2=>
    bif !r2.1 then
     some (1,())
    else
     some (0,())
abbrev qo:Type:=(List cM)×(List cM)×Int×Int×Unit
abbrev qm:Type:=((Int×Unit) ⊕ Unit)
def Fb (x1:qo) (again:qo->Option qm):Option qm:=
 match x1 with
 | (A,B,C,D,_)=>
 bif decide (D<C) then
  (idx B D).bind fun y2=>
  (eN y2.1).bind fun r3=>
  bif !r3.1 then
   some (.inl (5,()))
  else
   chk (decide (0<=(0:Int))&&decide ((0:Int)<=D)&&decide (D<=(A.length:Int))) <|
   (nN (List.drop 0 (List.take (Int.toNat D) A)) y2).bind fun r4=>
   bif r4.1 then
    some (.inl (7,()))
   else
    (uM y2.2.1).bind fun r5=>
    bif !r5.1 then
     some (.inl (1,()))
    else
     bif decide (D>0) then
      (idx A (w64 (D - 1))).bind fun y6=>
      bif decide (y2.2.1<y6.2.1) then
       some (.inl (8,()))
      else
       (l9 y2.2.2.1).bind fun r7=>
       bif r7.1 != 0 then
        some (.inl (r7.1,()))
       else
        (cL y2.2.2.2.1 0 10000).bind fun r8=>
        bif r8.1 then
         some (.inl (1,()))
        else
         (cL y2.2.2.2.2.1 0 y2.2.2.2.1).bind fun r9=>
         bif r9.1 then
          some (.inl (1,()))
         else
          (cL y2.2.2.2.2.2 0 1000).bind fun r10=>
          bif r10.1 then
           some (.inl (1,()))
          else
           again (A,B,C,w64 (D+1),())
     else
      (l9 y2.2.2.1).bind fun r11=>
      bif r11.1 != 0 then
       some (.inl (r11.1,()))
      else
       (cL y2.2.2.2.1 0 10000).bind fun r12=>
       bif r12.1 then
        some (.inl (1,()))
       else
        (cL y2.2.2.2.2.1 0 y2.2.2.2.1).bind fun r13=>
        bif r13.1 then
         some (.inl (1,()))
        else
         (cL y2.2.2.2.2.2 0 1000).bind fun r14=>
         bif r14.1 then
          some (.inl (1,()))
         else
          again (A,B,C,w64 (D+1),())
 else
  some (.inr ())
def AX (a0:List cM):Option (Int×Unit):=
 bif decide (((a0.length:Int))>200) then
  some (2,())
 else
  aR (
   iter (X:=qo) (β:=qm) (a0.length+(a0.length+(Int.natAbs ((a0.length:Int))+(Int.natAbs (0:Int)+2)))) (a0,a0,(a0.length:Int),0,()) (Fb)) fun _=>
  some (0,())
abbrev gK:Type:=(List Bys)×Bys×Int×Int×Unit
abbrev gJ:Type:=((Int×Unit) ⊕ Unit)
def gI (x1:gK) (again:gK->Option gJ):Option gJ:=
 match x1 with
 | (A,B,C,D,_)=>
 bif decide (D<C) then
  (idx A D).bind fun y2=>
  bif B==y2 then
   some (.inl (D,()))
  else
   again (A,B,C,w64 (D+1),())
 else
  some (.inr ())
def jf (a0:List Bys) (a1:Bys):Option (Int×Unit):=
 aR (
  iter (X:=gK) (β:=gJ) (a0.length+(a1.length+(Int.natAbs ((a0.length:Int))+(Int.natAbs (0:Int)+2)))) (a0,a1,(a0.length:Int),0,()) (gI)) fun _=>
 some ((-1),())
def bn (a0:List Bys) (a1:Bys):Option (Bool×Unit):=
 (jf a0 a1).bind fun r1=>
 some (decide (r1.1>=0),())
abbrev jw:Type:=(List cx)×(List cx)×Int×Int×(List Bys)×Int×Int×Int×Int×Int×(List Bys)×Unit
abbrev jv:Type:=(((Int×Unit) ⊕ Unit) ⊕ ((List cx)×(List cx)×Int×Int×Unit))
def sP (x1:jw) (again:jw->Option jv):Option jv:=
 match x1 with
 | (A,B,C,D,E,F,G,H,I,J,K,_)=>
 bif decide (G<F) then
  (idx E G).bind fun y2=>
  (eN y2).bind fun r3=>
  bif !r3.1 then
   BK <|
    some (.inl (5,()))
  else
   chk (decide (0<=(0:Int))&&decide ((0:Int)<=G)&&decide (G<=(K.length:Int))) <|
   (bn (List.drop 0 (List.take (Int.toNat G) K)) y2).bind fun r4=>
   bif r4.1 then
    BK <|
     some (.inl (7,()))
   else
    again (A,B,C,D,E,F,w64 (G+1),H,I,J,K,())
 else
  some (.inr (A,B,C,D,()))
abbrev ny:Type:=(List cx)×(List cx)×Int×Int×Unit
abbrev nx:Type:=((Int×Unit) ⊕ Unit)
def Ce (x1:ny) (again:ny->Option nx):Option nx:=
 match x1 with
 | (A,B,C,D,_)=>
 bif decide (D<C) then
  (idx B D).bind fun y2=>
  (uM y2.1).bind fun r3=>
  bif !r3.1 then
   some (.inl (1,()))
  else
   bif decide (D>0) then
    (idx A (w64 (D - 1))).bind fun y4=>
    bif decide (y2.1<y4.1) then
     some (.inl (8,()))
    else
     (l9 y2.2.1).bind fun r5=>
     bif r5.1 != 0 then
      some (.inl (r5.1,()))
     else
      bif decide (((y2.2.2.length:Int))>100) then
       some (.inl (2,()))
      else
       aR (
        iter (X:=jw) (β:=jv) (A.length+(B.length+(C.natAbs+(D.natAbs+(y2.2.2.length+(Int.natAbs ((y2.2.2.length:Int))+(Int.natAbs (0:Int)+(y2.1.natAbs+(y2.2.1.1.natAbs+(y2.2.1.2.natAbs+(y2.2.2.length+2))))))))))) (A,B,C,D,y2.2.2,(y2.2.2.length:Int),0,y2.1,y2.2.1.1,y2.2.1.2,y2.2.2,()) (sP)) fun (E,F,G,H,_)=>
       again (E,F,G,w64 (H+1),())
   else
    (l9 y2.2.1).bind fun r7=>
    bif r7.1 != 0 then
     some (.inl (r7.1,()))
    else
     bif decide (((y2.2.2.length:Int))>100) then
      some (.inl (2,()))
     else
      aR (
       iter (X:=jw) (β:=jv) (A.length+(B.length+(C.natAbs+(D.natAbs+(y2.2.2.length+(Int.natAbs ((y2.2.2.length:Int))+(Int.natAbs (0:Int)+(y2.1.natAbs+(y2.2.1.1.natAbs+(y2.2.1.2.natAbs+(y2.2.2.length+2))))))))))) (A,B,C,D,y2.2.2,(y2.2.2.length:Int),0,y2.1,y2.2.1.1,y2.2.1.2,y2.2.2,()) (sP)) fun (I,J,K,L,_)=>
      again (I,J,K,w64 (L+1),())
 else
  some (.inr ())
def xV (a0:List cx):Option (Int×Unit):=
 bif decide (((a0.length:Int))>500) then
  some (2,())
 else
  aR (
   iter (X:=ny) (β:=nx) (a0.length+(a0.length+(Int.natAbs ((a0.length:Int))+(Int.natAbs (0:Int)+2)))) (a0,a0,(a0.length:Int),0,()) (Ce)) fun _=>
  some (0,())
def Cf (a0:List cM) (a1:List cx):Option (Int×Unit):=
 (AX a0).bind fun r1=>
 bif r1.1 != 0 then
  some (r1.1,())
 else
  (xV a1).bind fun r2=>
  some (r2.1,())
def De (a0:ah):Option (Int×Unit):=
 (rF (w64 (4 - a0.2))).bind fun r1=>
 some (w64 (a0.1*r1.1),())
def so (a0:List (Option Nat)):Option ((List (Option Nat))×Unit):=
 bif List.isEmpty a0 then
  both (
   some ([],())) (
   chk (decide ((0+(a0.length))*8<=140737488355328)&&decide (0+(a0.length)<=maxLen)) <|
   some (a0,()))
 else
  chk (decide ((0+(a0.length))*8<=140737488355328)&&decide (0+(a0.length)<=maxLen)) <|
  some (a0,())
def wB (a0:Option Nat) (a1:List aq):Option (Int×Unit):=
 (a0).bind fun h1=>
 (a1[h1]?).bind fun y2=>
 (a0).bind fun h3=>
 (a1[h3]?).bind fun y4=>
 some (w64 (y2.1.2.1+y4.1.2.2.2.1),())
def mc (a0:Option Nat) (a1:Option Nat) (a2:List aq):Option (Int×Unit):=
 (wB a0 a2).bind fun r1=>
 (wB a1 a2).bind fun r2=>
 some (w64 (r1.1 - r2.1),())
abbrev eL:Type:=Int×Int×Unit×Int×Int×(List (Option Nat))×(List aq)×Unit
abbrev eJ:Type:=((((List (Option Nat))×Unit) ⊕ ((List (Option Nat))×(List aq)×Unit)) ⊕ (Int×Int×Unit×Int×(List (Option Nat))×(List aq)×Unit))
def nY (x1:eL) (again:eL->Option eJ):Option eJ:=
 match x1 with
 | (A,B,C,D,E,F,G,_)=>
 bif decide (E>A) then
  chk (decide (0<=E)&&decide (E<(F.length:Int))) <|
  (F[E.toNat]?).bind fun y2=>
  chk (decide (0<=(w64 (E - 1)))&&decide ((w64 (E - 1))<(F.length:Int))) <|
  (F[(w64 (E - 1)).toNat]?).bind fun y3=>
  (mc y2 y3 G).bind fun r4=>
  bif decide (r4.1<0) then
   chk (decide (0<=(w64 (E - 1)))&&decide ((w64 (E - 1))<(F.length:Int))) <|
   (F[(w64 (E - 1)).toNat]?).bind fun y5=>
   chk (decide (0<=E)&&decide (E<(F.length:Int))) <|
   (F[E.toNat]?).bind fun y6=>
   chk (decide (0<=E)&&decide (E<(F.length:Int))) <|
   (F[E.toNat]?).bind fun _=>
   chk (decide (0<=(w64 (E - 1)))&&decide ((w64 (E - 1))<(List.length (List.set F E.toNat y5):Int))) <|
   ((List.set F E.toNat y5)[(w64 (E - 1)).toNat]?).bind fun _=>
   again (A,B,C,D,w64 (E - 1),List.set (List.set F E.toNat y5) (w64 (E - 1)).toNat y6,G,())
  else
   some (.inr (A,B,C,D,F,G,()))
 else
  some (.inr (A,B,C,D,F,G,()))
abbrev eK:Type:=Int×Int×Unit×Int×(List (Option Nat))×(List aq)×Unit
abbrev eH:Type:=(((List (Option Nat))×Unit) ⊕ ((List (Option Nat))×(List aq)×Unit))
def nX (x1:eK) (again:eK->Option eH):Option eH:=
 match x1 with
 | (A,B,C,D,E,F,_)=>
 bif decide (D<B) then
  aR (
   iter (X:=eL) (β:=eJ) (A.natAbs+(B.natAbs+(D.natAbs+(D.natAbs+(E.length+2))))) (A,B,C,D,D,E,F,()) (nY)) fun (G,H,I,J,K,L,_)=>
  again (G,H,I,w64 (J+1),K,L,())
 else
  some (.inr (E,F,()))
def fh (a0:List (Option Nat)) (a1:Int) (a2:Int) (a3:Unit) (a4:List aq):Option ((List (Option Nat))×Unit):=
 aR (
  iter (X:=eK) (β:=eH) (a1.natAbs+(a2.natAbs+(Int.natAbs (w64 (a1+1))+(a0.length+2)))) (a1,a2,a3,w64 (a1+1),a0,a4,()) (nX)) fun v11=>
 some (v11.1,())
abbrev fB:Type:=Int×Int×Int×Int×(List (Option Nat))×(List aq)×Unit
abbrev fA:Type:=(((List (Option Nat))×Unit) ⊕ ((List (Option Nat))×(List aq)×Unit))
def qc (x1:fB) (again:fB->Option fA):Option fA:=
 match x1 with
 | (A,B,C,D,E,F,_)=>
 bif decide (D<C) then
  chk (decide (0<=(w64 (B+D)))&&decide ((w64 (B+D))<(E.length:Int))) <|
  (E[(w64 (B+D)).toNat]?).bind fun y2=>
  chk (decide (0<=(w64 (A+D)))&&decide ((w64 (A+D))<(E.length:Int))) <|
  (E[(w64 (A+D)).toNat]?).bind fun y3=>
  chk (decide (0<=(w64 (A+D)))&&decide ((w64 (A+D))<(E.length:Int))) <|
  (E[(w64 (A+D)).toNat]?).bind fun _=>
  chk (decide (0<=(w64 (B+D)))&&decide ((w64 (B+D))<(List.length (List.set E (w64 (A+D)).toNat y2):Int))) <|
  ((List.set E (w64 (A+D)).toNat y2)[(w64 (B+D)).toNat]?).bind fun _=>
  again (A,B,C,w64 (D+1),List.set (List.set E (w64 (A+D)).toNat y2) (w64 (B+D)).toNat y3,F,())
 else
  some (.inr (E,F,()))
def eo (a0:List (Option Nat)) (a1:Int) (a2:Int) (a3:Int) (_a4:Unit) (a5:List aq):Option ((List (Option Nat))×Unit):=
 aR (
  iter (X:=fB) (β:=fA) (a1.natAbs+(a2.natAbs+(a3.natAbs+(Int.natAbs (0:Int)+(a0.length+2))))) (a1,a2,a3,0,a0,a5,()) (qc)) fun v6=>
 some (v6.1,())
abbrev gm:Type:=Int×Unit×Int×Int×(List (Option Nat))×(List aq)×Unit
abbrev gk:Type:=(((List (Option Nat))×Unit) ⊕ (Int×Unit×Int×(List (Option Nat))×(List aq)×Unit))
def sI (x1:gm) (again:gm->Option gk):Option gk:=
 match x1 with
 | (A,B,C,D,E,F,_)=>
 bif C != D then
  bif decide (C>D) then
   (eo E (w64 (A - C)) A D B F).bind fun r2=>
   again (A,B,w64 (C - D),D,r2.1,F,())
  else
   (eo E (w64 (A - C)) (w64 ((w64 (A+D)) - C)) C B F).bind fun r3=>
   again (A,B,C,w64 (D - C),r3.1,F,())
 else
  some (.inr (A,B,C,E,F,()))
def lI (a0:List (Option Nat)) (a1:Int) (a2:Int) (a3:Int) (a4:Unit) (a5:List aq):Option ((List (Option Nat))×Unit):=
 aR (
  iter (X:=gm) (β:=gk) (a2.natAbs+(Int.natAbs (w64 (a2 - a1))+(Int.natAbs (w64 (a3 - a2))+(a0.length+2)))) (a2,a4,w64 (a2 - a1),w64 (a3 - a2),a0,a5,()) (sI)) fun (A,B,C,D,E,_)=>
 (eo D (w64 (A - C)) A C B E).bind fun r5=>
 some (r5.1,())
abbrev fO:Type:=Int×Unit×Int×Int×(List (Option Nat))×(List aq)×Unit
abbrev fM:Type:=(((List (Option Nat))×Unit) ⊕ (Int×Int×(List (Option Nat))×(List aq)×Unit))
def qO (x1:fO) (again:fO->Option fM):Option fM:=
 match x1 with
 | (A,B,C,D,E,F,_)=>
 bif decide (C<D) then
  let n2:Int:=w64 (Int.fdiv (bU (w64 (C+D))) (2 ^ 1))
  chk (decide (0<=n2)&&decide (n2<(E.length:Int))) <|
  (E[n2.toNat]?).bind fun y3=>
  chk (decide (0<=A)&&decide (A<(E.length:Int))) <|
  (E[A.toNat]?).bind fun y4=>
  (mc y3 y4 F).bind fun r5=>
  bif decide (r5.1<0) then
   again (A,B,w64 (n2+1),D,E,F,())
  else
   again (A,B,C,n2,E,F,())
 else
  some (.inr (A,C,E,F,()))
abbrev fP:Type:=Int×Int×(List (Option Nat))×(List aq)×Unit
abbrev fN:Type:=(((List (Option Nat))×Unit) ⊕ ((List (Option Nat))×(List aq)×Unit))
def qP (x1:fP) (again:fP->Option fN):Option fN:=
 match x1 with
 | (A,B,C,D,_)=>
 bif decide (B<(w64 (A - 1))) then
  chk (decide (0<=(w64 (B+1)))&&decide ((w64 (B+1))<(C.length:Int))) <|
  (C[(w64 (B+1)).toNat]?).bind fun y2=>
  chk (decide (0<=B)&&decide (B<(C.length:Int))) <|
  (C[B.toNat]?).bind fun y3=>
  chk (decide (0<=B)&&decide (B<(C.length:Int))) <|
  (C[B.toNat]?).bind fun _=>
  chk (decide (0<=(w64 (B+1)))&&decide ((w64 (B+1))<(List.length (List.set C B.toNat y2):Int))) <|
  ((List.set C B.toNat y2)[(w64 (B+1)).toNat]?).bind fun _=>
  again (A,w64 (B+1),List.set (List.set C B.toNat y2) (w64 (B+1)).toNat y3,D,())
 else
  some (.inr (C,D,()))
abbrev fF:Type:=Int×Unit×Int×Int×(List (Option Nat))×(List aq)×Unit
abbrev fC:Type:=(((List (Option Nat))×Unit) ⊕ (Int×Int×(List (Option Nat))×(List aq)×Unit))
def qd (x1:fF) (again:fF->Option fC):Option fC:=
 match x1 with
 | (A,B,C,D,E,F,_)=>
 bif decide (C<D) then
  let n2:Int:=w64 (Int.fdiv (bU (w64 (C+D))) (2 ^ 1))
  chk (decide (0<=A)&&decide (A<(E.length:Int))) <|
  (E[A.toNat]?).bind fun y3=>
  chk (decide (0<=n2)&&decide (n2<(E.length:Int))) <|
  (E[n2.toNat]?).bind fun y4=>
  (mc y3 y4 F).bind fun r5=>
  bif !(decide (r5.1<0)) then
   again (A,B,w64 (n2+1),D,E,F,())
  else
   again (A,B,C,n2,E,F,())
 else
  some (.inr (A,C,E,F,()))
abbrev fG:Type:=Int×Int×(List (Option Nat))×(List aq)×Unit
abbrev fD:Type:=(((List (Option Nat))×Unit) ⊕ ((List (Option Nat))×(List aq)×Unit))
def qg (x1:fG) (again:fG->Option fD):Option fD:=
 match x1 with
 | (A,B,C,D,_)=>
 bif decide (B>A) then
  chk (decide (0<=(w64 (B - 1)))&&decide ((w64 (B - 1))<(C.length:Int))) <|
  (C[(w64 (B - 1)).toNat]?).bind fun y2=>
  chk (decide (0<=B)&&decide (B<(C.length:Int))) <|
  (C[B.toNat]?).bind fun y3=>
  chk (decide (0<=B)&&decide (B<(C.length:Int))) <|
  (C[B.toNat]?).bind fun _=>
  chk (decide (0<=(w64 (B - 1)))&&decide ((w64 (B - 1))<(List.length (List.set C B.toNat y2):Int))) <|
  ((List.set C B.toNat y2)[(w64 (B - 1)).toNat]?).bind fun _=>
  again (A,w64 (B - 1),List.set (List.set C B.toNat y2) (w64 (B - 1)).toNat y3,D,())
 else
  some (.inr (C,D,()))
abbrev fH:Type:=Int×Int×Int×Unit×Int×Int×Int×Int×Int×(List (Option Nat))×(List aq)×Unit
abbrev fE:Type:=(((List (Option Nat))×Unit) ⊕ (Int×Int×Int×Unit×Int×Int×Int×(List (Option Nat))×(List aq)×Unit))
def qh (x1:fH) (again:fH->Option fE):Option fE:=
 match x1 with
 | (A,B,C,D,E,F,G,H,I,J,K,_)=>
 bif decide (G<H) then
  let n2:Int:=w64 (Int.fdiv (bU (w64 (G+H))) (2 ^ 1))
  chk (decide (0<=(w64 (I - n2)))&&decide ((w64 (I - n2))<(J.length:Int))) <|
  (J[(w64 (I - n2)).toNat]?).bind fun y3=>
  chk (decide (0<=n2)&&decide (n2<(J.length:Int))) <|
  (J[n2.toNat]?).bind fun y4=>
  (mc y3 y4 K).bind fun r5=>
  bif !(decide (r5.1<0)) then
   again (A,B,C,D,E,F,w64 (n2+1),H,I,J,K,())
  else
   again (A,B,C,D,E,F,G,n2,I,J,K,())
 else
  some (.inr (A,B,C,D,E,F,G,J,K,()))
def di (self:((List (Option Nat))×Int×Int×Int×Unit×(List aq)×Unit)->Option ((List (Option Nat))×Unit)) (a0:List (Option Nat)) (a1:Int) (a2:Int) (a3:Int) (a4:Unit) (a5:List aq):Option ((List (Option Nat))×Unit):=
 bif (w64 (a2 - a1))==1 then
  aR (
   iter (X:=fO) (β:=fM) (a1.natAbs+(a2.natAbs+(a3.natAbs+(a0.length+2)))) (a1,a4,a2,a3,a0,a5,()) (qO)) fun (A,B,C,D,_)=>
  aR (
   iter (X:=fP) (β:=fN) (B.natAbs+(A.natAbs+(C.length+2))) (B,A,C,D,()) (qP)) fun v12=>
  some (v12.1,())
 else
  bif (w64 (a3 - a2))==1 then
   aR (
    iter (X:=fF) (β:=fC) (a2.natAbs+(a1.natAbs+(a2.natAbs+(a0.length+2)))) (a2,a4,a1,a2,a0,a5,()) (qd)) fun (F,G,H,I,_)=>
   aR (
    iter (X:=fG) (β:=fD) (G.natAbs+(F.natAbs+(H.length+2))) (G,F,H,I,()) (qg)) fun v24=>
   some (v24.1,())
  else
   let n25:Int:=w64 (Int.fdiv (bU (w64 (a1+a3))) (2 ^ 1))
   aR (γ:=(Int×Int×Int×Unit×Int×Int×Int×Int×(List (Option Nat))×(List aq)×Unit)) (
    bif decide (a2>n25) then
     some (.inr (a1,a2,a3,a4,n25,w64 (n25+a2),w64 ((w64 (n25+a2)) - a3),n25,a0,a5,()))
    else
     some (.inr (a1,a2,a3,a4,n25,w64 (n25+a2),a1,a2,a0,a5,()))) fun (K,L,M,N,O,P,Q,R,S,T,_)=>
   aR (
    iter (X:=fH) (β:=fE) (K.natAbs+(L.natAbs+(M.natAbs+(O.natAbs+(P.natAbs+(Q.natAbs+(R.natAbs+(Int.natAbs (w64 (P - 1))+(S.length+2))))))))) (K,L,M,N,O,P,Q,R,w64 (P - 1),S,T,()) (qh)) fun (U,V,W,Y,Z,A0,B0,C0,D0,_)=>
   bif decide (B0<V) then
    aR (γ:=(Int×Int×Unit×Int×Int×Int×(List (Option Nat))×(List aq)×Unit)) (
     bif decide (V<(w64 (A0 - B0))) then
      (lI C0 B0 V (w64 (A0 - B0)) Y D0).bind fun r33=>
      some (.inr (U,W,Y,Z,B0,w64 (A0 - B0),r33.1,D0,()))
     else
      some (.inr (U,W,Y,Z,B0,w64 (A0 - B0),C0,D0,()))) fun (E0,F0,G0,H0,I0,J0,K0,L0,_)=>
    bif decide (E0<I0) then
     aR (γ:=(Int×Unit×Int×Int×(List (Option Nat))×(List aq)×Unit)) (
      bif decide (I0<H0) then
       (self (K0,E0,I0,H0,G0,L0,())).bind fun r35=>
       some (.inr (F0,G0,H0,J0,r35.1,L0,()))
      else
       some (.inr (F0,G0,H0,J0,K0,L0,()))) fun (M0,N0,O0,P0,Q0,R0,_)=>
     bif decide (O0<P0) then
      bif decide (P0<M0) then
       (self (Q0,O0,P0,M0,N0,R0,())).bind fun r37=>
       some (r37.1,())
      else
       some (Q0,())
     else
      some (Q0,())
    else
     bif decide (H0<J0) then
      bif decide (J0<F0) then
       (self (K0,H0,J0,F0,G0,L0,())).bind fun r38=>
       some (r38.1,())
      else
       some (K0,())
     else
      some (K0,())
   else
    bif decide (U<B0) then
     aR (γ:=(Int×Unit×Int×Int×(List (Option Nat))×(List aq)×Unit)) (
      bif decide (B0<Z) then
       (self (C0,U,B0,Z,Y,D0,())).bind fun r39=>
       some (.inr (W,Y,Z,w64 (A0 - B0),r39.1,D0,()))
      else
       some (.inr (W,Y,Z,w64 (A0 - B0),C0,D0,()))) fun (S0,T0,U0,V0,W0,X0,_)=>
     bif decide (U0<V0) then
      bif decide (V0<S0) then
       (self (W0,U0,V0,S0,T0,X0,())).bind fun r41=>
       some (r41.1,())
      else
       some (W0,())
     else
      some (W0,())
    else
     bif decide (Z<(w64 (A0 - B0))) then
      bif decide ((w64 (A0 - B0))<W) then
       (self (C0,Z,w64 (A0 - B0),W,Y,D0,())).bind fun r42=>
       some (r42.1,())
      else
       some (C0,())
     else
      some (C0,())
def jg (a0:List (Option Nat)) (a1:Int) (a2:Int) (a3:Int) (_a4:Unit) (_a5:List aq):Nat:=a0.length+(a1.natAbs+(a2.natAbs+(a3.natAbs+2)))
def gL (a0:List (Option Nat)) (a1:Int) (a2:Int) (a3:Int) (a4:Unit) (a5:List aq):Option ((List (Option Nat))×Unit):=
 GF (fun self x=>di self x.1 x.2.1 x.2.2.1 x.2.2.2.1 x.2.2.2.2.1 x.2.2.2.2.2.1) (jg a0 a1 a2 a3 a4 a5) (a0,a1,a2,a3,a4,a5,())
abbrev gv:Type:=Int×Unit×Int×Int×Int×(List (Option Nat))×(List aq)×Unit
abbrev gp:Type:=(((List (Option Nat))×Unit) ⊕ (Int×Unit×Int×Int×(List (Option Nat))×(List aq)×Unit))
def sJ (x1:gv) (again:gv->Option gp):Option gp:=
 match x1 with
 | (A,B,C,D,E,F,G,_)=>
 bif decide (E<=A) then
  (fh F D E B G).bind fun r2=>
  again (A,B,C,E,w64 (E+C),r2.1,G,())
 else
  some (.inr (A,B,C,D,F,G,()))
abbrev gx:Type:=Int×Unit×Int×Int×Int×(List (Option Nat))×(List aq)×Unit
abbrev gu:Type:=((((List (Option Nat))×Unit) ⊕ ((List (Option Nat))×(List aq)×Unit)) ⊕ (Int×Unit×Int×Int×(List (Option Nat))×(List aq)×Unit))
def sL (x1:gx) (again:gx->Option gu):Option gu:=
 match x1 with
 | (A,B,C,D,E,F,G,_)=>
 bif decide (E<=A) then
  (gL F D (w64 (D+C)) E B G).bind fun r2=>
  again (A,B,C,E,w64 (E+(w64 (2*C))),r2.1,G,())
 else
  some (.inr (A,B,C,D,F,G,()))
abbrev gw:Type:=Int×Unit×Int×(List (Option Nat))×(List aq)×Unit
abbrev gq:Type:=(((List (Option Nat))×Unit) ⊕ ((List (Option Nat))×(List aq)×Unit))
def sK (x1:gw) (again:gw->Option gq):Option gq:=
 match x1 with
 | (A,B,C,D,E,_)=>
 bif decide (C<A) then
  aR (
   iter (X:=gx) (β:=gu) (A.natAbs+(C.natAbs+(Int.natAbs (0:Int)+(Int.natAbs (w64 (2*C))+(D.length+2))))) (A,B,C,0,w64 (2*C),D,E,()) (sL)) fun (F,G,H,I,J,K,_)=>
  bif decide ((w64 (I+H))<F) then
   (gL J I (w64 (I+H)) F G K).bind fun r3=>
   again (F,G,w64 (H*2),r3.1,K,())
  else
   again (F,G,w64 (H*2),J,K,())
 else
  some (.inr (D,E,()))
def lJ (a0:List (Option Nat)) (a1:Int) (a2:Unit) (a3:List aq):Option ((List (Option Nat))×Unit):=
 aR (
  iter (X:=gv) (β:=gp) (a1.natAbs+(Int.natAbs (20:Int)+(Int.natAbs (0:Int)+(Int.natAbs (20:Int)+(a0.length+2))))) (a1,a2,20,0,20,a0,a3,()) (sJ)) fun (A,B,C,D,E,F,_)=>
 (fh E D A B F).bind fun r4=>
 aR (
  iter (X:=gw) (β:=gq) (A.natAbs+(C.natAbs+(r4.1.length+2))) (A,B,C,r4.1,F,()) (sK)) fun v10=>
 some (v10.1,())
def lA (a0:List (Option Nat)) (a1:Unit) (a2:List aq):Option ((List (Option Nat))×Unit):=
 (lJ a0 ((a0.length:Int)) a1 a2).bind fun r1=>
 some (r1.1,())
def vg (a0:Option Nat) (a1:Int) (a2:List aq):Option (Bool×Unit):=
 (a0).bind fun h1=>
 (a2[h1]?).bind fun y2=>
 bif decide (y2.1.2.1<=a1) then
  (a0).bind fun h3=>
  (a2[h3]?).bind fun y4=>
  some (y4.2.2.2.2==0,())
 else
  some (false,())
def xW (a0:Option Nat) (a1:List aq):Option (Int×Unit):=
 (a0).bind fun h1=>
 (a1[h1]?).bind fun y2=>
 (a0).bind fun h3=>
 (a1[h3]?).bind fun y4=>
 (a0).bind fun h5=>
 (a1[h5]?).bind fun y6=>
 (rF (w64 (4 - y6.1.2.2.1.2))).bind fun r7=>
 let n8:Int:=w64 ((w64 (Int.tdiv (w64 (y2.1.2.2.1.1*y4.1.2.2.2.2.2)) 1000))*r7.1)
 (a0).bind fun h9=>
 (a1[h9]?).bind fun y10=>
 some (if y10.2.1<n8 then y10.2.1 else n8,())
def tD (a0:Option Nat) (a1:Int) (a2:Int) (a3:List aq):Option (Int×(List aq)×Unit):=
 (a0).bind fun h1=>
 (a3[h1]?).bind fun y2=>
 (a0).bind fun h3=>
 (a3[h3]?).bind fun y4=>
 (a0).bind fun h5=>
 (a3[h5]?).bind fun y6=>
 (a0).bind fun h7=>
 (a3[h7]?).bind fun y8=>
 (a0).bind fun h9=>
 ((List.set a3 h7 (y8.1,y8.2.1,w64 (y4.2.2.1+(if y2.2.1<a1 then y2.2.1 else a1)),y8.2.2.2))[h9]?).bind fun y10=>
 (a0).bind fun h11=>
 ((List.set (List.set a3 h7 (y8.1,y8.2.1,w64 (y4.2.2.1+(if y2.2.1<a1 then y2.2.1 else a1)),y8.2.2.2)) h9 (y10.1,w64 (y6.2.1 - (if y2.2.1<a1 then y2.2.1 else a1)),y10.2.2))[h11]?).bind fun y12=>
 bif y12.2.1==0 then
  (a0).bind fun h13=>
  ((List.set (List.set a3 h7 (y8.1,y8.2.1,w64 (y4.2.2.1+(if y2.2.1<a1 then y2.2.1 else a1)),y8.2.2.2)) h9 (y10.1,w64 (y6.2.1 - (if y2.2.1<a1 then y2.2.1 else a1)),y10.2.2))[h13]?).bind fun y14=>
  some (w64 (a1 - (if y2.2.1<a1 then y2.2.1 else a1)),List.set (List.set (List.set a3 h7 (y8.1,y8.2.1,w64 (y4.2.2.1+(if y2.2.1<a1 then y2.2.1 else a1)),y8.2.2.2)) h9 (y10.1,w64 (y6.2.1 - (if y2.2.1<a1 then y2.2.1 else a1)),y10.2.2)) h13 (y14.1,y14.2.1,y14.2.2.1,y14.2.2.2.1,a2),())
 else
  some (w64 (a1 - (if y2.2.1<a1 then y2.2.1 else a1)),List.set (List.set a3 h7 (y8.1,y8.2.1,w64 (y4.2.2.1+(if y2.2.1<a1 then y2.2.1 else a1)),y8.2.2.2)) h9 (y10.1,w64 (y6.2.1 - (if y2.2.1<a1 then y2.2.1 else a1)),y10.2.2),())
def AY (a0:Option Nat) (a1:Int) (a2:Int) (a3:List aq):Option (Int×(List aq)×Unit):=
 (xW a0 a3).bind fun r1=>
 (a0).bind fun h2=>
 (a3[h2]?).bind fun y3=>
 bif decide ((w64 (y3.2.1 - r1.1))>a1) then
  (tD a0 a1 a2 a3).bind fun r4=>
  some (r4.1,r4.2.1,())
 else
  (a0).bind fun h5=>
  (a3[h5]?).bind fun y6=>
  (a0).bind fun h7=>
  (a3[h7]?).bind fun y8=>
  bif decide (a2>(w64 (y6.1.2.1+y8.1.2.2.2.2.1))) then
   (tD a0 a1 a2 a3).bind fun r9=>
   some (r9.1,r9.2.1,())
  else
   (a0).bind fun h10=>
   (a3[h10]?).bind fun y11=>
   (a0).bind fun h12=>
   (a3[h12]?).bind fun y13=>
   (a0).bind fun h14=>
   (a3[h14]?).bind fun y15=>
   (a0).bind fun h16=>
   ((List.set a3 h14 (y15.1,y15.2.1,w64 (y13.2.2.1+(w64 (y11.2.1 - r1.1))),y15.2.2.2))[h16]?).bind fun y17=>
   (a0).bind fun h18=>
   ((List.set (List.set a3 h14 (y15.1,y15.2.1,w64 (y13.2.2.1+(w64 (y11.2.1 - r1.1))),y15.2.2.2)) h16 (y17.1,y17.2.1,y17.2.2.1,r1.1,y17.2.2.2.2))[h18]?).bind fun y19=>
   (a0).bind fun h20=>
   ((List.set (List.set (List.set a3 h14 (y15.1,y15.2.1,w64 (y13.2.2.1+(w64 (y11.2.1 - r1.1))),y15.2.2.2)) h16 (y17.1,y17.2.1,y17.2.2.1,r1.1,y17.2.2.2.2)) h18 (y19.1,0,y19.2.2))[h20]?).bind fun y21=>
   some (w64 (a1 - (w64 (y11.2.1 - r1.1))),List.set (List.set (List.set (List.set a3 h14 (y15.1,y15.2.1,w64 (y13.2.2.1+(w64 (y11.2.1 - r1.1))),y15.2.2.2)) h16 (y17.1,y17.2.1,y17.2.2.1,r1.1,y17.2.2.2.2)) h18 (y19.1,0,y19.2.2)) h20 (y21.1,y21.2.1,y21.2.2.1,y21.2.2.2.1,a2),())
abbrev uh:Type:=(List cx)×Int×(List (Option Nat))×(List cM)×Int×Int×(List (Bys×(Option Nat)))×(List aq)×Unit
abbrev ug:Type:=(((List (Option Nat))×(List Int)×(List aq)×Unit) ⊕ ((List cx)×Int×(List (Option Nat))×(List (Bys×(Option Nat)))×(List aq)×Unit))
def Ja (x1:uh) (again:uh->Option ug):Option ug:=
 match x1 with
 | (A,B,C,D,E,F,G,H,_)=>
 bif decide (F<E) then
  (idx D F).bind fun y2=>
  (De y2.2.2.1).bind fun r3=>
  chk (decide (((C.length)+1)*8<=140737488355328)&&decide ((C.length)+1<=maxLen)) <|
  again (A,B,C++[(some (H.length))],D,E,w64 (F+1),vB (k:= .str) (v:= .hnd) G y2.1 (some (H.length)),H++[(y2,r3.1,0,0,0)],())
 else
  some (.inr (A,B,C,G,H,()))
abbrev sB:Type:=Int×(List (Option Nat))×(List Int)×Int×(List cx)×Int×Int×(List Bys)×Int×Int×Int×Int×Int×(List Bys)×(List (Option Nat))×(List (Bys×(Option Nat)))×(List aq)×Unit
abbrev su:Type:=((((List (Option Nat))×(List Int)×(List aq)×Unit) ⊕ ((List (Option Nat))×(List Int)×(List aq)×Unit)) ⊕ (Int×(List (Option Nat))×(List Int)×Int×(List cx)×Int×Int×Int×Int×Int×(List Bys)×(List (Option Nat))×(List (Bys×(Option Nat)))×(List aq)×Unit))
def HU (x1:sB) (again:sB->Option su):Option su:=
 match x1 with
 | (A,B,C,D,E,F,G,H,I,J,K,L,M,N,O,P,Q,_)=>
 bif decide (J<I) then
  (idx H J).bind fun y2=>
  bif !(Option.isNone (Option.getD (jF (k:= .str) (v:= .hnd) P y2) none)) then
   (vg (Option.getD (jF (k:= .str) (v:= .hnd) P y2) none) K Q).bind fun r3=>
   bif r3.1 then
    (AY (Option.getD (jF (k:= .str) (v:= .hnd) P y2) none) D K Q).bind fun r4=>
    again (A,B,C,r4.1,E,F,G,H,I,w64 (J+1),K,L,M,N,O,P,r4.2.1,())
   else
    again (A,B,C,D,E,F,G,H,I,w64 (J+1),K,L,M,N,O,P,Q,())
  else
   again (A,B,C,D,E,F,G,H,I,w64 (J+1),K,L,M,N,O,P,Q,())
 else
  some (.inr (A,B,C,D,E,F,G,K,L,M,N,O,P,Q,()))
abbrev sC:Type:=Int×(List (Option Nat))×(List Int)×Int×(List cx)×Int×Int×Int×Int×Int×Int×Int×(List Bys)×(List (Option Nat))×(List (Bys×(Option Nat)))×(List aq)×Unit
abbrev sw:Type:=((((List (Option Nat))×(List Int)×(List aq)×Unit) ⊕ ((List (Option Nat))×(List Int)×(List aq)×Unit)) ⊕ (Int×(List (Option Nat))×(List Int)×Int×(List cx)×Int×Int×(List (Option Nat))×(List (Bys×(Option Nat)))×(List aq)×Unit))
def HY (x1:sC) (again:sC->Option sw):Option sw:=
 match x1 with
 | (A,B,C,D,E,F,G,H,I,J,K,L,M,N,O,P,_)=>
 bif decide (I<H) then
  chk (decide (0<=I)&&decide (I<(N.length:Int))) <|
  (N[I.toNat]?).bind fun y2=>
  bif decide (D>0) then
   (vg y2 J P).bind fun r3=>
   bif r3.1 then
    (tD y2 D J P).bind fun r4=>
    again (A,B,C,r4.1,E,F,G,H,w64 (I+1),J,K,L,M,N,O,r4.2.1,())
   else
    again (A,B,C,D,E,F,G,H,w64 (I+1),J,K,L,M,N,O,P,())
  else
   again (A,B,C,D,E,F,G,H,w64 (I+1),J,K,L,M,N,O,P,())
 else
  some (.inr (A,B,C,D,E,F,G,N,O,P,()))
abbrev sA:Type:=Int×(List (Option Nat))×(List Int)×(List cx)×Int×Int×(List (Option Nat))×(List (Bys×(Option Nat)))×(List aq)×Unit
abbrev sr:Type:=(((List (Option Nat))×(List Int)×(List aq)×Unit) ⊕ ((List (Option Nat))×(List Int)×(List aq)×Unit))
def HT (x1:sA) (again:sA->Option sr):Option sr:=
 match x1 with
 | (A,B,C,D,E,F,G,H,I,_)=>
 bif decide (F<E) then
  (idx D F).bind fun y2=>
  bif decide (y2.1>A) then
   some (.inr (B,C,I,()))
  else
   (De y2.2.1).bind fun r3=>
   aR (
    iter (X:=sB) (β:=su) (A.natAbs+(B.length+(C.length+(r3.1.natAbs+(D.length+(E.natAbs+(F.natAbs+(y2.2.2.length+(Int.natAbs ((y2.2.2.length:Int))+(Int.natAbs (0:Int)+(y2.1.natAbs+(y2.2.1.1.natAbs+(y2.2.1.2.natAbs+(y2.2.2.length+(G.length+(H.length+(I.length+2))))))))))))))))) (A,B,C,r3.1,D,E,F,y2.2.2,(y2.2.2.length:Int),0,y2.1,y2.2.1.1,y2.2.1.2,y2.2.2,G,H,I,()) (HU)) fun (J,K,L,M,N,O,P,Q,R,S,T,U,V,W,_)=>
   aR (
    iter (X:=sC) (β:=sw) (J.natAbs+(K.length+(L.length+(M.natAbs+(N.length+(O.natAbs+(P.natAbs+(Int.natAbs ((U.length:Int))+(Int.natAbs (0:Int)+(Q.natAbs+(R.natAbs+(S.natAbs+(T.length+(U.length+(V.length+(W.length+2)))))))))))))))) (J,K,L,M,N,O,P,(U.length:Int),0,Q,R,S,T,U,V,W,()) (HY)) fun (Y,Z,A0,B0,C0,D0,E0,F0,G0,H0,_)=>
   chk (decide (((A0.length)+1)*8<=140737488355328)&&decide ((A0.length)+1<=maxLen)) <|
   again (Y,Z,A0++[B0],C0,D0,w64 (E0+1),F0,G0,H0,())
 else
  some (.inr (B,C,I,()))
def Ej (a0:List cM) (a1:List cx) (a2:Int) (a3:List aq):Option ((List (Option Nat))×(List Int)×(List aq)×Unit):=
 aR (
  iter (X:=uh) (β:=ug) (a1.length+(a2.natAbs+(List.length ([]:List (Option Nat))+(a0.length+(Int.natAbs ((a0.length:Int))+(Int.natAbs (0:Int)+(List.length ([]:List (Bys×(Option Nat)))+(a3.length+2)))))))) (a1,a2,[],a0,(a0.length:Int),0,[],a3,()) (Ja)) fun (A,B,C,D,E,_)=>
 (so C).bind fun r5=>
 (lA r5.1 () E).bind fun r6=>
 aR (
  iter (X:=sA) (β:=sr) (B.natAbs+(C.length+(List.length ([]:List Int)+(A.length+(Int.natAbs ((A.length:Int))+(Int.natAbs (0:Int)+(r6.1.length+(D.length+(E.length+2))))))))) (B,C,[],A,(A.length:Int),0,r6.1,D,E,()) (HT)) fun (F,G,H,_)=>
 some (F,G,H,())
abbrev lD:Type:=(List Int)×Unit
abbrev uB:Type:=(((List Int)×Unit) ⊕ ((List Int)×Unit))
def uA (x1:lD) (again:lD->Option uB):Option uB:=
 bif decide (((x1.1.length:Int))>0) then
  (idx x1.1 (w64 (((x1.1.length:Int)) - 1))).bind fun y2=>
  bif y2==0 then
   chk (decide (0<=(0:Int))&&decide ((0:Int)<=(w64 (((x1.1.length:Int)) - 1)))&&decide ((w64 (((x1.1.length:Int)) - 1))<=(x1.1.length:Int))) <|
   again (List.drop 0 (List.take (Int.toNat (w64 (((x1.1.length:Int)) - 1))) x1.1),())
  else
   some (.inr (x1.1,()))
 else
  some (.inr (x1.1,()))
def lY (a0:List Int):Option ((List Int)×Unit):=
 aR (
  iter (X:=lD) (β:=uB) (a0.length+2) (a0,()) (uA)) fun v3=>
 some (v3.1,())
def gS (a0:Bool) (a1:List Int):Option (bZ×Unit):=
 (lY a1).bind fun r1=>
 bif a0 then
  some ((decide (((r1.1.length:Int))>0),r1.1),())
 else
  some ((false,r1.1),())
def rq (a0:Int):Option (bZ×Unit):=
 aR (γ:=(Int×Int×Bool×(List Int)×Unit)) (
  bif decide (a0<0) then
   some (.inr (a0,bU (0 - (bU a0)),false,[],()))
  else
   some (.inr (a0,bU a0,false,[],()))) fun v1=>
 (gS (decide (v1.1<0)) [(mY v1.2.1),(mY (Int.fdiv v1.2.1 (2 ^ 32)))]).bind fun r2=>
 some (r2.1,())
abbrev rz:Type:=(List Int)×(List Int)×Int×(List Int)×Int×Int×Unit
abbrev ry:Type:=(((List Int)×Unit) ⊕ ((List Int)×Int×Unit))
def ru (x1:rz) (again:rz->Option ry):Option ry:=
 match x1 with
 | (A,B,C,D,E,F,_)=>
 bif decide (F<E) then
  (idx D F).bind fun y2=>
  aR (γ:=((List Int)×(List Int)×Int×(List Int)×Int×Int×Unit)) (
   bif decide (F<((A.length:Int))) then
    (idx A F).bind fun y3=>
    let n4:Int:=bU ((bU (C+(bU y2)))+(bU y3))
    some (.inr (A,B,n4,D,E,F,()))
   else
    some (.inr (A,B,bU (C+(bU y2)),D,E,F,()))) fun (G,H,I,J,K,L,_)=>
  chk (decide (((H.length)+1)*4<=140737488355328)&&decide ((H.length)+1<=maxLen)) <|
  again (G,H++[(mY I)],Int.fdiv I (2 ^ 32),J,K,w64 (L+1),())
 else
  some (.inr (B,C,()))
def yG (a0:List Int) (a1:List Int):Option ((List Int)×Unit):=
 aR (γ:=((List Int)×(List Int)×Unit)) (
  bif decide (((a0.length:Int))<((a1.length:Int))) then
   some (.inr (a1,a0,()))
  else
   some (.inr (a0,a1,()))) fun (A,B,_)=>
 chk (decide (0<=(0:Int))&&decide ((0:Int)<=(w64 (((A.length:Int))+1)))&&decide ((4:Int)*(w64 (((A.length:Int))+1))<=281474976710656)&&decide ((w64 (((A.length:Int))+1))<=9223372036854775807)) <|
 aR (
  iter (X:=rz) (β:=ry) (B.length+(List.length ([]:List Int)+(Int.natAbs (0:Int)+(A.length+(Int.natAbs ((A.length:Int))+(Int.natAbs (0:Int)+2)))))) (B,[],0,A,(A.length:Int),0,()) (ru)) fun (C,D,_)=>
 chk (decide (((C.length)+1)*4<=140737488355328)&&decide ((C.length)+1<=maxLen)) <|
 some (C++[(mY D)],())
abbrev oT:Type:=(List Int)×(List Int)×Int×Unit
abbrev oS:Type:=((Int×Unit) ⊕ Unit)
def lC (x1:oT) (again:oT->Option oS):Option oS:=
 match x1 with
 | (A,B,C,_)=>
 bif decide (C>=0) then
  (idx A C).bind fun y2=>
  (idx B C).bind fun y3=>
  bif y2 != y3 then
   (idx A C).bind fun y4=>
   (idx B C).bind fun y5=>
   bif decide (y4<y5) then
    some (.inl ((-1),()))
   else
    some (.inl (1,()))
  else
   again (A,B,w64 (C - 1),())
 else
  some (.inr ())
def pz (a0:List Int) (a1:List Int):Option (Int×Unit):=
 bif ((a0.length:Int)) != ((a1.length:Int)) then
  some (w64 (((a0.length:Int)) - ((a1.length:Int))),())
 else
  aR (
   iter (X:=oT) (β:=oS) (a0.length+(a1.length+(Int.natAbs (w64 (((a0.length:Int)) - 1))+2))) (a0,a1,w64 (((a0.length:Int)) - 1),()) (lC)) fun _=>
  some (0,())
abbrev tZ:Type:=(List Int)×(List Int)×Int×(List Int)×Int×Int×Unit
abbrev tY:Type:=(((List Int)×Unit) ⊕ ((List Int)×Unit))
def tX (x1:tZ) (again:tZ->Option tY):Option tY:=
 match x1 with
 | (A,B,C,D,E,F,_)=>
 bif decide (F<E) then
  (idx D F).bind fun y2=>
  aR (γ:=((List Int)×(List Int)×Int×(List Int)×Int×Int×Unit)) (
   bif decide (F<((A.length:Int))) then
    (idx A F).bind fun y3=>
    let n4:Int:=bU ((bU ((bU y2) - C)) - (bU y3))
    some (.inr (A,B,n4,D,E,F,()))
   else
    some (.inr (A,B,bU ((bU y2) - C),D,E,F,()))) fun (G,H,I,J,K,L,_)=>
  chk (decide (((H.length)+1)*4<=140737488355328)&&decide ((H.length)+1<=maxLen)) <|
  again (G,H++[(mY I)],bU (((BitVec.ofInt (IntKind.bits .u64) (Int.fdiv I (2 ^ 32)) &&& BitVec.ofInt (IntKind.bits .u64) 1).toNat:Int)),J,K,w64 (L+1),())
 else
  some (.inr (B,()))
def sj (a0:List Int) (a1:List Int):Option ((List Int)×Unit):=
 chk (decide (0<=(0:Int))&&decide ((0:Int)<=((a0.length:Int)))&&decide ((4:Int)*((a0.length:Int))<=281474976710656)&&decide (((a0.length:Int))<=9223372036854775807)) <|
 aR (
  iter (X:=tZ) (β:=tY) (a1.length+(List.length ([]:List Int)+(Int.natAbs (0:Int)+(a0.length+(Int.natAbs ((a0.length:Int))+(Int.natAbs (0:Int)+2)))))) (a1,[],0,a0,(a0.length:Int),0,()) (tX)) fun v6=>
 (lY v6.1).bind fun r7=>
 some (r7.1,())
abbrev vZ:Type:=(List Int)×Int×Bool×(List Int)×Bool×(List Int)×Bool×(List Int)×Bool×(List Int)×(List Int)×Unit
abbrev vY:Type:=((bZ×bZ×Unit) ⊕ ((List Int)×Bool×(List Int)×Bool×(List Int)×(List Int)×Unit))
def LJ (x1:vZ) (again:vZ->Option vY):Option vY:=
 match x1 with
 | (A,B,C,D,E,F,G,H,I,J,K,_)=>
 bif decide (B>=0) then
  (yG A A).bind fun r2=>
  chk (decide (0<=(0:Int))&&decide ((0:Int)<(r2.1.length:Int))) <|
  (r2.1[0]?).bind fun y3=>
  (idx D (w64 (Int.tdiv B 32))).bind fun y4=>
  chk (decide (0<=(Int.tmod B 32))) <|
  let n5:Int:=mY (((BitVec.ofInt (IntKind.bits .u32) (Int.fdiv y4 (2 ^ (min (Int.toNat (Int.tmod B 32)) (IntKind.bits .u32)))) &&& BitVec.ofInt (IntKind.bits .u32) 1).toNat:Int))
  chk (decide (0<=(0:Int))&&decide ((0:Int)<(r2.1.length:Int))) <|
  (r2.1[0]?).bind fun _=>
  (lY (List.set r2.1 0 (mY (((BitVec.ofInt (IntKind.bits .u32) y3 ||| BitVec.ofInt (IntKind.bits .u32) n5).toNat:Int))))).bind fun r6=>
  (pz r6.1 F).bind fun r7=>
  bif decide (r7.1>=0) then
   (sj r6.1 F).bind fun r8=>
   chk (decide (0<=(w64 (Int.tdiv B 32)))&&decide ((w64 (Int.tdiv B 32))<(K.length:Int))) <|
   (K[(w64 (Int.tdiv B 32)).toNat]?).bind fun y9=>
   chk (decide (0<=(Int.tmod B 32))) <|
   let n10:Int:=mY (((BitVec.ofInt (IntKind.bits .u32) y9 ||| BitVec.ofInt (IntKind.bits .u32) (mY (1*2 ^ (min (Int.toNat (Int.tmod B 32)) (IntKind.bits .u32))))).toNat:Int))
   chk (decide (0<=(w64 (Int.tdiv B 32)))&&decide ((w64 (Int.tdiv B 32))<(K.length:Int))) <|
   (K[(w64 (Int.tdiv B 32)).toNat]?).bind fun _=>
   again (r8.1,w64 (B - 1),C,D,E,F,G,H,I,J,List.set K (w64 (Int.tdiv B 32)).toNat n10,())
  else
   again (r6.1,w64 (B - 1),C,D,E,F,G,H,I,J,K,())
 else
  some (.inr (A,G,H,I,J,K,()))
def GX (a0:bZ) (a1:bZ):Option (bZ×bZ×Unit):=
 chk (decide (0<=((a0.2.length:Int)))&&decide (((a0.2.length:Int))<=((a0.2.length:Int)))&&decide ((4:Int)*((a0.2.length:Int))<=281474976710656)&&decide (((a0.2.length:Int))<=9223372036854775807)) <|
 let n1:Int:=w64 ((w64 (((a0.2.length:Int))*32)) - 1)
 aR (
  iter (X:=vZ) (β:=vY) (List.length ([]:List Int)+(n1.natAbs+(a0.2.length+(a1.2.length+(List.length ([]:List Int)+(List.length ([]:List Int)+(List.length ((List.replicate (Int.toNat ((a0.2.length:Int))) 0):List Int)+2))))))) ([],n1,a0.1,a0.2,a1.1,a1.2,false,[],false,[],List.replicate (Int.toNat ((a0.2.length:Int))) 0,()) (LJ)) fun v14=>
 (gS false v14.2.2.2.2.2.1).bind fun r15=>
 (gS false v14.1).bind fun r16=>
 some (r15.1,r16.1,())
def jr (a0:bZ):Option (Int×Unit):=
 bif a0.1 then
  some ((-1),())
 else
  bif ((a0.2.length:Int))==0 then
   some (0,())
  else
   some (1,())
def jW (a0:bZ):Option (bZ×Unit):=
 (gS (!a0.1) a0.2).bind fun r1=>
 some (r1.1,())
abbrev oQ:Type:=Int×Int×(List Int)×Int×Int×Bool×(List Int)×Unit
abbrev oP:Type:=((Int×Bool×Unit) ⊕ (Int×Int×Bool×(List Int)×Unit))
def oO (x1:oQ) (again:oQ->Option oP):Option oP:=
 match x1 with
 | (A,B,C,D,E,F,G,_)=>
 bif decide (E<D) then
  (idx C E).bind fun y2=>
  chk (decide (0<=(w64 (32*E)))) <|
  let n3:Int:=bU ((bU y2)*2 ^ (min (Int.toNat (w64 (32*E))) (IntKind.bits .u64)))
  again (A,bU (((BitVec.ofInt (IntKind.bits .u64) B ||| BitVec.ofInt (IntKind.bits .u64) n3).toNat:Int)),C,D,w64 (E+1),F,G,())
 else
  some (.inr (A,B,F,G,()))
def tW (a0:bZ) (a1:Int):Option (Int×Bool×Unit):=
 bif decide (((a0.2.length:Int))>2) then
  some (0,false,())
 else
  aR (
   iter (X:=oQ) (β:=oP) (a1.natAbs+(Int.natAbs (0:Int)+(a0.2.length+(Int.natAbs ((a0.2.length:Int))+(Int.natAbs (0:Int)+(a0.2.length+2)))))) (a1,0,a0.2,(a0.2.length:Int),0,a0.1,a0.2,()) (oO)) fun (A,B,C,_,_)=>
  bif decide (B>(bU A)) then
   some (0,false,())
  else
   bif C then
    some (w64 (0 - (w64 B)),true,())
   else
    some (w64 B,true,())
def mQ (a0:bZ) (a1:Int):Option (ah×Int×Unit):=
 (tW a0 1000000000000000).bind fun r1=>
 bif !r1.2.1 then
  some ((0,0),1,())
 else
  some ((r1.1,a1),0,())
abbrev uf:Type:=Int×Bool×(List Int)×Int×Int×Bool×(List Int)×Unit
abbrev ud:Type:=((ah×Int×Unit) ⊕ (Int×Bool×(List Int)×Int×Int×Unit))
def IX (x1:uf) (again:uf->Option ud):Option ud:=
 match x1 with
 | (A,B,C,D,E,F,G,_)=>
 bif decide (A>0) then
  (GX (B,C) (F,G)).bind fun r2=>
  (jr r2.2.1).bind fun r3=>
  bif r3.1 != 0 then
   some (.inr (A,B,C,D,E,()))
  else
   (jr (B,C)).bind fun r4=>
   bif decide (r4.1<0) then
    (jW r2.1).bind fun r5=>
    again (w64 (A - 1),r5.1.1,r5.1.2,D,E,F,G,())
   else
    again (w64 (A - 1),r2.1.1,r2.1.2,D,E,F,G,())
 else
  some (.inr (A,B,C,D,E,()))
def Ei (a0:bZ) (a1:Int):Option (ah×Int×Unit):=
 (rq 10).bind fun r1=>
 aR (
  iter (X:=uf) (β:=ud) (a1.natAbs+(a0.2.length+(Int.natAbs (0:Int)+(Int.natAbs (0:Int)+(r1.1.2.length+2))))) (a1,a0.1,a0.2,0,0,r1.1.1,r1.1.2,()) (IX)) fun v7=>
 (mQ (v7.2.1,v7.2.2.1) v7.1).bind fun r8=>
 some (r8.1,r8.2.1,())
def Kf (a0:Int):Option (ah×Int×Unit):=
 (rq a0).bind fun r1=>
 (Ei r1.1 4).bind fun r2=>
 some (r2.1,r2.2.1,())
def rG (a0:Int):Option (ah×Unit):=
 (Kf a0).bind fun r1=>
 some (r1.1,())
abbrev BA:Type:=(List Int)×(List lZ)×(List (Option Nat))×Int×Int×(List aq)×Unit
abbrev Bz:Type:=(((List lZ)×(List ah)×Int×Unit) ⊕ ((List Int)×(List lZ)×(List aq)×Unit))
def QG (x1:BA) (again:BA->Option Bz):Option Bz:=
 match x1 with
 | (A,B,C,D,E,F,_)=>
 bif decide (E<D) then
  (idx C E).bind fun y2=>
  (y2).bind fun h3=>
  (F[h3]?).bind fun y4=>
  (y2).bind fun h5=>
  (F[h5]?).bind fun y6=>
  (rG y6.2.2.1).bind fun r7=>
  (y2).bind fun h8=>
  (F[h8]?).bind fun y9=>
  (rG y9.2.2.2.1).bind fun r10=>
  (y2).bind fun h11=>
  (F[h11]?).bind fun y12=>
  chk (decide (((B.length)+1)*56<=140737488355328)&&decide ((B.length)+1<=maxLen)) <|
  again (A,B++[(y4.1.1,r7.1,r10.1,y12.2.2.2.2)],C,D,w64 (E+1),F,())
 else
  some (.inr (A,B,F,()))
abbrev Aa:Type:=(List lZ)×(List ah)×(List Int)×Int×Int×(List aq)×Unit
abbrev zZ:Type:=(((List lZ)×(List ah)×Int×Unit) ⊕ ((List lZ)×(List ah)×(List aq)×Unit))
def O7 (x1:Aa) (again:Aa->Option zZ):Option zZ:=
 match x1 with
 | (A,B,C,D,E,F,_)=>
 bif decide (E<D) then
  (idx C E).bind fun y2=>
  (rG y2).bind fun r3=>
  chk (decide (((B.length)+1)*16<=140737488355328)&&decide ((B.length)+1<=maxLen)) <|
  again (A,B++[r3.1],C,D,w64 (E+1),F,())
 else
  some (.inr (A,B,F,()))
def O6 (a0:List cM) (a1:List cx):Option ((List lZ)×(List ah)×Int×Unit):=
 (Cf a0 a1).bind fun r1=>
 bif r1.1 != 0 then
  some ([],[],r1.1,())
 else
  (Ej a0 a1 3652059 []).bind fun r2=>
  aR (
   iter (X:=BA) (β:=Bz) (r2.2.1.length+(List.length ([]:List lZ)+(r2.1.length+(Int.natAbs ((r2.1.length:Int))+(Int.natAbs (0:Int)+(r2.2.2.1.length+2)))))) (r2.2.1,[],r2.1,(r2.1.length:Int),0,r2.2.2.1,()) (QG)) fun (A,B,C,_)=>
  aR (
   iter (X:=Aa) (β:=zZ) (B.length+(List.length ([]:List ah)+(A.length+(Int.natAbs ((A.length:Int))+(Int.natAbs (0:Int)+(C.length+2)))))) (B,[],A,(A.length:Int),0,C,()) (O7)) fun v19=>
  some (v19.1,v19.2.1,0,())
def Ga:Option (Bool×Unit):=
 (O6 [([97],5,(7,0),0,0,0)] [(6,(9,0),[])]).bind fun r1=>
 bif r1.2.2.1==0 then
  bif ((r1.1.length:Int))==1 then
   (idx r1.1 0).bind fun y2=>
   bif y2.2.2.2==6 then
    bif ((r1.2.1.length:Int))==1 then
     (idx r1.2.1 0).bind fun y3=>
     some (y3.1==2,())
    else
     some (false,())
   else
    some (false,())
  else
   some (false,())
 else
  some (false,())
abbrev Av:Type:=Int×Bool×(List Int)×Bool×(List Int)×Unit
abbrev Au:Type:=((aH×Unit) ⊕ (Bool×(List Int)×Bool×(List Int)×Unit))
def uu (x1:Av) (again:Av->Option Au):Option Au:=
 match x1 with
 | (A,B,C,D,E,_)=>
 bif A != 0 then
  chk (decide (((E.length)+1)*8<=140737488355328)&&decide ((E.length)+1<=maxLen)) <|
  again (w64 (Int.tdiv A 1000000),B,C,D,E++[(if (w64 (0 - (Int.tmod A 1000000)))>(Int.tmod A 1000000) then (w64 (0 - (Int.tmod A 1000000))) else (Int.tmod A 1000000))],())
 else
  some (.inr (B,C,D,E,()))
def HD (a0:Int):Option (aH×Unit):=
 aR (
  iter (X:=Av) (β:=Au) (a0.natAbs+(List.length ([]:List Int)+(List.length ([]:List Int)+2))) (a0,false,[],decide (a0<0),[],()) (uu)) fun v2=>
 some ((v2.2.2.1,v2.2.2.2.1),())
abbrev pe:Type:=Bool×(List Int)×Bool×(List Int)×Unit
abbrev yT:Type:=((aH×Unit) ⊕ (Bool×(List Int)×Bool×(List Int)×Unit))
def yS (x1:pe) (again:pe->Option yT):Option yT:=
 match x1 with
 | (A,B,C,D,_)=>
 bif decide (((B.length:Int))>0) then
  (idx B (w64 (((B.length:Int)) - 1))).bind fun y2=>
  bif y2==0 then
   chk (decide (0<=(0:Int))&&decide ((0:Int)<=(w64 (((B.length:Int)) - 1)))&&decide ((w64 (((B.length:Int)) - 1))<=(B.length:Int))) <|
   again (A,List.drop 0 (List.take (Int.toNat (w64 (((B.length:Int)) - 1))) B),C,D,())
  else
   some (.inr (A,B,C,D,()))
 else
  some (.inr (A,B,C,D,()))
def mH (a0:aH):Option (aH×Unit):=
 aR (
  iter (X:=pe) (β:=yT) (a0.2.length+(List.length ([]:List Int)+2)) (a0.1,a0.2,false,[],()) (yS)) fun v3=>
 bif ((v3.2.1.length:Int))==0 then
  some ((false,v3.2.1),())
 else
  some ((v3.1,v3.2.1),())
abbrev tQ:Type:=Int×Int×(List Int)×Int×Int×(List Int)×Int×Int×Bool×(List Int)×Bool×(List Int)×Bool×(List Int)×Unit
abbrev tO:Type:=(((aH×Unit) ⊕ (Bool×(List Int)×Bool×(List Int)×Unit)) ⊕ ((List Int)×Int×Int×Bool×(List Int)×Bool×(List Int)×Bool×(List Int)×Unit))
def tM (x1:tQ) (again:tQ->Option tO):Option tO:=
 match x1 with
 | (A,B,C,D,E,F,G,H,I,J,K,L,M,N,_)=>
 bif decide (H<G) then
  (idx F H).bind fun y2=>
  chk (decide (0<=(w64 (A+H)))&&decide ((w64 (A+H))<(N.length:Int))) <|
  (N[(w64 (A+H)).toNat]?).bind fun y3=>
  chk (decide (0<=(w64 (A+H)))&&decide ((w64 (A+H))<(N.length:Int))) <|
  (N[(w64 (A+H)).toNat]?).bind fun _=>
  chk (decide (0<=(w64 ((w64 (A+H))+1)))&&decide ((w64 ((w64 (A+H))+1))<(List.length (List.set N (w64 (A+H)).toNat (w64 (y3+(w64 (B*y2))))):Int))) <|
  ((List.set N (w64 (A+H)).toNat (w64 (y3+(w64 (B*y2)))))[(w64 ((w64 (A+H))+1)).toNat]?).bind fun y4=>
  chk (decide (0<=(w64 (A+H)))&&decide ((w64 (A+H))<(List.length (List.set N (w64 (A+H)).toNat (w64 (y3+(w64 (B*y2))))):Int))) <|
  ((List.set N (w64 (A+H)).toNat (w64 (y3+(w64 (B*y2)))))[(w64 (A+H)).toNat]?).bind fun y5=>
  chk (decide (0<=(w64 ((w64 (A+H))+1)))&&decide ((w64 ((w64 (A+H))+1))<(List.length (List.set N (w64 (A+H)).toNat (w64 (y3+(w64 (B*y2))))):Int))) <|
  ((List.set N (w64 (A+H)).toNat (w64 (y3+(w64 (B*y2)))))[(w64 ((w64 (A+H))+1)).toNat]?).bind fun _=>
  chk (decide (0<=(w64 (A+H)))&&decide ((w64 (A+H))<(List.length (List.set (List.set N (w64 (A+H)).toNat (w64 (y3+(w64 (B*y2))))) (w64 ((w64 (A+H))+1)).toNat (w64 (y4+(w64 (Int.tdiv y5 1000000))))):Int))) <|
  ((List.set (List.set N (w64 (A+H)).toNat (w64 (y3+(w64 (B*y2))))) (w64 ((w64 (A+H))+1)).toNat (w64 (y4+(w64 (Int.tdiv y5 1000000)))))[(w64 (A+H)).toNat]?).bind fun y6=>
  chk (decide (0<=(w64 (A+H)))&&decide ((w64 (A+H))<(List.length (List.set (List.set N (w64 (A+H)).toNat (w64 (y3+(w64 (B*y2))))) (w64 ((w64 (A+H))+1)).toNat (w64 (y4+(w64 (Int.tdiv y5 1000000))))):Int))) <|
  ((List.set (List.set N (w64 (A+H)).toNat (w64 (y3+(w64 (B*y2))))) (w64 ((w64 (A+H))+1)).toNat (w64 (y4+(w64 (Int.tdiv y5 1000000)))))[(w64 (A+H)).toNat]?).bind fun _=>
  again (A,B,C,D,E,F,G,w64 (H+1),I,J,K,L,M,List.set (List.set (List.set N (w64 (A+H)).toNat (w64 (y3+(w64 (B*y2))))) (w64 ((w64 (A+H))+1)).toNat (w64 (y4+(w64 (Int.tdiv y5 1000000))))) (w64 (A+H)).toNat (Int.tmod y6 1000000),())
 else
  some (.inr (C,D,E,I,J,K,L,M,N,()))
abbrev tP:Type:=(List Int)×Int×Int×Bool×(List Int)×Bool×(List Int)×Bool×(List Int)×Unit
abbrev tN:Type:=((aH×Unit) ⊕ (Bool×(List Int)×Bool×(List Int)×Unit))
def tL (x1:tP) (again:tP->Option tN):Option tN:=
 match x1 with
 | (A,B,C,D,E,F,G,H,I,_)=>
 bif decide (C<B) then
  (idx A C).bind fun y2=>
  aR (
   iter (X:=tQ) (β:=tO) (C.natAbs+(y2.natAbs+(A.length+(B.natAbs+(C.natAbs+(E.length+(Int.natAbs ((E.length:Int))+(Int.natAbs (0:Int)+(E.length+(G.length+(I.length+2))))))))))) (C,y2,A,B,C,E,(E.length:Int),0,D,E,F,G,H,I,()) (tM)) fun (J,K,L,M,N,O,P,Q,R,_)=>
  again (J,K,w64 (L+1),M,N,O,P,Q,R,())
 else
  some (.inr (F,G,H,I,()))
abbrev rX:Type:=Int×Int×Bool×(List Int)×Bool×(List Int)×Unit
abbrev rW:Type:=((aH×Unit) ⊕ (Bool×(List Int)×Bool×(List Int)×Unit))
def rV (x1:rX) (again:rX->Option rW):Option rW:=
 match x1 with
 | (A,B,C,D,E,F,_)=>
 bif decide (B<A) then
  chk (decide (0<=(w64 (B+1)))&&decide ((w64 (B+1))<(F.length:Int))) <|
  (F[(w64 (B+1)).toNat]?).bind fun y2=>
  chk (decide (0<=B)&&decide (B<(F.length:Int))) <|
  (F[B.toNat]?).bind fun y3=>
  chk (decide (0<=(w64 (B+1)))&&decide ((w64 (B+1))<(F.length:Int))) <|
  (F[(w64 (B+1)).toNat]?).bind fun _=>
  chk (decide (0<=B)&&decide (B<(List.length (List.set F (w64 (B+1)).toNat (w64 (y2+(w64 (Int.tdiv y3 1000000))))):Int))) <|
  ((List.set F (w64 (B+1)).toNat (w64 (y2+(w64 (Int.tdiv y3 1000000)))))[B.toNat]?).bind fun y4=>
  chk (decide (0<=B)&&decide (B<(List.length (List.set F (w64 (B+1)).toNat (w64 (y2+(w64 (Int.tdiv y3 1000000))))):Int))) <|
  ((List.set F (w64 (B+1)).toNat (w64 (y2+(w64 (Int.tdiv y3 1000000)))))[B.toNat]?).bind fun _=>
  again (A,w64 (B+1),C,D,E,List.set (List.set F (w64 (B+1)).toNat (w64 (y2+(w64 (Int.tdiv y3 1000000))))) B.toNat (Int.tmod y4 1000000),())
 else
  some (.inr (C,D,E,F,()))
def rU (a0:aH) (a1:aH):Option (aH×Unit):=
 let n1:Int:=w64 ((w64 (((a0.2.length:Int))+((a1.2.length:Int))))+1)
 chk (decide (0<=n1)&&decide (n1<=n1)&&decide ((8:Int)*n1<=281474976710656)&&decide (n1<=9223372036854775807)) <|
 aR (
  iter (X:=tP) (β:=tN) (a0.2.length+(Int.natAbs ((a0.2.length:Int))+(Int.natAbs (0:Int)+(a1.2.length+(List.length ([]:List Int)+(List.length ((List.replicate (Int.toNat n1) 0):List Int)+2)))))) (a0.2,(a0.2.length:Int),0,a1.1,a1.2,false,[], !(a0.1==a1.1),List.replicate (Int.toNat n1) 0,()) (tL)) fun (A,B,C,D,_)=>
 aR (
  iter (X:=rX) (β:=rW) (Int.natAbs (w64 (((D.length:Int)) - 1))+(Int.natAbs (0:Int)+(B.length+(D.length+2)))) (w64 (((D.length:Int)) - 1),0,A,B,C,D,()) (rV)) fun v21=>
 (mH (v21.2.2.1,v21.2.2.2.1)).bind fun r22=>
 some (r22.1,())
abbrev xK:Type:=Int×Int×Bool×(List Int)×Bool×(List Int)×Unit
abbrev xJ:Type:=((aH×Unit) ⊕ (Bool×(List Int)×Bool×(List Int)×Unit))
def xI (x1:xK) (again:xK->Option xJ):Option xJ:=
 match x1 with
 | (A,B,C,D,E,F,_)=>
 bif decide (B<A) then
  (HD 10).bind fun r2=>
  (rU (E,F) r2.1).bind fun r3=>
  again (A,w64 (B+1),C,D,r3.1.1,r3.1.2,())
 else
  some (.inr (C,D,E,F,()))
def DZ (a0:Int):Option (aH×Unit):=
 (HD 1).bind fun r1=>
 aR (
  iter (X:=xK) (β:=xJ) (a0.natAbs+(Int.natAbs (0:Int)+(List.length ([]:List Int)+(r1.1.2.length+2)))) (a0,0,false,[],r1.1.1,r1.1.2,()) (xI)) fun v5=>
 some ((v5.2.2.1,v5.2.2.2.1),())
def Lb (a0:ah) (a1:Int):Option (aH×Unit):=
 (HD a0.1).bind fun r1=>
 (DZ (w64 (a1 - a0.2))).bind fun r2=>
 (rU r1.1 r2.1).bind fun r3=>
 some (r3.1,())
abbrev xN:Type:=(List Int)×(List Int)×Int×Unit
abbrev xM:Type:=((Int×Unit) ⊕ Unit)
def tj (x1:xN) (again:xN->Option xM):Option xM:=
 match x1 with
 | (A,B,C,_)=>
 bif decide (C>=0) then
  (idx A C).bind fun y2=>
  (idx B C).bind fun y3=>
  bif y2 != y3 then
   (idx A C).bind fun y4=>
   (idx B C).bind fun y5=>
   some (.inl (w64 (y4 - y5),()))
  else
   again (A,B,w64 (C - 1),())
 else
  some (.inr ())
def D6 (a0:List Int) (a1:List Int):Option (Int×Unit):=
 bif ((a0.length:Int)) != ((a1.length:Int)) then
  some (w64 (((a0.length:Int)) - ((a1.length:Int))),())
 else
  aR (
   iter (X:=xN) (β:=xM) (a0.length+(a1.length+(Int.natAbs (w64 (((a0.length:Int)) - 1))+2))) (a0,a1,w64 (((a0.length:Int)) - 1),()) (tj)) fun _=>
  some (0,())
def wW (a0:List Int) (a1:Int):Option (Int×Unit):=
 bif decide (a1<((a0.length:Int))) then
  (idx a0 a1).bind fun y1=>
  some (y1,())
 else
  some (0,())
abbrev vL:Type:=Int×Int×Int×Bool×(List Int)×Bool×(List Int)×Bool×(List Int)×Bool×(List Int)×Unit
abbrev vK:Type:=((aH×Unit) ⊕ (Bool×(List Int)×Bool×(List Int)×Unit))
def vJ (x1:vL) (again:vL->Option vK):Option vK:=
 match x1 with
 | (A,B,C,D,E,F,G,H,I,J,K,_)=>
 bif decide (C<B) then
  (idx E C).bind fun y2=>
  (wW G C).bind fun r3=>
  aR (γ:=(Int×Int×Int×Int×Bool×(List Int)×Bool×(List Int)×Bool×(List Int)×Bool×(List Int)×Unit)) (
   bif decide ((w64 ((w64 (y2 - r3.1)) - A))<0) then
    let n4:Int:=w64 ((w64 ((w64 (y2 - r3.1)) - A))+1000000)
    some (.inr (1,n4,B,C,D,E,F,G,H,I,J,K,()))
   else
    some (.inr (0,w64 ((w64 (y2 - r3.1)) - A),B,C,D,E,F,G,H,I,J,K,()))) fun (L,M,N,O,P,Q,R,S,T,U,V,W,_)=>
  chk (decide (((W.length)+1)*8<=140737488355328)&&decide ((W.length)+1<=maxLen)) <|
  again (L,N,w64 (O+1),P,Q,R,S,T,U,V,W++[M],())
 else
  some (.inr (H,I,J,K,()))
abbrev xH:Type:=Int×Int×Int×Bool×(List Int)×Bool×(List Int)×Bool×(List Int)×Bool×(List Int)×Unit
abbrev xG:Type:=((aH×Unit) ⊕ (Bool×(List Int)×Bool×(List Int)×Unit))
def xF (x1:xH) (again:xH->Option xG):Option xG:=
 match x1 with
 | (A,B,C,D,E,F,G,H,I,J,K,_)=>
 bif decide (C<B) then
  (wW E C).bind fun r2=>
  (wW G C).bind fun r3=>
  let n4:Int:=Int.tmod (w64 ((w64 (r2.1+r3.1))+A)) 1000000
  chk (decide (((K.length)+1)*8<=140737488355328)&&decide ((K.length)+1<=maxLen)) <|
  let n5:Int:=w64 (Int.tdiv (w64 ((w64 (r2.1+r3.1))+A)) 1000000)
  again (n5,B,w64 (C+1),D,E,F,G,H,I,J,K++[n4],())
 else
  some (.inr (H,I,J,K,()))
def HF (a0:aH) (a1:aH):Option (aH×Unit):=
 bif !(a0.1==a1.1) then
  (D6 a0.2 a1.2).bind fun r1=>
  aR (γ:=(Bool×(List Int)×Bool×(List Int)×Bool×(List Int)×Unit)) (
   bif decide (r1.1<0) then
    some (.inr (a1.1,a1.2,a0.1,a0.2,false,[],()))
   else
    some (.inr (a0.1,a0.2,a1.1,a1.2,false,[],()))) fun (A,B,C,D,E,F,_)=>
  aR (
   iter (X:=vL) (β:=vK) (Int.natAbs (0:Int)+(Int.natAbs ((B.length:Int))+(Int.natAbs (0:Int)+(B.length+(D.length+(F.length+(List.length ([]:List Int)+2))))))) (0,(B.length:Int),0,A,B,C,D,E,F,A,[],()) (vJ)) fun v8=>
  (mH (v8.2.2.1,v8.2.2.2.1)).bind fun r9=>
  some (r9.1,())
 else
  let n10:Int:=w64 ((if ((a1.2.length:Int))>((a0.2.length:Int)) then ((a1.2.length:Int)) else ((a0.2.length:Int)))+1)
  aR (
   iter (X:=xH) (β:=xG) (Int.natAbs (0:Int)+(n10.natAbs+(Int.natAbs (0:Int)+(a0.2.length+(a1.2.length+(List.length ([]:List Int)+(List.length ([]:List Int)+2))))))) (0,n10,0,a0.1,a0.2,a1.1,a1.2,false,[],a0.1,[],()) (xF)) fun v16=>
  (mH (v16.2.2.1,v16.2.2.2.1)).bind fun r17=>
  some (r17.1,())
def DY (a0:aH):Option (aH×Unit):=
 bif decide (((a0.2.length:Int))>0) then
  some ((!a0.1,a0.2),())
 else
  some (a0,())
def HG (a0:aH):Option (Int×Unit):=
 bif ((a0.2.length:Int))==0 then
  some (0,())
 else
  bif a0.1 then
   some ((-1),())
  else
   some (1,())
def Lc (a0:aH) (a1:aH):Option (Int×Unit):=
 (DY a1).bind fun r1=>
 (HF a0 r1.1).bind fun r2=>
 (HG r2.1).bind fun r3=>
 some (r3.1,())
end Go.Md
namespace Go.Md
open Go.Dn
abbrev Ax:Type:=Bys×Int×Int×Unit
abbrev Aw:Type:=((Bool×Unit) ⊕ Unit)
def vM (x1:Ax) (again:Ax->Option Aw):Option Aw:=
 match x1 with
 | (A,B,C,_)=>
 bif decide (C<B) then
  (iV A C).bind fun c2=>
  bif decide ((c2.toNat:Int)<97) then
   bif decide ((c2.toNat:Int)<48) then
    bif (c2.toNat:Int) != 45 then
     some (.inl (false,()))
    else
     again (A,B,w64 (C+1),())
   else
    bif decide ((c2.toNat:Int)>57) then
     bif (c2.toNat:Int) != 45 then
      some (.inl (false,()))
     else
      again (A,B,w64 (C+1),())
    else
     again (A,B,w64 (C+1),())
  else
   bif decide ((c2.toNat:Int)>122) then
    bif decide ((c2.toNat:Int)<48) then
     bif (c2.toNat:Int) != 45 then
      some (.inl (false,()))
     else
      again (A,B,w64 (C+1),())
    else
     bif decide ((c2.toNat:Int)>57) then
      bif (c2.toNat:Int) != 45 then
       some (.inl (false,()))
      else
       again (A,B,w64 (C+1),())
     else
      again (A,B,w64 (C+1),())
   else
    again (A,B,w64 (C+1),())
 else
  some (.inr ())
def GC (a0:Bys):Option (Bool×Unit):=
 bif a0==[] then
  some (false,())
 else
  bif decide (((a0.length:Int))>40) then
   some (false,())
  else
   (iV a0 0).bind fun c1=>
   bif decide ((c1.toNat:Int)<97) then
    some (false,())
   else
    (iV a0 0).bind fun c2=>
    bif decide ((c2.toNat:Int)>122) then
     some (false,())
    else
     aR (
      iter (X:=Ax) (β:=Aw) (a0.length+(Int.natAbs ((a0.length:Int))+(Int.natAbs (0:Int)+2))) (a0,(a0.length:Int),0,()) (vM)) fun _=>
     some (true,())
def kN (a0:Bys):Option (Bool×Unit):=
 (GC a0).bind fun r1=>
 some (r1.1,())
def uQ (a0:Int) (a1:Int) (a2:Int):Option (Bool×Unit):=
 bif decide (a1<=a0) then
  some (decide (a0<=a2),())
 else
  some (false,())
def JP (a0:Int):Option (Bool×Unit):=
 (uQ a0 1 3652059).bind fun r1=>
 some (r1.1,())
def DX (a0:Int):Option (Bool×Unit):=
 (JP a0).bind fun r1=>
 some (r1.1,())
def jS (a0:ah):Option (Int×Unit):=
 (uQ a0.1 (-1000000000000000) 1000000000000000).bind fun r1=>
 bif !r1.1 then
  some (1,())
 else
  (uQ a0.2 0 9).bind fun r2=>
  bif !r2.1 then
   some (1,())
  else
   some (0,())
def CF (a0:ah) (a1:ah):Option (Int×Unit):=
 (Lb a0 9).bind fun r1=>
 (Lb a1 9).bind fun r2=>
 (Lc r1.1 r2.1).bind fun r3=>
 some (r3.1,())
def jk (a0:ah) (a1:Int) (a2:Int) (a3:Int):Option (Bool×Unit):=
 (jS a0).bind fun r1=>
 bif r1.1==0 then
  bif decide (a0.2<=a3) then
   (CF a0 (a1,0)).bind fun r2=>
   bif decide (r2.1>=0) then
    (CF a0 (a2,0)).bind fun r3=>
    some (decide (r3.1<=0),())
   else
    some (false,())
  else
   some (false,())
 else
  some (false,())
def kG (a0:Int) (a1:Int) (a2:Int):Option (Bool×Unit):=
 bif decide (a1<=a0) then
  some (decide (a0<=a2),())
 else
  some (false,())
end Go.Md
end
