/-
  The plain models of the functions that the laws reach, first part. No condition.
-/
import Derived.Test.YtcpmaicaibdafaaGreatDoorWd
import Derived.Lib.SlTrimSet
set_option linter.all false
noncomputable section
namespace Go.Md
open Go.Dn
abbrev Bys:Type:=List UInt8
def lX (s c:Bys):Option (Bys×Unit):=
 bif decide (s.length≤9223372036854775807)&&(decide (c.length<4294967281)&&c.all fun b=>decide (b.toNat<128)) then some (Lib.trimS s c,()) else none
abbrev cA:Ty:=(.st (.pair tI tI))
abbrev ah:Type:=Int×Int
abbrev cZ:Ty:=(.st (.pair tI (.pair cA (.slice .str))))
abbrev cT:Type:=Int×ah×(List Bys)
abbrev BD:Ty:=(.st (.pair .str (.pair cA (.pair cA tI))))
abbrev oW:Type:=Bys×ah×ah×Int
abbrev bf:Ty:=(.st (.pair .bool (.slice tI)))
abbrev aJ:Type:=Bool×(List Int)
abbrev fm:Ty:=(.st (.pair .str (.pair tI (.pair cA (.pair tI (.pair tI tI))))))
abbrev de:Type:=Bys×Int×ah×Int×Int×Int
abbrev aQ:Ty:=(.st (.pair fm (.pair tI (.pair tI (.pair tI tI)))))
abbrev aB:Type:=de×Int×Int×Int×Int
abbrev bh:Ty:=(.st (.pair .bool (.slice (.int .u32))))
abbrev aO:Type:=Bool×(List Int)
def cW (a0:Bys):Option (Bool×Unit):=
 bif decide (((a0.length:Int))<1) then
  some (false,())
 else
  bif decide (((a0.length:Int))>40) then
   some (false,())
  else
   (D5 a0 0).bind fun c1=>
   bif decide ((c1.toNat:Int)<97) then
    some (false,())
   else
    (D5 a0 0).bind fun c2=>
    bif decide ((c2.toNat:Int)>122) then
     some (false,())
    else
     (lX a0 [97,98,99,100,101,102,103,104,105,106,107,108,109,110,111,112,113,114,115,116,117,118,119,120,121,122,48,49,50,51,52,53,54,55,56,57,45]).bind fun r3=>
     some (r3.1==[],())
def Eb (a0:de) (a1:de):Option (Bool×Unit):=
 some (a0.1==a1.1,())
abbrev kS:Type:=(List de)×de×Int×Int×Unit
abbrev kR:Type:=((Int×Unit) ⊕ Unit)
def Cg (x1:kS) (again:kS→Option kR):Option kR:=
 match x1 with
 | (A,B,C,D,_)=>
 bif decide (D<C) then
  (idx A D).bind fun y2=>
  (Eb y2 B).bind fun r3=>
  bif r3.1 then
   some (.inl (D,()))
  else
   again (A,B,C,w64 (D+1),())
 else
  some (.inr ())
def u6 (a0:List de) (a1:de):Option (Int×Unit):=
 az (
  iter (X:=kS) (β:=kR) (a0.length+(Int.natAbs ((a0.length:Int))+(Int.natAbs (0:Int)+2))) (a0,a1,(a0.length:Int),0,()) (Cg)) fun _=>
 some ((-1),())
def rN (a0:List de) (a1:de):Option (Bool×Unit):=
 (u6 a0 a1).bind fun r1=>
 some (decide (r1.1≥0),())
def bO (a0:Int) (a1:Int) (a2:Int):Option (Bool×Unit):=
 bif decide (a0<a1) then
  some (true,())
 else
  some (decide (a0>a2),())
def jZ (a0:Int):Option (Bool×Unit):=
 (bO a0 1 3652059).bind fun r1=>
 some (!r1.1,())
def cD (a0:ah):Option (Int×Unit):=
 (bO a0.1 (-1000000000000000) 1000000000000000).bind fun r1=>
 bif r1.1 then
  some (1,())
 else
  (bO a0.2 0 9).bind fun r2=>
  bif r2.1 then
   some (1,())
  else
   some (0,())
abbrev yZ:Type:=Int×Int×Int×Unit
abbrev yY:Type:=((Int×Unit) ⊕ (Int×Unit))
def yX (x1:yZ) (again:yZ→Option yY):Option yY:=
 bif decide (x1.2.2.1<x1.2.1) then
  again (w64 (x1.1*10),x1.2.1,w64 (x1.2.2.1+1),())
 else
  some (.inr (x1.1,()))
def wU (a0:Int):Option (Int×Unit):=
 az (
  iter (X:=yZ) (β:=yY) (Int.natAbs (1:Int)+(a0.natAbs+(Int.natAbs (0:Int)+2))) (1,a0,0,()) (yX)) fun v2=>
 some (v2.1,())
def eH (a0:ah) (a1:Int):Option (Bool×Unit):=
 (wU a0.2).bind fun r1=>
 (bO a0.1 (w64 (0 - (w64 (a1*r1.1)))) (w64 (a1*r1.1))).bind fun r2=>
 some (!r2.1,())
def pz (a0:ah):Option (Int×Unit):=
 (cD a0).bind fun r1=>
 bif r1.1 != 0 then
  some (r1.1,())
 else
  bif decide (a0.1≤0) then
   some (1,())
  else
   bif decide (a0.2>4) then
    some (1,())
   else
    (eH a0 1000000000).bind fun r2=>
    bif !r2.1 then
     some (1,())
    else
     some (0,())
abbrev vE:Type:=(List de)×(List de)×Int×Int×Unit
abbrev vD:Type:=((Int×Unit) ⊕ Unit)
def L4 (x1:vE) (again:vE→Option vD):Option vD:=
 match x1 with
 | (A,B,C,D,_)=>
 bif decide (D<C) then
  (idx B D).bind fun y2=>
  (cW y2.1).bind fun r3=>
  bif !r3.1 then
   some (.inl (5,()))
  else
   chk (decide (0≤(0:Int))&&decide ((0:Int)≤D)&&decide (D≤(A.length:Int))) <|
   (rN (List.drop 0 (List.take (Int.toNat D) A)) y2).bind fun r4=>
   bif r4.1 then
    some (.inl (7,()))
   else
    (jZ y2.2.1).bind fun r5=>
    bif !r5.1 then
     some (.inl (1,()))
    else
     bif decide (D>0) then
      (idx A (w64 (D - 1))).bind fun y6=>
      bif decide (y2.2.1<y6.2.1) then
       some (.inl (8,()))
      else
       (pz y2.2.2.1).bind fun r7=>
       bif r7.1 != 0 then
        some (.inl (r7.1,()))
       else
        (bO y2.2.2.2.1 0 10000).bind fun r8=>
        bif r8.1 then
         some (.inl (1,()))
        else
         (bO y2.2.2.2.2.1 0 y2.2.2.2.1).bind fun r9=>
         bif r9.1 then
          some (.inl (1,()))
         else
          (bO y2.2.2.2.2.2 0 1000).bind fun r10=>
          bif r10.1 then
           some (.inl (1,()))
          else
           again (A,B,C,w64 (D+1),())
     else
      (pz y2.2.2.1).bind fun r11=>
      bif r11.1 != 0 then
       some (.inl (r11.1,()))
      else
       (bO y2.2.2.2.1 0 10000).bind fun r12=>
       bif r12.1 then
        some (.inl (1,()))
       else
        (bO y2.2.2.2.2.1 0 y2.2.2.2.1).bind fun r13=>
        bif r13.1 then
         some (.inl (1,()))
        else
         (bO y2.2.2.2.2.2 0 1000).bind fun r14=>
         bif r14.1 then
          some (.inl (1,()))
         else
          again (A,B,C,w64 (D+1),())
 else
  some (.inr ())
def GP (a0:List de):Option (Int×Unit):=
 bif decide (((a0.length:Int))>200) then
  some (2,())
 else
  az (
   iter (X:=vE) (β:=vD) (a0.length+(a0.length+(Int.natAbs ((a0.length:Int))+(Int.natAbs (0:Int)+2)))) (a0,a0,(a0.length:Int),0,()) (L4)) fun _=>
  some (0,())
abbrev qA:Type:=(List Bys)×Bys×Int×Int×Unit
abbrev qz:Type:=((Int×Unit) ⊕ Unit)
def Ix (x1:qA) (again:qA→Option qz):Option qz:=
 match x1 with
 | (A,B,C,D,_)=>
 bif decide (D<C) then
  (idx A D).bind fun y2=>
  bif B==y2 then
   some (.inl (D,()))
  else
   again (A,B,C,w64 (D+1),())
 else
  some (.inr ())
def BR (a0:List Bys) (a1:Bys):Option (Int×Unit):=
 az (
  iter (X:=qA) (β:=qz) (a0.length+(a1.length+(Int.natAbs ((a0.length:Int))+(Int.natAbs (0:Int)+2)))) (a0,a1,(a0.length:Int),0,()) (Ix)) fun _=>
 some ((-1),())
def yI (a0:List Bys) (a1:Bys):Option (Bool×Unit):=
 (BR a0 a1).bind fun r1=>
 some (decide (r1.1≥0),())
abbrev lg:Type:=(List cT)×(List cT)×Int×Int×(List Bys)×Int×Int×Int×Int×Int×(List Bys)×Unit
abbrev kZ:Type:=(((Int×Unit) ⊕ Unit) ⊕ ((List cT)×(List cT)×Int×Int×Unit))
def yt (x1:lg) (again:lg→Option kZ):Option kZ:=
 match x1 with
 | (A,B,C,D,E,F,G,H,I,J,K,_)=>
 bif decide (G<F) then
  (idx E G).bind fun y2=>
  (cW y2).bind fun r3=>
  bif !r3.1 then
   Il <|
    some (.inl (5,()))
  else
   chk (decide (0≤(0:Int))&&decide ((0:Int)≤G)&&decide (G≤(K.length:Int))) <|
   (yI (List.drop 0 (List.take (Int.toNat G) K)) y2).bind fun r4=>
   bif r4.1 then
    Il <|
     some (.inl (7,()))
   else
    again (A,B,C,D,E,F,w64 (G+1),H,I,J,K,())
 else
  some (.inr (A,B,C,D,()))
abbrev qY:Type:=(List cT)×(List cT)×Int×Int×Unit
abbrev qX:Type:=((Int×Unit) ⊕ Unit)
def IL (x1:qY) (again:qY→Option qX):Option qX:=
 match x1 with
 | (A,B,C,D,_)=>
 bif decide (D<C) then
  (idx B D).bind fun y2=>
  (jZ y2.1).bind fun r3=>
  bif !r3.1 then
   some (.inl (1,()))
  else
   bif decide (D>0) then
    (idx A (w64 (D - 1))).bind fun y4=>
    bif decide (y2.1<y4.1) then
     some (.inl (8,()))
    else
     (pz y2.2.1).bind fun r5=>
     bif r5.1 != 0 then
      some (.inl (r5.1,()))
     else
      bif decide (((y2.2.2.length:Int))>100) then
       some (.inl (2,()))
      else
       az (
        iter (X:=lg) (β:=kZ) (A.length+(B.length+(C.natAbs+(D.natAbs+(y2.2.2.length+(Int.natAbs ((y2.2.2.length:Int))+(Int.natAbs (0:Int)+(y2.1.natAbs+(y2.2.1.1.natAbs+(y2.2.1.2.natAbs+(y2.2.2.length+2))))))))))) (A,B,C,D,y2.2.2,(y2.2.2.length:Int),0,y2.1,y2.2.1.1,y2.2.1.2,y2.2.2,()) (yt)) fun (E,F,G,H,_)=>
       again (E,F,G,w64 (H+1),())
   else
    (pz y2.2.1).bind fun r7=>
    bif r7.1 != 0 then
     some (.inl (r7.1,()))
    else
     bif decide (((y2.2.2.length:Int))>100) then
      some (.inl (2,()))
     else
      az (
       iter (X:=lg) (β:=kZ) (A.length+(B.length+(C.natAbs+(D.natAbs+(y2.2.2.length+(Int.natAbs ((y2.2.2.length:Int))+(Int.natAbs (0:Int)+(y2.1.natAbs+(y2.2.1.1.natAbs+(y2.2.1.2.natAbs+(y2.2.2.length+2))))))))))) (A,B,C,D,y2.2.2,(y2.2.2.length:Int),0,y2.1,y2.2.1.1,y2.2.1.2,y2.2.2,()) (yt)) fun (I,J,K,L,_)=>
      again (I,J,K,w64 (L+1),())
 else
  some (.inr ())
def CY (a0:List cT):Option (Int×Unit):=
 bif decide (((a0.length:Int))>500) then
  some (2,())
 else
  az (
   iter (X:=qY) (β:=qX) (a0.length+(a0.length+(Int.natAbs ((a0.length:Int))+(Int.natAbs (0:Int)+2)))) (a0,a0,(a0.length:Int),0,()) (IL)) fun _=>
  some (0,())
def IM (a0:List de) (a1:List cT):Option (Int×Unit):=
 (GP a0).bind fun r1=>
 bif r1.1 != 0 then
  some (r1.1,())
 else
  (CY a1).bind fun r2=>
  some (r2.1,())
def JR (a0:ah):Option (Int×Unit):=
 (wU (w64 (4 - a0.2))).bind fun r1=>
 some (w64 (a0.1*r1.1),())
def xI (a0:List (Option Nat)):Option ((List (Option Nat))×Unit):=
 bif List.isEmpty a0 then
  both (
   some ([],())) (
   chk (decide ((0+(a0.length))*8≤140737488355328)&&decide (0+(a0.length)≤maxLen)) <|
   some (a0,()))
 else
  chk (decide ((0+(a0.length))*8≤140737488355328)&&decide (0+(a0.length)≤maxLen)) <|
  some (a0,())
def BV (a0:Option Nat) (a1:List aB):Option (Int×Unit):=
 (a0).bind fun h1=>
 (a1[h1]?).bind fun y2=>
 (a0).bind fun h3=>
 (a1[h3]?).bind fun y4=>
 some (w64 (y2.1.2.1+y4.1.2.2.2.1),())
def pE (a0:Option Nat) (a1:Option Nat) (a2:List aB):Option (Int×Unit):=
 (BV a0 a2).bind fun r1=>
 (BV a1 a2).bind fun r2=>
 some (w64 (r1.1 - r2.1),())
abbrev fH:Type:=Int×Int×Unit×Int×Int×(List (Option Nat))×(List aB)×Unit
abbrev fF:Type:=((((List (Option Nat))×Unit) ⊕ ((List (Option Nat))×(List aB)×Unit)) ⊕ (Int×Int×Unit×Int×(List (Option Nat))×(List aB)×Unit))
def se (x1:fH) (again:fH→Option fF):Option fF:=
 match x1 with
 | (A,B,C,D,E,F,G,_)=>
 bif decide (E>A) then
  chk (decide (0≤E)&&decide (E<(F.length:Int))) <|
  (F[E.toNat]?).bind fun y2=>
  chk (decide (0≤(w64 (E - 1)))&&decide ((w64 (E - 1))<(F.length:Int))) <|
  (F[(w64 (E - 1)).toNat]?).bind fun y3=>
  (pE y2 y3 G).bind fun r4=>
  bif decide (r4.1<0) then
   chk (decide (0≤(w64 (E - 1)))&&decide ((w64 (E - 1))<(F.length:Int))) <|
   (F[(w64 (E - 1)).toNat]?).bind fun y5=>
   chk (decide (0≤E)&&decide (E<(F.length:Int))) <|
   (F[E.toNat]?).bind fun y6=>
   chk (decide (0≤E)&&decide (E<(F.length:Int))) <|
   (F[E.toNat]?).bind fun _=>
   chk (decide (0≤(w64 (E - 1)))&&decide ((w64 (E - 1))<(List.length (List.set F E.toNat y5):Int))) <|
   ((List.set F E.toNat y5)[(w64 (E - 1)).toNat]?).bind fun _=>
   again (A,B,C,D,w64 (E - 1),List.set (List.set F E.toNat y5) (w64 (E - 1)).toNat y6,G,())
  else
   some (.inr (A,B,C,D,F,G,()))
 else
  some (.inr (A,B,C,D,F,G,()))
abbrev fG:Type:=Int×Int×Unit×Int×(List (Option Nat))×(List aB)×Unit
abbrev fE:Type:=(((List (Option Nat))×Unit) ⊕ ((List (Option Nat))×(List aB)×Unit))
def sd (x1:fG) (again:fG→Option fE):Option fE:=
 match x1 with
 | (A,B,C,D,E,F,_)=>
 bif decide (D<B) then
  az (
   iter (X:=fH) (β:=fF) (A.natAbs+(B.natAbs+(D.natAbs+(D.natAbs+(E.length+2))))) (A,B,C,D,D,E,F,()) (se)) fun (G,H,I,J,K,L,_)=>
  again (G,H,I,w64 (J+1),K,L,())
 else
  some (.inr (E,F,()))
def gf (a0:List (Option Nat)) (a1:Int) (a2:Int) (a3:Unit) (a4:List aB):Option ((List (Option Nat))×Unit):=
 az (
  iter (X:=fG) (β:=fE) (a1.natAbs+(a2.natAbs+(Int.natAbs (w64 (a1+1))+(a0.length+2)))) (a1,a2,a3,w64 (a1+1),a0,a4,()) (sd)) fun v11=>
 some (v11.1,())
abbrev gv:Type:=Int×Int×Int×Int×(List (Option Nat))×(List aB)×Unit
abbrev gu:Type:=(((List (Option Nat))×Unit) ⊕ ((List (Option Nat))×(List aB)×Unit))
def vq (x1:gv) (again:gv→Option gu):Option gu:=
 match x1 with
 | (A,B,C,D,E,F,_)=>
 bif decide (D<C) then
  chk (decide (0≤(w64 (B+D)))&&decide ((w64 (B+D))<(E.length:Int))) <|
  (E[(w64 (B+D)).toNat]?).bind fun y2=>
  chk (decide (0≤(w64 (A+D)))&&decide ((w64 (A+D))<(E.length:Int))) <|
  (E[(w64 (A+D)).toNat]?).bind fun y3=>
  chk (decide (0≤(w64 (A+D)))&&decide ((w64 (A+D))<(E.length:Int))) <|
  (E[(w64 (A+D)).toNat]?).bind fun _=>
  chk (decide (0≤(w64 (B+D)))&&decide ((w64 (B+D))<(List.length (List.set E (w64 (A+D)).toNat y2):Int))) <|
  ((List.set E (w64 (A+D)).toNat y2)[(w64 (B+D)).toNat]?).bind fun _=>
  again (A,B,C,w64 (D+1),List.set (List.set E (w64 (A+D)).toNat y2) (w64 (B+D)).toNat y3,F,())
 else
  some (.inr (E,F,()))
def fk (a0:List (Option Nat)) (a1:Int) (a2:Int) (a3:Int) (_a4:Unit) (a5:List aB):Option ((List (Option Nat))×Unit):=
 az (
  iter (X:=gv) (β:=gu) (a1.natAbs+(a2.natAbs+(a3.natAbs+(Int.natAbs (0:Int)+(a0.length+2))))) (a1,a2,a3,0,a0,a5,()) (vq)) fun v6=>
 some (v6.1,())
abbrev iw:Type:=Int×Unit×Int×Int×(List (Option Nat))×(List aB)×Unit
abbrev iu:Type:=(((List (Option Nat))×Unit) ⊕ (Int×Unit×Int×(List (Option Nat))×(List aB)×Unit))
def yb (x1:iw) (again:iw→Option iu):Option iu:=
 match x1 with
 | (A,B,C,D,E,F,_)=>
 bif C != D then
  bif decide (C>D) then
   (fk E (w64 (A - C)) A D B F).bind fun r2=>
   again (A,B,w64 (C - D),D,r2.1,F,())
  else
   (fk E (w64 (A - C)) (w64 ((w64 (A+D)) - C)) C B F).bind fun r3=>
   again (A,B,C,w64 (D - C),r3.1,F,())
 else
  some (.inr (A,B,C,E,F,()))
def oE (a0:List (Option Nat)) (a1:Int) (a2:Int) (a3:Int) (a4:Unit) (a5:List aB):Option ((List (Option Nat))×Unit):=
 az (
  iter (X:=iw) (β:=iu) (a2.natAbs+(Int.natAbs (w64 (a2 - a1))+(Int.natAbs (w64 (a3 - a2))+(a0.length+2)))) (a2,a4,w64 (a2 - a1),w64 (a3 - a2),a0,a5,()) (yb)) fun (A,B,C,D,E,_)=>
 (fk D (w64 (A - C)) A C B E).bind fun r5=>
 some (r5.1,())
abbrev gP:Type:=Int×Unit×Int×Int×(List (Option Nat))×(List aB)×Unit
abbrev gN:Type:=(((List (Option Nat))×Unit) ⊕ (Int×Int×(List (Option Nat))×(List aB)×Unit))
def wm (x1:gP) (again:gP→Option gN):Option gN:=
 match x1 with
 | (A,B,C,D,E,F,_)=>
 bif decide (C<D) then
  let n2:Int:=w64 (Int.fdiv (cn (w64 (C+D))) (2 ^ 1))
  chk (decide (0≤n2)&&decide (n2<(E.length:Int))) <|
  (E[n2.toNat]?).bind fun y3=>
  chk (decide (0≤A)&&decide (A<(E.length:Int))) <|
  (E[A.toNat]?).bind fun y4=>
  (pE y3 y4 F).bind fun r5=>
  bif decide (r5.1<0) then
   again (A,B,w64 (n2+1),D,E,F,())
  else
   again (A,B,C,n2,E,F,())
 else
  some (.inr (A,C,E,F,()))
abbrev gQ:Type:=Int×Int×(List (Option Nat))×(List aB)×Unit
abbrev gO:Type:=(((List (Option Nat))×Unit) ⊕ ((List (Option Nat))×(List aB)×Unit))
def wo (x1:gQ) (again:gQ→Option gO):Option gO:=
 match x1 with
 | (A,B,C,D,_)=>
 bif decide (B<(w64 (A - 1))) then
  chk (decide (0≤(w64 (B+1)))&&decide ((w64 (B+1))<(C.length:Int))) <|
  (C[(w64 (B+1)).toNat]?).bind fun y2=>
  chk (decide (0≤B)&&decide (B<(C.length:Int))) <|
  (C[B.toNat]?).bind fun y3=>
  chk (decide (0≤B)&&decide (B<(C.length:Int))) <|
  (C[B.toNat]?).bind fun _=>
  chk (decide (0≤(w64 (B+1)))&&decide ((w64 (B+1))<(List.length (List.set C B.toNat y2):Int))) <|
  ((List.set C B.toNat y2)[(w64 (B+1)).toNat]?).bind fun _=>
  again (A,w64 (B+1),List.set (List.set C B.toNat y2) (w64 (B+1)).toNat y3,D,())
 else
  some (.inr (C,D,()))
abbrev gz:Type:=Int×Unit×Int×Int×(List (Option Nat))×(List aB)×Unit
abbrev gw:Type:=(((List (Option Nat))×Unit) ⊕ (Int×Int×(List (Option Nat))×(List aB)×Unit))
def vr (x1:gz) (again:gz→Option gw):Option gw:=
 match x1 with
 | (A,B,C,D,E,F,_)=>
 bif decide (C<D) then
  let n2:Int:=w64 (Int.fdiv (cn (w64 (C+D))) (2 ^ 1))
  chk (decide (0≤A)&&decide (A<(E.length:Int))) <|
  (E[A.toNat]?).bind fun y3=>
  chk (decide (0≤n2)&&decide (n2<(E.length:Int))) <|
  (E[n2.toNat]?).bind fun y4=>
  (pE y3 y4 F).bind fun r5=>
  bif !(decide (r5.1<0)) then
   again (A,B,w64 (n2+1),D,E,F,())
  else
   again (A,B,C,n2,E,F,())
 else
  some (.inr (A,C,E,F,()))
abbrev gA:Type:=Int×Int×(List (Option Nat))×(List aB)×Unit
abbrev gx:Type:=(((List (Option Nat))×Unit) ⊕ ((List (Option Nat))×(List aB)×Unit))
def vt (x1:gA) (again:gA→Option gx):Option gx:=
 match x1 with
 | (A,B,C,D,_)=>
 bif decide (B>A) then
  chk (decide (0≤(w64 (B - 1)))&&decide ((w64 (B - 1))<(C.length:Int))) <|
  (C[(w64 (B - 1)).toNat]?).bind fun y2=>
  chk (decide (0≤B)&&decide (B<(C.length:Int))) <|
  (C[B.toNat]?).bind fun y3=>
  chk (decide (0≤B)&&decide (B<(C.length:Int))) <|
  (C[B.toNat]?).bind fun _=>
  chk (decide (0≤(w64 (B - 1)))&&decide ((w64 (B - 1))<(List.length (List.set C B.toNat y2):Int))) <|
  ((List.set C B.toNat y2)[(w64 (B - 1)).toNat]?).bind fun _=>
  again (A,w64 (B - 1),List.set (List.set C B.toNat y2) (w64 (B - 1)).toNat y3,D,())
 else
  some (.inr (C,D,()))
abbrev gB:Type:=Int×Int×Int×Unit×Int×Int×Int×Int×Int×(List (Option Nat))×(List aB)×Unit
abbrev gy:Type:=(((List (Option Nat))×Unit) ⊕ (Int×Int×Int×Unit×Int×Int×Int×(List (Option Nat))×(List aB)×Unit))
def vu (x1:gB) (again:gB→Option gy):Option gy:=
 match x1 with
 | (A,B,C,D,E,F,G,H,I,J,K,_)=>
 bif decide (G<H) then
  let n2:Int:=w64 (Int.fdiv (cn (w64 (G+H))) (2 ^ 1))
  chk (decide (0≤(w64 (I - n2)))&&decide ((w64 (I - n2))<(J.length:Int))) <|
  (J[(w64 (I - n2)).toNat]?).bind fun y3=>
  chk (decide (0≤n2)&&decide (n2<(J.length:Int))) <|
  (J[n2.toNat]?).bind fun y4=>
  (pE y3 y4 K).bind fun r5=>
  bif !(decide (r5.1<0)) then
   again (A,B,C,D,E,F,w64 (n2+1),H,I,J,K,())
  else
   again (A,B,C,D,E,F,G,n2,I,J,K,())
 else
  some (.inr (A,B,C,D,E,F,G,J,K,()))
def dK (self:((List (Option Nat))×Int×Int×Int×Unit×(List aB)×Unit)→Option ((List (Option Nat))×Unit)) (a0:List (Option Nat)) (a1:Int) (a2:Int) (a3:Int) (a4:Unit) (a5:List aB):Option ((List (Option Nat))×Unit):=
 bif (w64 (a2 - a1))==1 then
  az (
   iter (X:=gP) (β:=gN) (a1.natAbs+(a2.natAbs+(a3.natAbs+(a0.length+2)))) (a1,a4,a2,a3,a0,a5,()) (wm)) fun (A,B,C,D,_)=>
  az (
   iter (X:=gQ) (β:=gO) (B.natAbs+(A.natAbs+(C.length+2))) (B,A,C,D,()) (wo)) fun v12=>
  some (v12.1,())
 else
  bif (w64 (a3 - a2))==1 then
   az (
    iter (X:=gz) (β:=gw) (a2.natAbs+(a1.natAbs+(a2.natAbs+(a0.length+2)))) (a2,a4,a1,a2,a0,a5,()) (vr)) fun (F,G,H,I,_)=>
   az (
    iter (X:=gA) (β:=gx) (G.natAbs+(F.natAbs+(H.length+2))) (G,F,H,I,()) (vt)) fun v24=>
   some (v24.1,())
  else
   let n25:Int:=w64 (Int.fdiv (cn (w64 (a1+a3))) (2 ^ 1))
   az (γ:=(Int×Int×Int×Unit×Int×Int×Int×Int×(List (Option Nat))×(List aB)×Unit)) (
    bif decide (a2>n25) then
     some (.inr (a1,a2,a3,a4,n25,w64 (n25+a2),w64 ((w64 (n25+a2)) - a3),n25,a0,a5,()))
    else
     some (.inr (a1,a2,a3,a4,n25,w64 (n25+a2),a1,a2,a0,a5,()))) fun (K,L,M,N,O,P,Q,R,S,T,_)=>
   az (
    iter (X:=gB) (β:=gy) (K.natAbs+(L.natAbs+(M.natAbs+(O.natAbs+(P.natAbs+(Q.natAbs+(R.natAbs+(Int.natAbs (w64 (P - 1))+(S.length+2))))))))) (K,L,M,N,O,P,Q,R,w64 (P - 1),S,T,()) (vu)) fun (U,V,W,Y,Z,A0,B0,C0,D0,_)=>
   bif decide (B0<V) then
    az (γ:=(Int×Int×Unit×Int×Int×Int×(List (Option Nat))×(List aB)×Unit)) (
     bif decide (V<(w64 (A0 - B0))) then
      (oE C0 B0 V (w64 (A0 - B0)) Y D0).bind fun r33=>
      some (.inr (U,W,Y,Z,B0,w64 (A0 - B0),r33.1,D0,()))
     else
      some (.inr (U,W,Y,Z,B0,w64 (A0 - B0),C0,D0,()))) fun (E0,F0,G0,H0,I0,J0,K0,L0,_)=>
    bif decide (E0<I0) then
     az (γ:=(Int×Unit×Int×Int×(List (Option Nat))×(List aB)×Unit)) (
      bif decide (I0<H0) then
       (self (K0,E0,I0,H0,G0,L0,())).bind fun r35=>
       some (.inr (F0,G0,H0,J0,r35.1,L0,()))
      else
       some (.inr (F0,G0,H0,J0,K0,L0,()))) fun (M0,N0,O0,P0,Q0,R0,_)=>
     bif decide (O0<P0) then
      bif decide (P0<M0) then
       (self (Q0,O0,P0,M0,N0,R0,())).bind fun r37=>
       some (r37.1,())
      else
       some (Q0,())
     else
      some (Q0,())
    else
     bif decide (H0<J0) then
      bif decide (J0<F0) then
       (self (K0,H0,J0,F0,G0,L0,())).bind fun r38=>
       some (r38.1,())
      else
       some (K0,())
     else
      some (K0,())
   else
    bif decide (U<B0) then
     az (γ:=(Int×Unit×Int×Int×(List (Option Nat))×(List aB)×Unit)) (
      bif decide (B0<Z) then
       (self (C0,U,B0,Z,Y,D0,())).bind fun r39=>
       some (.inr (W,Y,Z,w64 (A0 - B0),r39.1,D0,()))
      else
       some (.inr (W,Y,Z,w64 (A0 - B0),C0,D0,()))) fun (S0,T0,U0,V0,W0,X0,_)=>
     bif decide (U0<V0) then
      bif decide (V0<S0) then
       (self (W0,U0,V0,S0,T0,X0,())).bind fun r41=>
       some (r41.1,())
      else
       some (W0,())
     else
      some (W0,())
    else
     bif decide (Z<(w64 (A0 - B0))) then
      bif decide ((w64 (A0 - B0))<W) then
       (self (C0,Z,w64 (A0 - B0),W,Y,D0,())).bind fun r42=>
       some (r42.1,())
      else
       some (C0,())
     else
      some (C0,())
def kI (a0:List (Option Nat)) (a1:Int) (a2:Int) (a3:Int) (_a4:Unit) (_a5:List aB):Nat:=a0.length+(a1.natAbs+(a2.natAbs+(a3.natAbs+2)))
def iT (a0:List (Option Nat)) (a1:Int) (a2:Int) (a3:Int) (a4:Unit) (a5:List aB):Option ((List (Option Nat))×Unit):=
 NA (fun self x=>dK self x.1 x.2.1 x.2.2.1 x.2.2.2.1 x.2.2.2.2.1 x.2.2.2.2.2.1) (kI a0 a1 a2 a3 a4 a5) (a0,a1,a2,a3,a4,a5,())
abbrev iC:Type:=Int×Unit×Int×Int×Int×(List (Option Nat))×(List aB)×Unit
abbrev iy:Type:=(((List (Option Nat))×Unit) ⊕ (Int×Unit×Int×Int×(List (Option Nat))×(List aB)×Unit))
def yc (x1:iC) (again:iC→Option iy):Option iy:=
 match x1 with
 | (A,B,C,D,E,F,G,_)=>
 bif decide (E≤A) then
  (gf F D E B G).bind fun r2=>
  again (A,B,C,E,w64 (E+C),r2.1,G,())
 else
  some (.inr (A,B,C,D,F,G,()))
abbrev iE:Type:=Int×Unit×Int×Int×Int×(List (Option Nat))×(List aB)×Unit
abbrev iB:Type:=((((List (Option Nat))×Unit) ⊕ ((List (Option Nat))×(List aB)×Unit)) ⊕ (Int×Unit×Int×Int×(List (Option Nat))×(List aB)×Unit))
def yf (x1:iE) (again:iE→Option iB):Option iB:=
 match x1 with
 | (A,B,C,D,E,F,G,_)=>
 bif decide (E≤A) then
  (iT F D (w64 (D+C)) E B G).bind fun r2=>
  again (A,B,C,E,w64 (E+(w64 (2*C))),r2.1,G,())
 else
  some (.inr (A,B,C,D,F,G,()))
abbrev iD:Type:=Int×Unit×Int×(List (Option Nat))×(List aB)×Unit
abbrev iA:Type:=(((List (Option Nat))×Unit) ⊕ ((List (Option Nat))×(List aB)×Unit))
def yd (x1:iD) (again:iD→Option iA):Option iA:=
 match x1 with
 | (A,B,C,D,E,_)=>
 bif decide (C<A) then
  az (
   iter (X:=iE) (β:=iB) (A.natAbs+(C.natAbs+(Int.natAbs (0:Int)+(Int.natAbs (w64 (2*C))+(D.length+2))))) (A,B,C,0,w64 (2*C),D,E,()) (yf)) fun (F,G,H,I,J,K,_)=>
  bif decide ((w64 (I+H))<F) then
   (iT J I (w64 (I+H)) F G K).bind fun r3=>
   again (F,G,w64 (H*2),r3.1,K,())
  else
   again (F,G,w64 (H*2),J,K,())
 else
  some (.inr (D,E,()))
def oF (a0:List (Option Nat)) (a1:Int) (a2:Unit) (a3:List aB):Option ((List (Option Nat))×Unit):=
 az (
  iter (X:=iC) (β:=iy) (a1.natAbs+(Int.natAbs (20:Int)+(Int.natAbs (0:Int)+(Int.natAbs (20:Int)+(a0.length+2))))) (a1,a2,20,0,20,a0,a3,()) (yc)) fun (A,B,C,D,E,F,_)=>
 (gf E D A B F).bind fun r4=>
 az (
  iter (X:=iD) (β:=iA) (A.natAbs+(C.natAbs+(r4.1.length+2))) (A,B,C,r4.1,F,()) (yd)) fun v10=>
 some (v10.1,())
def nW (a0:List (Option Nat)) (a1:Unit) (a2:List aB):Option ((List (Option Nat))×Unit):=
 (oF a0 ((a0.length:Int)) a1 a2).bind fun r1=>
 some (r1.1,())
def AK (a0:Option Nat) (a1:Int) (a2:List aB):Option (Bool×Unit):=
 (a0).bind fun h1=>
 (a2[h1]?).bind fun y2=>
 bif decide (y2.1.2.1≤a1) then
  (a0).bind fun h3=>
  (a2[h3]?).bind fun y4=>
  some (y4.2.2.2.2==0,())
 else
  some (false,())
def CZ (a0:Option Nat) (a1:List aB):Option (Int×Unit):=
 (a0).bind fun h1=>
 (a1[h1]?).bind fun y2=>
 (a0).bind fun h3=>
 (a1[h3]?).bind fun y4=>
 (a0).bind fun h5=>
 (a1[h5]?).bind fun y6=>
 (wU (w64 (4 - y6.1.2.2.1.2))).bind fun r7=>
 let n8:Int:=w64 ((w64 (Int.tdiv (w64 (y2.1.2.2.1.1*y4.1.2.2.2.2.2)) 1000))*r7.1)
 (a0).bind fun h9=>
 (a1[h9]?).bind fun y10=>
 some (if y10.2.1<n8 then y10.2.1 else n8,())
def yW (a0:Option Nat) (a1:Int) (a2:Int) (a3:List aB):Option (Int×(List aB)×Unit):=
 (a0).bind fun h1=>
 (a3[h1]?).bind fun y2=>
 (a0).bind fun h3=>
 (a3[h3]?).bind fun y4=>
 (a0).bind fun h5=>
 (a3[h5]?).bind fun y6=>
 (a0).bind fun h7=>
 (a3[h7]?).bind fun y8=>
 (a0).bind fun h9=>
 ((List.set a3 h7 (y8.1,y8.2.1,w64 (y4.2.2.1+(if y2.2.1<a1 then y2.2.1 else a1)),y8.2.2.2))[h9]?).bind fun y10=>
 (a0).bind fun h11=>
 ((List.set (List.set a3 h7 (y8.1,y8.2.1,w64 (y4.2.2.1+(if y2.2.1<a1 then y2.2.1 else a1)),y8.2.2.2)) h9 (y10.1,w64 (y6.2.1 - (if y2.2.1<a1 then y2.2.1 else a1)),y10.2.2))[h11]?).bind fun y12=>
 bif y12.2.1==0 then
  (a0).bind fun h13=>
  ((List.set (List.set a3 h7 (y8.1,y8.2.1,w64 (y4.2.2.1+(if y2.2.1<a1 then y2.2.1 else a1)),y8.2.2.2)) h9 (y10.1,w64 (y6.2.1 - (if y2.2.1<a1 then y2.2.1 else a1)),y10.2.2))[h13]?).bind fun y14=>
  some (w64 (a1 - (if y2.2.1<a1 then y2.2.1 else a1)),List.set (List.set (List.set a3 h7 (y8.1,y8.2.1,w64 (y4.2.2.1+(if y2.2.1<a1 then y2.2.1 else a1)),y8.2.2.2)) h9 (y10.1,w64 (y6.2.1 - (if y2.2.1<a1 then y2.2.1 else a1)),y10.2.2)) h13 (y14.1,y14.2.1,y14.2.2.1,y14.2.2.2.1,a2),())
 else
  some (w64 (a1 - (if y2.2.1<a1 then y2.2.1 else a1)),List.set (List.set a3 h7 (y8.1,y8.2.1,w64 (y4.2.2.1+(if y2.2.1<a1 then y2.2.1 else a1)),y8.2.2.2)) h9 (y10.1,w64 (y6.2.1 - (if y2.2.1<a1 then y2.2.1 else a1)),y10.2.2),())
def GQ (a0:Option Nat) (a1:Int) (a2:Int) (a3:List aB):Option (Int×(List aB)×Unit):=
 (CZ a0 a3).bind fun r1=>
 (a0).bind fun h2=>
 (a3[h2]?).bind fun y3=>
 bif decide ((w64 (y3.2.1 - r1.1))>a1) then
  (yW a0 a1 a2 a3).bind fun r4=>
  some (r4.1,r4.2.1,())
 else
  (a0).bind fun h5=>
  (a3[h5]?).bind fun y6=>
  (a0).bind fun h7=>
  (a3[h7]?).bind fun y8=>
  bif decide (a2>(w64 (y6.1.2.1+y8.1.2.2.2.2.1))) then
   (yW a0 a1 a2 a3).bind fun r9=>
   some (r9.1,r9.2.1,())
  else
   (a0).bind fun h10=>
   (a3[h10]?).bind fun y11=>
   (a0).bind fun h12=>
   (a3[h12]?).bind fun y13=>
   (a0).bind fun h14=>
   (a3[h14]?).bind fun y15=>
   (a0).bind fun h16=>
   ((List.set a3 h14 (y15.1,y15.2.1,w64 (y13.2.2.1+(w64 (y11.2.1 - r1.1))),y15.2.2.2))[h16]?).bind fun y17=>
   (a0).bind fun h18=>
   ((List.set (List.set a3 h14 (y15.1,y15.2.1,w64 (y13.2.2.1+(w64 (y11.2.1 - r1.1))),y15.2.2.2)) h16 (y17.1,y17.2.1,y17.2.2.1,r1.1,y17.2.2.2.2))[h18]?).bind fun y19=>
   (a0).bind fun h20=>
   ((List.set (List.set (List.set a3 h14 (y15.1,y15.2.1,w64 (y13.2.2.1+(w64 (y11.2.1 - r1.1))),y15.2.2.2)) h16 (y17.1,y17.2.1,y17.2.2.1,r1.1,y17.2.2.2.2)) h18 (y19.1,0,y19.2.2))[h20]?).bind fun y21=>
   some (w64 (a1 - (w64 (y11.2.1 - r1.1))),List.set (List.set (List.set (List.set a3 h14 (y15.1,y15.2.1,w64 (y13.2.2.1+(w64 (y11.2.1 - r1.1))),y15.2.2.2)) h16 (y17.1,y17.2.1,y17.2.2.1,r1.1,y17.2.2.2.2)) h18 (y19.1,0,y19.2.2)) h20 (y21.1,y21.2.1,y21.2.2.1,y21.2.2.2.1,a2),())
abbrev zH:Type:=(List cT)×Int×(List (Option Nat))×(List de)×Int×Int×(List (Bys×(Option Nat)))×(List aB)×Unit
abbrev zG:Type:=(((List (Option Nat))×(List Int)×(List aB)×Unit) ⊕ ((List cT)×Int×(List (Option Nat))×(List (Bys×(Option Nat)))×(List aB)×Unit))
def PL (x1:zH) (again:zH→Option zG):Option zG:=
 match x1 with
 | (A,B,C,D,E,F,G,H,_)=>
 bif decide (F<E) then
  (idx D F).bind fun y2=>
  (JR y2.2.2.1).bind fun r3=>
  chk (decide (((C.length)+1)*8≤140737488355328)&&decide ((C.length)+1≤maxLen)) <|
  again (A,B,C++[(some (H.length))],D,E,w64 (F+1),jJ (k:= .str) (v:= .hnd) G y2.1 (some (H.length)),H++[(y2,r3.1,0,0,0)],())
 else
  some (.inr (A,B,C,G,H,()))
abbrev xP:Type:=Int×(List (Option Nat))×(List Int)×Int×(List cT)×Int×Int×(List Bys)×Int×Int×Int×Int×Int×(List Bys)×(List (Option Nat))×(List (Bys×(Option Nat)))×(List aB)×Unit
abbrev xM:Type:=((((List (Option Nat))×(List Int)×(List aB)×Unit) ⊕ ((List (Option Nat))×(List Int)×(List aB)×Unit)) ⊕ (Int×(List (Option Nat))×(List Int)×Int×(List cT)×Int×Int×Int×Int×Int×(List Bys)×(List (Option Nat))×(List (Bys×(Option Nat)))×(List aB)×Unit))
def Ou (x1:xP) (again:xP→Option xM):Option xM:=
 match x1 with
 | (A,B,C,D,E,F,G,H,I,J,K,L,M,N,O,P,Q,_)=>
 bif decide (J<I) then
  (idx H J).bind fun y2=>
  bif !(Option.isNone (Option.getD (b9 (k:= .str) (v:= .hnd) P y2) none)) then
   (AK (Option.getD (b9 (k:= .str) (v:= .hnd) P y2) none) K Q).bind fun r3=>
   bif r3.1 then
    (GQ (Option.getD (b9 (k:= .str) (v:= .hnd) P y2) none) D K Q).bind fun r4=>
    again (A,B,C,r4.1,E,F,G,H,I,w64 (J+1),K,L,M,N,O,P,r4.2.1,())
   else
    again (A,B,C,D,E,F,G,H,I,w64 (J+1),K,L,M,N,O,P,Q,())
  else
   again (A,B,C,D,E,F,G,H,I,w64 (J+1),K,L,M,N,O,P,Q,())
 else
  some (.inr (A,B,C,D,E,F,G,K,L,M,N,O,P,Q,()))
abbrev xQ:Type:=Int×(List (Option Nat))×(List Int)×Int×(List cT)×Int×Int×Int×Int×Int×Int×Int×(List Bys)×(List (Option Nat))×(List (Bys×(Option Nat)))×(List aB)×Unit
abbrev xN:Type:=((((List (Option Nat))×(List Int)×(List aB)×Unit) ⊕ ((List (Option Nat))×(List Int)×(List aB)×Unit)) ⊕ (Int×(List (Option Nat))×(List Int)×Int×(List cT)×Int×Int×(List (Option Nat))×(List (Bys×(Option Nat)))×(List aB)×Unit))
def Ov (x1:xQ) (again:xQ→Option xN):Option xN:=
 match x1 with
 | (A,B,C,D,E,F,G,H,I,J,K,L,M,N,O,P,_)=>
 bif decide (I<H) then
  chk (decide (0≤I)&&decide (I<(N.length:Int))) <|
  (N[I.toNat]?).bind fun y2=>
  bif decide (D>0) then
   (AK y2 J P).bind fun r3=>
   bif r3.1 then
    (yW y2 D J P).bind fun r4=>
    again (A,B,C,r4.1,E,F,G,H,w64 (I+1),J,K,L,M,N,O,r4.2.1,())
   else
    again (A,B,C,D,E,F,G,H,w64 (I+1),J,K,L,M,N,O,P,())
  else
   again (A,B,C,D,E,F,G,H,w64 (I+1),J,K,L,M,N,O,P,())
 else
  some (.inr (A,B,C,D,E,F,G,N,O,P,()))
abbrev xO:Type:=Int×(List (Option Nat))×(List Int)×(List cT)×Int×Int×(List (Option Nat))×(List (Bys×(Option Nat)))×(List aB)×Unit
abbrev xL:Type:=(((List (Option Nat))×(List Int)×(List aB)×Unit) ⊕ ((List (Option Nat))×(List Int)×(List aB)×Unit))
def Ot (x1:xO) (again:xO→Option xL):Option xL:=
 match x1 with
 | (A,B,C,D,E,F,G,H,I,_)=>
 bif decide (F<E) then
  (idx D F).bind fun y2=>
  bif decide (y2.1>A) then
   some (.inr (B,C,I,()))
  else
   (JR y2.2.1).bind fun r3=>
   az (
    iter (X:=xP) (β:=xM) (A.natAbs+(B.length+(C.length+(r3.1.natAbs+(D.length+(E.natAbs+(F.natAbs+(y2.2.2.length+(Int.natAbs ((y2.2.2.length:Int))+(Int.natAbs (0:Int)+(y2.1.natAbs+(y2.2.1.1.natAbs+(y2.2.1.2.natAbs+(y2.2.2.length+(G.length+(H.length+(I.length+2))))))))))))))))) (A,B,C,r3.1,D,E,F,y2.2.2,(y2.2.2.length:Int),0,y2.1,y2.2.1.1,y2.2.1.2,y2.2.2,G,H,I,()) (Ou)) fun (J,K,L,M,N,O,P,Q,R,S,T,U,V,W,_)=>
   az (
    iter (X:=xQ) (β:=xN) (J.natAbs+(K.length+(L.length+(M.natAbs+(N.length+(O.natAbs+(P.natAbs+(Int.natAbs ((U.length:Int))+(Int.natAbs (0:Int)+(Q.natAbs+(R.natAbs+(S.natAbs+(T.length+(U.length+(V.length+(W.length+2)))))))))))))))) (J,K,L,M,N,O,P,(U.length:Int),0,Q,R,S,T,U,V,W,()) (Ov)) fun (Y,Z,A0,B0,C0,D0,E0,F0,G0,H0,_)=>
   chk (decide (((A0.length)+1)*8≤140737488355328)&&decide ((A0.length)+1≤maxLen)) <|
   again (Y,Z,A0++[B0],C0,D0,w64 (E0+1),F0,G0,H0,())
 else
  some (.inr (B,C,I,()))
def K8 (a0:List de) (a1:List cT) (a2:Int) (a3:List aB):Option ((List (Option Nat))×(List Int)×(List aB)×Unit):=
 az (
  iter (X:=zH) (β:=zG) (a1.length+(a2.natAbs+(List.length ([]:List (Option Nat))+(a0.length+(Int.natAbs ((a0.length:Int))+(Int.natAbs (0:Int)+(List.length ([]:List (Bys×(Option Nat)))+(a3.length+2)))))))) (a1,a2,[],a0,(a0.length:Int),0,[],a3,()) (PL)) fun (A,B,C,D,E,_)=>
 (xI C).bind fun r5=>
 (nW r5.1 () E).bind fun r6=>
 az (
  iter (X:=xO) (β:=xL) (B.natAbs+(C.length+(List.length ([]:List Int)+(A.length+(Int.natAbs ((A.length:Int))+(Int.natAbs (0:Int)+(r6.1.length+(D.length+(E.length+2))))))))) (B,C,[],A,(A.length:Int),0,r6.1,D,E,()) (Ot)) fun (F,G,H,_)=>
 some (F,G,H,())
abbrev oa:Type:=(List Int)×Unit
abbrev z6:Type:=(((List Int)×Unit) ⊕ ((List Int)×Unit))
def zY (x1:oa) (again:oa→Option z6):Option z6:=
 bif decide (((x1.1.length:Int))>0) then
  (idx x1.1 (w64 (((x1.1.length:Int)) - 1))).bind fun y2=>
  bif y2==0 then
   chk (decide (0≤(0:Int))&&decide ((0:Int)≤(w64 (((x1.1.length:Int)) - 1)))&&decide ((w64 (((x1.1.length:Int)) - 1))≤(x1.1.length:Int))) <|
   again (List.drop 0 (List.take (Int.toNat (w64 (((x1.1.length:Int)) - 1))) x1.1),())
  else
   some (.inr (x1.1,()))
 else
  some (.inr (x1.1,()))
def oV (a0:List Int):Option ((List Int)×Unit):=
 az (
  iter (X:=oa) (β:=z6) (a0.length+2) (a0,()) (zY)) fun v3=>
 some (v3.1,())
def iX (a0:Bool) (a1:List Int):Option (aO×Unit):=
 (oV a1).bind fun r1=>
 bif a0 then
  some ((decide (((r1.1.length:Int))>0),r1.1),())
 else
  some ((false,r1.1),())
def kU (a0:Int):Option (aO×Unit):=
 az (γ:=(Int×Int×Bool×(List Int)×Unit)) (
  bif decide (a0<0) then
   some (.inr (a0,cn (0 - (cn a0)),false,[],()))
  else
   some (.inr (a0,cn a0,false,[],()))) fun v1=>
 (iX (decide (v1.1<0)) [(mL v1.2.1),(mL (Int.fdiv v1.2.1 (2 ^ 32)))]).bind fun r2=>
 some (r2.1,())
abbrev wS:Type:=(List Int)×(List Int)×Int×(List Int)×Int×Int×Unit
abbrev wR:Type:=(((List Int)×Unit) ⊕ ((List Int)×Int×Unit))
def wQ (x1:wS) (again:wS→Option wR):Option wR:=
 match x1 with
 | (A,B,C,D,E,F,_)=>
 bif decide (F<E) then
  (idx D F).bind fun y2=>
  az (γ:=((List Int)×(List Int)×Int×(List Int)×Int×Int×Unit)) (
   bif decide (F<((A.length:Int))) then
    (idx A F).bind fun y3=>
    let n4:Int:=cn ((cn (C+(cn y2)))+(cn y3))
    some (.inr (A,B,n4,D,E,F,()))
   else
    some (.inr (A,B,cn (C+(cn y2)),D,E,F,()))) fun (G,H,I,J,K,L,_)=>
  chk (decide (((H.length)+1)*4≤140737488355328)&&decide ((H.length)+1≤maxLen)) <|
  again (G,H++[(mL I)],Int.fdiv I (2 ^ 32),J,K,w64 (L+1),())
 else
  some (.inr (B,C,()))
def DJ (a0:List Int) (a1:List Int):Option ((List Int)×Unit):=
 az (γ:=((List Int)×(List Int)×Unit)) (
  bif decide (((a0.length:Int))<((a1.length:Int))) then
   some (.inr (a1,a0,()))
  else
   some (.inr (a0,a1,()))) fun (A,B,_)=>
 chk (decide (0≤(0:Int))&&decide ((0:Int)≤(w64 (((A.length:Int))+1)))&&decide ((4:Int)*(w64 (((A.length:Int))+1))≤281474976710656)&&decide ((w64 (((A.length:Int))+1))≤9223372036854775807)) <|
 az (
  iter (X:=wS) (β:=wR) (B.length+(List.length ([]:List Int)+(Int.natAbs (0:Int)+(A.length+(Int.natAbs ((A.length:Int))+(Int.natAbs (0:Int)+2)))))) (B,[],0,A,(A.length:Int),0,()) (wQ)) fun (C,D,_)=>
 chk (decide (((C.length)+1)*4≤140737488355328)&&decide ((C.length)+1≤maxLen)) <|
 some (C++[(mL D)],())
abbrev tq:Type:=(List Int)×(List Int)×Int×Unit
abbrev tj:Type:=((Int×Unit) ⊕ Unit)
def nZ (x1:tq) (again:tq→Option tj):Option tj:=
 match x1 with
 | (A,B,C,_)=>
 bif decide (C≥0) then
  (idx A C).bind fun y2=>
  (idx B C).bind fun y3=>
  bif y2 != y3 then
   (idx A C).bind fun y4=>
   (idx B C).bind fun y5=>
   bif decide (y4<y5) then
    some (.inl ((-1),()))
   else
    some (.inl (1,()))
  else
   again (A,B,w64 (C - 1),())
 else
  some (.inr ())
def tZ (a0:List Int) (a1:List Int):Option (Int×Unit):=
 bif ((a0.length:Int)) != ((a1.length:Int)) then
  some (w64 (((a0.length:Int)) - ((a1.length:Int))),())
 else
  az (
   iter (X:=tq) (β:=tj) (a0.length+(a1.length+(Int.natAbs (w64 (((a0.length:Int)) - 1))+2))) (a0,a1,w64 (((a0.length:Int)) - 1),()) (nZ)) fun _=>
  some (0,())
abbrev zD:Type:=(List Int)×(List Int)×Int×(List Int)×Int×Int×Unit
abbrev zC:Type:=(((List Int)×Unit) ⊕ ((List Int)×Unit))
def zB (x1:zD) (again:zD→Option zC):Option zC:=
 match x1 with
 | (A,B,C,D,E,F,_)=>
 bif decide (F<E) then
  (idx D F).bind fun y2=>
  az (γ:=((List Int)×(List Int)×Int×(List Int)×Int×Int×Unit)) (
   bif decide (F<((A.length:Int))) then
    (idx A F).bind fun y3=>
    let n4:Int:=cn ((cn ((cn y2) - C)) - (cn y3))
    some (.inr (A,B,n4,D,E,F,()))
   else
    some (.inr (A,B,cn ((cn y2) - C),D,E,F,()))) fun (G,H,I,J,K,L,_)=>
  chk (decide (((H.length)+1)*4≤140737488355328)&&decide ((H.length)+1≤maxLen)) <|
  again (G,H++[(mL I)],cn (((BitVec.ofInt (IntKind.bits .u64) (Int.fdiv I (2 ^ 32)) &&& BitVec.ofInt (IntKind.bits .u64) 1).toNat:Int)),J,K,w64 (L+1),())
 else
  some (.inr (B,()))
def xG (a0:List Int) (a1:List Int):Option ((List Int)×Unit):=
 chk (decide (0≤(0:Int))&&decide ((0:Int)≤((a0.length:Int)))&&decide ((4:Int)*((a0.length:Int))≤281474976710656)&&decide (((a0.length:Int))≤9223372036854775807)) <|
 az (
  iter (X:=zD) (β:=zC) (a1.length+(List.length ([]:List Int)+(Int.natAbs (0:Int)+(a0.length+(Int.natAbs ((a0.length:Int))+(Int.natAbs (0:Int)+2)))))) (a1,[],0,a0,(a0.length:Int),0,()) (zB)) fun v6=>
 (oV v6.1).bind fun r7=>
 some (r7.1,())
abbrev vj:Type:=(List Int)×Int×Bool×(List Int)×Bool×(List Int)×Bool×(List Int)×Bool×(List Int)×(List Int)×Unit
abbrev vi:Type:=((aO×aO×Unit) ⊕ ((List Int)×Bool×(List Int)×Bool×(List Int)×(List Int)×Unit))
def vh (x1:vj) (again:vj→Option vi):Option vi:=
 match x1 with
 | (A,B,C,D,E,F,G,H,I,J,K,_)=>
 bif decide (B≥0) then
  (DJ A A).bind fun r2=>
  chk (decide (0≤(0:Int))&&decide ((0:Int)<(r2.1.length:Int))) <|
  (r2.1[0]?).bind fun y3=>
  (idx D (w64 (Int.tdiv B 32))).bind fun y4=>
  chk (decide (0≤(Int.tmod B 32))) <|
  let n5:Int:=mL (((BitVec.ofInt (IntKind.bits .u32) (Int.fdiv y4 (2 ^ (min (Int.toNat (Int.tmod B 32)) (IntKind.bits .u32)))) &&& BitVec.ofInt (IntKind.bits .u32) 1).toNat:Int))
  chk (decide (0≤(0:Int))&&decide ((0:Int)<(r2.1.length:Int))) <|
  (r2.1[0]?).bind fun _=>
  (oV (List.set r2.1 0 (mL (((BitVec.ofInt (IntKind.bits .u32) y3 ||| BitVec.ofInt (IntKind.bits .u32) n5).toNat:Int))))).bind fun r6=>
  (tZ r6.1 F).bind fun r7=>
  bif decide (r7.1≥0) then
   (xG r6.1 F).bind fun r8=>
   chk (decide (0≤(w64 (Int.tdiv B 32)))&&decide ((w64 (Int.tdiv B 32))<(K.length:Int))) <|
   (K[(w64 (Int.tdiv B 32)).toNat]?).bind fun y9=>
   chk (decide (0≤(Int.tmod B 32))) <|
   let n10:Int:=mL (((BitVec.ofInt (IntKind.bits .u32) y9 ||| BitVec.ofInt (IntKind.bits .u32) (mL (1*2 ^ (min (Int.toNat (Int.tmod B 32)) (IntKind.bits .u32))))).toNat:Int))
   chk (decide (0≤(w64 (Int.tdiv B 32)))&&decide ((w64 (Int.tdiv B 32))<(K.length:Int))) <|
   (K[(w64 (Int.tdiv B 32)).toNat]?).bind fun _=>
   again (r8.1,w64 (B - 1),C,D,E,F,G,H,I,J,List.set K (w64 (Int.tdiv B 32)).toNat n10,())
  else
   again (r6.1,w64 (B - 1),C,D,E,F,G,H,I,J,K,())
 else
  some (.inr (A,G,H,I,J,K,()))
def wN (a0:aO) (a1:aO):Option (aO×aO×Unit):=
 chk (decide (0≤((a0.2.length:Int)))&&decide (((a0.2.length:Int))≤((a0.2.length:Int)))&&decide ((4:Int)*((a0.2.length:Int))≤281474976710656)&&decide (((a0.2.length:Int))≤9223372036854775807)) <|
 let n1:Int:=w64 ((w64 (((a0.2.length:Int))*32)) - 1)
 az (
  iter (X:=vj) (β:=vi) (List.length ([]:List Int)+(n1.natAbs+(a0.2.length+(a1.2.length+(List.length ([]:List Int)+(List.length ([]:List Int)+(List.length ((List.replicate (Int.toNat ((a0.2.length:Int))) 0):List Int)+2))))))) ([],n1,a0.1,a0.2,a1.1,a1.2,false,[],false,[],List.replicate (Int.toNat ((a0.2.length:Int))) 0,()) (vh)) fun v14=>
 (iX false v14.2.2.2.2.2.1).bind fun r15=>
 (iX false v14.1).bind fun r16=>
 some (r15.1,r16.1,())
def jr (a0:aO):Option (Int×Unit):=
 bif a0.1 then
  some ((-1),())
 else
  bif ((a0.2.length:Int))==0 then
   some (0,())
  else
   some (1,())
def qa (a0:aO):Option (aO×Unit):=
 (iX (!a0.1) a0.2).bind fun r1=>
 some (r1.1,())
abbrev th:Type:=Int×Int×(List Int)×Int×Int×Bool×(List Int)×Unit
abbrev tg:Type:=((Int×Bool×Unit) ⊕ (Int×Int×Bool×(List Int)×Unit))
def td (x1:th) (again:th→Option tg):Option tg:=
 match x1 with
 | (A,B,C,D,E,F,G,_)=>
 bif decide (E<D) then
  (idx C E).bind fun y2=>
  chk (decide (0≤(w64 (32*E)))) <|
  let n3:Int:=cn ((cn y2)*2 ^ (min (Int.toNat (w64 (32*E))) (IntKind.bits .u64)))
  again (A,cn (((BitVec.ofInt (IntKind.bits .u64) B ||| BitVec.ofInt (IntKind.bits .u64) n3).toNat:Int)),C,D,w64 (E+1),F,G,())
 else
  some (.inr (A,B,F,G,()))
def zA (a0:aO) (a1:Int):Option (Int×Bool×Unit):=
 bif decide (((a0.2.length:Int))>2) then
  some (0,false,())
 else
  az (
   iter (X:=th) (β:=tg) (a1.natAbs+(Int.natAbs (0:Int)+(a0.2.length+(Int.natAbs ((a0.2.length:Int))+(Int.natAbs (0:Int)+(a0.2.length+2)))))) (a1,0,a0.2,(a0.2.length:Int),0,a0.1,a0.2,()) (td)) fun (A,B,C,_,_)=>
  bif decide (B>(cn A)) then
   some (0,false,())
  else
   bif C then
    some (w64 (0 - (w64 B)),true,())
   else
    some (w64 B,true,())
def yp (a0:aO) (a1:Int):Option (ah×Int×Unit):=
 (zA a0 1000000000000000).bind fun r1=>
 bif !r1.2.1 then
  some ((0,0),1,())
 else
  some ((r1.1,a1),0,())
abbrev sA:Type:=Int×Bool×(List Int)×Int×Int×Bool×(List Int)×Unit
abbrev sw:Type:=((ah×Int×Unit) ⊕ (Int×Bool×(List Int)×Int×Int×Unit))
def su (x1:sA) (again:sA→Option sw):Option sw:=
 match x1 with
 | (A,B,C,D,E,F,G,_)=>
 bif decide (A>0) then
  (wN (B,C) (F,G)).bind fun r2=>
  (jr r2.2.1).bind fun r3=>
  bif r3.1 != 0 then
   some (.inr (A,B,C,D,E,()))
  else
   (jr (B,C)).bind fun r4=>
   bif decide (r4.1<0) then
    (qa r2.1).bind fun r5=>
    again (w64 (A - 1),r5.1.1,r5.1.2,D,E,F,G,())
   else
    again (w64 (A - 1),r2.1.1,r2.1.2,D,E,F,G,())
 else
  some (.inr (A,B,C,D,E,()))
def tr (a0:aO) (a1:Int):Option (ah×Int×Unit):=
 (kU 10).bind fun r1=>
 az (
  iter (X:=sA) (β:=sw) (a1.natAbs+(a0.2.length+(Int.natAbs (0:Int)+(Int.natAbs (0:Int)+(r1.1.2.length+2))))) (a1,a0.1,a0.2,0,0,r1.1.1,r1.1.2,()) (su)) fun v7=>
 (yp (v7.2.1,v7.2.2.1) v7.1).bind fun r8=>
 some (r8.1,r8.2.1,())
def QX (a0:Int):Option (ah×Int×Unit):=
 (kU a0).bind fun r1=>
 (tr r1.1 4).bind fun r2=>
 some (r2.1,r2.2.1,())
def wV (a0:Int):Option (ah×Unit):=
 (QX a0).bind fun r1=>
 some (r1.1,())
abbrev HR:Type:=(List Int)×(List oW)×(List (Option Nat))×Int×Int×(List aB)×Unit
abbrev HQ:Type:=(((List oW)×(List ah)×Int×Unit) ⊕ ((List Int)×(List oW)×(List aB)×Unit))
def XK (x1:HR) (again:HR→Option HQ):Option HQ:=
 match x1 with
 | (A,B,C,D,E,F,_)=>
 bif decide (E<D) then
  (idx C E).bind fun y2=>
  (y2).bind fun h3=>
  (F[h3]?).bind fun y4=>
  (y2).bind fun h5=>
  (F[h5]?).bind fun y6=>
  (wV y6.2.2.1).bind fun r7=>
  (y2).bind fun h8=>
  (F[h8]?).bind fun y9=>
  (wV y9.2.2.2.1).bind fun r10=>
  (y2).bind fun h11=>
  (F[h11]?).bind fun y12=>
  chk (decide (((B.length)+1)*56≤140737488355328)&&decide ((B.length)+1≤maxLen)) <|
  again (A,B++[(y4.1.1,r7.1,r10.1,y12.2.2.2.2)],C,D,w64 (E+1),F,())
 else
  some (.inr (A,B,F,()))
abbrev Fl:Type:=(List oW)×(List ah)×(List Int)×Int×Int×(List aB)×Unit
abbrev Fk:Type:=(((List oW)×(List ah)×Int×Unit) ⊕ ((List oW)×(List ah)×(List aB)×Unit))
def V7 (x1:Fl) (again:Fl→Option Fk):Option Fk:=
 match x1 with
 | (A,B,C,D,E,F,_)=>
 bif decide (E<D) then
  (idx C E).bind fun y2=>
  (wV y2).bind fun r3=>
  chk (decide (((B.length)+1)*16≤140737488355328)&&decide ((B.length)+1≤maxLen)) <|
  again (A,B++[r3.1],C,D,w64 (E+1),F,())
 else
  some (.inr (A,B,F,()))
def V6 (a0:List de) (a1:List cT):Option ((List oW)×(List ah)×Int×Unit):=
 (IM a0 a1).bind fun r1=>
 bif r1.1 != 0 then
  some ([],[],r1.1,())
 else
  (K8 a0 a1 3652059 []).bind fun r2=>
  az (
   iter (X:=HR) (β:=HQ) (r2.2.1.length+(List.length ([]:List oW)+(r2.1.length+(Int.natAbs ((r2.1.length:Int))+(Int.natAbs (0:Int)+(r2.2.2.1.length+2)))))) (r2.2.1,[],r2.1,(r2.1.length:Int),0,r2.2.2.1,()) (XK)) fun (A,B,C,_)=>
  az (
   iter (X:=Fl) (β:=Fk) (B.length+(List.length ([]:List ah)+(A.length+(Int.natAbs ((A.length:Int))+(Int.natAbs (0:Int)+(C.length+2)))))) (B,[],A,(A.length:Int),0,C,()) (V7)) fun v19=>
  some (v19.1,v19.2.1,0,())
def M4:Option (Bool×Unit):=
 (V6 [([97],5,(7,0),0,0,0)] [(6,(9,0),[])]).bind fun r1=>
 bif r1.2.2.1==0 then
  bif ((r1.1.length:Int))==1 then
   (idx r1.1 0).bind fun y2=>
   bif y2.2.2.2==6 then
    bif ((r1.2.1.length:Int))==1 then
     (idx r1.2.1 0).bind fun y3=>
     some (y3.1==2,())
    else
     some (false,())
   else
    some (false,())
  else
   some (false,())
 else
  some (false,())
abbrev F5:Type:=Int×Bool×(List Int)×Bool×(List Int)×Unit
abbrev FZ:Type:=((aJ×Unit) ⊕ (Bool×(List Int)×Bool×(List Int)×Unit))
def zO (x1:F5) (again:F5→Option FZ):Option FZ:=
 match x1 with
 | (A,B,C,D,E,_)=>
 bif A != 0 then
  chk (decide (((E.length)+1)*8≤140737488355328)&&decide ((E.length)+1≤maxLen)) <|
  again (w64 (Int.tdiv A 1000000),B,C,D,E++[(if (w64 (0 - (Int.tmod A 1000000)))>(Int.tmod A 1000000) then (w64 (0 - (Int.tmod A 1000000))) else (Int.tmod A 1000000))],())
 else
  some (.inr (B,C,D,E,()))
def sX (a0:Int):Option (aJ×Unit):=
 az (
  iter (X:=F5) (β:=FZ) (a0.natAbs+(List.length ([]:List Int)+(List.length ([]:List Int)+2))) (a0,false,[],decide (a0<0),[],()) (zO)) fun v2=>
 some ((v2.2.2.1,v2.2.2.2.1),())
abbrev tT:Type:=Bool×(List Int)×Bool×(List Int)×Unit
abbrev D4:Type:=((aJ×Unit) ⊕ (Bool×(List Int)×Bool×(List Int)×Unit))
def D3 (x1:tT) (again:tT→Option D4):Option D4:=
 match x1 with
 | (A,B,C,D,_)=>
 bif decide (((B.length:Int))>0) then
  (idx B (w64 (((B.length:Int)) - 1))).bind fun y2=>
  bif y2==0 then
   chk (decide (0≤(0:Int))&&decide ((0:Int)≤(w64 (((B.length:Int)) - 1)))&&decide ((w64 (((B.length:Int)) - 1))≤(B.length:Int))) <|
   again (A,List.drop 0 (List.take (Int.toNat (w64 (((B.length:Int)) - 1))) B),C,D,())
  else
   some (.inr (A,B,C,D,()))
 else
  some (.inr (A,B,C,D,()))
def p8 (a0:aJ):Option (aJ×Unit):=
 az (
  iter (X:=tT) (β:=D4) (a0.2.length+(List.length ([]:List Int)+2)) (a0.1,a0.2,false,[],()) (D3)) fun v3=>
 bif ((v3.2.1.length:Int))==0 then
  some ((false,v3.2.1),())
 else
  some ((v3.1,v3.2.1),())
abbrev zo:Type:=Int×Int×(List Int)×Int×Int×(List Int)×Int×Int×Bool×(List Int)×Bool×(List Int)×Bool×(List Int)×Unit
abbrev zm:Type:=(((aJ×Unit) ⊕ (Bool×(List Int)×Bool×(List Int)×Unit)) ⊕ ((List Int)×Int×Int×Bool×(List Int)×Bool×(List Int)×Bool×(List Int)×Unit))
def zk (x1:zo) (again:zo→Option zm):Option zm:=
 match x1 with
 | (A,B,C,D,E,F,G,H,I,J,K,L,M,N,_)=>
 bif decide (H<G) then
  (idx F H).bind fun y2=>
  chk (decide (0≤(w64 (A+H)))&&decide ((w64 (A+H))<(N.length:Int))) <|
  (N[(w64 (A+H)).toNat]?).bind fun y3=>
  chk (decide (0≤(w64 (A+H)))&&decide ((w64 (A+H))<(N.length:Int))) <|
  (N[(w64 (A+H)).toNat]?).bind fun _=>
  chk (decide (0≤(w64 ((w64 (A+H))+1)))&&decide ((w64 ((w64 (A+H))+1))<(List.length (List.set N (w64 (A+H)).toNat (w64 (y3+(w64 (B*y2))))):Int))) <|
  ((List.set N (w64 (A+H)).toNat (w64 (y3+(w64 (B*y2)))))[(w64 ((w64 (A+H))+1)).toNat]?).bind fun y4=>
  chk (decide (0≤(w64 (A+H)))&&decide ((w64 (A+H))<(List.length (List.set N (w64 (A+H)).toNat (w64 (y3+(w64 (B*y2))))):Int))) <|
  ((List.set N (w64 (A+H)).toNat (w64 (y3+(w64 (B*y2)))))[(w64 (A+H)).toNat]?).bind fun y5=>
  chk (decide (0≤(w64 ((w64 (A+H))+1)))&&decide ((w64 ((w64 (A+H))+1))<(List.length (List.set N (w64 (A+H)).toNat (w64 (y3+(w64 (B*y2))))):Int))) <|
  ((List.set N (w64 (A+H)).toNat (w64 (y3+(w64 (B*y2)))))[(w64 ((w64 (A+H))+1)).toNat]?).bind fun _=>
  chk (decide (0≤(w64 (A+H)))&&decide ((w64 (A+H))<(List.length (List.set (List.set N (w64 (A+H)).toNat (w64 (y3+(w64 (B*y2))))) (w64 ((w64 (A+H))+1)).toNat (w64 (y4+(w64 (Int.tdiv y5 1000000))))):Int))) <|
  ((List.set (List.set N (w64 (A+H)).toNat (w64 (y3+(w64 (B*y2))))) (w64 ((w64 (A+H))+1)).toNat (w64 (y4+(w64 (Int.tdiv y5 1000000)))))[(w64 (A+H)).toNat]?).bind fun y6=>
  chk (decide (0≤(w64 (A+H)))&&decide ((w64 (A+H))<(List.length (List.set (List.set N (w64 (A+H)).toNat (w64 (y3+(w64 (B*y2))))) (w64 ((w64 (A+H))+1)).toNat (w64 (y4+(w64 (Int.tdiv y5 1000000))))):Int))) <|
  ((List.set (List.set N (w64 (A+H)).toNat (w64 (y3+(w64 (B*y2))))) (w64 ((w64 (A+H))+1)).toNat (w64 (y4+(w64 (Int.tdiv y5 1000000)))))[(w64 (A+H)).toNat]?).bind fun _=>
  again (A,B,C,D,E,F,G,w64 (H+1),I,J,K,L,M,List.set (List.set (List.set N (w64 (A+H)).toNat (w64 (y3+(w64 (B*y2))))) (w64 ((w64 (A+H))+1)).toNat (w64 (y4+(w64 (Int.tdiv y5 1000000))))) (w64 (A+H)).toNat (Int.tmod y6 1000000),())
 else
  some (.inr (C,D,E,I,J,K,L,M,N,()))
abbrev zn:Type:=(List Int)×Int×Int×Bool×(List Int)×Bool×(List Int)×Bool×(List Int)×Unit
abbrev zl:Type:=((aJ×Unit) ⊕ (Bool×(List Int)×Bool×(List Int)×Unit))
def zj (x1:zn) (again:zn→Option zl):Option zl:=
 match x1 with
 | (A,B,C,D,E,F,G,H,I,_)=>
 bif decide (C<B) then
  (idx A C).bind fun y2=>
  az (
   iter (X:=zo) (β:=zm) (C.natAbs+(y2.natAbs+(A.length+(B.natAbs+(C.natAbs+(E.length+(Int.natAbs ((E.length:Int))+(Int.natAbs (0:Int)+(E.length+(G.length+(I.length+2))))))))))) (C,y2,A,B,C,E,(E.length:Int),0,D,E,F,G,H,I,()) (zk)) fun (J,K,L,M,N,O,P,Q,R,_)=>
  again (J,K,w64 (L+1),M,N,O,P,Q,R,())
 else
  some (.inr (F,G,H,I,()))
abbrev xB:Type:=Int×Int×Bool×(List Int)×Bool×(List Int)×Unit
abbrev xA:Type:=((aJ×Unit) ⊕ (Bool×(List Int)×Bool×(List Int)×Unit))
def xz (x1:xB) (again:xB→Option xA):Option xA:=
 match x1 with
 | (A,B,C,D,E,F,_)=>
 bif decide (B<A) then
  chk (decide (0≤(w64 (B+1)))&&decide ((w64 (B+1))<(F.length:Int))) <|
  (F[(w64 (B+1)).toNat]?).bind fun y2=>
  chk (decide (0≤B)&&decide (B<(F.length:Int))) <|
  (F[B.toNat]?).bind fun y3=>
  chk (decide (0≤(w64 (B+1)))&&decide ((w64 (B+1))<(F.length:Int))) <|
  (F[(w64 (B+1)).toNat]?).bind fun _=>
  chk (decide (0≤B)&&decide (B<(List.length (List.set F (w64 (B+1)).toNat (w64 (y2+(w64 (Int.tdiv y3 1000000))))):Int))) <|
  ((List.set F (w64 (B+1)).toNat (w64 (y2+(w64 (Int.tdiv y3 1000000)))))[B.toNat]?).bind fun y4=>
  chk (decide (0≤B)&&decide (B<(List.length (List.set F (w64 (B+1)).toNat (w64 (y2+(w64 (Int.tdiv y3 1000000))))):Int))) <|
  ((List.set F (w64 (B+1)).toNat (w64 (y2+(w64 (Int.tdiv y3 1000000)))))[B.toNat]?).bind fun _=>
  again (A,w64 (B+1),C,D,E,List.set (List.set F (w64 (B+1)).toNat (w64 (y2+(w64 (Int.tdiv y3 1000000))))) B.toNat (Int.tmod y4 1000000),())
 else
  some (.inr (C,D,E,F,()))
def lC (a0:aJ) (a1:aJ):Option (aJ×Unit):=
 let n1:Int:=w64 ((w64 (((a0.2.length:Int))+((a1.2.length:Int))))+1)
 chk (decide (0≤n1)&&decide (n1≤n1)&&decide ((8:Int)*n1≤281474976710656)&&decide (n1≤9223372036854775807)) <|
 az (
  iter (X:=zn) (β:=zl) (a0.2.length+(Int.natAbs ((a0.2.length:Int))+(Int.natAbs (0:Int)+(a1.2.length+(List.length ([]:List Int)+(List.length ((List.replicate (Int.toNat n1) 0):List Int)+2)))))) (a0.2,(a0.2.length:Int),0,a1.1,a1.2,false,[], !(a0.1==a1.1),List.replicate (Int.toNat n1) 0,()) (zj)) fun (A,B,C,D,_)=>
 az (
  iter (X:=xB) (β:=xA) (Int.natAbs (w64 (((D.length:Int)) - 1))+(Int.natAbs (0:Int)+(B.length+(D.length+2)))) (w64 (((D.length:Int)) - 1),0,A,B,C,D,()) (xz)) fun v21=>
 (p8 (v21.2.2.1,v21.2.2.2.1)).bind fun r22=>
 some (r22.1,())
abbrev CM:Type:=Int×Int×Bool×(List Int)×Bool×(List Int)×Unit
abbrev CL:Type:=((aJ×Unit) ⊕ (Bool×(List Int)×Bool×(List Int)×Unit))
def CJ (x1:CM) (again:CM→Option CL):Option CL:=
 match x1 with
 | (A,B,C,D,E,F,_)=>
 bif decide (B<A) then
  (sX 10).bind fun r2=>
  (lC (E,F) r2.1).bind fun r3=>
  again (A,w64 (B+1),C,D,r3.1.1,r3.1.2,())
 else
  some (.inr (C,D,E,F,()))
def KN (a0:Int):Option (aJ×Unit):=
 (sX 1).bind fun r1=>
 az (
  iter (X:=CM) (β:=CL) (a0.natAbs+(Int.natAbs (0:Int)+(List.length ([]:List Int)+(r1.1.2.length+2)))) (a0,0,false,[],r1.1.1,r1.1.2,()) (CJ)) fun v5=>
 some ((v5.2.2.1,v5.2.2.2.1),())
def A8 (a0:ah) (a1:Int):Option (aJ×Unit):=
 (sX a0.1).bind fun r1=>
 (KN (w64 (a1 - a0.2))).bind fun r2=>
 (lC r1.1 r2.1).bind fun r3=>
 some (r3.1,())
abbrev CO:Type:=(List Int)×(List Int)×Int×Unit
abbrev CN:Type:=((Int×Unit) ⊕ Unit)
def yF (x1:CO) (again:CO→Option CN):Option CN:=
 match x1 with
 | (A,B,C,_)=>
 bif decide (C≥0) then
  (idx A C).bind fun y2=>
  (idx B C).bind fun y3=>
  bif y2 != y3 then
   (idx A C).bind fun y4=>
   (idx B C).bind fun y5=>
   some (.inl (w64 (y4 - y5),()))
  else
   again (A,B,w64 (C - 1),())
 else
  some (.inr ())
def KO (a0:List Int) (a1:List Int):Option (Int×Unit):=
 bif ((a0.length:Int)) != ((a1.length:Int)) then
  some (w64 (((a0.length:Int)) - ((a1.length:Int))),())
 else
  az (
   iter (X:=CO) (β:=CN) (a0.length+(a1.length+(Int.natAbs (w64 (((a0.length:Int)) - 1))+2))) (a0,a1,w64 (((a0.length:Int)) - 1),()) (yF)) fun _=>
  some (0,())
def Cd (a0:List Int) (a1:Int):Option (Int×Unit):=
 bif decide (a1<((a0.length:Int))) then
  (idx a0 a1).bind fun y1=>
  some (y1,())
 else
  some (0,())
abbrev Bf:Type:=Int×Int×Int×Bool×(List Int)×Bool×(List Int)×Bool×(List Int)×Bool×(List Int)×Unit
abbrev Be:Type:=((aJ×Unit) ⊕ (Bool×(List Int)×Bool×(List Int)×Unit))
def Bc (x1:Bf) (again:Bf→Option Be):Option Be:=
 match x1 with
 | (A,B,C,D,E,F,G,H,I,J,K,_)=>
 bif decide (C<B) then
  (idx E C).bind fun y2=>
  (Cd G C).bind fun r3=>
  az (γ:=(Int×Int×Int×Int×Bool×(List Int)×Bool×(List Int)×Bool×(List Int)×Bool×(List Int)×Unit)) (
   bif decide ((w64 ((w64 (y2 - r3.1)) - A))<0) then
    let n4:Int:=w64 ((w64 ((w64 (y2 - r3.1)) - A))+1000000)
    some (.inr (1,n4,B,C,D,E,F,G,H,I,J,K,()))
   else
    some (.inr (0,w64 ((w64 (y2 - r3.1)) - A),B,C,D,E,F,G,H,I,J,K,()))) fun (L,M,N,O,P,Q,R,S,T,U,V,W,_)=>
  chk (decide (((W.length)+1)*8≤140737488355328)&&decide ((W.length)+1≤maxLen)) <|
  again (L,N,w64 (O+1),P,Q,R,S,T,U,V,W++[M],())
 else
  some (.inr (H,I,J,K,()))
abbrev CI:Type:=Int×Int×Int×Bool×(List Int)×Bool×(List Int)×Bool×(List Int)×Bool×(List Int)×Unit
abbrev CH:Type:=((aJ×Unit) ⊕ (Bool×(List Int)×Bool×(List Int)×Unit))
def CG (x1:CI) (again:CI→Option CH):Option CH:=
 match x1 with
 | (A,B,C,D,E,F,G,H,I,J,K,_)=>
 bif decide (C<B) then
  (Cd E C).bind fun r2=>
  (Cd G C).bind fun r3=>
  let n4:Int:=Int.tmod (w64 ((w64 (r2.1+r3.1))+A)) 1000000
  chk (decide (((K.length)+1)*8≤140737488355328)&&decide ((K.length)+1≤maxLen)) <|
  let n5:Int:=w64 (Int.tdiv (w64 ((w64 (r2.1+r3.1))+A)) 1000000)
  again (n5,B,w64 (C+1),D,E,F,G,H,I,J,K++[n4],())
 else
  some (.inr (H,I,J,K,()))
def Oc (a0:aJ) (a1:aJ):Option (aJ×Unit):=
 bif !(a0.1==a1.1) then
  (KO a0.2 a1.2).bind fun r1=>
  az (γ:=(Bool×(List Int)×Bool×(List Int)×Bool×(List Int)×Unit)) (
   bif decide (r1.1<0) then
    some (.inr (a1.1,a1.2,a0.1,a0.2,false,[],()))
   else
    some (.inr (a0.1,a0.2,a1.1,a1.2,false,[],()))) fun (A,B,C,D,E,F,_)=>
  az (
   iter (X:=Bf) (β:=Be) (Int.natAbs (0:Int)+(Int.natAbs ((B.length:Int))+(Int.natAbs (0:Int)+(B.length+(D.length+(F.length+(List.length ([]:List Int)+2))))))) (0,(B.length:Int),0,A,B,C,D,E,F,A,[],()) (Bc)) fun v8=>
  (p8 (v8.2.2.1,v8.2.2.2.1)).bind fun r9=>
  some (r9.1,())
 else
  let n10:Int:=w64 ((if ((a1.2.length:Int))>((a0.2.length:Int)) then ((a1.2.length:Int)) else ((a0.2.length:Int)))+1)
  az (
   iter (X:=CI) (β:=CH) (Int.natAbs (0:Int)+(n10.natAbs+(Int.natAbs (0:Int)+(a0.2.length+(a1.2.length+(List.length ([]:List Int)+(List.length ([]:List Int)+2))))))) (0,n10,0,a0.1,a0.2,a1.1,a1.2,false,[],a0.1,[],()) (CG)) fun v16=>
  (p8 (v16.2.2.1,v16.2.2.2.1)).bind fun r17=>
  some (r17.1,())
def KM (a0:aJ):Option (aJ×Unit):=
 bif decide (((a0.2.length:Int))>0) then
  some ((!a0.1,a0.2),())
 else
  some (a0,())
def Od (a0:aJ):Option (Int×Unit):=
 bif ((a0.2.length:Int))==0 then
  some (0,())
 else
  bif a0.1 then
   some ((-1),())
  else
   some (1,())
def FY (a0:aJ) (a1:aJ):Option (Int×Unit):=
 (KM a1).bind fun r1=>
 (Oc a0 r1.1).bind fun r2=>
 (Od r2.1).bind fun r3=>
 some (r3.1,())
end Go.Md
namespace Go.Md
open Go.Dn
abbrev F7:Type:=Bys×Int×Int×Unit
abbrev F6:Type:=((Bool×Unit) ⊕ Unit)
def Bg (x1:F7) (again:F7→Option F6):Option F6:=
 match x1 with
 | (A,B,C,_)=>
 bif decide (C<B) then
  (D5 A C).bind fun c2=>
  bif decide ((c2.toNat:Int)<97) then
   bif decide ((c2.toNat:Int)<48) then
    bif (c2.toNat:Int) != 45 then
     some (.inl (false,()))
    else
     again (A,B,w64 (C+1),())
   else
    bif decide ((c2.toNat:Int)>57) then
     bif (c2.toNat:Int) != 45 then
      some (.inl (false,()))
     else
      again (A,B,w64 (C+1),())
    else
     again (A,B,w64 (C+1),())
  else
   bif decide ((c2.toNat:Int)>122) then
    bif decide ((c2.toNat:Int)<48) then
     bif (c2.toNat:Int) != 45 then
      some (.inl (false,()))
     else
      again (A,B,w64 (C+1),())
    else
     bif decide ((c2.toNat:Int)>57) then
      bif (c2.toNat:Int) != 45 then
       some (.inl (false,()))
      else
       again (A,B,w64 (C+1),())
     else
      again (A,B,w64 (C+1),())
   else
    again (A,B,w64 (C+1),())
 else
  some (.inr ())
def Ny (a0:Bys):Option (Bool×Unit):=
 bif a0==[] then
  some (false,())
 else
  bif decide (((a0.length:Int))>40) then
   some (false,())
  else
   (D5 a0 0).bind fun c1=>
   bif decide ((c1.toNat:Int)<97) then
    some (false,())
   else
    (D5 a0 0).bind fun c2=>
    bif decide ((c2.toNat:Int)>122) then
     some (false,())
    else
     az (
      iter (X:=F7) (β:=F6) (a0.length+(Int.natAbs ((a0.length:Int))+(Int.natAbs (0:Int)+2))) (a0,(a0.length:Int),0,()) (Bg)) fun _=>
     some (true,())
def fJ (a0:Bys):Option (Bool×Unit):=
 (Ny a0).bind fun r1=>
 some (r1.1,())
def Ak (a0:Int) (a1:Int) (a2:Int):Option (Bool×Unit):=
 bif decide (a1≤a0) then
  some (decide (a0≤a2),())
 else
  some (false,())
def QA (a0:Int):Option (Bool×Unit):=
 (Ak a0 1 3652059).bind fun r1=>
 some (r1.1,())
def we (a0:Int):Option (Bool×Unit):=
 (QA a0).bind fun r1=>
 some (r1.1,())
def iG (a0:ah):Option (Int×Unit):=
 (Ak a0.1 (-1000000000000000) 1000000000000000).bind fun r1=>
 bif !r1.1 then
  some (1,())
 else
  (Ak a0.2 0 9).bind fun r2=>
  bif !r2.1 then
   some (1,())
  else
   some (0,())
def Jq (a0:ah) (a1:ah):Option (Int×Unit):=
 (A8 a0 9).bind fun r1=>
 (A8 a1 9).bind fun r2=>
 (FY r1.1 r2.1).bind fun r3=>
 some (r3.1,())
def kO (a0:ah) (a1:Int) (a2:Int) (a3:Int):Option (Bool×Unit):=
 (iG a0).bind fun r1=>
 bif r1.1==0 then
  bif decide (a0.2≤a3) then
   (Jq a0 (a1,0)).bind fun r2=>
   bif decide (r2.1≥0) then
    (Jq a0 (a2,0)).bind fun r3=>
    some (decide (r3.1≤0),())
   else
    some (false,())
  else
   some (false,())
 else
  some (false,())
def jQ (a0:Int) (a1:Int) (a2:Int):Option (Bool×Unit):=
 bif decide (a1≤a0) then
  some (decide (a0≤a2),())
 else
  some (false,())
abbrev Bb:Type:=Int×Int×Int×Int×Unit
abbrev Ba:Type:=((ah×Unit) ⊕ (Int×Int×Int×Int×Unit))
def A9 (x1:Bb) (again:Bb→Option Ba):Option Ba:=
 match x1 with
 | (A,B,C,D,_)=>
 bif decide (B>0) then
  bif (Int.tmod A 10)==0 then
   again (w64 (Int.tdiv A 10),w64 (B - 1),C,D,())
  else
   some (.inr (A,B,C,D,()))
 else
  some (.inr (A,B,C,D,()))
def gM (a0:ah):Option (ah×Unit):=
 az (
  iter (X:=Bb) (β:=Ba) (a0.1.natAbs+(a0.2.natAbs+(Int.natAbs (0:Int)+(Int.natAbs (0:Int)+2)))) (a0.1,a0.2,0,0,()) (A9)) fun v2=>
 some ((v2.1,v2.2.1),())
end Go.Md
end
