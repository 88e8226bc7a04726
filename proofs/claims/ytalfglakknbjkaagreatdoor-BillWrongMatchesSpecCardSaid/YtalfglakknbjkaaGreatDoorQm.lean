/-
  Plain models of functions. No condition.
-/
import Derived.Test.YtalfglakknbjkaaGreatDoorQd
import Derived.Lib.SlTrimSet
set_option linter.all false
noncomputable section
namespace Go.Md
open Go.Dn
abbrev Bys:Type:=List UInt8
def nO (s c:Bys):Option (Bys×Unit):=
 bif decide (s.length≤9223372036854775807)&&(decide (c.length<4294967281)&&c.all fun b=>decide (b.toNat<128)) then some (Lib.trimS s c,()) else none
abbrev aN:Ty:=(.st (.pair tI tI))
abbrev aj:Type:=Int×Int
abbrev cV:Ty:=(.st (.pair tI (.pair aN (.slice .str))))
abbrev cO:Type:=Int×aj×(List Bys)
abbrev En:Ty:=(.st (.pair .str (.pair aN (.pair aN tI))))
abbrev qM:Type:=Bys×aj×aj×Int
abbrev bn:Ty:=(.st (.pair .bool (.slice tI)))
abbrev aP:Type:=Bool×(List Int)
abbrev gC:Ty:=(.st (.pair .str (.pair tI (.pair aN (.pair tI (.pair tI tI))))))
abbrev c9:Type:=Bys×Int×aj×Int×Int×Int
abbrev bu:Ty:=(.st (.pair gC (.pair tI (.pair tI (.pair tI tI)))))
abbrev aV:Type:=c9×Int×Int×Int×Int
abbrev av:Ty:=(.st (.pair .bool (.slice (.int .u32))))
abbrev aa:Type:=Bool×(List Int)
def gd (a0:Bys):Option (Bool×Unit):=
 bif decide (((a0.length:Int))<1) then
  some (false,())
 else
  bif decide (((a0.length:Int))>40) then
   some (false,())
  else
   (HW a0 0).bind fun c1=>
   bif decide ((c1.toNat:Int)<97) then
    some (false,())
   else
    (HW a0 0).bind fun c2=>
    bif decide ((c2.toNat:Int)>122) then
     some (false,())
    else
     (nO a0 [97,98,99,100,101,102,103,104,105,106,107,108,109,110,111,112,113,114,115,116,117,118,119,120,121,122,48,49,50,51,52,53,54,55,56,57,45]).bind fun r3=>
     some (r3.1==[],())
def Ia (a0:c9) (a1:c9):Option (Bool×Unit):=
 some (a0.1==a1.1,())
abbrev nc:Type:=(List c9)×c9×Int×Int×Unit
abbrev mY:Type:=((Int×Unit) ⊕ Unit)
def Fx (x1:nc) (again:nc→Option mY):Option mY:=
 match x1 with
 | (A,B,C,D,_)=>
 bif decide (D<C) then
  (idx A D).bind fun y2=>
  (Ia y2 B).bind fun r3=>
  bif r3.1 then
   some (.inl (D,()))
  else
   again (A,B,C,w64 (D+1),())
 else
  some (.inr ())
def wZ (a0:List c9) (a1:c9):Option (Int×Unit):=
 aO (
  iter (X:=nc) (β:=mY) (a0.length+(Int.natAbs ((a0.length:Int))+(Int.natAbs (0:Int)+2))) (a0,a1,(a0.length:Int),0,()) (Fx)) fun _=>
 some ((-1),())
def tg (a0:List c9) (a1:c9):Option (Bool×Unit):=
 (wZ a0 a1).bind fun r1=>
 some (decide (r1.1≥0),())
def cD (a0:Int) (a1:Int) (a2:Int):Option (Bool×Unit):=
 bif decide (a0<a1) then
  some (true,())
 else
  some (decide (a0>a2),())
def CY (a0:Int):Option (Bool×Unit):=
 (cD a0 1 3652059).bind fun r1=>
 some (!r1.1,())
def cl (a0:aj):Option (Int×Unit):=
 (cD a0.1 (-1000000000000000) 1000000000000000).bind fun r1=>
 bif r1.1 then
  some (1,())
 else
  (cD a0.2 0 9).bind fun r2=>
  bif r2.1 then
   some (1,())
  else
   some (0,())
abbrev A9:Type:=Int×Int×Int×Unit
abbrev BT:Type:=((Int×Unit) ⊕ (Int×Unit))
def Bc (x1:A9) (again:A9→Option BT):Option BT:=
 bif decide (x1.2.2.1<x1.2.1) then
  again (w64 (x1.1*10),x1.2.1,w64 (x1.2.2.1+1),())
 else
  some (.inr (x1.1,()))
def yX (a0:Int):Option (Int×Unit):=
 aO (
  iter (X:=A9) (β:=BT) (Int.natAbs (1:Int)+(a0.natAbs+(Int.natAbs (0:Int)+2))) (1,a0,0,()) (Bc)) fun v2=>
 some (v2.1,())
def fJ (a0:aj) (a1:Int):Option (Bool×Unit):=
 (yX a0.2).bind fun r1=>
 (cD a0.1 (w64 (0 - (w64 (a1*r1.1)))) (w64 (a1*r1.1))).bind fun r2=>
 some (!r2.1,())
def qP (a0:aj):Option (Int×Unit):=
 (cl a0).bind fun r1=>
 bif r1.1 != 0 then
  some (r1.1,())
 else
  bif decide (a0.1≤0) then
   some (1,())
  else
   bif decide (a0.2>4) then
    some (1,())
   else
    (fJ a0 1000000000).bind fun r2=>
    bif !r2.1 then
     some (1,())
    else
     some (0,())
abbrev x6:Type:=(List c9)×(List c9)×Int×Int×Unit
abbrev yM:Type:=((Int×Unit) ⊕ Unit)
def QK (x1:x6) (again:x6→Option yM):Option yM:=
 match x1 with
 | (A,B,C,D,_)=>
 bif decide (D<C) then
  (idx B D).bind fun y2=>
  (gd y2.1).bind fun r3=>
  bif !r3.1 then
   some (.inl (5,()))
  else
   chk (decide (0≤(0:Int))&&decide ((0:Int)≤D)&&decide (D≤(A.length:Int))) <|
   (tg (List.drop 0 (List.take (Int.toNat D) A)) y2).bind fun r4=>
   bif r4.1 then
    some (.inl (7,()))
   else
    (CY y2.2.1).bind fun r5=>
    bif !r5.1 then
     some (.inl (1,()))
    else
     bif decide (D>0) then
      (idx A (w64 (D - 1))).bind fun y6=>
      bif decide (y2.2.1<y6.2.1) then
       some (.inl (8,()))
      else
       (qP y2.2.2.1).bind fun r7=>
       bif r7.1 != 0 then
        some (.inl (r7.1,()))
       else
        (cD y2.2.2.2.1 0 10000).bind fun r8=>
        bif r8.1 then
         some (.inl (1,()))
        else
         (cD y2.2.2.2.2.1 0 y2.2.2.2.1).bind fun r9=>
         bif r9.1 then
          some (.inl (1,()))
         else
          (cD y2.2.2.2.2.2 0 1000).bind fun r10=>
          bif r10.1 then
           some (.inl (1,()))
          else
           again (A,B,C,w64 (D+1),())
     else
      (qP y2.2.2.1).bind fun r11=>
      bif r11.1 != 0 then
       some (.inl (r11.1,()))
      else
       (cD y2.2.2.2.1 0 10000).bind fun r12=>
       bif r12.1 then
        some (.inl (1,()))
       else
        (cD y2.2.2.2.2.1 0 y2.2.2.2.1).bind fun r13=>
        bif r13.1 then
         some (.inl (1,()))
        else
         (cD y2.2.2.2.2.2 0 1000).bind fun r14=>
         bif r14.1 then
          some (.inl (1,()))
         else
          again (A,B,C,w64 (D+1),())
 else
  some (.inr ())
def KN (a0:List c9):Option (Int×Unit):=
 bif decide (((a0.length:Int))>200) then
  some (2,())
 else
  aO (
   iter (X:=x6) (β:=yM) (a0.length+(a0.length+(Int.natAbs ((a0.length:Int))+(Int.natAbs (0:Int)+2)))) (a0,a0,(a0.length:Int),0,()) (QK)) fun _=>
  some (0,())
abbrev rM:Type:=(List Bys)×Bys×Int×Int×Unit
abbrev sd:Type:=((Int×Unit) ⊕ Unit)
def LN (x1:rM) (again:rM→Option sd):Option sd:=
 match x1 with
 | (A,B,C,D,_)=>
 bif decide (D<C) then
  (idx A D).bind fun y2=>
  bif B==y2 then
   some (.inl (D,()))
  else
   again (A,B,C,w64 (D+1),())
 else
  some (.inr ())
def EM (a0:List Bys) (a1:Bys):Option (Int×Unit):=
 aO (
  iter (X:=rM) (β:=sd) (a0.length+(a1.length+(Int.natAbs ((a0.length:Int))+(Int.natAbs (0:Int)+2)))) (a0,a1,(a0.length:Int),0,()) (LN)) fun _=>
 some ((-1),())
def AT (a0:List Bys) (a1:Bys):Option (Bool×Unit):=
 (EM a0 a1).bind fun r1=>
 some (decide (r1.1≥0),())
abbrev nu:Type:=(List cO)×(List cO)×Int×Int×(List Bys)×Int×Int×Int×Int×Int×(List Bys)×Unit
abbrev nw:Type:=(((Int×Unit) ⊕ Unit) ⊕ ((List cO)×(List cO)×Int×Int×Unit))
def AU (x1:nu) (again:nu→Option nw):Option nw:=
 match x1 with
 | (A,B,C,D,E,F,G,H,I,J,K,_)=>
 bif decide (G<F) then
  (idx E G).bind fun y2=>
  (gd y2).bind fun r3=>
  bif !r3.1 then
   LD <|
    some (.inl (5,()))
  else
   chk (decide (0≤(0:Int))&&decide ((0:Int)≤G)&&decide (G≤(K.length:Int))) <|
   (AT (List.drop 0 (List.take (Int.toNat G) K)) y2).bind fun r4=>
   bif r4.1 then
    LD <|
     some (.inl (7,()))
   else
    again (A,B,C,D,E,F,w64 (G+1),H,I,J,K,())
 else
  some (.inr (A,B,C,D,()))
abbrev uj:Type:=(List cO)×(List cO)×Int×Int×Unit
abbrev tE:Type:=((Int×Unit) ⊕ Unit)
def Nz (x1:uj) (again:uj→Option tE):Option tE:=
 match x1 with
 | (A,B,C,D,_)=>
 bif decide (D<C) then
  (idx B D).bind fun y2=>
  (CY y2.1).bind fun r3=>
  bif !r3.1 then
   some (.inl (1,()))
  else
   bif decide (D>0) then
    (idx A (w64 (D - 1))).bind fun y4=>
    bif decide (y2.1<y4.1) then
     some (.inl (8,()))
    else
     (qP y2.2.1).bind fun r5=>
     bif r5.1 != 0 then
      some (.inl (r5.1,()))
     else
      bif decide (((y2.2.2.length:Int))>100) then
       some (.inl (2,()))
      else
       aO (
        iter (X:=nu) (β:=nw) (A.length+(B.length+(C.natAbs+(D.natAbs+(y2.2.2.length+(Int.natAbs ((y2.2.2.length:Int))+(Int.natAbs (0:Int)+(y2.1.natAbs+(y2.2.1.1.natAbs+(y2.2.1.2.natAbs+(y2.2.2.length+2))))))))))) (A,B,C,D,y2.2.2,(y2.2.2.length:Int),0,y2.1,y2.2.1.1,y2.2.1.2,y2.2.2,()) (AU)) fun (E,F,G,H,_)=>
       again (E,F,G,w64 (H+1),())
   else
    (qP y2.2.1).bind fun r7=>
    bif r7.1 != 0 then
     some (.inl (r7.1,()))
    else
     bif decide (((y2.2.2.length:Int))>100) then
      some (.inl (2,()))
     else
      aO (
       iter (X:=nu) (β:=nw) (A.length+(B.length+(C.natAbs+(D.natAbs+(y2.2.2.length+(Int.natAbs ((y2.2.2.length:Int))+(Int.natAbs (0:Int)+(y2.1.natAbs+(y2.2.1.1.natAbs+(y2.2.1.2.natAbs+(y2.2.2.length+2))))))))))) (A,B,C,D,y2.2.2,(y2.2.2.length:Int),0,y2.1,y2.2.1.1,y2.2.1.2,y2.2.2,()) (AU)) fun (I,J,K,L,_)=>
      again (I,J,K,w64 (L+1),())
 else
  some (.inr ())
def G5 (a0:List cO):Option (Int×Unit):=
 bif decide (((a0.length:Int))>500) then
  some (2,())
 else
  aO (
   iter (X:=uj) (β:=tE) (a0.length+(a0.length+(Int.natAbs ((a0.length:Int))+(Int.natAbs (0:Int)+2)))) (a0,a0,(a0.length:Int),0,()) (Nz)) fun _=>
  some (0,())
def Na (a0:List c9) (a1:List cO):Option (Int×Unit):=
 (KN a0).bind fun r1=>
 bif r1.1 != 0 then
  some (r1.1,())
 else
  (G5 a1).bind fun r2=>
  some (r2.1,())
def Oh (a0:aj):Option (Int×Unit):=
 (yX (w64 (4 - a0.2))).bind fun r1=>
 some (w64 (a0.1*r1.1),())
def zJ (a0:List (Option Nat)):Option ((List (Option Nat))×Unit):=
 bif List.isEmpty a0 then
  both (
   some ([],())) (
   chk (decide ((0+(a0.length))*8≤140737488355328)&&decide (0+(a0.length)≤maxLen)) <|
   some (a0,()))
 else
  chk (decide ((0+(a0.length))*8≤140737488355328)&&decide (0+(a0.length)≤maxLen)) <|
  some (a0,())
def Fa (a0:Option Nat) (a1:List aV):Option (Int×Unit):=
 (a0).bind fun h1=>
 (a1[h1]?).bind fun y2=>
 (a0).bind fun h3=>
 (a1[h3]?).bind fun y4=>
 some (w64 (y2.1.2.1+y4.1.2.2.2.1),())
def rq (a0:Option Nat) (a1:Option Nat) (a2:List aV):Option (Int×Unit):=
 (Fa a0 a2).bind fun r1=>
 (Fa a1 a2).bind fun r2=>
 some (w64 (r1.1 - r2.1),())
abbrev gZ:Type:=Int×Int×Unit×Int×Int×(List (Option Nat))×(List aV)×Unit
abbrev gX:Type:=((((List (Option Nat))×Unit) ⊕ ((List (Option Nat))×(List aV)×Unit)) ⊕ (Int×Int×Unit×Int×(List (Option Nat))×(List aV)×Unit))
def ur (x1:gZ) (again:gZ→Option gX):Option gX:=
 match x1 with
 | (A,B,C,D,E,F,G,_)=>
 bif decide (E>A) then
  chk (decide (0≤E)&&decide (E<(F.length:Int))) <|
  (F[E.toNat]?).bind fun y2=>
  chk (decide (0≤(w64 (E - 1)))&&decide ((w64 (E - 1))<(F.length:Int))) <|
  (F[(w64 (E - 1)).toNat]?).bind fun y3=>
  (rq y2 y3 G).bind fun r4=>
  bif decide (r4.1<0) then
   chk (decide (0≤(w64 (E - 1)))&&decide ((w64 (E - 1))<(F.length:Int))) <|
   (F[(w64 (E - 1)).toNat]?).bind fun y5=>
   chk (decide (0≤E)&&decide (E<(F.length:Int))) <|
   (F[E.toNat]?).bind fun y6=>
   chk (decide (0≤E)&&decide (E<(F.length:Int))) <|
   (F[E.toNat]?).bind fun _=>
   chk (decide (0≤(w64 (E - 1)))&&decide ((w64 (E - 1))<(List.length (List.set F E.toNat y5):Int))) <|
   ((List.set F E.toNat y5)[(w64 (E - 1)).toNat]?).bind fun _=>
   again (A,B,C,D,w64 (E - 1),List.set (List.set F E.toNat y5) (w64 (E - 1)).toNat y6,G,())
  else
   some (.inr (A,B,C,D,F,G,()))
 else
  some (.inr (A,B,C,D,F,G,()))
abbrev hY:Type:=Int×Int×Unit×Int×(List (Option Nat))×(List aV)×Unit
abbrev ig:Type:=(((List (Option Nat))×Unit) ⊕ ((List (Option Nat))×(List aV)×Unit))
def uv (x1:hY) (again:hY→Option ig):Option ig:=
 match x1 with
 | (A,B,C,D,E,F,_)=>
 bif decide (D<B) then
  aO (
   iter (X:=gZ) (β:=gX) (A.natAbs+(B.natAbs+(D.natAbs+(D.natAbs+(E.length+2))))) (A,B,C,D,D,E,F,()) (ur)) fun (G,H,I,J,K,L,_)=>
  again (G,H,I,w64 (J+1),K,L,())
 else
  some (.inr (E,F,()))
def iL (a0:List (Option Nat)) (a1:Int) (a2:Int) (a3:Unit) (a4:List aV):Option ((List (Option Nat))×Unit):=
 aO (
  iter (X:=hY) (β:=ig) (a1.natAbs+(a2.natAbs+(Int.natAbs (w64 (a1+1))+(a0.length+2)))) (a1,a2,a3,w64 (a1+1),a0,a4,()) (uv)) fun v11=>
 some (v11.1,())
abbrev iU:Type:=Int×Int×Int×Int×(List (Option Nat))×(List aV)×Unit
abbrev iY:Type:=(((List (Option Nat))×Unit) ⊕ ((List (Option Nat))×(List aV)×Unit))
def xk (x1:iU) (again:iU→Option iY):Option iY:=
 match x1 with
 | (A,B,C,D,E,F,_)=>
 bif decide (D<C) then
  chk (decide (0≤(w64 (B+D)))&&decide ((w64 (B+D))<(E.length:Int))) <|
  (E[(w64 (B+D)).toNat]?).bind fun y2=>
  chk (decide (0≤(w64 (A+D)))&&decide ((w64 (A+D))<(E.length:Int))) <|
  (E[(w64 (A+D)).toNat]?).bind fun y3=>
  chk (decide (0≤(w64 (A+D)))&&decide ((w64 (A+D))<(E.length:Int))) <|
  (E[(w64 (A+D)).toNat]?).bind fun _=>
  chk (decide (0≤(w64 (B+D)))&&decide ((w64 (B+D))<(List.length (List.set E (w64 (A+D)).toNat y2):Int))) <|
  ((List.set E (w64 (A+D)).toNat y2)[(w64 (B+D)).toNat]?).bind fun _=>
  again (A,B,C,w64 (D+1),List.set (List.set E (w64 (A+D)).toNat y2) (w64 (B+D)).toNat y3,F,())
 else
  some (.inr (E,F,()))
def gE (a0:List (Option Nat)) (a1:Int) (a2:Int) (a3:Int) (_a4:Unit) (a5:List aV):Option ((List (Option Nat))×Unit):=
 aO (
  iter (X:=iU) (β:=iY) (a1.natAbs+(a2.natAbs+(a3.natAbs+(Int.natAbs (0:Int)+(a0.length+2))))) (a1,a2,a3,0,a0,a5,()) (xk)) fun v6=>
 some (v6.1,())
abbrev jU:Type:=Int×Unit×Int×Int×(List (Option Nat))×(List aV)×Unit
abbrev jO:Type:=(((List (Option Nat))×Unit) ⊕ (Int×Unit×Int×(List (Option Nat))×(List aV)×Unit))
def z6 (x1:jU) (again:jU→Option jO):Option jO:=
 match x1 with
 | (A,B,C,D,E,F,_)=>
 bif C != D then
  bif decide (C>D) then
   (gE E (w64 (A - C)) A D B F).bind fun r2=>
   again (A,B,w64 (C - D),D,r2.1,F,())
  else
   (gE E (w64 (A - C)) (w64 ((w64 (A+D)) - C)) C B F).bind fun r3=>
   again (A,B,C,w64 (D - C),r3.1,F,())
 else
  some (.inr (A,B,C,E,F,()))
def qk (a0:List (Option Nat)) (a1:Int) (a2:Int) (a3:Int) (a4:Unit) (a5:List aV):Option ((List (Option Nat))×Unit):=
 aO (
  iter (X:=jU) (β:=jO) (a2.natAbs+(Int.natAbs (w64 (a2 - a1))+(Int.natAbs (w64 (a3 - a2))+(a0.length+2)))) (a2,a4,w64 (a2 - a1),w64 (a3 - a2),a0,a5,()) (z6)) fun (A,B,C,D,E,_)=>
 (gE D (w64 (A - C)) A C B E).bind fun r5=>
 some (r5.1,())
abbrev ju:Type:=Int×Unit×Int×Int×(List (Option Nat))×(List aV)×Unit
abbrev jt:Type:=(((List (Option Nat))×Unit) ⊕ (Int×Int×(List (Option Nat))×(List aV)×Unit))
def yD (x1:ju) (again:ju→Option jt):Option jt:=
 match x1 with
 | (A,B,C,D,E,F,_)=>
 bif decide (C<D) then
  let n2:Int:=w64 (Int.fdiv (b8 (w64 (C+D))) (2 ^ 1))
  chk (decide (0≤n2)&&decide (n2<(E.length:Int))) <|
  (E[n2.toNat]?).bind fun y3=>
  chk (decide (0≤A)&&decide (A<(E.length:Int))) <|
  (E[A.toNat]?).bind fun y4=>
  (rq y3 y4 F).bind fun r5=>
  bif decide (r5.1<0) then
   again (A,B,w64 (n2+1),D,E,F,())
  else
   again (A,B,C,n2,E,F,())
 else
  some (.inr (A,C,E,F,()))
abbrev jm:Type:=Int×Int×(List (Option Nat))×(List aV)×Unit
abbrev jq:Type:=(((List (Option Nat))×Unit) ⊕ ((List (Option Nat))×(List aV)×Unit))
def yf (x1:jm) (again:jm→Option jq):Option jq:=
 match x1 with
 | (A,B,C,D,_)=>
 bif decide (B<(w64 (A - 1))) then
  chk (decide (0≤(w64 (B+1)))&&decide ((w64 (B+1))<(C.length:Int))) <|
  (C[(w64 (B+1)).toNat]?).bind fun y2=>
  chk (decide (0≤B)&&decide (B<(C.length:Int))) <|
  (C[B.toNat]?).bind fun y3=>
  chk (decide (0≤B)&&decide (B<(C.length:Int))) <|
  (C[B.toNat]?).bind fun _=>
  chk (decide (0≤(w64 (B+1)))&&decide ((w64 (B+1))<(List.length (List.set C B.toNat y2):Int))) <|
  ((List.set C B.toNat y2)[(w64 (B+1)).toNat]?).bind fun _=>
  again (A,w64 (B+1),List.set (List.set C B.toNat y2) (w64 (B+1)).toNat y3,D,())
 else
  some (.inr (C,D,()))
abbrev iQ:Type:=Int×Unit×Int×Int×(List (Option Nat))×(List aV)×Unit
abbrev iS:Type:=(((List (Option Nat))×Unit) ⊕ (Int×Int×(List (Option Nat))×(List aV)×Unit))
def xB (x1:iQ) (again:iQ→Option iS):Option iS:=
 match x1 with
 | (A,B,C,D,E,F,_)=>
 bif decide (C<D) then
  let n2:Int:=w64 (Int.fdiv (b8 (w64 (C+D))) (2 ^ 1))
  chk (decide (0≤A)&&decide (A<(E.length:Int))) <|
  (E[A.toNat]?).bind fun y3=>
  chk (decide (0≤n2)&&decide (n2<(E.length:Int))) <|
  (E[n2.toNat]?).bind fun y4=>
  (rq y3 y4 F).bind fun r5=>
  bif !(decide (r5.1<0)) then
   again (A,B,w64 (n2+1),D,E,F,())
  else
   again (A,B,C,n2,E,F,())
 else
  some (.inr (A,C,E,F,()))
abbrev iW:Type:=Int×Int×(List (Option Nat))×(List aV)×Unit
abbrev iX:Type:=(((List (Option Nat))×Unit) ⊕ ((List (Option Nat))×(List aV)×Unit))
def xp (x1:iW) (again:iW→Option iX):Option iX:=
 match x1 with
 | (A,B,C,D,_)=>
 bif decide (B>A) then
  chk (decide (0≤(w64 (B - 1)))&&decide ((w64 (B - 1))<(C.length:Int))) <|
  (C[(w64 (B - 1)).toNat]?).bind fun y2=>
  chk (decide (0≤B)&&decide (B<(C.length:Int))) <|
  (C[B.toNat]?).bind fun y3=>
  chk (decide (0≤B)&&decide (B<(C.length:Int))) <|
  (C[B.toNat]?).bind fun _=>
  chk (decide (0≤(w64 (B - 1)))&&decide ((w64 (B - 1))<(List.length (List.set C B.toNat y2):Int))) <|
  ((List.set C B.toNat y2)[(w64 (B - 1)).toNat]?).bind fun _=>
  again (A,w64 (B - 1),List.set (List.set C B.toNat y2) (w64 (B - 1)).toNat y3,D,())
 else
  some (.inr (C,D,()))
abbrev iT:Type:=Int×Int×Int×Unit×Int×Int×Int×Int×Int×(List (Option Nat))×(List aV)×Unit
abbrev ja:Type:=(((List (Option Nat))×Unit) ⊕ (Int×Int×Int×Unit×Int×Int×Int×(List (Option Nat))×(List aV)×Unit))
def xE (x1:iT) (again:iT→Option ja):Option ja:=
 match x1 with
 | (A,B,C,D,E,F,G,H,I,J,K,_)=>
 bif decide (G<H) then
  let n2:Int:=w64 (Int.fdiv (b8 (w64 (G+H))) (2 ^ 1))
  chk (decide (0≤(w64 (I - n2)))&&decide ((w64 (I - n2))<(J.length:Int))) <|
  (J[(w64 (I - n2)).toNat]?).bind fun y3=>
  chk (decide (0≤n2)&&decide (n2<(J.length:Int))) <|
  (J[n2.toNat]?).bind fun y4=>
  (rq y3 y4 K).bind fun r5=>
  bif !(decide (r5.1<0)) then
   again (A,B,C,D,E,F,w64 (n2+1),H,I,J,K,())
  else
   again (A,B,C,D,E,F,G,n2,I,J,K,())
 else
  some (.inr (A,B,C,D,E,F,G,J,K,()))
def dP (self:((List (Option Nat))×Int×Int×Int×Unit×(List aV)×Unit)→Option ((List (Option Nat))×Unit)) (a0:List (Option Nat)) (a1:Int) (a2:Int) (a3:Int) (a4:Unit) (a5:List aV):Option ((List (Option Nat))×Unit):=
 bif (w64 (a2 - a1))==1 then
  aO (
   iter (X:=ju) (β:=jt) (a1.natAbs+(a2.natAbs+(a3.natAbs+(a0.length+2)))) (a1,a4,a2,a3,a0,a5,()) (yD)) fun (A,B,C,D,_)=>
  aO (
   iter (X:=jm) (β:=jq) (B.natAbs+(A.natAbs+(C.length+2))) (B,A,C,D,()) (yf)) fun v12=>
  some (v12.1,())
 else
  bif (w64 (a3 - a2))==1 then
   aO (
    iter (X:=iQ) (β:=iS) (a2.natAbs+(a1.natAbs+(a2.natAbs+(a0.length+2)))) (a2,a4,a1,a2,a0,a5,()) (xB)) fun (F,G,H,I,_)=>
   aO (
    iter (X:=iW) (β:=iX) (G.natAbs+(F.natAbs+(H.length+2))) (G,F,H,I,()) (xp)) fun v24=>
   some (v24.1,())
  else
   let n25:Int:=w64 (Int.fdiv (b8 (w64 (a1+a3))) (2 ^ 1))
   aO (γ:=(Int×Int×Int×Unit×Int×Int×Int×Int×(List (Option Nat))×(List aV)×Unit)) (
    bif decide (a2>n25) then
     some (.inr (a1,a2,a3,a4,n25,w64 (n25+a2),w64 ((w64 (n25+a2)) - a3),n25,a0,a5,()))
    else
     some (.inr (a1,a2,a3,a4,n25,w64 (n25+a2),a1,a2,a0,a5,()))) fun (K,L,M,N,O,P,Q,R,S,T,_)=>
   aO (
    iter (X:=iT) (β:=ja) (K.natAbs+(L.natAbs+(M.natAbs+(O.natAbs+(P.natAbs+(Q.natAbs+(R.natAbs+(Int.natAbs (w64 (P - 1))+(S.length+2))))))))) (K,L,M,N,O,P,Q,R,w64 (P - 1),S,T,()) (xE)) fun (U,V,W,Y,Z,A0,B0,C0,D0,_)=>
   bif decide (B0<V) then
    aO (γ:=(Int×Int×Unit×Int×Int×Int×(List (Option Nat))×(List aV)×Unit)) (
     bif decide (V<(w64 (A0 - B0))) then
      (qk C0 B0 V (w64 (A0 - B0)) Y D0).bind fun r33=>
      some (.inr (U,W,Y,Z,B0,w64 (A0 - B0),r33.1,D0,()))
     else
      some (.inr (U,W,Y,Z,B0,w64 (A0 - B0),C0,D0,()))) fun (E0,F0,G0,H0,I0,J0,K0,L0,_)=>
    bif decide (E0<I0) then
     aO (γ:=(Int×Unit×Int×Int×(List (Option Nat))×(List aV)×Unit)) (
      bif decide (I0<H0) then
       (self (K0,E0,I0,H0,G0,L0,())).bind fun r35=>
       some (.inr (F0,G0,H0,J0,r35.1,L0,()))
      else
       some (.inr (F0,G0,H0,J0,K0,L0,()))) fun (M0,N0,O0,P0,Q0,R0,_)=>
     bif decide (O0<P0) then
      bif decide (P0<M0) then
       (self (Q0,O0,P0,M0,N0,R0,())).bind fun r37=>
       some (r37.1,())
      else
       some (Q0,())
     else
      some (Q0,())
    else
     bif decide (H0<J0) then
      bif decide (J0<F0) then
       (self (K0,H0,J0,F0,G0,L0,())).bind fun r38=>
       some (r38.1,())
      else
       some (K0,())
     else
      some (K0,())
   else
    bif decide (U<B0) then
     aO (γ:=(Int×Unit×Int×Int×(List (Option Nat))×(List aV)×Unit)) (
      bif decide (B0<Z) then
       (self (C0,U,B0,Z,Y,D0,())).bind fun r39=>
       some (.inr (W,Y,Z,w64 (A0 - B0),r39.1,D0,()))
      else
       some (.inr (W,Y,Z,w64 (A0 - B0),C0,D0,()))) fun (S0,T0,U0,V0,W0,X0,_)=>
     bif decide (U0<V0) then
      bif decide (V0<S0) then
       (self (W0,U0,V0,S0,T0,X0,())).bind fun r41=>
       some (r41.1,())
      else
       some (W0,())
     else
      some (W0,())
    else
     bif decide (Z<(w64 (A0 - B0))) then
      bif decide ((w64 (A0 - B0))<W) then
       (self (C0,Z,w64 (A0 - B0),W,Y,D0,())).bind fun r42=>
       some (r42.1,())
      else
       some (C0,())
     else
      some (C0,())
def mJ (a0:List (Option Nat)) (a1:Int) (a2:Int) (a3:Int) (_a4:Unit) (_a5:List aV):Nat:=a0.length+(a1.natAbs+(a2.natAbs+(a3.natAbs+2)))
def kr (a0:List (Option Nat)) (a1:Int) (a2:Int) (a3:Int) (a4:Unit) (a5:List aV):Option ((List (Option Nat))×Unit):=
 FI (fun self x=>dP self x.1 x.2.1 x.2.2.1 x.2.2.2.1 x.2.2.2.2.1 x.2.2.2.2.2.1) (mJ a0 a1 a2 a3 a4 a5) (a0,a1,a2,a3,a4,a5,())
abbrev jR:Type:=Int×Unit×Int×Int×Int×(List (Option Nat))×(List aV)×Unit
abbrev jK:Type:=(((List (Option Nat))×Unit) ⊕ (Int×Unit×Int×Int×(List (Option Nat))×(List aV)×Unit))
def Ag (x1:jR) (again:jR→Option jK):Option jK:=
 match x1 with
 | (A,B,C,D,E,F,G,_)=>
 bif decide (E≤A) then
  (iL F D E B G).bind fun r2=>
  again (A,B,C,E,w64 (E+C),r2.1,G,())
 else
  some (.inr (A,B,C,D,F,G,()))
abbrev jV:Type:=Int×Unit×Int×Int×Int×(List (Option Nat))×(List aV)×Unit
abbrev jH:Type:=((((List (Option Nat))×Unit) ⊕ ((List (Option Nat))×(List aV)×Unit)) ⊕ (Int×Unit×Int×Int×(List (Option Nat))×(List aV)×Unit))
def zW (x1:jV) (again:jV→Option jH):Option jH:=
 match x1 with
 | (A,B,C,D,E,F,G,_)=>
 bif decide (E≤A) then
  (kr F D (w64 (D+C)) E B G).bind fun r2=>
  again (A,B,C,E,w64 (E+(w64 (2*C))),r2.1,G,())
 else
  some (.inr (A,B,C,D,F,G,()))
abbrev jS:Type:=Int×Unit×Int×(List (Option Nat))×(List aV)×Unit
abbrev jI:Type:=(((List (Option Nat))×Unit) ⊕ ((List (Option Nat))×(List aV)×Unit))
def zR (x1:jS) (again:jS→Option jI):Option jI:=
 match x1 with
 | (A,B,C,D,E,_)=>
 bif decide (C<A) then
  aO (
   iter (X:=jV) (β:=jH) (A.natAbs+(C.natAbs+(Int.natAbs (0:Int)+(Int.natAbs (w64 (2*C))+(D.length+2))))) (A,B,C,0,w64 (2*C),D,E,()) (zW)) fun (F,G,H,I,J,K,_)=>
  bif decide ((w64 (I+H))<F) then
   (kr J I (w64 (I+H)) F G K).bind fun r3=>
   again (F,G,w64 (H*2),r3.1,K,())
  else
   again (F,G,w64 (H*2),J,K,())
 else
  some (.inr (D,E,()))
def qm (a0:List (Option Nat)) (a1:Int) (a2:Unit) (a3:List aV):Option ((List (Option Nat))×Unit):=
 aO (
  iter (X:=jR) (β:=jK) (a1.natAbs+(Int.natAbs (20:Int)+(Int.natAbs (0:Int)+(Int.natAbs (20:Int)+(a0.length+2))))) (a1,a2,20,0,20,a0,a3,()) (Ag)) fun (A,B,C,D,E,F,_)=>
 (iL E D A B F).bind fun r4=>
 aO (
  iter (X:=jS) (β:=jI) (A.natAbs+(C.natAbs+(r4.1.length+2))) (A,B,C,r4.1,F,()) (zR)) fun v10=>
 some (v10.1,())
def pg (a0:List (Option Nat)) (a1:Unit) (a2:List aV):Option ((List (Option Nat))×Unit):=
 (qm a0 ((a0.length:Int)) a1 a2).bind fun r1=>
 some (r1.1,())
def Dx (a0:Option Nat) (a1:Int) (a2:List aV):Option (Bool×Unit):=
 (a0).bind fun h1=>
 (a2[h1]?).bind fun y2=>
 bif decide (y2.1.2.1≤a1) then
  (a0).bind fun h3=>
  (a2[h3]?).bind fun y4=>
  some (y4.2.2.2.2==0,())
 else
  some (false,())
def Gv (a0:Option Nat) (a1:List aV):Option (Int×Unit):=
 (a0).bind fun h1=>
 (a1[h1]?).bind fun y2=>
 (a0).bind fun h3=>
 (a1[h3]?).bind fun y4=>
 (a0).bind fun h5=>
 (a1[h5]?).bind fun y6=>
 (yX (w64 (4 - y6.1.2.2.1.2))).bind fun r7=>
 let n8:Int:=w64 ((w64 (Int.tdiv (w64 (y2.1.2.2.1.1*y4.1.2.2.2.2.2)) 1000))*r7.1)
 (a0).bind fun h9=>
 (a1[h9]?).bind fun y10=>
 some (if y10.2.1<n8 then y10.2.1 else n8,())
def Bo (a0:Option Nat) (a1:Int) (a2:Int) (a3:List aV):Option (Int×(List aV)×Unit):=
 (a0).bind fun h1=>
 (a3[h1]?).bind fun y2=>
 (a0).bind fun h3=>
 (a3[h3]?).bind fun y4=>
 (a0).bind fun h5=>
 (a3[h5]?).bind fun y6=>
 (a0).bind fun h7=>
 (a3[h7]?).bind fun y8=>
 (a0).bind fun h9=>
 ((List.set a3 h7 (y8.1,y8.2.1,w64 (y4.2.2.1+(if y2.2.1<a1 then y2.2.1 else a1)),y8.2.2.2))[h9]?).bind fun y10=>
 (a0).bind fun h11=>
 ((List.set (List.set a3 h7 (y8.1,y8.2.1,w64 (y4.2.2.1+(if y2.2.1<a1 then y2.2.1 else a1)),y8.2.2.2)) h9 (y10.1,w64 (y6.2.1 - (if y2.2.1<a1 then y2.2.1 else a1)),y10.2.2))[h11]?).bind fun y12=>
 bif y12.2.1==0 then
  (a0).bind fun h13=>
  ((List.set (List.set a3 h7 (y8.1,y8.2.1,w64 (y4.2.2.1+(if y2.2.1<a1 then y2.2.1 else a1)),y8.2.2.2)) h9 (y10.1,w64 (y6.2.1 - (if y2.2.1<a1 then y2.2.1 else a1)),y10.2.2))[h13]?).bind fun y14=>
  some (w64 (a1 - (if y2.2.1<a1 then y2.2.1 else a1)),List.set (List.set (List.set a3 h7 (y8.1,y8.2.1,w64 (y4.2.2.1+(if y2.2.1<a1 then y2.2.1 else a1)),y8.2.2.2)) h9 (y10.1,w64 (y6.2.1 - (if y2.2.1<a1 then y2.2.1 else a1)),y10.2.2)) h13 (y14.1,y14.2.1,y14.2.2.1,y14.2.2.2.1,a2),())
 else
  some (w64 (a1 - (if y2.2.1<a1 then y2.2.1 else a1)),List.set (List.set a3 h7 (y8.1,y8.2.1,w64 (y4.2.2.1+(if y2.2.1<a1 then y2.2.1 else a1)),y8.2.2.2)) h9 (y10.1,w64 (y6.2.1 - (if y2.2.1<a1 then y2.2.1 else a1)),y10.2.2),())
def KP (a0:Option Nat) (a1:Int) (a2:Int) (a3:List aV):Option (Int×(List aV)×Unit):=
 (Gv a0 a3).bind fun r1=>
 (a0).bind fun h2=>
 (a3[h2]?).bind fun y3=>
 bif decide ((w64 (y3.2.1 - r1.1))>a1) then
  (Bo a0 a1 a2 a3).bind fun r4=>
  some (r4.1,r4.2.1,())
 else
  (a0).bind fun h5=>
  (a3[h5]?).bind fun y6=>
  (a0).bind fun h7=>
  (a3[h7]?).bind fun y8=>
  bif decide (a2>(w64 (y6.1.2.1+y8.1.2.2.2.2.1))) then
   (Bo a0 a1 a2 a3).bind fun r9=>
   some (r9.1,r9.2.1,())
  else
   (a0).bind fun h10=>
   (a3[h10]?).bind fun y11=>
   (a0).bind fun h12=>
   (a3[h12]?).bind fun y13=>
   (a0).bind fun h14=>
   (a3[h14]?).bind fun y15=>
   (a0).bind fun h16=>
   ((List.set a3 h14 (y15.1,y15.2.1,w64 (y13.2.2.1+(w64 (y11.2.1 - r1.1))),y15.2.2.2))[h16]?).bind fun y17=>
   (a0).bind fun h18=>
   ((List.set (List.set a3 h14 (y15.1,y15.2.1,w64 (y13.2.2.1+(w64 (y11.2.1 - r1.1))),y15.2.2.2)) h16 (y17.1,y17.2.1,y17.2.2.1,r1.1,y17.2.2.2.2))[h18]?).bind fun y19=>
   (a0).bind fun h20=>
   ((List.set (List.set (List.set a3 h14 (y15.1,y15.2.1,w64 (y13.2.2.1+(w64 (y11.2.1 - r1.1))),y15.2.2.2)) h16 (y17.1,y17.2.1,y17.2.2.1,r1.1,y17.2.2.2.2)) h18 (y19.1,0,y19.2.2))[h20]?).bind fun y21=>
   some (w64 (a1 - (w64 (y11.2.1 - r1.1))),List.set (List.set (List.set (List.set a3 h14 (y15.1,y15.2.1,w64 (y13.2.2.1+(w64 (y11.2.1 - r1.1))),y15.2.2.2)) h16 (y17.1,y17.2.1,y17.2.2.1,r1.1,y17.2.2.2.2)) h18 (y19.1,0,y19.2.2)) h20 (y21.1,y21.2.1,y21.2.2.1,y21.2.2.2.1,a2),())
abbrev B5:Type:=(List cO)×Int×(List (Option Nat))×(List c9)×Int×Int×(List (Bys×(Option Nat)))×(List aV)×Unit
abbrev Cu:Type:=(((List (Option Nat))×(List Int)×(List aV)×Unit) ⊕ ((List cO)×Int×(List (Option Nat))×(List (Bys×(Option Nat)))×(List aV)×Unit))
def UO (x1:B5) (again:B5→Option Cu):Option Cu:=
 match x1 with
 | (A,B,C,D,E,F,G,H,_)=>
 bif decide (F<E) then
  (idx D F).bind fun y2=>
  (Oh y2.2.2.1).bind fun r3=>
  chk (decide (((C.length)+1)*8≤140737488355328)&&decide ((C.length)+1≤maxLen)) <|
  again (A,B,C++[(some (H.length))],D,E,w64 (F+1),vi (k:= .str) (v:= .hnd) G y2.1 (some (H.length)),H++[(y2,r3.1,0,0,0)],())
 else
  some (.inr (A,B,C,G,H,()))
abbrev An:Type:=Int×(List (Option Nat))×(List Int)×Int×(List cO)×Int×Int×(List Bys)×Int×Int×Int×Int×Int×(List Bys)×(List (Option Nat))×(List (Bys×(Option Nat)))×(List aV)×Unit
abbrev zK:Type:=((((List (Option Nat))×(List Int)×(List aV)×Unit) ⊕ ((List (Option Nat))×(List Int)×(List aV)×Unit)) ⊕ (Int×(List (Option Nat))×(List Int)×Int×(List cO)×Int×Int×Int×Int×Int×(List Bys)×(List (Option Nat))×(List (Bys×(Option Nat)))×(List aV)×Unit))
def TQ (x1:An) (again:An→Option zK):Option zK:=
 match x1 with
 | (A,B,C,D,E,F,G,H,I,J,K,L,M,N,O,P,Q,_)=>
 bif decide (J<I) then
  (idx H J).bind fun y2=>
  bif !(Option.isNone (Option.getD (jP (k:= .str) (v:= .hnd) P y2) none)) then
   (Dx (Option.getD (jP (k:= .str) (v:= .hnd) P y2) none) K Q).bind fun r3=>
   bif r3.1 then
    (KP (Option.getD (jP (k:= .str) (v:= .hnd) P y2) none) D K Q).bind fun r4=>
    again (A,B,C,r4.1,E,F,G,H,I,w64 (J+1),K,L,M,N,O,P,r4.2.1,())
   else
    again (A,B,C,D,E,F,G,H,I,w64 (J+1),K,L,M,N,O,P,Q,())
  else
   again (A,B,C,D,E,F,G,H,I,w64 (J+1),K,L,M,N,O,P,Q,())
 else
  some (.inr (A,B,C,D,E,F,G,K,L,M,N,O,P,Q,()))
abbrev Ai:Type:=Int×(List (Option Nat))×(List Int)×Int×(List cO)×Int×Int×Int×Int×Int×Int×Int×(List Bys)×(List (Option Nat))×(List (Bys×(Option Nat)))×(List aV)×Unit
abbrev Ak:Type:=((((List (Option Nat))×(List Int)×(List aV)×Unit) ⊕ ((List (Option Nat))×(List Int)×(List aV)×Unit)) ⊕ (Int×(List (Option Nat))×(List Int)×Int×(List cO)×Int×Int×(List (Option Nat))×(List (Bys×(Option Nat)))×(List aV)×Unit))
def Tt (x1:Ai) (again:Ai→Option Ak):Option Ak:=
 match x1 with
 | (A,B,C,D,E,F,G,H,I,J,K,L,M,N,O,P,_)=>
 bif decide (I<H) then
  chk (decide (0≤I)&&decide (I<(N.length:Int))) <|
  (N[I.toNat]?).bind fun y2=>
  bif decide (D>0) then
   (Dx y2 J P).bind fun r3=>
   bif r3.1 then
    (Bo y2 D J P).bind fun r4=>
    again (A,B,C,r4.1,E,F,G,H,w64 (I+1),J,K,L,M,N,O,r4.2.1,())
   else
    again (A,B,C,D,E,F,G,H,w64 (I+1),J,K,L,M,N,O,P,())
  else
   again (A,B,C,D,E,F,G,H,w64 (I+1),J,K,L,M,N,O,P,())
 else
  some (.inr (A,B,C,D,E,F,G,N,O,P,()))
abbrev Af:Type:=Int×(List (Option Nat))×(List Int)×(List cO)×Int×Int×(List (Option Nat))×(List (Bys×(Option Nat)))×(List aV)×Unit
abbrev Aj:Type:=(((List (Option Nat))×(List Int)×(List aV)×Unit) ⊕ ((List (Option Nat))×(List Int)×(List aV)×Unit))
def S9 (x1:Af) (again:Af→Option Aj):Option Aj:=
 match x1 with
 | (A,B,C,D,E,F,G,H,I,_)=>
 bif decide (F<E) then
  (idx D F).bind fun y2=>
  bif decide (y2.1>A) then
   some (.inr (B,C,I,()))
  else
   (Oh y2.2.1).bind fun r3=>
   aO (
    iter (X:=An) (β:=zK) (A.natAbs+(B.length+(C.length+(r3.1.natAbs+(D.length+(E.natAbs+(F.natAbs+(y2.2.2.length+(Int.natAbs ((y2.2.2.length:Int))+(Int.natAbs (0:Int)+(y2.1.natAbs+(y2.2.1.1.natAbs+(y2.2.1.2.natAbs+(y2.2.2.length+(G.length+(H.length+(I.length+2))))))))))))))))) (A,B,C,r3.1,D,E,F,y2.2.2,(y2.2.2.length:Int),0,y2.1,y2.2.1.1,y2.2.1.2,y2.2.2,G,H,I,()) (TQ)) fun (J,K,L,M,N,O,P,Q,R,S,T,U,V,W,_)=>
   aO (
    iter (X:=Ai) (β:=Ak) (J.natAbs+(K.length+(L.length+(M.natAbs+(N.length+(O.natAbs+(P.natAbs+(Int.natAbs ((U.length:Int))+(Int.natAbs (0:Int)+(Q.natAbs+(R.natAbs+(S.natAbs+(T.length+(U.length+(V.length+(W.length+2)))))))))))))))) (J,K,L,M,N,O,P,(U.length:Int),0,Q,R,S,T,U,V,W,()) (Tt)) fun (Y,Z,A0,B0,C0,D0,E0,F0,G0,H0,_)=>
   chk (decide (((A0.length)+1)*8≤140737488355328)&&decide ((A0.length)+1≤maxLen)) <|
   again (Y,Z,A0++[B0],C0,D0,w64 (E0+1),F0,G0,H0,())
 else
  some (.inr (B,C,I,()))
def Pw (a0:List c9) (a1:List cO) (a2:Int) (a3:List aV):Option ((List (Option Nat))×(List Int)×(List aV)×Unit):=
 aO (
  iter (X:=B5) (β:=Cu) (a1.length+(a2.natAbs+(List.length ([]:List (Option Nat))+(a0.length+(Int.natAbs ((a0.length:Int))+(Int.natAbs (0:Int)+(List.length ([]:List (Bys×(Option Nat)))+(a3.length+2)))))))) (a1,a2,[],a0,(a0.length:Int),0,[],a3,()) (UO)) fun (A,B,C,D,E,_)=>
 (zJ C).bind fun r5=>
 (pg r5.1 () E).bind fun r6=>
 aO (
  iter (X:=Af) (β:=Aj) (B.natAbs+(C.length+(List.length ([]:List Int)+(A.length+(Int.natAbs ((A.length:Int))+(Int.natAbs (0:Int)+(r6.1.length+(D.length+(E.length+2))))))))) (B,C,[],A,(A.length:Int),0,r6.1,D,E,()) (S9)) fun (F,G,H,_)=>
 some (F,G,H,())
abbrev pT:Type:=(List Int)×Unit
abbrev B7:Type:=(((List Int)×Unit) ⊕ ((List Int)×Unit))
def CD (x1:pT) (again:pT→Option B7):Option B7:=
 bif decide (((x1.1.length:Int))>0) then
  (idx x1.1 (w64 (((x1.1.length:Int)) - 1))).bind fun y2=>
  bif y2==0 then
   chk (decide (0≤(0:Int))&&decide ((0:Int)≤(w64 (((x1.1.length:Int)) - 1)))&&decide ((w64 (((x1.1.length:Int)) - 1))≤(x1.1.length:Int))) <|
   again (List.drop 0 (List.take (Int.toNat (w64 (((x1.1.length:Int)) - 1))) x1.1),())
  else
   some (.inr (x1.1,()))
 else
  some (.inr (x1.1,()))
def qE (a0:List Int):Option ((List Int)×Unit):=
 aO (
  iter (X:=pT) (β:=B7) (a0.length+2) (a0,()) (CD)) fun v3=>
 some (v3.1,())
def jy (a0:Bool) (a1:List Int):Option (aa×Unit):=
 (qE a1).bind fun r1=>
 bif a0 then
  some ((decide (((r1.1.length:Int))>0),r1.1),())
 else
  some ((false,r1.1),())
def bN (a0:Int):Option (aa×Unit):=
 aO (γ:=(Int×Int×Bool×(List Int)×Unit)) (
  bif decide (a0<0) then
   some (.inr (a0,b8 (0 - (b8 a0)),false,[],()))
  else
   some (.inr (a0,b8 a0,false,[],()))) fun v1=>
 (jy (decide (v1.1<0)) [(nN v1.2.1),(nN (Int.fdiv v1.2.1 (2 ^ 32)))]).bind fun r2=>
 some (r2.1,())
abbrev yT:Type:=(List Int)×(List Int)×Int×(List Int)×Int×Int×Unit
abbrev x8:Type:=(((List Int)×Unit) ⊕ ((List Int)×Int×Unit))
def xG (x1:yT) (again:yT→Option x8):Option x8:=
 match x1 with
 | (A,B,C,D,E,F,_)=>
 bif decide (F<E) then
  (idx D F).bind fun y2=>
  aO (γ:=((List Int)×(List Int)×Int×(List Int)×Int×Int×Unit)) (
   bif decide (F<((A.length:Int))) then
    (idx A F).bind fun y3=>
    let n4:Int:=b8 ((b8 (C+(b8 y2)))+(b8 y3))
    some (.inr (A,B,n4,D,E,F,()))
   else
    some (.inr (A,B,b8 (C+(b8 y2)),D,E,F,()))) fun (G,H,I,J,K,L,_)=>
  chk (decide (((H.length)+1)*4≤140737488355328)&&decide ((H.length)+1≤maxLen)) <|
  again (G,H++[(nN I)],Int.fdiv I (2 ^ 32),J,K,w64 (L+1),())
 else
  some (.inr (B,C,()))
def GX (a0:List Int) (a1:List Int):Option ((List Int)×Unit):=
 aO (γ:=((List Int)×(List Int)×Unit)) (
  bif decide (((a0.length:Int))<((a1.length:Int))) then
   some (.inr (a1,a0,()))
  else
   some (.inr (a0,a1,()))) fun (A,B,_)=>
 chk (decide (0≤(0:Int))&&decide ((0:Int)≤(w64 (((A.length:Int))+1)))&&decide ((4:Int)*(w64 (((A.length:Int))+1))≤281474976710656)&&decide ((w64 (((A.length:Int))+1))≤9223372036854775807)) <|
 aO (
  iter (X:=yT) (β:=x8) (B.length+(List.length ([]:List Int)+(Int.natAbs (0:Int)+(A.length+(Int.natAbs ((A.length:Int))+(Int.natAbs (0:Int)+2)))))) (B,[],0,A,(A.length:Int),0,()) (xG)) fun (C,D,_)=>
 chk (decide (((C.length)+1)*4≤140737488355328)&&decide ((C.length)+1≤maxLen)) <|
 some (C++[(nN D)],())
abbrev uM:Type:=(List Int)×(List Int)×Int×Unit
abbrev uW:Type:=((Int×Unit) ⊕ Unit)
def pR (x1:uM) (again:uM→Option uW):Option uW:=
 match x1 with
 | (A,B,C,_)=>
 bif decide (C≥0) then
  (idx A C).bind fun y2=>
  (idx B C).bind fun y3=>
  bif y2 != y3 then
   (idx A C).bind fun y4=>
   (idx B C).bind fun y5=>
   bif decide (y4<y5) then
    some (.inl ((-1),()))
   else
    some (.inl (1,()))
  else
   again (A,B,w64 (C - 1),())
 else
  some (.inr ())
def vI (a0:List Int) (a1:List Int):Option (Int×Unit):=
 bif ((a0.length:Int)) != ((a1.length:Int)) then
  some (w64 (((a0.length:Int)) - ((a1.length:Int))),())
 else
  aO (
   iter (X:=uM) (β:=uW) (a0.length+(a1.length+(Int.natAbs (w64 (((a0.length:Int)) - 1))+2))) (a0,a1,w64 (((a0.length:Int)) - 1),()) (pR)) fun _=>
  some (0,())
abbrev Be:Type:=(List Int)×(List Int)×Int×(List Int)×Int×Int×Unit
abbrev Bw:Type:=(((List Int)×Unit) ⊕ ((List Int)×Unit))
def Bq (x1:Be) (again:Be→Option Bw):Option Bw:=
 match x1 with
 | (A,B,C,D,E,F,_)=>
 bif decide (F<E) then
  (idx D F).bind fun y2=>
  aO (γ:=((List Int)×(List Int)×Int×(List Int)×Int×Int×Unit)) (
   bif decide (F<((A.length:Int))) then
    (idx A F).bind fun y3=>
    let n4:Int:=b8 ((b8 ((b8 y2) - C)) - (b8 y3))
    some (.inr (A,B,n4,D,E,F,()))
   else
    some (.inr (A,B,b8 ((b8 y2) - C),D,E,F,()))) fun (G,H,I,J,K,L,_)=>
  chk (decide (((H.length)+1)*4≤140737488355328)&&decide ((H.length)+1≤maxLen)) <|
  again (G,H++[(nN I)],b8 (((BitVec.ofInt (IntKind.bits .u64) (Int.fdiv I (2 ^ 32)) &&& BitVec.ofInt (IntKind.bits .u64) 1).toNat:Int)),J,K,w64 (L+1),())
 else
  some (.inr (B,()))
def zi (a0:List Int) (a1:List Int):Option ((List Int)×Unit):=
 chk (decide (0≤(0:Int))&&decide ((0:Int)≤((a0.length:Int)))&&decide ((4:Int)*((a0.length:Int))≤281474976710656)&&decide (((a0.length:Int))≤9223372036854775807)) <|
 aO (
  iter (X:=Be) (β:=Bw) (a1.length+(List.length ([]:List Int)+(Int.natAbs (0:Int)+(a0.length+(Int.natAbs ((a0.length:Int))+(Int.natAbs (0:Int)+2)))))) (a1,[],0,a0,(a0.length:Int),0,()) (Bq)) fun v6=>
 (qE v6.1).bind fun r7=>
 some (r7.1,())
abbrev wW:Type:=(List Int)×Int×Bool×(List Int)×Bool×(List Int)×Bool×(List Int)×Bool×(List Int)×(List Int)×Unit
abbrev xe:Type:=((aa×aa×Unit) ⊕ ((List Int)×Bool×(List Int)×Bool×(List Int)×(List Int)×Unit))
def xh (x1:wW) (again:wW→Option xe):Option xe:=
 match x1 with
 | (A,B,C,D,E,F,G,H,I,J,K,_)=>
 bif decide (B≥0) then
  (GX A A).bind fun r2=>
  chk (decide (0≤(0:Int))&&decide ((0:Int)<(r2.1.length:Int))) <|
  (r2.1[0]?).bind fun y3=>
  (idx D (w64 (Int.tdiv B 32))).bind fun y4=>
  chk (decide (0≤(Int.tmod B 32))) <|
  let n5:Int:=nN (((BitVec.ofInt (IntKind.bits .u32) (Int.fdiv y4 (2 ^ (min (Int.toNat (Int.tmod B 32)) (IntKind.bits .u32)))) &&& BitVec.ofInt (IntKind.bits .u32) 1).toNat:Int))
  chk (decide (0≤(0:Int))&&decide ((0:Int)<(r2.1.length:Int))) <|
  (r2.1[0]?).bind fun _=>
  (qE (List.set r2.1 0 (nN (((BitVec.ofInt (IntKind.bits .u32) y3 ||| BitVec.ofInt (IntKind.bits .u32) n5).toNat:Int))))).bind fun r6=>
  (vI r6.1 F).bind fun r7=>
  bif decide (r7.1≥0) then
   (zi r6.1 F).bind fun r8=>
   chk (decide (0≤(w64 (Int.tdiv B 32)))&&decide ((w64 (Int.tdiv B 32))<(K.length:Int))) <|
   (K[(w64 (Int.tdiv B 32)).toNat]?).bind fun y9=>
   chk (decide (0≤(Int.tmod B 32))) <|
   let n10:Int:=nN (((BitVec.ofInt (IntKind.bits .u32) y9 ||| BitVec.ofInt (IntKind.bits .u32) (nN (1*2 ^ (min (Int.toNat (Int.tmod B 32)) (IntKind.bits .u32))))).toNat:Int))
   chk (decide (0≤(w64 (Int.tdiv B 32)))&&decide ((w64 (Int.tdiv B 32))<(K.length:Int))) <|
   (K[(w64 (Int.tdiv B 32)).toNat]?).bind fun _=>
   again (r8.1,w64 (B - 1),C,D,E,F,G,H,I,J,List.set K (w64 (Int.tdiv B 32)).toNat n10,())
  else
   again (r6.1,w64 (B - 1),C,D,E,F,G,H,I,J,K,())
 else
  some (.inr (A,G,H,I,J,K,()))
def tC (a0:aa) (a1:aa):Option (aa×aa×Unit):=
 chk (decide (0≤((a0.2.length:Int)))&&decide (((a0.2.length:Int))≤((a0.2.length:Int)))&&decide ((4:Int)*((a0.2.length:Int))≤281474976710656)&&decide (((a0.2.length:Int))≤9223372036854775807)) <|
 let n1:Int:=w64 ((w64 (((a0.2.length:Int))*32)) - 1)
 aO (
  iter (X:=wW) (β:=xe) (List.length ([]:List Int)+(n1.natAbs+(a0.2.length+(a1.2.length+(List.length ([]:List Int)+(List.length ([]:List Int)+(List.length ((List.replicate (Int.toNat ((a0.2.length:Int))) 0):List Int)+2))))))) ([],n1,a0.1,a0.2,a1.1,a1.2,false,[],false,[],List.replicate (Int.toNat ((a0.2.length:Int))) 0,()) (xh)) fun v14=>
 (jy false v14.2.2.2.2.2.1).bind fun r15=>
 (jy false v14.1).bind fun r16=>
 some (r15.1,r16.1,())
def aS (a0:aa):Option (Int×Unit):=
 bif a0.1 then
  some ((-1),())
 else
  bif ((a0.2.length:Int))==0 then
   some (0,())
  else
   some (1,())
def aR (a0:aa):Option (aa×Unit):=
 (jy (!a0.1) a0.2).bind fun r1=>
 some (r1.1,())
abbrev vl:Type:=Int×Int×(List Int)×Int×Int×Bool×(List Int)×Unit
abbrev uG:Type:=((Int×Bool×Unit) ⊕ (Int×Int×Bool×(List Int)×Unit))
def uS (x1:vl) (again:vl→Option uG):Option uG:=
 match x1 with
 | (A,B,C,D,E,F,G,_)=>
 bif decide (E<D) then
  (idx C E).bind fun y2=>
  chk (decide (0≤(w64 (32*E)))) <|
  let n3:Int:=b8 ((b8 y2)*2 ^ (min (Int.toNat (w64 (32*E))) (IntKind.bits .u64)))
  again (A,b8 (((BitVec.ofInt (IntKind.bits .u64) B ||| BitVec.ofInt (IntKind.bits .u64) n3).toNat:Int)),C,D,w64 (E+1),F,G,())
 else
  some (.inr (A,B,F,G,()))
def oF (a0:aa) (a1:Int):Option (Int×Bool×Unit):=
 bif decide (((a0.2.length:Int))>2) then
  some (0,false,())
 else
  aO (
   iter (X:=vl) (β:=uG) (a1.natAbs+(Int.natAbs (0:Int)+(a0.2.length+(Int.natAbs ((a0.2.length:Int))+(Int.natAbs (0:Int)+(a0.2.length+2)))))) (a1,0,a0.2,(a0.2.length:Int),0,a0.1,a0.2,()) (uS)) fun (A,B,C,_,_)=>
  bif decide (B>(b8 A)) then
   some (0,false,())
  else
   bif C then
    some (w64 (0 - (w64 B)),true,())
   else
    some (w64 B,true,())
def rP (a0:aa) (a1:Int):Option (aj×Int×Unit):=
 (oF a0 1000000000000000).bind fun r1=>
 bif !r1.2.1 then
  some ((0,0),1,())
 else
  some ((r1.1,a1),0,())
abbrev B9:Type:=Int×Bool×(List Int)×Int×Int×Bool×(List Int)×Unit
abbrev Cf:Type:=((aj×Int×Unit) ⊕ (Int×Bool×(List Int)×Int×Int×Unit))
def VB (x1:B9) (again:B9→Option Cf):Option Cf:=
 match x1 with
 | (A,B,C,D,E,F,G,_)=>
 bif decide (A>0) then
  (tC (B,C) (F,G)).bind fun r2=>
  (aS r2.2.1).bind fun r3=>
  bif r3.1 != 0 then
   some (.inr (A,B,C,D,E,()))
  else
   (aS (B,C)).bind fun r4=>
   bif decide (r4.1<0) then
    (aR r2.1).bind fun r5=>
    again (w64 (A - 1),r5.1.1,r5.1.2,D,E,F,G,())
   else
    again (w64 (A - 1),r2.1.1,r2.1.2,D,E,F,G,())
 else
  some (.inr (A,B,C,D,E,()))
def Pz (a0:aa) (a1:Int):Option (aj×Int×Unit):=
 (bN 10).bind fun r1=>
 aO (
  iter (X:=B9) (β:=Cf) (a1.natAbs+(a0.2.length+(Int.natAbs (0:Int)+(Int.natAbs (0:Int)+(r1.1.2.length+2))))) (a1,a0.1,a0.2,0,0,r1.1.1,r1.1.2,()) (VB)) fun v7=>
 (rP (v7.2.1,v7.2.2.1) v7.1).bind fun r8=>
 some (r8.1,r8.2.1,())
def WA (a0:Int):Option (aj×Int×Unit):=
 (bN a0).bind fun r1=>
 (Pz r1.1 4).bind fun r2=>
 some (r2.1,r2.2.1,())
def zC (a0:Int):Option (aj×Unit):=
 (WA a0).bind fun r1=>
 some (r1.1,())
abbrev LI:Type:=(List Int)×(List qM)×(List (Option Nat))×Int×Int×(List aV)×Unit
abbrev My:Type:=(((List qM)×(List aj)×Int×Unit) ⊕ ((List Int)×(List qM)×(List aV)×Unit))
def aey (x1:LI) (again:LI→Option My):Option My:=
 match x1 with
 | (A,B,C,D,E,F,_)=>
 bif decide (E<D) then
  (idx C E).bind fun y2=>
  (y2).bind fun h3=>
  (F[h3]?).bind fun y4=>
  (y2).bind fun h5=>
  (F[h5]?).bind fun y6=>
  (zC y6.2.2.1).bind fun r7=>
  (y2).bind fun h8=>
  (F[h8]?).bind fun y9=>
  (zC y9.2.2.2.1).bind fun r10=>
  (y2).bind fun h11=>
  (F[h11]?).bind fun y12=>
  chk (decide (((B.length)+1)*56≤140737488355328)&&decide ((B.length)+1≤maxLen)) <|
  again (A,B++[(y4.1.1,r7.1,r10.1,y12.2.2.2.2)],C,D,w64 (E+1),F,())
 else
  some (.inr (A,B,F,()))
abbrev Ju:Type:=(List qM)×(List aj)×(List Int)×Int×Int×(List aV)×Unit
abbrev Jl:Type:=(((List qM)×(List aj)×Int×Unit) ⊕ ((List qM)×(List aj)×(List aV)×Unit))
def adf (x1:Ju) (again:Ju→Option Jl):Option Jl:=
 match x1 with
 | (A,B,C,D,E,F,_)=>
 bif decide (E<D) then
  (idx C E).bind fun y2=>
  (zC y2).bind fun r3=>
  chk (decide (((B.length)+1)*16≤140737488355328)&&decide ((B.length)+1≤maxLen)) <|
  again (A,B++[r3.1],C,D,w64 (E+1),F,())
 else
  some (.inr (A,B,F,()))
def aa5 (a0:List c9) (a1:List cO):Option ((List qM)×(List aj)×Int×Unit):=
 (Na a0 a1).bind fun r1=>
 bif r1.1 != 0 then
  some ([],[],r1.1,())
 else
  (Pw a0 a1 3652059 []).bind fun r2=>
  aO (
   iter (X:=LI) (β:=My) (r2.2.1.length+(List.length ([]:List qM)+(r2.1.length+(Int.natAbs ((r2.1.length:Int))+(Int.natAbs (0:Int)+(r2.2.2.1.length+2)))))) (r2.2.1,[],r2.1,(r2.1.length:Int),0,r2.2.2.1,()) (aey)) fun (A,B,C,_)=>
  aO (
   iter (X:=Ju) (β:=Jl) (B.length+(List.length ([]:List aj)+(A.length+(Int.natAbs ((A.length:Int))+(Int.natAbs (0:Int)+(C.length+2)))))) (B,[],A,(A.length:Int),0,C,()) (adf)) fun v19=>
  some (v19.1,v19.2.1,0,())
def Ro:Option (Bool×Unit):=
 (aa5 [([97],5,(7,0),0,0,0)] [(6,(9,0),[])]).bind fun r1=>
 bif r1.2.2.1==0 then
  bif ((r1.1.length:Int))==1 then
   (idx r1.1 0).bind fun y2=>
   bif y2.2.2.2==6 then
    bif ((r1.2.1.length:Int))==1 then
     (idx r1.2.1 0).bind fun y3=>
     some (y3.1==2,())
    else
     some (false,())
   else
    some (false,())
  else
   some (false,())
 else
  some (false,())
abbrev JT:Type:=Int×Bool×(List Int)×Bool×(List Int)×Unit
abbrev JV:Type:=((aP×Unit) ⊕ (Bool×(List Int)×Bool×(List Int)×Unit))
def Cj (x1:JT) (again:JT→Option JV):Option JV:=
 match x1 with
 | (A,B,C,D,E,_)=>
 bif A != 0 then
  chk (decide (((E.length)+1)*8≤140737488355328)&&decide ((E.length)+1≤maxLen)) <|
  again (w64 (Int.tdiv A 1000000),B,C,D,E++[(if (w64 (0 - (Int.tmod A 1000000)))>(Int.tmod A 1000000) then (w64 (0 - (Int.tmod A 1000000))) else (Int.tmod A 1000000))],())
 else
  some (.inr (B,C,D,E,()))
def mD (a0:Int):Option (aP×Unit):=
 aO (
  iter (X:=JT) (β:=JV) (a0.natAbs+(List.length ([]:List Int)+(List.length ([]:List Int)+2))) (a0,false,[],decide (a0<0),[],()) (Cj)) fun v2=>
 some ((v2.2.2.1,v2.2.2.2.1),())
abbrev vA:Type:=Bool×(List Int)×Bool×(List Int)×Unit
abbrev Hp:Type:=((aP×Unit) ⊕ (Bool×(List Int)×Bool×(List Int)×Unit))
def Hq (x1:vA) (again:vA→Option Hp):Option Hp:=
 match x1 with
 | (A,B,C,D,_)=>
 bif decide (((B.length:Int))>0) then
  (idx B (w64 (((B.length:Int)) - 1))).bind fun y2=>
  bif y2==0 then
   chk (decide (0≤(0:Int))&&decide ((0:Int)≤(w64 (((B.length:Int)) - 1)))&&decide ((w64 (((B.length:Int)) - 1))≤(B.length:Int))) <|
   again (A,List.drop 0 (List.take (Int.toNat (w64 (((B.length:Int)) - 1))) B),C,D,())
  else
   some (.inr (A,B,C,D,()))
 else
  some (.inr (A,B,C,D,()))
def oZ (a0:aP):Option (aP×Unit):=
 aO (
  iter (X:=vA) (β:=Hp) (a0.2.length+(List.length ([]:List Int)+2)) (a0.1,a0.2,false,[],()) (Hq)) fun v3=>
 bif ((v3.2.1.length:Int))==0 then
  some ((false,v3.2.1),())
 else
  some ((v3.1,v3.2.1),())
abbrev A8:Type:=Int×Int×(List Int)×Int×Int×(List Int)×Int×Int×Bool×(List Int)×Bool×(List Int)×Bool×(List Int)×Unit
abbrev BC:Type:=(((aP×Unit) ⊕ (Bool×(List Int)×Bool×(List Int)×Unit)) ⊕ ((List Int)×Int×Int×Bool×(List Int)×Bool×(List Int)×Bool×(List Int)×Unit))
def Bz (x1:A8) (again:A8→Option BC):Option BC:=
 match x1 with
 | (A,B,C,D,E,F,G,H,I,J,K,L,M,N,_)=>
 bif decide (H<G) then
  (idx F H).bind fun y2=>
  chk (decide (0≤(w64 (A+H)))&&decide ((w64 (A+H))<(N.length:Int))) <|
  (N[(w64 (A+H)).toNat]?).bind fun y3=>
  chk (decide (0≤(w64 (A+H)))&&decide ((w64 (A+H))<(N.length:Int))) <|
  (N[(w64 (A+H)).toNat]?).bind fun _=>
  chk (decide (0≤(w64 ((w64 (A+H))+1)))&&decide ((w64 ((w64 (A+H))+1))<(List.length (List.set N (w64 (A+H)).toNat (w64 (y3+(w64 (B*y2))))):Int))) <|
  ((List.set N (w64 (A+H)).toNat (w64 (y3+(w64 (B*y2)))))[(w64 ((w64 (A+H))+1)).toNat]?).bind fun y4=>
  chk (decide (0≤(w64 (A+H)))&&decide ((w64 (A+H))<(List.length (List.set N (w64 (A+H)).toNat (w64 (y3+(w64 (B*y2))))):Int))) <|
  ((List.set N (w64 (A+H)).toNat (w64 (y3+(w64 (B*y2)))))[(w64 (A+H)).toNat]?).bind fun y5=>
  chk (decide (0≤(w64 ((w64 (A+H))+1)))&&decide ((w64 ((w64 (A+H))+1))<(List.length (List.set N (w64 (A+H)).toNat (w64 (y3+(w64 (B*y2))))):Int))) <|
  ((List.set N (w64 (A+H)).toNat (w64 (y3+(w64 (B*y2)))))[(w64 ((w64 (A+H))+1)).toNat]?).bind fun _=>
  chk (decide (0≤(w64 (A+H)))&&decide ((w64 (A+H))<(List.length (List.set (List.set N (w64 (A+H)).toNat (w64 (y3+(w64 (B*y2))))) (w64 ((w64 (A+H))+1)).toNat (w64 (y4+(w64 (Int.tdiv y5 1000000))))):Int))) <|
  ((List.set (List.set N (w64 (A+H)).toNat (w64 (y3+(w64 (B*y2))))) (w64 ((w64 (A+H))+1)).toNat (w64 (y4+(w64 (Int.tdiv y5 1000000)))))[(w64 (A+H)).toNat]?).bind fun y6=>
  chk (decide (0≤(w64 (A+H)))&&decide ((w64 (A+H))<(List.length (List.set (List.set N (w64 (A+H)).toNat (w64 (y3+(w64 (B*y2))))) (w64 ((w64 (A+H))+1)).toNat (w64 (y4+(w64 (Int.tdiv y5 1000000))))):Int))) <|
  ((List.set (List.set N (w64 (A+H)).toNat (w64 (y3+(w64 (B*y2))))) (w64 ((w64 (A+H))+1)).toNat (w64 (y4+(w64 (Int.tdiv y5 1000000)))))[(w64 (A+H)).toNat]?).bind fun _=>
  again (A,B,C,D,E,F,G,w64 (H+1),I,J,K,L,M,List.set (List.set (List.set N (w64 (A+H)).toNat (w64 (y3+(w64 (B*y2))))) (w64 ((w64 (A+H))+1)).toNat (w64 (y4+(w64 (Int.tdiv y5 1000000))))) (w64 (A+H)).toNat (Int.tmod y6 1000000),())
 else
  some (.inr (C,D,E,I,J,K,L,M,N,()))
abbrev By:Type:=(List Int)×Int×Int×Bool×(List Int)×Bool×(List Int)×Bool×(List Int)×Unit
abbrev BM:Type:=((aP×Unit) ⊕ (Bool×(List Int)×Bool×(List Int)×Unit))
def BV (x1:By) (again:By→Option BM):Option BM:=
 match x1 with
 | (A,B,C,D,E,F,G,H,I,_)=>
 bif decide (C<B) then
  (idx A C).bind fun y2=>
  aO (
   iter (X:=A8) (β:=BC) (C.natAbs+(y2.natAbs+(A.length+(B.natAbs+(C.natAbs+(E.length+(Int.natAbs ((E.length:Int))+(Int.natAbs (0:Int)+(E.length+(G.length+(I.length+2))))))))))) (C,y2,A,B,C,E,(E.length:Int),0,D,E,F,G,H,I,()) (Bz)) fun (J,K,L,M,N,O,P,Q,R,_)=>
  again (J,K,w64 (L+1),M,N,O,P,Q,R,())
 else
  some (.inr (F,G,H,I,()))
abbrev yW:Type:=Int×Int×Bool×(List Int)×Bool×(List Int)×Unit
abbrev zl:Type:=((aP×Unit) ⊕ (Bool×(List Int)×Bool×(List Int)×Unit))
def zo (x1:yW) (again:yW→Option zl):Option zl:=
 match x1 with
 | (A,B,C,D,E,F,_)=>
 bif decide (B<A) then
  chk (decide (0≤(w64 (B+1)))&&decide ((w64 (B+1))<(F.length:Int))) <|
  (F[(w64 (B+1)).toNat]?).bind fun y2=>
  chk (decide (0≤B)&&decide (B<(F.length:Int))) <|
  (F[B.toNat]?).bind fun y3=>
  chk (decide (0≤(w64 (B+1)))&&decide ((w64 (B+1))<(F.length:Int))) <|
  (F[(w64 (B+1)).toNat]?).bind fun _=>
  chk (decide (0≤B)&&decide (B<(List.length (List.set F (w64 (B+1)).toNat (w64 (y2+(w64 (Int.tdiv y3 1000000))))):Int))) <|
  ((List.set F (w64 (B+1)).toNat (w64 (y2+(w64 (Int.tdiv y3 1000000)))))[B.toNat]?).bind fun y4=>
  chk (decide (0≤B)&&decide (B<(List.length (List.set F (w64 (B+1)).toNat (w64 (y2+(w64 (Int.tdiv y3 1000000))))):Int))) <|
  ((List.set F (w64 (B+1)).toNat (w64 (y2+(w64 (Int.tdiv y3 1000000)))))[B.toNat]?).bind fun _=>
  again (A,w64 (B+1),C,D,E,List.set (List.set F (w64 (B+1)).toNat (w64 (y2+(w64 (Int.tdiv y3 1000000))))) B.toNat (Int.tmod y4 1000000),())
 else
  some (.inr (C,D,E,F,()))
def iA (a0:aP) (a1:aP):Option (aP×Unit):=
 let n1:Int:=w64 ((w64 (((a0.2.length:Int))+((a1.2.length:Int))))+1)
 chk (decide (0≤n1)&&decide (n1≤n1)&&decide ((8:Int)*n1≤281474976710656)&&decide (n1≤9223372036854775807)) <|
 aO (
  iter (X:=By) (β:=BM) (a0.2.length+(Int.natAbs ((a0.2.length:Int))+(Int.natAbs (0:Int)+(a1.2.length+(List.length ([]:List Int)+(List.length ((List.replicate (Int.toNat n1) 0):List Int)+2)))))) (a0.2,(a0.2.length:Int),0,a1.1,a1.2,false,[], !(a0.1==a1.1),List.replicate (Int.toNat n1) 0,()) (BV)) fun (A,B,C,D,_)=>
 aO (
  iter (X:=yW) (β:=zl) (Int.natAbs (w64 (((D.length:Int)) - 1))+(Int.natAbs (0:Int)+(B.length+(D.length+2)))) (w64 (((D.length:Int)) - 1),0,A,B,C,D,()) (zo)) fun v21=>
 (oZ (v21.2.2.1,v21.2.2.2.1)).bind fun r22=>
 some (r22.1,())
abbrev Gl:Type:=Int×Int×Bool×(List Int)×Bool×(List Int)×Unit
abbrev Gf:Type:=((aP×Unit) ⊕ (Bool×(List Int)×Bool×(List Int)×Unit))
def FQ (x1:Gl) (again:Gl→Option Gf):Option Gf:=
 match x1 with
 | (A,B,C,D,E,F,_)=>
 bif decide (B<A) then
  (mD 10).bind fun r2=>
  (iA (E,F) r2.1).bind fun r3=>
  again (A,w64 (B+1),C,D,r3.1.1,r3.1.2,())
 else
  some (.inr (C,D,E,F,()))
def xH (a0:Int):Option (aP×Unit):=
 (mD 1).bind fun r1=>
 aO (
  iter (X:=Gl) (β:=Gf) (a0.natAbs+(Int.natAbs (0:Int)+(List.length ([]:List Int)+(r1.1.2.length+2)))) (a0,0,false,[],r1.1.1,r1.1.2,()) (FQ)) fun v5=>
 some ((v5.2.2.1,v5.2.2.2.1),())
def Lr (a0:aj) (a1:Int):Option (aP×Unit):=
 (mD a0.1).bind fun r1=>
 (xH (w64 (a1 - a0.2))).bind fun r2=>
 (iA r1.1 r2.1).bind fun r3=>
 some (r3.1,())
abbrev FV:Type:=(List Int)×(List Int)×Int×Unit
abbrev F5:Type:=((Int×Unit) ⊕ Unit)
def AM (x1:FV) (again:FV→Option F5):Option F5:=
 match x1 with
 | (A,B,C,_)=>
 bif decide (C≥0) then
  (idx A C).bind fun y2=>
  (idx B C).bind fun y3=>
  bif y2 != y3 then
   (idx A C).bind fun y4=>
   (idx B C).bind fun y5=>
   some (.inl (w64 (y4 - y5),()))
  else
   again (A,B,w64 (C - 1),())
 else
  some (.inr ())
def ET (a0:List Int) (a1:List Int):Option (Int×Unit):=
 bif ((a0.length:Int)) != ((a1.length:Int)) then
  some (w64 (((a0.length:Int)) - ((a1.length:Int))),())
 else
  aO (
   iter (X:=FV) (β:=F5) (a0.length+(a1.length+(Int.natAbs (w64 (((a0.length:Int)) - 1))+2))) (a0,a1,w64 (((a0.length:Int)) - 1),()) (AM)) fun _=>
  some (0,())
def xP (a0:List Int) (a1:Int):Option (Int×Unit):=
 bif decide (a1<((a0.length:Int))) then
  (idx a0 a1).bind fun y1=>
  some (y1,())
 else
  some (0,())
abbrev Eu:Type:=Int×Int×Int×Bool×(List Int)×Bool×(List Int)×Bool×(List Int)×Bool×(List Int)×Unit
abbrev DM:Type:=((aP×Unit) ⊕ (Bool×(List Int)×Bool×(List Int)×Unit))
def Ek (x1:Eu) (again:Eu→Option DM):Option DM:=
 match x1 with
 | (A,B,C,D,E,F,G,H,I,J,K,_)=>
 bif decide (C<B) then
  (idx E C).bind fun y2=>
  (xP G C).bind fun r3=>
  aO (γ:=(Int×Int×Int×Int×Bool×(List Int)×Bool×(List Int)×Bool×(List Int)×Bool×(List Int)×Unit)) (
   bif decide ((w64 ((w64 (y2 - r3.1)) - A))<0) then
    let n4:Int:=w64 ((w64 ((w64 (y2 - r3.1)) - A))+1000000)
    some (.inr (1,n4,B,C,D,E,F,G,H,I,J,K,()))
   else
    some (.inr (0,w64 ((w64 (y2 - r3.1)) - A),B,C,D,E,F,G,H,I,J,K,()))) fun (L,M,N,O,P,Q,R,S,T,U,V,W,_)=>
  chk (decide (((W.length)+1)*8≤140737488355328)&&decide ((W.length)+1≤maxLen)) <|
  again (L,N,w64 (O+1),P,Q,R,S,T,U,V,W++[M],())
 else
  some (.inr (H,I,J,K,()))
abbrev FY:Type:=Int×Int×Int×Bool×(List Int)×Bool×(List Int)×Bool×(List Int)×Bool×(List Int)×Unit
abbrev FT:Type:=((aP×Unit) ⊕ (Bool×(List Int)×Bool×(List Int)×Unit))
def FP (x1:FY) (again:FY→Option FT):Option FT:=
 match x1 with
 | (A,B,C,D,E,F,G,H,I,J,K,_)=>
 bif decide (C<B) then
  (xP E C).bind fun r2=>
  (xP G C).bind fun r3=>
  let n4:Int:=Int.tmod (w64 ((w64 (r2.1+r3.1))+A)) 1000000
  chk (decide (((K.length)+1)*8≤140737488355328)&&decide ((K.length)+1≤maxLen)) <|
  let n5:Int:=w64 (Int.tdiv (w64 ((w64 (r2.1+r3.1))+A)) 1000000)
  again (n5,B,w64 (C+1),D,E,F,G,H,I,J,K++[n4],())
 else
  some (.inr (H,I,J,K,()))
def zz (a0:aP) (a1:aP):Option (aP×Unit):=
 bif !(a0.1==a1.1) then
  (ET a0.2 a1.2).bind fun r1=>
  aO (γ:=(Bool×(List Int)×Bool×(List Int)×Bool×(List Int)×Unit)) (
   bif decide (r1.1<0) then
    some (.inr (a1.1,a1.2,a0.1,a0.2,false,[],()))
   else
    some (.inr (a0.1,a0.2,a1.1,a1.2,false,[],()))) fun (A,B,C,D,E,F,_)=>
  aO (
   iter (X:=Eu) (β:=DM) (Int.natAbs (0:Int)+(Int.natAbs ((B.length:Int))+(Int.natAbs (0:Int)+(B.length+(D.length+(F.length+(List.length ([]:List Int)+2))))))) (0,(B.length:Int),0,A,B,C,D,E,F,A,[],()) (Ek)) fun v8=>
  (oZ (v8.2.2.1,v8.2.2.2.1)).bind fun r9=>
  some (r9.1,())
 else
  let n10:Int:=w64 ((if ((a1.2.length:Int))>((a0.2.length:Int)) then ((a1.2.length:Int)) else ((a0.2.length:Int)))+1)
  aO (
   iter (X:=FY) (β:=FT) (Int.natAbs (0:Int)+(n10.natAbs+(Int.natAbs (0:Int)+(a0.2.length+(a1.2.length+(List.length ([]:List Int)+(List.length ([]:List Int)+2))))))) (0,n10,0,a0.1,a0.2,a1.1,a1.2,false,[],a0.1,[],()) (FP)) fun v16=>
  (oZ (v16.2.2.1,v16.2.2.2.1)).bind fun r17=>
  some (r17.1,())
def u0 (a0:aP):Option (aP×Unit):=
 bif decide (((a0.2.length:Int))>0) then
  some ((!a0.1,a0.2),())
 else
  some (a0,())
def CU (a0:aP):Option (Int×Unit):=
 bif ((a0.2.length:Int))==0 then
  some (0,())
 else
  bif a0.1 then
   some ((-1),())
  else
   some (1,())
def M7 (a0:aP) (a1:aP):Option (Int×Unit):=
 (u0 a1).bind fun r1=>
 (zz a0 r1.1).bind fun r2=>
 (CU r2.1).bind fun r3=>
 some (r3.1,())
end Go.Md
namespace Go.Md
open Go.Dn
abbrev I7:Type:=Bys×Int×Int×Unit
abbrev JO:Type:=((Bool×Unit) ⊕ Unit)
def DN (x1:I7) (again:I7→Option JO):Option JO:=
 match x1 with
 | (A,B,C,_)=>
 bif decide (C<B) then
  (HW A C).bind fun c2=>
  bif decide ((c2.toNat:Int)<97) then
   bif decide ((c2.toNat:Int)<48) then
    bif (c2.toNat:Int) != 45 then
     some (.inl (false,()))
    else
     again (A,B,w64 (C+1),())
   else
    bif decide ((c2.toNat:Int)>57) then
     bif (c2.toNat:Int) != 45 then
      some (.inl (false,()))
     else
      again (A,B,w64 (C+1),())
    else
     again (A,B,w64 (C+1),())
  else
   bif decide ((c2.toNat:Int)>122) then
    bif decide ((c2.toNat:Int)<48) then
     bif (c2.toNat:Int) != 45 then
      some (.inl (false,()))
     else
      again (A,B,w64 (C+1),())
    else
     bif decide ((c2.toNat:Int)>57) then
      bif (c2.toNat:Int) != 45 then
       some (.inl (false,()))
      else
       again (A,B,w64 (C+1),())
     else
      again (A,B,w64 (C+1),())
   else
    again (A,B,w64 (C+1),())
 else
  some (.inr ())
def Sc (a0:Bys):Option (Bool×Unit):=
 bif a0==[] then
  some (false,())
 else
  bif decide (((a0.length:Int))>40) then
   some (false,())
  else
   (HW a0 0).bind fun c1=>
   bif decide ((c1.toNat:Int)<97) then
    some (false,())
   else
    (HW a0 0).bind fun c2=>
    bif decide ((c2.toNat:Int)>122) then
     some (false,())
    else
     aO (
      iter (X:=I7) (β:=JO) (a0.length+(Int.natAbs ((a0.length:Int))+(Int.natAbs (0:Int)+2))) (a0,(a0.length:Int),0,()) (DN)) fun _=>
     some (true,())
def mu (a0:Bys):Option (Bool×Unit):=
 (Sc a0).bind fun r1=>
 some (r1.1,())
def yL (a0:Int) (a1:Int) (a2:Int):Option (Bool×Unit):=
 bif decide (a1≤a0) then
  some (decide (a0≤a2),())
 else
  some (false,())
def Ve (a0:Int):Option (Bool×Unit):=
 (yL a0 1 3652059).bind fun r1=>
 some (r1.1,())
def NQ (a0:Int):Option (Bool×Unit):=
 (Ve a0).bind fun r1=>
 some (r1.1,())
def di (a0:aj):Option (Int×Unit):=
 (yL a0.1 (-1000000000000000) 1000000000000000).bind fun r1=>
 bif !r1.1 then
  some (1,())
 else
  (yL a0.2 0 9).bind fun r2=>
  bif !r2.1 then
   some (1,())
  else
   some (0,())
def yZ (a0:aj) (a1:aj):Option (Int×Unit):=
 (Lr a0 9).bind fun r1=>
 (Lr a1 9).bind fun r2=>
 (M7 r1.1 r2.1).bind fun r3=>
 some (r3.1,())
def m6 (a0:aj) (a1:Int) (a2:Int) (a3:Int):Option (Bool×Unit):=
 (di a0).bind fun r1=>
 bif r1.1==0 then
  bif decide (a0.2≤a3) then
   (yZ a0 (a1,0)).bind fun r2=>
   bif decide (r2.1≥0) then
    (yZ a0 (a2,0)).bind fun r3=>
    some (decide (r3.1≤0),())
   else
    some (false,())
  else
   some (false,())
 else
  some (false,())
def lP (a0:Int) (a1:Int) (a2:Int):Option (Bool×Unit):=
 bif decide (a1≤a0) then
  some (decide (a0≤a2),())
 else
  some (false,())
end Go.Md
end
