/-
  Plain models, fourth part. No condition.
-/
import Derived.Test.YtilaijcbckgmmabGreatDoorYo
import Derived.Test.YtilaijcbckgmmabGreatDoorYd
noncomputable section
namespace Go.Md
open Go.Dn
abbrev slices_Sort_int (l:List Int):Option (List Int×Unit):=afn l
noncomputable section
abbrev bq:Ty:=(.st (.pair bg (.pair tI (.pair tI (.slice cO)))))
abbrev au:Type:=aq×Int×Int×(List aL)
abbrev fR:Ty:=(.st (.pair aY (.pair (.slice az) (.pair (.slice bq) (.slice cl)))))
abbrev eN:Type:=aj×(List aa)×(List au)×(List ah)
abbrev gD:Type:=(List (Option Nat))×Int×Int×Bys×Bys×Bys×Int×Int×(List aF)×(List aa)×Int×(List Int)×(List ah)×(List aL)×(List (Int×(Option Nat)))×Unit
abbrev jK:Type:=(((List (Option Nat))×(aj×(List aa)×(List (Int×(Option Nat)))×(List ah)×(List aL)×Int×Unit)×Unit) ⊕ ((List (Option Nat))×Bys×Bys×Bys×Int×Int×(List aF)×(List aa)×Int×(List ah)×(List aL)×(List (Int×(Option Nat)))×Unit))
def jJ (x1:gD) (again:gD->Option jK):Option jK:=
 match x1 with
 | (A,B,C,D,E,F,G,H,I,J,K,L,M,N,O,_)=>
 bif decide (C<B) then
  chk (decide (0<=C)&&decide (C<(L.length:Int))) <|
  (L[C.toNat]?).bind fun y2=>
  chk (decide (((A.length)+1)*8<=140737488355328)&&decide ((A.length)+1<=maxLen)) <|
  again (A++[(Option.getD (α:=Option Nat) (bV (k:=tI) (v:= .hnd) O y2) none)],B,w64 (C+1),D,E,F,G,H,I,J,K,L,M,N,O,())
 else
  some (.inr (A,D,E,F,G,H,I,J,K,M,N,O,()))
def mo (a0:aj×(List aa)×(List (Int×(Option Nat)))×(List ah)×(List aL)×Int×Unit):Option ((List (Option Nat))×(aj×(List aa)×(List (Int×(Option Nat)))×(List ah)×(List aL)×Int×Unit)×Unit):=
 chk (Nr a0.2.2.1) <|
 aB (
  iter (X:=gD) (β:=jK) (List.length ([]:List (Option Nat))+(Int.natAbs ((List.length (xC a0.2.2.1):Int))+(Int.natAbs (0:Int)+(a0.1.1.length+(a0.1.2.1.length+(a0.1.2.2.1.length+(a0.1.2.2.2.1.natAbs+(a0.1.2.2.2.2.1.natAbs+(a0.1.2.2.2.2.2.length+(a0.2.1.length+(a0.2.2.2.2.2.1.natAbs+(List.length ((xC a0.2.2.1):List Int)+(a0.2.2.2.1.length+(a0.2.2.2.2.1.length+(a0.2.2.1.length+2))))))))))))))) ([],(List.length (xC a0.2.2.1):Int),0,a0.1.1,a0.1.2.1,a0.1.2.2.1,a0.1.2.2.2.1,a0.1.2.2.2.2.1,a0.1.2.2.2.2.2,a0.2.1,a0.2.2.2.2.2.1,xC a0.2.2.1,a0.2.2.2.1,a0.2.2.2.2.1,a0.2.2.1,()) (jJ)) fun (A,B,C,D,E,F,G,H,I,J,K,L,_)=>
 some (A,((B,C,D,E,F,G),H,L,J,K,I,()),())
abbrev nQ:Type:=(List aq)×Int×Int×(List (Option Nat))×(List bf)×Unit
abbrev sY:Type:=(((List aq)×Int×Unit) ⊕ ((List aq)×(List bf)×Unit))
def sX (x1:nQ) (again:nQ->Option sY):Option sY:=
 match x1 with
 | (A,B,C,D,E,_)=>
 bif decide (C<B) then
  chk (decide (0<=C)&&decide (C<(D.length:Int))) <|
  (D[C.toNat]?).bind fun y2=>
  (kR y2 E).bind fun r3=>
  chk (decide (((A.length)+1)*144<=140737488355328)&&decide ((A.length)+1<=maxLen)) <|
  again (A++[r3.1],B,w64 (C+1),D,E,())
 else
  some (.inr (A,E,()))
def tP (a0:aj) (a1:List aa) (a2:Int):Option ((List aq)×Int×Unit):=
 Sq (EZ a0 a1 a2 []) (fun r1=>
  bif r1.2.1 != 0 then
   some ([],r1.2.1,())
  else
   none) (
  (KW a0 a1 a2 []).bind fun r2=>
  bif r2.2.1 != 0 then
   some ([],r2.2.1,())
  else
   (mo (r2.1.1,r2.1.2.1,r2.1.2.2.1,r2.1.2.2.2.1,r2.1.2.2.2.2.1,r2.1.2.2.2.2.2.1,())).bind fun r3=>
   aB (
    iter (X:=nQ) (β:=sY) (List.length ([]:List aq)+(Int.natAbs ((r3.1.length:Int))+(Int.natAbs (0:Int)+(r3.1.length+(r2.2.2.1.length+2))))) ([],(r3.1.length:Int),0,r3.1,r2.2.2.1,()) (sX)) fun v7=>
   some (v7.1,0,()))
abbrev yV:Type:=Int×Int×Int×Unit
abbrev C8:Type:=((Int×Unit) ⊕ (Int×Unit))
def C7 (x1:yV) (again:yV->Option C8):Option C8:=
 bif decide (x1.2.2.1<x1.2.1) then
  again (w64 (x1.1*10),x1.2.1,w64 (x1.2.2.1+1),())
 else
  some (.inr (x1.1,()))
def qL (a0:ah):Option (Int×Unit):=
 aB (
  iter (X:=yV) (β:=C8) (a0.1.natAbs+(Int.natAbs (w64 (3 - a0.2))+(Int.natAbs (0:Int)+2))) (a0.1,w64 (3 - a0.2),0,()) (C7)) fun v2=>
 some (v2.1,())
def mz (a0:ah) (a1:ah):Option (ah×Unit):=
 (qL a0).bind fun r1=>
 (qL a1).bind fun r2=>
 (eY (w64 (r1.1+r2.1),3)).bind fun r3=>
 some (r3.1,())
def GF (a0:ah) (a1:ah):Option (ah×Unit):=
 (mz a0 (w64 (0 - a1.1),a1.2)).bind fun r1=>
 some (r1.1,())
def AA (a0:aq):Option (ah×Unit):=
 (GF a0.2.2.2.2.2.2.1 a0.2.2.2.2.2.2.2.2.1).bind fun r1=>
 some (r1.1,())
def qM (a0:aq):Option (aq×Unit):=
 (AA a0).bind fun r1=>
 (GF a0.2.2.2.1 r1.1).bind fun r2=>
 bif decide (r2.1.1<0) then
  some ((a0.1,a0.2.1,a0.2.2.1,a0.2.2.2.1,a0.2.2.2.2.1,a0.2.2.2.2.2.1,a0.2.2.2.2.2.2.1,a0.2.2.2.2.2.2.2.1,a0.2.2.2.2.2.2.2.2.1,0,0),())
 else
  some ((a0.1,a0.2.1,a0.2.2.1,a0.2.2.2.1,a0.2.2.2.2.1,a0.2.2.2.2.2.1,a0.2.2.2.2.2.2.1,a0.2.2.2.2.2.2.2.1,a0.2.2.2.2.2.2.2.2.1,r2.1),())
def BD (a0:aj) (a1:Int):Option (Int×Unit):=
 (idx a0.2.2.2.2.2 a1).bind fun y1=>
 (lQ y1.1 1 99999).bind fun r2=>
 bif !r2.1 then
  some (1,())
 else
  (
   bif decide (a1>0) then
    Option.bind (idx a0.2.2.2.2.2 (w64 (a1 - 1))) fun y3=>
    some (decide (y1.1<=y3.1),())
   else
    some (false,())).bind fun v4=>
  bif v4.1 then
   some (8,())
  else
   (eX y1.2.1).bind fun r5=>
   bif !r5.1 then
    some (5,())
   else
    (oa y1.2.2.1 false).bind fun r6=>
    bif r6.1 != 0 then
     some (1,())
    else
     (eX y1.2.2.2.1).bind fun r7=>
     bif !r7.1 then
      some (5,())
     else
      (um y1.2.2.2.2.1).bind fun r8=>
      bif r8.1 != 0 then
       some (1,())
      else
       (lQ y1.2.2.2.2.2 a0.2.2.2.1 3652059).bind fun r9=>
       bif !r9.1 then
        some (1,())
       else
        some (0,())
abbrev qZ:Type:=Int×Int×Bys×Bys×Bys×Int×Int×(List aF)×Unit
abbrev yz:Type:=((Int×Unit) ⊕ Unit)
def qY (x1:qZ) (again:qZ->Option yz):Option yz:=
 match x1 with
 | (A,B,C,D,E,F,G,H,_)=>
 bif decide (B<A) then
  (BD (C,D,E,F,G,H) B).bind fun r2=>
  bif r2.1 != 0 then
   some (.inl (r2.1,()))
  else
   again (A,w64 (B+1),C,D,E,F,G,H,())
 else
  some (.inr ())
def uk (a0:aj):Option (Int×Unit):=
 (eX a0.1).bind fun r1=>
 bif !r1.1 then
  some (5,())
 else
  (eX a0.2.1).bind fun r2=>
  bif !r2.1 then
   some (5,())
  else
   (eX a0.2.2.1).bind fun r3=>
   bif !r3.1 then
    some (5,())
   else
    bif a0.2.1==a0.2.2.1 then
     some (12,())
    else
     (td a0.2.2.2.1).bind fun r4=>
     bif !r4.1 then
      some (1,())
     else
      (lQ a0.2.2.2.2.1 0 1000).bind fun r5=>
      bif !r5.1 then
       some (1,())
      else
       bif ((a0.2.2.2.2.2.length:Int))==0 then
        some (9,())
       else
        bif decide (((a0.2.2.2.2.2.length:Int))>500) then
         some (2,())
        else
         aB (
          iter (X:=qZ) (β:=yz) (Int.natAbs ((a0.2.2.2.2.2.length:Int))+(Int.natAbs (0:Int)+(a0.1.length+(a0.2.1.length+(a0.2.2.1.length+(a0.2.2.2.1.natAbs+(a0.2.2.2.2.1.natAbs+(a0.2.2.2.2.2.length+2)))))))) ((a0.2.2.2.2.2.length:Int),0,a0.1,a0.2.1,a0.2.2.1,a0.2.2.2.1,a0.2.2.2.2.1,a0.2.2.2.2.2,()) (qY)) fun _=>
         some (0,())
end
end Go.Md
namespace Go.Md
open Go.Dn
abbrev gY (l:List au) (i:Int) (v:List au):=Wj 184 l i v
def SF (a0:aj) (a1:List aa):Option (Int×Unit):=
 (uk a0).bind fun r1=>
 bif r1.1 != 0 then
  some (r1.1,())
 else
  (uj a1).bind fun r2=>
  some (r2.1,())
abbrev mS:Type:=Int×(List au)×Int×Int×Unit
abbrev rf:Type:=((Int×Unit) ⊕ Unit)
def q9 (x1:mS) (again:mS->Option rf):Option rf:=
 match x1 with
 | (A,B,C,D,_)=>
 bif decide (D<C) then
  (idx B D).bind fun y2=>
  bif y2.1.1==A then
   some (.inl (D,()))
  else
   again (A,B,C,w64 (D+1),())
 else
  some (.inr ())
def rZ (a0:eN) (a1:Int):Option (Int×Unit):=
 aB (
  iter (X:=mS) (β:=rf) (a1.natAbs+(a0.2.2.1.length+(Int.natAbs ((a0.2.2.1.length:Int))+(Int.natAbs (0:Int)+2)))) (a1,a0.2.2.1,(a0.2.2.1.length:Int),0,()) (q9)) fun _=>
 some ((-1),())
def BA (a0:eN) (a1:aq):Option (Int×Unit):=
 (qL a1.2.2.2.1).bind fun r1=>
 let n2:Int:=w64 (r1.1+(w64 (Int.tdiv (w64 (r1.1*a0.1.2.2.2.2.1)) 1000)))
 some (n2,())
def vk (a0:eN) (a1:Int):Option (Int×Unit):=
 (idx a0.2.1 a1).bind fun y1=>
 (rZ a0 y1.2.2.2.2.1).bind fun r2=>
 bif !((decide (r2.1<0))==(y1.2.2.2.1==1)) then
  bif decide (r2.1<0) then
   some (9,())
  else
   some (7,())
 else
  (
   bif decide (r2.1<0) then
    some (decide (((a0.2.2.1.length:Int))>=500),())
   else
    some (false,())).bind fun v3=>
  bif v3.1 then
   some (16,())
  else
   (
    Option.bind (HP y1.2.2.2.1) fun r4=>
    bif r4.1.2.2.1 then
     some (decide (y1.2.2.2.2.2.2.2.2.2.1<a0.1.2.2.2.1),())
    else
     some (false,())).bind fun v5=>
   bif v5.1 then
    some (1,())
   else
    bif decide (r2.1<0) then
     some (0,())
    else
     (idx a0.2.2.1 r2.1).bind fun y6=>
     aB (γ:=(eN×Int×Bool×Int×Int×Int×Int×Int×Bys×Int×Int×Bys×Int×Int×Int×Int×Int×Bys×Bys×Int×Int×Int×Int×Int×Int×Int×Int×Int×Int×Int×Int×Int×Int×Int×(List aL)×Int×Bys×Bys×Int×Int×Int×Int×Int×Int×Int×Int×Int×Int×Int×Int×Int×Unit)) (
      bif y1.2.2.2.1==2 then
       some (.inr (a0,y1.2.2.2.1,y1.2.2.2.1==2,y1.1,y1.2.1,y1.2.2.1,y1.2.2.2.1,y1.2.2.2.2.1,y1.2.2.2.2.2.1,y1.2.2.2.2.2.2.1.1,y1.2.2.2.2.2.2.1.2,y1.2.2.2.2.2.2.2.1,y1.2.2.2.2.2.2.2.2.1.1,y1.2.2.2.2.2.2.2.2.1.2,y1.2.2.2.2.2.2.2.2.2.1,y1.2.2.2.2.2.2.2.2.2.2,y6.1.1,y6.1.2.1,y6.1.2.2.1,y6.1.2.2.2.1.1,y6.1.2.2.2.1.2,y6.1.2.2.2.2.1.1,y6.1.2.2.2.2.1.2,y6.1.2.2.2.2.2.1,y6.1.2.2.2.2.2.2.1.1,y6.1.2.2.2.2.2.2.1.2,y6.1.2.2.2.2.2.2.2.1.1,y6.1.2.2.2.2.2.2.2.1.2,y6.1.2.2.2.2.2.2.2.2.1.1,y6.1.2.2.2.2.2.2.2.2.1.2,y6.1.2.2.2.2.2.2.2.2.2.1,y6.1.2.2.2.2.2.2.2.2.2.2,y6.2.1,y6.2.2.1,y6.2.2.2,y6.1.1,y6.1.2.1,y6.1.2.2.1,y6.1.2.2.2.1.1,y6.1.2.2.2.1.2,y6.1.2.2.2.2.1.1,y6.1.2.2.2.2.1.2,y6.1.2.2.2.2.2.1,y6.1.2.2.2.2.2.2.1.1,y6.1.2.2.2.2.2.2.1.2,y6.1.2.2.2.2.2.2.2.1.1,y6.1.2.2.2.2.2.2.2.1.2,y6.1.2.2.2.2.2.2.2.2.1.1,y6.1.2.2.2.2.2.2.2.2.1.2,y6.1.2.2.2.2.2.2.2.2.2.1,y6.1.2.2.2.2.2.2.2.2.2.2,()))
      else
       bif y1.2.2.2.1==3 then
        some (.inr (a0,y1.2.2.2.1,y1.2.2.2.1==3,y1.1,y1.2.1,y1.2.2.1,y1.2.2.2.1,y1.2.2.2.2.1,y1.2.2.2.2.2.1,y1.2.2.2.2.2.2.1.1,y1.2.2.2.2.2.2.1.2,y1.2.2.2.2.2.2.2.1,y1.2.2.2.2.2.2.2.2.1.1,y1.2.2.2.2.2.2.2.2.1.2,y1.2.2.2.2.2.2.2.2.2.1,y1.2.2.2.2.2.2.2.2.2.2,y6.1.1,y6.1.2.1,y6.1.2.2.1,y6.1.2.2.2.1.1,y6.1.2.2.2.1.2,y6.1.2.2.2.2.1.1,y6.1.2.2.2.2.1.2,y6.1.2.2.2.2.2.1,y6.1.2.2.2.2.2.2.1.1,y6.1.2.2.2.2.2.2.1.2,y6.1.2.2.2.2.2.2.2.1.1,y6.1.2.2.2.2.2.2.2.1.2,y6.1.2.2.2.2.2.2.2.2.1.1,y6.1.2.2.2.2.2.2.2.2.1.2,y6.1.2.2.2.2.2.2.2.2.2.1,y6.1.2.2.2.2.2.2.2.2.2.2,y6.2.1,y6.2.2.1,y6.2.2.2,y6.1.1,y6.1.2.1,y6.1.2.2.1,y6.1.2.2.2.1.1,y6.1.2.2.2.1.2,y6.1.2.2.2.2.1.1,y6.1.2.2.2.2.1.2,y6.1.2.2.2.2.2.1,y6.1.2.2.2.2.2.2.1.1,y6.1.2.2.2.2.2.2.1.2,y6.1.2.2.2.2.2.2.2.1.1,y6.1.2.2.2.2.2.2.2.1.2,y6.1.2.2.2.2.2.2.2.2.1.1,y6.1.2.2.2.2.2.2.2.2.1.2,y6.1.2.2.2.2.2.2.2.2.2.1,y6.1.2.2.2.2.2.2.2.2.2.2,()))
       else
        some (.inr (a0,y1.2.2.2.1,y1.2.2.2.1==4,y1.1,y1.2.1,y1.2.2.1,y1.2.2.2.1,y1.2.2.2.2.1,y1.2.2.2.2.2.1,y1.2.2.2.2.2.2.1.1,y1.2.2.2.2.2.2.1.2,y1.2.2.2.2.2.2.2.1,y1.2.2.2.2.2.2.2.2.1.1,y1.2.2.2.2.2.2.2.2.1.2,y1.2.2.2.2.2.2.2.2.2.1,y1.2.2.2.2.2.2.2.2.2.2,y6.1.1,y6.1.2.1,y6.1.2.2.1,y6.1.2.2.2.1.1,y6.1.2.2.2.1.2,y6.1.2.2.2.2.1.1,y6.1.2.2.2.2.1.2,y6.1.2.2.2.2.2.1,y6.1.2.2.2.2.2.2.1.1,y6.1.2.2.2.2.2.2.1.2,y6.1.2.2.2.2.2.2.2.1.1,y6.1.2.2.2.2.2.2.2.1.2,y6.1.2.2.2.2.2.2.2.2.1.1,y6.1.2.2.2.2.2.2.2.2.1.2,y6.1.2.2.2.2.2.2.2.2.2.1,y6.1.2.2.2.2.2.2.2.2.2.2,y6.2.1,y6.2.2.1,y6.2.2.2,y6.1.1,y6.1.2.1,y6.1.2.2.1,y6.1.2.2.2.1.1,y6.1.2.2.2.1.2,y6.1.2.2.2.2.1.1,y6.1.2.2.2.2.1.2,y6.1.2.2.2.2.2.1,y6.1.2.2.2.2.2.2.1.1,y6.1.2.2.2.2.2.2.1.2,y6.1.2.2.2.2.2.2.2.1.1,y6.1.2.2.2.2.2.2.2.1.2,y6.1.2.2.2.2.2.2.2.2.1.1,y6.1.2.2.2.2.2.2.2.2.1.2,y6.1.2.2.2.2.2.2.2.2.2.1,y6.1.2.2.2.2.2.2.2.2.2.2,()))) fun (A,B,C,D,E,F,G,H,I,J,K,L,M,N,O,P,Q,R,S,T,U,V,W,X,Y,Z,A0,B0,C0,D0,E0,F0,G0,H0,I0,J0,K0,L0,M0,N0,O0,P0,Q0,R0,S0,T0,U0,V0,W0,X0,Y0,_)=>
     bif C then
      bif decide (G0>=0) then
       some (11,())
      else
       some (0,())
     else
      aB (γ:=(eN×Int×Bool×Int×Int×Int×Int×Int×Bys×Int×Int×Bys×Int×Int×Int×Int×Int×Bys×Bys×Int×Int×Int×Int×Int×Int×Int×Int×Int×Int×Int×Int×Int×Int×Int×(List aL)×Int×Bys×Bys×Int×Int×Int×Int×Int×Int×Int×Int×Int×Int×Int×Int×Int×Unit)) (
       bif B==5 then
        some (.inr (A,B,B==5,D,E,F,G,H,I,J,K,L,M,N,O,P,Q,R,S,T,U,V,W,X,Y,Z,A0,B0,C0,D0,E0,F0,G0,H0,I0,J0,K0,L0,M0,N0,O0,P0,Q0,R0,S0,T0,U0,V0,W0,X0,Y0,()))
       else
        some (.inr (A,B,B==6,D,E,F,G,H,I,J,K,L,M,N,O,P,Q,R,S,T,U,V,W,X,Y,Z,A0,B0,C0,D0,E0,F0,G0,H0,I0,J0,K0,L0,M0,N0,O0,P0,Q0,R0,S0,T0,U0,V0,W0,X0,Y0,()))) fun (Z0,A1,B1,_,_,_,C1,_,_,D1,E1,_,_,_,_,F1,_,_,_,_,_,_,_,_,_,_,_,_,_,_,_,_,G1,H1,_,I1,J1,K1,L1,M1,N1,O1,P1,Q1,R1,S1,T1,U1,V1,W1,X1,_)=>
      bif B1 then
       bif decide (G1<0) then
        some (5,())
       else
        (idx Z0.2.1 G1).bind fun y9=>
        bif y9.2.2.1 != F1 then
         some (5,())
        else
         (
          bif C1==5 then
           Option.bind (idx Z0.2.1 G1) fun y10=>
           bif y10.2.2.2.1==2 then
            Option.bind (idx Z0.2.1 G1) fun y11=>
            Option.bind (AA (I1,J1,K1,(L1,M1),(N1,O1),P1,(Q1,R1),(S1,T1),(U1,V1),W1,X1)) fun r12=>
            Option.bind (wE y11.2.2.2.2.2.2.1 r12.1) fun r13=>
            some (decide (r13.1<0),())
           else
            some (false,())
          else
           some (false,())).bind fun v14=>
         bif v14.1 then
          some (12,())
         else
          some (0,())
      else
       bif A1==7 then
        bif decide (G1>=0) then
         some (11,())
        else
         bif W1==0 then
          some (11,())
         else
          (wE (D1,E1) (W1,X1)).bind fun r15=>
          bif decide (r15.1>0) then
           some (12,())
          else
           some (0,())
       else
        bif A1==8 then
         bif decide (G1>=0) then
          some (11,())
         else
          bif decide (H1<0) then
           some (5,())
          else
           (idx Z0.2.1 H1).bind fun y16=>
           bif y16.2.2.1 != F1 then
            some (5,())
           else
            some (0,())
        else
         bif A1==9 then
          (AA (I1,J1,K1,(L1,M1),(N1,O1),P1,(Q1,R1),(S1,T1),(U1,V1),W1,X1)).bind fun r17=>
          (qL r17.1).bind fun r18=>
          (qL (D1,E1)).bind fun r19=>
          (BA Z0 (I1,J1,K1,(L1,M1),(N1,O1),P1,(Q1,R1),(S1,T1),(U1,V1),W1,X1)).bind fun r20=>
          bif decide ((w64 (r18.1+r19.1))>r20.1) then
           some (12,())
          else
           (qL (Q1,R1)).bind fun r21=>
           (qL (D1,E1)).bind fun r22=>
           bif decide ((w64 (r21.1+r22.1))>1000000000000000) then
            some (16,())
           else
            some (0,())
         else
          bif A1==10 then
           (mz (S1,T1) (D1,E1)).bind fun r23=>
           (wE r23.1 (Q1,R1)).bind fun r24=>
           bif decide (r24.1>0) then
            some (12,())
           else
            some (0,())
          else
           bif A1==11 then
            (mz (U1,V1) (D1,E1)).bind fun r25=>
            (wE r25.1 (S1,T1)).bind fun r26=>
            bif decide (r26.1>0) then
             some (12,())
            else
             some (0,())
           else
            some (0,())
def kL {β:Type} (a0:(List aa)) (a1:(List au)) (a2:Nat) (k:(List au)->Option β):Option β:=
 (a1[a2]?).bind fun y1=>
 (idx a0 y1.2.1).bind fun y2=>
 bif y2.2.2.2.1==1 then
  bif y2.2.2.2.1==1 then
   (eY y2.2.2.2.2.2.2.1).bind fun r3=>
   (a1[a2]?).bind fun y4=>
   ((List.set a1 a2 ((y4.1.1,y4.1.2.1,y4.1.2.2.1,r3.1,y4.1.2.2.2.2),y4.2))[a2]?).bind fun y5=>
   k (List.set (List.set a1 a2 ((y4.1.1,y4.1.2.1,y4.1.2.2.1,r3.1,y4.1.2.2.2.2),y4.2)) a2 (y5.1,(-1),y5.2.2))
  else
   bif y2.2.2.2.1==3 then
    (a1[a2]?).bind fun y6=>
    ((List.set a1 a2 ((y6.1.1,y6.1.2.1,y6.1.2.2.1,y6.1.2.2.2.1,y6.1.2.2.2.2.1,y2.2.2.2.2.2.2.2.2.2.1,y6.1.2.2.2.2.2.2),y6.2))[a2]?).bind fun y7=>
    k (List.set (List.set a1 a2 ((y6.1.1,y6.1.2.1,y6.1.2.2.1,y6.1.2.2.2.1,y6.1.2.2.2.2.1,y2.2.2.2.2.2.2.2.2.2.1,y6.1.2.2.2.2.2.2),y6.2)) a2 (y7.1,(-1),y7.2.2))
   else
    bif y2.2.2.2.1==4 then
     (eY y2.2.2.2.2.2.2.2.2.1).bind fun r8=>
     (a1[a2]?).bind fun y9=>
     ((List.set a1 a2 ((y9.1.1,y9.1.2.1,y9.1.2.2.1,y9.1.2.2.2.1,r8.1,y9.1.2.2.2.2.2),y9.2))[a2]?).bind fun y10=>
     k (List.set (List.set a1 a2 ((y9.1.1,y9.1.2.1,y9.1.2.2.1,y9.1.2.2.2.1,r8.1,y9.1.2.2.2.2.2),y9.2)) a2 (y10.1,(-1),y10.2.2))
    else
     (a1[a2]?).bind fun y11=>
     k (List.set a1 a2 (y11.1,(-1),y11.2.2))
 else
  bif y2.2.2.2.1==2 then
   (eY y2.2.2.2.2.2.2.1).bind fun r12=>
   (a1[a2]?).bind fun y13=>
   ((List.set a1 a2 ((y13.1.1,y13.1.2.1,y13.1.2.2.1,r12.1,y13.1.2.2.2.2),y13.2))[a2]?).bind fun y14=>
   k (List.set (List.set a1 a2 ((y13.1.1,y13.1.2.1,y13.1.2.2.1,r12.1,y13.1.2.2.2.2),y13.2)) a2 (y14.1,(-1),y14.2.2))
  else
   bif y2.2.2.2.1==3 then
    (a1[a2]?).bind fun y15=>
    ((List.set a1 a2 ((y15.1.1,y15.1.2.1,y15.1.2.2.1,y15.1.2.2.2.1,y15.1.2.2.2.2.1,y2.2.2.2.2.2.2.2.2.2.1,y15.1.2.2.2.2.2.2),y15.2))[a2]?).bind fun y16=>
    k (List.set (List.set a1 a2 ((y15.1.1,y15.1.2.1,y15.1.2.2.1,y15.1.2.2.2.1,y15.1.2.2.2.2.1,y2.2.2.2.2.2.2.2.2.2.1,y15.1.2.2.2.2.2.2),y15.2)) a2 (y16.1,(-1),y16.2.2))
   else
    bif y2.2.2.2.1==4 then
     (eY y2.2.2.2.2.2.2.2.2.1).bind fun r17=>
     (a1[a2]?).bind fun y18=>
     ((List.set a1 a2 ((y18.1.1,y18.1.2.1,y18.1.2.2.1,y18.1.2.2.2.1,r17.1,y18.1.2.2.2.2.2),y18.2))[a2]?).bind fun y19=>
     k (List.set (List.set a1 a2 ((y18.1.1,y18.1.2.1,y18.1.2.2.1,y18.1.2.2.2.1,r17.1,y18.1.2.2.2.2.2),y18.2)) a2 (y19.1,(-1),y19.2.2))
    else
     (a1[a2]?).bind fun y20=>
     k (List.set a1 a2 (y20.1,(-1),y20.2.2))
def gX (a0:(List aa)) (a1:(List au)) (a2:Nat):Option (List au):=kL a0 a1 a2 some
theorem acO {α β:Type} (b:Bool) (x y:Option α) (k:α->Option β):(bif b then x else y).bind k=bif b then x.bind k else y.bind k:=by cases b<;>rfl
theorem IP {β:Type} (l:List aa) (ql:List au) (i:Nat) (k:List au->Option β):kL l ql i k=(gX l ql i).bind k:=by
 unfold gX kL
 simp only[Option.bind_assoc,acO,aim]
def iK (a0:List aL):Option ((List aL)×Unit):=
 bif List.isEmpty a0 then
  both (
   some ([],())) (
   chk (decide ((0+(a0.length))*152<=140737488355328)&&decide (0+(a0.length)<=maxLen)) <|
   some (a0,()))
 else
  chk (decide ((0+(a0.length))*152<=140737488355328)&&decide (0+(a0.length)<=maxLen)) <|
  some (a0,())
abbrev mR:Type:=Int×Int×Int×Int×Int×Int×Int×Bys×Int×Int×Bys×Int×Int×Int×Int×Bys×Bys×Bys×Int×Int×(List aF)×(List aa)×(List au)×(List ah)×Unit
abbrev q8:Type:=((((aj×(List aa)×(List au)×(List ah)×Unit)×Unit) ⊕ (Int×Int×Int×Int×Int×Int×Int×Bys×Int×Int×Bys×Int×Int×Int×Int×Bys×Bys×Bys×Int×Int×(List aF)×(List aa)×(List au)×(List ah)×Unit)) ⊕ (Int×Int×Int×Int×Int×Int×Int×Bys×Int×Int×Bys×Int×Int×Int×Int×Bys×Bys×Bys×Int×Int×(List aF)×(List aa)×(List au)×(List ah)×Unit))
def q7 (x1:mR) (again:mR->Option q8):Option q8:=
 match x1 with
 | (A,B,C,D,E,F,G,H,I,J,K,L,M,N,O,P,Q,R,S,T,U,V,W,X,_)=>
 (
  bif decide (B<((W.length:Int))) then
   chk (decide (0<=B)&&decide (B<(W.length:Int))) <|
   Option.bind (W[B.toNat]?) fun y2=>
   some (decide (y2.1.1<G),())
  else
   some (false,())).bind fun v3=>
 bif v3.1 then
  again (A,w64 (B+1),C,D,E,F,G,H,I,J,K,L,M,N,O,P,Q,R,S,T,U,V,W,X,())
 else
  some (.inr (A,B,C,D,E,F,G,H,I,J,K,L,M,N,O,P,Q,R,S,T,U,V,W,X,()))
def kV (a0:aj×(List aa)×(List au)×(List ah)×Unit) (a1:Int):Option ((aj×(List aa)×(List au)×(List ah)×Unit)×Unit):=
 (idx a0.2.1 a1).bind fun y1=>
 (rZ (a0.1,a0.2.1,a0.2.2.1,a0.2.2.2.1) y1.2.2.2.2.1).bind fun r2=>
 aB (γ:=(Int×Int×Int×Int×Int×Int×Int×Bys×Int×Int×Bys×Int×Int×Int×Int×Bys×Bys×Bys×Int×Int×(List aF)×(List aa)×(List au)×(List ah)×Unit)) (
  bif decide (r2.1<0) then
   aB (
    iter (X:=mR) (β:=q8) (a1.natAbs+(Int.natAbs (0:Int)+(y1.1.natAbs+(y1.2.1.natAbs+(y1.2.2.1.natAbs+(y1.2.2.2.1.natAbs+(y1.2.2.2.2.1.natAbs+(y1.2.2.2.2.2.1.length+(y1.2.2.2.2.2.2.1.1.natAbs+(y1.2.2.2.2.2.2.1.2.natAbs+(y1.2.2.2.2.2.2.2.1.length+(y1.2.2.2.2.2.2.2.2.1.1.natAbs+(y1.2.2.2.2.2.2.2.2.1.2.natAbs+(y1.2.2.2.2.2.2.2.2.2.1.natAbs+(y1.2.2.2.2.2.2.2.2.2.2.natAbs+(a0.1.1.length+(a0.1.2.1.length+(a0.1.2.2.1.length+(a0.1.2.2.2.1.natAbs+(a0.1.2.2.2.2.1.natAbs+(a0.1.2.2.2.2.2.length+(a0.2.1.length+(a0.2.2.1.length+(a0.2.2.2.1.length+2)))))))))))))))))))))))) (a1,0,y1.1,y1.2.1,y1.2.2.1,y1.2.2.2.1,y1.2.2.2.2.1,y1.2.2.2.2.2.1,y1.2.2.2.2.2.2.1.1,y1.2.2.2.2.2.2.1.2,y1.2.2.2.2.2.2.2.1,y1.2.2.2.2.2.2.2.2.1.1,y1.2.2.2.2.2.2.2.2.1.2,y1.2.2.2.2.2.2.2.2.2.1,y1.2.2.2.2.2.2.2.2.2.2,a0.1.1,a0.1.2.1,a0.1.2.2.1,a0.1.2.2.2.1,a0.1.2.2.2.2.1,a0.1.2.2.2.2.2,a0.2.1,a0.2.2.1,a0.2.2.2.1,()) (q7)) fun (Z,A0,B0,C0,D0,E0,F0,G0,H0,I0,J0,K0,L0,M0,N0,O0,P0,Q0,R0,S0,T0,U0,V0,W0,_)=>
   (eY (K0,L0)).bind fun r7=>
   (gY V0 A0 [((F0,G0,J0,(0,0),r7.1,M0,(0,0),(0,0),(0,0),0,0),Z,(-1),[])]).bind fun r8=>
   some (.inr (Z,A0,B0,C0,D0,E0,F0,G0,H0,I0,J0,K0,L0,M0,N0,O0,P0,Q0,R0,S0,T0,U0,r8.1,W0,()))
  else
   some (.inr (a1,r2.1,y1.1,y1.2.1,y1.2.2.1,y1.2.2.2.1,y1.2.2.2.2.1,y1.2.2.2.2.2.1,y1.2.2.2.2.2.2.1.1,y1.2.2.2.2.2.2.1.2,y1.2.2.2.2.2.2.2.1,y1.2.2.2.2.2.2.2.2.1.1,y1.2.2.2.2.2.2.2.2.1.2,y1.2.2.2.2.2.2.2.2.2.1,y1.2.2.2.2.2.2.2.2.2.2,a0.1.1,a0.1.2.1,a0.1.2.2.1,a0.1.2.2.2.1,a0.1.2.2.2.2.1,a0.1.2.2.2.2.2,a0.2.1,a0.2.2.1,a0.2.2.2.1,()))) fun (A,B,C,D,E,F,G,H,I,J,K,L,M,N,O,P,Q,R,S,T,U,V,W,Y,_)=>
 chk (decide (0<=B)&&decide (B<(W.length:Int))) <|
 aB (γ:=(Int×(Nat)×Int×Int×Int×Int×Int×Bys×Int×Int×Bys×Int×Int×Int×Int×Bys×Bys×Bys×Int×Int×(List aF)×(List aa)×(List au)×(List ah)×Unit)) (
  bif D==2 then
   (W[B.toNat]?).bind fun y10=>
   some (.inr (A,B.toNat,C,D,E,F,G,H,I,J,K,L,M,N,O,P,Q,R,S,T,U,V,List.set W B.toNat (y10.1,y10.2.1,(-1),y10.2.2.2),Y,()))
  else
   some (.inr (A,B.toNat,C,D,E,F,G,H,I,J,K,L,M,N,O,P,Q,R,S,T,U,V,W,Y,()))) fun (X0,Y0,Z0,A1,B1,C1,D1,E1,F1,G1,H1,I1,J1,K1,L1,M1,N1,O1,P1,Q1,R1,S1,T1,U1,_)=>
 aB (γ:=(Int×(Nat)×Int×Bool×Int×Int×Int×Int×Int×Bys×Int×Int×Bys×Int×Int×Int×Int×Bys×Bys×Bys×Int×Int×(List aF)×(List aa)×(List au)×(List ah)×Unit)) (
  bif C1==2 then
   some (.inr (X0,Y0,C1,C1==2,Z0,A1,B1,C1,D1,E1,F1,G1,H1,I1,J1,K1,L1,M1,N1,O1,P1,Q1,R1,S1,T1,U1,()))
  else
   bif C1==3 then
    some (.inr (X0,Y0,C1,C1==3,Z0,A1,B1,C1,D1,E1,F1,G1,H1,I1,J1,K1,L1,M1,N1,O1,P1,Q1,R1,S1,T1,U1,()))
   else
    some (.inr (X0,Y0,C1,C1==4,Z0,A1,B1,C1,D1,E1,F1,G1,H1,I1,J1,K1,L1,M1,N1,O1,P1,Q1,R1,S1,T1,U1,()))) fun (V1,W1,X1,Y1,_,_,_,_,_,_,Z1,A2,_,_,_,_,_,B2,C2,D2,E2,F2,G2,H2,I2,J2,_)=>
 aB (γ:=(Int×(Nat)×Bys×Bys×Bys×Int×Int×(List aF)×(List aa)×(List au)×(List ah)×Unit)) (
  bif Y1 then
   (I2[W1]?).bind fun y13=>
   some (.inr (V1,W1,B2,C2,D2,E2,F2,G2,H2,List.set I2 W1 (y13.1,V1,y13.2.2),J2,()))
  else
   bif X1==5 then
    (gX H2 I2 W1).bind fun z14=>
    some (.inr (V1,W1,B2,C2,D2,E2,F2,G2,H2,z14,J2,()))
   else
    bif X1==6 then
     (I2[W1]?).bind fun y15=>
     some (.inr (V1,W1,B2,C2,D2,E2,F2,G2,H2,List.set I2 W1 (y15.1,(-1),y15.2.2),J2,()))
    else
     bif X1==7 then
      (I2[W1]?).bind fun y16=>
      some (.inr (V1,W1,B2,C2,D2,E2,F2,G2,H2,List.set I2 W1 (y16.1,y16.2.1,V1,y16.2.2.2),J2,()))
     else
      bif X1==8 then
       (I2[W1]?).bind fun y17=>
       (AA y17.1).bind fun r18=>
       (I2[W1]?).bind fun y19=>
       (idx H2 y19.2.2.1).bind fun y20=>
       (mz r18.1 y20.2.2.2.2.2.2.1).bind fun r21=>
       (I2[W1]?).bind fun y22=>
       (idx H2 y22.2.2.1).bind fun y23=>
       (I2[W1]?).bind fun y24=>
       ((List.set I2 W1 ((y24.1.1,y24.1.2.1,y24.1.2.2.1,r21.1,y24.1.2.2.2.2),y24.2))[W1]?).bind fun y25=>
       ((List.set (List.set I2 W1 ((y24.1.1,y24.1.2.1,y24.1.2.2.1,r21.1,y24.1.2.2.2.2),y24.2)) W1 ((y25.1.1,y25.1.2.1,y25.1.2.2.1,y25.1.2.2.2.1,y25.1.2.2.2.2.1,y23.2.2.2.2.2.2.2.2.2.1,y25.1.2.2.2.2.2.2),y25.2))[W1]?).bind fun y26=>
       some (.inr (V1,W1,B2,C2,D2,E2,F2,G2,H2,List.set (List.set (List.set I2 W1 ((y24.1.1,y24.1.2.1,y24.1.2.2.1,r21.1,y24.1.2.2.2.2),y24.2)) W1 ((y25.1.1,y25.1.2.1,y25.1.2.2.1,y25.1.2.2.2.1,y25.1.2.2.2.2.1,y23.2.2.2.2.2.2.2.2.2.1,y25.1.2.2.2.2.2.2),y25.2)) W1 (y26.1,y26.2.1,(-1),y26.2.2.2),J2,()))
      else
       bif X1==9 then
        (I2[W1]?).bind fun y27=>
        (mz y27.1.2.2.2.2.2.2.1 (Z1,A2)).bind fun r28=>
        (I2[W1]?).bind fun y29=>
        some (.inr (V1,W1,B2,C2,D2,E2,F2,G2,H2,List.set I2 W1 ((y29.1.1,y29.1.2.1,y29.1.2.2.1,y29.1.2.2.2.1,y29.1.2.2.2.2.1,y29.1.2.2.2.2.2.1,r28.1,y29.1.2.2.2.2.2.2.2),y29.2),J2,()))
       else
        bif X1==10 then
         (I2[W1]?).bind fun y30=>
         (mz y30.1.2.2.2.2.2.2.2.1 (Z1,A2)).bind fun r31=>
         (I2[W1]?).bind fun y32=>
         some (.inr (V1,W1,B2,C2,D2,E2,F2,G2,H2,List.set I2 W1 ((y32.1.1,y32.1.2.1,y32.1.2.2.1,y32.1.2.2.2.1,y32.1.2.2.2.2.1,y32.1.2.2.2.2.2.1,y32.1.2.2.2.2.2.2.1,r31.1,y32.1.2.2.2.2.2.2.2.2),y32.2),J2,()))
        else
         bif X1==11 then
          (I2[W1]?).bind fun y33=>
          (mz y33.1.2.2.2.2.2.2.2.2.1 (Z1,A2)).bind fun r34=>
          (I2[W1]?).bind fun y35=>
          some (.inr (V1,W1,B2,C2,D2,E2,F2,G2,H2,List.set I2 W1 ((y35.1.1,y35.1.2.1,y35.1.2.2.1,y35.1.2.2.2.1,y35.1.2.2.2.2.1,y35.1.2.2.2.2.2.1,y35.1.2.2.2.2.2.2.1,y35.1.2.2.2.2.2.2.2.1,r34.1,y35.1.2.2.2.2.2.2.2.2.2),y35.2),J2,()))
         else
          some (.inr (V1,W1,B2,C2,D2,E2,F2,G2,H2,I2,J2,()))) fun (K2,L2,M2,N2,O2,P2,Q2,R2,S2,T2,U2,_)=>
 (T2[L2]?).bind fun y37=>
 (qM y37.1).bind fun r38=>
 (T2[L2]?).bind fun y39=>
 ((List.set T2 L2 (r38.1,y39.2))[L2]?).bind fun y40=>
 (iK y40.2.2.2).bind fun r41=>
 ((List.set T2 L2 (r38.1,y39.2))[L2]?).bind fun y42=>
 chk (decide (((r41.1.length)+1)*152<=140737488355328)&&decide ((r41.1.length)+1<=maxLen)) <|
 ((List.set T2 L2 (r38.1,y39.2))[L2]?).bind fun y43=>
 some (((M2,N2,O2,P2,Q2,R2),S2,List.set (List.set T2 L2 (r38.1,y39.2)) L2 (y43.1,y43.2.1,y43.2.2.1,r41.1++[(K2,y42.1)]),U2,()),())
abbrev DK:Type:=(List aa)×Int×(List aF)×Int×Int×Bys×Bys×Bys×Int×Int×(List aF)×(List aa)×(List au)×(List ah)×Unit
abbrev HM:Type:=(((aj×(List aa)×(List au)×(List ah)×Unit)×Unit) ⊕ ((List aa)×Int×Bys×Bys×Bys×Int×Int×(List aF)×(List aa)×(List au)×(List ah)×Unit))
def HL (x1:DK) (again:DK->Option HM):Option HM:=
 match x1 with
 | (A,B,C,D,E,F,G,H,I,J,K,L,M,N,_)=>
 bif decide (E<D) then
  (idx C E).bind fun y2=>
  (eY y2.2.2.1).bind fun r3=>
  (eY y2.2.2.2.2.1).bind fun r4=>
  (qM (y2.1,y2.2.1,y2.2.2.2.1,r3.1,r4.1,y2.2.2.2.2.2,(0,0),(0,0),(0,0),0,0)).bind fun r5=>
  chk (decide (((M.length)+1)*184<=140737488355328)&&decide ((M.length)+1<=maxLen)) <|
  again (A,B,C,D,w64 (E+1),F,G,H,I,J,K,L,M++[(r5.1,(-1),(-1),[])],N,())
 else
  some (.inr (A,B,F,G,H,I,J,K,L,M,N,()))
abbrev HO:Type:=Int×(List aa)×Int×Int×Bys×Bys×Bys×Int×Int×(List aF)×(List aa)×(List au)×(List ah)×Unit
abbrev HN:Type:=(((aj×(List aa)×(List au)×(List ah)×Unit)×Unit) ⊕ (Bys×Bys×Bys×Int×Int×(List aF)×(List aa)×(List au)×(List ah)×Unit))
def DJ (x1:HO) (again:HO->Option HN):Option HN:=
 match x1 with
 | (A,B,C,D,E,F,G,H,I,J,K,L,M,_)=>
 bif decide (D<C) then
  (idx B D).bind fun y2=>
  bif decide (y2.1>A) then
   again (A,B,C,w64 (D+1),E,F,G,H,I,J,K,L,M,())
  else
   (vk ((E,F,G,H,I,J),K,L,M) D).bind fun r3=>
   bif r3.1 != 0 then
    chk (decide (((M.length)+1)*16<=140737488355328)&&decide ((M.length)+1<=maxLen)) <|
    again (A,B,C,w64 (D+1),E,F,G,H,I,J,K,L,M++[(D,r3.1)],())
   else
    (kV ((E,F,G,H,I,J),K,L,M,()) D).bind fun r4=>
    again (A,B,C,w64 (D+1),r4.1.1.1,r4.1.1.2.1,r4.1.1.2.2.1,r4.1.1.2.2.2.1,r4.1.1.2.2.2.2.1,r4.1.1.2.2.2.2.2,r4.1.2.1,r4.1.2.2.1,r4.1.2.2.2.1,())
 else
  some (.inr (E,F,G,H,I,J,K,L,M,()))
def SJ (a0:aj) (a1:List aa) (a2:Int):Option ((aj×(List aa)×(List au)×(List ah)×Unit)×Unit):=
 aB (
  iter (X:=DK) (β:=HM) (a1.length+(a2.natAbs+(a0.2.2.2.2.2.length+(Int.natAbs ((a0.2.2.2.2.2.length:Int))+(Int.natAbs (0:Int)+(a0.1.length+(a0.2.1.length+(a0.2.2.1.length+(a0.2.2.2.1.natAbs+(a0.2.2.2.2.1.natAbs+(a0.2.2.2.2.2.length+(a1.length+(List.length ([]:List au)+(List.length ([]:List ah)+2)))))))))))))) (a1,a2,a0.2.2.2.2.2,(a0.2.2.2.2.2.length:Int),0,a0.1,a0.2.1,a0.2.2.1,a0.2.2.2.1,a0.2.2.2.2.1,a0.2.2.2.2.2,a1,[],[],()) (HL)) fun (A,B,C,D,E,F,G,H,I,J,K,_)=>
 aB (
  iter (X:=HO) (β:=HN) (B.natAbs+(A.length+(Int.natAbs ((A.length:Int))+(Int.natAbs (0:Int)+(C.length+(D.length+(E.length+(F.natAbs+(G.natAbs+(H.length+(I.length+(J.length+(K.length+2))))))))))))) (B,A,(A.length:Int),0,C,D,E,F,G,H,I,J,K,()) (DJ)) fun (L,M,N,O,P,Q,R,S,T,_)=>
 some (((L,M,N,O,P,Q),R,S,T,()),())
end Go.Md
namespace Go.Md
open Go.Dn
def HJ (a0:aj) (a1:List aa) (a2:Int):Option (Int×Unit):=
 (SF a0 a1).bind fun r1=>
 bif r1.1 != 0 then
  some (r1.1,())
 else
  (td a2).bind fun r2=>
  bif !r2.1 then
   some (1,())
  else
   some (0,())
abbrev mT:Type:=(List aq)×(List au)×Int×Int×Unit
abbrev rj:Type:=(((List aq)×Unit) ⊕ ((List aq)×Unit))
def ri (x1:mT) (again:mT->Option rj):Option rj:=
 match x1 with
 | (A,B,C,D,_)=>
 bif decide (D<C) then
  (idx B D).bind fun y2=>
  chk (decide (((A.length)+1)*144<=140737488355328)&&decide ((A.length)+1<=maxLen)) <|
  again (A++[y2.1],B,C,w64 (D+1),())
 else
  some (.inr (A,()))
def xR (a0:eN):Option ((List aq)×Unit):=
 aB (
  iter (X:=mT) (β:=rj) (List.length ([]:List aq)+(a0.2.2.1.length+(Int.natAbs ((a0.2.2.1.length:Int))+(Int.natAbs (0:Int)+2)))) ([],a0.2.2.1,(a0.2.2.1.length:Int),0,()) (ri)) fun v3=>
 some (v3.1,())
def tq (a0:aj) (a1:List aa) (a2:Int):Option ((List aq)×Int×Unit):=
 (HJ a0 a1 a2).bind fun r1=>
 bif r1.1 != 0 then
  some ([],r1.1,())
 else
  (SJ a0 a1 a2).bind fun r2=>
  (xR (r2.1.1,r2.1.2.1,r2.1.2.2.1,r2.1.2.2.2.1)).bind fun r3=>
  some (r3.1,0,())
abbrev gG:Type:=(List dh)×(List dh)×Int×Int×Unit
abbrev jS:Type:=((Bool×Unit) ⊕ Unit)
def jR (x1:gG) (again:gG->Option jS):Option jS:=
 match x1 with
 | (A,B,C,D,_)=>
 bif decide (D<C) then
  (idx A D).bind fun y2=>
  (idx B D).bind fun y3=>
  bif !((y2.1==y3.1)&&(((y2.2.1.1==y3.2.1.1)&&((y2.2.1.2==y3.2.1.2)&&true))&&((y2.2.2==y3.2.2)&&true))) then
   some (.inl (false,()))
  else
   again (A,B,C,w64 (D+1),())
 else
  some (.inr ())
def mC (a0:List dh) (a1:List dh):Option (Bool×Unit):=
 bif ((a0.length:Int)) != ((a1.length:Int)) then
  some (false,())
 else
  aB (
   iter (X:=gG) (β:=jS) (a0.length+(a1.length+(Int.natAbs ((a0.length:Int))+(Int.natAbs (0:Int)+2)))) (a0,a1,(a0.length:Int),0,()) (jR)) fun _=>
  some (true,())
end Go.Md
set_option linter.all false
namespace Go.Md
open Go.Dn
abbrev an:Ty:=(.st (.pair tI tI))
abbrev aH:Type:=Int×Int
abbrev de:Ty:=(.st (.pair tI (.pair tI tI)))
abbrev bu:Type:=Int×Int×Int
def kF (a0:aH):Option (Int×Unit):=
 (bP a0.1 0 1000).bind fun r1=>
 bif r1.1 then
  some (1,())
 else
  (bP a0.2 0 1000).bind fun r2=>
  bif r2.1 then
   some (1,())
  else
   some (0,())
abbrev pN:Type:=(List aa)×(List ai)×(List ai)×Int×Int×Bys×Bys×Bys×Int×Int×(List aF)×Int×Int×Unit
abbrev pM:Type:=(((aj×(List aa)×aH×(List ai)×(List (Int×(List aq)))×(List (Int×aO))×(List bu)×Unit)×Int×Unit) ⊕ ((List aa)×(List ai)×Bys×Bys×Bys×Int×Int×(List aF)×Int×Int×Unit))
def lF (x1:pN) (again:pN->Option pM):Option pM:=
 match x1 with
 | (A,B,C,D,E,F,G,H,I,J,K,L,M,_)=>
 bif decide (E<D) then
  (idx C E).bind fun y2=>
  (gW y2).bind fun r3=>
  bif r3.1 != 0 then
   none
  else
   (
    bif decide (E>0) then
     Option.bind (idx B (w64 (E - 1))) fun y4=>
     some (decide (y2.2.2.1<y4.2.2.1),())
    else
     some (false,())).bind fun v5=>
   bif v5.1 then
    none
   else
    again (A,B,C,D,w64 (E+1),F,G,H,I,J,K,L,M,())
 else
  some (.inr (A,B,F,G,H,I,J,K,L,M,()))
def xk (a0:aj) (a1:List aa) (a2:aH) (a3:List ai):Option ((aj×(List aa)×aH×(List ai)×(List (Int×(List aq)))×(List (Int×aO))×(List bu)×Unit)×Int×Unit):=
 (iX a0).bind fun r1=>
 bif r1.1 != 0 then
  none
 else
  (kQ a1).bind fun r2=>
  bif r2.1 != 0 then
   none
  else
   (kF a2).bind fun r3=>
   bif r3.1 != 0 then
    none
   else
    bif decide (((a3.length:Int))>200) then
     none
    else
     aB (
      iter (X:=pN) (β:=pM) (a1.length+(a3.length+(a3.length+(Int.natAbs ((a3.length:Int))+(Int.natAbs (0:Int)+(a0.1.length+(a0.2.1.length+(a0.2.2.1.length+(a0.2.2.2.1.natAbs+(a0.2.2.2.2.1.natAbs+(a0.2.2.2.2.2.length+(a2.1.natAbs+(a2.2.natAbs+2))))))))))))) (a1,a3,a3,(a3.length:Int),0,a0.1,a0.2.1,a0.2.2.1,a0.2.2.2.1,a0.2.2.2.2.1,a0.2.2.2.2.2,a2.1,a2.2,()) (lF)) fun (A,B,C,D,E,F,G,H,I,J,_)=>
     some (((C,D,E,F,G,H),A,(I,J),B,[],[],[],()),0,())
abbrev ni:Type:=(List aa)×(List ai)×(List ai)×Int×Int×Bys×Bys×Bys×Int×Int×(List aF)×Int×Int×Unit
abbrev nh:Type:=(((Option Nat)×Int×Unit) ⊕ ((List aa)×(List ai)×Bys×Bys×Bys×Int×Int×(List aF)×Int×Int×Unit))
def jx (x1:ni) (again:ni->Option nh):Option nh:=
 match x1 with
 | (A,B,C,D,E,F,G,H,I,J,K,L,M,_)=>
 bif decide (E<D) then
  (idx C E).bind fun y2=>
  (gW y2).bind fun r3=>
  bif r3.1 != 0 then
   some (.inl (none,r3.1,()))
  else
   (
    bif decide (E>0) then
     Option.bind (idx B (w64 (E - 1))) fun y4=>
     some (decide (y2.2.2.1<y4.2.2.1),())
    else
     some (false,())).bind fun v5=>
   bif v5.1 then
    some (.inl (none,8,()))
   else
    again (A,B,C,D,w64 (E+1),F,G,H,I,J,K,L,M,())
 else
  some (.inr (A,B,F,G,H,I,J,K,L,M,()))
def sK (a0:aj) (a1:List aa) (a2:aH) (a3:List ai):Option ((Option Nat)×Int×Unit):=
 (iX a0).bind fun r1=>
 bif r1.1 != 0 then
  some (none,r1.1,())
 else
  (kQ a1).bind fun r2=>
  bif r2.1 != 0 then
   some (none,r2.1,())
  else
   (kF a2).bind fun r3=>
   bif r3.1 != 0 then
    some (none,r3.1,())
   else
    bif decide (((a3.length:Int))>200) then
     some (none,2,())
    else
     aB (
      iter (X:=ni) (β:=nh) (a1.length+(a3.length+(a3.length+(Int.natAbs ((a3.length:Int))+(Int.natAbs (0:Int)+(a0.1.length+(a0.2.1.length+(a0.2.2.1.length+(a0.2.2.2.1.natAbs+(a0.2.2.2.2.1.natAbs+(a0.2.2.2.2.2.length+(a2.1.natAbs+(a2.2.natAbs+2))))))))))))) (a1,a3,a3,(a3.length:Int),0,a0.1,a0.2.1,a0.2.2.1,a0.2.2.2.1,a0.2.2.2.2.1,a0.2.2.2.2.2,a2.1,a2.2,()) (jx)) fun _=>
     none
def fN (a0:Int) (a1:Int) (a2:aj×(List aa)×aH×(List ai)×(List (Int×(List aq)))×(List (Int×aO))×(List bu)×Unit) (a3:Int×Unit):Option ((aj×(List aa)×aH×(List ai)×(List (Int×(List aq)))×(List (Int×aO))×(List bu)×Unit)×(Int×Unit)×Unit):=
 chk (decide (((a2.2.2.2.2.2.2.1.length)+1)*24<=140737488355328)&&decide ((a2.2.2.2.2.2.2.1.length)+1<=maxLen)) <|
 some ((a2.1,a2.2.1,a2.2.2.1,a2.2.2.2.1,a2.2.2.2.2.1,a2.2.2.2.2.2.1,a2.2.2.2.2.2.2.1++[(a3.1,a0,a1)],()),(a3.1,()),())
def qD (a0:ai) (a1:ai):Option (Bool×Unit):=
 some (a0.1==a1.1,())
abbrev dZ:Type:=(List ai)×ai×Int×Int×Unit
abbrev dY:Type:=((Int×Unit) ⊕ Unit)
def dX (x1:dZ) (again:dZ->Option dY):Option dY:=
 match x1 with
 | (A,B,C,D,_)=>
 bif decide (D<C) then
  (idx A D).bind fun y2=>
  (qD y2 B).bind fun r3=>
  bif r3.1 then
   some (.inl (D,()))
  else
   again (A,B,C,w64 (D+1),())
 else
  some (.inr ())
def kZ (a0:List ai) (a1:ai):Option (Int×Unit):=
 aB (
  iter (X:=dZ) (β:=dY) (a0.length+(Int.natAbs ((a0.length:Int))+(Int.natAbs (0:Int)+2))) (a0,a1,(a0.length:Int),0,()) (dX)) fun _=>
 some ((-1),())
def fL (a0:List ai) (a1:ai):Option (Bool×Unit):=
 (kZ a0 a1).bind fun r1=>
 some (decide (r1.1>=0),())
def jc (a0:aj×(List aa)×aH×(List ai)×(List (Int×(List aq)))×(List (Int×aO))×(List bu)×Unit) (a1:Int):Option ((List aq)×(aj×(List aa)×aH×(List ai)×(List (Int×(List aq)))×(List (Int×aO))×(List bu)×Unit)×Unit):=
 bif !(Option.isSome (bV (k:=tI) (v:=(.slice bg)) a0.2.2.2.2.1 a1)) then
  (tP a0.1 a0.2.1 a1).bind fun r1=>
  some (r1.1,(a0.1,a0.2.1,a0.2.2.1,a0.2.2.2.1,jG (k:=tI) (v:=(.slice bg)) a0.2.2.2.2.1 a1 r1.1,a0.2.2.2.2.2.1,a0.2.2.2.2.2.2.1,()),())
 else
  some (Option.getD (α:=List aq) (bV (k:=tI) (v:=(.slice bg)) a0.2.2.2.2.1 a1) [],(a0.1,a0.2.1,a0.2.2.1,a0.2.2.2.1,a0.2.2.2.2.1,a0.2.2.2.2.2.1,a0.2.2.2.2.2.2.1,()),())
def uL (a0:aq) (a1:ay):Option (Bool×Unit):=
 some (a0.1==a1.2.1,())
abbrev gA:Type:=(List aq)×ay×Int×Int×Unit
abbrev gz:Type:=((Int×Unit) ⊕ Unit)
def eV (x1:gA) (again:gA->Option gz):Option gz:=
 match x1 with
 | (A,B,C,D,_)=>
 bif decide (D<C) then
  (idx A D).bind fun y2=>
  (uL y2 B).bind fun r3=>
  bif r3.1 then
   some (.inl (D,()))
  else
   again (A,B,C,w64 (D+1),())
 else
  some (.inr ())
def iP (a0:List aq) (a1:ay):Option (Int×Unit):=
 aB (
  iter (X:=gA) (β:=gz) (a0.length+(Int.natAbs ((a0.length:Int))+(Int.natAbs (0:Int)+2))) (a0,a1,(a0.length:Int),0,()) (eV)) fun _=>
 some ((-1),())
def Di (a0:aO) (a1:Int):Option (aO×Unit):=
 (ld (w64 (1000+a1))).bind fun r1=>
 (gd a0 r1.1).bind fun r2=>
 some (r2.1,())
def An (a0:aq):Option (aO×Unit):=
 (jw a0.2.2.2.2.2.2.2.1).bind fun r1=>
 (jw a0.2.2.2.2.2.2.2.2.1).bind fun r2=>
 (nI r1.1 r2.1).bind fun r3=>
 some (r3.1,())
def qV (a0:aj×(List aa)×aH×(List ai)×(List (Int×(List aq)))×(List (Int×aO))×(List bu)×Unit) (a1:Int) (a2:ay):Option (Int×(aj×(List aa)×aH×(List ai)×(List (Int×(List aq)))×(List (Int×aO))×(List bu)×Unit)×Unit):=
 (jc (a0.1,a0.2.1,a0.2.2.1,a0.2.2.2.1,a0.2.2.2.2.1,a0.2.2.2.2.2.1,a0.2.2.2.2.2.2.1,()) a1).bind fun r1=>
 (iP r1.1 a2).bind fun r2=>
 bif decide (r2.1<0) then
  some (3,(r1.2.1.1,r1.2.1.2.1,r1.2.1.2.2.1,r1.2.1.2.2.2.1,r1.2.1.2.2.2.2.1,r1.2.1.2.2.2.2.2.1,r1.2.1.2.2.2.2.2.2.1,()),())
 else
  (idx r1.1 r2.1).bind fun y3=>
  bif !(y3.2.1==a2.2.2.1) then
   some (4,(r1.2.1.1,r1.2.1.2.1,r1.2.1.2.2.1,r1.2.1.2.2.2.1,r1.2.1.2.2.2.2.1,r1.2.1.2.2.2.2.2.1,r1.2.1.2.2.2.2.2.2.1,()),())
  else
   bif !(y3.2.2.1==a2.2.2.2.2.1) then
    some (4,(r1.2.1.1,r1.2.1.2.1,r1.2.1.2.2.1,r1.2.1.2.2.2.1,r1.2.1.2.2.2.2.1,r1.2.1.2.2.2.2.2.1,r1.2.1.2.2.2.2.2.2.1,()),())
   else
    (jw a2.2.2.2.2.2.1).bind fun r4=>
    (ld 1000).bind fun r5=>
    (gd r4.1 r5.1).bind fun r6=>
    (jw y3.2.2.2.2.1).bind fun r7=>
    (Di r7.1 r1.2.1.2.2.1.1).bind fun r8=>
    (ld a2.2.2.2.2.2.2.1).bind fun r9=>
    (gd r8.1 r9.1).bind fun r10=>
    (mX r6.1 r10.1).bind fun r11=>
    bif decide (r11.1>0) then
     some (5,(r1.2.1.1,r1.2.1.2.1,r1.2.1.2.2.1,r1.2.1.2.2.2.1,r1.2.1.2.2.2.2.1,r1.2.1.2.2.2.2.2.1,r1.2.1.2.2.2.2.2.2.1,()),())
    else
     (jw a2.2.2.2.1).bind fun r12=>
     (nJ (Option.getD (α:=aO) (bV (k:=tI) (v:=bh) r1.2.1.2.2.2.2.2.1 a2.2.1) (false,[])) r12.1).bind fun r13=>
     (fS r13.1).bind fun r14=>
     bif decide (r14.1<0) then
      some (6,(r1.2.1.1,r1.2.1.2.1,r1.2.1.2.2.1,r1.2.1.2.2.2.1,r1.2.1.2.2.2.2.1,r1.2.1.2.2.2.2.2.1,r1.2.1.2.2.2.2.2.2.1,()),())
     else
      (ld 1000).bind fun r15=>
      (gd r13.1 r15.1).bind fun r16=>
      (An y3).bind fun r17=>
      (Di r17.1 r1.2.1.2.2.1.2).bind fun r18=>
      (mX r16.1 r18.1).bind fun r19=>
      bif decide (r19.1>0) then
       some (6,(r1.2.1.1,r1.2.1.2.1,r1.2.1.2.2.1,r1.2.1.2.2.2.1,r1.2.1.2.2.2.2.1,r1.2.1.2.2.2.2.2.1,r1.2.1.2.2.2.2.2.2.1,()),())
      else
       some (0,(r1.2.1.1,r1.2.1.2.1,r1.2.1.2.2.1,r1.2.1.2.2.2.1,r1.2.1.2.2.2.2.1,r1.2.1.2.2.2.2.2.1,r1.2.1.2.2.2.2.2.2.1,()),())
abbrev ku:Type:=(List ay)×Int×Int×Int×Bys×Bys×Int×Int×Int×Bool×(List aD)×(List ay)×(List aQ)×Bys×Bys×Bys×Int×Int×(List aF)×(List aa)×Int×Int×(List ai)×(List (Int×(List aq)))×(List (Int×aO))×(List bu)×Unit
abbrev kr:Type:=(((aj×(List aa)×aH×(List ai)×(List (Int×(List aq)))×(List (Int×aO))×(List bu)×Unit)×Unit) ⊕ (Bys×Bys×Bys×Int×Int×(List aF)×(List aa)×Int×Int×(List ai)×(List (Int×(List aq)))×(List (Int×aO))×(List bu)×Unit))
def gT (x1:ku) (again:ku->Option kr):Option kr:=
 match x1 with
 | (A,B,C,D,E,F,G,H,I,J,K,L,M,N,O,P,Q,R,S,T,U,V,W,X,Y,Z,_)=>
 bif decide (C<B) then
  (idx A C).bind fun y2=>
  (qV ((N,O,P,Q,R,S),T,(U,V),W,X,Y,Z,()) G y2).bind fun r3=>
  bif r3.1 != 0 then
   (fN C r3.1 (r3.2.1.1,r3.2.1.2.1,r3.2.1.2.2.1,r3.2.1.2.2.2.1,r3.2.1.2.2.2.2.1,r3.2.1.2.2.2.2.2.1,r3.2.1.2.2.2.2.2.2.1,()) (D,())).bind fun r4=>
   again (A,B,w64 (C+1),r4.2.1.1,E,F,G,H,I,J,K,L,M,r4.1.1.1,r4.1.1.2.1,r4.1.1.2.2.1,r4.1.1.2.2.2.1,r4.1.1.2.2.2.2.1,r4.1.1.2.2.2.2.2,r4.1.2.1,r4.1.2.2.1.1,r4.1.2.2.1.2,r4.1.2.2.2.1,r4.1.2.2.2.2.1,r4.1.2.2.2.2.2.1,r4.1.2.2.2.2.2.2.1,())
  else
   (jw y2.2.2.2.1).bind fun r5=>
   (nJ (Option.getD (α:=aO) (bV (k:=tI) (v:=bh) r3.2.1.2.2.2.2.2.1 y2.2.1) (false,[])) r5.1).bind fun r6=>
   again (A,B,w64 (C+1),D,E,F,G,H,I,J,K,L,M,r3.2.1.1.1,r3.2.1.1.2.1,r3.2.1.1.2.2.1,r3.2.1.1.2.2.2.1,r3.2.1.1.2.2.2.2.1,r3.2.1.1.2.2.2.2.2,r3.2.1.2.1,r3.2.1.2.2.1.1,r3.2.1.2.2.1.2,r3.2.1.2.2.2.1,r3.2.1.2.2.2.2.1,jG (k:=tI) (v:=bh) r3.2.1.2.2.2.2.2.1 y2.2.1 r6.1,r3.2.1.2.2.2.2.2.2.1,())
 else
  some (.inr (N,O,P,Q,R,S,T,U,V,W,X,Y,Z,()))
def jy (a0:aj×(List aa)×aH×(List ai)×(List (Int×(List aq)))×(List (Int×aO))×(List bu)×Unit) (a1:Int):Option ((aj×(List aa)×aH×(List ai)×(List (Int×(List aq)))×(List (Int×aO))×(List bu)×Unit)×Unit):=
 (idx a0.2.2.2.1 a1).bind fun y1=>
 bif !(y1.2.1==a0.1.1) then
  (fN (-1) 1 (a0.1,a0.2.1,a0.2.2.1,a0.2.2.2.1,a0.2.2.2.2.1,a0.2.2.2.2.2.1,a0.2.2.2.2.2.2.1,()) (a1,())).bind fun r2=>
  some ((r2.1.1,r2.1.2.1,r2.1.2.2.1,r2.1.2.2.2.1,r2.1.2.2.2.2.1,r2.1.2.2.2.2.2.1,r2.1.2.2.2.2.2.2.1,()),())
 else
  chk (decide (0<=(0:Int))&&decide ((0:Int)<=a1)&&decide (a1<=(a0.2.2.2.1.length:Int))) <|
  (fL (List.drop 0 (List.take (Int.toNat a1) a0.2.2.2.1)) y1).bind fun r3=>
  bif r3.1 then
   (fN (-1) 2 (a0.1,a0.2.1,a0.2.2.1,a0.2.2.2.1,a0.2.2.2.2.1,a0.2.2.2.2.2.1,a0.2.2.2.2.2.2.1,()) (a1,())).bind fun r4=>
   some ((r4.1.1,r4.1.2.1,r4.1.2.2.1,r4.1.2.2.2.1,r4.1.2.2.2.2.1,r4.1.2.2.2.2.2.1,r4.1.2.2.2.2.2.2.1,()),())
  else
   aB (
    iter (X:=ku) (β:=kr) (y1.2.2.2.2.2.2.2.1.length+(Int.natAbs ((y1.2.2.2.2.2.2.2.1.length:Int))+(Int.natAbs (0:Int)+(a1.natAbs+(y1.1.length+(y1.2.1.length+(y1.2.2.1.natAbs+(y1.2.2.2.1.natAbs+(y1.2.2.2.2.1.natAbs+(y1.2.2.2.2.2.2.1.length+(y1.2.2.2.2.2.2.2.1.length+(y1.2.2.2.2.2.2.2.2.length+(a0.1.1.length+(a0.1.2.1.length+(a0.1.2.2.1.length+(a0.1.2.2.2.1.natAbs+(a0.1.2.2.2.2.1.natAbs+(a0.1.2.2.2.2.2.length+(a0.2.1.length+(a0.2.2.1.1.natAbs+(a0.2.2.1.2.natAbs+(a0.2.2.2.1.length+(a0.2.2.2.2.1.length+(a0.2.2.2.2.2.1.length+(a0.2.2.2.2.2.2.1.length+2))))))))))))))))))))))))) (y1.2.2.2.2.2.2.2.1,(y1.2.2.2.2.2.2.2.1.length:Int),0,a1,y1.1,y1.2.1,y1.2.2.1,y1.2.2.2.1,y1.2.2.2.2.1,y1.2.2.2.2.2.1,y1.2.2.2.2.2.2.1,y1.2.2.2.2.2.2.2.1,y1.2.2.2.2.2.2.2.2,a0.1.1,a0.1.2.1,a0.1.2.2.1,a0.1.2.2.2.1,a0.1.2.2.2.2.1,a0.1.2.2.2.2.2,a0.2.1,a0.2.2.1.1,a0.2.2.1.2,a0.2.2.2.1,a0.2.2.2.2.1,a0.2.2.2.2.2.1,a0.2.2.2.2.2.2.1,()) (gT)) fun (A,B,C,D,E,F,G,H,I,J,K,L,M,_)=>
   some (((A,B,C,D,E,F),G,(H,I),J,K,L,M,()),())
def qj (a0:aH):Option (Int×Unit):=
 (jN a0.1 0 1000).bind fun r1=>
 bif !r1.1 then
  some (1,())
 else
  (jN a0.2 0 1000).bind fun r2=>
  bif !r2.1 then
   some (1,())
  else
   some (0,())
abbrev tc:Type:=(List ai)×(List ai)×Int×Int×Unit
abbrev s9:Type:=((Int×Unit) ⊕ Unit)
def nW (x1:tc) (again:tc->Option s9):Option s9:=
 match x1 with
 | (A,B,C,D,_)=>
 bif decide (D<C) then
  (idx B D).bind fun y2=>
  (kS y2).bind fun r3=>
  bif r3.1 != 0 then
   some (.inl (r3.1,()))
  else
   (
    bif decide (D>0) then
     Option.bind (idx A (w64 (D - 1))) fun y4=>
     some (decide (y2.2.2.1<y4.2.2.1),())
    else
     some (false,())).bind fun v5=>
   bif v5.1 then
    some (.inl (8,()))
   else
    again (A,B,C,w64 (D+1),())
 else
  some (.inr ())
def Bn (a0:aj) (a1:List aa) (a2:aH) (a3:List ai):Option (Int×Unit):=
 (uk a0).bind fun r1=>
 bif r1.1 != 0 then
  some (r1.1,())
 else
  (uj a1).bind fun r2=>
  bif r2.1 != 0 then
   some (r2.1,())
  else
   (qj a2).bind fun r3=>
   bif r3.1 != 0 then
    some (r3.1,())
   else
    bif decide (((a3.length:Int))>200) then
     some (2,())
    else
     aB (
      iter (X:=tc) (β:=s9) (a3.length+(a3.length+(Int.natAbs ((a3.length:Int))+(Int.natAbs (0:Int)+2)))) (a3,a3,(a3.length:Int),0,()) (nW)) fun _=>
     some (0,())
abbrev wD:Type:=Int×Int×Int×Unit
abbrev Bp:Type:=((Int×Unit) ⊕ (Int×Unit))
def Bo (x1:wD) (again:wD->Option Bp):Option Bp:=
 bif decide (x1.2.2.1<x1.2.1) then
  again (w64 (x1.1*10),x1.2.1,w64 (x1.2.2.1+1),())
 else
  some (.inr (x1.1,()))
def qu (a0:aH):Option (Int×Unit):=
 aB (
  iter (X:=wD) (β:=Bp) (a0.1.natAbs+(Int.natAbs (w64 (3 - a0.2))+(Int.natAbs (0:Int)+2))) (a0.1,w64 (3 - a0.2),0,()) (Bo)) fun v2=>
 some (v2.1,())
abbrev xN:Type:=Int×(List aq)×Int×Int×Int×Bys×Bys×Int×Int×Int×Int×Int×Int×Int×Int×Int×Int×Int×Int×Int×Unit
abbrev xM:Type:=((aq×Bool×Unit) ⊕ (Int×Bys×Bys×Int×Int×Int×Int×Int×Int×Int×Int×Int×Int×Int×Int×Int×Unit))
def rY (x1:xN) (again:xN->Option xM):Option xM:=
 match x1 with
 | (A,B,C,D,E,F,G,H,I,J,K,L,M,N,O,P,Q,R,S,T,_)=>
 bif decide (D<C) then
  (idx B D).bind fun y2=>
  bif y2.1==A then
   some (.inl (y2,true,()))
  else
   again (A,B,C,w64 (D+1),E,F,G,H,I,J,K,L,M,N,O,P,Q,R,S,T,())
 else
  some (.inr (E,F,G,H,I,J,K,L,M,N,O,P,Q,R,S,T,()))
def CT (a0:List aq) (a1:Int):Option (aq×Bool×Unit):=
 aB (
  iter (X:=xN) (β:=xM) (a1.natAbs+(a0.length+(Int.natAbs ((a0.length:Int))+(Int.natAbs (0:Int)+(Int.natAbs (0:Int)+(List.length ([]:Bys)+(List.length ([]:Bys)+(Int.natAbs (0:Int)+(Int.natAbs (0:Int)+(Int.natAbs (0:Int)+(Int.natAbs (0:Int)+(Int.natAbs (0:Int)+(Int.natAbs (0:Int)+(Int.natAbs (0:Int)+(Int.natAbs (0:Int)+(Int.natAbs (0:Int)+(Int.natAbs (0:Int)+(Int.natAbs (0:Int)+(Int.natAbs (0:Int)+(Int.natAbs (0:Int)+2)))))))))))))))))))) (a1,a0,(a0.length:Int),0,0,[],[],0,0,0,0,0,0,0,0,0,0,0,0,0,()) (rY)) fun _=>
 some ((0,[],[],(0,0),(0,0),0,(0,0),(0,0),(0,0),0,0),false,())
abbrev xK:Type:=(List aJ)×(List aJ)×Int×Int×Bool×(List Int)×Bool×(List Int)×Unit
abbrev xI:Type:=((Bool×Unit) ⊕ ((List aJ)×Bool×(List Int)×Bool×(List Int)×Unit))
def rV (x1:xK) (again:xK->Option xI):Option xI:=
 match x1 with
 | (A,B,C,D,E,F,G,H,_)=>
 bif decide (D<C) then
  (idx B D).bind fun y2=>
  (lD (E,F) y2).bind fun r3=>
  again (A,B,C,w64 (D+1),r3.1.1,r3.1.2,G,H,())
 else
  some (.inr (A,E,F,G,H,()))
abbrev xL:Type:=(List aJ)×Int×Int×Bool×(List Int)×Bool×(List Int)×Unit
abbrev xJ:Type:=((Bool×Unit) ⊕ (Bool×(List Int)×Bool×(List Int)×Unit))
def rW (x1:xL) (again:xL->Option xJ):Option xJ:=
 match x1 with
 | (A,B,C,D,E,F,G,_)=>
 bif decide (C<B) then
  (idx A C).bind fun y2=>
  (lD (F,G) y2).bind fun r3=>
  again (A,B,w64 (C+1),D,E,r3.1.1,r3.1.2,())
 else
  some (.inr (D,E,F,G,()))
def yT (a0:List aJ) (a1:List aJ):Option (Bool×Unit):=
 (tg 1).bind fun r1=>
 (tg 1).bind fun r2=>
 aB (
  iter (X:=xK) (β:=xI) (a1.length+(a0.length+(Int.natAbs ((a0.length:Int))+(Int.natAbs (0:Int)+(r1.1.2.length+(r2.1.2.length+2)))))) (a1,a0,(a0.length:Int),0,r1.1.1,r1.1.2,r2.1.1,r2.1.2,()) (rV)) fun (A,B,C,D,E,_)=>
 aB (
  iter (X:=xL) (β:=xJ) (A.length+(Int.natAbs ((A.length:Int))+(Int.natAbs (0:Int)+(C.length+(E.length+2))))) (A,(A.length:Int),0,B,C,D,E,()) (rW)) fun (F,G,H,I,_)=>
 (Gu (F,G) (H,I)).bind fun r11=>
 some (decide (r11.1>0),())
def Fs (a0:aq):Option (Int×Unit):=
 (qu a0.2.2.2.2.2.2.2.1).bind fun r1=>
 (qu a0.2.2.2.2.2.2.2.2.1).bind fun r2=>
 some (w64 (r1.1 - r2.1),())
def K6 (a0:List aq) (a1:aH) (a2:ay) (a3:Int):Option (Int×Unit):=
 (CT a0 a2.2.1).bind fun r1=>
 bif !r1.2.1 then
  some (3,())
 else
  bif !(r1.1.2.1==a2.2.2.1) then
   some (4,())
  else
   bif !(r1.1.2.2.1==a2.2.2.2.2.1) then
    some (4,())
   else
    (Bq a2.2.2.2.2.2.1 9).bind fun r2=>
    (tg 1000).bind fun r3=>
    (Bq r1.1.2.2.2.2.1 9).bind fun r4=>
    (tg a2.2.2.2.2.2.2.1).bind fun r5=>
    (tg (w64 (1000+a1.1))).bind fun r6=>
    (yT [r2.1,r3.1] [r4.1,r5.1,r6.1]).bind fun r7=>
    bif r7.1 then
     some (5,())
    else
     bif decide (a3<0) then
      some (6,())
     else
      (tg a3).bind fun r8=>
      (tg 1000).bind fun r9=>
      (Fs r1.1).bind fun r10=>
      (tg r10.1).bind fun r11=>
      (tg (w64 (1000+a1.2))).bind fun r12=>
      (yT [r8.1,r9.1] [r11.1,r12.1]).bind fun r13=>
      bif r13.1 then
       some (6,())
      else
       some (0,())
abbrev uc:Type:=(List aa)×(List ai)×(List bu)×Int×Int×(List ai)×Int×Int×(List ai)×Int×Int×Bys×Bys×Bys×Int×Int×(List aF)×Int×Int×Bys×Bys×Int×Int×Int×Bool×(List aD)×(List ay)×(List aQ)×(List (Int×Int))×Unit
abbrev tY:Type:=((((List bu)×(List (Int×Int))×Unit) ⊕ ((List bu)×(List (Int×Int))×Unit)) ⊕ ((List aa)×(List ai)×(List bu)×Int×Int×(List ai)×Int×Int×Bys×Bys×Bys×Int×Int×(List aF)×Int×Int×Bys×Bys×Int×Int×Int×Bool×(List aD)×(List ay)×(List aQ)×(List (Int×Int))×Unit))
def pq (x1:uc) (again:uc->Option tY):Option tY:=
 match x1 with
 | (A,B,C,D,E,F,G,H,I,J,K,L,M,N,O,P,Q,R,S,T,U,V,W,X,Y,Z,A0,B0,C0,_)=>
 bif decide (K<J) then
  (idx I K).bind fun y2=>
  (
   bif E==0 then
    some (y2.1==T,())
   else
    some (false,())).bind fun v3=>
  bif v3.1 then
   again (A,B,C,D,2,F,G,H,I,J,w64 (K+1),L,M,N,O,P,Q,R,S,T,U,V,W,X,Y,Z,A0,B0,C0,())
  else
   again (A,B,C,D,E,F,G,H,I,J,w64 (K+1),L,M,N,O,P,Q,R,S,T,U,V,W,X,Y,Z,A0,B0,C0,())
 else
  some (.inr (A,B,C,D,E,F,G,H,L,M,N,O,P,Q,R,S,T,U,V,W,X,Y,Z,A0,B0,C0,()))
abbrev ud:Type:=(List aa)×(List ai)×(List bu)×Int×(List ai)×Int×Int×(List ay)×Int×Int×Bys×Bys×Bys×Int×Int×(List aF)×Int×Int×(List aq)×(List (Int×Int))×Unit
abbrev tZ:Type:=((((List bu)×(List (Int×Int))×Unit) ⊕ ((List bu)×(List (Int×Int))×Unit)) ⊕ ((List aa)×(List ai)×(List bu)×(List ai)×Int×Int×Bys×Bys×Bys×Int×Int×(List aF)×Int×Int×(List (Int×Int))×Unit))
def ki (x1:ud) (again:ud->Option tZ):Option tZ:=
 match x1 with
 | (A,B,C,D,E,F,G,H,I,J,K,L,M,N,O,P,Q,R,S,T,_)=>
 bif decide (J<I) then
  (idx H J).bind fun y2=>
  (qu y2.2.2.2.1).bind fun r3=>
  let n4:Int:=w64 ((Option.getD (α:=Int) (bV (k:=tI) (v:=tI) T y2.2.1) 0)+r3.1)
  (K6 S (Q,R) y2 n4).bind fun r5=>
  bif r5.1 != 0 then
   chk (decide (((C.length)+1)*24<=140737488355328)&&decide ((C.length)+1<=maxLen)) <|
   again (A,B,C++[(D,J,r5.1)],D,E,F,G,H,I,w64 (J+1),K,L,M,N,O,P,Q,R,S,T,())
  else
   again (A,B,C,D,E,F,G,H,I,w64 (J+1),K,L,M,N,O,P,Q,R,S,jG (k:=tI) (v:=tI) T y2.2.1 n4,())
 else
  some (.inr (A,B,C,E,F,G,K,L,M,N,O,P,Q,R,T,()))
abbrev rX:Type:=(List aa)×(List ai)×(List bu)×(List ai)×Int×Int×Bys×Bys×Bys×Int×Int×(List aF)×Int×Int×(List (Int×Int))×Unit
abbrev wC:Type:=(((List bu)×(List (Int×Int))×Unit) ⊕ ((List bu)×(List (Int×Int))×Unit))
def lP (x1:rX) (again:rX->Option wC):Option wC:=
 match x1 with
 | (A,B,C,D,E,F,G,H,I,J,K,L,M,N,O,_)=>
 bif decide (F<E) then
  (idx D F).bind fun y2=>
  aB (γ:=((List aa)×(List ai)×(List bu)×Int×Int×(List ai)×Int×Int×Bys×Bys×Bys×Int×Int×(List aF)×Int×Int×Bys×Bys×Int×Int×Int×Bool×(List aD)×(List ay)×(List aQ)×(List (Int×Int))×Unit)) (
   bif !(y2.2.1==G) then
    some (.inr (A,B,C,F,1,D,E,F,G,H,I,J,K,L,M,N,y2.1,y2.2.1,y2.2.2.1,y2.2.2.2.1,y2.2.2.2.2.1,y2.2.2.2.2.2.1,y2.2.2.2.2.2.2.1,y2.2.2.2.2.2.2.2.1,y2.2.2.2.2.2.2.2.2,O,()))
   else
    some (.inr (A,B,C,F,0,D,E,F,G,H,I,J,K,L,M,N,y2.1,y2.2.1,y2.2.2.1,y2.2.2.2.1,y2.2.2.2.2.1,y2.2.2.2.2.2.1,y2.2.2.2.2.2.2.1,y2.2.2.2.2.2.2.2.1,y2.2.2.2.2.2.2.2.2,O,()))) fun (P,Q,R,S,T,U,V,W,Y,Z,A0,B0,C0,D0,E0,F0,G0,H0,I0,J0,K0,L0,M0,N0,O0,P0,_)=>
  chk (decide (0<=(0:Int))&&decide ((0:Int)<=S)&&decide (S<=(Q.length:Int))) <|
  aB (
   iter (X:=uc) (β:=tY) (P.length+(Q.length+(R.length+(S.natAbs+(T.natAbs+(U.length+(V.natAbs+(W.natAbs+(List.length (List.drop 0 (List.take (Int.toNat S) Q))+(Int.natAbs ((List.length (List.drop 0 (List.take (Int.toNat S) Q)):Int))+(Int.natAbs (0:Int)+(Y.length+(Z.length+(A0.length+(B0.natAbs+(C0.natAbs+(D0.length+(E0.natAbs+(F0.natAbs+(G0.length+(H0.length+(I0.natAbs+(J0.natAbs+(K0.natAbs+(M0.length+(N0.length+(O0.length+(P0.length+2)))))))))))))))))))))))))))) (P,Q,R,S,T,U,V,W,List.drop 0 (List.take (Int.toNat S) Q),(List.length (List.drop 0 (List.take (Int.toNat S) Q)):Int),0,Y,Z,A0,B0,C0,D0,E0,F0,G0,H0,I0,J0,K0,L0,M0,N0,O0,P0,()) (pq)) fun (Q0,R0,S0,T0,U0,V0,W0,X0,Y0,Z0,A1,B1,C1,D1,E1,F1,_,_,G1,_,_,_,_,H1,_,I1,_)=>
  bif U0 != 0 then
   chk (decide (((S0.length)+1)*24<=140737488355328)&&decide ((S0.length)+1<=maxLen)) <|
   again (Q0,R0,S0++[(T0,(-1),U0)],V0,W0,w64 (X0+1),Y0,Z0,A1,B1,C1,D1,E1,F1,I1,())
  else
   (tq (Y0,Z0,A1,B1,C1,D1) Q0 G1).bind fun r5=>
   aB (
    iter (X:=ud) (β:=tZ) (Q0.length+(R0.length+(S0.length+(T0.natAbs+(V0.length+(W0.natAbs+(X0.natAbs+(H1.length+(Int.natAbs ((H1.length:Int))+(Int.natAbs (0:Int)+(Y0.length+(Z0.length+(A1.length+(B1.natAbs+(C1.natAbs+(D1.length+(E1.natAbs+(F1.natAbs+(r5.1.length+(I1.length+2)))))))))))))))))))) (Q0,R0,S0,T0,V0,W0,X0,H1,(H1.length:Int),0,Y0,Z0,A1,B1,C1,D1,E1,F1,r5.1,I1,()) (ki)) fun (J1,K1,L1,M1,N1,O1,P1,Q1,R1,S1,T1,U1,V1,W1,X1,_)=>
   again (J1,K1,L1,M1,N1,w64 (O1+1),P1,Q1,R1,S1,T1,U1,V1,W1,X1,())
 else
  some (.inr (C,O,()))
def HH (a0:aj) (a1:List aa) (a2:aH) (a3:List ai):Option ((List bu)×(List (Int×Int))×Unit):=
 aB (
  iter (X:=rX) (β:=wC) (a1.length+(a3.length+(List.length ([]:List bu)+(a3.length+(Int.natAbs ((a3.length:Int))+(Int.natAbs (0:Int)+(a0.1.length+(a0.2.1.length+(a0.2.2.1.length+(a0.2.2.2.1.natAbs+(a0.2.2.2.2.1.natAbs+(a0.2.2.2.2.2.length+(a2.1.natAbs+(a2.2.natAbs+(List.length ([]:List (Int×Int))+2))))))))))))))) (a1,a3,[],a3,(a3.length:Int),0,a0.1,a0.2.1,a0.2.2.1,a0.2.2.2.1,a0.2.2.2.2.1,a0.2.2.2.2.2,a2.1,a2.2,[],()) (lP)) fun v15=>
 some (v15.1,v15.2.1,())
def ji (a0:List aD):Option ((List aD)×Unit):=
 bif List.isEmpty a0 then
  both (
   some ([],())) (
   chk (decide ((0+(a0.length))*32<=140737488355328)&&decide (0+(a0.length)<=maxLen)) <|
   some (a0,()))
 else
  chk (decide ((0+(a0.length))*32<=140737488355328)&&decide (0+(a0.length)<=maxLen)) <|
  some (a0,())
abbrev u7:Type:=(List aq)×Int×Int×Bys×Bys×Int×Int×Int×Bool×(List aD)×(List ay)×(List aQ)×Bys×Bys×Int×Int×Int×Bool×(List aD)×(List ay)×(List aQ)×Bys×Bys×Int×Int×Int×Bool×(List ay)×(List aQ)×(List aD)×Unit
abbrev u6:Type:=((ai×Int×Unit) ⊕ (Bys×Bys×Int×Int×Int×Bool×(List aD)×(List ay)×(List aQ)×Bys×Bys×Int×Int×Int×Bool×(List ay)×(List aQ)×(List aD)×Unit))
def pL (x1:u7) (again:u7->Option u6):Option u6:=
 match x1 with
 | (A,B,C,D,E,F,G,H,I,J,K,L,M,N,O,P,Q,R,S,T,U,V,W,X,Y,Z,A0,B0,C0,D0,_)=>
 bif decide (C<B) then
  (idx A C).bind fun y2=>
  (An y2).bind fun r3=>
  (fS r3.1).bind fun r4=>
  bif decide (r4.1<=0) then
   again (A,B,w64 (C+1),D,E,F,G,H,I,J,K,L,M,N,O,P,Q,R,S,T,U,V,W,X,Y,Z,A0,B0,C0,D0,())
  else
   (ke r3.1 9).bind fun r5=>
   bif r5.2.1 != 0 then
    some (.inl (([],[],0,0,0,false,[],[],[]),r5.2.1,()))
   else
    (idx J 0).bind fun y6=>
    chk (decide (((B0.length)+1)*128<=140737488355328)&&decide ((B0.length)+1<=maxLen)) <|
    again (A,B,w64 (C+1),D,E,F,G,H,I,J,K,L,M,N,O,P,Q,R,S,T,U,V,W,X,Y,Z,A0,B0++[(w64 (((B0.length:Int))+1),y2.1,y2.2.1,r5.1,y2.2.2.1,y2.2.2.2.2.1,1,[],y6.1)],C0,D0,())
 else
  some (.inr (M,N,O,P,Q,R,S,T,U,V,W,X,Y,Z,A0,B0,C0,D0,()))
def CJ (a0:aj) (a1:List aa) (a2:Bys) (a3:ai):Option (ai×Int×Unit):=
 (iX a0).bind fun r1=>
 bif r1.1 != 0 then
  some (([],[],0,0,0,false,[],[],[]),r1.1,())
 else
  (tP a0 a1 3652059).bind fun r2=>
  bif r2.2.1 != 0 then
   some (([],[],0,0,0,false,[],[],[]),r2.2.1,())
  else
   (cK a2).bind fun r3=>
   bif !r3.1 then
    some (([],[],0,0,0,false,[],[],[]),5,())
   else
    (gW a3).bind fun r4=>
    bif r4.1 != 0 then
     some (([],[],0,0,0,false,[],[],[]),r4.1,())
    else
     (ji a3.2.2.2.2.2.2.1).bind fun r5=>
     aB (
      iter (X:=u7) (β:=u6) (r2.1.length+(Int.natAbs ((r2.1.length:Int))+(Int.natAbs (0:Int)+(a3.1.length+(a3.2.1.length+(a3.2.2.1.natAbs+(a3.2.2.2.1.natAbs+(a3.2.2.2.2.1.natAbs+(a3.2.2.2.2.2.2.1.length+(a3.2.2.2.2.2.2.2.1.length+(a3.2.2.2.2.2.2.2.2.length+(List.length ([]:Bys)+(List.length ([]:Bys)+(Int.natAbs (0:Int)+(Int.natAbs (0:Int)+(Int.natAbs (0:Int)+(List.length ([]:List aD)+(List.length ([]:List ay)+(List.length ([]:List aQ)+(a2.length+(a0.1.length+(a3.2.2.1.natAbs+(a3.2.2.2.1.natAbs+(a3.2.2.2.2.1.natAbs+(List.length ([]:List ay)+(List.length ([]:List aQ)+(r5.1.length+2))))))))))))))))))))))))))) (r2.1,(r2.1.length:Int),0,a3.1,a3.2.1,a3.2.2.1,a3.2.2.2.1,a3.2.2.2.2.1,a3.2.2.2.2.2.1,a3.2.2.2.2.2.2.1,a3.2.2.2.2.2.2.2.1,a3.2.2.2.2.2.2.2.2,[],[],0,0,0,false,[],[],[],a2,a0.1,a3.2.2.1,a3.2.2.2.1,a3.2.2.2.2.1,a3.2.2.2.2.2.1,[],[],r5.1,()) (pL)) fun (_,_,_,_,_,_,_,_,_,A,B,C,D,E,F,G,H,I,_)=>
     bif ((G.length:Int))==0 then
      some (([],[],0,0,0,false,[],[],[]),9,())
     else
      (gW (A,B,C,D,E,F,I,G,H)).bind fun r13=>
      bif r13.1 != 0 then
       some (([],[],0,0,0,false,[],[],[]),r13.1,())
      else
       some ((A,B,C,D,E,F,I,G,H),0,())
abbrev kP:Type:=Int×(List ai)×Int×Int×Bys×Bys×Bys×Int×Int×(List aF)×(List aa)×Int×Int×(List ai)×(List (Int×(List aq)))×(List (Int×aO))×(List bu)×Unit
abbrev kO:Type:=(((List dh)×Int×Unit) ⊕ (Int×Bys×Bys×Bys×Int×Int×(List aF)×(List aa)×Int×Int×(List ai)×(List (Int×(List aq)))×(List (Int×aO))×(List bu)×Unit))
def fF (x1:kP) (again:kP->Option kO):Option kO:=
 match x1 with
 | (A,B,C,D,E,F,G,H,I,J,K,L,M,N,O,P,Q,_)=>
 bif decide (D<C) then
  (idx B D).bind fun y2=>
  bif decide (y2.2.2.1<=A) then
   (jy ((E,F,G,H,I,J),K,(L,M),N,O,P,Q,()) D).bind fun r3=>
   again (A,B,C,w64 (D+1),r3.1.1.1,r3.1.1.2.1,r3.1.1.2.2.1,r3.1.1.2.2.2.1,r3.1.1.2.2.2.2.1,r3.1.1.2.2.2.2.2,r3.1.2.1,r3.1.2.2.1.1,r3.1.2.2.1.2,r3.1.2.2.2.1,r3.1.2.2.2.2.1,r3.1.2.2.2.2.2.1,r3.1.2.2.2.2.2.2.1,())
  else
   again (A,B,C,w64 (D+1),E,F,G,H,I,J,K,L,M,N,O,P,Q,())
 else
  some (.inr (A,E,F,G,H,I,J,K,L,M,N,O,P,Q,()))
abbrev mM:Type:=(List dh)×(List aq)×Int×Int×Bys×Bys×Bys×Int×Int×(List aF)×(List aa)×Int×Int×(List ai)×(List bu)×(List (Int×(List aq)))×(List (Int×aO))×Unit
abbrev mL:Type:=(((List dh)×Int×Unit) ⊕ ((List dh)×Unit))
def jU (x1:mM) (again:mM->Option mL):Option mL:=
 match x1 with
 | (A,B,C,D,E,F,G,H,I,J,K,L,M,N,O,P,Q,_)=>
 bif decide (D<C) then
  (idx B D).bind fun y2=>
  (An y2).bind fun r3=>
  (nI r3.1 (Option.getD (α:=aO) (bV (k:=tI) (v:=bh) Q y2.1) (false,[]))).bind fun r4=>
  (fS r4.1).bind fun r5=>
  bif decide (r5.1<=0) then
   again (A,B,C,w64 (D+1),E,F,G,H,I,J,K,L,M,N,O,P,Q,())
  else
   (ke r4.1 9).bind fun r6=>
   bif r6.2.1 != 0 then
    some (.inl ([],r6.2.1,()))
   else
    chk (decide (((A.length)+1)*32<=140737488355328)&&decide ((A.length)+1<=maxLen)) <|
    again (A++[(y2.1,r6.1,y2.2.2.2.2.2.1)],B,C,w64 (D+1),E,F,G,H,I,J,K,L,M,N,O,P,Q,())
 else
  some (.inr (A,()))
def zk (a0:aj) (a1:List aa) (a2:aH) (a3:List ai) (a4:Int):Option ((List dh)×Int×Unit):=
 Sq (sK a0 a1 a2 a3) (fun r1=>
  bif r1.2.1 != 0 then
   some ([],r1.2.1,())
  else
   (iw a4).bind fun r2=>
   bif !r2.1 then
    some ([],1,())
   else
    none) (
  (xk a0 a1 a2 a3).bind fun r3=>
  bif r3.2.1 != 0 then
   some ([],r3.2.1,())
  else
   (iw a4).bind fun r4=>
   bif !r4.1 then
    some ([],1,())
   else
    aB (
     iter (X:=kP) (β:=kO) (a4.natAbs+(a3.length+(Int.natAbs ((a3.length:Int))+(Int.natAbs (0:Int)+(r3.1.1.1.length+(r3.1.1.2.1.length+(r3.1.1.2.2.1.length+(r3.1.1.2.2.2.1.natAbs+(r3.1.1.2.2.2.2.1.natAbs+(r3.1.1.2.2.2.2.2.length+(r3.1.2.1.length+(r3.1.2.2.1.1.natAbs+(r3.1.2.2.1.2.natAbs+(r3.1.2.2.2.1.length+(r3.1.2.2.2.2.1.length+(r3.1.2.2.2.2.2.1.length+(r3.1.2.2.2.2.2.2.1.length+2))))))))))))))))) (a4,a3,(a3.length:Int),0,r3.1.1.1,r3.1.1.2.1,r3.1.1.2.2.1,r3.1.1.2.2.2.1,r3.1.1.2.2.2.2.1,r3.1.1.2.2.2.2.2,r3.1.2.1,r3.1.2.2.1.1,r3.1.2.2.1.2,r3.1.2.2.2.1,r3.1.2.2.2.2.1,r3.1.2.2.2.2.2.1,r3.1.2.2.2.2.2.2.1,()) (fF)) fun (A,B,C,D,E,F,G,H,I,J,K,L,M,N,_)=>
    (jc ((B,C,D,E,F,G),H,(I,J),K,L,M,N,()) A).bind fun r9=>
    aB (
     iter (X:=mM) (β:=mL) (List.length ([]:List dh)+(r9.1.length+(Int.natAbs ((r9.1.length:Int))+(Int.natAbs (0:Int)+(r9.2.1.1.1.length+(r9.2.1.1.2.1.length+(r9.2.1.1.2.2.1.length+(r9.2.1.1.2.2.2.1.natAbs+(r9.2.1.1.2.2.2.2.1.natAbs+(r9.2.1.1.2.2.2.2.2.length+(r9.2.1.2.1.length+(r9.2.1.2.2.1.1.natAbs+(r9.2.1.2.2.1.2.natAbs+(r9.2.1.2.2.2.1.length+(r9.2.1.2.2.2.2.2.2.1.length+(r9.2.1.2.2.2.2.1.length+(r9.2.1.2.2.2.2.2.1.length+2))))))))))))))))) ([],r9.1,(r9.1.length:Int),0,r9.2.1.1.1,r9.2.1.1.2.1,r9.2.1.1.2.2.1,r9.2.1.1.2.2.2.1,r9.2.1.1.2.2.2.2.1,r9.2.1.1.2.2.2.2.2,r9.2.1.2.1,r9.2.1.2.2.1.1,r9.2.1.2.2.1.2,r9.2.1.2.2.2.1,r9.2.1.2.2.2.2.2.2.1,r9.2.1.2.2.2.2.1,r9.2.1.2.2.2.2.2.1,()) (jU)) fun v16=>
    some (v16.1,0,()))
end Go.Md
set_option linter.all false
namespace Go.Md
open Go.Dn
abbrev qo:Type:=(List aa)×(List ai)×Int×Int×Bys×Bys×Bys×Int×Int×(List aF)×Int×Int×Unit
abbrev qm:Type:=(((List dh)×Int×Unit) ⊕ ((List aa)×(List ai)×Int×Int×Bys×Bys×Bys×Int×Int×(List aF)×Int×Int×Unit))
def mw (x1:qo) (again:qo->Option qm):Option qm:=
 match x1 with
 | (A,B,C,D,E,F,G,H,I,J,K,L,_)=>
 (
  bif decide (D<((B.length:Int))) then
   Option.bind (idx B D) fun y2=>
   some (decide (y2.2.2.1<=C),())
  else
   some (false,())).bind fun v3=>
 bif v3.1 then
  again (A,B,C,w64 (D+1),E,F,G,H,I,J,K,L,())
 else
  some (.inr (A,B,C,D,E,F,G,H,I,J,K,L,()))
abbrev nV:Type:=(List dh)×Int×Int×(List aq)×(List (Int×Int))×Unit
abbrev nU:Type:=(((List dh)×Int×Unit) ⊕ ((List dh)×Unit))
def kT (x1:nV) (again:nV->Option nU):Option nU:=
 match x1 with
 | (A,B,C,D,E,_)=>
 bif decide (C<B) then
  chk (decide (0<=C)&&decide (C<(D.length:Int))) <|
  (D[C.toNat]?).bind fun y2=>
  (Fs y2).bind fun r3=>
  let n4:Int:=w64 (r3.1 - (Option.getD (α:=Int) (bV (k:=tI) (v:=tI) E y2.1) 0))
  bif decide (n4>0) then
   (eY (n4,3)).bind fun r5=>
   chk (decide (((A.length)+1)*32<=140737488355328)&&decide ((A.length)+1<=maxLen)) <|
   again (A++[(y2.1,r5.1,y2.2.2.2.2.2.1)],B,w64 (C+1),D,E,())
  else
   again (A,B,w64 (C+1),D,E,())
 else
  some (.inr (A,()))
def Bl (a0:aj) (a1:List aa) (a2:aH) (a3:List ai) (a4:Int):Option ((List dh)×Int×Unit):=
 (Bn a0 a1 a2 a3).bind fun r1=>
 bif r1.1 != 0 then
  some ([],r1.1,())
 else
  (td a4).bind fun r2=>
  bif !r2.1 then
   some ([],1,())
  else
   aB (
    iter (X:=qo) (β:=qm) (a1.length+(a3.length+(a4.natAbs+(Int.natAbs (0:Int)+(a0.1.length+(a0.2.1.length+(a0.2.2.1.length+(a0.2.2.2.1.natAbs+(a0.2.2.2.2.1.natAbs+(a0.2.2.2.2.2.length+(a2.1.natAbs+(a2.2.natAbs+2)))))))))))) (a1,a3,a4,0,a0.1,a0.2.1,a0.2.2.1,a0.2.2.2.1,a0.2.2.2.2.1,a0.2.2.2.2.2,a2.1,a2.2,()) (mw)) fun (A,B,C,D,E,F,G,H,I,J,K,L,_)=>
   chk (decide (0<=(0:Int))&&decide ((0:Int)<=D)&&decide (D<=(B.length:Int))) <|
   (HH (E,F,G,H,I,J) A (K,L) (List.drop 0 (List.take (Int.toNat D) B))).bind fun r7=>
   (tq (E,F,G,H,I,J) A C).bind fun r8=>
   aB (
    iter (X:=nV) (β:=nU) (List.length ([]:List dh)+(Int.natAbs ((r8.1.length:Int))+(Int.natAbs (0:Int)+(r8.1.length+(r7.2.1.length+2))))) ([],(r8.1.length:Int),0,r8.1,r7.2.1,()) (kT)) fun v14=>
   some (v14.1,0,())
abbrev rU:Type:=Int×Int×Bys×Bys×Int×Int×Int×Bool×(List aD)×(List ay)×(List aQ)×Bys×Bys×Int×Int×Int×Bool×(List aD)×(List ay)×(List aQ)×Bys×Bys×Int×Int×Int×Bool×(List ay)×(List aQ)×(List aD)×(List aq)×Unit
abbrev rT:Type:=((ai×Int×Unit) ⊕ (Bys×Bys×Int×Int×Int×Bool×(List aD)×(List ay)×(List aQ)×Bys×Bys×Int×Int×Int×Bool×(List ay)×(List aQ)×(List aD)×Unit))
def nG (x1:rU) (again:rU->Option rT):Option rT:=
 match x1 with
 | (A,B,C,D,E,F,G,H,I,J,K,L,M,N,O,P,Q,R,S,T,U,V,W,X,Y,Z,A0,B0,C0,D0,_)=>
 bif decide (B<A) then
  chk (decide (0<=B)&&decide (B<(D0.length:Int))) <|
  (D0[B.toNat]?).bind fun y2=>
  (Fs y2).bind fun r3=>
  bif decide (r3.1>0) then
   (eY (r3.1,3)).bind fun r4=>
   (idx I 0).bind fun y5=>
   chk (decide (((A0.length)+1)*128<=140737488355328)&&decide ((A0.length)+1<=maxLen)) <|
   again (A,w64 (B+1),C,D,E,F,G,H,I,J,K,L,M,N,O,P,Q,R,S,T,U,V,W,X,Y,Z,A0++[(w64 (((A0.length:Int))+1),y2.1,y2.2.1,r4.1,y2.2.2.1,y2.2.2.2.2.1,1,[],y5.1)],B0,C0,D0,())
  else
   again (A,w64 (B+1),C,D,E,F,G,H,I,J,K,L,M,N,O,P,Q,R,S,T,U,V,W,X,Y,Z,A0,B0,C0,D0,())
 else
  some (.inr (L,M,N,O,P,Q,R,S,T,U,V,W,X,Y,Z,A0,B0,C0,()))
def E4 (a0:aj) (a1:List aa) (a2:Bys) (a3:ai):Option (ai×Int×Unit):=
 (tq a0 a1 3652059).bind fun r1=>
 bif r1.2.1 != 0 then
  some (([],[],0,0,0,false,[],[],[]),r1.2.1,())
 else
  (eX a2).bind fun r2=>
  bif !r2.1 then
   some (([],[],0,0,0,false,[],[],[]),5,())
  else
   (kS a3).bind fun r3=>
   bif r3.1 != 0 then
    some (([],[],0,0,0,false,[],[],[]),r3.1,())
   else
    (ji a3.2.2.2.2.2.2.1).bind fun r4=>
    aB (
     iter (X:=rU) (β:=rT) (Int.natAbs ((r1.1.length:Int))+(Int.natAbs (0:Int)+(a3.1.length+(a3.2.1.length+(a3.2.2.1.natAbs+(a3.2.2.2.1.natAbs+(a3.2.2.2.2.1.natAbs+(a3.2.2.2.2.2.2.1.length+(a3.2.2.2.2.2.2.2.1.length+(a3.2.2.2.2.2.2.2.2.length+(List.length ([]:Bys)+(List.length ([]:Bys)+(Int.natAbs (0:Int)+(Int.natAbs (0:Int)+(Int.natAbs (0:Int)+(List.length ([]:List aD)+(List.length ([]:List ay)+(List.length ([]:List aQ)+(a2.length+(a0.1.length+(a3.2.2.1.natAbs+(a3.2.2.2.1.natAbs+(a3.2.2.2.2.1.natAbs+(List.length ([]:List ay)+(List.length ([]:List aQ)+(r4.1.length+(r1.1.length+2))))))))))))))))))))))))))) ((r1.1.length:Int),0,a3.1,a3.2.1,a3.2.2.1,a3.2.2.2.1,a3.2.2.2.2.1,a3.2.2.2.2.2.1,a3.2.2.2.2.2.2.1,a3.2.2.2.2.2.2.2.1,a3.2.2.2.2.2.2.2.2,[],[],0,0,0,false,[],[],[],a2,a0.1,a3.2.2.1,a3.2.2.2.1,a3.2.2.2.2.1,a3.2.2.2.2.2.1,[],[],r4.1,r1.1,()) (nG)) fun (_,_,_,_,_,_,_,_,_,A,B,C,D,E,F,G,H,I,_)=>
    bif ((G.length:Int))==0 then
     some (([],[],0,0,0,false,[],[],[]),9,())
    else
     (kS (A,B,C,D,E,F,I,G,H)).bind fun r11=>
     bif r11.1 != 0 then
      some (([],[],0,0,0,false,[],[],[]),r11.1,())
     else
      some ((A,B,C,D,E,F,I,G,H),0,())
abbrev jm:Type:=(List aQ)×(List aQ)×Int×Int×Unit
abbrev nx:Type:=((Bool×Unit) ⊕ Unit)
def jl (x1:jm) (again:jm->Option nx):Option nx:=
 match x1 with
 | (A,B,C,D,_)=>
 bif decide (D<C) then
  (idx A D).bind fun y2=>
  (idx B D).bind fun y3=>
  bif !((y2.1==y3.1)&&(((y2.2.1.1==y3.2.1.1)&&((y2.2.1.2==y3.2.1.2)&&true))&&((y2.2.2==y3.2.2)&&true))) then
   some (.inl (false,()))
  else
   again (A,B,C,w64 (D+1),())
 else
  some (.inr ())
def iL (a0:List aQ) (a1:List aQ):Option (Bool×Unit):=
 bif ((a0.length:Int)) != ((a1.length:Int)) then
  some (false,())
 else
  aB (
   iter (X:=jm) (β:=nx) (a0.length+(a1.length+(Int.natAbs ((a0.length:Int))+(Int.natAbs (0:Int)+2)))) (a0,a1,(a0.length:Int),0,()) (jl)) fun _=>
  some (true,())
abbrev jQ:Type:=(List aD)×(List aD)×Int×Int×Unit
abbrev og:Type:=((Bool×Unit) ⊕ Unit)
def jP (x1:jQ) (again:jQ->Option og):Option og:=
 match x1 with
 | (A,B,C,D,_)=>
 bif decide (D<C) then
  (idx A D).bind fun y2=>
  (idx B D).bind fun y3=>
  bif !((y2.1==y3.1)&&(((y2.2.1==y3.2.1)&&((y2.2.2==y3.2.2)&&true))&&true)) then
   some (.inl (false,()))
  else
   again (A,B,C,w64 (D+1),())
 else
  some (.inr ())
def mB (a0:List aD) (a1:List aD):Option (Bool×Unit):=
 bif ((a0.length:Int)) != ((a1.length:Int)) then
  some (false,())
 else
  aB (
   iter (X:=jQ) (β:=og) (a0.length+(a1.length+(Int.natAbs ((a0.length:Int))+(Int.natAbs (0:Int)+2)))) (a0,a1,(a0.length:Int),0,()) (jP)) fun _=>
  some (true,())
abbrev yS:Type:=(List ay)×Int×Int×Bys×Bys×Int×Int×Int×Bool×(List aD)×(List ay)×(List aQ)×Bys×Bys×Int×Int×Int×Bool×(List aD)×(List ay)×(List aQ)×Unit
abbrev IK:Type:=((Bool×Unit) ⊕ (Bys×Bys×Int×Int×Int×Bool×(List aD)×(List ay)×(List aQ)×Bys×Bys×Int×Int×Int×Bool×(List aD)×(List ay)×(List aQ)×Unit))
def CS (x1:yS) (again:yS->Option IK):Option IK:=
 match x1 with
 | (A,B,C,D,E,F,G,H,I,J,K,L,M,N,O,P,Q,R,S,T,U,_)=>
 bif decide (C<B) then
  (idx A C).bind fun y2=>
  (idx T C).bind fun y3=>
  bif y2.1 != y3.1 then
   some (.inl (false,()))
  else
   bif y2.2.1 != y3.2.1 then
    some (.inl (false,()))
   else
    bif !(y2.2.2.1==y3.2.2.1) then
     some (.inl (false,()))
    else
     bif !((y2.2.2.2.1.1==y3.2.2.2.1.1)&&((y2.2.2.2.1.2==y3.2.2.2.1.2)&&true)) then
      some (.inl (false,()))
     else
      bif !(y2.2.2.2.2.1==y3.2.2.2.2.1) then
       some (.inl (false,()))
      else
       bif !((y2.2.2.2.2.2.1.1==y3.2.2.2.2.2.1.1)&&((y2.2.2.2.2.2.1.2==y3.2.2.2.2.2.1.2)&&true)) then
        some (.inl (false,()))
       else
        bif y2.2.2.2.2.2.2.1 != y3.2.2.2.2.2.2.1 then
         some (.inl (false,()))
        else
         bif !(y2.2.2.2.2.2.2.2.2==y3.2.2.2.2.2.2.2.2) then
          some (.inl (false,()))
         else
          (iL y2.2.2.2.2.2.2.2.1 y3.2.2.2.2.2.2.2.1).bind fun r4=>
          bif !r4.1 then
           some (.inl (false,()))
          else
           again (A,B,w64 (C+1),D,E,F,G,H,I,J,K,L,M,N,O,P,Q,R,S,T,U,())
 else
  some (.inr (D,E,F,G,H,I,J,K,L,M,N,O,P,Q,R,S,T,U,()))
def Cp (a0:ai) (a1:ai):Option (Bool×Unit):=
 bif !(a0.1==a1.1) then
  some (false,())
 else
  bif !(a0.2.1==a1.2.1) then
   some (false,())
  else
   bif a0.2.2.1 != a1.2.2.1 then
    some (false,())
   else
    bif a0.2.2.2.1 != a1.2.2.2.1 then
     some (false,())
    else
     bif a0.2.2.2.2.1 != a1.2.2.2.2.1 then
      some (false,())
     else
      bif !(a0.2.2.2.2.2.1==a1.2.2.2.2.2.1) then
       some (false,())
      else
       bif ((a0.2.2.2.2.2.2.2.1.length:Int)) != ((a1.2.2.2.2.2.2.2.1.length:Int)) then
        some (false,())
       else
        aB (
         iter (X:=yS) (β:=IK) (a0.2.2.2.2.2.2.2.1.length+(Int.natAbs ((a0.2.2.2.2.2.2.2.1.length:Int))+(Int.natAbs (0:Int)+(a0.1.length+(a0.2.1.length+(a0.2.2.1.natAbs+(a0.2.2.2.1.natAbs+(a0.2.2.2.2.1.natAbs+(a0.2.2.2.2.2.2.1.length+(a0.2.2.2.2.2.2.2.1.length+(a0.2.2.2.2.2.2.2.2.length+(a1.1.length+(a1.2.1.length+(a1.2.2.1.natAbs+(a1.2.2.2.1.natAbs+(a1.2.2.2.2.1.natAbs+(a1.2.2.2.2.2.2.1.length+(a1.2.2.2.2.2.2.2.1.length+(a1.2.2.2.2.2.2.2.2.length+2))))))))))))))))))) (a0.2.2.2.2.2.2.2.1,(a0.2.2.2.2.2.2.2.1.length:Int),0,a0.1,a0.2.1,a0.2.2.1,a0.2.2.2.1,a0.2.2.2.2.1,a0.2.2.2.2.2.1,a0.2.2.2.2.2.2.1,a0.2.2.2.2.2.2.2.1,a0.2.2.2.2.2.2.2.2,a1.1,a1.2.1,a1.2.2.1,a1.2.2.2.1,a1.2.2.2.2.1,a1.2.2.2.2.2.1,a1.2.2.2.2.2.2.1,a1.2.2.2.2.2.2.2.1,a1.2.2.2.2.2.2.2.2,()) (CS)) fun (_,_,_,_,_,_,A,_,B,_,_,_,_,_,_,C,_,D,_)=>
        (
         Option.bind (mB A C) fun r6=>
         bif r6.1 then
          Option.bind (iL B D) fun r7=>
          some (r7.1,())
         else
          some (false,())).bind fun v8=>
        some (v8.1,())
def iy (a0:aj) (a1:List aa) (a2:aH) (a3:List ai) (a4:Int) (a5:Bys) (a6:ai):Option (Bool×Unit):=
 (zk a0 a1 a2 a3 a4).bind fun r1=>
 (Bl a0 a1 a2 a3 a4).bind fun r2=>
 bif r1.2.1 != r2.2.1 then
  some (false,())
 else
  (mC r1.1 r2.1).bind fun r3=>
  bif !r3.1 then
   some (false,())
  else
   (CJ a0 a1 a5 a6).bind fun r4=>
   (E4 a0 a1 a5 a6).bind fun r5=>
   (
    bif r4.2.1==r5.2.1 then
     Option.bind (Cp r4.1 r5.1) fun r6=>
     bif r6.1 then
      Option.bind (Ns) fun r7=>
      some (r7.1,())
     else
      some (false,())
    else
     some (false,())).bind fun v8=>
   some (v8.1,())
end Go.Md
end
