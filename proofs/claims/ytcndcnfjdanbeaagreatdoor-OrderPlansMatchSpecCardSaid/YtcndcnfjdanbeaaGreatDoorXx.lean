/-
  The plain models of the functions that the law reaches, fourth part. No condition.
-/
import Derived.Test.YtcndcnfjdanbeaaGreatDoorXo
import Derived.Test.YtcndcnfjdanbeaaGreatDoorXd
set_option linter.all false
noncomputable section
namespace Go.Md
open Go.Dn
abbrev slices_Sort_int (l:List Int):Option (List Int×Unit):=af5 l
noncomputable section
abbrev aX:Ty:=(.st (.pair bW (.pair tI (.pair tI (.slice bR)))))
abbrev ak:Type:=aT×Int×Int×(List ay)
abbrev fB:Ty:=(.st (.pair bB (.pair (.slice aF) (.pair (.slice aX) (.slice ax)))))
abbrev dU:Type:=aj×(List aa)×(List ak)×(List ah)
abbrev gR:Type:=(List (Option Nat))×Int×Int×Bys×Bys×Bys×Int×Int×(List aK)×(List aa)×Int×(List Int)×(List ah)×(List ay)×(List (Int×(Option Nat)))×Unit
abbrev jS:Type:=(((List (Option Nat))×(aj×(List aa)×(List (Int×(Option Nat)))×(List ah)×(List ay)×Int×Unit)×Unit) ⊕ ((List (Option Nat))×Bys×Bys×Bys×Int×Int×(List aK)×(List aa)×Int×(List ah)×(List ay)×(List (Int×(Option Nat)))×Unit))
def jR (x1:gR) (again:gR→Option jS):Option jS:=
 match x1 with
 | (A,B,C,D,E,F,G,H,I,J,K,L,M,N,O,_)=>
 bif decide (C<B) then
  chk (decide (0≤C)&&decide (C<(L.length:Int))) <|
  (L[C.toNat]?).bind fun y2=>
  chk (decide (((A.length)+1)*8≤140737488355328)&&decide ((A.length)+1≤maxLen)) <|
  again (A++[(Option.getD (α:=Option Nat) (bU (k:=tI) (v:= .hnd) O y2) none)],B,w64 (C+1),D,E,F,G,H,I,J,K,L,M,N,O,())
 else
  some (.inr (A,D,E,F,G,H,I,J,K,M,N,O,()))
def mF (a0:aj×(List aa)×(List (Int×(Option Nat)))×(List ah)×(List ay)×Int×Unit):Option ((List (Option Nat))×(aj×(List aa)×(List (Int×(Option Nat)))×(List ah)×(List ay)×Int×Unit)×Unit):=
 chk (NW a0.2.2.1) <|
 aH (
  iter (X:=gR) (β:=jS) (List.length ([]:List (Option Nat))+(Int.natAbs ((List.length (wK a0.2.2.1):Int))+(Int.natAbs (0:Int)+(a0.1.1.length+(a0.1.2.1.length+(a0.1.2.2.1.length+(a0.1.2.2.2.1.natAbs+(a0.1.2.2.2.2.1.natAbs+(a0.1.2.2.2.2.2.length+(a0.2.1.length+(a0.2.2.2.2.2.1.natAbs+(List.length ((wK a0.2.2.1):List Int)+(a0.2.2.2.1.length+(a0.2.2.2.2.1.length+(a0.2.2.1.length+2))))))))))))))) ([],(List.length (wK a0.2.2.1):Int),0,a0.1.1,a0.1.2.1,a0.1.2.2.1,a0.1.2.2.2.1,a0.1.2.2.2.2.1,a0.1.2.2.2.2.2,a0.2.1,a0.2.2.2.2.2.1,wK a0.2.2.1,a0.2.2.2.1,a0.2.2.2.2.1,a0.2.2.1,()) (jR)) fun (A,B,C,D,E,F,G,H,I,J,K,L,_)=>
 some (A,((B,C,D,E,F,G),H,L,J,K,I,()),())
abbrev x9:Type:=Int×Int×Int×Unit
abbrev CE:Type:=((Int×Unit) ⊕ (Int×Unit))
def CD (x1:x9) (again:x9→Option CE):Option CE:=
 bif decide (x1.2.2.1<x1.2.1) then
  again (w64 (x1.1*10),x1.2.1,w64 (x1.2.2.1+1),())
 else
  some (.inr (x1.1,()))
def qE (a0:ah):Option (Int×Unit):=
 aH (
  iter (X:=x9) (β:=CE) (a0.1.natAbs+(Int.natAbs (w64 (3 - a0.2))+(Int.natAbs (0:Int)+2))) (a0.1,w64 (3 - a0.2),0,()) (CD)) fun v2=>
 some (v2.1,())
def mH (a0:ah) (a1:ah):Option (ah×Unit):=
 (qE a0).bind fun r1=>
 (qE a1).bind fun r2=>
 (fZ (w64 (r1.1+r2.1),3)).bind fun r3=>
 some (r3.1,())
def zh (a0:ah) (a1:ah):Option (ah×Unit):=
 (mH a0 (w64 (0 - a1.1),a1.2)).bind fun r1=>
 some (r1.1,())
def zP (a0:aT):Option (ah×Unit):=
 (zh a0.2.2.2.2.2.2.1 a0.2.2.2.2.2.2.2.2.1).bind fun r1=>
 some (r1.1,())
def qF (a0:aT):Option (aT×Unit):=
 (zP a0).bind fun r1=>
 (zh a0.2.2.2.1 r1.1).bind fun r2=>
 bif decide (r2.1.1<0) then
  some ((a0.1,a0.2.1,a0.2.2.1,a0.2.2.2.1,a0.2.2.2.2.1,a0.2.2.2.2.2.1,a0.2.2.2.2.2.2.1,a0.2.2.2.2.2.2.2.1,a0.2.2.2.2.2.2.2.2.1,0,0),())
 else
  some ((a0.1,a0.2.1,a0.2.2.1,a0.2.2.2.1,a0.2.2.2.2.1,a0.2.2.2.2.2.1,a0.2.2.2.2.2.2.1,a0.2.2.2.2.2.2.2.1,a0.2.2.2.2.2.2.2.2.1,r2.1),())
def AR (a0:aj) (a1:Int):Option (Int×Unit):=
 (idx a0.2.2.2.2.2 a1).bind fun y1=>
 (lX y1.1 1 99999).bind fun r2=>
 bif !r2.1 then
  some (1,())
 else
  (
   bif decide (a1>0) then
    Option.bind (idx a0.2.2.2.2.2 (w64 (a1 - 1))) fun y3=>
    some (decide (y1.1≤y3.1),())
   else
    some (false,())).bind fun v4=>
  bif v4.1 then
   some (8,())
  else
   (kD y1.2.1).bind fun r5=>
   bif !r5.1 then
    some (5,())
   else
    (kY y1.2.2.1 false).bind fun r6=>
    bif r6.1 != 0 then
     some (1,())
    else
     (kD y1.2.2.2.1).bind fun r7=>
     bif !r7.1 then
      some (5,())
     else
      (tL y1.2.2.2.2.1).bind fun r8=>
      bif r8.1 != 0 then
       some (1,())
      else
       (lX y1.2.2.2.2.2 a0.2.2.2.1 3652059).bind fun r9=>
       bif !r9.1 then
        some (1,())
       else
        some (0,())
abbrev qU:Type:=Int×Int×Bys×Bys×Bys×Int×Int×(List aK)×Unit
abbrev xw:Type:=((Int×Unit) ⊕ Unit)
def qT (x1:qU) (again:qU→Option xw):Option xw:=
 match x1 with
 | (A,B,C,D,E,F,G,H,_)=>
 bif decide (B<A) then
  (AR (C,D,E,F,G,H) B).bind fun r2=>
  bif r2.1 != 0 then
   some (.inl (r2.1,()))
  else
   again (A,w64 (B+1),C,D,E,F,G,H,())
 else
  some (.inr ())
def yO (a0:aj):Option (Int×Unit):=
 (kD a0.1).bind fun r1=>
 bif !r1.1 then
  some (5,())
 else
  (kD a0.2.1).bind fun r2=>
  bif !r2.1 then
   some (5,())
  else
   (kD a0.2.2.1).bind fun r3=>
   bif !r3.1 then
    some (5,())
   else
    bif a0.2.1==a0.2.2.1 then
     some (12,())
    else
     (zf a0.2.2.2.1).bind fun r4=>
     bif !r4.1 then
      some (1,())
     else
      (lX a0.2.2.2.2.1 0 1000).bind fun r5=>
      bif !r5.1 then
       some (1,())
      else
       bif ((a0.2.2.2.2.2.length:Int))==0 then
        some (9,())
       else
        bif decide (((a0.2.2.2.2.2.length:Int))>500) then
         some (2,())
        else
         aH (
          iter (X:=qU) (β:=xw) (Int.natAbs ((a0.2.2.2.2.2.length:Int))+(Int.natAbs (0:Int)+(a0.1.length+(a0.2.1.length+(a0.2.2.1.length+(a0.2.2.2.1.natAbs+(a0.2.2.2.2.1.natAbs+(a0.2.2.2.2.2.length+2)))))))) ((a0.2.2.2.2.2.length:Int),0,a0.1,a0.2.1,a0.2.2.1,a0.2.2.2.1,a0.2.2.2.2.1,a0.2.2.2.2.2,()) (qT)) fun _=>
         some (0,())
end
end Go.Md
namespace Go.Md
open Go.Dn
abbrev iC (l:List ak) (i:Int) (v:List ak):=SQ 184 l i v
def Tt (a0:aj) (a1:List aa):Option (Int×Unit):=
 (yO a0).bind fun r1=>
 bif r1.1 != 0 then
  some (r1.1,())
 else
  (yN a1).bind fun r2=>
  some (r2.1,())
abbrev ni:Type:=Int×(List ak)×Int×Int×Unit
abbrev qY:Type:=((Int×Unit) ⊕ Unit)
def qX (x1:ni) (again:ni→Option qY):Option qY:=
 match x1 with
 | (A,B,C,D,_)=>
 bif decide (D<C) then
  (idx B D).bind fun y2=>
  bif y2.1.1==A then
   some (.inl (D,()))
  else
   again (A,B,C,w64 (D+1),())
 else
  some (.inr ())
def rK (a0:dU) (a1:Int):Option (Int×Unit):=
 aH (
  iter (X:=ni) (β:=qY) (a1.natAbs+(a0.2.2.1.length+(Int.natAbs ((a0.2.2.1.length:Int))+(Int.natAbs (0:Int)+2)))) (a1,a0.2.2.1,(a0.2.2.1.length:Int),0,()) (qX)) fun _=>
 some ((-1),())
def AQ (a0:dU) (a1:aT):Option (Int×Unit):=
 (qE a1.2.2.2.1).bind fun r1=>
 let n2:Int:=w64 (r1.1+(w64 (Int.tdiv (w64 (r1.1*a0.1.2.2.2.2.1)) 1000)))
 some (n2,())
def uR (a0:dU) (a1:Int):Option (Int×Unit):=
 (idx a0.2.1 a1).bind fun y1=>
 (rK a0 y1.2.2.2.2.1).bind fun r2=>
 bif !((decide (r2.1<0))==(y1.2.2.2.1==1)) then
  bif decide (r2.1<0) then
   some (9,())
  else
   some (7,())
 else
  (
   bif decide (r2.1<0) then
    some (decide (((a0.2.2.1.length:Int))≥500),())
   else
    some (false,())).bind fun v3=>
  bif v3.1 then
   some (16,())
  else
   (
    Option.bind (HQ y1.2.2.2.1) fun r4=>
    bif r4.1.2.2.1 then
     some (decide (y1.2.2.2.2.2.2.2.2.2.1<a0.1.2.2.2.1),())
    else
     some (false,())).bind fun v5=>
   bif v5.1 then
    some (1,())
   else
    bif decide (r2.1<0) then
     some (0,())
    else
     (idx a0.2.2.1 r2.1).bind fun y6=>
     aH (γ:=(dU×Int×Bool×Int×Int×Int×Int×Int×Bys×Int×Int×Bys×Int×Int×Int×Int×Int×Bys×Bys×Int×Int×Int×Int×Int×Int×Int×Int×Int×Int×Int×Int×Int×Int×Int×(List ay)×Int×Bys×Bys×Int×Int×Int×Int×Int×Int×Int×Int×Int×Int×Int×Int×Int×Unit)) (
      bif y1.2.2.2.1==2 then
       some (.inr (a0,y1.2.2.2.1,y1.2.2.2.1==2,y1.1,y1.2.1,y1.2.2.1,y1.2.2.2.1,y1.2.2.2.2.1,y1.2.2.2.2.2.1,y1.2.2.2.2.2.2.1.1,y1.2.2.2.2.2.2.1.2,y1.2.2.2.2.2.2.2.1,y1.2.2.2.2.2.2.2.2.1.1,y1.2.2.2.2.2.2.2.2.1.2,y1.2.2.2.2.2.2.2.2.2.1,y1.2.2.2.2.2.2.2.2.2.2,y6.1.1,y6.1.2.1,y6.1.2.2.1,y6.1.2.2.2.1.1,y6.1.2.2.2.1.2,y6.1.2.2.2.2.1.1,y6.1.2.2.2.2.1.2,y6.1.2.2.2.2.2.1,y6.1.2.2.2.2.2.2.1.1,y6.1.2.2.2.2.2.2.1.2,y6.1.2.2.2.2.2.2.2.1.1,y6.1.2.2.2.2.2.2.2.1.2,y6.1.2.2.2.2.2.2.2.2.1.1,y6.1.2.2.2.2.2.2.2.2.1.2,y6.1.2.2.2.2.2.2.2.2.2.1,y6.1.2.2.2.2.2.2.2.2.2.2,y6.2.1,y6.2.2.1,y6.2.2.2,y6.1.1,y6.1.2.1,y6.1.2.2.1,y6.1.2.2.2.1.1,y6.1.2.2.2.1.2,y6.1.2.2.2.2.1.1,y6.1.2.2.2.2.1.2,y6.1.2.2.2.2.2.1,y6.1.2.2.2.2.2.2.1.1,y6.1.2.2.2.2.2.2.1.2,y6.1.2.2.2.2.2.2.2.1.1,y6.1.2.2.2.2.2.2.2.1.2,y6.1.2.2.2.2.2.2.2.2.1.1,y6.1.2.2.2.2.2.2.2.2.1.2,y6.1.2.2.2.2.2.2.2.2.2.1,y6.1.2.2.2.2.2.2.2.2.2.2,()))
      else
       bif y1.2.2.2.1==3 then
        some (.inr (a0,y1.2.2.2.1,y1.2.2.2.1==3,y1.1,y1.2.1,y1.2.2.1,y1.2.2.2.1,y1.2.2.2.2.1,y1.2.2.2.2.2.1,y1.2.2.2.2.2.2.1.1,y1.2.2.2.2.2.2.1.2,y1.2.2.2.2.2.2.2.1,y1.2.2.2.2.2.2.2.2.1.1,y1.2.2.2.2.2.2.2.2.1.2,y1.2.2.2.2.2.2.2.2.2.1,y1.2.2.2.2.2.2.2.2.2.2,y6.1.1,y6.1.2.1,y6.1.2.2.1,y6.1.2.2.2.1.1,y6.1.2.2.2.1.2,y6.1.2.2.2.2.1.1,y6.1.2.2.2.2.1.2,y6.1.2.2.2.2.2.1,y6.1.2.2.2.2.2.2.1.1,y6.1.2.2.2.2.2.2.1.2,y6.1.2.2.2.2.2.2.2.1.1,y6.1.2.2.2.2.2.2.2.1.2,y6.1.2.2.2.2.2.2.2.2.1.1,y6.1.2.2.2.2.2.2.2.2.1.2,y6.1.2.2.2.2.2.2.2.2.2.1,y6.1.2.2.2.2.2.2.2.2.2.2,y6.2.1,y6.2.2.1,y6.2.2.2,y6.1.1,y6.1.2.1,y6.1.2.2.1,y6.1.2.2.2.1.1,y6.1.2.2.2.1.2,y6.1.2.2.2.2.1.1,y6.1.2.2.2.2.1.2,y6.1.2.2.2.2.2.1,y6.1.2.2.2.2.2.2.1.1,y6.1.2.2.2.2.2.2.1.2,y6.1.2.2.2.2.2.2.2.1.1,y6.1.2.2.2.2.2.2.2.1.2,y6.1.2.2.2.2.2.2.2.2.1.1,y6.1.2.2.2.2.2.2.2.2.1.2,y6.1.2.2.2.2.2.2.2.2.2.1,y6.1.2.2.2.2.2.2.2.2.2.2,()))
       else
        some (.inr (a0,y1.2.2.2.1,y1.2.2.2.1==4,y1.1,y1.2.1,y1.2.2.1,y1.2.2.2.1,y1.2.2.2.2.1,y1.2.2.2.2.2.1,y1.2.2.2.2.2.2.1.1,y1.2.2.2.2.2.2.1.2,y1.2.2.2.2.2.2.2.1,y1.2.2.2.2.2.2.2.2.1.1,y1.2.2.2.2.2.2.2.2.1.2,y1.2.2.2.2.2.2.2.2.2.1,y1.2.2.2.2.2.2.2.2.2.2,y6.1.1,y6.1.2.1,y6.1.2.2.1,y6.1.2.2.2.1.1,y6.1.2.2.2.1.2,y6.1.2.2.2.2.1.1,y6.1.2.2.2.2.1.2,y6.1.2.2.2.2.2.1,y6.1.2.2.2.2.2.2.1.1,y6.1.2.2.2.2.2.2.1.2,y6.1.2.2.2.2.2.2.2.1.1,y6.1.2.2.2.2.2.2.2.1.2,y6.1.2.2.2.2.2.2.2.2.1.1,y6.1.2.2.2.2.2.2.2.2.1.2,y6.1.2.2.2.2.2.2.2.2.2.1,y6.1.2.2.2.2.2.2.2.2.2.2,y6.2.1,y6.2.2.1,y6.2.2.2,y6.1.1,y6.1.2.1,y6.1.2.2.1,y6.1.2.2.2.1.1,y6.1.2.2.2.1.2,y6.1.2.2.2.2.1.1,y6.1.2.2.2.2.1.2,y6.1.2.2.2.2.2.1,y6.1.2.2.2.2.2.2.1.1,y6.1.2.2.2.2.2.2.1.2,y6.1.2.2.2.2.2.2.2.1.1,y6.1.2.2.2.2.2.2.2.1.2,y6.1.2.2.2.2.2.2.2.2.1.1,y6.1.2.2.2.2.2.2.2.2.1.2,y6.1.2.2.2.2.2.2.2.2.2.1,y6.1.2.2.2.2.2.2.2.2.2.2,()))) fun (A,B,C,D,E,F,G,H,I,J,K,L,M,N,O,P,Q,R,S,T,U,V,W,X,Y,Z,A0,B0,C0,D0,E0,F0,G0,H0,I0,J0,K0,L0,M0,N0,O0,P0,Q0,R0,S0,T0,U0,V0,W0,X0,Y0,_)=>
     bif C then
      bif decide (G0≥0) then
       some (11,())
      else
       some (0,())
     else
      aH (γ:=(dU×Int×Bool×Int×Int×Int×Int×Int×Bys×Int×Int×Bys×Int×Int×Int×Int×Int×Bys×Bys×Int×Int×Int×Int×Int×Int×Int×Int×Int×Int×Int×Int×Int×Int×Int×(List ay)×Int×Bys×Bys×Int×Int×Int×Int×Int×Int×Int×Int×Int×Int×Int×Int×Int×Unit)) (
       bif B==5 then
        some (.inr (A,B,B==5,D,E,F,G,H,I,J,K,L,M,N,O,P,Q,R,S,T,U,V,W,X,Y,Z,A0,B0,C0,D0,E0,F0,G0,H0,I0,J0,K0,L0,M0,N0,O0,P0,Q0,R0,S0,T0,U0,V0,W0,X0,Y0,()))
       else
        some (.inr (A,B,B==6,D,E,F,G,H,I,J,K,L,M,N,O,P,Q,R,S,T,U,V,W,X,Y,Z,A0,B0,C0,D0,E0,F0,G0,H0,I0,J0,K0,L0,M0,N0,O0,P0,Q0,R0,S0,T0,U0,V0,W0,X0,Y0,()))) fun (Z0,A1,B1,_,_,_,C1,_,_,D1,E1,_,_,_,_,F1,_,_,_,_,_,_,_,_,_,_,_,_,_,_,_,_,G1,H1,_,I1,J1,K1,L1,M1,N1,O1,P1,Q1,R1,S1,T1,U1,V1,W1,X1,_)=>
      bif B1 then
       bif decide (G1<0) then
        some (5,())
       else
        (idx Z0.2.1 G1).bind fun y9=>
        bif y9.2.2.1 != F1 then
         some (5,())
        else
         (
          bif C1==5 then
           Option.bind (idx Z0.2.1 G1) fun y10=>
           bif y10.2.2.2.1==2 then
            Option.bind (idx Z0.2.1 G1) fun y11=>
            Option.bind (zP (I1,J1,K1,(L1,M1),(N1,O1),P1,(Q1,R1),(S1,T1),(U1,V1),W1,X1)) fun r12=>
            Option.bind (tM y11.2.2.2.2.2.2.1 r12.1) fun r13=>
            some (decide (r13.1<0),())
           else
            some (false,())
          else
           some (false,())).bind fun v14=>
         bif v14.1 then
          some (12,())
         else
          some (0,())
      else
       bif A1==7 then
        bif decide (G1≥0) then
         some (11,())
        else
         bif W1==0 then
          some (11,())
         else
          (tM (D1,E1) (W1,X1)).bind fun r15=>
          bif decide (r15.1>0) then
           some (12,())
          else
           some (0,())
       else
        bif A1==8 then
         bif decide (G1≥0) then
          some (11,())
         else
          bif decide (H1<0) then
           some (5,())
          else
           (idx Z0.2.1 H1).bind fun y16=>
           bif y16.2.2.1 != F1 then
            some (5,())
           else
            some (0,())
        else
         bif A1==9 then
          (zP (I1,J1,K1,(L1,M1),(N1,O1),P1,(Q1,R1),(S1,T1),(U1,V1),W1,X1)).bind fun r17=>
          (qE r17.1).bind fun r18=>
          (qE (D1,E1)).bind fun r19=>
          (AQ Z0 (I1,J1,K1,(L1,M1),(N1,O1),P1,(Q1,R1),(S1,T1),(U1,V1),W1,X1)).bind fun r20=>
          bif decide ((w64 (r18.1+r19.1))>r20.1) then
           some (12,())
          else
           (qE (Q1,R1)).bind fun r21=>
           (qE (D1,E1)).bind fun r22=>
           bif decide ((w64 (r21.1+r22.1))>1000000000000000) then
            some (16,())
           else
            some (0,())
         else
          bif A1==10 then
           (mH (S1,T1) (D1,E1)).bind fun r23=>
           (tM r23.1 (Q1,R1)).bind fun r24=>
           bif decide (r24.1>0) then
            some (12,())
           else
            some (0,())
          else
           bif A1==11 then
            (mH (U1,V1) (D1,E1)).bind fun r25=>
            (tM r25.1 (S1,T1)).bind fun r26=>
            bif decide (r26.1>0) then
             some (12,())
            else
             some (0,())
           else
            some (0,())
def kP {β:Type} (a0:(List aa)) (a1:(List ak)) (a2:Nat) (k:(List ak)→Option β):Option β:=
 (a1[a2]?).bind fun y1=>
 (idx a0 y1.2.1).bind fun y2=>
 bif y2.2.2.2.1==1 then
  bif y2.2.2.2.1==1 then
   (fZ y2.2.2.2.2.2.2.1).bind fun r3=>
   (a1[a2]?).bind fun y4=>
   ((List.set a1 a2 ((y4.1.1,y4.1.2.1,y4.1.2.2.1,r3.1,y4.1.2.2.2.2),y4.2))[a2]?).bind fun y5=>
   k (List.set (List.set a1 a2 ((y4.1.1,y4.1.2.1,y4.1.2.2.1,r3.1,y4.1.2.2.2.2),y4.2)) a2 (y5.1,(-1),y5.2.2))
  else
   bif y2.2.2.2.1==3 then
    (a1[a2]?).bind fun y6=>
    ((List.set a1 a2 ((y6.1.1,y6.1.2.1,y6.1.2.2.1,y6.1.2.2.2.1,y6.1.2.2.2.2.1,y2.2.2.2.2.2.2.2.2.2.1,y6.1.2.2.2.2.2.2),y6.2))[a2]?).bind fun y7=>
    k (List.set (List.set a1 a2 ((y6.1.1,y6.1.2.1,y6.1.2.2.1,y6.1.2.2.2.1,y6.1.2.2.2.2.1,y2.2.2.2.2.2.2.2.2.2.1,y6.1.2.2.2.2.2.2),y6.2)) a2 (y7.1,(-1),y7.2.2))
   else
    bif y2.2.2.2.1==4 then
     (fZ y2.2.2.2.2.2.2.2.2.1).bind fun r8=>
     (a1[a2]?).bind fun y9=>
     ((List.set a1 a2 ((y9.1.1,y9.1.2.1,y9.1.2.2.1,y9.1.2.2.2.1,r8.1,y9.1.2.2.2.2.2),y9.2))[a2]?).bind fun y10=>
     k (List.set (List.set a1 a2 ((y9.1.1,y9.1.2.1,y9.1.2.2.1,y9.1.2.2.2.1,r8.1,y9.1.2.2.2.2.2),y9.2)) a2 (y10.1,(-1),y10.2.2))
    else
     (a1[a2]?).bind fun y11=>
     k (List.set a1 a2 (y11.1,(-1),y11.2.2))
 else
  bif y2.2.2.2.1==2 then
   (fZ y2.2.2.2.2.2.2.1).bind fun r12=>
   (a1[a2]?).bind fun y13=>
   ((List.set a1 a2 ((y13.1.1,y13.1.2.1,y13.1.2.2.1,r12.1,y13.1.2.2.2.2),y13.2))[a2]?).bind fun y14=>
   k (List.set (List.set a1 a2 ((y13.1.1,y13.1.2.1,y13.1.2.2.1,r12.1,y13.1.2.2.2.2),y13.2)) a2 (y14.1,(-1),y14.2.2))
  else
   bif y2.2.2.2.1==3 then
    (a1[a2]?).bind fun y15=>
    ((List.set a1 a2 ((y15.1.1,y15.1.2.1,y15.1.2.2.1,y15.1.2.2.2.1,y15.1.2.2.2.2.1,y2.2.2.2.2.2.2.2.2.2.1,y15.1.2.2.2.2.2.2),y15.2))[a2]?).bind fun y16=>
    k (List.set (List.set a1 a2 ((y15.1.1,y15.1.2.1,y15.1.2.2.1,y15.1.2.2.2.1,y15.1.2.2.2.2.1,y2.2.2.2.2.2.2.2.2.2.1,y15.1.2.2.2.2.2.2),y15.2)) a2 (y16.1,(-1),y16.2.2))
   else
    bif y2.2.2.2.1==4 then
     (fZ y2.2.2.2.2.2.2.2.2.1).bind fun r17=>
     (a1[a2]?).bind fun y18=>
     ((List.set a1 a2 ((y18.1.1,y18.1.2.1,y18.1.2.2.1,y18.1.2.2.2.1,r17.1,y18.1.2.2.2.2.2),y18.2))[a2]?).bind fun y19=>
     k (List.set (List.set a1 a2 ((y18.1.1,y18.1.2.1,y18.1.2.2.1,y18.1.2.2.2.1,r17.1,y18.1.2.2.2.2.2),y18.2)) a2 (y19.1,(-1),y19.2.2))
    else
     (a1[a2]?).bind fun y20=>
     k (List.set a1 a2 (y20.1,(-1),y20.2.2))
def iA (a0:(List aa)) (a1:(List ak)) (a2:Nat):Option (List ak):=kP a0 a1 a2 some
theorem adt {α β:Type} (b:Bool) (x y:Option α) (k:α→Option β):(bif b then x else y).bind k=bif b then x.bind k else y.bind k:=by cases b<;>rfl
theorem IK {β:Type} (l:List aa) (ql:List ak) (i:Nat) (k:List ak→Option β):kP l ql i k=(iA l ql i).bind k:=by
 unfold iA kP
 simp only[Option.bind_assoc,adt,ai1]
def iS (a0:List ay):Option ((List ay)×Unit):=
 bif List.isEmpty a0 then
  both (
   some ([],())) (
   chk (decide ((0+(a0.length))*152≤140737488355328)&&decide (0+(a0.length)≤maxLen)) <|
   some (a0,()))
 else
  chk (decide ((0+(a0.length))*152≤140737488355328)&&decide (0+(a0.length)≤maxLen)) <|
  some (a0,())
abbrev nh:Type:=Int×Int×Int×Int×Int×Int×Int×Bys×Int×Int×Bys×Int×Int×Int×Int×Bys×Bys×Bys×Int×Int×(List aK)×(List aa)×(List ak)×(List ah)×Unit
abbrev qW:Type:=((((aj×(List aa)×(List ak)×(List ah)×Unit)×Unit) ⊕ (Int×Int×Int×Int×Int×Int×Int×Bys×Int×Int×Bys×Int×Int×Int×Int×Bys×Bys×Bys×Int×Int×(List aK)×(List aa)×(List ak)×(List ah)×Unit)) ⊕ (Int×Int×Int×Int×Int×Int×Int×Bys×Int×Int×Bys×Int×Int×Int×Int×Bys×Bys×Bys×Int×Int×(List aK)×(List aa)×(List ak)×(List ah)×Unit))
def qV (x1:nh) (again:nh→Option qW):Option qW:=
 match x1 with
 | (A,B,C,D,E,F,G,H,I,J,K,L,M,N,O,P,Q,R,S,T,U,V,W,X,_)=>
 (
  bif decide (B<((W.length:Int))) then
   chk (decide (0≤B)&&decide (B<(W.length:Int))) <|
   Option.bind (W[B.toNat]?) fun y2=>
   some (decide (y2.1.1<G),())
  else
   some (false,())).bind fun v3=>
 bif v3.1 then
  again (A,w64 (B+1),C,D,E,F,G,H,I,J,K,L,M,N,O,P,Q,R,S,T,U,V,W,X,())
 else
  some (.inr (A,B,C,D,E,F,G,H,I,J,K,L,M,N,O,P,Q,R,S,T,U,V,W,X,()))
def kX (a0:aj×(List aa)×(List ak)×(List ah)×Unit) (a1:Int):Option ((aj×(List aa)×(List ak)×(List ah)×Unit)×Unit):=
 (idx a0.2.1 a1).bind fun y1=>
 (rK (a0.1,a0.2.1,a0.2.2.1,a0.2.2.2.1) y1.2.2.2.2.1).bind fun r2=>
 aH (γ:=(Int×Int×Int×Int×Int×Int×Int×Bys×Int×Int×Bys×Int×Int×Int×Int×Bys×Bys×Bys×Int×Int×(List aK)×(List aa)×(List ak)×(List ah)×Unit)) (
  bif decide (r2.1<0) then
   aH (
    iter (X:=nh) (β:=qW) (a1.natAbs+(Int.natAbs (0:Int)+(y1.1.natAbs+(y1.2.1.natAbs+(y1.2.2.1.natAbs+(y1.2.2.2.1.natAbs+(y1.2.2.2.2.1.natAbs+(y1.2.2.2.2.2.1.length+(y1.2.2.2.2.2.2.1.1.natAbs+(y1.2.2.2.2.2.2.1.2.natAbs+(y1.2.2.2.2.2.2.2.1.length+(y1.2.2.2.2.2.2.2.2.1.1.natAbs+(y1.2.2.2.2.2.2.2.2.1.2.natAbs+(y1.2.2.2.2.2.2.2.2.2.1.natAbs+(y1.2.2.2.2.2.2.2.2.2.2.natAbs+(a0.1.1.length+(a0.1.2.1.length+(a0.1.2.2.1.length+(a0.1.2.2.2.1.natAbs+(a0.1.2.2.2.2.1.natAbs+(a0.1.2.2.2.2.2.length+(a0.2.1.length+(a0.2.2.1.length+(a0.2.2.2.1.length+2)))))))))))))))))))))))) (a1,0,y1.1,y1.2.1,y1.2.2.1,y1.2.2.2.1,y1.2.2.2.2.1,y1.2.2.2.2.2.1,y1.2.2.2.2.2.2.1.1,y1.2.2.2.2.2.2.1.2,y1.2.2.2.2.2.2.2.1,y1.2.2.2.2.2.2.2.2.1.1,y1.2.2.2.2.2.2.2.2.1.2,y1.2.2.2.2.2.2.2.2.2.1,y1.2.2.2.2.2.2.2.2.2.2,a0.1.1,a0.1.2.1,a0.1.2.2.1,a0.1.2.2.2.1,a0.1.2.2.2.2.1,a0.1.2.2.2.2.2,a0.2.1,a0.2.2.1,a0.2.2.2.1,()) (qV)) fun (Z,A0,B0,C0,D0,E0,F0,G0,H0,I0,J0,K0,L0,M0,N0,O0,P0,Q0,R0,S0,T0,U0,V0,W0,_)=>
   (fZ (K0,L0)).bind fun r7=>
   (iC V0 A0 [((F0,G0,J0,(0,0),r7.1,M0,(0,0),(0,0),(0,0),0,0),Z,(-1),[])]).bind fun r8=>
   some (.inr (Z,A0,B0,C0,D0,E0,F0,G0,H0,I0,J0,K0,L0,M0,N0,O0,P0,Q0,R0,S0,T0,U0,r8.1,W0,()))
  else
   some (.inr (a1,r2.1,y1.1,y1.2.1,y1.2.2.1,y1.2.2.2.1,y1.2.2.2.2.1,y1.2.2.2.2.2.1,y1.2.2.2.2.2.2.1.1,y1.2.2.2.2.2.2.1.2,y1.2.2.2.2.2.2.2.1,y1.2.2.2.2.2.2.2.2.1.1,y1.2.2.2.2.2.2.2.2.1.2,y1.2.2.2.2.2.2.2.2.2.1,y1.2.2.2.2.2.2.2.2.2.2,a0.1.1,a0.1.2.1,a0.1.2.2.1,a0.1.2.2.2.1,a0.1.2.2.2.2.1,a0.1.2.2.2.2.2,a0.2.1,a0.2.2.1,a0.2.2.2.1,()))) fun (A,B,C,D,E,F,G,H,I,J,K,L,M,N,O,P,Q,R,S,T,U,V,W,Y,_)=>
 chk (decide (0≤B)&&decide (B<(W.length:Int))) <|
 aH (γ:=(Int×(Nat)×Int×Int×Int×Int×Int×Bys×Int×Int×Bys×Int×Int×Int×Int×Bys×Bys×Bys×Int×Int×(List aK)×(List aa)×(List ak)×(List ah)×Unit)) (
  bif D==2 then
   (W[B.toNat]?).bind fun y10=>
   some (.inr (A,B.toNat,C,D,E,F,G,H,I,J,K,L,M,N,O,P,Q,R,S,T,U,V,List.set W B.toNat (y10.1,y10.2.1,(-1),y10.2.2.2),Y,()))
  else
   some (.inr (A,B.toNat,C,D,E,F,G,H,I,J,K,L,M,N,O,P,Q,R,S,T,U,V,W,Y,()))) fun (X0,Y0,Z0,A1,B1,C1,D1,E1,F1,G1,H1,I1,J1,K1,L1,M1,N1,O1,P1,Q1,R1,S1,T1,U1,_)=>
 aH (γ:=(Int×(Nat)×Int×Bool×Int×Int×Int×Int×Int×Bys×Int×Int×Bys×Int×Int×Int×Int×Bys×Bys×Bys×Int×Int×(List aK)×(List aa)×(List ak)×(List ah)×Unit)) (
  bif C1==2 then
   some (.inr (X0,Y0,C1,C1==2,Z0,A1,B1,C1,D1,E1,F1,G1,H1,I1,J1,K1,L1,M1,N1,O1,P1,Q1,R1,S1,T1,U1,()))
  else
   bif C1==3 then
    some (.inr (X0,Y0,C1,C1==3,Z0,A1,B1,C1,D1,E1,F1,G1,H1,I1,J1,K1,L1,M1,N1,O1,P1,Q1,R1,S1,T1,U1,()))
   else
    some (.inr (X0,Y0,C1,C1==4,Z0,A1,B1,C1,D1,E1,F1,G1,H1,I1,J1,K1,L1,M1,N1,O1,P1,Q1,R1,S1,T1,U1,()))) fun (V1,W1,X1,Y1,_,_,_,_,_,_,Z1,A2,_,_,_,_,_,B2,C2,D2,E2,F2,G2,H2,I2,J2,_)=>
 aH (γ:=(Int×(Nat)×Bys×Bys×Bys×Int×Int×(List aK)×(List aa)×(List ak)×(List ah)×Unit)) (
  bif Y1 then
   (I2[W1]?).bind fun y13=>
   some (.inr (V1,W1,B2,C2,D2,E2,F2,G2,H2,List.set I2 W1 (y13.1,V1,y13.2.2),J2,()))
  else
   bif X1==5 then
    (iA H2 I2 W1).bind fun z14=>
    some (.inr (V1,W1,B2,C2,D2,E2,F2,G2,H2,z14,J2,()))
   else
    bif X1==6 then
     (I2[W1]?).bind fun y15=>
     some (.inr (V1,W1,B2,C2,D2,E2,F2,G2,H2,List.set I2 W1 (y15.1,(-1),y15.2.2),J2,()))
    else
     bif X1==7 then
      (I2[W1]?).bind fun y16=>
      some (.inr (V1,W1,B2,C2,D2,E2,F2,G2,H2,List.set I2 W1 (y16.1,y16.2.1,V1,y16.2.2.2),J2,()))
     else
      bif X1==8 then
       (I2[W1]?).bind fun y17=>
       (zP y17.1).bind fun r18=>
       (I2[W1]?).bind fun y19=>
       (idx H2 y19.2.2.1).bind fun y20=>
       (mH r18.1 y20.2.2.2.2.2.2.1).bind fun r21=>
       (I2[W1]?).bind fun y22=>
       (idx H2 y22.2.2.1).bind fun y23=>
       (I2[W1]?).bind fun y24=>
       ((List.set I2 W1 ((y24.1.1,y24.1.2.1,y24.1.2.2.1,r21.1,y24.1.2.2.2.2),y24.2))[W1]?).bind fun y25=>
       ((List.set (List.set I2 W1 ((y24.1.1,y24.1.2.1,y24.1.2.2.1,r21.1,y24.1.2.2.2.2),y24.2)) W1 ((y25.1.1,y25.1.2.1,y25.1.2.2.1,y25.1.2.2.2.1,y25.1.2.2.2.2.1,y23.2.2.2.2.2.2.2.2.2.1,y25.1.2.2.2.2.2.2),y25.2))[W1]?).bind fun y26=>
       some (.inr (V1,W1,B2,C2,D2,E2,F2,G2,H2,List.set (List.set (List.set I2 W1 ((y24.1.1,y24.1.2.1,y24.1.2.2.1,r21.1,y24.1.2.2.2.2),y24.2)) W1 ((y25.1.1,y25.1.2.1,y25.1.2.2.1,y25.1.2.2.2.1,y25.1.2.2.2.2.1,y23.2.2.2.2.2.2.2.2.2.1,y25.1.2.2.2.2.2.2),y25.2)) W1 (y26.1,y26.2.1,(-1),y26.2.2.2),J2,()))
      else
       bif X1==9 then
        (I2[W1]?).bind fun y27=>
        (mH y27.1.2.2.2.2.2.2.1 (Z1,A2)).bind fun r28=>
        (I2[W1]?).bind fun y29=>
        some (.inr (V1,W1,B2,C2,D2,E2,F2,G2,H2,List.set I2 W1 ((y29.1.1,y29.1.2.1,y29.1.2.2.1,y29.1.2.2.2.1,y29.1.2.2.2.2.1,y29.1.2.2.2.2.2.1,r28.1,y29.1.2.2.2.2.2.2.2),y29.2),J2,()))
       else
        bif X1==10 then
         (I2[W1]?).bind fun y30=>
         (mH y30.1.2.2.2.2.2.2.2.1 (Z1,A2)).bind fun r31=>
         (I2[W1]?).bind fun y32=>
         some (.inr (V1,W1,B2,C2,D2,E2,F2,G2,H2,List.set I2 W1 ((y32.1.1,y32.1.2.1,y32.1.2.2.1,y32.1.2.2.2.1,y32.1.2.2.2.2.1,y32.1.2.2.2.2.2.1,y32.1.2.2.2.2.2.2.1,r31.1,y32.1.2.2.2.2.2.2.2.2),y32.2),J2,()))
        else
         bif X1==11 then
          (I2[W1]?).bind fun y33=>
          (mH y33.1.2.2.2.2.2.2.2.2.1 (Z1,A2)).bind fun r34=>
          (I2[W1]?).bind fun y35=>
          some (.inr (V1,W1,B2,C2,D2,E2,F2,G2,H2,List.set I2 W1 ((y35.1.1,y35.1.2.1,y35.1.2.2.1,y35.1.2.2.2.1,y35.1.2.2.2.2.1,y35.1.2.2.2.2.2.1,y35.1.2.2.2.2.2.2.1,y35.1.2.2.2.2.2.2.2.1,r34.1,y35.1.2.2.2.2.2.2.2.2.2),y35.2),J2,()))
         else
          some (.inr (V1,W1,B2,C2,D2,E2,F2,G2,H2,I2,J2,()))) fun (K2,L2,M2,N2,O2,P2,Q2,R2,S2,T2,U2,_)=>
 (T2[L2]?).bind fun y37=>
 (qF y37.1).bind fun r38=>
 (T2[L2]?).bind fun y39=>
 ((List.set T2 L2 (r38.1,y39.2))[L2]?).bind fun y40=>
 (iS y40.2.2.2).bind fun r41=>
 ((List.set T2 L2 (r38.1,y39.2))[L2]?).bind fun y42=>
 chk (decide (((r41.1.length)+1)*152≤140737488355328)&&decide ((r41.1.length)+1≤maxLen)) <|
 ((List.set T2 L2 (r38.1,y39.2))[L2]?).bind fun y43=>
 some (((M2,N2,O2,P2,Q2,R2),S2,List.set (List.set T2 L2 (r38.1,y39.2)) L2 (y43.1,y43.2.1,y43.2.2.1,r41.1++[(K2,y42.1)]),U2,()),())
abbrev DC:Type:=(List aa)×Int×(List aK)×Int×Int×Bys×Bys×Bys×Int×Int×(List aK)×(List aa)×(List ak)×(List ah)×Unit
abbrev HN:Type:=(((aj×(List aa)×(List ak)×(List ah)×Unit)×Unit) ⊕ ((List aa)×Int×Bys×Bys×Bys×Int×Int×(List aK)×(List aa)×(List ak)×(List ah)×Unit))
def HM (x1:DC) (again:DC→Option HN):Option HN:=
 match x1 with
 | (A,B,C,D,E,F,G,H,I,J,K,L,M,N,_)=>
 bif decide (E<D) then
  (idx C E).bind fun y2=>
  (fZ y2.2.2.1).bind fun r3=>
  (fZ y2.2.2.2.2.1).bind fun r4=>
  (qF (y2.1,y2.2.1,y2.2.2.2.1,r3.1,r4.1,y2.2.2.2.2.2,(0,0),(0,0),(0,0),0,0)).bind fun r5=>
  chk (decide (((M.length)+1)*184≤140737488355328)&&decide ((M.length)+1≤maxLen)) <|
  again (A,B,C,D,w64 (E+1),F,G,H,I,J,K,L,M++[(r5.1,(-1),(-1),[])],N,())
 else
  some (.inr (A,B,F,G,H,I,J,K,L,M,N,()))
abbrev HP:Type:=Int×(List aa)×Int×Int×Bys×Bys×Bys×Int×Int×(List aK)×(List aa)×(List ak)×(List ah)×Unit
abbrev HO:Type:=(((aj×(List aa)×(List ak)×(List ah)×Unit)×Unit) ⊕ (Bys×Bys×Bys×Int×Int×(List aK)×(List aa)×(List ak)×(List ah)×Unit))
def DB (x1:HP) (again:HP→Option HO):Option HO:=
 match x1 with
 | (A,B,C,D,E,F,G,H,I,J,K,L,M,_)=>
 bif decide (D<C) then
  (idx B D).bind fun y2=>
  bif decide (y2.1>A) then
   again (A,B,C,w64 (D+1),E,F,G,H,I,J,K,L,M,())
  else
   (uR ((E,F,G,H,I,J),K,L,M) D).bind fun r3=>
   bif r3.1 != 0 then
    chk (decide (((M.length)+1)*16≤140737488355328)&&decide ((M.length)+1≤maxLen)) <|
    again (A,B,C,w64 (D+1),E,F,G,H,I,J,K,L,M++[(D,r3.1)],())
   else
    (kX ((E,F,G,H,I,J),K,L,M,()) D).bind fun r4=>
    again (A,B,C,w64 (D+1),r4.1.1.1,r4.1.1.2.1,r4.1.1.2.2.1,r4.1.1.2.2.2.1,r4.1.1.2.2.2.2.1,r4.1.1.2.2.2.2.2,r4.1.2.1,r4.1.2.2.1,r4.1.2.2.2.1,())
 else
  some (.inr (E,F,G,H,I,J,K,L,M,()))
def Tx (a0:aj) (a1:List aa) (a2:Int):Option ((aj×(List aa)×(List ak)×(List ah)×Unit)×Unit):=
 aH (
  iter (X:=DC) (β:=HN) (a1.length+(a2.natAbs+(a0.2.2.2.2.2.length+(Int.natAbs ((a0.2.2.2.2.2.length:Int))+(Int.natAbs (0:Int)+(a0.1.length+(a0.2.1.length+(a0.2.2.1.length+(a0.2.2.2.1.natAbs+(a0.2.2.2.2.1.natAbs+(a0.2.2.2.2.2.length+(a1.length+(List.length ([]:List ak)+(List.length ([]:List ah)+2)))))))))))))) (a1,a2,a0.2.2.2.2.2,(a0.2.2.2.2.2.length:Int),0,a0.1,a0.2.1,a0.2.2.1,a0.2.2.2.1,a0.2.2.2.2.1,a0.2.2.2.2.2,a1,[],[],()) (HM)) fun (A,B,C,D,E,F,G,H,I,J,K,_)=>
 aH (
  iter (X:=HP) (β:=HO) (B.natAbs+(A.length+(Int.natAbs ((A.length:Int))+(Int.natAbs (0:Int)+(C.length+(D.length+(E.length+(F.natAbs+(G.natAbs+(H.length+(I.length+(J.length+(K.length+2))))))))))))) (B,A,(A.length:Int),0,C,D,E,F,G,H,I,J,K,()) (DB)) fun (L,M,N,O,P,Q,R,S,T,_)=>
 some (((L,M,N,O,P,Q),R,S,T,()),())
end Go.Md
namespace Go.Md
open Go.Dn
abbrev o8 (l:List aT) (i:Int) (v:List aT):=SQ 144 l i v
abbrev aU:Ty:=(.st (.pair .str .str))
abbrev bO:Type:=Bys×Bys
abbrev cu:Ty:=(.st (.pair .str (.pair .str ax)))
abbrev aJ:Type:=Bys×Bys×ah
def HK (a0:aj) (a1:List aa) (a2:Int):Option (Int×Unit):=
 (Tt a0 a1).bind fun r1=>
 bif r1.1 != 0 then
  some (r1.1,())
 else
  (zf a2).bind fun r2=>
  bif !r2.1 then
   some (1,())
  else
   some (0,())
abbrev nj:Type:=(List aT)×(List ak)×Int×Int×Unit
abbrev q7:Type:=(((List aT)×Unit) ⊕ ((List aT)×Unit))
def qZ (x1:nj) (again:nj→Option q7):Option q7:=
 match x1 with
 | (A,B,C,D,_)=>
 bif decide (D<C) then
  (idx B D).bind fun y2=>
  chk (decide (((A.length)+1)*144≤140737488355328)&&decide ((A.length)+1≤maxLen)) <|
  again (A++[y2.1],B,C,w64 (D+1),())
 else
  some (.inr (A,()))
def wZ (a0:dU):Option ((List aT)×Unit):=
 aH (
  iter (X:=nj) (β:=q7) (List.length ([]:List aT)+(a0.2.2.1.length+(Int.natAbs ((a0.2.2.1.length:Int))+(Int.natAbs (0:Int)+2)))) ([],a0.2.2.1,(a0.2.2.1.length:Int),0,()) (qZ)) fun v3=>
 some (v3.1,())
def ep (a0:Option Nat) (a1:Option Nat) (a2:List an):Option (Int×Unit):=
 (a0).bind fun h1=>
 (a2[h1]?).bind fun y2=>
 (a1).bind fun h3=>
 (a2[h3]?).bind fun y4=>
 some (w64 (y2.2.2.2.2.2.2.2.2.1 - y4.2.2.2.2.2.2.2.2.1),())
abbrev dI:Type:=Int×Int×Unit×Int×Int×(List (Option Nat))×(List an)×Unit
abbrev dF:Type:=((((List (Option Nat))×Unit) ⊕ ((List (Option Nat))×(List an)×Unit)) ⊕ (Int×Int×Unit×Int×(List (Option Nat))×(List an)×Unit))
def dB (x1:dI) (again:dI→Option dF):Option dF:=
 match x1 with
 | (A,B,C,D,E,F,G,_)=>
 bif decide (E>A) then
  chk (decide (0≤E)&&decide (E<(F.length:Int))) <|
  (F[E.toNat]?).bind fun y2=>
  chk (decide (0≤(w64 (E - 1)))&&decide ((w64 (E - 1))<(F.length:Int))) <|
  (F[(w64 (E - 1)).toNat]?).bind fun y3=>
  (ep y2 y3 G).bind fun r4=>
  bif decide (r4.1<0) then
   chk (decide (0≤(w64 (E - 1)))&&decide ((w64 (E - 1))<(F.length:Int))) <|
   (F[(w64 (E - 1)).toNat]?).bind fun y5=>
   chk (decide (0≤E)&&decide (E<(F.length:Int))) <|
   (F[E.toNat]?).bind fun y6=>
   chk (decide (0≤E)&&decide (E<(F.length:Int))) <|
   (F[E.toNat]?).bind fun _=>
   chk (decide (0≤(w64 (E - 1)))&&decide ((w64 (E - 1))<(List.length (List.set F E.toNat y5):Int))) <|
   ((List.set F E.toNat y5)[(w64 (E - 1)).toNat]?).bind fun _=>
   again (A,B,C,D,w64 (E - 1),List.set (List.set F E.toNat y5) (w64 (E - 1)).toNat y6,G,())
  else
   some (.inr (A,B,C,D,F,G,()))
 else
  some (.inr (A,B,C,D,F,G,()))
abbrev dH:Type:=Int×Int×Unit×Int×(List (Option Nat))×(List an)×Unit
abbrev dD:Type:=(((List (Option Nat))×Unit) ⊕ ((List (Option Nat))×(List an)×Unit))
def cD (x1:dH) (again:dH→Option dD):Option dD:=
 match x1 with
 | (A,B,C,D,E,F,_)=>
 bif decide (D<B) then
  aH (
   iter (X:=dI) (β:=dF) (A.natAbs+(B.natAbs+(D.natAbs+(D.natAbs+(E.length+2))))) (A,B,C,D,D,E,F,()) (dB)) fun (G,H,I,J,K,L,_)=>
  again (G,H,I,w64 (J+1),K,L,())
 else
  some (.inr (E,F,()))
def cP (a0:List (Option Nat)) (a1:Int) (a2:Int) (a3:Unit) (a4:List an):Option ((List (Option Nat))×Unit):=
 aH (
  iter (X:=dH) (β:=dD) (a1.natAbs+(a2.natAbs+(Int.natAbs (w64 (a1+1))+(a0.length+2)))) (a1,a2,a3,w64 (a1+1),a0,a4,()) (cD)) fun v11=>
 some (v11.1,())
abbrev ez:Type:=Int×Int×Int×Int×(List (Option Nat))×(List an)×Unit
abbrev ew:Type:=(((List (Option Nat))×Unit) ⊕ ((List (Option Nat))×(List an)×Unit))
def er (x1:ez) (again:ez→Option ew):Option ew:=
 match x1 with
 | (A,B,C,D,E,F,_)=>
 bif decide (D<C) then
  chk (decide (0≤(w64 (B+D)))&&decide ((w64 (B+D))<(E.length:Int))) <|
  (E[(w64 (B+D)).toNat]?).bind fun y2=>
  chk (decide (0≤(w64 (A+D)))&&decide ((w64 (A+D))<(E.length:Int))) <|
  (E[(w64 (A+D)).toNat]?).bind fun y3=>
  chk (decide (0≤(w64 (A+D)))&&decide ((w64 (A+D))<(E.length:Int))) <|
  (E[(w64 (A+D)).toNat]?).bind fun _=>
  chk (decide (0≤(w64 (B+D)))&&decide ((w64 (B+D))<(List.length (List.set E (w64 (A+D)).toNat y2):Int))) <|
  ((List.set E (w64 (A+D)).toNat y2)[(w64 (B+D)).toNat]?).bind fun _=>
  again (A,B,C,w64 (D+1),List.set (List.set E (w64 (A+D)).toNat y2) (w64 (B+D)).toNat y3,F,())
 else
  some (.inr (E,F,()))
def cI (a0:List (Option Nat)) (a1:Int) (a2:Int) (a3:Int) (_a4:Unit) (a5:List an):Option ((List (Option Nat))×Unit):=
 aH (
  iter (X:=ez) (β:=ew) (a1.natAbs+(a2.natAbs+(a3.natAbs+(Int.natAbs (0:Int)+(a0.length+2))))) (a1,a2,a3,0,a0,a5,()) (er)) fun v6=>
 some (v6.1,())
abbrev fG:Type:=Int×Unit×Int×Int×(List (Option Nat))×(List an)×Unit
abbrev fF:Type:=(((List (Option Nat))×Unit) ⊕ (Int×Unit×Int×(List (Option Nat))×(List an)×Unit))
def fE (x1:fG) (again:fG→Option fF):Option fF:=
 match x1 with
 | (A,B,C,D,E,F,_)=>
 bif C != D then
  bif decide (C>D) then
   (cI E (w64 (A - C)) A D B F).bind fun r2=>
   again (A,B,w64 (C - D),D,r2.1,F,())
  else
   (cI E (w64 (A - C)) (w64 ((w64 (A+D)) - C)) C B F).bind fun r3=>
   again (A,B,C,w64 (D - C),r3.1,F,())
 else
  some (.inr (A,B,C,E,F,()))
def gh (a0:List (Option Nat)) (a1:Int) (a2:Int) (a3:Int) (a4:Unit) (a5:List an):Option ((List (Option Nat))×Unit):=
 aH (
  iter (X:=fG) (β:=fF) (a2.natAbs+(Int.natAbs (w64 (a2 - a1))+(Int.natAbs (w64 (a3 - a2))+(a0.length+2)))) (a2,a4,w64 (a2 - a1),w64 (a3 - a2),a0,a5,()) (fE)) fun (A,B,C,D,E,_)=>
 (cI D (w64 (A - C)) A C B E).bind fun r5=>
 some (r5.1,())
abbrev eZ:Type:=Int×Unit×Int×Int×(List (Option Nat))×(List an)×Unit
abbrev eX:Type:=(((List (Option Nat))×Unit) ⊕ (Int×Int×(List (Option Nat))×(List an)×Unit))
def c9 (x1:eZ) (again:eZ→Option eX):Option eX:=
 match x1 with
 | (A,B,C,D,E,F,_)=>
 bif decide (C<D) then
  let n2:Int:=w64 (Int.fdiv (cc (w64 (C+D))) (2 ^ 1))
  chk (decide (0≤n2)&&decide (n2<(E.length:Int))) <|
  (E[n2.toNat]?).bind fun y3=>
  chk (decide (0≤A)&&decide (A<(E.length:Int))) <|
  (E[A.toNat]?).bind fun y4=>
  (ep y3 y4 F).bind fun r5=>
  bif decide (r5.1<0) then
   again (A,B,w64 (n2+1),D,E,F,())
  else
   again (A,B,C,n2,E,F,())
 else
  some (.inr (A,C,E,F,()))
abbrev fe:Type:=Int×Int×(List (Option Nat))×(List an)×Unit
abbrev eY:Type:=(((List (Option Nat))×Unit) ⊕ ((List (Option Nat))×(List an)×Unit))
def eW (x1:fe) (again:fe→Option eY):Option eY:=
 match x1 with
 | (A,B,C,D,_)=>
 bif decide (B<(w64 (A - 1))) then
  chk (decide (0≤(w64 (B+1)))&&decide ((w64 (B+1))<(C.length:Int))) <|
  (C[(w64 (B+1)).toNat]?).bind fun y2=>
  chk (decide (0≤B)&&decide (B<(C.length:Int))) <|
  (C[B.toNat]?).bind fun y3=>
  chk (decide (0≤B)&&decide (B<(C.length:Int))) <|
  (C[B.toNat]?).bind fun _=>
  chk (decide (0≤(w64 (B+1)))&&decide ((w64 (B+1))<(List.length (List.set C B.toNat y2):Int))) <|
  ((List.set C B.toNat y2)[(w64 (B+1)).toNat]?).bind fun _=>
  again (A,w64 (B+1),List.set (List.set C B.toNat y2) (w64 (B+1)).toNat y3,D,())
 else
  some (.inr (C,D,()))
abbrev eF:Type:=Int×Unit×Int×Int×(List (Option Nat))×(List an)×Unit
abbrev eC:Type:=(((List (Option Nat))×Unit) ⊕ (Int×Int×(List (Option Nat))×(List an)×Unit))
def cV (x1:eF) (again:eF→Option eC):Option eC:=
 match x1 with
 | (A,B,C,D,E,F,_)=>
 bif decide (C<D) then
  let n2:Int:=w64 (Int.fdiv (cc (w64 (C+D))) (2 ^ 1))
  chk (decide (0≤A)&&decide (A<(E.length:Int))) <|
  (E[A.toNat]?).bind fun y3=>
  chk (decide (0≤n2)&&decide (n2<(E.length:Int))) <|
  (E[n2.toNat]?).bind fun y4=>
  (ep y3 y4 F).bind fun r5=>
  bif !(decide (r5.1<0)) then
   again (A,B,w64 (n2+1),D,E,F,())
  else
   again (A,B,C,n2,E,F,())
 else
  some (.inr (A,C,E,F,()))
abbrev eG:Type:=Int×Int×(List (Option Nat))×(List an)×Unit
abbrev eD:Type:=(((List (Option Nat))×Unit) ⊕ ((List (Option Nat))×(List an)×Unit))
def eA (x1:eG) (again:eG→Option eD):Option eD:=
 match x1 with
 | (A,B,C,D,_)=>
 bif decide (B>A) then
  chk (decide (0≤(w64 (B - 1)))&&decide ((w64 (B - 1))<(C.length:Int))) <|
  (C[(w64 (B - 1)).toNat]?).bind fun y2=>
  chk (decide (0≤B)&&decide (B<(C.length:Int))) <|
  (C[B.toNat]?).bind fun y3=>
  chk (decide (0≤B)&&decide (B<(C.length:Int))) <|
  (C[B.toNat]?).bind fun _=>
  chk (decide (0≤(w64 (B - 1)))&&decide ((w64 (B - 1))<(List.length (List.set C B.toNat y2):Int))) <|
  ((List.set C B.toNat y2)[(w64 (B - 1)).toNat]?).bind fun _=>
  again (A,w64 (B - 1),List.set (List.set C B.toNat y2) (w64 (B - 1)).toNat y3,D,())
 else
  some (.inr (C,D,()))
abbrev eH:Type:=Int×Int×Int×Unit×Int×Int×Int×Int×Int×(List (Option Nat))×(List an)×Unit
abbrev eE:Type:=(((List (Option Nat))×Unit) ⊕ (Int×Int×Int×Unit×Int×Int×Int×(List (Option Nat))×(List an)×Unit))
def cW (x1:eH) (again:eH→Option eE):Option eE:=
 match x1 with
 | (A,B,C,D,E,F,G,H,I,J,K,_)=>
 bif decide (G<H) then
  let n2:Int:=w64 (Int.fdiv (cc (w64 (G+H))) (2 ^ 1))
  chk (decide (0≤(w64 (I - n2)))&&decide ((w64 (I - n2))<(J.length:Int))) <|
  (J[(w64 (I - n2)).toNat]?).bind fun y3=>
  chk (decide (0≤n2)&&decide (n2<(J.length:Int))) <|
  (J[n2.toNat]?).bind fun y4=>
  (ep y3 y4 K).bind fun r5=>
  bif !(decide (r5.1<0)) then
   again (A,B,C,D,E,F,w64 (n2+1),H,I,J,K,())
  else
   again (A,B,C,D,E,F,G,n2,I,J,K,())
 else
  some (.inr (A,B,C,D,E,F,G,J,K,()))
def bY (self:((List (Option Nat))×Int×Int×Int×Unit×(List an)×Unit)→Option ((List (Option Nat))×Unit)) (a0:List (Option Nat)) (a1:Int) (a2:Int) (a3:Int) (a4:Unit) (a5:List an):Option ((List (Option Nat))×Unit):=
 bif (w64 (a2 - a1))==1 then
  aH (
   iter (X:=eZ) (β:=eX) (a1.natAbs+(a2.natAbs+(a3.natAbs+(a0.length+2)))) (a1,a4,a2,a3,a0,a5,()) (c9)) fun (A,B,C,D,_)=>
  aH (
   iter (X:=fe) (β:=eY) (B.natAbs+(A.natAbs+(C.length+2))) (B,A,C,D,()) (eW)) fun v12=>
  some (v12.1,())
 else
  bif (w64 (a3 - a2))==1 then
   aH (
    iter (X:=eF) (β:=eC) (a2.natAbs+(a1.natAbs+(a2.natAbs+(a0.length+2)))) (a2,a4,a1,a2,a0,a5,()) (cV)) fun (F,G,H,I,_)=>
   aH (
    iter (X:=eG) (β:=eD) (G.natAbs+(F.natAbs+(H.length+2))) (G,F,H,I,()) (eA)) fun v24=>
   some (v24.1,())
  else
   let n25:Int:=w64 (Int.fdiv (cc (w64 (a1+a3))) (2 ^ 1))
   aH (γ:=(Int×Int×Int×Unit×Int×Int×Int×Int×(List (Option Nat))×(List an)×Unit)) (
    bif decide (a2>n25) then
     some (.inr (a1,a2,a3,a4,n25,w64 (n25+a2),w64 ((w64 (n25+a2)) - a3),n25,a0,a5,()))
    else
     some (.inr (a1,a2,a3,a4,n25,w64 (n25+a2),a1,a2,a0,a5,()))) fun (K,L,M,N,O,P,Q,R,S,T,_)=>
   aH (
    iter (X:=eH) (β:=eE) (K.natAbs+(L.natAbs+(M.natAbs+(O.natAbs+(P.natAbs+(Q.natAbs+(R.natAbs+(Int.natAbs (w64 (P - 1))+(S.length+2))))))))) (K,L,M,N,O,P,Q,R,w64 (P - 1),S,T,()) (cW)) fun (U,V,W,Y,Z,A0,B0,C0,D0,_)=>
   bif decide (B0<V) then
    aH (γ:=(Int×Int×Unit×Int×Int×Int×(List (Option Nat))×(List an)×Unit)) (
     bif decide (V<(w64 (A0 - B0))) then
      (gh C0 B0 V (w64 (A0 - B0)) Y D0).bind fun r33=>
      some (.inr (U,W,Y,Z,B0,w64 (A0 - B0),r33.1,D0,()))
     else
      some (.inr (U,W,Y,Z,B0,w64 (A0 - B0),C0,D0,()))) fun (E0,F0,G0,H0,I0,J0,K0,L0,_)=>
    bif decide (E0<I0) then
     aH (γ:=(Int×Unit×Int×Int×(List (Option Nat))×(List an)×Unit)) (
      bif decide (I0<H0) then
       (self (K0,E0,I0,H0,G0,L0,())).bind fun r35=>
       some (.inr (F0,G0,H0,J0,r35.1,L0,()))
      else
       some (.inr (F0,G0,H0,J0,K0,L0,()))) fun (M0,N0,O0,P0,Q0,R0,_)=>
     bif decide (O0<P0) then
      bif decide (P0<M0) then
       (self (Q0,O0,P0,M0,N0,R0,())).bind fun r37=>
       some (r37.1,())
      else
       some (Q0,())
     else
      some (Q0,())
    else
     aH (γ:=(Int×Unit×Int×Int×(List (Option Nat))×(List an)×Unit)) (
      some (.inr (F0,G0,H0,J0,K0,L0,()))) fun (S0,T0,U0,V0,W0,X0,_)=>
     bif decide (U0<V0) then
      bif decide (V0<S0) then
       (self (W0,U0,V0,S0,T0,X0,())).bind fun r39=>
       some (r39.1,())
      else
       some (W0,())
     else
      some (W0,())
   else
    aH (γ:=(Int×Int×Unit×Int×Int×Int×(List (Option Nat))×(List an)×Unit)) (
     some (.inr (U,W,Y,Z,B0,w64 (A0 - B0),C0,D0,()))) fun (Y0,Z0,A1,B1,C1,D1,E1,F1,_)=>
    bif decide (Y0<C1) then
     aH (γ:=(Int×Unit×Int×Int×(List (Option Nat))×(List an)×Unit)) (
      bif decide (C1<B1) then
       (self (E1,Y0,C1,B1,A1,F1,())).bind fun r41=>
       some (.inr (Z0,A1,B1,D1,r41.1,F1,()))
      else
       some (.inr (Z0,A1,B1,D1,E1,F1,()))) fun (G1,H1,I1,J1,K1,L1,_)=>
     bif decide (I1<J1) then
      bif decide (J1<G1) then
       (self (K1,I1,J1,G1,H1,L1,())).bind fun r43=>
       some (r43.1,())
      else
       some (K1,())
     else
      some (K1,())
    else
     aH (γ:=(Int×Unit×Int×Int×(List (Option Nat))×(List an)×Unit)) (
      some (.inr (Z0,A1,B1,D1,E1,F1,()))) fun (M1,N1,O1,P1,Q1,R1,_)=>
     bif decide (O1<P1) then
      bif decide (P1<M1) then
       (self (Q1,O1,P1,M1,N1,R1,())).bind fun r45=>
       some (r45.1,())
      else
       some (Q1,())
     else
      some (Q1,())
def gp (a0:List (Option Nat)) (a1:Int) (a2:Int) (a3:Int) (_a4:Unit) (_a5:List an):Nat:=a0.length+(a1.natAbs+(a2.natAbs+(a3.natAbs+2)))
def dO (a0:List (Option Nat)) (a1:Int) (a2:Int) (a3:Int) (a4:Unit) (a5:List an):Option ((List (Option Nat))×Unit):=
 Gu (fun self x=>bY self x.1 x.2.1 x.2.2.1 x.2.2.2.1 x.2.2.2.2.1 x.2.2.2.2.2.1) (gp a0 a1 a2 a3 a4 a5) (a0,a1,a2,a3,a4,a5,())
abbrev fN:Type:=Int×Unit×Int×Int×Int×(List (Option Nat))×(List an)×Unit
abbrev fK:Type:=(((List (Option Nat))×Unit) ⊕ (Int×Unit×Int×Int×(List (Option Nat))×(List an)×Unit))
def fH (x1:fN) (again:fN→Option fK):Option fK:=
 match x1 with
 | (A,B,C,D,E,F,G,_)=>
 bif decide (E≤A) then
  (cP F D E B G).bind fun r2=>
  again (A,B,C,E,w64 (E+C),r2.1,G,())
 else
  some (.inr (A,B,C,D,F,G,()))
abbrev fP:Type:=Int×Unit×Int×Int×Int×(List (Option Nat))×(List an)×Unit
abbrev fM:Type:=((((List (Option Nat))×Unit) ⊕ ((List (Option Nat))×(List an)×Unit)) ⊕ (Int×Unit×Int×Int×(List (Option Nat))×(List an)×Unit))
def fJ (x1:fP) (again:fP→Option fM):Option fM:=
 match x1 with
 | (A,B,C,D,E,F,G,_)=>
 bif decide (E≤A) then
  (dO F D (w64 (D+C)) E B G).bind fun r2=>
  again (A,B,C,E,w64 (E+(w64 (2*C))),r2.1,G,())
 else
  some (.inr (A,B,C,D,F,G,()))
abbrev fO:Type:=Int×Unit×Int×(List (Option Nat))×(List an)×Unit
abbrev fL:Type:=(((List (Option Nat))×Unit) ⊕ ((List (Option Nat))×(List an)×Unit))
def fI (x1:fO) (again:fO→Option fL):Option fL:=
 match x1 with
 | (A,B,C,D,E,_)=>
 bif decide (C<A) then
  aH (
   iter (X:=fP) (β:=fM) (A.natAbs+(C.natAbs+(Int.natAbs (0:Int)+(Int.natAbs (w64 (2*C))+(D.length+2))))) (A,B,C,0,w64 (2*C),D,E,()) (fJ)) fun (F,G,H,I,J,K,_)=>
  bif decide ((w64 (I+H))<F) then
   (dO J I (w64 (I+H)) F G K).bind fun r3=>
   again (F,G,w64 (H*2),r3.1,K,())
  else
   again (F,G,w64 (H*2),J,K,())
 else
  some (.inr (D,E,()))
def jh (a0:List (Option Nat)) (a1:Int) (a2:Unit) (a3:List an):Option ((List (Option Nat))×Unit):=
 aH (
  iter (X:=fN) (β:=fK) (a1.natAbs+(Int.natAbs (20:Int)+(Int.natAbs (0:Int)+(Int.natAbs (20:Int)+(a0.length+2))))) (a1,a2,20,0,20,a0,a3,()) (fH)) fun (A,B,C,D,E,F,_)=>
 (cP E D A B F).bind fun r4=>
 aH (
  iter (X:=fO) (β:=fL) (A.natAbs+(C.natAbs+(r4.1.length+2))) (A,B,C,r4.1,F,()) (fI)) fun v10=>
 some (v10.1,())
def dW (a0:List (Option Nat)) (a1:Unit) (a2:List an):Option ((List (Option Nat))×Unit):=
 (jh a0 ((a0.length:Int)) a1 a2).bind fun r1=>
 some (r1.1,())
abbrev gE:Type:=Int×(List (Option Nat))×Int×Int×Bys×Bys×Bys×Int×Int×(List aK)×(List aa)×Int×(List ah)×(List ay)×(List (Option Nat))×(List (Int×(Option Nat)))×(List an)×Unit
abbrev jD:Type:=(((List (Option Nat))×(aj×(List aa)×(List (Int×(Option Nat)))×(List ah)×(List ay)×Int×Unit)×(List an)×Unit) ⊕ ((List (Option Nat))×Bys×Bys×Bys×Int×Int×(List aK)×(List aa)×Int×(List ah)×(List ay)×(List (Int×(Option Nat)))×(List an)×Unit))
def jC (x1:gE) (again:gE→Option jD):Option jD:=
 match x1 with
 | (A,B,C,D,E,F,G,H,I,J,K,L,M,N,O,P,Q,_)=>
 bif decide (D<C) then
  chk (decide (0≤D)&&decide (D<(O.length:Int))) <|
  (O[D.toNat]?).bind fun y2=>
  (
   Option.bind (iD y2 Q) fun r3=>
   bif decide (r3.1>0) then
    Option.bind (y2) fun h4=>
    Option.bind (Q[h4]?) fun y5=>
    some (decide (y5.2.2.2.2.2.2.2.2.1≤A),())
   else
    some (false,())).bind fun v6=>
  bif v6.1 then
   chk (decide (((B.length)+1)*8≤140737488355328)&&decide ((B.length)+1≤maxLen)) <|
   again (A,B++[y2],C,w64 (D+1),E,F,G,H,I,J,K,L,M,N,O,P,Q,())
  else
   again (A,B,C,w64 (D+1),E,F,G,H,I,J,K,L,M,N,O,P,Q,())
 else
  some (.inr (B,E,F,G,H,I,J,K,L,M,N,P,Q,()))
def lI (a0:aj×(List aa)×(List (Int×(Option Nat)))×(List ah)×(List ay)×Int×Unit) (a1:Int) (a2:List an):Option ((List (Option Nat))×(aj×(List aa)×(List (Int×(Option Nat)))×(List ah)×(List ay)×Int×Unit)×(List an)×Unit):=
 (mF (a0.1,a0.2.1,a0.2.2.1,a0.2.2.2.1,a0.2.2.2.2.1,a0.2.2.2.2.2.1,())).bind fun r1=>
 aH (
  iter (X:=gE) (β:=jD) (a1.natAbs+(List.length ([]:List (Option Nat))+(Int.natAbs ((r1.1.length:Int))+(Int.natAbs (0:Int)+(r1.2.1.1.1.length+(r1.2.1.1.2.1.length+(r1.2.1.1.2.2.1.length+(r1.2.1.1.2.2.2.1.natAbs+(r1.2.1.1.2.2.2.2.1.natAbs+(r1.2.1.1.2.2.2.2.2.length+(r1.2.1.2.1.length+(r1.2.1.2.2.2.2.2.1.natAbs+(r1.2.1.2.2.2.1.length+(r1.2.1.2.2.2.2.1.length+(r1.1.length+(r1.2.1.2.2.1.length+(a2.length+2))))))))))))))))) (a1,[],(r1.1.length:Int),0,r1.2.1.1.1,r1.2.1.1.2.1,r1.2.1.1.2.2.1,r1.2.1.1.2.2.2.1,r1.2.1.1.2.2.2.2.1,r1.2.1.1.2.2.2.2.2,r1.2.1.2.1,r1.2.1.2.2.2.2.2.1,r1.2.1.2.2.2.1,r1.2.1.2.2.2.2.1,r1.1,r1.2.1.2.2.1,a2,()) (jC)) fun (A,B,C,D,E,F,G,H,I,J,K,L,M,_)=>
 (dW A () M).bind fun r9=>
 some (r9.1,((B,C,D,E,F,G),H,L,J,K,I,()),M,())
abbrev wY:Type:=Int×(List aT)×Int×Int×Int×Int×Bys×Bys×Int×Int×Int×Int×Int×Int×Int×Int×Int×Int×Int×Int×Int×(List aT)×Unit
abbrev wX:Type:=((((List aT)×Unit) ⊕ ((List aT)×Unit)) ⊕ (Int×(List aT)×Int×Int×Int×Int×Bys×Bys×Int×Int×Int×Int×Int×Int×Int×Int×Int×Int×Int×Int×Int×(List aT)×Unit))
def rI (x1:wY) (again:wY→Option wX):Option wX:=
 match x1 with
 | (A,B,C,D,E,F,G,H,I,J,K,L,M,N,O,P,Q,R,S,T,U,V,_)=>
 (
  bif decide (C>0) then
   chk (decide (0≤(w64 (C - 1)))&&decide ((w64 (C - 1))<(B.length:Int))) <|
   Option.bind (B[(w64 (C - 1)).toNat]?) fun y2=>
   some (decide (M<y2.2.2.2.2.2.1),())
  else
   some (false,())).bind fun v3=>
 bif v3.1 then
  again (A,B,w64 (C - 1),D,E,F,G,H,I,J,K,L,M,N,O,P,Q,R,S,T,U,V,())
 else
  some (.inr (A,B,C,D,E,F,G,H,I,J,K,L,M,N,O,P,Q,R,S,T,U,V,()))
abbrev rJ:Type:=Int×(List aT)×Int×Int×(List aT)×Unit
abbrev wW:Type:=(((List aT)×Unit) ⊕ ((List aT)×Unit))
def wV (x1:rJ) (again:rJ→Option wW):Option wW:=
 match x1 with
 | (A,B,C,D,E,_)=>
 bif decide (D<C) then
  chk (decide (0≤D)&&decide (D<(E.length:Int))) <|
  (E[D.toNat]?).bind fun y2=>
  bif y2.2.2.2.2.2.2.2.2.2.1==0 then
   again (A,B,C,w64 (D+1),E,())
  else
   bif decide (y2.2.2.2.2.2.1>A) then
    again (A,B,C,w64 (D+1),E,())
   else
    aH (
     iter (X:=wY) (β:=wX) (A.natAbs+(B.length+(Int.natAbs ((B.length:Int))+(C.natAbs+(D.natAbs+(y2.1.natAbs+(y2.2.1.length+(y2.2.2.1.length+(y2.2.2.2.1.1.natAbs+(y2.2.2.2.1.2.natAbs+(y2.2.2.2.2.1.1.natAbs+(y2.2.2.2.2.1.2.natAbs+(y2.2.2.2.2.2.1.natAbs+(y2.2.2.2.2.2.2.1.1.natAbs+(y2.2.2.2.2.2.2.1.2.natAbs+(y2.2.2.2.2.2.2.2.1.1.natAbs+(y2.2.2.2.2.2.2.2.1.2.natAbs+(y2.2.2.2.2.2.2.2.2.1.1.natAbs+(y2.2.2.2.2.2.2.2.2.1.2.natAbs+(y2.2.2.2.2.2.2.2.2.2.1.natAbs+(y2.2.2.2.2.2.2.2.2.2.2.natAbs+(E.length+2)))))))))))))))))))))) (A,B,(B.length:Int),C,D,y2.1,y2.2.1,y2.2.2.1,y2.2.2.2.1.1,y2.2.2.2.1.2,y2.2.2.2.2.1.1,y2.2.2.2.2.1.2,y2.2.2.2.2.2.1,y2.2.2.2.2.2.2.1.1,y2.2.2.2.2.2.2.1.2,y2.2.2.2.2.2.2.2.1.1,y2.2.2.2.2.2.2.2.1.2,y2.2.2.2.2.2.2.2.2.1.1,y2.2.2.2.2.2.2.2.2.1.2,y2.2.2.2.2.2.2.2.2.2.1,y2.2.2.2.2.2.2.2.2.2.2,E,()) (rI)) fun (F,G,H,I,J,K,L,M,N,O,P,Q,R,S,T,U,V,W,Y,Z,A0,B0,_)=>
    (o8 G H [(K,L,M,(N,O),(P,Q),R,(S,T),(U,V),(W,Y),Z,A0)]).bind fun r4=>
    again (F,r4.1,I,w64 (J+1),B0,())
 else
  some (.inr (B,()))
def CB (a0:dU) (a1:Int):Option ((List aT)×Unit):=
 (wZ a0).bind fun r1=>
 aH (
  iter (X:=rJ) (β:=wW) (a1.natAbs+(List.length ([]:List aT)+(Int.natAbs ((r1.1.length:Int))+(Int.natAbs (0:Int)+(r1.1.length+2))))) (a1,[],(r1.1.length:Int),0,r1.1,()) (wV)) fun v9=>
 some (v9.1,())
abbrev gU:Type:=(List bL)×(List bL)×Int×Int×Unit
abbrev jV:Type:=((Bool×Unit) ⊕ Unit)
def jU (x1:gU) (again:gU→Option jV):Option jV:=
 match x1 with
 | (A,B,C,D,_)=>
 bif decide (D<C) then
  (idx A D).bind fun y2=>
  (idx B D).bind fun y3=>
  bif !((y2.1==y3.1)&&(((y2.2.1.1==y3.2.1.1)&&((y2.2.1.2==y3.2.1.2)&&true))&&((y2.2.2==y3.2.2)&&true))) then
   some (.inl (false,()))
  else
   again (A,B,C,w64 (D+1),())
 else
  some (.inr ())
def mJ (a0:List bL) (a1:List bL):Option (Bool×Unit):=
 bif ((a0.length:Int)) != ((a1.length:Int)) then
  some (false,())
 else
  aH (
   iter (X:=gU) (β:=jV) (a0.length+(a1.length+(Int.natAbs ((a0.length:Int))+(Int.natAbs (0:Int)+2)))) (a0,a1,(a0.length:Int),0,()) (jU)) fun _=>
  some (true,())
abbrev kO:Type:=(List aJ)×Int×Int×(List (bO×Bool))×Unit
abbrev kN:Type:=((Int×Unit) ⊕ Unit)
def iK (x1:kO) (again:kO→Option kN):Option kN:=
 bif decide (x1.2.2.1<x1.2.1) then
  (idx x1.1 x1.2.2.1).bind fun y2=>
  (fT y2.1).bind fun r3=>
  bif !r3.1 then
   some (.inl (5,()))
  else
   (fT y2.2.1).bind fun r4=>
   bif !r4.1 then
    some (.inl (5,()))
   else
    (iJ y2.2.2 true).bind fun r5=>
    bif r5.1 != 0 then
     some (.inl (r5.1,()))
    else
     bif Option.getD (α:=Bool) (bU (k:=aU) (v:= .bool) x1.2.2.2.1 (y2.1,y2.2.1)) false then
      some (.inl (7,()))
     else
      again (x1.1,x1.2.1,w64 (x1.2.2.1+1),kF (k:=aU) (v:= .bool) x1.2.2.2.1 (y2.1,y2.2.1) true,())
 else
  some (.inr ())
def ou (a0:List aJ):Option (Int×Unit):=
 bif decide (((a0.length:Int))>500) then
  some (2,())
 else
  aH (
   iter (X:=kO) (β:=kN) (a0.length+(Int.natAbs ((a0.length:Int))+(Int.natAbs (0:Int)+(List.length ([]:List (bO×Bool))+2)))) (a0,(a0.length:Int),0,[],()) (iK)) fun _=>
  some (0,())
abbrev pq:Type:=Int×(List aJ)×Int×Int×Bys×Bys×Bys×Int×Int×(List aK)×(List aa)×Int×(List ah)×(List ay)×(List (bO×Int))×(List (Int×(Option Nat)))×(List an)×Unit
abbrev yG:Type:=(((List bL)×Int×Unit) ⊕ (Int×Bys×Bys×Bys×Int×Int×(List aK)×(List aa)×Int×(List ah)×(List ay)×(List (bO×Int))×(List (Int×(Option Nat)))×(List an)×Unit))
def yF (x1:pq) (again:pq→Option yG):Option yG:=
 match x1 with
 | (A,B,C,D,E,F,G,H,I,J,K,L,M,N,O,P,Q,_)=>
 bif decide (D<C) then
  (idx B D).bind fun y2=>
  (ic y2.2.2).bind fun r3=>
  again (A,B,C,w64 (D+1),E,F,G,H,I,J,K,L,M,N,kF (k:=aU) (v:=tI) O (y2.1,y2.2.1) r3.1,P,Q,())
 else
  some (.inr (A,E,F,G,H,I,J,K,L,M,N,O,P,Q,()))
abbrev rz:Type:=(List bL)×Int×Int×(List (Option Nat))×(List (bO×Int))×(List an)×Unit
abbrev wO:Type:=(((List bL)×Int×Unit) ⊕ ((List bL)×(List an)×Unit))
def nT (x1:rz) (again:rz→Option wO):Option wO:=
 match x1 with
 | (A,B,C,D,E,F,_)=>
 bif decide (C<B) then
  chk (decide (0≤C)&&decide (C<(D.length:Int))) <|
  (D[C.toNat]?).bind fun y2=>
  (y2).bind fun h3=>
  (F[h3]?).bind fun y4=>
  (y2).bind fun h5=>
  (F[h5]?).bind fun y6=>
  (iD y2 F).bind fun r7=>
  bif decide ((if r7.1<(Option.getD (α:=Int) (bU (k:=aU) (v:=tI) E (y4.2.1,y6.2.2.1)) 0) then r7.1 else (Option.getD (α:=Int) (bU (k:=aU) (v:=tI) E (y4.2.1,y6.2.2.1)) 0))>0) then
   let n8:Int:=w64 ((Option.getD (α:=Int) (bU (k:=aU) (v:=tI) E (y4.2.1,y6.2.2.1)) 0) - (if r7.1<(Option.getD (α:=Int) (bU (k:=aU) (v:=tI) E (y4.2.1,y6.2.2.1)) 0) then r7.1 else (Option.getD (α:=Int) (bU (k:=aU) (v:=tI) E (y4.2.1,y6.2.2.1)) 0)))
   (y2).bind fun h9=>
   (F[h9]?).bind fun y10=>
   (nH (if r7.1<(Option.getD (α:=Int) (bU (k:=aU) (v:=tI) E (y4.2.1,y6.2.2.1)) 0) then r7.1 else (Option.getD (α:=Int) (bU (k:=aU) (v:=tI) E (y4.2.1,y6.2.2.1)) 0))).bind fun r11=>
   (y2).bind fun h12=>
   (F[h12]?).bind fun y13=>
   chk (decide (((A.length)+1)*32≤140737488355328)&&decide ((A.length)+1≤maxLen)) <|
   again (A++[(y10.1,r11.1,y13.2.2.2.2.2.2.2.2.1)],B,w64 (C+1),D,kF (k:=aU) (v:=tI) E (y4.2.1,y6.2.2.1) n8,F,())
  else
   again (A,B,w64 (C+1),D,E,F,())
 else
  some (.inr (A,F,()))
def EM (a0:aj) (a1:List aa) (a2:Int) (a3:List aJ):Option ((List bL)×Int×Unit):=
 abd (EN a0 a1 a2 []) (fun r1=>
  bif r1.2.1 != 0 then
   some ([],r1.2.1,())
  else
   (ou a3).bind fun r2=>
   bif r2.1 != 0 then
    some ([],r2.1,())
   else
    none) (
  (Lb a0 a1 a2 []).bind fun r3=>
  bif r3.2.1 != 0 then
   some ([],r3.2.1,())
  else
   (ou a3).bind fun r4=>
   bif r4.1 != 0 then
    some ([],r4.1,())
   else
    aH (
     iter (X:=pq) (β:=yG) (a2.natAbs+(a3.length+(Int.natAbs ((a3.length:Int))+(Int.natAbs (0:Int)+(r3.1.1.1.length+(r3.1.1.2.1.length+(r3.1.1.2.2.1.length+(r3.1.1.2.2.2.1.natAbs+(r3.1.1.2.2.2.2.1.natAbs+(r3.1.1.2.2.2.2.2.length+(r3.1.2.1.length+(r3.1.2.2.2.2.2.1.natAbs+(r3.1.2.2.2.1.length+(r3.1.2.2.2.2.1.length+(List.length ([]:List (bO×Int))+(r3.1.2.2.1.length+(r3.2.2.1.length+2))))))))))))))))) (a2,a3,(a3.length:Int),0,r3.1.1.1,r3.1.1.2.1,r3.1.1.2.2.1,r3.1.1.2.2.2.1,r3.1.1.2.2.2.2.1,r3.1.1.2.2.2.2.2,r3.1.2.1,r3.1.2.2.2.2.2.1,r3.1.2.2.2.1,r3.1.2.2.2.2.1,[],r3.1.2.2.1,r3.2.2.1,()) (yF)) fun (A,B,C,D,E,F,G,H,I,J,K,L,M,N,_)=>
    (lI ((B,C,D,E,F,G),H,M,J,K,I,()) A N).bind fun r9=>
    aH (
     iter (X:=rz) (β:=wO) (List.length ([]:List bL)+(Int.natAbs ((r9.1.length:Int))+(Int.natAbs (0:Int)+(r9.1.length+(L.length+(r9.2.2.1.length+2)))))) ([],(r9.1.length:Int),0,r9.1,L,r9.2.2.1,()) (nT)) fun v23=>
    some (v23.1,0,()))
def lM (a0:List aJ):Option ((List aJ)×Unit):=
 bif List.isEmpty a0 then
  both (
   some ([],())) (
   chk (decide ((0+(a0.length))*48≤140737488355328)&&decide (0+(a0.length)≤maxLen)) <|
   some (a0,()))
 else
  chk (decide ((0+(a0.length))*48≤140737488355328)&&decide (0+(a0.length)≤maxLen)) <|
  some (a0,())
abbrev x7:Type:=(List aa)×Int×(List aJ)×(List aJ)×Int×Int×(List aJ)×Int×Int×Bys×Bys×Bys×Int×Int×(List aK)×Bys×Bys×Int×Int×Unit
abbrev Cw:Type:=((((List bL)×Int×Unit) ⊕ ((List aa)×Int×(List aJ)×Bys×Bys×Bys×Int×Int×(List aK)×Unit)) ⊕ ((List aa)×Int×(List aJ)×(List aJ)×Int×Int×Bys×Bys×Bys×Int×Int×(List aK)×Unit))
def Cu (x1:x7) (again:x7→Option Cw):Option Cw:=
 match x1 with
 | (A,B,C,D,E,F,G,H,I,J,K,L,M,N,O,P,Q,R,S,_)=>
 bif decide (I<H) then
  (idx G I).bind fun y2=>
  (
   bif y2.1==P then
    some (y2.2.1==Q,())
   else
    some (false,())).bind fun v3=>
  bif v3.1 then
   KP <|
    some (.inl ([],7,()))
  else
   again (A,B,C,D,E,F,G,H,w64 (I+1),J,K,L,M,N,O,P,Q,R,S,())
 else
  some (.inr (A,B,C,D,E,F,J,K,L,M,N,O,()))
abbrev ES:Type:=(List aa)×Int×(List aJ)×(List aJ)×Int×Int×Bys×Bys×Bys×Int×Int×(List aK)×Unit
abbrev AP:Type:=(((List bL)×Int×Unit) ⊕ ((List aa)×Int×(List aJ)×Bys×Bys×Bys×Int×Int×(List aK)×Unit))
def AO (x1:ES) (again:ES→Option AP):Option AP:=
 match x1 with
 | (A,B,C,D,E,F,G,H,I,J,K,L,_)=>
 bif decide (F<E) then
  (idx D F).bind fun y2=>
  (kD y2.1).bind fun r3=>
  bif !r3.1 then
   some (.inl ([],5,()))
  else
   (kD y2.2.1).bind fun r4=>
   bif !r4.1 then
    some (.inl ([],5,()))
   else
    (kY y2.2.2 true).bind fun r5=>
    bif r5.1 != 0 then
     some (.inl ([],r5.1,()))
    else
     chk (decide (0≤(0:Int))&&decide ((0:Int)≤F)&&decide (F≤(C.length:Int))) <|
     aH (
      iter (X:=x7) (β:=Cw) (A.length+(B.natAbs+(C.length+(D.length+(E.natAbs+(F.natAbs+(List.length (List.drop 0 (List.take (Int.toNat F) C))+(Int.natAbs ((List.length (List.drop 0 (List.take (Int.toNat F) C)):Int))+(Int.natAbs (0:Int)+(G.length+(H.length+(I.length+(J.natAbs+(K.natAbs+(L.length+(y2.1.length+(y2.2.1.length+(y2.2.2.1.natAbs+(y2.2.2.2.natAbs+2))))))))))))))))))) (A,B,C,D,E,F,List.drop 0 (List.take (Int.toNat F) C),(List.length (List.drop 0 (List.take (Int.toNat F) C)):Int),0,G,H,I,J,K,L,y2.1,y2.2.1,y2.2.2.1,y2.2.2.2,()) (Cu)) fun (M,N,O,P,Q,R,S,T,U,V,W,Y,_)=>
     again (M,N,O,P,Q,w64 (R+1),S,T,U,V,W,Y,())
 else
  some (.inr (A,B,C,G,H,I,J,K,L,()))
abbrev x8:Type:=(List bL)×Int×Int×Int×Int×Int×Bys×Bys×Int×Int×Int×Int×Int×Int×Int×Int×Int×Int×Int×Int×Int×(List aJ)×(List aT)×Unit
abbrev Cz:Type:=((((List bL)×Int×Unit) ⊕ ((List bL)×Unit)) ⊕ ((List bL)×Int×Int×(List aJ)×(List aT)×Unit))
def Cv (x1:x8) (again:x8→Option Cz):Option Cz:=
 match x1 with
 | (A,B,C,D,E,F,G,H,I,J,K,L,M,N,O,P,Q,R,S,T,U,V,W,_)=>
 bif decide (E<D) then
  chk (decide (0≤E)&&decide (E<(V.length:Int))) <|
  (V[E.toNat]?).bind fun y2=>
  bif !(y2.1==G) then
   again (A,B,C,D,w64 (E+1),F,G,H,I,J,K,L,M,N,O,P,Q,R,S,T,U,V,W,())
  else
   bif !(y2.2.1==H) then
    again (A,B,C,D,w64 (E+1),F,G,H,I,J,K,L,M,N,O,P,Q,R,S,T,U,V,W,())
   else
    bif y2.2.2.1==0 then
     again (A,B,C,D,w64 (E+1),F,G,H,I,J,K,L,M,N,O,P,Q,R,S,T,U,V,W,())
    else
     (fZ y2.2.2).bind fun r3=>
     (tM r3.1 (T,U)).bind fun r4=>
     aH (γ:=((List bL)×Int×Int×Int×Int×Int×Int×Bys×Bys×Int×Int×Int×Int×Int×Int×Int×Int×Int×Int×Int×Int×Int×Bys×Bys×Int×Int×Int×Int×(List aJ)×(List aT)×Unit)) (
      bif decide (r4.1>0) then
       some (.inr (A,E,B,C,D,E,F,G,H,I,J,K,L,M,N,O,P,Q,R,S,T,U,y2.1,y2.2.1,y2.2.2.1,y2.2.2.2,T,U,V,W,()))
      else
       some (.inr (A,E,B,C,D,E,F,G,H,I,J,K,L,M,N,O,P,Q,R,S,T,U,y2.1,y2.2.1,y2.2.2.1,y2.2.2.2,r3.1.1,r3.1.2,V,W,()))) fun (X,Y,Z,A0,B0,C0,D0,E0,F0,G0,H0,I0,J0,K0,L0,M0,N0,O0,P0,Q0,R0,S0,_,_,T0,U0,V0,W0,X0,Y0,_)=>
     (zh (T0,U0) (V0,W0)).bind fun r6=>
     chk (decide (0≤Y)&&decide (Y<(X0.length:Int))) <|
     (X0[Y.toNat]?).bind fun y7=>
     chk (decide (((X.length)+1)*32≤140737488355328)&&decide ((X.length)+1≤maxLen)) <|
     again (X++[(D0,(V0,W0),K0)],Z,A0,B0,w64 (C0+1),D0,E0,F0,G0,H0,I0,J0,K0,L0,M0,N0,O0,P0,Q0,R0,S0,List.set X0 Y.toNat (y7.1,y7.2.1,r6.1),Y0,())
 else
  some (.inr (A,B,C,V,W,()))
abbrev CA:Type:=(List bL)×Int×Int×(List aJ)×(List aT)×Unit
abbrev Cy:Type:=(((List bL)×Int×Unit) ⊕ ((List bL)×Unit))
def x6 (x1:CA) (again:CA→Option Cy):Option Cy:=
 match x1 with
 | (A,B,C,D,E,_)=>
 bif decide (C<B) then
  chk (decide (0≤C)&&decide (C<(E.length:Int))) <|
  (E[C.toNat]?).bind fun y2=>
  aH (
   iter (X:=x8) (β:=Cz) (A.length+(B.natAbs+(C.natAbs+(Int.natAbs ((D.length:Int))+(Int.natAbs (0:Int)+(y2.1.natAbs+(y2.2.1.length+(y2.2.2.1.length+(y2.2.2.2.1.1.natAbs+(y2.2.2.2.1.2.natAbs+(y2.2.2.2.2.1.1.natAbs+(y2.2.2.2.2.1.2.natAbs+(y2.2.2.2.2.2.1.natAbs+(y2.2.2.2.2.2.2.1.1.natAbs+(y2.2.2.2.2.2.2.1.2.natAbs+(y2.2.2.2.2.2.2.2.1.1.natAbs+(y2.2.2.2.2.2.2.2.1.2.natAbs+(y2.2.2.2.2.2.2.2.2.1.1.natAbs+(y2.2.2.2.2.2.2.2.2.1.2.natAbs+(y2.2.2.2.2.2.2.2.2.2.1.natAbs+(y2.2.2.2.2.2.2.2.2.2.2.natAbs+(D.length+(E.length+2))))))))))))))))))))))) (A,B,C,(D.length:Int),0,y2.1,y2.2.1,y2.2.2.1,y2.2.2.2.1.1,y2.2.2.2.1.2,y2.2.2.2.2.1.1,y2.2.2.2.2.1.2,y2.2.2.2.2.2.1,y2.2.2.2.2.2.2.1.1,y2.2.2.2.2.2.2.1.2,y2.2.2.2.2.2.2.2.1.1,y2.2.2.2.2.2.2.2.1.2,y2.2.2.2.2.2.2.2.2.1.1,y2.2.2.2.2.2.2.2.2.1.2,y2.2.2.2.2.2.2.2.2.2.1,y2.2.2.2.2.2.2.2.2.2.2,D,E,()) (Cv)) fun (F,G,H,I,J,_)=>
  again (F,G,w64 (H+1),I,J,())
 else
  some (.inr (A,()))
def Pp (a0:aj) (a1:List aa) (a2:Int) (a3:List aJ):Option ((List bL)×Int×Unit):=
 (HK a0 a1 a2).bind fun r1=>
 bif r1.1 != 0 then
  some ([],r1.1,())
 else
  bif decide (((a3.length:Int))>500) then
   some ([],2,())
  else
   aH (
    iter (X:=ES) (β:=AP) (a1.length+(a2.natAbs+(a3.length+(a3.length+(Int.natAbs ((a3.length:Int))+(Int.natAbs (0:Int)+(a0.1.length+(a0.2.1.length+(a0.2.2.1.length+(a0.2.2.2.1.natAbs+(a0.2.2.2.2.1.natAbs+(a0.2.2.2.2.2.length+2)))))))))))) (a1,a2,a3,a3,(a3.length:Int),0,a0.1,a0.2.1,a0.2.2.1,a0.2.2.2.1,a0.2.2.2.2.1,a0.2.2.2.2.2,()) (AO)) fun (A,B,C,D,E,F,G,H,I,_)=>
   (lM C).bind fun r12=>
   (Tx (D,E,F,G,H,I) A B).bind fun r13=>
   (CB (r13.1.1,r13.1.2.1,r13.1.2.2.1,r13.1.2.2.2.1) B).bind fun r14=>
   aH (
    iter (X:=CA) (β:=Cy) (List.length ([]:List bL)+(Int.natAbs ((r14.1.length:Int))+(Int.natAbs (0:Int)+(r12.1.length+(r14.1.length+2))))) ([],(r14.1.length:Int),0,r12.1,r14.1,()) (x6)) fun v25=>
   some (v25.1,0,())
def lH (a0:aj) (a1:List aa) (a2:Int) (a3:List aJ):Option (Bool×Unit):=
 (EM a0 a1 a2 a3).bind fun r1=>
 (Pp a0 a1 a2 a3).bind fun r2=>
 (
  bif r1.2.1==r2.2.1 then
   Option.bind (mJ r1.1 r2.1) fun r3=>
   bif r3.1 then
    Option.bind (Rk) fun r4=>
    some (r4.1,())
   else
    some (false,())
  else
   some (false,())).bind fun v5=>
 some (v5.1,())
end Go.Md
end
