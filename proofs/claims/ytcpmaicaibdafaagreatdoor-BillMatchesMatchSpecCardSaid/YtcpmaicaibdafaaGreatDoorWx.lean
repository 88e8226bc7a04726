/-
  The plain models of the functions that the laws reach, fourth part. No condition.
-/
import Derived.Test.YtcpmaicaibdafaaGreatDoorWo
import Derived.Test.YtcpmaicaibdafaaGreatDoorWd
set_option linter.all false
noncomputable section
namespace Go.Md
open Go.Dn
abbrev slices_Sort_int (l:List Int):Option (List Int×Unit):=aeZ l
noncomputable section
abbrev bn:Ty:=(.st (.pair bz (.pair tI (.pair tI (.slice cI)))))
abbrev aq:Type:=ax×Int×Int×(List aI)
abbrev fW:Ty:=(.st (.pair aY (.pair (.slice ay) (.pair (.slice bn) (.slice cA)))))
abbrev eU:Type:=aj×(List aa)×(List aq)×(List ah)
abbrev gJ:Type:=(List (Option Nat))×Int×Int×Bys×Bys×Bys×Int×Int×(List aH)×(List aa)×Int×(List Int)×(List ah)×(List aI)×(List (Int×(Option Nat)))×Unit
abbrev jO:Type:=(((List (Option Nat))×(aj×(List aa)×(List (Int×(Option Nat)))×(List ah)×(List aI)×Int×Unit)×Unit) ⊕ ((List (Option Nat))×Bys×Bys×Bys×Int×Int×(List aH)×(List aa)×Int×(List ah)×(List aI)×(List (Int×(Option Nat)))×Unit))
def jN (x1:gJ) (again:gJ→Option jO):Option jO:=
 match x1 with
 | (A,B,C,D,E,F,G,H,I,J,K,L,M,N,O,_)=>
 bif decide (C<B) then
  chk (decide (0≤C)&&decide (C<(L.length:Int))) <|
  (L[C.toNat]?).bind fun y2=>
  chk (decide (((A.length)+1)*8≤140737488355328)&&decide ((A.length)+1≤maxLen)) <|
  again (A++[(Option.getD (α:=Option Nat) (b9 (k:=tI) (v:= .hnd) O y2) none)],B,w64 (C+1),D,E,F,G,H,I,J,K,L,M,N,O,())
 else
  some (.inr (A,D,E,F,G,H,I,J,K,M,N,O,()))
def mw (a0:aj×(List aa)×(List (Int×(Option Nat)))×(List ah)×(List aI)×Int×Unit):Option ((List (Option Nat))×(aj×(List aa)×(List (Int×(Option Nat)))×(List ah)×(List aI)×Int×Unit)×Unit):=
 chk (M3 a0.2.2.1) <|
 az (
  iter (X:=gJ) (β:=jO) (List.length ([]:List (Option Nat))+(Int.natAbs ((List.length (w9 a0.2.2.1):Int))+(Int.natAbs (0:Int)+(a0.1.1.length+(a0.1.2.1.length+(a0.1.2.2.1.length+(a0.1.2.2.2.1.natAbs+(a0.1.2.2.2.2.1.natAbs+(a0.1.2.2.2.2.2.length+(a0.2.1.length+(a0.2.2.2.2.2.1.natAbs+(List.length ((w9 a0.2.2.1):List Int)+(a0.2.2.2.1.length+(a0.2.2.2.2.1.length+(a0.2.2.1.length+2))))))))))))))) ([],(List.length (w9 a0.2.2.1):Int),0,a0.1.1,a0.1.2.1,a0.1.2.2.1,a0.1.2.2.2.1,a0.1.2.2.2.2.1,a0.1.2.2.2.2.2,a0.2.1,a0.2.2.2.2.2.1,w9 a0.2.2.1,a0.2.2.2.1,a0.2.2.2.2.1,a0.2.2.1,()) (jN)) fun (A,B,C,D,E,F,G,H,I,J,K,L,_)=>
 some (A,((B,C,D,E,F,G),H,L,J,K,I,()),())
abbrev nM:Type:=(List ax)×Int×Int×(List (Option Nat))×(List bg)×Unit
abbrev sN:Type:=(((List ax)×Int×Unit) ⊕ ((List ax)×(List bg)×Unit))
def sM (x1:nM) (again:nM→Option sN):Option sN:=
 match x1 with
 | (A,B,C,D,E,_)=>
 bif decide (C<B) then
  chk (decide (0≤C)&&decide (C<(D.length:Int))) <|
  (D[C.toNat]?).bind fun y2=>
  (kN y2 E).bind fun r3=>
  chk (decide (((A.length)+1)*144≤140737488355328)&&decide ((A.length)+1≤maxLen)) <|
  again (A++[r3.1],B,w64 (C+1),D,E,())
 else
  some (.inr (A,E,()))
def zg (a0:aj) (a1:List aa) (a2:Int):Option ((List ax)×Int×Unit):=
 KB (EJ a0 a1 a2 []) (fun r1=>
  bif r1.2.1 != 0 then
   some ([],r1.2.1,())
  else
   none) (
  (KD a0 a1 a2 []).bind fun r2=>
  bif r2.2.1 != 0 then
   some ([],r2.2.1,())
  else
   (mw (r2.1.1,r2.1.2.1,r2.1.2.2.1,r2.1.2.2.2.1,r2.1.2.2.2.2.1,r2.1.2.2.2.2.2.1,())).bind fun r3=>
   az (
    iter (X:=nM) (β:=sN) (List.length ([]:List ax)+(Int.natAbs ((r3.1.length:Int))+(Int.natAbs (0:Int)+(r3.1.length+(r2.2.2.1.length+2))))) ([],(r3.1.length:Int),0,r3.1,r2.2.2.1,()) (sM)) fun v7=>
   some (v7.1,0,()))
abbrev yG:Type:=Int×Int×Int×Unit
abbrev CR:Type:=((Int×Unit) ⊕ (Int×Unit))
def CQ (x1:yG) (again:yG→Option CR):Option CR:=
 bif decide (x1.2.2.1<x1.2.1) then
  again (w64 (x1.1*10),x1.2.1,w64 (x1.2.2.1+1),())
 else
  some (.inr (x1.1,()))
def qw (a0:ah):Option (Int×Unit):=
 az (
  iter (X:=yG) (β:=CR) (a0.1.natAbs+(Int.natAbs (w64 (3 - a0.2))+(Int.natAbs (0:Int)+2))) (a0.1,w64 (3 - a0.2),0,()) (CQ)) fun v2=>
 some (v2.1,())
def mC (a0:ah) (a1:ah):Option (ah×Unit):=
 (qw a0).bind fun r1=>
 (qw a1).bind fun r2=>
 (gM (w64 (r1.1+r2.1),3)).bind fun r3=>
 some (r3.1,())
def Gd (a0:ah) (a1:ah):Option (ah×Unit):=
 (mC a0 (w64 (0 - a1.1),a1.2)).bind fun r1=>
 some (r1.1,())
def Al (a0:ax):Option (ah×Unit):=
 (Gd a0.2.2.2.2.2.2.1 a0.2.2.2.2.2.2.2.2.1).bind fun r1=>
 some (r1.1,())
def qx (a0:ax):Option (ax×Unit):=
 (Al a0).bind fun r1=>
 (Gd a0.2.2.2.1 r1.1).bind fun r2=>
 bif decide (r2.1.1<0) then
  some ((a0.1,a0.2.1,a0.2.2.1,a0.2.2.2.1,a0.2.2.2.2.1,a0.2.2.2.2.2.1,a0.2.2.2.2.2.2.1,a0.2.2.2.2.2.2.2.1,a0.2.2.2.2.2.2.2.2.1,0,0),())
 else
  some ((a0.1,a0.2.1,a0.2.2.1,a0.2.2.2.1,a0.2.2.2.2.1,a0.2.2.2.2.2.1,a0.2.2.2.2.2.2.1,a0.2.2.2.2.2.2.2.1,a0.2.2.2.2.2.2.2.2.1,r2.1),())
def Bk (a0:aj) (a1:Int):Option (Int×Unit):=
 (idx a0.2.2.2.2.2 a1).bind fun y1=>
 (lT y1.1 1 99999).bind fun r2=>
 bif !r2.1 then
  some (1,())
 else
  (
   bif decide (a1>0) then
    Option.bind (idx a0.2.2.2.2.2 (w64 (a1 - 1))) fun y3=>
    some (decide (y1.1≤y3.1),())
   else
    some (false,())).bind fun v4=>
  bif v4.1 then
   some (8,())
  else
   (fJ y1.2.1).bind fun r5=>
   bif !r5.1 then
    some (5,())
   else
    (nT y1.2.2.1 false).bind fun r6=>
    bif r6.1 != 0 then
     some (1,())
    else
     (fJ y1.2.2.2.1).bind fun r7=>
     bif !r7.1 then
      some (5,())
     else
      (tW y1.2.2.2.2.1).bind fun r8=>
      bif r8.1 != 0 then
       some (1,())
      else
       (lT y1.2.2.2.2.2 a0.2.2.2.1 3652059).bind fun r9=>
       bif !r9.1 then
        some (1,())
       else
        some (0,())
abbrev qJ:Type:=Int×Int×Bys×Bys×Bys×Int×Int×(List aH)×Unit
abbrev ya:Type:=((Int×Unit) ⊕ Unit)
def qI (x1:qJ) (again:qJ→Option ya):Option ya:=
 match x1 with
 | (A,B,C,D,E,F,G,H,_)=>
 bif decide (B<A) then
  (Bk (C,D,E,F,G,H) B).bind fun r2=>
  bif r2.1 != 0 then
   some (.inl (r2.1,()))
  else
   again (A,w64 (B+1),C,D,E,F,G,H,())
 else
  some (.inr ())
def tV (a0:aj):Option (Int×Unit):=
 (fJ a0.1).bind fun r1=>
 bif !r1.1 then
  some (5,())
 else
  (fJ a0.2.1).bind fun r2=>
  bif !r2.1 then
   some (5,())
  else
   (fJ a0.2.2.1).bind fun r3=>
   bif !r3.1 then
    some (5,())
   else
    bif a0.2.1==a0.2.2.1 then
     some (12,())
    else
     (we a0.2.2.2.1).bind fun r4=>
     bif !r4.1 then
      some (1,())
     else
      (lT a0.2.2.2.2.1 0 1000).bind fun r5=>
      bif !r5.1 then
       some (1,())
      else
       bif ((a0.2.2.2.2.2.length:Int))==0 then
        some (9,())
       else
        bif decide (((a0.2.2.2.2.2.length:Int))>500) then
         some (2,())
        else
         az (
          iter (X:=qJ) (β:=ya) (Int.natAbs ((a0.2.2.2.2.2.length:Int))+(Int.natAbs (0:Int)+(a0.1.length+(a0.2.1.length+(a0.2.2.1.length+(a0.2.2.2.1.natAbs+(a0.2.2.2.2.1.natAbs+(a0.2.2.2.2.2.length+2)))))))) ((a0.2.2.2.2.2.length:Int),0,a0.1,a0.2.1,a0.2.2.1,a0.2.2.2.1,a0.2.2.2.2.1,a0.2.2.2.2.2,()) (qI)) fun _=>
         some (0,())
end
end Go.Md
namespace Go.Md
open Go.Dn
abbrev ir (l:List aq) (i:Int) (v:List aq):=VT 184 l i v
def Sg (a0:aj) (a1:List aa):Option (Int×Unit):=
 (tV a0).bind fun r1=>
 bif r1.1 != 0 then
  some (r1.1,())
 else
  (tU a1).bind fun r2=>
  some (r2.1,())
abbrev mR:Type:=Int×(List aq)×Int×Int×Unit
abbrev qN:Type:=((Int×Unit) ⊕ Unit)
def qM (x1:mR) (again:mR→Option qN):Option qN:=
 match x1 with
 | (A,B,C,D,_)=>
 bif decide (D<C) then
  (idx B D).bind fun y2=>
  bif y2.1.1==A then
   some (.inl (D,()))
  else
   again (A,B,C,w64 (D+1),())
 else
  some (.inr ())
def rM (a0:eU) (a1:Int):Option (Int×Unit):=
 az (
  iter (X:=mR) (β:=qN) (a1.natAbs+(a0.2.2.1.length+(Int.natAbs ((a0.2.2.1.length:Int))+(Int.natAbs (0:Int)+2)))) (a1,a0.2.2.1,(a0.2.2.1.length:Int),0,()) (qM)) fun _=>
 some ((-1),())
def Bj (a0:eU) (a1:ax):Option (Int×Unit):=
 (qw a1.2.2.2.1).bind fun r1=>
 let n2:Int:=w64 (r1.1+(w64 (Int.tdiv (w64 (r1.1*a0.1.2.2.2.2.1)) 1000)))
 some (n2,())
def uX (a0:eU) (a1:Int):Option (Int×Unit):=
 (idx a0.2.1 a1).bind fun y1=>
 (rM a0 y1.2.2.2.2.1).bind fun r2=>
 bif !((decide (r2.1<0))==(y1.2.2.2.1==1)) then
  bif decide (r2.1<0) then
   some (9,())
  else
   some (7,())
 else
  (
   bif decide (r2.1<0) then
    some (decide (((a0.2.2.1.length:Int))≥500),())
   else
    some (false,())).bind fun v3=>
  bif v3.1 then
   some (16,())
  else
   (
    Option.bind (Hu y1.2.2.2.1) fun r4=>
    bif r4.1.2.2.1 then
     some (decide (y1.2.2.2.2.2.2.2.2.2.1<a0.1.2.2.2.1),())
    else
     some (false,())).bind fun v5=>
   bif v5.1 then
    some (1,())
   else
    bif decide (r2.1<0) then
     some (0,())
    else
     (idx a0.2.2.1 r2.1).bind fun y6=>
     az (γ:=(eU×Int×Bool×Int×Int×Int×Int×Int×Bys×Int×Int×Bys×Int×Int×Int×Int×Int×Bys×Bys×Int×Int×Int×Int×Int×Int×Int×Int×Int×Int×Int×Int×Int×Int×Int×(List aI)×Int×Bys×Bys×Int×Int×Int×Int×Int×Int×Int×Int×Int×Int×Int×Int×Int×Unit)) (
      bif y1.2.2.2.1==2 then
       some (.inr (a0,y1.2.2.2.1,y1.2.2.2.1==2,y1.1,y1.2.1,y1.2.2.1,y1.2.2.2.1,y1.2.2.2.2.1,y1.2.2.2.2.2.1,y1.2.2.2.2.2.2.1.1,y1.2.2.2.2.2.2.1.2,y1.2.2.2.2.2.2.2.1,y1.2.2.2.2.2.2.2.2.1.1,y1.2.2.2.2.2.2.2.2.1.2,y1.2.2.2.2.2.2.2.2.2.1,y1.2.2.2.2.2.2.2.2.2.2,y6.1.1,y6.1.2.1,y6.1.2.2.1,y6.1.2.2.2.1.1,y6.1.2.2.2.1.2,y6.1.2.2.2.2.1.1,y6.1.2.2.2.2.1.2,y6.1.2.2.2.2.2.1,y6.1.2.2.2.2.2.2.1.1,y6.1.2.2.2.2.2.2.1.2,y6.1.2.2.2.2.2.2.2.1.1,y6.1.2.2.2.2.2.2.2.1.2,y6.1.2.2.2.2.2.2.2.2.1.1,y6.1.2.2.2.2.2.2.2.2.1.2,y6.1.2.2.2.2.2.2.2.2.2.1,y6.1.2.2.2.2.2.2.2.2.2.2,y6.2.1,y6.2.2.1,y6.2.2.2,y6.1.1,y6.1.2.1,y6.1.2.2.1,y6.1.2.2.2.1.1,y6.1.2.2.2.1.2,y6.1.2.2.2.2.1.1,y6.1.2.2.2.2.1.2,y6.1.2.2.2.2.2.1,y6.1.2.2.2.2.2.2.1.1,y6.1.2.2.2.2.2.2.1.2,y6.1.2.2.2.2.2.2.2.1.1,y6.1.2.2.2.2.2.2.2.1.2,y6.1.2.2.2.2.2.2.2.2.1.1,y6.1.2.2.2.2.2.2.2.2.1.2,y6.1.2.2.2.2.2.2.2.2.2.1,y6.1.2.2.2.2.2.2.2.2.2.2,()))
      else
       bif y1.2.2.2.1==3 then
        some (.inr (a0,y1.2.2.2.1,y1.2.2.2.1==3,y1.1,y1.2.1,y1.2.2.1,y1.2.2.2.1,y1.2.2.2.2.1,y1.2.2.2.2.2.1,y1.2.2.2.2.2.2.1.1,y1.2.2.2.2.2.2.1.2,y1.2.2.2.2.2.2.2.1,y1.2.2.2.2.2.2.2.2.1.1,y1.2.2.2.2.2.2.2.2.1.2,y1.2.2.2.2.2.2.2.2.2.1,y1.2.2.2.2.2.2.2.2.2.2,y6.1.1,y6.1.2.1,y6.1.2.2.1,y6.1.2.2.2.1.1,y6.1.2.2.2.1.2,y6.1.2.2.2.2.1.1,y6.1.2.2.2.2.1.2,y6.1.2.2.2.2.2.1,y6.1.2.2.2.2.2.2.1.1,y6.1.2.2.2.2.2.2.1.2,y6.1.2.2.2.2.2.2.2.1.1,y6.1.2.2.2.2.2.2.2.1.2,y6.1.2.2.2.2.2.2.2.2.1.1,y6.1.2.2.2.2.2.2.2.2.1.2,y6.1.2.2.2.2.2.2.2.2.2.1,y6.1.2.2.2.2.2.2.2.2.2.2,y6.2.1,y6.2.2.1,y6.2.2.2,y6.1.1,y6.1.2.1,y6.1.2.2.1,y6.1.2.2.2.1.1,y6.1.2.2.2.1.2,y6.1.2.2.2.2.1.1,y6.1.2.2.2.2.1.2,y6.1.2.2.2.2.2.1,y6.1.2.2.2.2.2.2.1.1,y6.1.2.2.2.2.2.2.1.2,y6.1.2.2.2.2.2.2.2.1.1,y6.1.2.2.2.2.2.2.2.1.2,y6.1.2.2.2.2.2.2.2.2.1.1,y6.1.2.2.2.2.2.2.2.2.1.2,y6.1.2.2.2.2.2.2.2.2.2.1,y6.1.2.2.2.2.2.2.2.2.2.2,()))
       else
        some (.inr (a0,y1.2.2.2.1,y1.2.2.2.1==4,y1.1,y1.2.1,y1.2.2.1,y1.2.2.2.1,y1.2.2.2.2.1,y1.2.2.2.2.2.1,y1.2.2.2.2.2.2.1.1,y1.2.2.2.2.2.2.1.2,y1.2.2.2.2.2.2.2.1,y1.2.2.2.2.2.2.2.2.1.1,y1.2.2.2.2.2.2.2.2.1.2,y1.2.2.2.2.2.2.2.2.2.1,y1.2.2.2.2.2.2.2.2.2.2,y6.1.1,y6.1.2.1,y6.1.2.2.1,y6.1.2.2.2.1.1,y6.1.2.2.2.1.2,y6.1.2.2.2.2.1.1,y6.1.2.2.2.2.1.2,y6.1.2.2.2.2.2.1,y6.1.2.2.2.2.2.2.1.1,y6.1.2.2.2.2.2.2.1.2,y6.1.2.2.2.2.2.2.2.1.1,y6.1.2.2.2.2.2.2.2.1.2,y6.1.2.2.2.2.2.2.2.2.1.1,y6.1.2.2.2.2.2.2.2.2.1.2,y6.1.2.2.2.2.2.2.2.2.2.1,y6.1.2.2.2.2.2.2.2.2.2.2,y6.2.1,y6.2.2.1,y6.2.2.2,y6.1.1,y6.1.2.1,y6.1.2.2.1,y6.1.2.2.2.1.1,y6.1.2.2.2.1.2,y6.1.2.2.2.2.1.1,y6.1.2.2.2.2.1.2,y6.1.2.2.2.2.2.1,y6.1.2.2.2.2.2.2.1.1,y6.1.2.2.2.2.2.2.1.2,y6.1.2.2.2.2.2.2.2.1.1,y6.1.2.2.2.2.2.2.2.1.2,y6.1.2.2.2.2.2.2.2.2.1.1,y6.1.2.2.2.2.2.2.2.2.1.2,y6.1.2.2.2.2.2.2.2.2.2.1,y6.1.2.2.2.2.2.2.2.2.2.2,()))) fun (A,B,C,D,E,F,G,H,I,J,K,L,M,N,O,P,Q,R,S,T,U,V,W,X,Y,Z,A0,B0,C0,D0,E0,F0,G0,H0,I0,J0,K0,L0,M0,N0,O0,P0,Q0,R0,S0,T0,U0,V0,W0,X0,Y0,_)=>
     bif C then
      bif decide (G0≥0) then
       some (11,())
      else
       some (0,())
     else
      az (γ:=(eU×Int×Bool×Int×Int×Int×Int×Int×Bys×Int×Int×Bys×Int×Int×Int×Int×Int×Bys×Bys×Int×Int×Int×Int×Int×Int×Int×Int×Int×Int×Int×Int×Int×Int×Int×(List aI)×Int×Bys×Bys×Int×Int×Int×Int×Int×Int×Int×Int×Int×Int×Int×Int×Int×Unit)) (
       bif B==5 then
        some (.inr (A,B,B==5,D,E,F,G,H,I,J,K,L,M,N,O,P,Q,R,S,T,U,V,W,X,Y,Z,A0,B0,C0,D0,E0,F0,G0,H0,I0,J0,K0,L0,M0,N0,O0,P0,Q0,R0,S0,T0,U0,V0,W0,X0,Y0,()))
       else
        some (.inr (A,B,B==6,D,E,F,G,H,I,J,K,L,M,N,O,P,Q,R,S,T,U,V,W,X,Y,Z,A0,B0,C0,D0,E0,F0,G0,H0,I0,J0,K0,L0,M0,N0,O0,P0,Q0,R0,S0,T0,U0,V0,W0,X0,Y0,()))) fun (Z0,A1,B1,_,_,_,C1,_,_,D1,E1,_,_,_,_,F1,_,_,_,_,_,_,_,_,_,_,_,_,_,_,_,_,G1,H1,_,I1,J1,K1,L1,M1,N1,O1,P1,Q1,R1,S1,T1,U1,V1,W1,X1,_)=>
      bif B1 then
       bif decide (G1<0) then
        some (5,())
       else
        (idx Z0.2.1 G1).bind fun y9=>
        bif y9.2.2.1 != F1 then
         some (5,())
        else
         (
          bif C1==5 then
           Option.bind (idx Z0.2.1 G1) fun y10=>
           bif y10.2.2.2.1==2 then
            Option.bind (idx Z0.2.1 G1) fun y11=>
            Option.bind (Al (I1,J1,K1,(L1,M1),(N1,O1),P1,(Q1,R1),(S1,T1),(U1,V1),W1,X1)) fun r12=>
            Option.bind (wg y11.2.2.2.2.2.2.1 r12.1) fun r13=>
            some (decide (r13.1<0),())
           else
            some (false,())
          else
           some (false,())).bind fun v14=>
         bif v14.1 then
          some (12,())
         else
          some (0,())
      else
       bif A1==7 then
        bif decide (G1≥0) then
         some (11,())
        else
         bif W1==0 then
          some (11,())
         else
          (wg (D1,E1) (W1,X1)).bind fun r15=>
          bif decide (r15.1>0) then
           some (12,())
          else
           some (0,())
       else
        bif A1==8 then
         bif decide (G1≥0) then
          some (11,())
         else
          bif decide (H1<0) then
           some (5,())
          else
           (idx Z0.2.1 H1).bind fun y16=>
           bif y16.2.2.1 != F1 then
            some (5,())
           else
            some (0,())
        else
         bif A1==9 then
          (Al (I1,J1,K1,(L1,M1),(N1,O1),P1,(Q1,R1),(S1,T1),(U1,V1),W1,X1)).bind fun r17=>
          (qw r17.1).bind fun r18=>
          (qw (D1,E1)).bind fun r19=>
          (Bj Z0 (I1,J1,K1,(L1,M1),(N1,O1),P1,(Q1,R1),(S1,T1),(U1,V1),W1,X1)).bind fun r20=>
          bif decide ((w64 (r18.1+r19.1))>r20.1) then
           some (12,())
          else
           (qw (Q1,R1)).bind fun r21=>
           (qw (D1,E1)).bind fun r22=>
           bif decide ((w64 (r21.1+r22.1))>1000000000000000) then
            some (16,())
           else
            some (0,())
         else
          bif A1==10 then
           (mC (S1,T1) (D1,E1)).bind fun r23=>
           (wg r23.1 (Q1,R1)).bind fun r24=>
           bif decide (r24.1>0) then
            some (12,())
           else
            some (0,())
          else
           bif A1==11 then
            (mC (U1,V1) (D1,E1)).bind fun r25=>
            (wg r25.1 (S1,T1)).bind fun r26=>
            bif decide (r26.1>0) then
             some (12,())
            else
             some (0,())
           else
            some (0,())
def kH {β:Type} (a0:(List aa)) (a1:(List aq)) (a2:Nat) (k:(List aq)→Option β):Option β:=
 (a1[a2]?).bind fun y1=>
 (idx a0 y1.2.1).bind fun y2=>
 bif y2.2.2.2.1==1 then
  bif y2.2.2.2.1==1 then
   (gM y2.2.2.2.2.2.2.1).bind fun r3=>
   (a1[a2]?).bind fun y4=>
   ((List.set a1 a2 ((y4.1.1,y4.1.2.1,y4.1.2.2.1,r3.1,y4.1.2.2.2.2),y4.2))[a2]?).bind fun y5=>
   k (List.set (List.set a1 a2 ((y4.1.1,y4.1.2.1,y4.1.2.2.1,r3.1,y4.1.2.2.2.2),y4.2)) a2 (y5.1,(-1),y5.2.2))
  else
   bif y2.2.2.2.1==3 then
    (a1[a2]?).bind fun y6=>
    ((List.set a1 a2 ((y6.1.1,y6.1.2.1,y6.1.2.2.1,y6.1.2.2.2.1,y6.1.2.2.2.2.1,y2.2.2.2.2.2.2.2.2.2.1,y6.1.2.2.2.2.2.2),y6.2))[a2]?).bind fun y7=>
    k (List.set (List.set a1 a2 ((y6.1.1,y6.1.2.1,y6.1.2.2.1,y6.1.2.2.2.1,y6.1.2.2.2.2.1,y2.2.2.2.2.2.2.2.2.2.1,y6.1.2.2.2.2.2.2),y6.2)) a2 (y7.1,(-1),y7.2.2))
   else
    bif y2.2.2.2.1==4 then
     (gM y2.2.2.2.2.2.2.2.2.1).bind fun r8=>
     (a1[a2]?).bind fun y9=>
     ((List.set a1 a2 ((y9.1.1,y9.1.2.1,y9.1.2.2.1,y9.1.2.2.2.1,r8.1,y9.1.2.2.2.2.2),y9.2))[a2]?).bind fun y10=>
     k (List.set (List.set a1 a2 ((y9.1.1,y9.1.2.1,y9.1.2.2.1,y9.1.2.2.2.1,r8.1,y9.1.2.2.2.2.2),y9.2)) a2 (y10.1,(-1),y10.2.2))
    else
     (a1[a2]?).bind fun y11=>
     k (List.set a1 a2 (y11.1,(-1),y11.2.2))
 else
  bif y2.2.2.2.1==2 then
   (gM y2.2.2.2.2.2.2.1).bind fun r12=>
   (a1[a2]?).bind fun y13=>
   ((List.set a1 a2 ((y13.1.1,y13.1.2.1,y13.1.2.2.1,r12.1,y13.1.2.2.2.2),y13.2))[a2]?).bind fun y14=>
   k (List.set (List.set a1 a2 ((y13.1.1,y13.1.2.1,y13.1.2.2.1,r12.1,y13.1.2.2.2.2),y13.2)) a2 (y14.1,(-1),y14.2.2))
  else
   bif y2.2.2.2.1==3 then
    (a1[a2]?).bind fun y15=>
    ((List.set a1 a2 ((y15.1.1,y15.1.2.1,y15.1.2.2.1,y15.1.2.2.2.1,y15.1.2.2.2.2.1,y2.2.2.2.2.2.2.2.2.2.1,y15.1.2.2.2.2.2.2),y15.2))[a2]?).bind fun y16=>
    k (List.set (List.set a1 a2 ((y15.1.1,y15.1.2.1,y15.1.2.2.1,y15.1.2.2.2.1,y15.1.2.2.2.2.1,y2.2.2.2.2.2.2.2.2.2.1,y15.1.2.2.2.2.2.2),y15.2)) a2 (y16.1,(-1),y16.2.2))
   else
    bif y2.2.2.2.1==4 then
     (gM y2.2.2.2.2.2.2.2.2.1).bind fun r17=>
     (a1[a2]?).bind fun y18=>
     ((List.set a1 a2 ((y18.1.1,y18.1.2.1,y18.1.2.2.1,y18.1.2.2.2.1,r17.1,y18.1.2.2.2.2.2),y18.2))[a2]?).bind fun y19=>
     k (List.set (List.set a1 a2 ((y18.1.1,y18.1.2.1,y18.1.2.2.1,y18.1.2.2.2.1,r17.1,y18.1.2.2.2.2.2),y18.2)) a2 (y19.1,(-1),y19.2.2))
    else
     (a1[a2]?).bind fun y20=>
     k (List.set a1 a2 (y20.1,(-1),y20.2.2))
def iq (a0:(List aa)) (a1:(List aq)) (a2:Nat):Option (List aq):=kH a0 a1 a2 some
theorem acj {α β:Type} (b:Bool) (x y:Option α) (k:α→Option β):(bif b then x else y).bind k=bif b then x.bind k else y.bind k:=by cases b<;>rfl
theorem Iu {β:Type} (l:List aa) (ql:List aq) (i:Nat) (k:List aq→Option β):kH l ql i k=(iq l ql i).bind k:=by
 unfold iq kH
 simp only[Option.bind_assoc,acj,ah4]
def iR (a0:List aI):Option ((List aI)×Unit):=
 bif List.isEmpty a0 then
  both (
   some ([],())) (
   chk (decide ((0+(a0.length))*152≤140737488355328)&&decide (0+(a0.length)≤maxLen)) <|
   some (a0,()))
 else
  chk (decide ((0+(a0.length))*152≤140737488355328)&&decide (0+(a0.length)≤maxLen)) <|
  some (a0,())
abbrev mQ:Type:=Int×Int×Int×Int×Int×Int×Int×Bys×Int×Int×Bys×Int×Int×Int×Int×Bys×Bys×Bys×Int×Int×(List aH)×(List aa)×(List aq)×(List ah)×Unit
abbrev qL:Type:=((((aj×(List aa)×(List aq)×(List ah)×Unit)×Unit) ⊕ (Int×Int×Int×Int×Int×Int×Int×Bys×Int×Int×Bys×Int×Int×Int×Int×Bys×Bys×Bys×Int×Int×(List aH)×(List aa)×(List aq)×(List ah)×Unit)) ⊕ (Int×Int×Int×Int×Int×Int×Int×Bys×Int×Int×Bys×Int×Int×Int×Int×Bys×Bys×Bys×Int×Int×(List aH)×(List aa)×(List aq)×(List ah)×Unit))
def qK (x1:mQ) (again:mQ→Option qL):Option qL:=
 match x1 with
 | (A,B,C,D,E,F,G,H,I,J,K,L,M,N,O,P,Q,R,S,T,U,V,W,X,_)=>
 (
  bif decide (B<((W.length:Int))) then
   chk (decide (0≤B)&&decide (B<(W.length:Int))) <|
   Option.bind (W[B.toNat]?) fun y2=>
   some (decide (y2.1.1<G),())
  else
   some (false,())).bind fun v3=>
 bif v3.1 then
  again (A,w64 (B+1),C,D,E,F,G,H,I,J,K,L,M,N,O,P,Q,R,S,T,U,V,W,X,())
 else
  some (.inr (A,B,C,D,E,F,G,H,I,J,K,L,M,N,O,P,Q,R,S,T,U,V,W,X,()))
def kP (a0:aj×(List aa)×(List aq)×(List ah)×Unit) (a1:Int):Option ((aj×(List aa)×(List aq)×(List ah)×Unit)×Unit):=
 (idx a0.2.1 a1).bind fun y1=>
 (rM (a0.1,a0.2.1,a0.2.2.1,a0.2.2.2.1) y1.2.2.2.2.1).bind fun r2=>
 az (γ:=(Int×Int×Int×Int×Int×Int×Int×Bys×Int×Int×Bys×Int×Int×Int×Int×Bys×Bys×Bys×Int×Int×(List aH)×(List aa)×(List aq)×(List ah)×Unit)) (
  bif decide (r2.1<0) then
   az (
    iter (X:=mQ) (β:=qL) (a1.natAbs+(Int.natAbs (0:Int)+(y1.1.natAbs+(y1.2.1.natAbs+(y1.2.2.1.natAbs+(y1.2.2.2.1.natAbs+(y1.2.2.2.2.1.natAbs+(y1.2.2.2.2.2.1.length+(y1.2.2.2.2.2.2.1.1.natAbs+(y1.2.2.2.2.2.2.1.2.natAbs+(y1.2.2.2.2.2.2.2.1.length+(y1.2.2.2.2.2.2.2.2.1.1.natAbs+(y1.2.2.2.2.2.2.2.2.1.2.natAbs+(y1.2.2.2.2.2.2.2.2.2.1.natAbs+(y1.2.2.2.2.2.2.2.2.2.2.natAbs+(a0.1.1.length+(a0.1.2.1.length+(a0.1.2.2.1.length+(a0.1.2.2.2.1.natAbs+(a0.1.2.2.2.2.1.natAbs+(a0.1.2.2.2.2.2.length+(a0.2.1.length+(a0.2.2.1.length+(a0.2.2.2.1.length+2)))))))))))))))))))))))) (a1,0,y1.1,y1.2.1,y1.2.2.1,y1.2.2.2.1,y1.2.2.2.2.1,y1.2.2.2.2.2.1,y1.2.2.2.2.2.2.1.1,y1.2.2.2.2.2.2.1.2,y1.2.2.2.2.2.2.2.1,y1.2.2.2.2.2.2.2.2.1.1,y1.2.2.2.2.2.2.2.2.1.2,y1.2.2.2.2.2.2.2.2.2.1,y1.2.2.2.2.2.2.2.2.2.2,a0.1.1,a0.1.2.1,a0.1.2.2.1,a0.1.2.2.2.1,a0.1.2.2.2.2.1,a0.1.2.2.2.2.2,a0.2.1,a0.2.2.1,a0.2.2.2.1,()) (qK)) fun (Z,A0,B0,C0,D0,E0,F0,G0,H0,I0,J0,K0,L0,M0,N0,O0,P0,Q0,R0,S0,T0,U0,V0,W0,_)=>
   (gM (K0,L0)).bind fun r7=>
   (ir V0 A0 [((F0,G0,J0,(0,0),r7.1,M0,(0,0),(0,0),(0,0),0,0),Z,(-1),[])]).bind fun r8=>
   some (.inr (Z,A0,B0,C0,D0,E0,F0,G0,H0,I0,J0,K0,L0,M0,N0,O0,P0,Q0,R0,S0,T0,U0,r8.1,W0,()))
  else
   some (.inr (a1,r2.1,y1.1,y1.2.1,y1.2.2.1,y1.2.2.2.1,y1.2.2.2.2.1,y1.2.2.2.2.2.1,y1.2.2.2.2.2.2.1.1,y1.2.2.2.2.2.2.1.2,y1.2.2.2.2.2.2.2.1,y1.2.2.2.2.2.2.2.2.1.1,y1.2.2.2.2.2.2.2.2.1.2,y1.2.2.2.2.2.2.2.2.2.1,y1.2.2.2.2.2.2.2.2.2.2,a0.1.1,a0.1.2.1,a0.1.2.2.1,a0.1.2.2.2.1,a0.1.2.2.2.2.1,a0.1.2.2.2.2.2,a0.2.1,a0.2.2.1,a0.2.2.2.1,()))) fun (A,B,C,D,E,F,G,H,I,J,K,L,M,N,O,P,Q,R,S,T,U,V,W,Y,_)=>
 chk (decide (0≤B)&&decide (B<(W.length:Int))) <|
 az (γ:=(Int×(Nat)×Int×Int×Int×Int×Int×Bys×Int×Int×Bys×Int×Int×Int×Int×Bys×Bys×Bys×Int×Int×(List aH)×(List aa)×(List aq)×(List ah)×Unit)) (
  bif D==2 then
   (W[B.toNat]?).bind fun y10=>
   some (.inr (A,B.toNat,C,D,E,F,G,H,I,J,K,L,M,N,O,P,Q,R,S,T,U,V,List.set W B.toNat (y10.1,y10.2.1,(-1),y10.2.2.2),Y,()))
  else
   some (.inr (A,B.toNat,C,D,E,F,G,H,I,J,K,L,M,N,O,P,Q,R,S,T,U,V,W,Y,()))) fun (X0,Y0,Z0,A1,B1,C1,D1,E1,F1,G1,H1,I1,J1,K1,L1,M1,N1,O1,P1,Q1,R1,S1,T1,U1,_)=>
 az (γ:=(Int×(Nat)×Int×Bool×Int×Int×Int×Int×Int×Bys×Int×Int×Bys×Int×Int×Int×Int×Bys×Bys×Bys×Int×Int×(List aH)×(List aa)×(List aq)×(List ah)×Unit)) (
  bif C1==2 then
   some (.inr (X0,Y0,C1,C1==2,Z0,A1,B1,C1,D1,E1,F1,G1,H1,I1,J1,K1,L1,M1,N1,O1,P1,Q1,R1,S1,T1,U1,()))
  else
   bif C1==3 then
    some (.inr (X0,Y0,C1,C1==3,Z0,A1,B1,C1,D1,E1,F1,G1,H1,I1,J1,K1,L1,M1,N1,O1,P1,Q1,R1,S1,T1,U1,()))
   else
    some (.inr (X0,Y0,C1,C1==4,Z0,A1,B1,C1,D1,E1,F1,G1,H1,I1,J1,K1,L1,M1,N1,O1,P1,Q1,R1,S1,T1,U1,()))) fun (V1,W1,X1,Y1,_,_,_,_,_,_,Z1,A2,_,_,_,_,_,B2,C2,D2,E2,F2,G2,H2,I2,J2,_)=>
 az (γ:=(Int×(Nat)×Bys×Bys×Bys×Int×Int×(List aH)×(List aa)×(List aq)×(List ah)×Unit)) (
  bif Y1 then
   (I2[W1]?).bind fun y13=>
   some (.inr (V1,W1,B2,C2,D2,E2,F2,G2,H2,List.set I2 W1 (y13.1,V1,y13.2.2),J2,()))
  else
   bif X1==5 then
    (iq H2 I2 W1).bind fun z14=>
    some (.inr (V1,W1,B2,C2,D2,E2,F2,G2,H2,z14,J2,()))
   else
    bif X1==6 then
     (I2[W1]?).bind fun y15=>
     some (.inr (V1,W1,B2,C2,D2,E2,F2,G2,H2,List.set I2 W1 (y15.1,(-1),y15.2.2),J2,()))
    else
     bif X1==7 then
      (I2[W1]?).bind fun y16=>
      some (.inr (V1,W1,B2,C2,D2,E2,F2,G2,H2,List.set I2 W1 (y16.1,y16.2.1,V1,y16.2.2.2),J2,()))
     else
      bif X1==8 then
       (I2[W1]?).bind fun y17=>
       (Al y17.1).bind fun r18=>
       (I2[W1]?).bind fun y19=>
       (idx H2 y19.2.2.1).bind fun y20=>
       (mC r18.1 y20.2.2.2.2.2.2.1).bind fun r21=>
       (I2[W1]?).bind fun y22=>
       (idx H2 y22.2.2.1).bind fun y23=>
       (I2[W1]?).bind fun y24=>
       ((List.set I2 W1 ((y24.1.1,y24.1.2.1,y24.1.2.2.1,r21.1,y24.1.2.2.2.2),y24.2))[W1]?).bind fun y25=>
       ((List.set (List.set I2 W1 ((y24.1.1,y24.1.2.1,y24.1.2.2.1,r21.1,y24.1.2.2.2.2),y24.2)) W1 ((y25.1.1,y25.1.2.1,y25.1.2.2.1,y25.1.2.2.2.1,y25.1.2.2.2.2.1,y23.2.2.2.2.2.2.2.2.2.1,y25.1.2.2.2.2.2.2),y25.2))[W1]?).bind fun y26=>
       some (.inr (V1,W1,B2,C2,D2,E2,F2,G2,H2,List.set (List.set (List.set I2 W1 ((y24.1.1,y24.1.2.1,y24.1.2.2.1,r21.1,y24.1.2.2.2.2),y24.2)) W1 ((y25.1.1,y25.1.2.1,y25.1.2.2.1,y25.1.2.2.2.1,y25.1.2.2.2.2.1,y23.2.2.2.2.2.2.2.2.2.1,y25.1.2.2.2.2.2.2),y25.2)) W1 (y26.1,y26.2.1,(-1),y26.2.2.2),J2,()))
      else
       bif X1==9 then
        (I2[W1]?).bind fun y27=>
        (mC y27.1.2.2.2.2.2.2.1 (Z1,A2)).bind fun r28=>
        (I2[W1]?).bind fun y29=>
        some (.inr (V1,W1,B2,C2,D2,E2,F2,G2,H2,List.set I2 W1 ((y29.1.1,y29.1.2.1,y29.1.2.2.1,y29.1.2.2.2.1,y29.1.2.2.2.2.1,y29.1.2.2.2.2.2.1,r28.1,y29.1.2.2.2.2.2.2.2),y29.2),J2,()))
       else
        bif X1==10 then
         (I2[W1]?).bind fun y30=>
         (mC y30.1.2.2.2.2.2.2.2.1 (Z1,A2)).bind fun r31=>
         (I2[W1]?).bind fun y32=>
         some (.inr (V1,W1,B2,C2,D2,E2,F2,G2,H2,List.set I2 W1 ((y32.1.1,y32.1.2.1,y32.1.2.2.1,y32.1.2.2.2.1,y32.1.2.2.2.2.1,y32.1.2.2.2.2.2.1,y32.1.2.2.2.2.2.2.1,r31.1,y32.1.2.2.2.2.2.2.2.2),y32.2),J2,()))
        else
         bif X1==11 then
          (I2[W1]?).bind fun y33=>
          (mC y33.1.2.2.2.2.2.2.2.2.1 (Z1,A2)).bind fun r34=>
          (I2[W1]?).bind fun y35=>
          some (.inr (V1,W1,B2,C2,D2,E2,F2,G2,H2,List.set I2 W1 ((y35.1.1,y35.1.2.1,y35.1.2.2.1,y35.1.2.2.2.1,y35.1.2.2.2.2.1,y35.1.2.2.2.2.2.1,y35.1.2.2.2.2.2.2.1,y35.1.2.2.2.2.2.2.2.1,r34.1,y35.1.2.2.2.2.2.2.2.2.2),y35.2),J2,()))
         else
          some (.inr (V1,W1,B2,C2,D2,E2,F2,G2,H2,I2,J2,()))) fun (K2,L2,M2,N2,O2,P2,Q2,R2,S2,T2,U2,_)=>
 (T2[L2]?).bind fun y37=>
 (qx y37.1).bind fun r38=>
 (T2[L2]?).bind fun y39=>
 ((List.set T2 L2 (r38.1,y39.2))[L2]?).bind fun y40=>
 (iR y40.2.2.2).bind fun r41=>
 ((List.set T2 L2 (r38.1,y39.2))[L2]?).bind fun y42=>
 chk (decide (((r41.1.length)+1)*152≤140737488355328)&&decide ((r41.1.length)+1≤maxLen)) <|
 ((List.set T2 L2 (r38.1,y39.2))[L2]?).bind fun y43=>
 some (((M2,N2,O2,P2,Q2,R2),S2,List.set (List.set T2 L2 (r38.1,y39.2)) L2 (y43.1,y43.2.1,y43.2.2.1,r41.1++[(K2,y42.1)]),U2,()),())
abbrev Dy:Type:=(List aa)×Int×(List aH)×Int×Int×Bys×Bys×Bys×Int×Int×(List aH)×(List aa)×(List aq)×(List ah)×Unit
abbrev Hr:Type:=(((aj×(List aa)×(List aq)×(List ah)×Unit)×Unit) ⊕ ((List aa)×Int×Bys×Bys×Bys×Int×Int×(List aH)×(List aa)×(List aq)×(List ah)×Unit))
def Hq (x1:Dy) (again:Dy→Option Hr):Option Hr:=
 match x1 with
 | (A,B,C,D,E,F,G,H,I,J,K,L,M,N,_)=>
 bif decide (E<D) then
  (idx C E).bind fun y2=>
  (gM y2.2.2.1).bind fun r3=>
  (gM y2.2.2.2.2.1).bind fun r4=>
  (qx (y2.1,y2.2.1,y2.2.2.2.1,r3.1,r4.1,y2.2.2.2.2.2,(0,0),(0,0),(0,0),0,0)).bind fun r5=>
  chk (decide (((M.length)+1)*184≤140737488355328)&&decide ((M.length)+1≤maxLen)) <|
  again (A,B,C,D,w64 (E+1),F,G,H,I,J,K,L,M++[(r5.1,(-1),(-1),[])],N,())
 else
  some (.inr (A,B,F,G,H,I,J,K,L,M,N,()))
abbrev Ht:Type:=Int×(List aa)×Int×Int×Bys×Bys×Bys×Int×Int×(List aH)×(List aa)×(List aq)×(List ah)×Unit
abbrev Hs:Type:=(((aj×(List aa)×(List aq)×(List ah)×Unit)×Unit) ⊕ (Bys×Bys×Bys×Int×Int×(List aH)×(List aa)×(List aq)×(List ah)×Unit))
def Dx (x1:Ht) (again:Ht→Option Hs):Option Hs:=
 match x1 with
 | (A,B,C,D,E,F,G,H,I,J,K,L,M,_)=>
 bif decide (D<C) then
  (idx B D).bind fun y2=>
  bif decide (y2.1>A) then
   again (A,B,C,w64 (D+1),E,F,G,H,I,J,K,L,M,())
  else
   (uX ((E,F,G,H,I,J),K,L,M) D).bind fun r3=>
   bif r3.1 != 0 then
    chk (decide (((M.length)+1)*16≤140737488355328)&&decide ((M.length)+1≤maxLen)) <|
    again (A,B,C,w64 (D+1),E,F,G,H,I,J,K,L,M++[(D,r3.1)],())
   else
    (kP ((E,F,G,H,I,J),K,L,M,()) D).bind fun r4=>
    again (A,B,C,w64 (D+1),r4.1.1.1,r4.1.1.2.1,r4.1.1.2.2.1,r4.1.1.2.2.2.1,r4.1.1.2.2.2.2.1,r4.1.1.2.2.2.2.2,r4.1.2.1,r4.1.2.2.1,r4.1.2.2.2.1,())
 else
  some (.inr (E,F,G,H,I,J,K,L,M,()))
def Sk (a0:aj) (a1:List aa) (a2:Int):Option ((aj×(List aa)×(List aq)×(List ah)×Unit)×Unit):=
 az (
  iter (X:=Dy) (β:=Hr) (a1.length+(a2.natAbs+(a0.2.2.2.2.2.length+(Int.natAbs ((a0.2.2.2.2.2.length:Int))+(Int.natAbs (0:Int)+(a0.1.length+(a0.2.1.length+(a0.2.2.1.length+(a0.2.2.2.1.natAbs+(a0.2.2.2.2.1.natAbs+(a0.2.2.2.2.2.length+(a1.length+(List.length ([]:List aq)+(List.length ([]:List ah)+2)))))))))))))) (a1,a2,a0.2.2.2.2.2,(a0.2.2.2.2.2.length:Int),0,a0.1,a0.2.1,a0.2.2.1,a0.2.2.2.1,a0.2.2.2.2.1,a0.2.2.2.2.2,a1,[],[],()) (Hq)) fun (A,B,C,D,E,F,G,H,I,J,K,_)=>
 az (
  iter (X:=Ht) (β:=Hs) (B.natAbs+(A.length+(Int.natAbs ((A.length:Int))+(Int.natAbs (0:Int)+(C.length+(D.length+(E.length+(F.natAbs+(G.natAbs+(H.length+(I.length+(J.length+(K.length+2))))))))))))) (B,A,(A.length:Int),0,C,D,E,F,G,H,I,J,K,()) (Dx)) fun (L,M,N,O,P,Q,R,S,T,_)=>
 some (((L,M,N,O,P,Q),R,S,T,()),())
end Go.Md
namespace Go.Md
open Go.Dn
def Ho (a0:aj) (a1:List aa) (a2:Int):Option (Int×Unit):=
 (Sg a0 a1).bind fun r1=>
 bif r1.1 != 0 then
  some (r1.1,())
 else
  (we a2).bind fun r2=>
  bif !r2.1 then
   some (1,())
  else
   some (0,())
abbrev mS:Type:=(List ax)×(List aq)×Int×Int×Unit
abbrev qP:Type:=(((List ax)×Unit) ⊕ ((List ax)×Unit))
def qO (x1:mS) (again:mS→Option qP):Option qP:=
 match x1 with
 | (A,B,C,D,_)=>
 bif decide (D<C) then
  (idx B D).bind fun y2=>
  chk (decide (((A.length)+1)*144≤140737488355328)&&decide ((A.length)+1≤maxLen)) <|
  again (A++[y2.1],B,C,w64 (D+1),())
 else
  some (.inr (A,()))
def xC (a0:eU):Option ((List ax)×Unit):=
 az (
  iter (X:=mS) (β:=qP) (List.length ([]:List ax)+(a0.2.2.1.length+(Int.natAbs ((a0.2.2.1.length:Int))+(Int.natAbs (0:Int)+2)))) ([],a0.2.2.1,(a0.2.2.1.length:Int),0,()) (qO)) fun v3=>
 some (v3.1,())
def Bi (a0:aj) (a1:List aa) (a2:Int):Option ((List ax)×Int×Unit):=
 (Ho a0 a1 a2).bind fun r1=>
 bif r1.1 != 0 then
  some ([],r1.1,())
 else
  (Sk a0 a1 a2).bind fun r2=>
  (xC (r2.1.1,r2.1.2.1,r2.1.2.2.1,r2.1.2.2.2.1)).bind fun r3=>
  some (r3.1,0,())
end Go.Md
set_option linter.all false
namespace Go.Md
open Go.Dn
abbrev an:Ty:=(.st (.pair tI tI))
abbrev aF:Type:=Int×Int
abbrev bQ:Ty:=(.st (.pair tI (.pair tI tI)))
abbrev aR:Type:=Int×Int×Int
def iI (a0:aF):Option (Int×Unit):=
 (bO a0.1 0 1000).bind fun r1=>
 bif r1.1 then
  some (1,())
 else
  (bO a0.2 0 1000).bind fun r2=>
  bif r2.1 then
   some (1,())
  else
   some (0,())
abbrev pq:Type:=(List aa)×(List ai)×(List ai)×Int×Int×Bys×Bys×Bys×Int×Int×(List aH)×Int×Int×Unit
abbrev pg:Type:=(((aj×(List aa)×aF×(List ai)×(List (Int×(List ax)))×(List (Int×aO))×(List aR)×Unit)×Int×Unit) ⊕ ((List aa)×(List ai)×Bys×Bys×Bys×Int×Int×(List aH)×Int×Int×Unit))
def lG (x1:pq) (again:pq→Option pg):Option pg:=
 match x1 with
 | (A,B,C,D,E,F,G,H,I,J,K,L,M,_)=>
 bif decide (E<D) then
  (idx C E).bind fun y2=>
  (mM y2).bind fun r3=>
  bif r3.1 != 0 then
   none
  else
   (
    bif decide (E>0) then
     Option.bind (idx B (w64 (E - 1))) fun y4=>
     some (decide (y2.2.2.1<y4.2.2.1),())
    else
     some (false,())).bind fun v5=>
   bif v5.1 then
    none
   else
    again (A,B,C,D,w64 (E+1),F,G,H,I,J,K,L,M,())
 else
  some (.inr (A,B,F,G,H,I,J,K,L,M,()))
def q7 (a0:aj) (a1:List aa) (a2:aF) (a3:List ai):Option ((aj×(List aa)×aF×(List ai)×(List (Int×(List ax)))×(List (Int×aO))×(List aR)×Unit)×Int×Unit):=
 (kM a0).bind fun r1=>
 bif r1.1 != 0 then
  none
 else
  (kL a1).bind fun r2=>
  bif r2.1 != 0 then
   none
  else
   (iI a2).bind fun r3=>
   bif r3.1 != 0 then
    none
   else
    bif decide (((a3.length:Int))>200) then
     none
    else
     az (
      iter (X:=pq) (β:=pg) (a1.length+(a3.length+(a3.length+(Int.natAbs ((a3.length:Int))+(Int.natAbs (0:Int)+(a0.1.length+(a0.2.1.length+(a0.2.2.1.length+(a0.2.2.2.1.natAbs+(a0.2.2.2.2.1.natAbs+(a0.2.2.2.2.2.length+(a2.1.natAbs+(a2.2.natAbs+2))))))))))))) (a1,a3,a3,(a3.length:Int),0,a0.1,a0.2.1,a0.2.2.1,a0.2.2.2.1,a0.2.2.2.2.1,a0.2.2.2.2.2,a2.1,a2.2,()) (lG)) fun (A,B,C,D,E,F,G,H,I,J,_)=>
     some (((C,D,E,F,G,H),A,(I,J),B,[],[],[],()),0,())
abbrev nc:Type:=(List aa)×(List ai)×(List ai)×Int×Int×Bys×Bys×Bys×Int×Int×(List aH)×Int×Int×Unit
abbrev mZ:Type:=(((Option Nat)×Int×Unit) ⊕ ((List aa)×(List ai)×Bys×Bys×Bys×Int×Int×(List aH)×Int×Int×Unit))
def jC (x1:nc) (again:nc→Option mZ):Option mZ:=
 match x1 with
 | (A,B,C,D,E,F,G,H,I,J,K,L,M,_)=>
 bif decide (E<D) then
  (idx C E).bind fun y2=>
  (mM y2).bind fun r3=>
  bif r3.1 != 0 then
   some (.inl (none,r3.1,()))
  else
   (
    bif decide (E>0) then
     Option.bind (idx B (w64 (E - 1))) fun y4=>
     some (decide (y2.2.2.1<y4.2.2.1),())
    else
     some (false,())).bind fun v5=>
   bif v5.1 then
    some (.inl (none,8,()))
   else
    again (A,B,C,D,w64 (E+1),F,G,H,I,J,K,L,M,())
 else
  some (.inr (A,B,F,G,H,I,J,K,L,M,()))
def nG (a0:aj) (a1:List aa) (a2:aF) (a3:List ai):Option ((Option Nat)×Int×Unit):=
 (kM a0).bind fun r1=>
 bif r1.1 != 0 then
  some (none,r1.1,())
 else
  (kL a1).bind fun r2=>
  bif r2.1 != 0 then
   some (none,r2.1,())
  else
   (iI a2).bind fun r3=>
   bif r3.1 != 0 then
    some (none,r3.1,())
   else
    bif decide (((a3.length:Int))>200) then
     some (none,2,())
    else
     az (
      iter (X:=nc) (β:=mZ) (a1.length+(a3.length+(a3.length+(Int.natAbs ((a3.length:Int))+(Int.natAbs (0:Int)+(a0.1.length+(a0.2.1.length+(a0.2.2.1.length+(a0.2.2.2.1.natAbs+(a0.2.2.2.2.1.natAbs+(a0.2.2.2.2.2.length+(a2.1.natAbs+(a2.2.natAbs+2))))))))))))) (a1,a3,a3,(a3.length:Int),0,a0.1,a0.2.1,a0.2.2.1,a0.2.2.2.1,a0.2.2.2.2.1,a0.2.2.2.2.2,a2.1,a2.2,()) (jC)) fun _=>
     none
def fT (a0:Int) (a1:Int) (a2:aj×(List aa)×aF×(List ai)×(List (Int×(List ax)))×(List (Int×aO))×(List aR)×Unit) (a3:Int×Unit):Option ((aj×(List aa)×aF×(List ai)×(List (Int×(List ax)))×(List (Int×aO))×(List aR)×Unit)×(Int×Unit)×Unit):=
 chk (decide (((a2.2.2.2.2.2.2.1.length)+1)*24≤140737488355328)&&decide ((a2.2.2.2.2.2.2.1.length)+1≤maxLen)) <|
 some ((a2.1,a2.2.1,a2.2.2.1,a2.2.2.2.1,a2.2.2.2.2.1,a2.2.2.2.2.2.1,a2.2.2.2.2.2.2.1++[(a3.1,a0,a1)],()),(a3.1,()),())
def qh (a0:ai) (a1:ai):Option (Bool×Unit):=
 some (a0.1==a1.1,())
abbrev ew:Type:=(List ai)×ai×Int×Int×Unit
abbrev er:Type:=((Int×Unit) ⊕ Unit)
def eo (x1:ew) (again:ew→Option er):Option er:=
 match x1 with
 | (A,B,C,D,_)=>
 bif decide (D<C) then
  (idx A D).bind fun y2=>
  (qh y2 B).bind fun r3=>
  bif r3.1 then
   some (.inl (D,()))
  else
   again (A,B,C,w64 (D+1),())
 else
  some (.inr ())
def kT (a0:List ai) (a1:ai):Option (Int×Unit):=
 az (
  iter (X:=ew) (β:=er) (a0.length+(Int.natAbs ((a0.length:Int))+(Int.natAbs (0:Int)+2))) (a0,a1,(a0.length:Int),0,()) (eo)) fun _=>
 some ((-1),())
def fR (a0:List ai) (a1:ai):Option (Bool×Unit):=
 (kT a0 a1).bind fun r1=>
 some (decide (r1.1≥0),())
def me (a0:aj×(List aa)×aF×(List ai)×(List (Int×(List ax)))×(List (Int×aO))×(List aR)×Unit) (a1:Int):Option ((List ax)×(aj×(List aa)×aF×(List ai)×(List (Int×(List ax)))×(List (Int×aO))×(List aR)×Unit)×Unit):=
 bif !(Option.isSome (b9 (k:=tI) (v:=(.slice bz)) a0.2.2.2.2.1 a1)) then
  (zg a0.1 a0.2.1 a1).bind fun r1=>
  some (r1.1,(a0.1,a0.2.1,a0.2.2.1,a0.2.2.2.1,jJ (k:=tI) (v:=(.slice bz)) a0.2.2.2.2.1 a1 r1.1,a0.2.2.2.2.2.1,a0.2.2.2.2.2.2.1,()),())
 else
  some (Option.getD (α:=List ax) (b9 (k:=tI) (v:=(.slice bz)) a0.2.2.2.2.1 a1) [],(a0.1,a0.2.1,a0.2.2.1,a0.2.2.2.1,a0.2.2.2.2.1,a0.2.2.2.2.2.1,a0.2.2.2.2.2.2.1,()),())
def uy (a0:ax) (a1:aD):Option (Bool×Unit):=
 some (a0.1==a1.2.1,())
abbrev gF:Type:=(List ax)×aD×Int×Int×Unit
abbrev gE:Type:=((Int×Unit) ⊕ Unit)
def fe (x1:gF) (again:gF→Option gE):Option gE:=
 match x1 with
 | (A,B,C,D,_)=>
 bif decide (D<C) then
  (idx A D).bind fun y2=>
  (uy y2 B).bind fun r3=>
  bif r3.1 then
   some (.inl (D,()))
  else
   again (A,B,C,w64 (D+1),())
 else
  some (.inr ())
def iU (a0:List ax) (a1:aD):Option (Int×Unit):=
 az (
  iter (X:=gF) (β:=gE) (a0.length+(Int.natAbs ((a0.length:Int))+(Int.natAbs (0:Int)+2))) (a0,a1,(a0.length:Int),0,()) (fe)) fun _=>
 some ((-1),())
def C3 (a0:aO) (a1:Int):Option (aO×Unit):=
 (kU (w64 (1000+a1))).bind fun r1=>
 (gq a0 r1.1).bind fun r2=>
 some (r2.1,())
def GS (a0:ax):Option (aO×Unit):=
 (jB a0.2.2.2.2.2.2.2.1).bind fun r1=>
 (jB a0.2.2.2.2.2.2.2.2.1).bind fun r2=>
 (rV r1.1 r2.1).bind fun r3=>
 some (r3.1,())
def qF (a0:aj×(List aa)×aF×(List ai)×(List (Int×(List ax)))×(List (Int×aO))×(List aR)×Unit) (a1:Int) (a2:aD):Option (Int×(aj×(List aa)×aF×(List ai)×(List (Int×(List ax)))×(List (Int×aO))×(List aR)×Unit)×Unit):=
 (me (a0.1,a0.2.1,a0.2.2.1,a0.2.2.2.1,a0.2.2.2.2.1,a0.2.2.2.2.2.1,a0.2.2.2.2.2.2.1,()) a1).bind fun r1=>
 (iU r1.1 a2).bind fun r2=>
 bif decide (r2.1<0) then
  some (3,(r1.2.1.1,r1.2.1.2.1,r1.2.1.2.2.1,r1.2.1.2.2.2.1,r1.2.1.2.2.2.2.1,r1.2.1.2.2.2.2.2.1,r1.2.1.2.2.2.2.2.2.1,()),())
 else
  (idx r1.1 r2.1).bind fun y3=>
  bif !(y3.2.1==a2.2.2.1) then
   some (4,(r1.2.1.1,r1.2.1.2.1,r1.2.1.2.2.1,r1.2.1.2.2.2.1,r1.2.1.2.2.2.2.1,r1.2.1.2.2.2.2.2.1,r1.2.1.2.2.2.2.2.2.1,()),())
  else
   bif !(y3.2.2.1==a2.2.2.2.2.1) then
    some (4,(r1.2.1.1,r1.2.1.2.1,r1.2.1.2.2.1,r1.2.1.2.2.2.1,r1.2.1.2.2.2.2.1,r1.2.1.2.2.2.2.2.1,r1.2.1.2.2.2.2.2.2.1,()),())
   else
    (jB a2.2.2.2.2.2.1).bind fun r4=>
    (kU 1000).bind fun r5=>
    (gq r4.1 r5.1).bind fun r6=>
    (jB y3.2.2.2.2.1).bind fun r7=>
    (C3 r7.1 r1.2.1.2.2.1.1).bind fun r8=>
    (kU a2.2.2.2.2.2.2.1).bind fun r9=>
    (gq r8.1 r9.1).bind fun r10=>
    (mW r6.1 r10.1).bind fun r11=>
    bif decide (r11.1>0) then
     some (5,(r1.2.1.1,r1.2.1.2.1,r1.2.1.2.2.1,r1.2.1.2.2.2.1,r1.2.1.2.2.2.2.1,r1.2.1.2.2.2.2.2.1,r1.2.1.2.2.2.2.2.2.1,()),())
    else
     (jB a2.2.2.2.1).bind fun r12=>
     (nF (Option.getD (α:=aO) (b9 (k:=tI) (v:=bh) r1.2.1.2.2.2.2.2.1 a2.2.1) (false,[])) r12.1).bind fun r13=>
     (jr r13.1).bind fun r14=>
     bif decide (r14.1<0) then
      some (6,(r1.2.1.1,r1.2.1.2.1,r1.2.1.2.2.1,r1.2.1.2.2.2.1,r1.2.1.2.2.2.2.1,r1.2.1.2.2.2.2.2.1,r1.2.1.2.2.2.2.2.2.1,()),())
     else
      (kU 1000).bind fun r15=>
      (gq r13.1 r15.1).bind fun r16=>
      (GS y3).bind fun r17=>
      (C3 r17.1 r1.2.1.2.2.1.2).bind fun r18=>
      (mW r16.1 r18.1).bind fun r19=>
      bif decide (r19.1>0) then
       some (6,(r1.2.1.1,r1.2.1.2.1,r1.2.1.2.2.1,r1.2.1.2.2.2.1,r1.2.1.2.2.2.2.1,r1.2.1.2.2.2.2.2.1,r1.2.1.2.2.2.2.2.2.1,()),())
      else
       some (0,(r1.2.1.1,r1.2.1.2.1,r1.2.1.2.2.1,r1.2.1.2.2.2.1,r1.2.1.2.2.2.2.1,r1.2.1.2.2.2.2.2.1,r1.2.1.2.2.2.2.2.2.1,()),())
abbrev kr:Type:=(List aD)×Int×Int×Int×Bys×Bys×Int×Int×Int×Bool×(List aV)×(List aD)×(List bI)×Bys×Bys×Bys×Int×Int×(List aH)×(List aa)×Int×Int×(List ai)×(List (Int×(List ax)))×(List (Int×aO))×(List aR)×Unit
abbrev ko:Type:=(((aj×(List aa)×aF×(List ai)×(List (Int×(List ax)))×(List (Int×aO))×(List aR)×Unit)×Unit) ⊕ (Bys×Bys×Bys×Int×Int×(List aH)×(List aa)×Int×Int×(List ai)×(List (Int×(List ax)))×(List (Int×aO))×(List aR)×Unit))
def ij (x1:kr) (again:kr→Option ko):Option ko:=
 match x1 with
 | (A,B,C,D,E,F,G,H,I,J,K,L,M,N,O,P,Q,R,S,T,U,V,W,X,Y,Z,_)=>
 bif decide (C<B) then
  (idx A C).bind fun y2=>
  (qF ((N,O,P,Q,R,S),T,(U,V),W,X,Y,Z,()) G y2).bind fun r3=>
  bif r3.1 != 0 then
   (fT C r3.1 (r3.2.1.1,r3.2.1.2.1,r3.2.1.2.2.1,r3.2.1.2.2.2.1,r3.2.1.2.2.2.2.1,r3.2.1.2.2.2.2.2.1,r3.2.1.2.2.2.2.2.2.1,()) (D,())).bind fun r4=>
   again (A,B,w64 (C+1),r4.2.1.1,E,F,G,H,I,J,K,L,M,r4.1.1.1,r4.1.1.2.1,r4.1.1.2.2.1,r4.1.1.2.2.2.1,r4.1.1.2.2.2.2.1,r4.1.1.2.2.2.2.2,r4.1.2.1,r4.1.2.2.1.1,r4.1.2.2.1.2,r4.1.2.2.2.1,r4.1.2.2.2.2.1,r4.1.2.2.2.2.2.1,r4.1.2.2.2.2.2.2.1,())
  else
   (jB y2.2.2.2.1).bind fun r5=>
   (nF (Option.getD (α:=aO) (b9 (k:=tI) (v:=bh) r3.2.1.2.2.2.2.2.1 y2.2.1) (false,[])) r5.1).bind fun r6=>
   again (A,B,w64 (C+1),D,E,F,G,H,I,J,K,L,M,r3.2.1.1.1,r3.2.1.1.2.1,r3.2.1.1.2.2.1,r3.2.1.1.2.2.2.1,r3.2.1.1.2.2.2.2.1,r3.2.1.1.2.2.2.2.2,r3.2.1.2.1,r3.2.1.2.2.1.1,r3.2.1.2.2.1.2,r3.2.1.2.2.2.1,r3.2.1.2.2.2.2.1,jJ (k:=tI) (v:=bh) r3.2.1.2.2.2.2.2.1 y2.2.1 r6.1,r3.2.1.2.2.2.2.2.2.1,())
 else
  some (.inr (N,O,P,Q,R,S,T,U,V,W,X,Y,Z,()))
def fK (a0:aj×(List aa)×aF×(List ai)×(List (Int×(List ax)))×(List (Int×aO))×(List aR)×Unit) (a1:Int):Option ((aj×(List aa)×aF×(List ai)×(List (Int×(List ax)))×(List (Int×aO))×(List aR)×Unit)×Unit):=
 (idx a0.2.2.2.1 a1).bind fun y1=>
 bif !(y1.2.1==a0.1.1) then
  (fT (-1) 1 (a0.1,a0.2.1,a0.2.2.1,a0.2.2.2.1,a0.2.2.2.2.1,a0.2.2.2.2.2.1,a0.2.2.2.2.2.2.1,()) (a1,())).bind fun r2=>
  some ((r2.1.1,r2.1.2.1,r2.1.2.2.1,r2.1.2.2.2.1,r2.1.2.2.2.2.1,r2.1.2.2.2.2.2.1,r2.1.2.2.2.2.2.2.1,()),())
 else
  chk (decide (0≤(0:Int))&&decide ((0:Int)≤a1)&&decide (a1≤(a0.2.2.2.1.length:Int))) <|
  (fR (List.drop 0 (List.take (Int.toNat a1) a0.2.2.2.1)) y1).bind fun r3=>
  bif r3.1 then
   (fT (-1) 2 (a0.1,a0.2.1,a0.2.2.1,a0.2.2.2.1,a0.2.2.2.2.1,a0.2.2.2.2.2.1,a0.2.2.2.2.2.2.1,()) (a1,())).bind fun r4=>
   some ((r4.1.1,r4.1.2.1,r4.1.2.2.1,r4.1.2.2.2.1,r4.1.2.2.2.2.1,r4.1.2.2.2.2.2.1,r4.1.2.2.2.2.2.2.1,()),())
  else
   az (
    iter (X:=kr) (β:=ko) (y1.2.2.2.2.2.2.2.1.length+(Int.natAbs ((y1.2.2.2.2.2.2.2.1.length:Int))+(Int.natAbs (0:Int)+(a1.natAbs+(y1.1.length+(y1.2.1.length+(y1.2.2.1.natAbs+(y1.2.2.2.1.natAbs+(y1.2.2.2.2.1.natAbs+(y1.2.2.2.2.2.2.1.length+(y1.2.2.2.2.2.2.2.1.length+(y1.2.2.2.2.2.2.2.2.length+(a0.1.1.length+(a0.1.2.1.length+(a0.1.2.2.1.length+(a0.1.2.2.2.1.natAbs+(a0.1.2.2.2.2.1.natAbs+(a0.1.2.2.2.2.2.length+(a0.2.1.length+(a0.2.2.1.1.natAbs+(a0.2.2.1.2.natAbs+(a0.2.2.2.1.length+(a0.2.2.2.2.1.length+(a0.2.2.2.2.2.1.length+(a0.2.2.2.2.2.2.1.length+2))))))))))))))))))))))))) (y1.2.2.2.2.2.2.2.1,(y1.2.2.2.2.2.2.2.1.length:Int),0,a1,y1.1,y1.2.1,y1.2.2.1,y1.2.2.2.1,y1.2.2.2.2.1,y1.2.2.2.2.2.1,y1.2.2.2.2.2.2.1,y1.2.2.2.2.2.2.2.1,y1.2.2.2.2.2.2.2.2,a0.1.1,a0.1.2.1,a0.1.2.2.1,a0.1.2.2.2.1,a0.1.2.2.2.2.1,a0.1.2.2.2.2.2,a0.2.1,a0.2.2.1.1,a0.2.2.1.2,a0.2.2.2.1,a0.2.2.2.2.1,a0.2.2.2.2.2.1,a0.2.2.2.2.2.2.1,()) (ij)) fun (A,B,C,D,E,F,G,H,I,J,K,L,M,_)=>
   some (((A,B,C,D,E,F),G,(H,I),J,K,L,M,()),())
abbrev yV:Type:=Int×Int×Bys×Bys×Bys×Int×Int×(List aH)×(List aa)×Int×Int×(List ai)×(List (Int×(List ax)))×(List (Int×aO))×(List aR)×Unit
abbrev yU:Type:=(((List aR)×Int×Unit) ⊕ (Bys×Bys×Bys×Int×Int×(List aH)×(List aa)×Int×Int×(List ai)×(List (Int×(List ax)))×(List (Int×aO))×(List aR)×Unit))
def tv (x1:yV) (again:yV→Option yU):Option yU:=
 match x1 with
 | (A,B,C,D,E,F,G,H,I,J,K,L,M,N,O,_)=>
 bif decide (B<A) then
  (fK ((C,D,E,F,G,H),I,(J,K),L,M,N,O,()) B).bind fun r2=>
  again (A,w64 (B+1),r2.1.1.1,r2.1.1.2.1,r2.1.1.2.2.1,r2.1.1.2.2.2.1,r2.1.1.2.2.2.2.1,r2.1.1.2.2.2.2.2,r2.1.2.1,r2.1.2.2.1.1,r2.1.2.2.1.2,r2.1.2.2.2.1,r2.1.2.2.2.2.1,r2.1.2.2.2.2.2.1,r2.1.2.2.2.2.2.2.1,())
 else
  some (.inr (C,D,E,F,G,H,I,J,K,L,M,N,O,()))
def Ep (a0:aj) (a1:List aa) (a2:aF) (a3:List ai):Option ((List aR)×Int×Unit):=
 KB (nG a0 a1 a2 a3) (fun r1=>
  bif r1.2.1 != 0 then
   some ([],r1.2.1,())
  else
   none) (
  (q7 a0 a1 a2 a3).bind fun r2=>
  bif r2.2.1 != 0 then
   some ([],r2.2.1,())
  else
   az (
    iter (X:=yV) (β:=yU) (Int.natAbs ((a3.length:Int))+(Int.natAbs (0:Int)+(r2.1.1.1.length+(r2.1.1.2.1.length+(r2.1.1.2.2.1.length+(r2.1.1.2.2.2.1.natAbs+(r2.1.1.2.2.2.2.1.natAbs+(r2.1.1.2.2.2.2.2.length+(r2.1.2.1.length+(r2.1.2.2.1.1.natAbs+(r2.1.2.2.1.2.natAbs+(r2.1.2.2.2.1.length+(r2.1.2.2.2.2.1.length+(r2.1.2.2.2.2.2.1.length+(r2.1.2.2.2.2.2.2.1.length+2))))))))))))))) ((a3.length:Int),0,r2.1.1.1,r2.1.1.2.1,r2.1.1.2.2.1,r2.1.1.2.2.2.1,r2.1.1.2.2.2.2.1,r2.1.1.2.2.2.2.2,r2.1.2.1,r2.1.2.2.1.1,r2.1.2.2.1.2,r2.1.2.2.2.1,r2.1.2.2.2.2.1,r2.1.2.2.2.2.2.1,r2.1.2.2.2.2.2.2.1,()) (tv)) fun v5=>
   some (v5.2.2.2.2.2.2.2.2.2.2.2.2.1,0,()))
abbrev fA:Type:=(List aR)×(List aR)×Int×Int×Unit
abbrev ia:Type:=((Bool×Unit) ⊕ Unit)
def gZ (x1:fA) (again:fA→Option ia):Option ia:=
 match x1 with
 | (A,B,C,D,_)=>
 bif decide (D<C) then
  (idx A D).bind fun y2=>
  (idx B D).bind fun y3=>
  bif !((y2.1==y3.1)&&((y2.2.1==y3.2.1)&&((y2.2.2==y3.2.2)&&true))) then
   some (.inl (false,()))
  else
   again (A,B,C,w64 (D+1),())
 else
  some (.inr ())
def jv (a0:List aR) (a1:List aR):Option (Bool×Unit):=
 bif ((a0.length:Int)) != ((a1.length:Int)) then
  some (false,())
 else
  az (
   iter (X:=fA) (β:=ia) (a0.length+(a1.length+(Int.natAbs ((a0.length:Int))+(Int.natAbs (0:Int)+2)))) (a0,a1,(a0.length:Int),0,()) (gZ)) fun _=>
  some (true,())
def lR (a0:aF):Option (Int×Unit):=
 (jQ a0.1 0 1000).bind fun r1=>
 bif !r1.1 then
  some (1,())
 else
  (jQ a0.2 0 1000).bind fun r2=>
  bif !r2.1 then
   some (1,())
  else
   some (0,())
abbrev sW:Type:=(List ai)×(List ai)×Int×Int×Unit
abbrev sV:Type:=((Int×Unit) ⊕ Unit)
def nQ (x1:sW) (again:sW→Option sV):Option sV:=
 match x1 with
 | (A,B,C,D,_)=>
 bif decide (D<C) then
  (idx B D).bind fun y2=>
  (sP y2).bind fun r3=>
  bif r3.1 != 0 then
   some (.inl (r3.1,()))
  else
   (
    bif decide (D>0) then
     Option.bind (idx A (w64 (D - 1))) fun y4=>
     some (decide (y2.2.2.1<y4.2.2.1),())
    else
     some (false,())).bind fun v5=>
   bif v5.1 then
    some (.inl (8,()))
   else
    again (A,B,C,w64 (D+1),())
 else
  some (.inr ())
def vV (a0:aj) (a1:List aa) (a2:aF) (a3:List ai):Option (Int×Unit):=
 (tV a0).bind fun r1=>
 bif r1.1 != 0 then
  some (r1.1,())
 else
  (tU a1).bind fun r2=>
  bif r2.1 != 0 then
   some (r2.1,())
  else
   (lR a2).bind fun r3=>
   bif r3.1 != 0 then
    some (r3.1,())
   else
    bif decide (((a3.length:Int))>200) then
     some (2,())
    else
     az (
      iter (X:=sW) (β:=sV) (a3.length+(a3.length+(Int.natAbs ((a3.length:Int))+(Int.natAbs (0:Int)+2)))) (a3,a3,(a3.length:Int),0,()) (nQ)) fun _=>
     some (0,())
abbrev vZ:Type:=Int×Int×Int×Unit
abbrev A7:Type:=((Int×Unit) ⊕ (Int×Unit))
def A6 (x1:vZ) (again:vZ→Option A7):Option A7:=
 bif decide (x1.2.2.1<x1.2.1) then
  again (w64 (x1.1*10),x1.2.1,w64 (x1.2.2.1+1),())
 else
  some (.inr (x1.1,()))
def pZ (a0:aF):Option (Int×Unit):=
 az (
  iter (X:=vZ) (β:=A7) (a0.1.natAbs+(Int.natAbs (w64 (3 - a0.2))+(Int.natAbs (0:Int)+2))) (a0.1,w64 (3 - a0.2),0,()) (A6)) fun v2=>
 some (v2.1,())
abbrev xw:Type:=Int×(List ax)×Int×Int×Int×Bys×Bys×Int×Int×Int×Int×Int×Int×Int×Int×Int×Int×Int×Int×Int×Unit
abbrev xu:Type:=((ax×Bool×Unit) ⊕ (Int×Bys×Bys×Int×Int×Int×Int×Int×Int×Int×Int×Int×Int×Int×Int×Int×Unit))
def rK (x1:xw) (again:xw→Option xu):Option xu:=
 match x1 with
 | (A,B,C,D,E,F,G,H,I,J,K,L,M,N,O,P,Q,R,S,T,_)=>
 bif decide (D<C) then
  (idx B D).bind fun y2=>
  bif y2.1==A then
   some (.inl (y2,true,()))
  else
   again (A,B,C,w64 (D+1),E,F,G,H,I,J,K,L,M,N,O,P,Q,R,S,T,())
 else
  some (.inr (E,F,G,H,I,J,K,L,M,N,O,P,Q,R,S,T,()))
def CF (a0:List ax) (a1:Int):Option (ax×Bool×Unit):=
 az (
  iter (X:=xw) (β:=xu) (a1.natAbs+(a0.length+(Int.natAbs ((a0.length:Int))+(Int.natAbs (0:Int)+(Int.natAbs (0:Int)+(List.length ([]:Bys)+(List.length ([]:Bys)+(Int.natAbs (0:Int)+(Int.natAbs (0:Int)+(Int.natAbs (0:Int)+(Int.natAbs (0:Int)+(Int.natAbs (0:Int)+(Int.natAbs (0:Int)+(Int.natAbs (0:Int)+(Int.natAbs (0:Int)+(Int.natAbs (0:Int)+(Int.natAbs (0:Int)+(Int.natAbs (0:Int)+(Int.natAbs (0:Int)+(Int.natAbs (0:Int)+2)))))))))))))))))))) (a1,a0,(a0.length:Int),0,0,[],[],0,0,0,0,0,0,0,0,0,0,0,0,0,()) (rK)) fun _=>
 some ((0,[],[],(0,0),(0,0),0,(0,0),(0,0),(0,0),0,0),false,())
abbrev xo:Type:=(List aJ)×(List aJ)×Int×Int×Bool×(List Int)×Bool×(List Int)×Unit
abbrev xk:Type:=((Bool×Unit) ⊕ ((List aJ)×Bool×(List Int)×Bool×(List Int)×Unit))
def rH (x1:xo) (again:xo→Option xk):Option xk:=
 match x1 with
 | (A,B,C,D,E,F,G,H,_)=>
 bif decide (D<C) then
  (idx B D).bind fun y2=>
  (lC (E,F) y2).bind fun r3=>
  again (A,B,C,w64 (D+1),r3.1.1,r3.1.2,G,H,())
 else
  some (.inr (A,E,F,G,H,()))
abbrev xq:Type:=(List aJ)×Int×Int×Bool×(List Int)×Bool×(List Int)×Unit
abbrev xm:Type:=((Bool×Unit) ⊕ (Bool×(List Int)×Bool×(List Int)×Unit))
def rI (x1:xq) (again:xq→Option xm):Option xm:=
 match x1 with
 | (A,B,C,D,E,F,G,_)=>
 bif decide (C<B) then
  (idx A C).bind fun y2=>
  (lC (F,G) y2).bind fun r3=>
  again (A,B,w64 (C+1),D,E,r3.1.1,r3.1.2,())
 else
  some (.inr (D,E,F,G,()))
def yD (a0:List aJ) (a1:List aJ):Option (Bool×Unit):=
 (sX 1).bind fun r1=>
 (sX 1).bind fun r2=>
 az (
  iter (X:=xo) (β:=xk) (a1.length+(a0.length+(Int.natAbs ((a0.length:Int))+(Int.natAbs (0:Int)+(r1.1.2.length+(r2.1.2.length+2)))))) (a1,a0,(a0.length:Int),0,r1.1.1,r1.1.2,r2.1.1,r2.1.2,()) (rH)) fun (A,B,C,D,E,_)=>
 az (
  iter (X:=xq) (β:=xm) (A.length+(Int.natAbs ((A.length:Int))+(Int.natAbs (0:Int)+(C.length+(E.length+2))))) (A,(A.length:Int),0,B,C,D,E,()) (rI)) fun (F,G,H,I,_)=>
 (FY (F,G) (H,I)).bind fun r11=>
 some (decide (r11.1>0),())
def Ob (a0:ax):Option (Int×Unit):=
 (pZ a0.2.2.2.2.2.2.2.1).bind fun r1=>
 (pZ a0.2.2.2.2.2.2.2.2.1).bind fun r2=>
 some (w64 (r1.1 - r2.1),())
def KK (a0:List ax) (a1:aF) (a2:aD) (a3:Int):Option (Int×Unit):=
 (CF a0 a2.2.1).bind fun r1=>
 bif !r1.2.1 then
  some (3,())
 else
  bif !(r1.1.2.1==a2.2.2.1) then
   some (4,())
  else
   bif !(r1.1.2.2.1==a2.2.2.2.2.1) then
    some (4,())
   else
    (A8 a2.2.2.2.2.2.1 9).bind fun r2=>
    (sX 1000).bind fun r3=>
    (A8 r1.1.2.2.2.2.1 9).bind fun r4=>
    (sX a2.2.2.2.2.2.2.1).bind fun r5=>
    (sX (w64 (1000+a1.1))).bind fun r6=>
    (yD [r2.1,r3.1] [r4.1,r5.1,r6.1]).bind fun r7=>
    bif r7.1 then
     some (5,())
    else
     bif decide (a3<0) then
      some (6,())
     else
      (sX a3).bind fun r8=>
      (sX 1000).bind fun r9=>
      (Ob r1.1).bind fun r10=>
      (sX r10.1).bind fun r11=>
      (sX (w64 (1000+a1.2))).bind fun r12=>
      (yD [r8.1,r9.1] [r11.1,r12.1]).bind fun r13=>
      bif r13.1 then
       some (6,())
      else
       some (0,())
abbrev tN:Type:=(List aa)×(List ai)×(List aR)×Int×Int×(List ai)×Int×Int×(List ai)×Int×Int×Bys×Bys×Bys×Int×Int×(List aH)×Int×Int×Bys×Bys×Int×Int×Int×Bool×(List aV)×(List aD)×(List bI)×(List (Int×Int))×Unit
abbrev tL:Type:=((((List aR)×(List (Int×Int))×Unit) ⊕ ((List aR)×(List (Int×Int))×Unit)) ⊕ ((List aa)×(List ai)×(List aR)×Int×Int×(List ai)×Int×Int×Bys×Bys×Bys×Int×Int×(List aH)×Int×Int×Bys×Bys×Int×Int×Int×Bool×(List aV)×(List aD)×(List bI)×(List (Int×Int))×Unit))
def oP (x1:tN) (again:tN→Option tL):Option tL:=
 match x1 with
 | (A,B,C,D,E,F,G,H,I,J,K,L,M,N,O,P,Q,R,S,T,U,V,W,X,Y,Z,A0,B0,C0,_)=>
 bif decide (K<J) then
  (idx I K).bind fun y2=>
  (
   bif E==0 then
    some (y2.1==T,())
   else
    some (false,())).bind fun v3=>
  bif v3.1 then
   again (A,B,C,D,2,F,G,H,I,J,w64 (K+1),L,M,N,O,P,Q,R,S,T,U,V,W,X,Y,Z,A0,B0,C0,())
  else
   again (A,B,C,D,E,F,G,H,I,J,w64 (K+1),L,M,N,O,P,Q,R,S,T,U,V,W,X,Y,Z,A0,B0,C0,())
 else
  some (.inr (A,B,C,D,E,F,G,H,L,M,N,O,P,Q,R,S,T,U,V,W,X,Y,Z,A0,B0,C0,()))
abbrev tO:Type:=(List aa)×(List ai)×(List aR)×Int×(List ai)×Int×Int×(List aD)×Int×Int×Bys×Bys×Bys×Int×Int×(List aH)×Int×Int×(List ax)×(List (Int×Int))×Unit
abbrev tM:Type:=((((List aR)×(List (Int×Int))×Unit) ⊕ ((List aR)×(List (Int×Int))×Unit)) ⊕ ((List aa)×(List ai)×(List aR)×(List ai)×Int×Int×Bys×Bys×Bys×Int×Int×(List aH)×Int×Int×(List (Int×Int))×Unit))
def kg (x1:tO) (again:tO→Option tM):Option tM:=
 match x1 with
 | (A,B,C,D,E,F,G,H,I,J,K,L,M,N,O,P,Q,R,S,T,_)=>
 bif decide (J<I) then
  (idx H J).bind fun y2=>
  (pZ y2.2.2.2.1).bind fun r3=>
  let n4:Int:=w64 ((Option.getD (α:=Int) (b9 (k:=tI) (v:=tI) T y2.2.1) 0)+r3.1)
  (KK S (Q,R) y2 n4).bind fun r5=>
  bif r5.1 != 0 then
   chk (decide (((C.length)+1)*24≤140737488355328)&&decide ((C.length)+1≤maxLen)) <|
   again (A,B,C++[(D,J,r5.1)],D,E,F,G,H,I,w64 (J+1),K,L,M,N,O,P,Q,R,S,T,())
  else
   again (A,B,C,D,E,F,G,H,I,w64 (J+1),K,L,M,N,O,P,Q,R,S,jJ (k:=tI) (v:=tI) T y2.2.1 n4,())
 else
  some (.inr (A,B,C,E,F,G,K,L,M,N,O,P,Q,R,T,()))
abbrev rJ:Type:=(List aa)×(List ai)×(List aR)×(List ai)×Int×Int×Bys×Bys×Bys×Int×Int×(List aH)×Int×Int×(List (Int×Int))×Unit
abbrev vY:Type:=(((List aR)×(List (Int×Int))×Unit) ⊕ ((List aR)×(List (Int×Int))×Unit))
def lS (x1:rJ) (again:rJ→Option vY):Option vY:=
 match x1 with
 | (A,B,C,D,E,F,G,H,I,J,K,L,M,N,O,_)=>
 bif decide (F<E) then
  (idx D F).bind fun y2=>
  az (γ:=((List aa)×(List ai)×(List aR)×Int×Int×(List ai)×Int×Int×Bys×Bys×Bys×Int×Int×(List aH)×Int×Int×Bys×Bys×Int×Int×Int×Bool×(List aV)×(List aD)×(List bI)×(List (Int×Int))×Unit)) (
   bif !(y2.2.1==G) then
    some (.inr (A,B,C,F,1,D,E,F,G,H,I,J,K,L,M,N,y2.1,y2.2.1,y2.2.2.1,y2.2.2.2.1,y2.2.2.2.2.1,y2.2.2.2.2.2.1,y2.2.2.2.2.2.2.1,y2.2.2.2.2.2.2.2.1,y2.2.2.2.2.2.2.2.2,O,()))
   else
    some (.inr (A,B,C,F,0,D,E,F,G,H,I,J,K,L,M,N,y2.1,y2.2.1,y2.2.2.1,y2.2.2.2.1,y2.2.2.2.2.1,y2.2.2.2.2.2.1,y2.2.2.2.2.2.2.1,y2.2.2.2.2.2.2.2.1,y2.2.2.2.2.2.2.2.2,O,()))) fun (P,Q,R,S,T,U,V,W,Y,Z,A0,B0,C0,D0,E0,F0,G0,H0,I0,J0,K0,L0,M0,N0,O0,P0,_)=>
  chk (decide (0≤(0:Int))&&decide ((0:Int)≤S)&&decide (S≤(Q.length:Int))) <|
  az (
   iter (X:=tN) (β:=tL) (P.length+(Q.length+(R.length+(S.natAbs+(T.natAbs+(U.length+(V.natAbs+(W.natAbs+(List.length (List.drop 0 (List.take (Int.toNat S) Q))+(Int.natAbs ((List.length (List.drop 0 (List.take (Int.toNat S) Q)):Int))+(Int.natAbs (0:Int)+(Y.length+(Z.length+(A0.length+(B0.natAbs+(C0.natAbs+(D0.length+(E0.natAbs+(F0.natAbs+(G0.length+(H0.length+(I0.natAbs+(J0.natAbs+(K0.natAbs+(M0.length+(N0.length+(O0.length+(P0.length+2)))))))))))))))))))))))))))) (P,Q,R,S,T,U,V,W,List.drop 0 (List.take (Int.toNat S) Q),(List.length (List.drop 0 (List.take (Int.toNat S) Q)):Int),0,Y,Z,A0,B0,C0,D0,E0,F0,G0,H0,I0,J0,K0,L0,M0,N0,O0,P0,()) (oP)) fun (Q0,R0,S0,T0,U0,V0,W0,X0,Y0,Z0,A1,B1,C1,D1,E1,F1,_,_,G1,_,_,_,_,H1,_,I1,_)=>
  bif U0 != 0 then
   chk (decide (((S0.length)+1)*24≤140737488355328)&&decide ((S0.length)+1≤maxLen)) <|
   again (Q0,R0,S0++[(T0,(-1),U0)],V0,W0,w64 (X0+1),Y0,Z0,A1,B1,C1,D1,E1,F1,I1,())
  else
   (Bi (Y0,Z0,A1,B1,C1,D1) Q0 G1).bind fun r5=>
   az (
    iter (X:=tO) (β:=tM) (Q0.length+(R0.length+(S0.length+(T0.natAbs+(V0.length+(W0.natAbs+(X0.natAbs+(H1.length+(Int.natAbs ((H1.length:Int))+(Int.natAbs (0:Int)+(Y0.length+(Z0.length+(A1.length+(B1.natAbs+(C1.natAbs+(D1.length+(E1.natAbs+(F1.natAbs+(r5.1.length+(I1.length+2)))))))))))))))))))) (Q0,R0,S0,T0,V0,W0,X0,H1,(H1.length:Int),0,Y0,Z0,A1,B1,C1,D1,E1,F1,r5.1,I1,()) (kg)) fun (J1,K1,L1,M1,N1,O1,P1,Q1,R1,S1,T1,U1,V1,W1,X1,_)=>
   again (J1,K1,L1,M1,N1,w64 (O1+1),P1,Q1,R1,S1,T1,U1,V1,W1,X1,())
 else
  some (.inr (C,O,()))
def Dv (a0:aj) (a1:List aa) (a2:aF) (a3:List ai):Option ((List aR)×(List (Int×Int))×Unit):=
 az (
  iter (X:=rJ) (β:=vY) (a1.length+(a3.length+(List.length ([]:List aR)+(a3.length+(Int.natAbs ((a3.length:Int))+(Int.natAbs (0:Int)+(a0.1.length+(a0.2.1.length+(a0.2.2.1.length+(a0.2.2.2.1.natAbs+(a0.2.2.2.2.1.natAbs+(a0.2.2.2.2.2.length+(a2.1.natAbs+(a2.2.natAbs+(List.length ([]:List (Int×Int))+2))))))))))))))) (a1,a3,[],a3,(a3.length:Int),0,a0.1,a0.2.1,a0.2.2.1,a0.2.2.2.1,a0.2.2.2.2.1,a0.2.2.2.2.2,a2.1,a2.2,[],()) (lS)) fun v15=>
 some (v15.1,v15.2.1,())
def Hi (a0:aj) (a1:List aa) (a2:aF) (a3:List ai):Option ((List aR)×Int×Unit):=
 (vV a0 a1 a2 a3).bind fun r1=>
 bif r1.1 != 0 then
  some ([],r1.1,())
 else
  (Dv a0 a1 a2 a3).bind fun r2=>
  some (r2.1,0,())
abbrev pe:Type:=(List Bys)×(List ai)×Int×Int×Bys×Bys×Bys×Int×Int×(List aH)×(List aa)×Int×Int×(List ai)×(List (Int×(List ax)))×(List (Int×aO))×(List aR)×Unit
abbrev o9:Type:=(((List Bys)×Int×Unit) ⊕ ((List Bys)×Unit))
def mc (x1:pe) (again:pe→Option o9):Option o9:=
 match x1 with
 | (A,B,C,D,E,F,G,H,I,J,K,L,M,N,O,P,Q,_)=>
 bif decide (D<C) then
  (idx B D).bind fun y2=>
  (fK ((E,F,G,H,I,J),K,(L,M),N,O,P,Q,()) D).bind fun r3=>
  bif ((r3.1.2.2.2.2.2.2.1.length:Int))==((Q.length:Int)) then
   chk (decide (((A.length)+1)*16≤140737488355328)&&decide ((A.length)+1≤maxLen)) <|
   again (A++[y2.1],B,C,w64 (D+1),r3.1.1.1,r3.1.1.2.1,r3.1.1.2.2.1,r3.1.1.2.2.2.1,r3.1.1.2.2.2.2.1,r3.1.1.2.2.2.2.2,r3.1.2.1,r3.1.2.2.1.1,r3.1.2.2.1.2,r3.1.2.2.2.1,r3.1.2.2.2.2.1,r3.1.2.2.2.2.2.1,r3.1.2.2.2.2.2.2.1,())
  else
   again (A,B,C,w64 (D+1),r3.1.1.1,r3.1.1.2.1,r3.1.1.2.2.1,r3.1.1.2.2.2.1,r3.1.1.2.2.2.2.1,r3.1.1.2.2.2.2.2,r3.1.2.1,r3.1.2.2.1.1,r3.1.2.2.1.2,r3.1.2.2.2.1,r3.1.2.2.2.2.1,r3.1.2.2.2.2.2.1,r3.1.2.2.2.2.2.2.1,())
 else
  some (.inr (A,()))
def AJ (a0:aj) (a1:List aa) (a2:aF) (a3:List ai):Option ((List Bys)×Int×Unit):=
 KB (nG a0 a1 a2 a3) (fun r1=>
  bif r1.2.1 != 0 then
   some ([],r1.2.1,())
  else
   none) (
  (q7 a0 a1 a2 a3).bind fun r2=>
  bif r2.2.1 != 0 then
   some ([],r2.2.1,())
  else
   az (
    iter (X:=pe) (β:=o9) (List.length ([]:List Bys)+(a3.length+(Int.natAbs ((a3.length:Int))+(Int.natAbs (0:Int)+(r2.1.1.1.length+(r2.1.1.2.1.length+(r2.1.1.2.2.1.length+(r2.1.1.2.2.2.1.natAbs+(r2.1.1.2.2.2.2.1.natAbs+(r2.1.1.2.2.2.2.2.length+(r2.1.2.1.length+(r2.1.2.2.1.1.natAbs+(r2.1.2.2.1.2.natAbs+(r2.1.2.2.2.1.length+(r2.1.2.2.2.2.1.length+(r2.1.2.2.2.2.2.1.length+(r2.1.2.2.2.2.2.2.1.length+2))))))))))))))))) ([],a3,(a3.length:Int),0,r2.1.1.1,r2.1.1.2.1,r2.1.1.2.2.1,r2.1.1.2.2.2.1,r2.1.1.2.2.2.2.1,r2.1.1.2.2.2.2.2,r2.1.2.1,r2.1.2.2.1.1,r2.1.2.2.1.2,r2.1.2.2.2.1,r2.1.2.2.2.2.1,r2.1.2.2.2.2.2.1,r2.1.2.2.2.2.2.2.1,()) (mc)) fun v6=>
   some (v6.1,0,()))
abbrev pW:Type:=(List Bys)×Int×Bool×(List ai)×Int×Int×Int×Int×Bys×Bys×Int×Int×Int×Bool×(List aV)×(List aD)×(List bI)×(List aR)×Unit
abbrev pV:Type:=((((List Bys)×Int×Unit) ⊕ ((List Bys)×Unit)) ⊕ ((List Bys)×Bool×(List ai)×Int×Int×Bys×Bys×Int×Int×Int×Bool×(List aV)×(List aD)×(List bI)×(List aR)×Unit))
def mB (x1:pW) (again:pW→Option pV):Option pV:=
 match x1 with
 | (A,B,C,D,E,F,G,H,I,J,K,L,M,N,O,P,Q,R,_)=>
 bif decide (H<G) then
  chk (decide (0≤H)&&decide (H<(R.length:Int))) <|
  (R[H.toNat]?).bind fun y2=>
  (
   bif C then
    some (y2.1 != B,())
   else
    some (false,())).bind fun v3=>
  again (A,B,v3.1,D,E,F,G,w64 (H+1),I,J,K,L,M,N,O,P,Q,R,())
 else
  some (.inr (A,C,D,E,F,I,J,K,L,M,N,O,P,Q,R,()))
abbrev rG:Type:=(List Bys)×(List ai)×Int×Int×(List aR)×Unit
abbrev rF:Type:=(((List Bys)×Int×Unit) ⊕ ((List Bys)×Unit))
def nD (x1:rG) (again:rG→Option rF):Option rF:=
 match x1 with
 | (A,B,C,D,E,_)=>
 bif decide (D<C) then
  (idx B D).bind fun y2=>
  az (
   iter (X:=pW) (β:=pV) (A.length+(D.natAbs+(B.length+(C.natAbs+(D.natAbs+(Int.natAbs ((E.length:Int))+(Int.natAbs (0:Int)+(y2.1.length+(y2.2.1.length+(y2.2.2.1.natAbs+(y2.2.2.2.1.natAbs+(y2.2.2.2.2.1.natAbs+(y2.2.2.2.2.2.2.1.length+(y2.2.2.2.2.2.2.2.1.length+(y2.2.2.2.2.2.2.2.2.length+(E.length+2)))))))))))))))) (A,D,true,B,C,D,(E.length:Int),0,y2.1,y2.2.1,y2.2.2.1,y2.2.2.2.1,y2.2.2.2.2.1,y2.2.2.2.2.2.1,y2.2.2.2.2.2.2.1,y2.2.2.2.2.2.2.2.1,y2.2.2.2.2.2.2.2.2,E,()) (mB)) fun (F,G,H,I,J,K,_,_,_,_,_,_,_,_,L,_)=>
  bif G then
   chk (decide (((F.length)+1)*16≤140737488355328)&&decide ((F.length)+1≤maxLen)) <|
   again (F++[K],H,I,w64 (J+1),L,())
  else
   again (F,H,I,w64 (J+1),L,())
 else
  some (.inr (A,()))
def CE (a0:aj) (a1:List aa) (a2:aF) (a3:List ai):Option ((List Bys)×Int×Unit):=
 (vV a0 a1 a2 a3).bind fun r1=>
 bif r1.1 != 0 then
  some ([],r1.1,())
 else
  (Dv a0 a1 a2 a3).bind fun r2=>
  az (
   iter (X:=rG) (β:=rF) (List.length ([]:List Bys)+(a3.length+(Int.natAbs ((a3.length:Int))+(Int.natAbs (0:Int)+(r2.1.length+2))))) ([],a3,(a3.length:Int),0,r2.1,()) (nD)) fun v9=>
  some (v9.1,0,())
def jI (a0:aj) (a1:List aa) (a2:aF) (a3:List ai):Option (Bool×Unit):=
 (Ep a0 a1 a2 a3).bind fun r1=>
 (Hi a0 a1 a2 a3).bind fun r2=>
 (iI a2).bind fun r3=>
 (lR a2).bind fun r4=>
 bif r3.1 != r4.1 then
  some (false,())
 else
  bif r1.2.1 != r2.2.1 then
   some (false,())
  else
   (jv r1.1 r2.1).bind fun r5=>
   bif !r5.1 then
    some (false,())
   else
    (AJ a0 a1 a2 a3).bind fun r6=>
    (CE a0 a1 a2 a3).bind fun r7=>
    (
     bif r6.2.1==r7.2.1 then
      Option.bind (oA r6.1 r7.1) fun r8=>
      bif r8.1 then
       Option.bind (M4) fun r9=>
       some (r9.1,())
      else
       some (false,())
     else
      some (false,())).bind fun v10=>
    some (v10.1,())
end Go.Md
end
