/-
  The plain models of the functions that the laws reach, second part. No condition.
-/
import Derived.Test.YtcpmaicaibdafaaGreatDoorWm
import Derived.Lib.Bytealg
import Derived.Lib.Repeat
import Derived.Lib.ItoaNum
set_option linter.all false
namespace Go.Md
open Go.Dn
def strings_Compare (a b:Bys):Option (Int×Unit):=some (Lib.compareBytes a b,())
abbrev gp:Ty:=(.st (.pair .str cA))
abbrev aV:Type:=Bys×ah
abbrev jy:Ty:=(.st (.pair .bool (.pair cA .str)))
abbrev bI:Type:=Bool×ah×Bys
abbrev fB:Ty:=(.st (.pair tI (.pair tI (.pair .str (.pair cA (.pair .str (.pair cA (.pair tI (.pair (.slice jy) .str)))))))))
abbrev aD:Type:=Int×Int×Bys×ah×Bys×ah×Int×(List bI)×Bys
abbrev aC:Ty:=(.st (.pair .str (.pair .str (.pair tI (.pair tI (.pair tI (.pair .bool (.pair (.slice gp) (.pair (.slice fB) (.slice jy))))))))))
abbrev ai:Type:=Bys×Bys×Int×Int×Int×Bool×(List aV)×(List aD)×(List bI)
def Ff (a0:Int):Option (Bool×Unit):=
 (bO a0 1 6).bind fun r1=>
 some (!r1.1,())
abbrev pG:Type:=(List aV)×(List aV)×Int×Int×Unit
abbrev vF:Type:=((Int×Unit) ⊕ Unit)
def pF (x1:pG) (again:pG→Option vF):Option vF:=
 match x1 with
 | (A,B,C,D,_)=>
 bif decide (D<C) then
  (idx B D).bind fun y2=>
  (cW y2.1).bind fun r3=>
  bif !r3.1 then
   some (.inl (5,()))
  else
   bif decide (D>0) then
    (idx A (w64 (D - 1))).bind fun y4=>
    bif Op.bytesLess y2.1 y4.1||y2.1==y4.1 then
     some (.inl (8,()))
    else
     (cD y2.2).bind fun r5=>
     bif r5.1 != 0 then
      some (.inl (r5.1,()))
     else
      bif decide (y2.2.1<0) then
       some (.inl (1,()))
      else
       (eH y2.2 100).bind fun r6=>
       bif !r6.1 then
        some (.inl (1,()))
       else
        again (A,B,C,w64 (D+1),())
   else
    (cD y2.2).bind fun r7=>
    bif r7.1 != 0 then
     some (.inl (r7.1,()))
    else
     bif decide (y2.2.1<0) then
      some (.inl (1,()))
     else
      (eH y2.2 100).bind fun r8=>
      bif !r8.1 then
       some (.inl (1,()))
      else
       again (A,B,C,w64 (D+1),())
 else
  some (.inr ())
def mg (a0:List aV):Option (Int×Unit):=
 bif ((a0.length:Int))==0 then
  some (9,())
 else
  bif decide (((a0.length:Int))>20) then
   some (2,())
  else
   az (
    iter (X:=pG) (β:=vF) (a0.length+(a0.length+(Int.natAbs ((a0.length:Int))+(Int.natAbs (0:Int)+2)))) (a0,a0,(a0.length:Int),0,()) (pF)) fun _=>
   some (0,())
abbrev Cb:Type:=Int×Int×Int×Unit
abbrev Ca:Type:=((Int×Unit) ⊕ (Int×Unit))
def TG (x1:Cb) (again:Cb→Option Ca):Option Ca:=
 bif decide (x1.2.2.1<x1.2.1) then
  again (w64 (x1.1*10),x1.2.1,w64 (x1.2.2.1+1),())
 else
  some (.inr (x1.1,()))
def CC (a0:Int):Option (Int×Unit):=
 az (
  iter (X:=Cb) (β:=Ca) (Int.natAbs (1:Int)+(a0.natAbs+(Int.natAbs (0:Int)+2))) (1,a0,0,()) (TG)) fun v2=>
 some (v2.1,())
def rB (a0:ah) (a1:Int) (a2:Int):Option (Bool×Unit):=
 bif decide (a0.2≤a1) then
  bif decide (a0.1≥0) then
   (CC a0.2).bind fun r1=>
   some (decide (a0.1≤(w64 (a2*r1.1))),())
  else
   some (false,())
 else
  some (false,())
def jd (a0:ah):Option (Int×Unit):=
 (cD a0).bind fun r1=>
 bif r1.1 != 0 then
  some (r1.1,())
 else
  (rB a0 4 1000000000).bind fun r2=>
  bif !r2.1 then
   some (1,())
  else
   some (0,())
def DO (a0:aV) (a1:Bys):Option (Int×Unit):=
 (strings_Compare a0.1 a1).bind fun r1=>
 some (r1.1,())
abbrev cQ:Type:=(List aV)×Bys×Unit×Int×Int×Int×Unit
abbrev fq:Type:=((Int×Bool×Unit) ⊕ ((List aV)×Bys×Unit×Int×Int×Unit))
def fo (x1:cQ) (again:cQ→Option fq):Option fq:=
 match x1 with
 | (A,B,C,D,E,F,_)=>
 bif decide (E<F) then
  let n2:Int:=w64 (Int.fdiv (cn (w64 (E+F))) (2 ^ 1))
  (idx A n2).bind fun y3=>
  (DO y3 B).bind fun r4=>
  bif decide (r4.1<0) then
   again (A,B,C,D,w64 (n2+1),F,())
  else
   again (A,B,C,D,E,n2,())
 else
  some (.inr (A,B,C,D,E,()))
def dV (a0:List aV) (a1:Bys) (a2:Unit):Option (Int×Bool×Unit):=
 az (
  iter (X:=cQ) (β:=fq) (a0.length+(a1.length+(Int.natAbs ((a0.length:Int))+(Int.natAbs (0:Int)+(Int.natAbs ((a0.length:Int))+2))))) (a0,a1,a2,(a0.length:Int),0,(a0.length:Int),()) (fo)) fun (A,B,_,C,D,_)=>
 bif decide (D<C) then
  (idx A D).bind fun y6=>
  (DO y6 B).bind fun r7=>
  some (D,r7.1==0,())
 else
  some (D,false,())
def Cw (a0:List aV) (a1:Bys):Option (Int×Bool×Unit):=
 (dV a0 a1 ()).bind fun r1=>
 some (r1.1,r1.2.1,())
def iN (a0:ai) (a1:Bys):Option (Bool×Unit):=
 (Cw a0.2.2.2.2.2.2.1 a1).bind fun r1=>
 some (r1.2.1,())
abbrev og:Type:=Bool×(List bI)×Int×Int×Bys×Bys×Int×Int×Int×Bool×(List aV)×(List aD)×(List bI)×Unit
abbrev ux:Type:=((Int×Unit) ⊕ Unit)
def oe (x1:og) (again:og→Option ux):Option ux:=
 match x1 with
 | (A,B,C,D,E,F,G,H,I,J,K,L,M,_)=>
 bif decide (D<C) then
  (idx B D).bind fun y2=>
  (cD y2.2.1).bind fun r3=>
  bif r3.1 != 0 then
   some (.inl (r3.1,()))
  else
   bif y2.2.1.1==0 then
    some (.inl (13,()))
   else
    bif y2.1 then
     (eH y2.2.1 100).bind fun r4=>
     az (γ:=(Bool×(List bI)×Int×Int×Bool×Bys×Bys×Int×Int×Int×Bool×(List aV)×(List aD)×(List bI)×Bool×Int×Int×Bys×Unit)) (
      bif !r4.1 then
       some (.inr (A,B,C,D, !r4.1,E,F,G,H,I,J,K,L,M,y2.1,y2.2.1.1,y2.2.1.2,y2.2.2,()))
      else
       bif !y2.1 then
        (eH y2.2.1 1000000000).bind fun r5=>
        bif !r5.1 then
         some (.inr (A,B,C,D,true,E,F,G,H,I,J,K,L,M,y2.1,y2.2.1.1,y2.2.1.2,y2.2.2,()))
        else
         some (.inr (A,B,C,D,decide (y2.2.1.2>H),E,F,G,H,I,J,K,L,M,y2.1,y2.2.1.1,y2.2.1.2,y2.2.2,()))
       else
        some (.inr (A,B,C,D,false,E,F,G,H,I,J,K,L,M,y2.1,y2.2.1.1,y2.2.1.2,y2.2.2,()))) fun (N,O,P,Q,R,S,T,U,V,W,X,Y,Z,A0,_,_,_,B0,_)=>
     bif R then
      some (.inl (1,()))
     else
      bif N then
       bif !(B0==[]) then
        some (.inl (3,()))
       else
        bif !N then
         bif !(B0==[]) then
          (iN (S,T,U,V,W,X,Y,Z,A0) B0).bind fun r7=>
          bif !r7.1 then
           some (.inl (5,()))
          else
           again (N,O,P,w64 (Q+1),S,T,U,V,W,X,Y,Z,A0,())
         else
          again (N,O,P,w64 (Q+1),S,T,U,V,W,X,Y,Z,A0,())
        else
         again (N,O,P,w64 (Q+1),S,T,U,V,W,X,Y,Z,A0,())
      else
       bif !N then
        bif !(B0==[]) then
         (iN (S,T,U,V,W,X,Y,Z,A0) B0).bind fun r8=>
         bif !r8.1 then
          some (.inl (5,()))
         else
          again (N,O,P,w64 (Q+1),S,T,U,V,W,X,Y,Z,A0,())
        else
         again (N,O,P,w64 (Q+1),S,T,U,V,W,X,Y,Z,A0,())
       else
        again (N,O,P,w64 (Q+1),S,T,U,V,W,X,Y,Z,A0,())
    else
     az (γ:=(Bool×(List bI)×Int×Int×Bool×Bys×Bys×Int×Int×Int×Bool×(List aV)×(List aD)×(List bI)×Bool×Int×Int×Bys×Unit)) (
      bif !y2.1 then
       (eH y2.2.1 1000000000).bind fun r9=>
       bif !r9.1 then
        some (.inr (A,B,C,D,true,E,F,G,H,I,J,K,L,M,y2.1,y2.2.1.1,y2.2.1.2,y2.2.2,()))
       else
        some (.inr (A,B,C,D,decide (y2.2.1.2>H),E,F,G,H,I,J,K,L,M,y2.1,y2.2.1.1,y2.2.1.2,y2.2.2,()))
      else
       some (.inr (A,B,C,D,false,E,F,G,H,I,J,K,L,M,y2.1,y2.2.1.1,y2.2.1.2,y2.2.2,()))) fun (C0,D0,E0,F0,G0,H0,I0,J0,K0,L0,M0,N0,O0,P0,_,_,_,Q0,_)=>
     bif G0 then
      some (.inl (1,()))
     else
      bif C0 then
       bif !(Q0==[]) then
        some (.inl (3,()))
       else
        bif !C0 then
         bif !(Q0==[]) then
          (iN (H0,I0,J0,K0,L0,M0,N0,O0,P0) Q0).bind fun r11=>
          bif !r11.1 then
           some (.inl (5,()))
          else
           again (C0,D0,E0,w64 (F0+1),H0,I0,J0,K0,L0,M0,N0,O0,P0,())
         else
          again (C0,D0,E0,w64 (F0+1),H0,I0,J0,K0,L0,M0,N0,O0,P0,())
        else
         again (C0,D0,E0,w64 (F0+1),H0,I0,J0,K0,L0,M0,N0,O0,P0,())
      else
       bif !C0 then
        bif !(Q0==[]) then
         (iN (H0,I0,J0,K0,L0,M0,N0,O0,P0) Q0).bind fun r12=>
         bif !r12.1 then
          some (.inl (5,()))
         else
          again (C0,D0,E0,w64 (F0+1),H0,I0,J0,K0,L0,M0,N0,O0,P0,())
        else
         again (C0,D0,E0,w64 (F0+1),H0,I0,J0,K0,L0,M0,N0,O0,P0,())
       else
        again (C0,D0,E0,w64 (F0+1),H0,I0,J0,K0,L0,M0,N0,O0,P0,())
 else
  some (.inr ())
def iZ (a0:ai) (a1:List bI) (a2:Bool):Option (Int×Unit):=
 bif decide (((a1.length:Int))>20) then
  some (2,())
 else
  az (
   iter (X:=og) (β:=ux) (a1.length+(Int.natAbs ((a1.length:Int))+(Int.natAbs (0:Int)+(a0.1.length+(a0.2.1.length+(a0.2.2.1.natAbs+(a0.2.2.2.1.natAbs+(a0.2.2.2.2.1.natAbs+(a0.2.2.2.2.2.2.1.length+(a0.2.2.2.2.2.2.2.1.length+(a0.2.2.2.2.2.2.2.2.length+2))))))))))) (a2,a1,(a1.length:Int),0,a0.1,a0.2.1,a0.2.2.1,a0.2.2.2.1,a0.2.2.2.2.1,a0.2.2.2.2.2.1,a0.2.2.2.2.2.2.1,a0.2.2.2.2.2.2.2.1,a0.2.2.2.2.2.2.2.2,()) (oe)) fun _=>
  some (0,())
def qZ (a0:ai) (a1:Int):Option (Int×Unit):=
 (idx a0.2.2.2.2.2.2.2.1 a1).bind fun y1=>
 (bO y1.1 1 99999).bind fun r2=>
 bif r2.1 then
  some (1,())
 else
  bif decide (a1>0) then
   (idx a0.2.2.2.2.2.2.2.1 (w64 (a1 - 1))).bind fun y3=>
   bif decide (y1.1≤y3.1) then
    some (8,())
   else
    (bO y1.2.1 1 99999).bind fun r4=>
    bif r4.1 then
     some (1,())
    else
     (cW y1.2.2.1).bind fun r5=>
     bif !r5.1 then
      some (5,())
     else
      (cD y1.2.2.2.1).bind fun r6=>
      bif r6.1 != 0 then
       some (r6.1,())
      else
       bif decide (y1.2.2.2.1.2>3) then
        some (1,())
       else
        (eH y1.2.2.2.1 1000000000).bind fun r7=>
        bif !r7.1 then
         some (1,())
        else
         bif y1.2.2.2.1.1==0 then
          some (13,())
         else
          (cW y1.2.2.2.2.1).bind fun r8=>
          bif !r8.1 then
           some (5,())
          else
           (jd y1.2.2.2.2.2.1).bind fun r9=>
           bif r9.1 != 0 then
            some (r9.1,())
           else
            (bO y1.2.2.2.2.2.2.1 1 100000).bind fun r10=>
            bif r10.1 then
             some (1,())
            else
             (iZ a0 y1.2.2.2.2.2.2.2.1 true).bind fun r11=>
             bif r11.1 != 0 then
              some (r11.1,())
             else
              (iN a0 y1.2.2.2.2.2.2.2.2).bind fun r12=>
              bif !r12.1 then
               some (5,())
              else
               some (0,())
  else
   (bO y1.2.1 1 99999).bind fun r13=>
   bif r13.1 then
    some (1,())
   else
    (cW y1.2.2.1).bind fun r14=>
    bif !r14.1 then
     some (5,())
    else
     (cD y1.2.2.2.1).bind fun r15=>
     bif r15.1 != 0 then
      some (r15.1,())
     else
      bif decide (y1.2.2.2.1.2>3) then
       some (1,())
      else
       (eH y1.2.2.2.1 1000000000).bind fun r16=>
       bif !r16.1 then
        some (1,())
       else
        bif y1.2.2.2.1.1==0 then
         some (13,())
        else
         (cW y1.2.2.2.2.1).bind fun r17=>
         bif !r17.1 then
          some (5,())
         else
          (jd y1.2.2.2.2.2.1).bind fun r18=>
          bif r18.1 != 0 then
           some (r18.1,())
          else
           (bO y1.2.2.2.2.2.2.1 1 100000).bind fun r19=>
           bif r19.1 then
            some (1,())
           else
            (iZ a0 y1.2.2.2.2.2.2.2.1 true).bind fun r20=>
            bif r20.1 != 0 then
             some (r20.1,())
            else
             (iN a0 y1.2.2.2.2.2.2.2.2).bind fun r21=>
             bif !r21.1 then
              some (5,())
             else
              some (0,())
abbrev qW:Type:=Int×Int×Bys×Bys×Int×Int×Int×Bool×(List aV)×(List aD)×(List bI)×Unit
abbrev qV:Type:=((Int×Unit) ⊕ (Bys×Bys×Int×Int×Int×Bool×(List aV)×(List aD)×(List bI)×Unit))
def l9 (x1:qW) (again:qW→Option qV):Option qV:=
 match x1 with
 | (A,B,C,D,E,F,G,H,I,J,K,_)=>
 bif decide (B<A) then
  (qZ (C,D,E,F,G,H,I,J,K) B).bind fun r2=>
  bif r2.1 != 0 then
   some (.inl (r2.1,()))
  else
   again (A,w64 (B+1),C,D,E,F,G,H,I,J,K,())
 else
  some (.inr (C,D,E,F,G,H,I,J,K,()))
def mM (a0:ai):Option (Int×Unit):=
 (cW a0.1).bind fun r1=>
 bif !r1.1 then
  some (5,())
 else
  (cW a0.2.1).bind fun r2=>
  bif !r2.1 then
   some (5,())
  else
   (jZ a0.2.2.1).bind fun r3=>
   bif !r3.1 then
    some (1,())
   else
    (bO a0.2.2.2.1 0 4).bind fun r4=>
    bif r4.1 then
     some (1,())
    else
     (Ff a0.2.2.2.2.1).bind fun r5=>
     bif !r5.1 then
      some (4,())
     else
      (mg a0.2.2.2.2.2.2.1).bind fun r6=>
      bif r6.1 != 0 then
       some (r6.1,())
      else
       bif ((a0.2.2.2.2.2.2.2.1.length:Int))==0 then
        some (9,())
       else
        bif decide (((a0.2.2.2.2.2.2.2.1.length:Int))>500) then
         some (2,())
        else
         az (
          iter (X:=qW) (β:=qV) (Int.natAbs ((a0.2.2.2.2.2.2.2.1.length:Int))+(Int.natAbs (0:Int)+(a0.1.length+(a0.2.1.length+(a0.2.2.1.natAbs+(a0.2.2.2.1.natAbs+(a0.2.2.2.2.1.natAbs+(a0.2.2.2.2.2.2.1.length+(a0.2.2.2.2.2.2.2.1.length+(a0.2.2.2.2.2.2.2.2.length+2)))))))))) ((a0.2.2.2.2.2.2.2.1.length:Int),0,a0.1,a0.2.1,a0.2.2.1,a0.2.2.2.1,a0.2.2.2.2.1,a0.2.2.2.2.2.1,a0.2.2.2.2.2.2.1,a0.2.2.2.2.2.2.2.1,a0.2.2.2.2.2.2.2.2,()) (l9)) fun (A,B,C,D,E,F,G,H,I,_)=>
         (iZ (A,B,C,D,E,F,G,H,I) I false).bind fun r10=>
         some (r10.1,())
abbrev l6:Type:=Int×Int×Int×(List Int)×Int×Int×(List Int)×Int×Int×Bool×(List Int)×Bool×(List Int)×Bool×(List Int)×(List Int)×Unit
abbrev wP:Type:=(((aO×Unit) ⊕ (Bool×(List Int)×Bool×(List Int)×Bool×(List Int)×(List Int)×Unit)) ⊕ (Int×Int×(List Int)×Int×Int×Bool×(List Int)×Bool×(List Int)×Bool×(List Int)×(List Int)×Unit))
def qc (x1:l6) (again:l6→Option wP):Option wP:=
 match x1 with
 | (A,B,C,D,E,F,G,H,I,J,K,L,M,N,O,P,_)=>
 bif decide (I<H) then
  (idx G I).bind fun y2=>
  chk (decide (0≤(w64 (A+I)))&&decide ((w64 (A+I))<(P.length:Int))) <|
  (P[(w64 (A+I)).toNat]?).bind fun y3=>
  let n4:Int:=cn ((cn y3)+(cn ((cn B)*(cn y2))))
  chk (decide (0≤(w64 (A+I)))&&decide ((w64 (A+I))<(P.length:Int))) <|
  (P[(w64 (A+I)).toNat]?).bind fun _=>
  again (A,B,Int.fdiv (cn (C+n4)) (2 ^ 32),D,E,F,G,H,w64 (I+1),J,K,L,M,N,O,List.set P (w64 (A+I)).toNat (mL (cn (C+n4))),())
 else
  some (.inr (A,C,D,E,F,J,K,L,M,N,O,P,()))
abbrev lZ:Type:=(List Int)×Int×Int×Bool×(List Int)×Bool×(List Int)×Bool×(List Int)×(List Int)×Unit
abbrev wO:Type:=((aO×Unit) ⊕ (Bool×(List Int)×Bool×(List Int)×Bool×(List Int)×(List Int)×Unit))
def qb (x1:lZ) (again:lZ→Option wO):Option wO:=
 match x1 with
 | (A,B,C,D,E,F,G,H,I,J,_)=>
 bif decide (C<B) then
  (idx A C).bind fun y2=>
  az (
   iter (X:=l6) (β:=wP) (C.natAbs+(y2.natAbs+(Int.natAbs (0:Int)+(A.length+(B.natAbs+(C.natAbs+(G.length+(Int.natAbs ((G.length:Int))+(Int.natAbs (0:Int)+(E.length+(G.length+(I.length+(J.length+2))))))))))))) (C,y2,0,A,B,C,G,(G.length:Int),0,D,E,F,G,H,I,J,()) (qc)) fun (K,L,M,N,O,P,Q,R,S,T,U,V,_)=>
  chk (decide (0≤(w64 (K+((S.length:Int)))))&&decide ((w64 (K+((S.length:Int))))<(V.length:Int))) <|
  (V[(w64 (K+((S.length:Int)))).toNat]?).bind fun _=>
  again (M,N,w64 (O+1),P,Q,R,S,T,U,List.set V (w64 (K+((S.length:Int)))).toNat (mL L),())
 else
  some (.inr (D,E,F,G,H,I,J,()))
def gq (a0:aO) (a1:aO):Option (aO×Unit):=
 chk (decide (0≤(w64 (((a0.2.length:Int))+((a1.2.length:Int)))))&&decide ((w64 (((a0.2.length:Int))+((a1.2.length:Int))))≤(w64 (((a0.2.length:Int))+((a1.2.length:Int)))))&&decide ((4:Int)*(w64 (((a0.2.length:Int))+((a1.2.length:Int))))≤281474976710656)&&decide ((w64 (((a0.2.length:Int))+((a1.2.length:Int))))≤9223372036854775807)) <|
 az (
  iter (X:=lZ) (β:=wO) (a0.2.length+(Int.natAbs ((a0.2.length:Int))+(Int.natAbs (0:Int)+(a0.2.length+(a1.2.length+(List.length ([]:List Int)+(List.length ((List.replicate (Int.toNat (w64 (((a0.2.length:Int))+((a1.2.length:Int))))) 0):List Int)+2))))))) (a0.2,(a0.2.length:Int),0,a0.1,a0.2,a1.1,a1.2,false,[],List.replicate (Int.toNat (w64 (((a0.2.length:Int))+((a1.2.length:Int))))) 0,()) (qb)) fun v10=>
 (iX (!(v10.1==v10.2.2.1)) v10.2.2.2.2.2.2.1).bind fun r11=>
 some (r11.1,())
abbrev rW:Type:=Int×Int×Bool×(List Int)×Bool×(List Int)×Unit
abbrev Cn:Type:=((aO×Unit) ⊕ (Bool×(List Int)×Bool×(List Int)×Unit))
def xF (x1:rW) (again:rW→Option Cn):Option Cn:=
 match x1 with
 | (A,B,C,D,E,F,_)=>
 bif decide (B<A) then
  (kU 10).bind fun r2=>
  (gq (E,F) r2.1).bind fun r3=>
  again (A,w64 (B+1),C,D,r3.1.1,r3.1.2,())
 else
  some (.inr (C,D,E,F,()))
def CW (a0:Int):Option (aO×Unit):=
 (kU 1).bind fun r1=>
 az (
  iter (X:=rW) (β:=Cn) (a0.natAbs+(Int.natAbs (0:Int)+(List.length ([]:List Int)+(r1.1.2.length+2)))) (a0,0,false,[],r1.1.1,r1.1.2,()) (xF)) fun v5=>
 some ((v5.2.2.1,v5.2.2.2.1),())
abbrev Cp:Type:=(List Int)×(List Int)×Int×(List Int)×Int×Int×Unit
abbrev Co:Type:=(((List Int)×Unit) ⊕ ((List Int)×Int×Unit))
def Uf (x1:Cp) (again:Cp→Option Co):Option Co:=
 match x1 with
 | (A,B,C,D,E,F,_)=>
 bif decide (F<E) then
  (idx D F).bind fun y2=>
  az (γ:=((List Int)×(List Int)×Int×(List Int)×Int×Int×Unit)) (
   bif decide (F<((A.length:Int))) then
    (idx A F).bind fun y3=>
    let n4:Int:=cn ((cn (C+(cn y2)))+(cn y3))
    some (.inr (A,B,n4,D,E,F,()))
   else
    some (.inr (A,B,cn (C+(cn y2)),D,E,F,()))) fun (G,H,I,J,K,L,_)=>
  chk (decide (((H.length)+1)*4≤140737488355328)&&decide ((H.length)+1≤maxLen)) <|
  again (G,H++[(mL I)],Int.fdiv I (2 ^ 32),J,K,w64 (L+1),())
 else
  some (.inr (B,C,()))
def IB (a0:List Int) (a1:List Int):Option ((List Int)×Unit):=
 az (γ:=((List Int)×(List Int)×Unit)) (
  bif decide (((a0.length:Int))<((a1.length:Int))) then
   some (.inr (a1,a0,()))
  else
   some (.inr (a0,a1,()))) fun (A,B,_)=>
 chk (decide (0≤(0:Int))&&decide ((0:Int)≤(w64 (((A.length:Int))+1)))&&decide ((4:Int)*(w64 (((A.length:Int))+1))≤281474976710656)&&decide ((w64 (((A.length:Int))+1))≤9223372036854775807)) <|
 az (
  iter (X:=Cp) (β:=Co) (B.length+(List.length ([]:List Int)+(Int.natAbs (0:Int)+(A.length+(Int.natAbs ((A.length:Int))+(Int.natAbs (0:Int)+2)))))) (B,[],0,A,(A.length:Int),0,()) (Uf)) fun (C,D,_)=>
 chk (decide (((C.length)+1)*4≤140737488355328)&&decide ((C.length)+1≤maxLen)) <|
 some (C++[(mL D)],())
def nF (a0:aO) (a1:aO):Option (aO×Unit):=
 bif a0.1==a1.1 then
  (IB a0.2 a1.2).bind fun r1=>
  (iX a0.1 r1.1).bind fun r2=>
  some (r2.1,())
 else
  (tZ a0.2 a1.2).bind fun r3=>
  bif decide (r3.1≥0) then
   (xG a0.2 a1.2).bind fun r4=>
   (iX a0.1 r4.1).bind fun r5=>
   some (r5.1,())
  else
   (xG a1.2 a0.2).bind fun r6=>
   (iX a1.1 r6.1).bind fun r7=>
   some (r7.1,())
def rV (a0:aO) (a1:aO):Option (aO×Unit):=
 (qa a1).bind fun r1=>
 (nF a0 r1.1).bind fun r2=>
 some (r2.1,())
def mW (a0:aO) (a1:aO):Option (Int×Unit):=
 (rV a0 a1).bind fun r1=>
 (jr r1.1).bind fun r2=>
 some (r2.1,())
def yT (a0:ah) (a1:Int):Option (aO×Unit):=
 (kU a0.1).bind fun r1=>
 (CW (w64 (a1 - a0.2))).bind fun r2=>
 (gq r1.1 r2.1).bind fun r3=>
 some (r3.1,())
abbrev tP:Type:=Bys×(List aV)×Int×Int×Unit
abbrev DZ:Type:=((Int×Unit) ⊕ Unit)
def zh (x1:tP) (again:tP→Option DZ):Option DZ:=
 match x1 with
 | (A,B,C,D,_)=>
 bif decide (D<C) then
  (idx B D).bind fun y2=>
  bif y2.1==A then
   some (.inl (D,()))
  else
   again (A,B,C,w64 (D+1),())
 else
  some (.inr ())
def gm (a0:ai) (a1:Bys):Option (Int×Unit):=
 az (
  iter (X:=tP) (β:=DZ) (a1.length+(a0.2.2.2.2.2.2.1.length+(Int.natAbs ((a0.2.2.2.2.2.2.1.length:Int))+(Int.natAbs (0:Int)+2)))) (a1,a0.2.2.2.2.2.2.1,(a0.2.2.2.2.2.2.1.length:Int),0,()) (zh)) fun _=>
 some ((-1),())
abbrev pY:Type:=Bool×(List bI)×Int×Int×Bys×Bys×Int×Int×Int×Bool×(List aV)×(List aD)×(List bI)×Unit
abbrev vW:Type:=((Int×Unit) ⊕ Unit)
def pX (x1:pY) (again:pY→Option vW):Option vW:=
 match x1 with
 | (A,B,C,D,E,F,G,H,I,J,K,L,M,_)=>
 bif decide (D<C) then
  (idx B D).bind fun y2=>
  (iG y2.2.1).bind fun r3=>
  bif r3.1 != 0 then
   some (.inl (1,()))
  else
   bif y2.2.1.1==0 then
    some (.inl (13,()))
   else
    bif y2.1 then
     (kO y2.2.1 (-100) 100 9).bind fun r4=>
     bif !r4.1 then
      some (.inl (1,()))
     else
      bif !y2.1 then
       (kO y2.2.1 (-1000000000) 1000000000 H).bind fun r5=>
       bif !r5.1 then
        some (.inl (1,()))
       else
        bif A then
         bif !(y2.2.2==[]) then
          some (.inl (3,()))
         else
          bif !A then
           bif !(y2.2.2==[]) then
            (gm (E,F,G,H,I,J,K,L,M) y2.2.2).bind fun r6=>
            bif decide (r6.1<0) then
             some (.inl (5,()))
            else
             again (A,B,C,w64 (D+1),E,F,G,H,I,J,K,L,M,())
           else
            again (A,B,C,w64 (D+1),E,F,G,H,I,J,K,L,M,())
          else
           again (A,B,C,w64 (D+1),E,F,G,H,I,J,K,L,M,())
        else
         bif !A then
          bif !(y2.2.2==[]) then
           (gm (E,F,G,H,I,J,K,L,M) y2.2.2).bind fun r7=>
           bif decide (r7.1<0) then
            some (.inl (5,()))
           else
            again (A,B,C,w64 (D+1),E,F,G,H,I,J,K,L,M,())
          else
           again (A,B,C,w64 (D+1),E,F,G,H,I,J,K,L,M,())
         else
          again (A,B,C,w64 (D+1),E,F,G,H,I,J,K,L,M,())
      else
       bif A then
        bif !(y2.2.2==[]) then
         some (.inl (3,()))
        else
         bif !A then
          bif !(y2.2.2==[]) then
           (gm (E,F,G,H,I,J,K,L,M) y2.2.2).bind fun r8=>
           bif decide (r8.1<0) then
            some (.inl (5,()))
           else
            again (A,B,C,w64 (D+1),E,F,G,H,I,J,K,L,M,())
          else
           again (A,B,C,w64 (D+1),E,F,G,H,I,J,K,L,M,())
         else
          again (A,B,C,w64 (D+1),E,F,G,H,I,J,K,L,M,())
       else
        bif !A then
         bif !(y2.2.2==[]) then
          (gm (E,F,G,H,I,J,K,L,M) y2.2.2).bind fun r9=>
          bif decide (r9.1<0) then
           some (.inl (5,()))
          else
           again (A,B,C,w64 (D+1),E,F,G,H,I,J,K,L,M,())
         else
          again (A,B,C,w64 (D+1),E,F,G,H,I,J,K,L,M,())
        else
         again (A,B,C,w64 (D+1),E,F,G,H,I,J,K,L,M,())
    else
     bif !y2.1 then
      (kO y2.2.1 (-1000000000) 1000000000 H).bind fun r10=>
      bif !r10.1 then
       some (.inl (1,()))
      else
       bif A then
        bif !(y2.2.2==[]) then
         some (.inl (3,()))
        else
         bif !A then
          bif !(y2.2.2==[]) then
           (gm (E,F,G,H,I,J,K,L,M) y2.2.2).bind fun r11=>
           bif decide (r11.1<0) then
            some (.inl (5,()))
           else
            again (A,B,C,w64 (D+1),E,F,G,H,I,J,K,L,M,())
          else
           again (A,B,C,w64 (D+1),E,F,G,H,I,J,K,L,M,())
         else
          again (A,B,C,w64 (D+1),E,F,G,H,I,J,K,L,M,())
       else
        bif !A then
         bif !(y2.2.2==[]) then
          (gm (E,F,G,H,I,J,K,L,M) y2.2.2).bind fun r12=>
          bif decide (r12.1<0) then
           some (.inl (5,()))
          else
           again (A,B,C,w64 (D+1),E,F,G,H,I,J,K,L,M,())
         else
          again (A,B,C,w64 (D+1),E,F,G,H,I,J,K,L,M,())
        else
         again (A,B,C,w64 (D+1),E,F,G,H,I,J,K,L,M,())
     else
      bif A then
       bif !(y2.2.2==[]) then
        some (.inl (3,()))
       else
        bif !A then
         bif !(y2.2.2==[]) then
          (gm (E,F,G,H,I,J,K,L,M) y2.2.2).bind fun r13=>
          bif decide (r13.1<0) then
           some (.inl (5,()))
          else
           again (A,B,C,w64 (D+1),E,F,G,H,I,J,K,L,M,())
         else
          again (A,B,C,w64 (D+1),E,F,G,H,I,J,K,L,M,())
        else
         again (A,B,C,w64 (D+1),E,F,G,H,I,J,K,L,M,())
      else
       bif !A then
        bif !(y2.2.2==[]) then
         (gm (E,F,G,H,I,J,K,L,M) y2.2.2).bind fun r14=>
         bif decide (r14.1<0) then
          some (.inl (5,()))
         else
          again (A,B,C,w64 (D+1),E,F,G,H,I,J,K,L,M,())
        else
         again (A,B,C,w64 (D+1),E,F,G,H,I,J,K,L,M,())
       else
        again (A,B,C,w64 (D+1),E,F,G,H,I,J,K,L,M,())
 else
  some (.inr ())
def jP (a0:ai) (a1:List bI) (a2:Bool):Option (Int×Unit):=
 bif decide (((a1.length:Int))>20) then
  some (2,())
 else
  az (
   iter (X:=pY) (β:=vW) (a1.length+(Int.natAbs ((a1.length:Int))+(Int.natAbs (0:Int)+(a0.1.length+(a0.2.1.length+(a0.2.2.1.natAbs+(a0.2.2.2.1.natAbs+(a0.2.2.2.2.1.natAbs+(a0.2.2.2.2.2.2.1.length+(a0.2.2.2.2.2.2.2.1.length+(a0.2.2.2.2.2.2.2.2.length+2))))))))))) (a2,a1,(a1.length:Int),0,a0.1,a0.2.1,a0.2.2.1,a0.2.2.2.1,a0.2.2.2.2.1,a0.2.2.2.2.2.1,a0.2.2.2.2.2.2.1,a0.2.2.2.2.2.2.2.1,a0.2.2.2.2.2.2.2.2,()) (pX)) fun _=>
  some (0,())
def tK (a0:ai) (a1:Int):Option (Int×Unit):=
 (idx a0.2.2.2.2.2.2.2.1 a1).bind fun y1=>
 (jQ y1.1 1 99999).bind fun r2=>
 bif !r2.1 then
  some (1,())
 else
  bif decide (a1>0) then
   (idx a0.2.2.2.2.2.2.2.1 (w64 (a1 - 1))).bind fun y3=>
   bif decide (y1.1≤y3.1) then
    some (8,())
   else
    (jQ y1.2.1 1 99999).bind fun r4=>
    bif !r4.1 then
     some (1,())
    else
     (fJ y1.2.2.1).bind fun r5=>
     bif !r5.1 then
      some (5,())
     else
      (kO y1.2.2.2.1 (-1000000000) 1000000000 3).bind fun r6=>
      bif !r6.1 then
       some (1,())
      else
       bif y1.2.2.2.1.1==0 then
        some (13,())
       else
        (fJ y1.2.2.2.2.1).bind fun r7=>
        bif !r7.1 then
         some (5,())
        else
         (kO y1.2.2.2.2.2.1 0 1000000000 4).bind fun r8=>
         bif !r8.1 then
          some (1,())
         else
          (jQ y1.2.2.2.2.2.2.1 1 100000).bind fun r9=>
          bif !r9.1 then
           some (1,())
          else
           (jP a0 y1.2.2.2.2.2.2.2.1 true).bind fun r10=>
           bif r10.1 != 0 then
            some (r10.1,())
           else
            (gm a0 y1.2.2.2.2.2.2.2.2).bind fun r11=>
            bif decide (r11.1<0) then
             some (5,())
            else
             some (0,())
  else
   (jQ y1.2.1 1 99999).bind fun r12=>
   bif !r12.1 then
    some (1,())
   else
    (fJ y1.2.2.1).bind fun r13=>
    bif !r13.1 then
     some (5,())
    else
     (kO y1.2.2.2.1 (-1000000000) 1000000000 3).bind fun r14=>
     bif !r14.1 then
      some (1,())
     else
      bif y1.2.2.2.1.1==0 then
       some (13,())
      else
       (fJ y1.2.2.2.2.1).bind fun r15=>
       bif !r15.1 then
        some (5,())
       else
        (kO y1.2.2.2.2.2.1 0 1000000000 4).bind fun r16=>
        bif !r16.1 then
         some (1,())
        else
         (jQ y1.2.2.2.2.2.2.1 1 100000).bind fun r17=>
         bif !r17.1 then
          some (1,())
         else
          (jP a0 y1.2.2.2.2.2.2.2.1 true).bind fun r18=>
          bif r18.1 != 0 then
           some (r18.1,())
          else
           (gm a0 y1.2.2.2.2.2.2.2.2).bind fun r19=>
           bif decide (r19.1<0) then
            some (5,())
           else
            some (0,())
abbrev sS:Type:=(List aV)×Int×Int×Bys×Bys×Int×Int×Int×Bool×(List aV)×(List aD)×(List bI)×Unit
abbrev sQ:Type:=((Int×Unit) ⊕ (Bys×Bys×Int×Int×Int×Bool×(List aV)×(List aD)×(List bI)×Unit))
def nu (x1:sS) (again:sS→Option sQ):Option sQ:=
 match x1 with
 | (A,B,C,D,E,F,G,H,I,J,K,L,_)=>
 bif decide (C<B) then
  (idx A C).bind fun y2=>
  (fJ y2.1).bind fun r3=>
  bif !r3.1 then
   some (.inl (5,()))
  else
   bif decide (C>0) then
    (idx J (w64 (C - 1))).bind fun y4=>
    bif Op.bytesLess y2.1 y4.1||y2.1==y4.1 then
     some (.inl (8,()))
    else
     (kO y2.2 0 100 9).bind fun r5=>
     bif !r5.1 then
      some (.inl (1,()))
     else
      again (A,B,w64 (C+1),D,E,F,G,H,I,J,K,L,())
   else
    (kO y2.2 0 100 9).bind fun r6=>
    bif !r6.1 then
     some (.inl (1,()))
    else
     again (A,B,w64 (C+1),D,E,F,G,H,I,J,K,L,())
 else
  some (.inr (D,E,F,G,H,I,J,K,L,()))
abbrev sU:Type:=Int×Int×Bys×Bys×Int×Int×Int×Bool×(List aV)×(List aD)×(List bI)×Unit
abbrev sR:Type:=((Int×Unit) ⊕ (Bys×Bys×Int×Int×Int×Bool×(List aV)×(List aD)×(List bI)×Unit))
def nv (x1:sU) (again:sU→Option sR):Option sR:=
 match x1 with
 | (A,B,C,D,E,F,G,H,I,J,K,_)=>
 bif decide (B<A) then
  (tK (C,D,E,F,G,H,I,J,K) B).bind fun r2=>
  bif r2.1 != 0 then
   some (.inl (r2.1,()))
  else
   again (A,w64 (B+1),C,D,E,F,G,H,I,J,K,())
 else
  some (.inr (C,D,E,F,G,H,I,J,K,()))
def sP (a0:ai):Option (Int×Unit):=
 (fJ a0.1).bind fun r1=>
 bif !r1.1 then
  some (5,())
 else
  (fJ a0.2.1).bind fun r2=>
  bif !r2.1 then
   some (5,())
  else
   (we a0.2.2.1).bind fun r3=>
   bif !r3.1 then
    some (1,())
   else
    (jQ a0.2.2.2.1 0 4).bind fun r4=>
    bif !r4.1 then
     some (1,())
    else
     (jQ a0.2.2.2.2.1 1 6).bind fun r5=>
     bif !r5.1 then
      some (4,())
     else
      bif ((a0.2.2.2.2.2.2.1.length:Int))==0 then
       some (9,())
      else
       bif decide (((a0.2.2.2.2.2.2.1.length:Int))>20) then
        some (2,())
       else
        az (
         iter (X:=sS) (β:=sQ) (a0.2.2.2.2.2.2.1.length+(Int.natAbs ((a0.2.2.2.2.2.2.1.length:Int))+(Int.natAbs (0:Int)+(a0.1.length+(a0.2.1.length+(a0.2.2.1.natAbs+(a0.2.2.2.1.natAbs+(a0.2.2.2.2.1.natAbs+(a0.2.2.2.2.2.2.1.length+(a0.2.2.2.2.2.2.2.1.length+(a0.2.2.2.2.2.2.2.2.length+2))))))))))) (a0.2.2.2.2.2.2.1,(a0.2.2.2.2.2.2.1.length:Int),0,a0.1,a0.2.1,a0.2.2.1,a0.2.2.2.1,a0.2.2.2.2.1,a0.2.2.2.2.2.1,a0.2.2.2.2.2.2.1,a0.2.2.2.2.2.2.2.1,a0.2.2.2.2.2.2.2.2,()) (nu)) fun (A,B,C,D,E,F,G,H,I,_)=>
        bif ((H.length:Int))==0 then
         some (9,())
        else
         bif decide (((H.length:Int))>500) then
          some (2,())
         else
          az (
           iter (X:=sU) (β:=sR) (Int.natAbs ((H.length:Int))+(Int.natAbs (0:Int)+(A.length+(B.length+(C.natAbs+(D.natAbs+(E.natAbs+(G.length+(H.length+(I.length+2)))))))))) ((H.length:Int),0,A,B,C,D,E,F,G,H,I,()) (nv)) fun (J,K,L,M,N,O,P,Q,R,_)=>
          (jP (J,K,L,M,N,O,P,Q,R) R false).bind fun r16=>
          some (r16.1,())
end Go.Md
namespace Go.Md
open Go.Dn
abbrev bz:Ty:=(.st (.pair tI (.pair .str (.pair .str (.pair cA (.pair cA (.pair tI (.pair cA (.pair cA (.pair cA cA))))))))))
abbrev ax:Type:=Int×Bys×Bys×ah×ah×Int×ah×ah×ah×ah
def kF (a0:ah) (a1:Bool):Option (Int×Unit):=
 (cD a0).bind fun r1=>
 bif r1.1 != 0 then
  some (r1.1,())
 else
  (rB a0 3 1000000000).bind fun r2=>
  bif !r2.1 then
   some (1,())
  else
   bif a0.1==0 then
    bif !a1 then
     some (1,())
    else
     some (0,())
   else
    some (0,())
abbrev iS:Type:=(List Bys)×(List Bys)×Int×Int×Unit
abbrev qy:Type:=((Bool×Unit) ⊕ Unit)
def lD (x1:iS) (again:iS→Option qy):Option qy:=
 match x1 with
 | (A,B,C,D,_)=>
 bif decide (D<C) then
  (idx A D).bind fun y2=>
  (idx B D).bind fun y3=>
  bif !(y2==y3) then
   some (.inl (false,()))
  else
   again (A,B,C,w64 (D+1),())
 else
  some (.inr ())
def oA (a0:List Bys) (a1:List Bys):Option (Bool×Unit):=
 bif ((a0.length:Int)) != ((a1.length:Int)) then
  some (false,())
 else
  az (
   iter (X:=iS) (β:=qy) (a0.length+(a1.length+(Int.natAbs ((a0.length:Int))+(Int.natAbs (0:Int)+2)))) (a0,a1,(a0.length:Int),0,()) (lD)) fun _=>
  some (true,())
end Go.Md
namespace Go.Md
open Go.Dn
end Go.Md
namespace Go.Md
open Go.Dn
def jB (a0:ah):Option (aO×Unit):=
 (yT a0 9).bind fun r1=>
 some (r1.1,())
end Go.Md
