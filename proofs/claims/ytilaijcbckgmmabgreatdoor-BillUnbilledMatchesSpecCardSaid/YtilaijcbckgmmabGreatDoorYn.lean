/-
  Plain models, second part. No condition.
-/
import Derived.Test.YtilaijcbckgmmabGreatDoorYm
import Derived.Lib.Bytealg
import Derived.Lib.Repeat
import Derived.Lib.ItoaNum
namespace Go.Md
open Go.Dn
def strings_Compare (a b:Bys):Option (Int×Unit):=some (Lib.compareBytes a b,())
abbrev cE:Ty:=(.st (.pair .str cl))
abbrev aD:Type:=Bys×ah
abbrev dL:Ty:=(.st (.pair .bool (.pair cl .str)))
abbrev aQ:Type:=Bool×ah×Bys
abbrev c9:Ty:=(.st (.pair tI (.pair tI (.pair .str (.pair cl (.pair .str (.pair cl (.pair tI (.pair (.slice dL) .str)))))))))
abbrev ay:Type:=Int×Int×Bys×ah×Bys×ah×Int×(List aQ)×Bys
abbrev aA:Ty:=(.st (.pair .str (.pair .str (.pair tI (.pair tI (.pair tI (.pair .bool (.pair (.slice cE) (.pair (.slice c9) (.slice dL))))))))))
abbrev ai:Type:=Bys×Bys×Int×Int×Int×Bool×(List aD)×(List ay)×(List aQ)
def FC (a0:Int):Option (Bool×Unit):=
 (bP a0 1 6).bind fun r1=>
 some (!r1.1,())
abbrev pR:Type:=(List aD)×(List aD)×Int×Int×Unit
abbrev vS:Type:=((Int×Unit) ⊕ Unit)
def pQ (x1:pR) (again:pR->Option vS):Option vS:=
 match x1 with
 | (A,B,C,D,_)=>
 bif decide (D<C) then
  (idx B D).bind fun y2=>
  (cK y2.1).bind fun r3=>
  bif !r3.1 then
   some (.inl (5,()))
  else
   bif decide (D>0) then
    (idx A (w64 (D - 1))).bind fun y4=>
    bif Op.bytesLess y2.1 y4.1||y2.1==y4.1 then
     some (.inl (8,()))
    else
     (cA y2.2).bind fun r5=>
     bif r5.1 != 0 then
      some (.inl (r5.1,()))
     else
      bif decide (y2.2.1<0) then
       some (.inl (1,()))
      else
       (eE y2.2 100).bind fun r6=>
       bif !r6.1 then
        some (.inl (1,()))
       else
        again (A,B,C,w64 (D+1),())
   else
    (cA y2.2).bind fun r7=>
    bif r7.1 != 0 then
     some (.inl (r7.1,()))
    else
     bif decide (y2.2.1<0) then
      some (.inl (1,()))
     else
      (eE y2.2 100).bind fun r8=>
      bif !r8.1 then
       some (.inl (1,()))
      else
       again (A,B,C,w64 (D+1),())
 else
  some (.inr ())
def l8 (a0:List aD):Option (Int×Unit):=
 bif ((a0.length:Int))==0 then
  some (9,())
 else
  bif decide (((a0.length:Int))>20) then
   some (2,())
  else
   aB (
    iter (X:=pR) (β:=vS) (a0.length+(a0.length+(Int.natAbs ((a0.length:Int))+(Int.natAbs (0:Int)+2)))) (a0,a0,(a0.length:Int),0,()) (pQ)) fun _=>
   some (0,())
abbrev Cn:Type:=Int×Int×Int×Unit
abbrev Cm:Type:=((Int×Unit) ⊕ (Int×Unit))
def Ua (x1:Cn) (again:Cn->Option Cm):Option Cm:=
 bif decide (x1.2.2.1<x1.2.1) then
  again (w64 (x1.1*10),x1.2.1,w64 (x1.2.2.1+1),())
 else
  some (.inr (x1.1,()))
def CQ (a0:Int):Option (Int×Unit):=
 aB (
  iter (X:=Cn) (β:=Cm) (Int.natAbs (1:Int)+(a0.natAbs+(Int.natAbs (0:Int)+2))) (1,a0,0,()) (Ua)) fun v2=>
 some (v2.1,())
def rQ (a0:ah) (a1:Int) (a2:Int):Option (Bool×Unit):=
 bif decide (a0.2<=a1) then
  bif decide (a0.1>=0) then
   (CQ a0.2).bind fun r1=>
   some (decide (a0.1<=(w64 (a2*r1.1))),())
  else
   some (false,())
 else
  some (false,())
def iY (a0:ah):Option (Int×Unit):=
 (cA a0).bind fun r1=>
 bif r1.1 != 0 then
  some (r1.1,())
 else
  (rQ a0 4 1000000000).bind fun r2=>
  bif !r2.1 then
   some (1,())
  else
   some (0,())
def D6 (a0:aD) (a1:Bys):Option (Int×Unit):=
 (strings_Compare a0.1 a1).bind fun r1=>
 some (r1.1,())
abbrev cJ:Type:=(List aD)×Bys×Unit×Int×Int×Int×Unit
abbrev fo:Type:=((Int×Bool×Unit) ⊕ ((List aD)×Bys×Unit×Int×Int×Unit))
def fm (x1:cJ) (again:cJ->Option fo):Option fo:=
 match x1 with
 | (A,B,C,D,E,F,_)=>
 bif decide (E<F) then
  let n2:Int:=w64 (Int.fdiv (cn (w64 (E+F))) (2 ^ 1))
  (idx A n2).bind fun y3=>
  (D6 y3 B).bind fun r4=>
  bif decide (r4.1<0) then
   again (A,B,C,D,w64 (n2+1),F,())
  else
   again (A,B,C,D,E,n2,())
 else
  some (.inr (A,B,C,D,E,()))
def dP (a0:List aD) (a1:Bys) (a2:Unit):Option (Int×Bool×Unit):=
 aB (
  iter (X:=cJ) (β:=fo) (a0.length+(a1.length+(Int.natAbs ((a0.length:Int))+(Int.natAbs (0:Int)+(Int.natAbs ((a0.length:Int))+2))))) (a0,a1,a2,(a0.length:Int),0,(a0.length:Int),()) (fm)) fun (A,B,_,C,D,_)=>
 bif decide (D<C) then
  (idx A D).bind fun y6=>
  (D6 y6 B).bind fun r7=>
  some (D,r7.1==0,())
 else
  some (D,false,())
def CL (a0:List aD) (a1:Bys):Option (Int×Bool×Unit):=
 (dP a0 a1 ()).bind fun r1=>
 some (r1.1,r1.2.1,())
def iG (a0:ai) (a1:Bys):Option (Bool×Unit):=
 (CL a0.2.2.2.2.2.2.1 a1).bind fun r1=>
 some (r1.2.1,())
abbrev oG:Type:=Bool×(List aQ)×Int×Int×Bys×Bys×Int×Int×Int×Bool×(List aD)×(List ay)×(List aQ)×Unit
abbrev uK:Type:=((Int×Unit) ⊕ Unit)
def oF (x1:oG) (again:oG->Option uK):Option uK:=
 match x1 with
 | (A,B,C,D,E,F,G,H,I,J,K,L,M,_)=>
 bif decide (D<C) then
  (idx B D).bind fun y2=>
  (cA y2.2.1).bind fun r3=>
  bif r3.1 != 0 then
   some (.inl (r3.1,()))
  else
   bif y2.2.1.1==0 then
    some (.inl (13,()))
   else
    bif y2.1 then
     (eE y2.2.1 100).bind fun r4=>
     aB (γ:=(Bool×(List aQ)×Int×Int×Bool×Bys×Bys×Int×Int×Int×Bool×(List aD)×(List ay)×(List aQ)×Bool×Int×Int×Bys×Unit)) (
      bif !r4.1 then
       some (.inr (A,B,C,D, !r4.1,E,F,G,H,I,J,K,L,M,y2.1,y2.2.1.1,y2.2.1.2,y2.2.2,()))
      else
       bif !y2.1 then
        (eE y2.2.1 1000000000).bind fun r5=>
        bif !r5.1 then
         some (.inr (A,B,C,D,true,E,F,G,H,I,J,K,L,M,y2.1,y2.2.1.1,y2.2.1.2,y2.2.2,()))
        else
         some (.inr (A,B,C,D,decide (y2.2.1.2>H),E,F,G,H,I,J,K,L,M,y2.1,y2.2.1.1,y2.2.1.2,y2.2.2,()))
       else
        some (.inr (A,B,C,D,false,E,F,G,H,I,J,K,L,M,y2.1,y2.2.1.1,y2.2.1.2,y2.2.2,()))) fun (N,O,P,Q,R,S,T,U,V,W,X,Y,Z,A0,_,_,_,B0,_)=>
     bif R then
      some (.inl (1,()))
     else
      bif N then
       bif !(B0==[]) then
        some (.inl (3,()))
       else
        bif !N then
         bif !(B0==[]) then
          (iG (S,T,U,V,W,X,Y,Z,A0) B0).bind fun r7=>
          bif !r7.1 then
           some (.inl (5,()))
          else
           again (N,O,P,w64 (Q+1),S,T,U,V,W,X,Y,Z,A0,())
         else
          again (N,O,P,w64 (Q+1),S,T,U,V,W,X,Y,Z,A0,())
        else
         again (N,O,P,w64 (Q+1),S,T,U,V,W,X,Y,Z,A0,())
      else
       bif !N then
        bif !(B0==[]) then
         (iG (S,T,U,V,W,X,Y,Z,A0) B0).bind fun r8=>
         bif !r8.1 then
          some (.inl (5,()))
         else
          again (N,O,P,w64 (Q+1),S,T,U,V,W,X,Y,Z,A0,())
        else
         again (N,O,P,w64 (Q+1),S,T,U,V,W,X,Y,Z,A0,())
       else
        again (N,O,P,w64 (Q+1),S,T,U,V,W,X,Y,Z,A0,())
    else
     aB (γ:=(Bool×(List aQ)×Int×Int×Bool×Bys×Bys×Int×Int×Int×Bool×(List aD)×(List ay)×(List aQ)×Bool×Int×Int×Bys×Unit)) (
      bif !y2.1 then
       (eE y2.2.1 1000000000).bind fun r9=>
       bif !r9.1 then
        some (.inr (A,B,C,D,true,E,F,G,H,I,J,K,L,M,y2.1,y2.2.1.1,y2.2.1.2,y2.2.2,()))
       else
        some (.inr (A,B,C,D,decide (y2.2.1.2>H),E,F,G,H,I,J,K,L,M,y2.1,y2.2.1.1,y2.2.1.2,y2.2.2,()))
      else
       some (.inr (A,B,C,D,false,E,F,G,H,I,J,K,L,M,y2.1,y2.2.1.1,y2.2.1.2,y2.2.2,()))) fun (C0,D0,E0,F0,G0,H0,I0,J0,K0,L0,M0,N0,O0,P0,_,_,_,Q0,_)=>
     bif G0 then
      some (.inl (1,()))
     else
      bif C0 then
       bif !(Q0==[]) then
        some (.inl (3,()))
       else
        bif !C0 then
         bif !(Q0==[]) then
          (iG (H0,I0,J0,K0,L0,M0,N0,O0,P0) Q0).bind fun r11=>
          bif !r11.1 then
           some (.inl (5,()))
          else
           again (C0,D0,E0,w64 (F0+1),H0,I0,J0,K0,L0,M0,N0,O0,P0,())
         else
          again (C0,D0,E0,w64 (F0+1),H0,I0,J0,K0,L0,M0,N0,O0,P0,())
        else
         again (C0,D0,E0,w64 (F0+1),H0,I0,J0,K0,L0,M0,N0,O0,P0,())
      else
       bif !C0 then
        bif !(Q0==[]) then
         (iG (H0,I0,J0,K0,L0,M0,N0,O0,P0) Q0).bind fun r12=>
         bif !r12.1 then
          some (.inl (5,()))
         else
          again (C0,D0,E0,w64 (F0+1),H0,I0,J0,K0,L0,M0,N0,O0,P0,())
        else
         again (C0,D0,E0,w64 (F0+1),H0,I0,J0,K0,L0,M0,N0,O0,P0,())
       else
        again (C0,D0,E0,w64 (F0+1),H0,I0,J0,K0,L0,M0,N0,O0,P0,())
 else
  some (.inr ())
def iT (a0:ai) (a1:List aQ) (a2:Bool):Option (Int×Unit):=
 bif decide (((a1.length:Int))>20) then
  some (2,())
 else
  aB (
   iter (X:=oG) (β:=uK) (a1.length+(Int.natAbs ((a1.length:Int))+(Int.natAbs (0:Int)+(a0.1.length+(a0.2.1.length+(a0.2.2.1.natAbs+(a0.2.2.2.1.natAbs+(a0.2.2.2.2.1.natAbs+(a0.2.2.2.2.2.2.1.length+(a0.2.2.2.2.2.2.2.1.length+(a0.2.2.2.2.2.2.2.2.length+2))))))))))) (a2,a1,(a1.length:Int),0,a0.1,a0.2.1,a0.2.2.1,a0.2.2.2.1,a0.2.2.2.2.1,a0.2.2.2.2.2.1,a0.2.2.2.2.2.2.1,a0.2.2.2.2.2.2.2.1,a0.2.2.2.2.2.2.2.2,()) (oF)) fun _=>
  some (0,())
def rE (a0:ai) (a1:Int):Option (Int×Unit):=
 (idx a0.2.2.2.2.2.2.2.1 a1).bind fun y1=>
 (bP y1.1 1 99999).bind fun r2=>
 bif r2.1 then
  some (1,())
 else
  bif decide (a1>0) then
   (idx a0.2.2.2.2.2.2.2.1 (w64 (a1 - 1))).bind fun y3=>
   bif decide (y1.1<=y3.1) then
    some (8,())
   else
    (bP y1.2.1 1 99999).bind fun r4=>
    bif r4.1 then
     some (1,())
    else
     (cK y1.2.2.1).bind fun r5=>
     bif !r5.1 then
      some (5,())
     else
      (cA y1.2.2.2.1).bind fun r6=>
      bif r6.1 != 0 then
       some (r6.1,())
      else
       bif decide (y1.2.2.2.1.2>3) then
        some (1,())
       else
        (eE y1.2.2.2.1 1000000000).bind fun r7=>
        bif !r7.1 then
         some (1,())
        else
         bif y1.2.2.2.1.1==0 then
          some (13,())
         else
          (cK y1.2.2.2.2.1).bind fun r8=>
          bif !r8.1 then
           some (5,())
          else
           (iY y1.2.2.2.2.2.1).bind fun r9=>
           bif r9.1 != 0 then
            some (r9.1,())
           else
            (bP y1.2.2.2.2.2.2.1 1 100000).bind fun r10=>
            bif r10.1 then
             some (1,())
            else
             (iT a0 y1.2.2.2.2.2.2.2.1 true).bind fun r11=>
             bif r11.1 != 0 then
              some (r11.1,())
             else
              (iG a0 y1.2.2.2.2.2.2.2.2).bind fun r12=>
              bif !r12.1 then
               some (5,())
              else
               some (0,())
  else
   (bP y1.2.1 1 99999).bind fun r13=>
   bif r13.1 then
    some (1,())
   else
    (cK y1.2.2.1).bind fun r14=>
    bif !r14.1 then
     some (5,())
    else
     (cA y1.2.2.2.1).bind fun r15=>
     bif r15.1 != 0 then
      some (r15.1,())
     else
      bif decide (y1.2.2.2.1.2>3) then
       some (1,())
      else
       (eE y1.2.2.2.1 1000000000).bind fun r16=>
       bif !r16.1 then
        some (1,())
       else
        bif y1.2.2.2.1.1==0 then
         some (13,())
        else
         (cK y1.2.2.2.2.1).bind fun r17=>
         bif !r17.1 then
          some (5,())
         else
          (iY y1.2.2.2.2.2.1).bind fun r18=>
          bif r18.1 != 0 then
           some (r18.1,())
          else
           (bP y1.2.2.2.2.2.2.1 1 100000).bind fun r19=>
           bif r19.1 then
            some (1,())
           else
            (iT a0 y1.2.2.2.2.2.2.2.1 true).bind fun r20=>
            bif r20.1 != 0 then
             some (r20.1,())
            else
             (iG a0 y1.2.2.2.2.2.2.2.2).bind fun r21=>
             bif !r21.1 then
              some (5,())
             else
              some (0,())
abbrev rB:Type:=Int×Int×Bys×Bys×Int×Int×Int×Bool×(List aD)×(List ay)×(List aQ)×Unit
abbrev rA:Type:=((Int×Unit) ⊕ (Bys×Bys×Int×Int×Int×Bool×(List aD)×(List ay)×(List aQ)×Unit))
def l7 (x1:rB) (again:rB->Option rA):Option rA:=
 match x1 with
 | (A,B,C,D,E,F,G,H,I,J,K,_)=>
 bif decide (B<A) then
  (rE (C,D,E,F,G,H,I,J,K) B).bind fun r2=>
  bif r2.1 != 0 then
   some (.inl (r2.1,()))
  else
   again (A,w64 (B+1),C,D,E,F,G,H,I,J,K,())
 else
  some (.inr (C,D,E,F,G,H,I,J,K,()))
def gW (a0:ai):Option (Int×Unit):=
 (cK a0.1).bind fun r1=>
 bif !r1.1 then
  some (5,())
 else
  (cK a0.2.1).bind fun r2=>
  bif !r2.1 then
   some (5,())
  else
   (iw a0.2.2.1).bind fun r3=>
   bif !r3.1 then
    some (1,())
   else
    (bP a0.2.2.2.1 0 4).bind fun r4=>
    bif r4.1 then
     some (1,())
    else
     (FC a0.2.2.2.2.1).bind fun r5=>
     bif !r5.1 then
      some (4,())
     else
      (l8 a0.2.2.2.2.2.2.1).bind fun r6=>
      bif r6.1 != 0 then
       some (r6.1,())
      else
       bif ((a0.2.2.2.2.2.2.2.1.length:Int))==0 then
        some (9,())
       else
        bif decide (((a0.2.2.2.2.2.2.2.1.length:Int))>500) then
         some (2,())
        else
         aB (
          iter (X:=rB) (β:=rA) (Int.natAbs ((a0.2.2.2.2.2.2.2.1.length:Int))+(Int.natAbs (0:Int)+(a0.1.length+(a0.2.1.length+(a0.2.2.1.natAbs+(a0.2.2.2.1.natAbs+(a0.2.2.2.2.1.natAbs+(a0.2.2.2.2.2.2.1.length+(a0.2.2.2.2.2.2.2.1.length+(a0.2.2.2.2.2.2.2.2.length+2)))))))))) ((a0.2.2.2.2.2.2.2.1.length:Int),0,a0.1,a0.2.1,a0.2.2.1,a0.2.2.2.1,a0.2.2.2.2.1,a0.2.2.2.2.2.1,a0.2.2.2.2.2.2.1,a0.2.2.2.2.2.2.2.1,a0.2.2.2.2.2.2.2.2,()) (l7)) fun (A,B,C,D,E,F,G,H,I,_)=>
         (iT (A,B,C,D,E,F,G,H,I) I false).bind fun r10=>
         some (r10.1,())
abbrev lX:Type:=Int×Int×Int×(List Int)×Int×Int×(List Int)×Int×Int×Bool×(List Int)×Bool×(List Int)×Bool×(List Int)×(List Int)×Unit
abbrev xb:Type:=(((aO×Unit) ⊕ (Bool×(List Int)×Bool×(List Int)×Bool×(List Int)×(List Int)×Unit)) ⊕ (Int×Int×(List Int)×Int×Int×Bool×(List Int)×Bool×(List Int)×Bool×(List Int)×(List Int)×Unit))
def qA (x1:lX) (again:lX->Option xb):Option xb:=
 match x1 with
 | (A,B,C,D,E,F,G,H,I,J,K,L,M,N,O,P,_)=>
 bif decide (I<H) then
  (idx G I).bind fun y2=>
  chk (decide (0<=(w64 (A+I)))&&decide ((w64 (A+I))<(P.length:Int))) <|
  (P[(w64 (A+I)).toNat]?).bind fun y3=>
  let n4:Int:=cn ((cn y3)+(cn ((cn B)*(cn y2))))
  chk (decide (0<=(w64 (A+I)))&&decide ((w64 (A+I))<(P.length:Int))) <|
  (P[(w64 (A+I)).toNat]?).bind fun _=>
  again (A,B,Int.fdiv (cn (C+n4)) (2 ^ 32),D,E,F,G,H,w64 (I+1),J,K,L,M,N,O,List.set P (w64 (A+I)).toNat (mJ (cn (C+n4))),())
 else
  some (.inr (A,C,D,E,F,J,K,L,M,N,O,P,()))
abbrev lW:Type:=(List Int)×Int×Int×Bool×(List Int)×Bool×(List Int)×Bool×(List Int)×(List Int)×Unit
abbrev w9:Type:=((aO×Unit) ⊕ (Bool×(List Int)×Bool×(List Int)×Bool×(List Int)×(List Int)×Unit))
def qz (x1:lW) (again:lW->Option w9):Option w9:=
 match x1 with
 | (A,B,C,D,E,F,G,H,I,J,_)=>
 bif decide (C<B) then
  (idx A C).bind fun y2=>
  aB (
   iter (X:=lX) (β:=xb) (C.natAbs+(y2.natAbs+(Int.natAbs (0:Int)+(A.length+(B.natAbs+(C.natAbs+(G.length+(Int.natAbs ((G.length:Int))+(Int.natAbs (0:Int)+(E.length+(G.length+(I.length+(J.length+2))))))))))))) (C,y2,0,A,B,C,G,(G.length:Int),0,D,E,F,G,H,I,J,()) (qA)) fun (K,L,M,N,O,P,Q,R,S,T,U,V,_)=>
  chk (decide (0<=(w64 (K+((S.length:Int)))))&&decide ((w64 (K+((S.length:Int))))<(V.length:Int))) <|
  (V[(w64 (K+((S.length:Int)))).toNat]?).bind fun _=>
  again (M,N,w64 (O+1),P,Q,R,S,T,U,List.set V (w64 (K+((S.length:Int)))).toNat (mJ L),())
 else
  some (.inr (D,E,F,G,H,I,J,()))
def gd (a0:aO) (a1:aO):Option (aO×Unit):=
 chk (decide (0<=(w64 (((a0.2.length:Int))+((a1.2.length:Int)))))&&decide ((w64 (((a0.2.length:Int))+((a1.2.length:Int))))<=(w64 (((a0.2.length:Int))+((a1.2.length:Int)))))&&decide ((4:Int)*(w64 (((a0.2.length:Int))+((a1.2.length:Int))))<=281474976710656)&&decide ((w64 (((a0.2.length:Int))+((a1.2.length:Int))))<=9223372036854775807)) <|
 aB (
  iter (X:=lW) (β:=w9) (a0.2.length+(Int.natAbs ((a0.2.length:Int))+(Int.natAbs (0:Int)+(a0.2.length+(a1.2.length+(List.length ([]:List Int)+(List.length ((List.replicate (Int.toNat (w64 (((a0.2.length:Int))+((a1.2.length:Int))))) 0):List Int)+2))))))) (a0.2,(a0.2.length:Int),0,a0.1,a0.2,a1.1,a1.2,false,[],List.replicate (Int.toNat (w64 (((a0.2.length:Int))+((a1.2.length:Int))))) 0,()) (qz)) fun v10=>
 (iR (!(v10.1==v10.2.2.1)) v10.2.2.2.2.2.2.1).bind fun r11=>
 some (r11.1,())
abbrev sr:Type:=Int×Int×Bool×(List Int)×Bool×(List Int)×Unit
abbrev CB:Type:=((aO×Unit) ⊕ (Bool×(List Int)×Bool×(List Int)×Unit))
def xV (x1:sr) (again:sr->Option CB):Option CB:=
 match x1 with
 | (A,B,C,D,E,F,_)=>
 bif decide (B<A) then
  (ld 10).bind fun r2=>
  (gd (E,F) r2.1).bind fun r3=>
  again (A,w64 (B+1),C,D,r3.1.1,r3.1.2,())
 else
  some (.inr (C,D,E,F,()))
def Dc (a0:Int):Option (aO×Unit):=
 (ld 1).bind fun r1=>
 aB (
  iter (X:=sr) (β:=CB) (a0.natAbs+(Int.natAbs (0:Int)+(List.length ([]:List Int)+(r1.1.2.length+2)))) (a0,0,false,[],r1.1.1,r1.1.2,()) (xV)) fun v5=>
 some ((v5.2.2.1,v5.2.2.2.1),())
abbrev CD:Type:=(List Int)×(List Int)×Int×(List Int)×Int×Int×Unit
abbrev CC:Type:=(((List Int)×Unit) ⊕ ((List Int)×Int×Unit))
def UF (x1:CD) (again:CD->Option CC):Option CC:=
 match x1 with
 | (A,B,C,D,E,F,_)=>
 bif decide (F<E) then
  (idx D F).bind fun y2=>
  aB (γ:=((List Int)×(List Int)×Int×(List Int)×Int×Int×Unit)) (
   bif decide (F<((A.length:Int))) then
    (idx A F).bind fun y3=>
    let n4:Int:=cn ((cn (C+(cn y2)))+(cn y3))
    some (.inr (A,B,n4,D,E,F,()))
   else
    some (.inr (A,B,cn (C+(cn y2)),D,E,F,()))) fun (G,H,I,J,K,L,_)=>
  chk (decide (((H.length)+1)*4<=140737488355328)&&decide ((H.length)+1<=maxLen)) <|
  again (G,H++[(mJ I)],Int.fdiv I (2 ^ 32),J,K,w64 (L+1),())
 else
  some (.inr (B,C,()))
def IY (a0:List Int) (a1:List Int):Option ((List Int)×Unit):=
 aB (γ:=((List Int)×(List Int)×Unit)) (
  bif decide (((a0.length:Int))<((a1.length:Int))) then
   some (.inr (a1,a0,()))
  else
   some (.inr (a0,a1,()))) fun (A,B,_)=>
 chk (decide (0<=(0:Int))&&decide ((0:Int)<=(w64 (((A.length:Int))+1)))&&decide ((4:Int)*(w64 (((A.length:Int))+1))<=281474976710656)&&decide ((w64 (((A.length:Int))+1))<=9223372036854775807)) <|
 aB (
  iter (X:=CD) (β:=CC) (B.length+(List.length ([]:List Int)+(Int.natAbs (0:Int)+(A.length+(Int.natAbs ((A.length:Int))+(Int.natAbs (0:Int)+2)))))) (B,[],0,A,(A.length:Int),0,()) (UF)) fun (C,D,_)=>
 chk (decide (((C.length)+1)*4<=140737488355328)&&decide ((C.length)+1<=maxLen)) <|
 some (C++[(mJ D)],())
def nJ (a0:aO) (a1:aO):Option (aO×Unit):=
 bif a0.1==a1.1 then
  (IY a0.2 a1.2).bind fun r1=>
  (iR a0.1 r1.1).bind fun r2=>
  some (r2.1,())
 else
  (uv a0.2 a1.2).bind fun r3=>
  bif decide (r3.1>=0) then
   (xW a0.2 a1.2).bind fun r4=>
   (iR a0.1 r4.1).bind fun r5=>
   some (r5.1,())
  else
   (xW a1.2 a0.2).bind fun r6=>
   (iR a1.1 r6.1).bind fun r7=>
   some (r7.1,())
def nI (a0:aO) (a1:aO):Option (aO×Unit):=
 (qy a1).bind fun r1=>
 (nJ a0 r1.1).bind fun r2=>
 some (r2.1,())
def mX (a0:aO) (a1:aO):Option (Int×Unit):=
 (nI a0 a1).bind fun r1=>
 (fS r1.1).bind fun r2=>
 some (r2.1,())
def zj (a0:ah) (a1:Int):Option (aO×Unit):=
 (ld a0.1).bind fun r1=>
 (Dc (w64 (a1 - a0.2))).bind fun r2=>
 (gd r1.1 r2.1).bind fun r3=>
 some (r3.1,())
abbrev uf:Type:=Bys×(List aD)×Int×Int×Unit
abbrev Ei:Type:=((Int×Unit) ⊕ Unit)
def zy (x1:uf) (again:uf->Option Ei):Option Ei:=
 match x1 with
 | (A,B,C,D,_)=>
 bif decide (D<C) then
  (idx B D).bind fun y2=>
  bif y2.1==A then
   some (.inl (D,()))
  else
   again (A,B,C,w64 (D+1),())
 else
  some (.inr ())
def fZ (a0:ai) (a1:Bys):Option (Int×Unit):=
 aB (
  iter (X:=uf) (β:=Ei) (a1.length+(a0.2.2.2.2.2.2.1.length+(Int.natAbs ((a0.2.2.2.2.2.2.1.length:Int))+(Int.natAbs (0:Int)+2)))) (a1,a0.2.2.2.2.2.2.1,(a0.2.2.2.2.2.2.1.length:Int),0,()) (zy)) fun _=>
 some ((-1),())
abbrev qs:Type:=Bool×(List aQ)×Int×Int×Bys×Bys×Int×Int×Int×Bool×(List aD)×(List ay)×(List aQ)×Unit
abbrev wA:Type:=((Int×Unit) ⊕ Unit)
def qq (x1:qs) (again:qs->Option wA):Option wA:=
 match x1 with
 | (A,B,C,D,E,F,G,H,I,J,K,L,M,_)=>
 bif decide (D<C) then
  (idx B D).bind fun y2=>
  (iB y2.2.1).bind fun r3=>
  bif r3.1 != 0 then
   some (.inl (1,()))
  else
   bif y2.2.1.1==0 then
    some (.inl (13,()))
   else
    bif y2.1 then
     (kU y2.2.1 (-100) 100 9).bind fun r4=>
     bif !r4.1 then
      some (.inl (1,()))
     else
      bif !y2.1 then
       (kU y2.2.1 (-1000000000) 1000000000 H).bind fun r5=>
       bif !r5.1 then
        some (.inl (1,()))
       else
        bif A then
         bif !(y2.2.2==[]) then
          some (.inl (3,()))
         else
          bif !A then
           bif !(y2.2.2==[]) then
            (fZ (E,F,G,H,I,J,K,L,M) y2.2.2).bind fun r6=>
            bif decide (r6.1<0) then
             some (.inl (5,()))
            else
             again (A,B,C,w64 (D+1),E,F,G,H,I,J,K,L,M,())
           else
            again (A,B,C,w64 (D+1),E,F,G,H,I,J,K,L,M,())
          else
           again (A,B,C,w64 (D+1),E,F,G,H,I,J,K,L,M,())
        else
         bif !A then
          bif !(y2.2.2==[]) then
           (fZ (E,F,G,H,I,J,K,L,M) y2.2.2).bind fun r7=>
           bif decide (r7.1<0) then
            some (.inl (5,()))
           else
            again (A,B,C,w64 (D+1),E,F,G,H,I,J,K,L,M,())
          else
           again (A,B,C,w64 (D+1),E,F,G,H,I,J,K,L,M,())
         else
          again (A,B,C,w64 (D+1),E,F,G,H,I,J,K,L,M,())
      else
       bif A then
        bif !(y2.2.2==[]) then
         some (.inl (3,()))
        else
         bif !A then
          bif !(y2.2.2==[]) then
           (fZ (E,F,G,H,I,J,K,L,M) y2.2.2).bind fun r8=>
           bif decide (r8.1<0) then
            some (.inl (5,()))
           else
            again (A,B,C,w64 (D+1),E,F,G,H,I,J,K,L,M,())
          else
           again (A,B,C,w64 (D+1),E,F,G,H,I,J,K,L,M,())
         else
          again (A,B,C,w64 (D+1),E,F,G,H,I,J,K,L,M,())
       else
        bif !A then
         bif !(y2.2.2==[]) then
          (fZ (E,F,G,H,I,J,K,L,M) y2.2.2).bind fun r9=>
          bif decide (r9.1<0) then
           some (.inl (5,()))
          else
           again (A,B,C,w64 (D+1),E,F,G,H,I,J,K,L,M,())
         else
          again (A,B,C,w64 (D+1),E,F,G,H,I,J,K,L,M,())
        else
         again (A,B,C,w64 (D+1),E,F,G,H,I,J,K,L,M,())
    else
     bif !y2.1 then
      (kU y2.2.1 (-1000000000) 1000000000 H).bind fun r10=>
      bif !r10.1 then
       some (.inl (1,()))
      else
       bif A then
        bif !(y2.2.2==[]) then
         some (.inl (3,()))
        else
         bif !A then
          bif !(y2.2.2==[]) then
           (fZ (E,F,G,H,I,J,K,L,M) y2.2.2).bind fun r11=>
           bif decide (r11.1<0) then
            some (.inl (5,()))
           else
            again (A,B,C,w64 (D+1),E,F,G,H,I,J,K,L,M,())
          else
           again (A,B,C,w64 (D+1),E,F,G,H,I,J,K,L,M,())
         else
          again (A,B,C,w64 (D+1),E,F,G,H,I,J,K,L,M,())
       else
        bif !A then
         bif !(y2.2.2==[]) then
          (fZ (E,F,G,H,I,J,K,L,M) y2.2.2).bind fun r12=>
          bif decide (r12.1<0) then
           some (.inl (5,()))
          else
           again (A,B,C,w64 (D+1),E,F,G,H,I,J,K,L,M,())
         else
          again (A,B,C,w64 (D+1),E,F,G,H,I,J,K,L,M,())
        else
         again (A,B,C,w64 (D+1),E,F,G,H,I,J,K,L,M,())
     else
      bif A then
       bif !(y2.2.2==[]) then
        some (.inl (3,()))
       else
        bif !A then
         bif !(y2.2.2==[]) then
          (fZ (E,F,G,H,I,J,K,L,M) y2.2.2).bind fun r13=>
          bif decide (r13.1<0) then
           some (.inl (5,()))
          else
           again (A,B,C,w64 (D+1),E,F,G,H,I,J,K,L,M,())
         else
          again (A,B,C,w64 (D+1),E,F,G,H,I,J,K,L,M,())
        else
         again (A,B,C,w64 (D+1),E,F,G,H,I,J,K,L,M,())
      else
       bif !A then
        bif !(y2.2.2==[]) then
         (fZ (E,F,G,H,I,J,K,L,M) y2.2.2).bind fun r14=>
         bif decide (r14.1<0) then
          some (.inl (5,()))
         else
          again (A,B,C,w64 (D+1),E,F,G,H,I,J,K,L,M,())
        else
         again (A,B,C,w64 (D+1),E,F,G,H,I,J,K,L,M,())
       else
        again (A,B,C,w64 (D+1),E,F,G,H,I,J,K,L,M,())
 else
  some (.inr ())
def jM (a0:ai) (a1:List aQ) (a2:Bool):Option (Int×Unit):=
 bif decide (((a1.length:Int))>20) then
  some (2,())
 else
  aB (
   iter (X:=qs) (β:=wA) (a1.length+(Int.natAbs ((a1.length:Int))+(Int.natAbs (0:Int)+(a0.1.length+(a0.2.1.length+(a0.2.2.1.natAbs+(a0.2.2.2.1.natAbs+(a0.2.2.2.2.1.natAbs+(a0.2.2.2.2.2.2.1.length+(a0.2.2.2.2.2.2.2.1.length+(a0.2.2.2.2.2.2.2.2.length+2))))))))))) (a2,a1,(a1.length:Int),0,a0.1,a0.2.1,a0.2.2.1,a0.2.2.2.1,a0.2.2.2.2.1,a0.2.2.2.2.2.1,a0.2.2.2.2.2.2.1,a0.2.2.2.2.2.2.2.1,a0.2.2.2.2.2.2.2.2,()) (qq)) fun _=>
  some (0,())
def tX (a0:ai) (a1:Int):Option (Int×Unit):=
 (idx a0.2.2.2.2.2.2.2.1 a1).bind fun y1=>
 (jN y1.1 1 99999).bind fun r2=>
 bif !r2.1 then
  some (1,())
 else
  bif decide (a1>0) then
   (idx a0.2.2.2.2.2.2.2.1 (w64 (a1 - 1))).bind fun y3=>
   bif decide (y1.1<=y3.1) then
    some (8,())
   else
    (jN y1.2.1 1 99999).bind fun r4=>
    bif !r4.1 then
     some (1,())
    else
     (eX y1.2.2.1).bind fun r5=>
     bif !r5.1 then
      some (5,())
     else
      (kU y1.2.2.2.1 (-1000000000) 1000000000 3).bind fun r6=>
      bif !r6.1 then
       some (1,())
      else
       bif y1.2.2.2.1.1==0 then
        some (13,())
       else
        (eX y1.2.2.2.2.1).bind fun r7=>
        bif !r7.1 then
         some (5,())
        else
         (kU y1.2.2.2.2.2.1 0 1000000000 4).bind fun r8=>
         bif !r8.1 then
          some (1,())
         else
          (jN y1.2.2.2.2.2.2.1 1 100000).bind fun r9=>
          bif !r9.1 then
           some (1,())
          else
           (jM a0 y1.2.2.2.2.2.2.2.1 true).bind fun r10=>
           bif r10.1 != 0 then
            some (r10.1,())
           else
            (fZ a0 y1.2.2.2.2.2.2.2.2).bind fun r11=>
            bif decide (r11.1<0) then
             some (5,())
            else
             some (0,())
  else
   (jN y1.2.1 1 99999).bind fun r12=>
   bif !r12.1 then
    some (1,())
   else
    (eX y1.2.2.1).bind fun r13=>
    bif !r13.1 then
     some (5,())
    else
     (kU y1.2.2.2.1 (-1000000000) 1000000000 3).bind fun r14=>
     bif !r14.1 then
      some (1,())
     else
      bif y1.2.2.2.1.1==0 then
       some (13,())
      else
       (eX y1.2.2.2.2.1).bind fun r15=>
       bif !r15.1 then
        some (5,())
       else
        (kU y1.2.2.2.2.2.1 0 1000000000 4).bind fun r16=>
        bif !r16.1 then
         some (1,())
        else
         (jN y1.2.2.2.2.2.2.1 1 100000).bind fun r17=>
         bif !r17.1 then
          some (1,())
         else
          (jM a0 y1.2.2.2.2.2.2.2.1 true).bind fun r18=>
          bif r18.1 != 0 then
           some (r18.1,())
          else
           (fZ a0 y1.2.2.2.2.2.2.2.2).bind fun r19=>
           bif decide (r19.1<0) then
            some (5,())
           else
            some (0,())
abbrev s7:Type:=(List aD)×Int×Int×Bys×Bys×Int×Int×Int×Bool×(List aD)×(List ay)×(List aQ)×Unit
abbrev s5:Type:=((Int×Unit) ⊕ (Bys×Bys×Int×Int×Int×Bool×(List aD)×(List ay)×(List aQ)×Unit))
def nv (x1:s7) (again:s7->Option s5):Option s5:=
 match x1 with
 | (A,B,C,D,E,F,G,H,I,J,K,L,_)=>
 bif decide (C<B) then
  (idx A C).bind fun y2=>
  (eX y2.1).bind fun r3=>
  bif !r3.1 then
   some (.inl (5,()))
  else
   bif decide (C>0) then
    (idx J (w64 (C - 1))).bind fun y4=>
    bif Op.bytesLess y2.1 y4.1||y2.1==y4.1 then
     some (.inl (8,()))
    else
     (kU y2.2 0 100 9).bind fun r5=>
     bif !r5.1 then
      some (.inl (1,()))
     else
      again (A,B,w64 (C+1),D,E,F,G,H,I,J,K,L,())
   else
    (kU y2.2 0 100 9).bind fun r6=>
    bif !r6.1 then
     some (.inl (1,()))
    else
     again (A,B,w64 (C+1),D,E,F,G,H,I,J,K,L,())
 else
  some (.inr (D,E,F,G,H,I,J,K,L,()))
abbrev s8:Type:=Int×Int×Bys×Bys×Int×Int×Int×Bool×(List aD)×(List ay)×(List aQ)×Unit
abbrev s6:Type:=((Int×Unit) ⊕ (Bys×Bys×Int×Int×Int×Bool×(List aD)×(List ay)×(List aQ)×Unit))
def nw (x1:s8) (again:s8->Option s6):Option s6:=
 match x1 with
 | (A,B,C,D,E,F,G,H,I,J,K,_)=>
 bif decide (B<A) then
  (tX (C,D,E,F,G,H,I,J,K) B).bind fun r2=>
  bif r2.1 != 0 then
   some (.inl (r2.1,()))
  else
   again (A,w64 (B+1),C,D,E,F,G,H,I,J,K,())
 else
  some (.inr (C,D,E,F,G,H,I,J,K,()))
def kS (a0:ai):Option (Int×Unit):=
 (eX a0.1).bind fun r1=>
 bif !r1.1 then
  some (5,())
 else
  (eX a0.2.1).bind fun r2=>
  bif !r2.1 then
   some (5,())
  else
   (td a0.2.2.1).bind fun r3=>
   bif !r3.1 then
    some (1,())
   else
    (jN a0.2.2.2.1 0 4).bind fun r4=>
    bif !r4.1 then
     some (1,())
    else
     (jN a0.2.2.2.2.1 1 6).bind fun r5=>
     bif !r5.1 then
      some (4,())
     else
      bif ((a0.2.2.2.2.2.2.1.length:Int))==0 then
       some (9,())
      else
       bif decide (((a0.2.2.2.2.2.2.1.length:Int))>20) then
        some (2,())
       else
        aB (
         iter (X:=s7) (β:=s5) (a0.2.2.2.2.2.2.1.length+(Int.natAbs ((a0.2.2.2.2.2.2.1.length:Int))+(Int.natAbs (0:Int)+(a0.1.length+(a0.2.1.length+(a0.2.2.1.natAbs+(a0.2.2.2.1.natAbs+(a0.2.2.2.2.1.natAbs+(a0.2.2.2.2.2.2.1.length+(a0.2.2.2.2.2.2.2.1.length+(a0.2.2.2.2.2.2.2.2.length+2))))))))))) (a0.2.2.2.2.2.2.1,(a0.2.2.2.2.2.2.1.length:Int),0,a0.1,a0.2.1,a0.2.2.1,a0.2.2.2.1,a0.2.2.2.2.1,a0.2.2.2.2.2.1,a0.2.2.2.2.2.2.1,a0.2.2.2.2.2.2.2.1,a0.2.2.2.2.2.2.2.2,()) (nv)) fun (A,B,C,D,E,F,G,H,I,_)=>
        bif ((H.length:Int))==0 then
         some (9,())
        else
         bif decide (((H.length:Int))>500) then
          some (2,())
         else
          aB (
           iter (X:=s8) (β:=s6) (Int.natAbs ((H.length:Int))+(Int.natAbs (0:Int)+(A.length+(B.length+(C.natAbs+(D.natAbs+(E.natAbs+(G.length+(H.length+(I.length+2)))))))))) ((H.length:Int),0,A,B,C,D,E,F,G,H,I,()) (nw)) fun (J,K,L,M,N,O,P,Q,R,_)=>
          (jM (J,K,L,M,N,O,P,Q,R) R false).bind fun r16=>
          some (r16.1,())
end Go.Md
namespace Go.Md
open Go.Dn
abbrev lE:Ty:=(.st (.pair tI (.pair cl tI)))
abbrev dh:Type:=Int×ah×Int
abbrev bg:Ty:=(.st (.pair tI (.pair .str (.pair .str (.pair cl (.pair cl (.pair tI (.pair cl (.pair cl (.pair cl cl))))))))))
abbrev aq:Type:=Int×Bys×Bys×ah×ah×Int×ah×ah×ah×ah
def kJ (a0:ah) (a1:Bool):Option (Int×Unit):=
 (cA a0).bind fun r1=>
 bif r1.1 != 0 then
  some (r1.1,())
 else
  (rQ a0 3 1000000000).bind fun r2=>
  bif !r2.1 then
   some (1,())
  else
   bif a0.1==0 then
    bif !a1 then
     some (1,())
    else
     some (0,())
   else
    some (0,())
end Go.Md
namespace Go.Md
open Go.Dn
end Go.Md
namespace Go.Md
open Go.Dn
def jw (a0:ah):Option (aO×Unit):=
 (zj a0 9).bind fun r1=>
 some (r1.1,())
end Go.Md
