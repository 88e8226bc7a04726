/-
  The plain models of the functions that the laws reach, second part. No condition.
-/
import Derived.Test.YtcpmaicaibdafaaGreatDoorYm
import Derived.Lib.Bytealg
import Derived.Lib.Repeat
import Derived.Lib.ItoaNum
set_option linter.all false
namespace Go.Md
open Go.Dn
def strings_Compare (a b:Bys):Option (Int×Unit):=some (Lib.compareBytes a b,())
abbrev dZ:Ty:=(.st (.pair .str bR))
abbrev aR:Type:=Bys×ah
abbrev iZ:Ty:=(.st (.pair .bool (.pair bR .str)))
abbrev bK:Type:=Bool×ah×Bys
abbrev eM:Ty:=(.st (.pair tI (.pair tI (.pair .str (.pair bR (.pair .str (.pair bR (.pair tI (.pair (.slice iZ) .str)))))))))
abbrev aD:Type:=Int×Int×Bys×ah×Bys×ah×Int×(List bK)×Bys
abbrev aU:Ty:=(.st (.pair .str (.pair .str (.pair tI (.pair tI (.pair tI (.pair .bool (.pair (.slice dZ) (.pair (.slice eM) (.slice iZ))))))))))
abbrev aj:Type:=Bys×Bys×Int×Int×Int×Bool×(List aR)×(List aD)×(List bK)
def BC (a0:Int):Option (Bool×Unit):=
 (bD a0 1 6).bind fun r1=>
 some (!r1.1,())
abbrev og:Type:=(List aR)×(List aR)×Int×Int×Unit
abbrev tJ:Type:=((Int×Unit) ⊕ Unit)
def oe (x1:og) (again:og→Option tJ):Option tJ:=
 match x1 with
 | (A,B,C,D,_)=>
 bif decide (D<C) then
  (idx B D).bind fun y2=>
  (bW y2.1).bind fun r3=>
  bif !r3.1 then
   some (.inl (5,()))
  else
   bif decide (D>0) then
    (idx A (w64 (D - 1))).bind fun y4=>
    bif Op.bytesLess y2.1 y4.1||y2.1==y4.1 then
     some (.inl (8,()))
    else
     (bU y2.2).bind fun r5=>
     bif r5.1 != 0 then
      some (.inl (r5.1,()))
     else
      bif decide (y2.2.1<0) then
       some (.inl (1,()))
      else
       (dW y2.2 100).bind fun r6=>
       bif !r6.1 then
        some (.inl (1,()))
       else
        again (A,B,C,w64 (D+1),())
   else
    (bU y2.2).bind fun r7=>
    bif r7.1 != 0 then
     some (.inl (r7.1,()))
    else
     bif decide (y2.2.1<0) then
      some (.inl (1,()))
     else
      (dW y2.2 100).bind fun r8=>
      bif !r8.1 then
       some (.inl (1,()))
      else
       again (A,B,C,w64 (D+1),())
 else
  some (.inr ())
def lB (a0:List aR):Option (Int×Unit):=
 bif ((a0.length:Int))==0 then
  some (9,())
 else
  bif decide (((a0.length:Int))>20) then
   some (2,())
  else
   aK (
    iter (X:=og) (β:=tJ) (a0.length+(a0.length+(Int.natAbs ((a0.length:Int))+(Int.natAbs (0:Int)+2)))) (a0,a0,(a0.length:Int),0,()) (oe)) fun _=>
   some (0,())
abbrev zb:Type:=Int×Int×Int×Unit
abbrev za:Type:=((Int×Unit) ⊕ (Int×Unit))
def Od (x1:zb) (again:zb→Option za):Option za:=
 bif decide (x1.2.2.1<x1.2.1) then
  again (w64 (x1.1*10),x1.2.1,w64 (x1.2.2.1+1),())
 else
  some (.inr (x1.1,()))
def zK (a0:Int):Option (Int×Unit):=
 aK (
  iter (X:=zb) (β:=za) (Int.natAbs (1:Int)+(a0.natAbs+(Int.natAbs (0:Int)+2))) (1,a0,0,()) (Od)) fun v2=>
 some (v2.1,())
def qs (a0:ah) (a1:Int) (a2:Int):Option (Bool×Unit):=
 bif decide (a0.2≤a1) then
  bif decide (a0.1≥0) then
   (zK a0.2).bind fun r1=>
   some (decide (a0.1≤(w64 (a2*r1.1))),())
  else
   some (false,())
 else
  some (false,())
def iM (a0:ah):Option (Int×Unit):=
 (bU a0).bind fun r1=>
 bif r1.1 != 0 then
  some (r1.1,())
 else
  (qs a0 4 1000000000).bind fun r2=>
  bif !r2.1 then
   some (1,())
  else
   some (0,())
def AA (a0:aR) (a1:Bys):Option (Int×Unit):=
 (strings_Compare a0.1 a1).bind fun r1=>
 some (r1.1,())
abbrev cg:Type:=(List aR)×Bys×Unit×Int×Int×Int×Unit
abbrev eH:Type:=((Int×Bool×Unit) ⊕ ((List aR)×Bys×Unit×Int×Int×Unit))
def eG (x1:cg) (again:cg→Option eH):Option eH:=
 match x1 with
 | (A,B,C,D,E,F,_)=>
 bif decide (E<F) then
  let n2:Int:=w64 (Int.fdiv (bO (w64 (E+F))) (2 ^ 1))
  (idx A n2).bind fun y3=>
  (AA y3 B).bind fun r4=>
  bif decide (r4.1<0) then
   again (A,B,C,D,w64 (n2+1),F,())
  else
   again (A,B,C,D,E,n2,())
 else
  some (.inr (A,B,C,D,E,()))
def dx (a0:List aR) (a1:Bys) (a2:Unit):Option (Int×Bool×Unit):=
 aK (
  iter (X:=cg) (β:=eH) (a0.length+(a1.length+(Int.natAbs ((a0.length:Int))+(Int.natAbs (0:Int)+(Int.natAbs ((a0.length:Int))+2))))) (a0,a1,a2,(a0.length:Int),0,(a0.length:Int),()) (eG)) fun (A,B,_,C,D,_)=>
 bif decide (D<C) then
  (idx A D).bind fun y6=>
  (AA y6 B).bind fun r7=>
  some (D,r7.1==0,())
 else
  some (D,false,())
def zG (a0:List aR) (a1:Bys):Option (Int×Bool×Unit):=
 (dx a0 a1 ()).bind fun r1=>
 some (r1.1,r1.2.1,())
def ir (a0:aj) (a1:Bys):Option (Bool×Unit):=
 (zG a0.2.2.2.2.2.2.1 a1).bind fun r1=>
 some (r1.2.1,())
abbrev nA:Type:=Bool×(List bK)×Int×Int×Bys×Bys×Int×Int×Int×Bool×(List aR)×(List aD)×(List bK)×Unit
abbrev sB:Type:=((Int×Unit) ⊕ Unit)
def ny (x1:nA) (again:nA→Option sB):Option sB:=
 match x1 with
 | (A,B,C,D,E,F,G,H,I,J,K,L,M,_)=>
 bif decide (D<C) then
  (idx B D).bind fun y2=>
  (bU y2.2.1).bind fun r3=>
  bif r3.1 != 0 then
   some (.inl (r3.1,()))
  else
   bif y2.2.1.1==0 then
    some (.inl (13,()))
   else
    bif y2.1 then
     (dW y2.2.1 100).bind fun r4=>
     aK (γ:=(Bool×(List bK)×Int×Int×Bool×Bys×Bys×Int×Int×Int×Bool×(List aR)×(List aD)×(List bK)×Bool×Int×Int×Bys×Unit)) (
      bif !r4.1 then
       some (.inr (A,B,C,D, !r4.1,E,F,G,H,I,J,K,L,M,y2.1,y2.2.1.1,y2.2.1.2,y2.2.2,()))
      else
       bif !y2.1 then
        (dW y2.2.1 1000000000).bind fun r5=>
        bif !r5.1 then
         some (.inr (A,B,C,D,true,E,F,G,H,I,J,K,L,M,y2.1,y2.2.1.1,y2.2.1.2,y2.2.2,()))
        else
         some (.inr (A,B,C,D,decide (y2.2.1.2>H),E,F,G,H,I,J,K,L,M,y2.1,y2.2.1.1,y2.2.1.2,y2.2.2,()))
       else
        some (.inr (A,B,C,D,false,E,F,G,H,I,J,K,L,M,y2.1,y2.2.1.1,y2.2.1.2,y2.2.2,()))) fun (N,O,P,Q,R,S,T,U,V,W,X,Y,Z,A0,_,_,_,B0,_)=>
     bif R then
      some (.inl (1,()))
     else
      bif N then
       bif !(B0==[]) then
        some (.inl (3,()))
       else
        bif !N then
         bif !(B0==[]) then
          (ir (S,T,U,V,W,X,Y,Z,A0) B0).bind fun r7=>
          bif !r7.1 then
           some (.inl (5,()))
          else
           again (N,O,P,w64 (Q+1),S,T,U,V,W,X,Y,Z,A0,())
         else
          again (N,O,P,w64 (Q+1),S,T,U,V,W,X,Y,Z,A0,())
        else
         again (N,O,P,w64 (Q+1),S,T,U,V,W,X,Y,Z,A0,())
      else
       bif !N then
        bif !(B0==[]) then
         (ir (S,T,U,V,W,X,Y,Z,A0) B0).bind fun r8=>
         bif !r8.1 then
          some (.inl (5,()))
         else
          again (N,O,P,w64 (Q+1),S,T,U,V,W,X,Y,Z,A0,())
        else
         again (N,O,P,w64 (Q+1),S,T,U,V,W,X,Y,Z,A0,())
       else
        again (N,O,P,w64 (Q+1),S,T,U,V,W,X,Y,Z,A0,())
    else
     aK (γ:=(Bool×(List bK)×Int×Int×Bool×Bys×Bys×Int×Int×Int×Bool×(List aR)×(List aD)×(List bK)×Bool×Int×Int×Bys×Unit)) (
      bif !y2.1 then
       (dW y2.2.1 1000000000).bind fun r9=>
       bif !r9.1 then
        some (.inr (A,B,C,D,true,E,F,G,H,I,J,K,L,M,y2.1,y2.2.1.1,y2.2.1.2,y2.2.2,()))
       else
        some (.inr (A,B,C,D,decide (y2.2.1.2>H),E,F,G,H,I,J,K,L,M,y2.1,y2.2.1.1,y2.2.1.2,y2.2.2,()))
      else
       some (.inr (A,B,C,D,false,E,F,G,H,I,J,K,L,M,y2.1,y2.2.1.1,y2.2.1.2,y2.2.2,()))) fun (C0,D0,E0,F0,G0,H0,I0,J0,K0,L0,M0,N0,O0,P0,_,_,_,Q0,_)=>
     bif G0 then
      some (.inl (1,()))
     else
      bif C0 then
       bif !(Q0==[]) then
        some (.inl (3,()))
       else
        bif !C0 then
         bif !(Q0==[]) then
          (ir (H0,I0,J0,K0,L0,M0,N0,O0,P0) Q0).bind fun r11=>
          bif !r11.1 then
           some (.inl (5,()))
          else
           again (C0,D0,E0,w64 (F0+1),H0,I0,J0,K0,L0,M0,N0,O0,P0,())
         else
          again (C0,D0,E0,w64 (F0+1),H0,I0,J0,K0,L0,M0,N0,O0,P0,())
        else
         again (C0,D0,E0,w64 (F0+1),H0,I0,J0,K0,L0,M0,N0,O0,P0,())
      else
       bif !C0 then
        bif !(Q0==[]) then
         (ir (H0,I0,J0,K0,L0,M0,N0,O0,P0) Q0).bind fun r12=>
         bif !r12.1 then
          some (.inl (5,()))
         else
          again (C0,D0,E0,w64 (F0+1),H0,I0,J0,K0,L0,M0,N0,O0,P0,())
        else
         again (C0,D0,E0,w64 (F0+1),H0,I0,J0,K0,L0,M0,N0,O0,P0,())
       else
        again (C0,D0,E0,w64 (F0+1),H0,I0,J0,K0,L0,M0,N0,O0,P0,())
 else
  some (.inr ())
def iI (a0:aj) (a1:List bK) (a2:Bool):Option (Int×Unit):=
 bif decide (((a1.length:Int))>20) then
  some (2,())
 else
  aK (
   iter (X:=nA) (β:=sB) (a1.length+(Int.natAbs ((a1.length:Int))+(Int.natAbs (0:Int)+(a0.1.length+(a0.2.1.length+(a0.2.2.1.natAbs+(a0.2.2.2.1.natAbs+(a0.2.2.2.2.1.natAbs+(a0.2.2.2.2.2.2.1.length+(a0.2.2.2.2.2.2.2.1.length+(a0.2.2.2.2.2.2.2.2.length+2))))))))))) (a2,a1,(a1.length:Int),0,a0.1,a0.2.1,a0.2.2.1,a0.2.2.2.1,a0.2.2.2.2.1,a0.2.2.2.2.2.1,a0.2.2.2.2.2.2.1,a0.2.2.2.2.2.2.2.1,a0.2.2.2.2.2.2.2.2,()) (ny)) fun _=>
  some (0,())
def p8 (a0:aj) (a1:Int):Option (Int×Unit):=
 (idx a0.2.2.2.2.2.2.2.1 a1).bind fun y1=>
 (bD y1.1 1 99999).bind fun r2=>
 bif r2.1 then
  some (1,())
 else
  bif decide (a1>0) then
   (idx a0.2.2.2.2.2.2.2.1 (w64 (a1 - 1))).bind fun y3=>
   bif decide (y1.1≤y3.1) then
    some (8,())
   else
    (bD y1.2.1 1 99999).bind fun r4=>
    bif r4.1 then
     some (1,())
    else
     (bW y1.2.2.1).bind fun r5=>
     bif !r5.1 then
      some (5,())
     else
      (bU y1.2.2.2.1).bind fun r6=>
      bif r6.1 != 0 then
       some (r6.1,())
      else
       bif decide (y1.2.2.2.1.2>3) then
        some (1,())
       else
        (dW y1.2.2.2.1 1000000000).bind fun r7=>
        bif !r7.1 then
         some (1,())
        else
         bif y1.2.2.2.1.1==0 then
          some (13,())
         else
          (bW y1.2.2.2.2.1).bind fun r8=>
          bif !r8.1 then
           some (5,())
          else
           (iM y1.2.2.2.2.2.1).bind fun r9=>
           bif r9.1 != 0 then
            some (r9.1,())
           else
            (bD y1.2.2.2.2.2.2.1 1 100000).bind fun r10=>
            bif r10.1 then
             some (1,())
            else
             (iI a0 y1.2.2.2.2.2.2.2.1 true).bind fun r11=>
             bif r11.1 != 0 then
              some (r11.1,())
             else
              (ir a0 y1.2.2.2.2.2.2.2.2).bind fun r12=>
              bif !r12.1 then
               some (5,())
              else
               some (0,())
  else
   (bD y1.2.1 1 99999).bind fun r13=>
   bif r13.1 then
    some (1,())
   else
    (bW y1.2.2.1).bind fun r14=>
    bif !r14.1 then
     some (5,())
    else
     (bU y1.2.2.2.1).bind fun r15=>
     bif r15.1 != 0 then
      some (r15.1,())
     else
      bif decide (y1.2.2.2.1.2>3) then
       some (1,())
      else
       (dW y1.2.2.2.1 1000000000).bind fun r16=>
       bif !r16.1 then
        some (1,())
       else
        bif y1.2.2.2.1.1==0 then
         some (13,())
        else
         (bW y1.2.2.2.2.1).bind fun r17=>
         bif !r17.1 then
          some (5,())
         else
          (iM y1.2.2.2.2.2.1).bind fun r18=>
          bif r18.1 != 0 then
           some (r18.1,())
          else
           (bD y1.2.2.2.2.2.2.1 1 100000).bind fun r19=>
           bif r19.1 then
            some (1,())
           else
            (iI a0 y1.2.2.2.2.2.2.2.1 true).bind fun r20=>
            bif r20.1 != 0 then
             some (r20.1,())
            else
             (ir a0 y1.2.2.2.2.2.2.2.2).bind fun r21=>
             bif !r21.1 then
              some (5,())
             else
              some (0,())
abbrev pX:Type:=Int×Int×Bys×Bys×Int×Int×Int×Bool×(List aR)×(List aD)×(List bK)×Unit
abbrev pW:Type:=((Int×Unit) ⊕ (Bys×Bys×Int×Int×Int×Bool×(List aR)×(List aD)×(List bK)×Unit))
def lz (x1:pX) (again:pX→Option pW):Option pW:=
 match x1 with
 | (A,B,C,D,E,F,G,H,I,J,K,_)=>
 bif decide (B<A) then
  (p8 (C,D,E,F,G,H,I,J,K) B).bind fun r2=>
  bif r2.1 != 0 then
   some (.inl (r2.1,()))
  else
   again (A,w64 (B+1),C,D,E,F,G,H,I,J,K,())
 else
  some (.inr (C,D,E,F,G,H,I,J,K,()))
def gL (a0:aj):Option (Int×Unit):=
 (bW a0.1).bind fun r1=>
 bif !r1.1 then
  some (5,())
 else
  (bW a0.2.1).bind fun r2=>
  bif !r2.1 then
   some (5,())
  else
   (gZ a0.2.2.1).bind fun r3=>
   bif !r3.1 then
    some (1,())
   else
    (bD a0.2.2.2.1 0 4).bind fun r4=>
    bif r4.1 then
     some (1,())
    else
     (BC a0.2.2.2.2.1).bind fun r5=>
     bif !r5.1 then
      some (4,())
     else
      (lB a0.2.2.2.2.2.2.1).bind fun r6=>
      bif r6.1 != 0 then
       some (r6.1,())
      else
       bif ((a0.2.2.2.2.2.2.2.1.length:Int))==0 then
        some (9,())
       else
        bif decide (((a0.2.2.2.2.2.2.2.1.length:Int))>500) then
         some (2,())
        else
         aK (
          iter (X:=pX) (β:=pW) (Int.natAbs ((a0.2.2.2.2.2.2.2.1.length:Int))+(Int.natAbs (0:Int)+(a0.1.length+(a0.2.1.length+(a0.2.2.1.natAbs+(a0.2.2.2.1.natAbs+(a0.2.2.2.2.1.natAbs+(a0.2.2.2.2.2.2.1.length+(a0.2.2.2.2.2.2.2.1.length+(a0.2.2.2.2.2.2.2.2.length+2)))))))))) ((a0.2.2.2.2.2.2.2.1.length:Int),0,a0.1,a0.2.1,a0.2.2.1,a0.2.2.2.1,a0.2.2.2.2.1,a0.2.2.2.2.2.1,a0.2.2.2.2.2.2.1,a0.2.2.2.2.2.2.2.1,a0.2.2.2.2.2.2.2.2,()) (lz)) fun (A,B,C,D,E,F,G,H,I,_)=>
         (iI (A,B,C,D,E,F,G,H,I) I false).bind fun r10=>
         some (r10.1,())
abbrev lp:Type:=Int×Int×Int×(List Int)×Int×Int×(List Int)×Int×Int×Bool×(List Int)×Bool×(List Int)×Bool×(List Int)×(List Int)×Unit
abbrev uH:Type:=(((aF×Unit) ⊕ (Bool×(List Int)×Bool×(List Int)×Bool×(List Int)×(List Int)×Unit)) ⊕ (Int×Int×(List Int)×Int×Int×Bool×(List Int)×Bool×(List Int)×Bool×(List Int)×(List Int)×Unit))
def oP (x1:lp) (again:lp→Option uH):Option uH:=
 match x1 with
 | (A,B,C,D,E,F,G,H,I,J,K,L,M,N,O,P,_)=>
 bif decide (I<H) then
  (idx G I).bind fun y2=>
  chk (decide (0≤(w64 (A+I)))&&decide ((w64 (A+I))<(P.length:Int))) <|
  (P[(w64 (A+I)).toNat]?).bind fun y3=>
  let n4:Int:=bO ((bO y3)+(bO ((bO B)*(bO y2))))
  chk (decide (0≤(w64 (A+I)))&&decide ((w64 (A+I))<(P.length:Int))) <|
  (P[(w64 (A+I)).toNat]?).bind fun _=>
  again (A,B,Int.fdiv (bO (C+n4)) (2 ^ 32),D,E,F,G,H,w64 (I+1),J,K,L,M,N,O,List.set P (w64 (A+I)).toNat (lW (bO (C+n4))),())
 else
  some (.inr (A,C,D,E,F,J,K,L,M,N,O,P,()))
abbrev lg:Type:=(List Int)×Int×Int×Bool×(List Int)×Bool×(List Int)×Bool×(List Int)×(List Int)×Unit
abbrev uG:Type:=((aF×Unit) ⊕ (Bool×(List Int)×Bool×(List Int)×Bool×(List Int)×(List Int)×Unit))
def oO (x1:lg) (again:lg→Option uG):Option uG:=
 match x1 with
 | (A,B,C,D,E,F,G,H,I,J,_)=>
 bif decide (C<B) then
  (idx A C).bind fun y2=>
  aK (
   iter (X:=lp) (β:=uH) (C.natAbs+(y2.natAbs+(Int.natAbs (0:Int)+(A.length+(B.natAbs+(C.natAbs+(G.length+(Int.natAbs ((G.length:Int))+(Int.natAbs (0:Int)+(E.length+(G.length+(I.length+(J.length+2))))))))))))) (C,y2,0,A,B,C,G,(G.length:Int),0,D,E,F,G,H,I,J,()) (oP)) fun (K,L,M,N,O,P,Q,R,S,T,U,V,_)=>
  chk (decide (0≤(w64 (K+((S.length:Int)))))&&decide ((w64 (K+((S.length:Int))))<(V.length:Int))) <|
  (V[(w64 (K+((S.length:Int)))).toNat]?).bind fun _=>
  again (M,N,w64 (O+1),P,Q,R,S,T,U,List.set V (w64 (K+((S.length:Int)))).toNat (lW L),())
 else
  some (.inr (D,E,F,G,H,I,J,()))
def fM (a0:aF) (a1:aF):Option (aF×Unit):=
 chk (decide (0≤(w64 (((a0.2.length:Int))+((a1.2.length:Int)))))&&decide ((w64 (((a0.2.length:Int))+((a1.2.length:Int))))≤(w64 (((a0.2.length:Int))+((a1.2.length:Int)))))&&decide ((4:Int)*(w64 (((a0.2.length:Int))+((a1.2.length:Int))))≤281474976710656)&&decide ((w64 (((a0.2.length:Int))+((a1.2.length:Int))))≤9223372036854775807)) <|
 aK (
  iter (X:=lg) (β:=uG) (a0.2.length+(Int.natAbs ((a0.2.length:Int))+(Int.natAbs (0:Int)+(a0.2.length+(a1.2.length+(List.length ([]:List Int)+(List.length ((List.replicate (Int.toNat (w64 (((a0.2.length:Int))+((a1.2.length:Int))))) 0):List Int)+2))))))) (a0.2,(a0.2.length:Int),0,a0.1,a0.2,a1.1,a1.2,false,[],List.replicate (Int.toNat (w64 (((a0.2.length:Int))+((a1.2.length:Int))))) 0,()) (oO)) fun v10=>
 (iG (!(v10.1==v10.2.2.1)) v10.2.2.2.2.2.2.1).bind fun r11=>
 some (r11.1,())
abbrev qE:Type:=Int×Int×Bool×(List Int)×Bool×(List Int)×Unit
abbrev zu:Type:=((aF×Unit) ⊕ (Bool×(List Int)×Bool×(List Int)×Unit))
def vh (x1:qE) (again:qE→Option zu):Option zu:=
 match x1 with
 | (A,B,C,D,E,F,_)=>
 bif decide (B<A) then
  (kE 10).bind fun r2=>
  (fM (E,F) r2.1).bind fun r3=>
  again (A,w64 (B+1),C,D,r3.1.1,r3.1.2,())
 else
  some (.inr (C,D,E,F,()))
def zO (a0:Int):Option (aF×Unit):=
 (kE 1).bind fun r1=>
 aK (
  iter (X:=qE) (β:=zu) (a0.natAbs+(Int.natAbs (0:Int)+(List.length ([]:List Int)+(r1.1.2.length+2)))) (a0,0,false,[],r1.1.1,r1.1.2,()) (vh)) fun v5=>
 some ((v5.2.2.1,v5.2.2.2.1),())
abbrev zx:Type:=(List Int)×(List Int)×Int×(List Int)×Int×Int×Unit
abbrev zw:Type:=(((List Int)×Unit) ⊕ ((List Int)×Int×Unit))
def Ow (x1:zx) (again:zx→Option zw):Option zw:=
 match x1 with
 | (A,B,C,D,E,F,_)=>
 bif decide (F<E) then
  (idx D F).bind fun y2=>
  aK (γ:=((List Int)×(List Int)×Int×(List Int)×Int×Int×Unit)) (
   bif decide (F<((A.length:Int))) then
    (idx A F).bind fun y3=>
    let n4:Int:=bO ((bO (C+(bO y2)))+(bO y3))
    some (.inr (A,B,n4,D,E,F,()))
   else
    some (.inr (A,B,bO (C+(bO y2)),D,E,F,()))) fun (G,H,I,J,K,L,_)=>
  chk (decide (((H.length)+1)*4≤140737488355328)&&decide ((H.length)+1≤maxLen)) <|
  again (G,H++[(lW I)],Int.fdiv I (2 ^ 32),J,K,w64 (L+1),())
 else
  some (.inr (B,C,()))
def D6 (a0:List Int) (a1:List Int):Option ((List Int)×Unit):=
 aK (γ:=((List Int)×(List Int)×Unit)) (
  bif decide (((a0.length:Int))<((a1.length:Int))) then
   some (.inr (a1,a0,()))
  else
   some (.inr (a0,a1,()))) fun (A,B,_)=>
 chk (decide (0≤(0:Int))&&decide ((0:Int)≤(w64 (((A.length:Int))+1)))&&decide ((4:Int)*(w64 (((A.length:Int))+1))≤281474976710656)&&decide ((w64 (((A.length:Int))+1))≤9223372036854775807)) <|
 aK (
  iter (X:=zx) (β:=zw) (B.length+(List.length ([]:List Int)+(Int.natAbs (0:Int)+(A.length+(Int.natAbs ((A.length:Int))+(Int.natAbs (0:Int)+2)))))) (B,[],0,A,(A.length:Int),0,()) (Ow)) fun (C,D,_)=>
 chk (decide (((C.length)+1)*4≤140737488355328)&&decide ((C.length)+1≤maxLen)) <|
 some (C++[(lW D)],())
def mQ (a0:aF) (a1:aF):Option (aF×Unit):=
 bif a0.1==a1.1 then
  (D6 a0.2 a1.2).bind fun r1=>
  (iG a0.1 r1.1).bind fun r2=>
  some (r2.1,())
 else
  (se a0.2 a1.2).bind fun r3=>
  bif decide (r3.1≥0) then
   (vi a0.2 a1.2).bind fun r4=>
   (iG a0.1 r4.1).bind fun r5=>
   some (r5.1,())
  else
   (vi a1.2 a0.2).bind fun r6=>
   (iG a1.1 r6.1).bind fun r7=>
   some (r7.1,())
def mP (a0:aF) (a1:aF):Option (aF×Unit):=
 (oN a1).bind fun r1=>
 (mQ a0 r1.1).bind fun r2=>
 some (r2.1,())
def me (a0:aF) (a1:aF):Option (Int×Unit):=
 (mP a0 a1).bind fun r1=>
 (fG r1.1).bind fun r2=>
 some (r2.1,())
def wC (a0:ah) (a1:Int):Option (aF×Unit):=
 (kE a0.1).bind fun r1=>
 (zO (w64 (a1 - a0.2))).bind fun r2=>
 (fM r1.1 r2.1).bind fun r3=>
 some (r3.1,())
end Go.Md
namespace Go.Md
open Go.Dn
abbrev F9:Ty:=(.st (.pair tI (.pair bR tI)))
abbrev qN:Type:=Int×ah×Int
abbrev bH:Ty:=(.st (.pair tI (.pair .str (.pair .str (.pair bR (.pair bR (.pair tI (.pair bR (.pair bR (.pair bR bR))))))))))
abbrev ax:Type:=Int×Bys×Bys×ah×ah×Int×ah×ah×ah×ah
def jS (a0:ah) (a1:Bool):Option (Int×Unit):=
 (bU a0).bind fun r1=>
 bif r1.1 != 0 then
  some (r1.1,())
 else
  (qs a0 3 1000000000).bind fun r2=>
  bif !r2.1 then
   some (1,())
  else
   bif a0.1==0 then
    bif !a1 then
     some (1,())
    else
     some (0,())
   else
    some (0,())
end Go.Md
namespace Go.Md
open Go.Dn
end Go.Md
namespace Go.Md
open Go.Dn
def jb (a0:ah):Option (aF×Unit):=
 (wC a0 9).bind fun r1=>
 some (r1.1,())
end Go.Md
