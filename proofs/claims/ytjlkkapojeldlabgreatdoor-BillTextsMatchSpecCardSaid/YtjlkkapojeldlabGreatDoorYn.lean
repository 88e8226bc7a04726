/-
  The plain models of the functions that the law reaches, second part. No condition.
-/
import Derived.Test.YtjlkkapojeldlabGreatDoorYm
import Derived.Lib.Bytealg
import Derived.Lib.Repeat
import Derived.Lib.ItoaNum
namespace Go.Md
open Go.Dn
def strings_Compare (a b:Bys):Option (Int×Unit):=some (Lib.compareBytes a b,())
abbrev bL:Ty:=(.st (.pair .str aS))
abbrev ak:Type:=Bys×ah
abbrev aY:Ty:=(.st (.pair .bool (.pair aS .str)))
abbrev aj:Type:=Bool×ah×Bys
abbrev b9:Ty:=(.st (.pair tI (.pair tI (.pair .str (.pair aS (.pair .str (.pair aS (.pair tI (.pair (.slice aY) .str)))))))))
abbrev aa:Type:=Int×Int×Bys×ah×Bys×ah×Int×(List aj)×Bys
abbrev b7:Ty:=(.st (.pair .str (.pair .str (.pair tI (.pair tI (.pair tI (.pair .bool (.pair (.slice bL) (.pair (.slice b9) (.slice aY))))))))))
abbrev ai:Type:=Bys×Bys×Int×Int×Int×Bool×(List ak)×(List aa)×(List aj)
def Bk (a0:Int):Option (Bool×Unit):=
 (cK a0 1 6).bind fun r1=>
 some (!r1.1,())
abbrev mg:Type:=(List ak)×(List ak)×Int×Int×Unit
abbrev qD:Type:=((Int×Unit) ⊕ Unit)
def me (x1:mg) (again:mg->Option qD):Option qD:=
 match x1 with
 | (A,B,C,D,_)=>
 bif decide (D<C) then
  (idx B D).bind fun y2=>
  (eA y2.1).bind fun r3=>
  bif !r3.1 then
   some (.inl (5,()))
  else
   bif decide (D>0) then
    (idx A (w64 (D - 1))).bind fun y4=>
    bif Op.bytesLess y2.1 y4.1||y2.1==y4.1 then
     some (.inl (8,()))
    else
     (b8 y2.2).bind fun r5=>
     bif r5.1 != 0 then
      some (.inl (r5.1,()))
     else
      bif decide (y2.2.1<0) then
       some (.inl (1,()))
      else
       (dR y2.2 100).bind fun r6=>
       bif !r6.1 then
        some (.inl (1,()))
       else
        again (A,B,C,w64 (D+1),())
   else
    (b8 y2.2).bind fun r7=>
    bif r7.1 != 0 then
     some (.inl (r7.1,()))
    else
     bif decide (y2.2.1<0) then
      some (.inl (1,()))
     else
      (dR y2.2 100).bind fun r8=>
      bif !r8.1 then
       some (.inl (1,()))
      else
       again (A,B,C,w64 (D+1),())
 else
  some (.inr ())
def jK (a0:List ak):Option (Int×Unit):=
 bif ((a0.length:Int))==0 then
  some (9,())
 else
  bif decide (((a0.length:Int))>20) then
   some (2,())
  else
   aJ (
    iter (X:=mg) (β:=qD) (a0.length+(a0.length+(Int.natAbs ((a0.length:Int))+(Int.natAbs (0:Int)+2)))) (a0,a0,(a0.length:Int),0,()) (me)) fun _=>
   some (0,())
abbrev xZ:Type:=Int×Int×Int×Unit
abbrev xY:Type:=((Int×Unit) ⊕ (Int×Unit))
def Pj (x1:xZ) (again:xZ->Option xY):Option xY:=
 bif decide (x1.2.2.1<x1.2.1) then
  again (w64 (x1.1*10),x1.2.1,w64 (x1.2.2.1+1),())
 else
  some (.inr (x1.1,()))
def Dx (a0:Int):Option (Int×Unit):=
 aJ (
  iter (X:=xZ) (β:=xY) (Int.natAbs (1:Int)+(a0.natAbs+(Int.natAbs (0:Int)+2))) (1,a0,0,()) (Pj)) fun v2=>
 some (v2.1,())
def BK (a0:ah) (a1:Int) (a2:Int):Option (Bool×Unit):=
 bif decide (a0.2<=a1) then
  bif decide (a0.1>=0) then
   (Dx a0.2).bind fun r1=>
   some (decide (a0.1<=(w64 (a2*r1.1))),())
  else
   some (false,())
 else
  some (false,())
def kW (a0:ah):Option (Int×Unit):=
 (b8 a0).bind fun r1=>
 bif r1.1 != 0 then
  some (r1.1,())
 else
  (BK a0 4 1000000000).bind fun r2=>
  bif !r2.1 then
   some (1,())
  else
   some (0,())
def Ac (a0:ak) (a1:Bys):Option (Int×Unit):=
 (strings_Compare a0.1 a1).bind fun r1=>
 some (r1.1,())
abbrev cx:Type:=(List ak)×Bys×Unit×Int×Int×Int×Unit
abbrev eJ:Type:=((Int×Bool×Unit) ⊕ ((List ak)×Bys×Unit×Int×Int×Unit))
def eH (x1:cx) (again:cx->Option eJ):Option eJ:=
 match x1 with
 | (A,B,C,D,E,F,_)=>
 bif decide (E<F) then
  let n2:Int:=w64 (Int.fdiv (bB (w64 (E+F))) (2 ^ 1))
  (idx A n2).bind fun y3=>
  (Ac y3 B).bind fun r4=>
  bif decide (r4.1<0) then
   again (A,B,C,D,w64 (n2+1),F,())
  else
   again (A,B,C,D,E,n2,())
 else
  some (.inr (A,B,C,D,E,()))
def dB (a0:List ak) (a1:Bys) (a2:Unit):Option (Int×Bool×Unit):=
 aJ (
  iter (X:=cx) (β:=eJ) (a0.length+(a1.length+(Int.natAbs ((a0.length:Int))+(Int.natAbs (0:Int)+(Int.natAbs ((a0.length:Int))+2))))) (a0,a1,a2,(a0.length:Int),0,(a0.length:Int),()) (eH)) fun (A,B,_,C,D,_)=>
 bif decide (D<C) then
  (idx A D).bind fun y6=>
  (Ac y6 B).bind fun r7=>
  some (D,r7.1==0,())
 else
  some (D,false,())
def yD (a0:List ak) (a1:Bys):Option (Int×Bool×Unit):=
 (dB a0 a1 ()).bind fun r1=>
 some (r1.1,r1.2.1,())
def gG (a0:ai) (a1:Bys):Option (Bool×Unit):=
 (yD a0.2.2.2.2.2.2.1 a1).bind fun r1=>
 some (r1.2.1,())
abbrev lC:Type:=Bool×(List aj)×Int×Int×Bys×Bys×Int×Int×Int×Bool×(List ak)×(List aa)×(List aj)×Unit
abbrev pY:Type:=((Int×Unit) ⊕ Unit)
def lB (x1:lC) (again:lC->Option pY):Option pY:=
 match x1 with
 | (A,B,C,D,E,F,G,H,I,J,K,L,M,_)=>
 bif decide (D<C) then
  (idx B D).bind fun y2=>
  (b8 y2.2.1).bind fun r3=>
  bif r3.1 != 0 then
   some (.inl (r3.1,()))
  else
   bif y2.2.1.1==0 then
    some (.inl (13,()))
   else
    bif y2.1 then
     (dR y2.2.1 100).bind fun r4=>
     aJ (γ:=(Bool×(List aj)×Int×Int×Bool×Bys×Bys×Int×Int×Int×Bool×(List ak)×(List aa)×(List aj)×Bool×Int×Int×Bys×Unit)) (
      bif !r4.1 then
       some (.inr (A,B,C,D, !r4.1,E,F,G,H,I,J,K,L,M,y2.1,y2.2.1.1,y2.2.1.2,y2.2.2,()))
      else
       bif !y2.1 then
        (dR y2.2.1 1000000000).bind fun r5=>
        bif !r5.1 then
         some (.inr (A,B,C,D,true,E,F,G,H,I,J,K,L,M,y2.1,y2.2.1.1,y2.2.1.2,y2.2.2,()))
        else
         some (.inr (A,B,C,D,decide (y2.2.1.2>H),E,F,G,H,I,J,K,L,M,y2.1,y2.2.1.1,y2.2.1.2,y2.2.2,()))
       else
        some (.inr (A,B,C,D,false,E,F,G,H,I,J,K,L,M,y2.1,y2.2.1.1,y2.2.1.2,y2.2.2,()))) fun (N,O,P,Q,R,S,T,U,V,W,X,Y,Z,A0,_,_,_,B0,_)=>
     bif R then
      some (.inl (1,()))
     else
      bif N then
       bif !(B0==[]) then
        some (.inl (3,()))
       else
        bif !N then
         bif !(B0==[]) then
          (gG (S,T,U,V,W,X,Y,Z,A0) B0).bind fun r7=>
          bif !r7.1 then
           some (.inl (5,()))
          else
           again (N,O,P,w64 (Q+1),S,T,U,V,W,X,Y,Z,A0,())
         else
          again (N,O,P,w64 (Q+1),S,T,U,V,W,X,Y,Z,A0,())
        else
         again (N,O,P,w64 (Q+1),S,T,U,V,W,X,Y,Z,A0,())
      else
       bif !N then
        bif !(B0==[]) then
         (gG (S,T,U,V,W,X,Y,Z,A0) B0).bind fun r8=>
         bif !r8.1 then
          some (.inl (5,()))
         else
          again (N,O,P,w64 (Q+1),S,T,U,V,W,X,Y,Z,A0,())
        else
         again (N,O,P,w64 (Q+1),S,T,U,V,W,X,Y,Z,A0,())
       else
        again (N,O,P,w64 (Q+1),S,T,U,V,W,X,Y,Z,A0,())
    else
     aJ (γ:=(Bool×(List aj)×Int×Int×Bool×Bys×Bys×Int×Int×Int×Bool×(List ak)×(List aa)×(List aj)×Bool×Int×Int×Bys×Unit)) (
      bif !y2.1 then
       (dR y2.2.1 1000000000).bind fun r9=>
       bif !r9.1 then
        some (.inr (A,B,C,D,true,E,F,G,H,I,J,K,L,M,y2.1,y2.2.1.1,y2.2.1.2,y2.2.2,()))
       else
        some (.inr (A,B,C,D,decide (y2.2.1.2>H),E,F,G,H,I,J,K,L,M,y2.1,y2.2.1.1,y2.2.1.2,y2.2.2,()))
      else
       some (.inr (A,B,C,D,false,E,F,G,H,I,J,K,L,M,y2.1,y2.2.1.1,y2.2.1.2,y2.2.2,()))) fun (C0,D0,E0,F0,G0,H0,I0,J0,K0,L0,M0,N0,O0,P0,_,_,_,Q0,_)=>
     bif G0 then
      some (.inl (1,()))
     else
      bif C0 then
       bif !(Q0==[]) then
        some (.inl (3,()))
       else
        bif !C0 then
         bif !(Q0==[]) then
          (gG (H0,I0,J0,K0,L0,M0,N0,O0,P0) Q0).bind fun r11=>
          bif !r11.1 then
           some (.inl (5,()))
          else
           again (C0,D0,E0,w64 (F0+1),H0,I0,J0,K0,L0,M0,N0,O0,P0,())
         else
          again (C0,D0,E0,w64 (F0+1),H0,I0,J0,K0,L0,M0,N0,O0,P0,())
        else
         again (C0,D0,E0,w64 (F0+1),H0,I0,J0,K0,L0,M0,N0,O0,P0,())
      else
       bif !C0 then
        bif !(Q0==[]) then
         (gG (H0,I0,J0,K0,L0,M0,N0,O0,P0) Q0).bind fun r12=>
         bif !r12.1 then
          some (.inl (5,()))
         else
          again (C0,D0,E0,w64 (F0+1),H0,I0,J0,K0,L0,M0,N0,O0,P0,())
        else
         again (C0,D0,E0,w64 (F0+1),H0,I0,J0,K0,L0,M0,N0,O0,P0,())
       else
        again (C0,D0,E0,w64 (F0+1),H0,I0,J0,K0,L0,M0,N0,O0,P0,())
 else
  some (.inr ())
def gR (a0:ai) (a1:List aj) (a2:Bool):Option (Int×Unit):=
 bif decide (((a1.length:Int))>20) then
  some (2,())
 else
  aJ (
   iter (X:=lC) (β:=pY) (a1.length+(Int.natAbs ((a1.length:Int))+(Int.natAbs (0:Int)+(a0.1.length+(a0.2.1.length+(a0.2.2.1.natAbs+(a0.2.2.2.1.natAbs+(a0.2.2.2.2.1.natAbs+(a0.2.2.2.2.2.2.1.length+(a0.2.2.2.2.2.2.2.1.length+(a0.2.2.2.2.2.2.2.2.length+2))))))))))) (a2,a1,(a1.length:Int),0,a0.1,a0.2.1,a0.2.2.1,a0.2.2.2.1,a0.2.2.2.2.1,a0.2.2.2.2.2.1,a0.2.2.2.2.2.2.1,a0.2.2.2.2.2.2.2.1,a0.2.2.2.2.2.2.2.2,()) (lB)) fun _=>
  some (0,())
def nJ (a0:ai) (a1:Int):Option (Int×Unit):=
 (idx a0.2.2.2.2.2.2.2.1 a1).bind fun y1=>
 (cK y1.1 1 99999).bind fun r2=>
 bif r2.1 then
  some (1,())
 else
  bif decide (a1>0) then
   (idx a0.2.2.2.2.2.2.2.1 (w64 (a1 - 1))).bind fun y3=>
   bif decide (y1.1<=y3.1) then
    some (8,())
   else
    (cK y1.2.1 1 99999).bind fun r4=>
    bif r4.1 then
     some (1,())
    else
     (eA y1.2.2.1).bind fun r5=>
     bif !r5.1 then
      some (5,())
     else
      (b8 y1.2.2.2.1).bind fun r6=>
      bif r6.1 != 0 then
       some (r6.1,())
      else
       bif decide (y1.2.2.2.1.2>3) then
        some (1,())
       else
        (dR y1.2.2.2.1 1000000000).bind fun r7=>
        bif !r7.1 then
         some (1,())
        else
         bif y1.2.2.2.1.1==0 then
          some (13,())
         else
          (eA y1.2.2.2.2.1).bind fun r8=>
          bif !r8.1 then
           some (5,())
          else
           (kW y1.2.2.2.2.2.1).bind fun r9=>
           bif r9.1 != 0 then
            some (r9.1,())
           else
            (cK y1.2.2.2.2.2.2.1 1 100000).bind fun r10=>
            bif r10.1 then
             some (1,())
            else
             (gR a0 y1.2.2.2.2.2.2.2.1 true).bind fun r11=>
             bif r11.1 != 0 then
              some (r11.1,())
             else
              (gG a0 y1.2.2.2.2.2.2.2.2).bind fun r12=>
              bif !r12.1 then
               some (5,())
              else
               some (0,())
  else
   (cK y1.2.1 1 99999).bind fun r13=>
   bif r13.1 then
    some (1,())
   else
    (eA y1.2.2.1).bind fun r14=>
    bif !r14.1 then
     some (5,())
    else
     (b8 y1.2.2.2.1).bind fun r15=>
     bif r15.1 != 0 then
      some (r15.1,())
     else
      bif decide (y1.2.2.2.1.2>3) then
       some (1,())
      else
       (dR y1.2.2.2.1 1000000000).bind fun r16=>
       bif !r16.1 then
        some (1,())
       else
        bif y1.2.2.2.1.1==0 then
         some (13,())
        else
         (eA y1.2.2.2.2.1).bind fun r17=>
         bif !r17.1 then
          some (5,())
         else
          (kW y1.2.2.2.2.2.1).bind fun r18=>
          bif r18.1 != 0 then
           some (r18.1,())
          else
           (cK y1.2.2.2.2.2.2.1 1 100000).bind fun r19=>
           bif r19.1 then
            some (1,())
           else
            (gR a0 y1.2.2.2.2.2.2.2.1 true).bind fun r20=>
            bif r20.1 != 0 then
             some (r20.1,())
            else
             (gG a0 y1.2.2.2.2.2.2.2.2).bind fun r21=>
             bif !r21.1 then
              some (5,())
             else
              some (0,())
abbrev nG:Type:=Int×Int×Bys×Bys×Int×Int×Int×Bool×(List ak)×(List aa)×(List aj)×Unit
abbrev nF:Type:=((Int×Unit) ⊕ (Bys×Bys×Int×Int×Int×Bool×(List ak)×(List aa)×(List aj)×Unit))
def jJ (x1:nG) (again:nG->Option nF):Option nF:=
 match x1 with
 | (A,B,C,D,E,F,G,H,I,J,K,_)=>
 bif decide (B<A) then
  (nJ (C,D,E,F,G,H,I,J,K) B).bind fun r2=>
  bif r2.1 != 0 then
   some (.inl (r2.1,()))
  else
   again (A,w64 (B+1),C,D,E,F,G,H,I,J,K,())
 else
  some (.inr (C,D,E,F,G,H,I,J,K,()))
def dh (a0:ai):Option (Int×Unit):=
 (eA a0.1).bind fun r1=>
 bif !r1.1 then
  some (5,())
 else
  (eA a0.2.1).bind fun r2=>
  bif !r2.1 then
   some (5,())
  else
   (vG a0.2.2.1).bind fun r3=>
   bif !r3.1 then
    some (1,())
   else
    (cK a0.2.2.2.1 0 4).bind fun r4=>
    bif r4.1 then
     some (1,())
    else
     (Bk a0.2.2.2.2.1).bind fun r5=>
     bif !r5.1 then
      some (4,())
     else
      (jK a0.2.2.2.2.2.2.1).bind fun r6=>
      bif r6.1 != 0 then
       some (r6.1,())
      else
       bif ((a0.2.2.2.2.2.2.2.1.length:Int))==0 then
        some (9,())
       else
        bif decide (((a0.2.2.2.2.2.2.2.1.length:Int))>500) then
         some (2,())
        else
         aJ (
          iter (X:=nG) (β:=nF) (Int.natAbs ((a0.2.2.2.2.2.2.2.1.length:Int))+(Int.natAbs (0:Int)+(a0.1.length+(a0.2.1.length+(a0.2.2.1.natAbs+(a0.2.2.2.1.natAbs+(a0.2.2.2.2.1.natAbs+(a0.2.2.2.2.2.2.1.length+(a0.2.2.2.2.2.2.2.1.length+(a0.2.2.2.2.2.2.2.2.length+2)))))))))) ((a0.2.2.2.2.2.2.2.1.length:Int),0,a0.1,a0.2.1,a0.2.2.1,a0.2.2.2.1,a0.2.2.2.2.1,a0.2.2.2.2.2.1,a0.2.2.2.2.2.2.1,a0.2.2.2.2.2.2.2.1,a0.2.2.2.2.2.2.2.2,()) (jJ)) fun (A,B,C,D,E,F,G,H,I,_)=>
         (gR (A,B,C,D,E,F,G,H,I) I false).bind fun r10=>
         some (r10.1,())
abbrev jG:Type:=Int×Int×Int×(List Int)×Int×Int×(List Int)×Int×Int×Bool×(List Int)×Bool×(List Int)×Bool×(List Int)×(List Int)×Unit
abbrev rM:Type:=(((bN×Unit) ⊕ (Bool×(List Int)×Bool×(List Int)×Bool×(List Int)×(List Int)×Unit)) ⊕ (Int×Int×(List Int)×Int×Int×Bool×(List Int)×Bool×(List Int)×Bool×(List Int)×(List Int)×Unit))
def mR (x1:jG) (again:jG->Option rM):Option rM:=
 match x1 with
 | (A,B,C,D,E,F,G,H,I,J,K,L,M,N,O,P,_)=>
 bif decide (I<H) then
  (idx G I).bind fun y2=>
  chk (decide (0<=(w64 (A+I)))&&decide ((w64 (A+I))<(P.length:Int))) <|
  (P[(w64 (A+I)).toNat]?).bind fun y3=>
  let n4:Int:=bB ((bB y3)+(bB ((bB B)*(bB y2))))
  chk (decide (0<=(w64 (A+I)))&&decide ((w64 (A+I))<(P.length:Int))) <|
  (P[(w64 (A+I)).toNat]?).bind fun _=>
  again (A,B,Int.fdiv (bB (C+n4)) (2 ^ 32),D,E,F,G,H,w64 (I+1),J,K,L,M,N,O,List.set P (w64 (A+I)).toNat (lz (bB (C+n4))),())
 else
  some (.inr (A,C,D,E,F,J,K,L,M,N,O,P,()))
abbrev jF:Type:=(List Int)×Int×Int×Bool×(List Int)×Bool×(List Int)×Bool×(List Int)×(List Int)×Unit
abbrev rL:Type:=((bN×Unit) ⊕ (Bool×(List Int)×Bool×(List Int)×Bool×(List Int)×(List Int)×Unit))
def mQ (x1:jF) (again:jF->Option rL):Option rL:=
 match x1 with
 | (A,B,C,D,E,F,G,H,I,J,_)=>
 bif decide (C<B) then
  (idx A C).bind fun y2=>
  aJ (
   iter (X:=jG) (β:=rM) (C.natAbs+(y2.natAbs+(Int.natAbs (0:Int)+(A.length+(B.natAbs+(C.natAbs+(G.length+(Int.natAbs ((G.length:Int))+(Int.natAbs (0:Int)+(E.length+(G.length+(I.length+(J.length+2))))))))))))) (C,y2,0,A,B,C,G,(G.length:Int),0,D,E,F,G,H,I,J,()) (mR)) fun (K,L,M,N,O,P,Q,R,S,T,U,V,_)=>
  chk (decide (0<=(w64 (K+((S.length:Int)))))&&decide ((w64 (K+((S.length:Int))))<(V.length:Int))) <|
  (V[(w64 (K+((S.length:Int)))).toNat]?).bind fun _=>
  again (M,N,w64 (O+1),P,Q,R,S,T,U,List.set V (w64 (K+((S.length:Int)))).toNat (lz L),())
 else
  some (.inr (D,E,F,G,H,I,J,()))
def mP (a0:bN) (a1:bN):Option (bN×Unit):=
 chk (decide (0<=(w64 (((a0.2.length:Int))+((a1.2.length:Int)))))&&decide ((w64 (((a0.2.length:Int))+((a1.2.length:Int))))<=(w64 (((a0.2.length:Int))+((a1.2.length:Int)))))&&decide ((4:Int)*(w64 (((a0.2.length:Int))+((a1.2.length:Int))))<=281474976710656)&&decide ((w64 (((a0.2.length:Int))+((a1.2.length:Int))))<=9223372036854775807)) <|
 aJ (
  iter (X:=jF) (β:=rL) (a0.2.length+(Int.natAbs ((a0.2.length:Int))+(Int.natAbs (0:Int)+(a0.2.length+(a1.2.length+(List.length ([]:List Int)+(List.length ((List.replicate (Int.toNat (w64 (((a0.2.length:Int))+((a1.2.length:Int))))) 0):List Int)+2))))))) (a0.2,(a0.2.length:Int),0,a0.1,a0.2,a1.1,a1.2,false,[],List.replicate (Int.toNat (w64 (((a0.2.length:Int))+((a1.2.length:Int))))) 0,()) (mQ)) fun v10=>
 (fZ (!(v10.1==v10.2.2.1)) v10.2.2.2.2.2.2.1).bind fun r11=>
 some (r11.1,())
abbrev yy:Type:=(List Int)×(List Int)×Int×(List Int)×Int×Int×Unit
abbrev yx:Type:=(((List Int)×Unit) ⊕ ((List Int)×Int×Unit))
def PJ (x1:yy) (again:yy->Option yx):Option yx:=
 match x1 with
 | (A,B,C,D,E,F,_)=>
 bif decide (F<E) then
  (idx D F).bind fun y2=>
  aJ (γ:=((List Int)×(List Int)×Int×(List Int)×Int×Int×Unit)) (
   bif decide (F<((A.length:Int))) then
    (idx A F).bind fun y3=>
    let n4:Int:=bB ((bB (C+(bB y2)))+(bB y3))
    some (.inr (A,B,n4,D,E,F,()))
   else
    some (.inr (A,B,bB (C+(bB y2)),D,E,F,()))) fun (G,H,I,J,K,L,_)=>
  chk (decide (((H.length)+1)*4<=140737488355328)&&decide ((H.length)+1<=maxLen)) <|
  again (G,H++[(lz I)],Int.fdiv I (2 ^ 32),J,K,w64 (L+1),())
 else
  some (.inr (B,C,()))
def DK (a0:List Int) (a1:List Int):Option ((List Int)×Unit):=
 aJ (γ:=((List Int)×(List Int)×Unit)) (
  bif decide (((a0.length:Int))<((a1.length:Int))) then
   some (.inr (a1,a0,()))
  else
   some (.inr (a0,a1,()))) fun (A,B,_)=>
 chk (decide (0<=(0:Int))&&decide ((0:Int)<=(w64 (((A.length:Int))+1)))&&decide ((4:Int)*(w64 (((A.length:Int))+1))<=281474976710656)&&decide ((w64 (((A.length:Int))+1))<=9223372036854775807)) <|
 aJ (
  iter (X:=yy) (β:=yx) (B.length+(List.length ([]:List Int)+(Int.natAbs (0:Int)+(A.length+(Int.natAbs ((A.length:Int))+(Int.natAbs (0:Int)+2)))))) (B,[],0,A,(A.length:Int),0,()) (PJ)) fun (C,D,_)=>
 chk (decide (((C.length)+1)*4<=140737488355328)&&decide ((C.length)+1<=maxLen)) <|
 some (C++[(lz D)],())
def nY (a0:bN) (a1:bN):Option (bN×Unit):=
 bif a0.1==a1.1 then
  (DK a0.2 a1.2).bind fun r1=>
  (fZ a0.1 r1.1).bind fun r2=>
  some (r2.1,())
 else
  (pN a0.2 a1.2).bind fun r3=>
  bif decide (r3.1>=0) then
   (sP a0.2 a1.2).bind fun r4=>
   (fZ a0.1 r4.1).bind fun r5=>
   some (r5.1,())
  else
   (sP a1.2 a0.2).bind fun r6=>
   (fZ a1.1 r6.1).bind fun r7=>
   some (r7.1,())
abbrev pI:Type:=Bys×(List ak)×Int×Int×Unit
abbrev Am:Type:=((Int×Unit) ⊕ Unit)
def uC (x1:pI) (again:pI->Option Am):Option Am:=
 match x1 with
 | (A,B,C,D,_)=>
 bif decide (D<C) then
  (idx B D).bind fun y2=>
  bif y2.1==A then
   some (.inl (D,()))
  else
   again (A,B,C,w64 (D+1),())
 else
  some (.inr ())
def fB (a0:ai) (a1:Bys):Option (Int×Unit):=
 aJ (
  iter (X:=pI) (β:=Am) (a1.length+(a0.2.2.2.2.2.2.1.length+(Int.natAbs ((a0.2.2.2.2.2.2.1.length:Int))+(Int.natAbs (0:Int)+2)))) (a1,a0.2.2.2.2.2.2.1,(a0.2.2.2.2.2.2.1.length:Int),0,()) (uC)) fun _=>
 some ((-1),())
abbrev mH:Type:=Bool×(List aj)×Int×Int×Bys×Bys×Int×Int×Int×Bool×(List ak)×(List aa)×(List aj)×Unit
abbrev qZ:Type:=((Int×Unit) ⊕ Unit)
def mG (x1:mH) (again:mH->Option qZ):Option qZ:=
 match x1 with
 | (A,B,C,D,E,F,G,H,I,J,K,L,M,_)=>
 bif decide (D<C) then
  (idx B D).bind fun y2=>
  (iK y2.2.1).bind fun r3=>
  bif r3.1 != 0 then
   some (.inl (1,()))
  else
   bif y2.2.1.1==0 then
    some (.inl (13,()))
   else
    bif y2.1 then
     (jb y2.2.1 (-100) 100 9).bind fun r4=>
     bif !r4.1 then
      some (.inl (1,()))
     else
      bif !y2.1 then
       (jb y2.2.1 (-1000000000) 1000000000 H).bind fun r5=>
       bif !r5.1 then
        some (.inl (1,()))
       else
        bif A then
         bif !(y2.2.2==[]) then
          some (.inl (3,()))
         else
          bif !A then
           bif !(y2.2.2==[]) then
            (fB (E,F,G,H,I,J,K,L,M) y2.2.2).bind fun r6=>
            bif decide (r6.1<0) then
             some (.inl (5,()))
            else
             again (A,B,C,w64 (D+1),E,F,G,H,I,J,K,L,M,())
           else
            again (A,B,C,w64 (D+1),E,F,G,H,I,J,K,L,M,())
          else
           again (A,B,C,w64 (D+1),E,F,G,H,I,J,K,L,M,())
        else
         bif !A then
          bif !(y2.2.2==[]) then
           (fB (E,F,G,H,I,J,K,L,M) y2.2.2).bind fun r7=>
           bif decide (r7.1<0) then
            some (.inl (5,()))
           else
            again (A,B,C,w64 (D+1),E,F,G,H,I,J,K,L,M,())
          else
           again (A,B,C,w64 (D+1),E,F,G,H,I,J,K,L,M,())
         else
          again (A,B,C,w64 (D+1),E,F,G,H,I,J,K,L,M,())
      else
       bif A then
        bif !(y2.2.2==[]) then
         some (.inl (3,()))
        else
         bif !A then
          bif !(y2.2.2==[]) then
           (fB (E,F,G,H,I,J,K,L,M) y2.2.2).bind fun r8=>
           bif decide (r8.1<0) then
            some (.inl (5,()))
           else
            again (A,B,C,w64 (D+1),E,F,G,H,I,J,K,L,M,())
          else
           again (A,B,C,w64 (D+1),E,F,G,H,I,J,K,L,M,())
         else
          again (A,B,C,w64 (D+1),E,F,G,H,I,J,K,L,M,())
       else
        bif !A then
         bif !(y2.2.2==[]) then
          (fB (E,F,G,H,I,J,K,L,M) y2.2.2).bind fun r9=>
          bif decide (r9.1<0) then
           some (.inl (5,()))
          else
           again (A,B,C,w64 (D+1),E,F,G,H,I,J,K,L,M,())
         else
          again (A,B,C,w64 (D+1),E,F,G,H,I,J,K,L,M,())
        else
         again (A,B,C,w64 (D+1),E,F,G,H,I,J,K,L,M,())
    else
     bif !y2.1 then
      (jb y2.2.1 (-1000000000) 1000000000 H).bind fun r10=>
      bif !r10.1 then
       some (.inl (1,()))
      else
       bif A then
        bif !(y2.2.2==[]) then
         some (.inl (3,()))
        else
         bif !A then
          bif !(y2.2.2==[]) then
           (fB (E,F,G,H,I,J,K,L,M) y2.2.2).bind fun r11=>
           bif decide (r11.1<0) then
            some (.inl (5,()))
           else
            again (A,B,C,w64 (D+1),E,F,G,H,I,J,K,L,M,())
          else
           again (A,B,C,w64 (D+1),E,F,G,H,I,J,K,L,M,())
         else
          again (A,B,C,w64 (D+1),E,F,G,H,I,J,K,L,M,())
       else
        bif !A then
         bif !(y2.2.2==[]) then
          (fB (E,F,G,H,I,J,K,L,M) y2.2.2).bind fun r12=>
          bif decide (r12.1<0) then
           some (.inl (5,()))
          else
           again (A,B,C,w64 (D+1),E,F,G,H,I,J,K,L,M,())
         else
          again (A,B,C,w64 (D+1),E,F,G,H,I,J,K,L,M,())
        else
         again (A,B,C,w64 (D+1),E,F,G,H,I,J,K,L,M,())
     else
      bif A then
       bif !(y2.2.2==[]) then
        some (.inl (3,()))
       else
        bif !A then
         bif !(y2.2.2==[]) then
          (fB (E,F,G,H,I,J,K,L,M) y2.2.2).bind fun r13=>
          bif decide (r13.1<0) then
           some (.inl (5,()))
          else
           again (A,B,C,w64 (D+1),E,F,G,H,I,J,K,L,M,())
         else
          again (A,B,C,w64 (D+1),E,F,G,H,I,J,K,L,M,())
        else
         again (A,B,C,w64 (D+1),E,F,G,H,I,J,K,L,M,())
      else
       bif !A then
        bif !(y2.2.2==[]) then
         (fB (E,F,G,H,I,J,K,L,M) y2.2.2).bind fun r14=>
         bif decide (r14.1<0) then
          some (.inl (5,()))
         else
          again (A,B,C,w64 (D+1),E,F,G,H,I,J,K,L,M,())
        else
         again (A,B,C,w64 (D+1),E,F,G,H,I,J,K,L,M,())
       else
        again (A,B,C,w64 (D+1),E,F,G,H,I,J,K,L,M,())
 else
  some (.inr ())
def iJ (a0:ai) (a1:List aj) (a2:Bool):Option (Int×Unit):=
 bif decide (((a1.length:Int))>20) then
  some (2,())
 else
  aJ (
   iter (X:=mH) (β:=qZ) (a1.length+(Int.natAbs ((a1.length:Int))+(Int.natAbs (0:Int)+(a0.1.length+(a0.2.1.length+(a0.2.2.1.natAbs+(a0.2.2.2.1.natAbs+(a0.2.2.2.2.1.natAbs+(a0.2.2.2.2.2.2.1.length+(a0.2.2.2.2.2.2.2.1.length+(a0.2.2.2.2.2.2.2.2.length+2))))))))))) (a2,a1,(a1.length:Int),0,a0.1,a0.2.1,a0.2.2.1,a0.2.2.2.1,a0.2.2.2.2.1,a0.2.2.2.2.2.1,a0.2.2.2.2.2.2.1,a0.2.2.2.2.2.2.2.1,a0.2.2.2.2.2.2.2.2,()) (mG)) fun _=>
  some (0,())
def pH (a0:ai) (a1:Int):Option (Int×Unit):=
 (idx a0.2.2.2.2.2.2.2.1 a1).bind fun y1=>
 (kE y1.1 1 99999).bind fun r2=>
 bif !r2.1 then
  some (1,())
 else
  bif decide (a1>0) then
   (idx a0.2.2.2.2.2.2.2.1 (w64 (a1 - 1))).bind fun y3=>
   bif decide (y1.1<=y3.1) then
    some (8,())
   else
    (kE y1.2.1 1 99999).bind fun r4=>
    bif !r4.1 then
     some (1,())
    else
     (kJ y1.2.2.1).bind fun r5=>
     bif !r5.1 then
      some (5,())
     else
      (jb y1.2.2.2.1 (-1000000000) 1000000000 3).bind fun r6=>
      bif !r6.1 then
       some (1,())
      else
       bif y1.2.2.2.1.1==0 then
        some (13,())
       else
        (kJ y1.2.2.2.2.1).bind fun r7=>
        bif !r7.1 then
         some (5,())
        else
         (jb y1.2.2.2.2.2.1 0 1000000000 4).bind fun r8=>
         bif !r8.1 then
          some (1,())
         else
          (kE y1.2.2.2.2.2.2.1 1 100000).bind fun r9=>
          bif !r9.1 then
           some (1,())
          else
           (iJ a0 y1.2.2.2.2.2.2.2.1 true).bind fun r10=>
           bif r10.1 != 0 then
            some (r10.1,())
           else
            (fB a0 y1.2.2.2.2.2.2.2.2).bind fun r11=>
            bif decide (r11.1<0) then
             some (5,())
            else
             some (0,())
  else
   (kE y1.2.1 1 99999).bind fun r12=>
   bif !r12.1 then
    some (1,())
   else
    (kJ y1.2.2.1).bind fun r13=>
    bif !r13.1 then
     some (5,())
    else
     (jb y1.2.2.2.1 (-1000000000) 1000000000 3).bind fun r14=>
     bif !r14.1 then
      some (1,())
     else
      bif y1.2.2.2.1.1==0 then
       some (13,())
      else
       (kJ y1.2.2.2.2.1).bind fun r15=>
       bif !r15.1 then
        some (5,())
       else
        (jb y1.2.2.2.2.2.1 0 1000000000 4).bind fun r16=>
        bif !r16.1 then
         some (1,())
        else
         (kE y1.2.2.2.2.2.2.1 1 100000).bind fun r17=>
         bif !r17.1 then
          some (1,())
         else
          (iJ a0 y1.2.2.2.2.2.2.2.1 true).bind fun r18=>
          bif r18.1 != 0 then
           some (r18.1,())
          else
           (fB a0 y1.2.2.2.2.2.2.2.2).bind fun r19=>
           bif decide (r19.1<0) then
            some (5,())
           else
            some (0,())
abbrev oQ:Type:=(List ak)×Int×Int×Bys×Bys×Int×Int×Int×Bool×(List ak)×(List aa)×(List aj)×Unit
abbrev oO:Type:=((Int×Unit) ⊕ (Bys×Bys×Int×Int×Int×Bool×(List ak)×(List aa)×(List aj)×Unit))
def kC (x1:oQ) (again:oQ->Option oO):Option oO:=
 match x1 with
 | (A,B,C,D,E,F,G,H,I,J,K,L,_)=>
 bif decide (C<B) then
  (idx A C).bind fun y2=>
  (kJ y2.1).bind fun r3=>
  bif !r3.1 then
   some (.inl (5,()))
  else
   bif decide (C>0) then
    (idx J (w64 (C - 1))).bind fun y4=>
    bif Op.bytesLess y2.1 y4.1||y2.1==y4.1 then
     some (.inl (8,()))
    else
     (jb y2.2 0 100 9).bind fun r5=>
     bif !r5.1 then
      some (.inl (1,()))
     else
      again (A,B,w64 (C+1),D,E,F,G,H,I,J,K,L,())
   else
    (jb y2.2 0 100 9).bind fun r6=>
    bif !r6.1 then
     some (.inl (1,()))
    else
     again (A,B,w64 (C+1),D,E,F,G,H,I,J,K,L,())
 else
  some (.inr (D,E,F,G,H,I,J,K,L,()))
abbrev oS:Type:=Int×Int×Bys×Bys×Int×Int×Int×Bool×(List ak)×(List aa)×(List aj)×Unit
abbrev oP:Type:=((Int×Unit) ⊕ (Bys×Bys×Int×Int×Int×Bool×(List ak)×(List aa)×(List aj)×Unit))
def kD (x1:oS) (again:oS->Option oP):Option oP:=
 match x1 with
 | (A,B,C,D,E,F,G,H,I,J,K,_)=>
 bif decide (B<A) then
  (pH (C,D,E,F,G,H,I,J,K) B).bind fun r2=>
  bif r2.1 != 0 then
   some (.inl (r2.1,()))
  else
   again (A,w64 (B+1),C,D,E,F,G,H,I,J,K,())
 else
  some (.inr (C,D,E,F,G,H,I,J,K,()))
def oN (a0:ai):Option (Int×Unit):=
 (kJ a0.1).bind fun r1=>
 bif !r1.1 then
  some (5,())
 else
  (kJ a0.2.1).bind fun r2=>
  bif !r2.1 then
   some (5,())
  else
   (FT a0.2.2.1).bind fun r3=>
   bif !r3.1 then
    some (1,())
   else
    (kE a0.2.2.2.1 0 4).bind fun r4=>
    bif !r4.1 then
     some (1,())
    else
     (kE a0.2.2.2.2.1 1 6).bind fun r5=>
     bif !r5.1 then
      some (4,())
     else
      bif ((a0.2.2.2.2.2.2.1.length:Int))==0 then
       some (9,())
      else
       bif decide (((a0.2.2.2.2.2.2.1.length:Int))>20) then
        some (2,())
       else
        aJ (
         iter (X:=oQ) (β:=oO) (a0.2.2.2.2.2.2.1.length+(Int.natAbs ((a0.2.2.2.2.2.2.1.length:Int))+(Int.natAbs (0:Int)+(a0.1.length+(a0.2.1.length+(a0.2.2.1.natAbs+(a0.2.2.2.1.natAbs+(a0.2.2.2.2.1.natAbs+(a0.2.2.2.2.2.2.1.length+(a0.2.2.2.2.2.2.2.1.length+(a0.2.2.2.2.2.2.2.2.length+2))))))))))) (a0.2.2.2.2.2.2.1,(a0.2.2.2.2.2.2.1.length:Int),0,a0.1,a0.2.1,a0.2.2.1,a0.2.2.2.1,a0.2.2.2.2.1,a0.2.2.2.2.2.1,a0.2.2.2.2.2.2.1,a0.2.2.2.2.2.2.2.1,a0.2.2.2.2.2.2.2.2,()) (kC)) fun (A,B,C,D,E,F,G,H,I,_)=>
        bif ((H.length:Int))==0 then
         some (9,())
        else
         bif decide (((H.length:Int))>500) then
          some (2,())
         else
          aJ (
           iter (X:=oS) (β:=oP) (Int.natAbs ((H.length:Int))+(Int.natAbs (0:Int)+(A.length+(B.length+(C.natAbs+(D.natAbs+(E.natAbs+(G.length+(H.length+(I.length+2)))))))))) ((H.length:Int),0,A,B,C,D,E,F,G,H,I,()) (kD)) fun (J,K,L,M,N,O,P,Q,R,_)=>
          (iJ (J,K,L,M,N,O,P,Q,R) R false).bind fun r16=>
          some (r16.1,())
end Go.Md
namespace Go.Md
open Go.Dn
def So (n:Nat):Bys:=if n<10 then [UInt8.ofNat (48+n)] else [UInt8.ofNat (48+n / 10),UInt8.ofNat (48+n % 10)]
def strconv_Itoa (n:Int):Option (Bys×Unit):=bif decide (0<=n)&&decide (n<100) then some (So n.toNat,()) else bif decide (-9223372036854775808<=n)&&decide (n<=9223372036854775807) then some (Lib.itoa n,()) else none
def strings_Repeat (s:Bys) (n:Int):Option (Bys×Unit):=bif decide (0<=n)&&(decide (n<=9223372036854775807)&&decide (s.length*n.toNat<=140737488355328)) then some (Lib.repeatL s n.toNat,()) else none
abbrev Kx:Type:=Int×Bys×Bys×ah×ah×Int×ah×ah×ah×ah
abbrev nN:Type:=Bys×Int×Int×Int×Int×Unit
abbrev xU:Type:=((Bool×Unit) ⊕ Unit)
def sB (x1:nN) (again:nN->Option xU):Option xU:=
 match x1 with
 | (A,B,C,D,E,_)=>
 bif decide (E<D) then
  (iS A E).bind fun c2=>
  bif decide ((c2.toNat:Int)<B) then
   some (.inl (false,()))
  else
   (iS A E).bind fun c3=>
   bif decide ((c3.toNat:Int)>C) then
    some (.inl (false,()))
   else
    again (A,B,C,D,w64 (E+1),())
 else
  some (.inr ())
def Du (a0:Bys) (a1:Int) (a2:Int):Option (Bool×Unit):=
 aJ (
  iter (X:=nN) (β:=xU) (a0.length+(a1.natAbs+(a2.natAbs+(Int.natAbs ((a0.length:Int))+(Int.natAbs (0:Int)+2))))) (a0,a1,a2,(a0.length:Int),0,()) (sB)) fun _=>
 some (true,())
def nO (a0:Bys):Option (Bool×Unit):=
 bif !(a0==[]) then
  (Du a0 48 57).bind fun r1=>
  some (r1.1,())
 else
  some (false,())
abbrev yd:Type:=Bys×Int×Int×Unit
abbrev yc:Type:=((Bool×Unit) ⊕ Unit)
def Pt (x1:yd) (again:yd->Option yc):Option yc:=
 bif decide (x1.2.2.1<x1.2.1) then
  (iS x1.1 x1.2.2.1).bind fun c2=>
  bif decide ((c2.toNat:Int)<48) then
   some (.inl (false,()))
  else
   (iS x1.1 x1.2.2.1).bind fun c3=>
   bif decide ((c3.toNat:Int)>57) then
    some (.inl (false,()))
   else
    again (x1.1,x1.2.1,w64 (x1.2.2.1+1),())
 else
  some (.inr ())
def DB (a0:Bys):Option (Bool×Unit):=
 bif a0==[] then
  some (false,())
 else
  aJ (
   iter (X:=yd) (β:=yc) (a0.length+(Int.natAbs ((a0.length:Int))+(Int.natAbs (0:Int)+2))) (a0,(a0.length:Int),0,()) (Pt)) fun _=>
  some (true,())
end Go.Md
namespace Go.Md
open Go.Dn
end Go.Md
namespace Go.Md
open Go.Dn
end Go.Md
