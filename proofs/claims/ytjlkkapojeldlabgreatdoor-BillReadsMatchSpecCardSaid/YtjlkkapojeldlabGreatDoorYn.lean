/-
  The plain models of the functions that the law reaches, second part. No condition.
-/
import Derived.Test.YtjlkkapojeldlabGreatDoorYm
import Derived.Lib.Bytealg
import Derived.Lib.Repeat
import Derived.Lib.ItoaNum
namespace Go.Md
open Go.Dn
def strings_Compare (a b:Bys):Option (Int×Unit):=some (Lib.compareBytes a b,())
abbrev dn:Ty:=(.st (.pair .str bg))
abbrev aC:Type:=Bys×ah
abbrev dw:Ty:=(.st (.pair .bool (.pair bg .str)))
abbrev aJ:Type:=Bool×ah×Bys
abbrev jq:Ty:=(.st (.pair tI (.pair tI (.pair .str (.pair bg (.pair .str (.pair bg (.pair tI (.pair (.slice dw) .str)))))))))
abbrev ai:Type:=Int×Int×Bys×ah×Bys×ah×Int×(List aJ)×Bys
abbrev dH:Ty:=(.st (.pair .str (.pair .str (.pair tI (.pair tI (.pair tI (.pair .bool (.pair (.slice dn) (.pair (.slice jq) (.slice dw))))))))))
abbrev aa:Type:=Bys×Bys×Int×Int×Int×Bool×(List aC)×(List ai)×(List aJ)
def zW (a0:Int):Option (Bool×Unit):=
 (cL a0 1 6).bind fun r1=>
 some (!r1.1,())
abbrev mg:Type:=(List aC)×(List aC)×Int×Int×Unit
abbrev qs:Type:=((Int×Unit) ⊕ Unit)
def me (x1:mg) (again:mg->Option qs):Option qs:=
 match x1 with
 | (A,B,C,D,_)=>
 bif decide (D<C) then
  (idx B D).bind fun y2=>
  (eN y2.1).bind fun r3=>
  bif !r3.1 then
   some (.inl (5,()))
  else
   bif decide (D>0) then
    (idx A (w64 (D - 1))).bind fun y4=>
    bif Op.bytesLess y2.1 y4.1||y2.1==y4.1 then
     some (.inl (8,()))
    else
     (cy y2.2).bind fun r5=>
     bif r5.1 != 0 then
      some (.inl (r5.1,()))
     else
      bif decide (y2.2.1<0) then
       some (.inl (1,()))
      else
       (dQ y2.2 100).bind fun r6=>
       bif !r6.1 then
        some (.inl (1,()))
       else
        again (A,B,C,w64 (D+1),())
   else
    (cy y2.2).bind fun r7=>
    bif r7.1 != 0 then
     some (.inl (r7.1,()))
    else
     bif decide (y2.2.1<0) then
      some (.inl (1,()))
     else
      (dQ y2.2 100).bind fun r8=>
      bif !r8.1 then
       some (.inl (1,()))
      else
       again (A,B,C,w64 (D+1),())
 else
  some (.inr ())
def jR (a0:List aC):Option (Int×Unit):=
 bif ((a0.length:Int))==0 then
  some (9,())
 else
  bif decide (((a0.length:Int))>20) then
   some (2,())
  else
   aR (
    iter (X:=mg) (β:=qs) (a0.length+(a0.length+(Int.natAbs ((a0.length:Int))+(Int.natAbs (0:Int)+2)))) (a0,a0,(a0.length:Int),0,()) (me)) fun _=>
   some (0,())
abbrev wQ:Type:=Int×Int×Int×Unit
abbrev wP:Type:=((Int×Unit) ⊕ (Int×Unit))
def ME (x1:wQ) (again:wQ->Option wP):Option wP:=
 bif decide (x1.2.2.1<x1.2.1) then
  again (w64 (x1.1*10),x1.2.1,w64 (x1.2.2.1+1),())
 else
  some (.inr (x1.1,()))
def BO (a0:Int):Option (Int×Unit):=
 aR (
  iter (X:=wQ) (β:=wP) (Int.natAbs (1:Int)+(a0.natAbs+(Int.natAbs (0:Int)+2))) (1,a0,0,()) (ME)) fun v2=>
 some (v2.1,())
def As (a0:ah) (a1:Int) (a2:Int):Option (Bool×Unit):=
 bif decide (a0.2<=a1) then
  bif decide (a0.1>=0) then
   (BO a0.2).bind fun r1=>
   some (decide (a0.1<=(w64 (a2*r1.1))),())
  else
   some (false,())
 else
  some (false,())
def lg (a0:ah):Option (Int×Unit):=
 (cy a0).bind fun r1=>
 bif r1.1 != 0 then
  some (r1.1,())
 else
  (As a0 4 1000000000).bind fun r2=>
  bif !r2.1 then
   some (1,())
  else
   some (0,())
def yL (a0:aC) (a1:Bys):Option (Int×Unit):=
 (strings_Compare a0.1 a1).bind fun r1=>
 some (r1.1,())
abbrev cr:Type:=(List aC)×Bys×Unit×Int×Int×Int×Unit
abbrev eE:Type:=((Int×Bool×Unit) ⊕ ((List aC)×Bys×Unit×Int×Int×Unit))
def eD (x1:cr) (again:cr->Option eE):Option eE:=
 match x1 with
 | (A,B,C,D,E,F,_)=>
 bif decide (E<F) then
  let n2:Int:=w64 (Int.fdiv (bU (w64 (E+F))) (2 ^ 1))
  (idx A n2).bind fun y3=>
  (yL y3 B).bind fun r4=>
  bif decide (r4.1<0) then
   again (A,B,C,D,w64 (n2+1),F,())
  else
   again (A,B,C,D,E,n2,())
 else
  some (.inr (A,B,C,D,E,()))
def dG (a0:List aC) (a1:Bys) (a2:Unit):Option (Int×Bool×Unit):=
 aR (
  iter (X:=cr) (β:=eE) (a0.length+(a1.length+(Int.natAbs ((a0.length:Int))+(Int.natAbs (0:Int)+(Int.natAbs ((a0.length:Int))+2))))) (a0,a1,a2,(a0.length:Int),0,(a0.length:Int),()) (eD)) fun (A,B,_,C,D,_)=>
 bif decide (D<C) then
  (idx A D).bind fun y6=>
  (yL y6 B).bind fun r7=>
  some (D,r7.1==0,())
 else
  some (D,false,())
def xu (a0:List aC) (a1:Bys):Option (Int×Bool×Unit):=
 (dG a0 a1 ()).bind fun r1=>
 some (r1.1,r1.2.1,())
def gC (a0:aa) (a1:Bys):Option (Bool×Unit):=
 (xu a0.2.2.2.2.2.2.1 a1).bind fun r1=>
 some (r1.2.1,())
abbrev lG:Type:=Bool×(List aJ)×Int×Int×Bys×Bys×Int×Int×Int×Bool×(List aC)×(List ai)×(List aJ)×Unit
abbrev pO:Type:=((Int×Unit) ⊕ Unit)
def lF (x1:lG) (again:lG->Option pO):Option pO:=
 match x1 with
 | (A,B,C,D,E,F,G,H,I,J,K,L,M,_)=>
 bif decide (D<C) then
  (idx B D).bind fun y2=>
  (cy y2.2.1).bind fun r3=>
  bif r3.1 != 0 then
   some (.inl (r3.1,()))
  else
   bif y2.2.1.1==0 then
    some (.inl (13,()))
   else
    bif y2.1 then
     (dQ y2.2.1 100).bind fun r4=>
     aR (γ:=(Bool×(List aJ)×Int×Int×Bool×Bys×Bys×Int×Int×Int×Bool×(List aC)×(List ai)×(List aJ)×Bool×Int×Int×Bys×Unit)) (
      bif !r4.1 then
       some (.inr (A,B,C,D, !r4.1,E,F,G,H,I,J,K,L,M,y2.1,y2.2.1.1,y2.2.1.2,y2.2.2,()))
      else
       bif !y2.1 then
        (dQ y2.2.1 1000000000).bind fun r5=>
        bif !r5.1 then
         some (.inr (A,B,C,D,true,E,F,G,H,I,J,K,L,M,y2.1,y2.2.1.1,y2.2.1.2,y2.2.2,()))
        else
         some (.inr (A,B,C,D,decide (y2.2.1.2>H),E,F,G,H,I,J,K,L,M,y2.1,y2.2.1.1,y2.2.1.2,y2.2.2,()))
       else
        some (.inr (A,B,C,D,false,E,F,G,H,I,J,K,L,M,y2.1,y2.2.1.1,y2.2.1.2,y2.2.2,()))) fun (N,O,P,Q,R,S,T,U,V,W,X,Y,Z,A0,_,_,_,B0,_)=>
     bif R then
      some (.inl (1,()))
     else
      bif N then
       bif !(B0==[]) then
        some (.inl (3,()))
       else
        bif !N then
         bif !(B0==[]) then
          (gC (S,T,U,V,W,X,Y,Z,A0) B0).bind fun r7=>
          bif !r7.1 then
           some (.inl (5,()))
          else
           again (N,O,P,w64 (Q+1),S,T,U,V,W,X,Y,Z,A0,())
         else
          again (N,O,P,w64 (Q+1),S,T,U,V,W,X,Y,Z,A0,())
        else
         again (N,O,P,w64 (Q+1),S,T,U,V,W,X,Y,Z,A0,())
      else
       bif !N then
        bif !(B0==[]) then
         (gC (S,T,U,V,W,X,Y,Z,A0) B0).bind fun r8=>
         bif !r8.1 then
          some (.inl (5,()))
         else
          again (N,O,P,w64 (Q+1),S,T,U,V,W,X,Y,Z,A0,())
        else
         again (N,O,P,w64 (Q+1),S,T,U,V,W,X,Y,Z,A0,())
       else
        again (N,O,P,w64 (Q+1),S,T,U,V,W,X,Y,Z,A0,())
    else
     aR (γ:=(Bool×(List aJ)×Int×Int×Bool×Bys×Bys×Int×Int×Int×Bool×(List aC)×(List ai)×(List aJ)×Bool×Int×Int×Bys×Unit)) (
      bif !y2.1 then
       (dQ y2.2.1 1000000000).bind fun r9=>
       bif !r9.1 then
        some (.inr (A,B,C,D,true,E,F,G,H,I,J,K,L,M,y2.1,y2.2.1.1,y2.2.1.2,y2.2.2,()))
       else
        some (.inr (A,B,C,D,decide (y2.2.1.2>H),E,F,G,H,I,J,K,L,M,y2.1,y2.2.1.1,y2.2.1.2,y2.2.2,()))
      else
       some (.inr (A,B,C,D,false,E,F,G,H,I,J,K,L,M,y2.1,y2.2.1.1,y2.2.1.2,y2.2.2,()))) fun (C0,D0,E0,F0,G0,H0,I0,J0,K0,L0,M0,N0,O0,P0,_,_,_,Q0,_)=>
     bif G0 then
      some (.inl (1,()))
     else
      bif C0 then
       bif !(Q0==[]) then
        some (.inl (3,()))
       else
        bif !C0 then
         bif !(Q0==[]) then
          (gC (H0,I0,J0,K0,L0,M0,N0,O0,P0) Q0).bind fun r11=>
          bif !r11.1 then
           some (.inl (5,()))
          else
           again (C0,D0,E0,w64 (F0+1),H0,I0,J0,K0,L0,M0,N0,O0,P0,())
         else
          again (C0,D0,E0,w64 (F0+1),H0,I0,J0,K0,L0,M0,N0,O0,P0,())
        else
         again (C0,D0,E0,w64 (F0+1),H0,I0,J0,K0,L0,M0,N0,O0,P0,())
      else
       bif !C0 then
        bif !(Q0==[]) then
         (gC (H0,I0,J0,K0,L0,M0,N0,O0,P0) Q0).bind fun r12=>
         bif !r12.1 then
          some (.inl (5,()))
         else
          again (C0,D0,E0,w64 (F0+1),H0,I0,J0,K0,L0,M0,N0,O0,P0,())
        else
         again (C0,D0,E0,w64 (F0+1),H0,I0,J0,K0,L0,M0,N0,O0,P0,())
       else
        again (C0,D0,E0,w64 (F0+1),H0,I0,J0,K0,L0,M0,N0,O0,P0,())
 else
  some (.inr ())
def gU (a0:aa) (a1:List aJ) (a2:Bool):Option (Int×Unit):=
 bif decide (((a1.length:Int))>20) then
  some (2,())
 else
  aR (
   iter (X:=lG) (β:=pO) (a1.length+(Int.natAbs ((a1.length:Int))+(Int.natAbs (0:Int)+(a0.1.length+(a0.2.1.length+(a0.2.2.1.natAbs+(a0.2.2.2.1.natAbs+(a0.2.2.2.2.1.natAbs+(a0.2.2.2.2.2.2.1.length+(a0.2.2.2.2.2.2.2.1.length+(a0.2.2.2.2.2.2.2.2.length+2))))))))))) (a2,a1,(a1.length:Int),0,a0.1,a0.2.1,a0.2.2.1,a0.2.2.2.1,a0.2.2.2.2.1,a0.2.2.2.2.2.1,a0.2.2.2.2.2.2.1,a0.2.2.2.2.2.2.2.1,a0.2.2.2.2.2.2.2.2,()) (lF)) fun _=>
  some (0,())
def nA (a0:aa) (a1:Int):Option (Int×Unit):=
 (idx a0.2.2.2.2.2.2.2.1 a1).bind fun y1=>
 (cL y1.1 1 99999).bind fun r2=>
 bif r2.1 then
  some (1,())
 else
  bif decide (a1>0) then
   (idx a0.2.2.2.2.2.2.2.1 (w64 (a1 - 1))).bind fun y3=>
   bif decide (y1.1<=y3.1) then
    some (8,())
   else
    (cL y1.2.1 1 99999).bind fun r4=>
    bif r4.1 then
     some (1,())
    else
     (eN y1.2.2.1).bind fun r5=>
     bif !r5.1 then
      some (5,())
     else
      (cy y1.2.2.2.1).bind fun r6=>
      bif r6.1 != 0 then
       some (r6.1,())
      else
       bif decide (y1.2.2.2.1.2>3) then
        some (1,())
       else
        (dQ y1.2.2.2.1 1000000000).bind fun r7=>
        bif !r7.1 then
         some (1,())
        else
         bif y1.2.2.2.1.1==0 then
          some (13,())
         else
          (eN y1.2.2.2.2.1).bind fun r8=>
          bif !r8.1 then
           some (5,())
          else
           (lg y1.2.2.2.2.2.1).bind fun r9=>
           bif r9.1 != 0 then
            some (r9.1,())
           else
            (cL y1.2.2.2.2.2.2.1 1 100000).bind fun r10=>
            bif r10.1 then
             some (1,())
            else
             (gU a0 y1.2.2.2.2.2.2.2.1 true).bind fun r11=>
             bif r11.1 != 0 then
              some (r11.1,())
             else
              (gC a0 y1.2.2.2.2.2.2.2.2).bind fun r12=>
              bif !r12.1 then
               some (5,())
              else
               some (0,())
  else
   (cL y1.2.1 1 99999).bind fun r13=>
   bif r13.1 then
    some (1,())
   else
    (eN y1.2.2.1).bind fun r14=>
    bif !r14.1 then
     some (5,())
    else
     (cy y1.2.2.2.1).bind fun r15=>
     bif r15.1 != 0 then
      some (r15.1,())
     else
      bif decide (y1.2.2.2.1.2>3) then
       some (1,())
      else
       (dQ y1.2.2.2.1 1000000000).bind fun r16=>
       bif !r16.1 then
        some (1,())
       else
        bif y1.2.2.2.1.1==0 then
         some (13,())
        else
         (eN y1.2.2.2.2.1).bind fun r17=>
         bif !r17.1 then
          some (5,())
         else
          (lg y1.2.2.2.2.2.1).bind fun r18=>
          bif r18.1 != 0 then
           some (r18.1,())
          else
           (cL y1.2.2.2.2.2.2.1 1 100000).bind fun r19=>
           bif r19.1 then
            some (1,())
           else
            (gU a0 y1.2.2.2.2.2.2.2.1 true).bind fun r20=>
            bif r20.1 != 0 then
             some (r20.1,())
            else
             (gC a0 y1.2.2.2.2.2.2.2.2).bind fun r21=>
             bif !r21.1 then
              some (5,())
             else
              some (0,())
abbrev nw:Type:=Int×Int×Bys×Bys×Int×Int×Int×Bool×(List aC)×(List ai)×(List aJ)×Unit
abbrev nv:Type:=((Int×Unit) ⊕ (Bys×Bys×Int×Int×Int×Bool×(List aC)×(List ai)×(List aJ)×Unit))
def jQ (x1:nw) (again:nw->Option nv):Option nv:=
 match x1 with
 | (A,B,C,D,E,F,G,H,I,J,K,_)=>
 bif decide (B<A) then
  (nA (C,D,E,F,G,H,I,J,K) B).bind fun r2=>
  bif r2.1 != 0 then
   some (.inl (r2.1,()))
  else
   again (A,w64 (B+1),C,D,E,F,G,H,I,J,K,())
 else
  some (.inr (C,D,E,F,G,H,I,J,K,()))
def gj (a0:aa):Option (Int×Unit):=
 (eN a0.1).bind fun r1=>
 bif !r1.1 then
  some (5,())
 else
  (eN a0.2.1).bind fun r2=>
  bif !r2.1 then
   some (5,())
  else
   (uM a0.2.2.1).bind fun r3=>
   bif !r3.1 then
    some (1,())
   else
    (cL a0.2.2.2.1 0 4).bind fun r4=>
    bif r4.1 then
     some (1,())
    else
     (zW a0.2.2.2.2.1).bind fun r5=>
     bif !r5.1 then
      some (4,())
     else
      (jR a0.2.2.2.2.2.2.1).bind fun r6=>
      bif r6.1 != 0 then
       some (r6.1,())
      else
       bif ((a0.2.2.2.2.2.2.2.1.length:Int))==0 then
        some (9,())
       else
        bif decide (((a0.2.2.2.2.2.2.2.1.length:Int))>500) then
         some (2,())
        else
         aR (
          iter (X:=nw) (β:=nv) (Int.natAbs ((a0.2.2.2.2.2.2.2.1.length:Int))+(Int.natAbs (0:Int)+(a0.1.length+(a0.2.1.length+(a0.2.2.1.natAbs+(a0.2.2.2.1.natAbs+(a0.2.2.2.2.1.natAbs+(a0.2.2.2.2.2.2.1.length+(a0.2.2.2.2.2.2.2.1.length+(a0.2.2.2.2.2.2.2.2.length+2)))))))))) ((a0.2.2.2.2.2.2.2.1.length:Int),0,a0.1,a0.2.1,a0.2.2.1,a0.2.2.2.1,a0.2.2.2.2.1,a0.2.2.2.2.2.1,a0.2.2.2.2.2.2.1,a0.2.2.2.2.2.2.2.1,a0.2.2.2.2.2.2.2.2,()) (jQ)) fun (A,B,C,D,E,F,G,H,I,_)=>
         (gU (A,B,C,D,E,F,G,H,I) I false).bind fun r10=>
         some (r10.1,())
abbrev jO:Type:=Int×Int×Int×(List Int)×Int×Int×(List Int)×Int×Int×Bool×(List Int)×Bool×(List Int)×Bool×(List Int)×(List Int)×Unit
abbrev rm:Type:=(((bZ×Unit) ⊕ (Bool×(List Int)×Bool×(List Int)×Bool×(List Int)×(List Int)×Unit)) ⊕ (Int×Int×(List Int)×Int×Int×Bool×(List Int)×Bool×(List Int)×Bool×(List Int)×(List Int)×Unit))
def mO (x1:jO) (again:jO->Option rm):Option rm:=
 match x1 with
 | (A,B,C,D,E,F,G,H,I,J,K,L,M,N,O,P,_)=>
 bif decide (I<H) then
  (idx G I).bind fun y2=>
  chk (decide (0<=(w64 (A+I)))&&decide ((w64 (A+I))<(P.length:Int))) <|
  (P[(w64 (A+I)).toNat]?).bind fun y3=>
  let n4:Int:=bU ((bU y3)+(bU ((bU B)*(bU y2))))
  chk (decide (0<=(w64 (A+I)))&&decide ((w64 (A+I))<(P.length:Int))) <|
  (P[(w64 (A+I)).toNat]?).bind fun _=>
  again (A,B,Int.fdiv (bU (C+n4)) (2 ^ 32),D,E,F,G,H,w64 (I+1),J,K,L,M,N,O,List.set P (w64 (A+I)).toNat (mY (bU (C+n4))),())
 else
  some (.inr (A,C,D,E,F,J,K,L,M,N,O,P,()))
abbrev jN:Type:=(List Int)×Int×Int×Bool×(List Int)×Bool×(List Int)×Bool×(List Int)×(List Int)×Unit
abbrev rj:Type:=((bZ×Unit) ⊕ (Bool×(List Int)×Bool×(List Int)×Bool×(List Int)×(List Int)×Unit))
def mN (x1:jN) (again:jN->Option rj):Option rj:=
 match x1 with
 | (A,B,C,D,E,F,G,H,I,J,_)=>
 bif decide (C<B) then
  (idx A C).bind fun y2=>
  aR (
   iter (X:=jO) (β:=rm) (C.natAbs+(y2.natAbs+(Int.natAbs (0:Int)+(A.length+(B.natAbs+(C.natAbs+(G.length+(Int.natAbs ((G.length:Int))+(Int.natAbs (0:Int)+(E.length+(G.length+(I.length+(J.length+2))))))))))))) (C,y2,0,A,B,C,G,(G.length:Int),0,D,E,F,G,H,I,J,()) (mO)) fun (K,L,M,N,O,P,Q,R,S,T,U,V,_)=>
  chk (decide (0<=(w64 (K+((S.length:Int)))))&&decide ((w64 (K+((S.length:Int))))<(V.length:Int))) <|
  (V[(w64 (K+((S.length:Int)))).toNat]?).bind fun _=>
  again (M,N,w64 (O+1),P,Q,R,S,T,U,List.set V (w64 (K+((S.length:Int)))).toNat (mY L),())
 else
  some (.inr (D,E,F,G,H,I,J,()))
def mM (a0:bZ) (a1:bZ):Option (bZ×Unit):=
 chk (decide (0<=(w64 (((a0.2.length:Int))+((a1.2.length:Int)))))&&decide ((w64 (((a0.2.length:Int))+((a1.2.length:Int))))<=(w64 (((a0.2.length:Int))+((a1.2.length:Int)))))&&decide ((4:Int)*(w64 (((a0.2.length:Int))+((a1.2.length:Int))))<=281474976710656)&&decide ((w64 (((a0.2.length:Int))+((a1.2.length:Int))))<=9223372036854775807)) <|
 aR (
  iter (X:=jN) (β:=rj) (a0.2.length+(Int.natAbs ((a0.2.length:Int))+(Int.natAbs (0:Int)+(a0.2.length+(a1.2.length+(List.length ([]:List Int)+(List.length ((List.replicate (Int.toNat (w64 (((a0.2.length:Int))+((a1.2.length:Int))))) 0):List Int)+2))))))) (a0.2,(a0.2.length:Int),0,a0.1,a0.2,a1.1,a1.2,false,[],List.replicate (Int.toNat (w64 (((a0.2.length:Int))+((a1.2.length:Int))))) 0,()) (mN)) fun v10=>
 (gS (!(v10.1==v10.2.2.1)) v10.2.2.2.2.2.2.1).bind fun r11=>
 some (r11.1,())
abbrev xk:Type:=(List Int)×(List Int)×Int×(List Int)×Int×Int×Unit
abbrev xj:Type:=(((List Int)×Unit) ⊕ ((List Int)×Int×Unit))
def MY (x1:xk) (again:xk->Option xj):Option xj:=
 match x1 with
 | (A,B,C,D,E,F,_)=>
 bif decide (F<E) then
  (idx D F).bind fun y2=>
  aR (γ:=((List Int)×(List Int)×Int×(List Int)×Int×Int×Unit)) (
   bif decide (F<((A.length:Int))) then
    (idx A F).bind fun y3=>
    let n4:Int:=bU ((bU (C+(bU y2)))+(bU y3))
    some (.inr (A,B,n4,D,E,F,()))
   else
    some (.inr (A,B,bU (C+(bU y2)),D,E,F,()))) fun (G,H,I,J,K,L,_)=>
  chk (decide (((H.length)+1)*4<=140737488355328)&&decide ((H.length)+1<=maxLen)) <|
  again (G,H++[(mY I)],Int.fdiv I (2 ^ 32),J,K,w64 (L+1),())
 else
  some (.inr (B,C,()))
def B6 (a0:List Int) (a1:List Int):Option ((List Int)×Unit):=
 aR (γ:=((List Int)×(List Int)×Unit)) (
  bif decide (((a0.length:Int))<((a1.length:Int))) then
   some (.inr (a1,a0,()))
  else
   some (.inr (a0,a1,()))) fun (A,B,_)=>
 chk (decide (0<=(0:Int))&&decide ((0:Int)<=(w64 (((A.length:Int))+1)))&&decide ((4:Int)*(w64 (((A.length:Int))+1))<=281474976710656)&&decide ((w64 (((A.length:Int))+1))<=9223372036854775807)) <|
 aR (
  iter (X:=xk) (β:=xj) (B.length+(List.length ([]:List Int)+(Int.natAbs (0:Int)+(A.length+(Int.natAbs ((A.length:Int))+(Int.natAbs (0:Int)+2)))))) (B,[],0,A,(A.length:Int),0,()) (MY)) fun (C,D,_)=>
 chk (decide (((C.length)+1)*4<=140737488355328)&&decide ((C.length)+1<=maxLen)) <|
 some (C++[(mY D)],())
def nS (a0:bZ) (a1:bZ):Option (bZ×Unit):=
 bif a0.1==a1.1 then
  (B6 a0.2 a1.2).bind fun r1=>
  (gS a0.1 r1.1).bind fun r2=>
  some (r2.1,())
 else
  (pz a0.2 a1.2).bind fun r3=>
  bif decide (r3.1>=0) then
   (sj a0.2 a1.2).bind fun r4=>
   (gS a0.1 r4.1).bind fun r5=>
   some (r5.1,())
  else
   (sj a1.2 a0.2).bind fun r6=>
   (gS a1.1 r6.1).bind fun r7=>
   some (r7.1,())
abbrev o8:Type:=Bys×(List aC)×Int×Int×Unit
abbrev yR:Type:=((Int×Unit) ⊕ Unit)
def tK (x1:o8) (again:o8->Option yR):Option yR:=
 match x1 with
 | (A,B,C,D,_)=>
 bif decide (D<C) then
  (idx B D).bind fun y2=>
  bif y2.1==A then
   some (.inl (D,()))
  else
   again (A,B,C,w64 (D+1),())
 else
  some (.inr ())
def fk (a0:aa) (a1:Bys):Option (Int×Unit):=
 aR (
  iter (X:=o8) (β:=yR) (a1.length+(a0.2.2.2.2.2.2.1.length+(Int.natAbs ((a0.2.2.2.2.2.2.1.length:Int))+(Int.natAbs (0:Int)+2)))) (a1,a0.2.2.2.2.2.2.1,(a0.2.2.2.2.2.2.1.length:Int),0,()) (tK)) fun _=>
 some ((-1),())
abbrev mG:Type:=Bool×(List aJ)×Int×Int×Bys×Bys×Int×Int×Int×Bool×(List aC)×(List ai)×(List aJ)×Unit
abbrev qJ:Type:=((Int×Unit) ⊕ Unit)
def mF (x1:mG) (again:mG->Option qJ):Option qJ:=
 match x1 with
 | (A,B,C,D,E,F,G,H,I,J,K,L,M,_)=>
 bif decide (D<C) then
  (idx B D).bind fun y2=>
  (jS y2.2.1).bind fun r3=>
  bif r3.1 != 0 then
   some (.inl (1,()))
  else
   bif y2.2.1.1==0 then
    some (.inl (13,()))
   else
    bif y2.1 then
     (jk y2.2.1 (-100) 100 9).bind fun r4=>
     bif !r4.1 then
      some (.inl (1,()))
     else
      bif !y2.1 then
       (jk y2.2.1 (-1000000000) 1000000000 H).bind fun r5=>
       bif !r5.1 then
        some (.inl (1,()))
       else
        bif A then
         bif !(y2.2.2==[]) then
          some (.inl (3,()))
         else
          bif !A then
           bif !(y2.2.2==[]) then
            (fk (E,F,G,H,I,J,K,L,M) y2.2.2).bind fun r6=>
            bif decide (r6.1<0) then
             some (.inl (5,()))
            else
             again (A,B,C,w64 (D+1),E,F,G,H,I,J,K,L,M,())
           else
            again (A,B,C,w64 (D+1),E,F,G,H,I,J,K,L,M,())
          else
           again (A,B,C,w64 (D+1),E,F,G,H,I,J,K,L,M,())
        else
         bif !A then
          bif !(y2.2.2==[]) then
           (fk (E,F,G,H,I,J,K,L,M) y2.2.2).bind fun r7=>
           bif decide (r7.1<0) then
            some (.inl (5,()))
           else
            again (A,B,C,w64 (D+1),E,F,G,H,I,J,K,L,M,())
          else
           again (A,B,C,w64 (D+1),E,F,G,H,I,J,K,L,M,())
         else
          again (A,B,C,w64 (D+1),E,F,G,H,I,J,K,L,M,())
      else
       bif A then
        bif !(y2.2.2==[]) then
         some (.inl (3,()))
        else
         bif !A then
          bif !(y2.2.2==[]) then
           (fk (E,F,G,H,I,J,K,L,M) y2.2.2).bind fun r8=>
           bif decide (r8.1<0) then
            some (.inl (5,()))
           else
            again (A,B,C,w64 (D+1),E,F,G,H,I,J,K,L,M,())
          else
           again (A,B,C,w64 (D+1),E,F,G,H,I,J,K,L,M,())
         else
          again (A,B,C,w64 (D+1),E,F,G,H,I,J,K,L,M,())
       else
        bif !A then
         bif !(y2.2.2==[]) then
          (fk (E,F,G,H,I,J,K,L,M) y2.2.2).bind fun r9=>
          bif decide (r9.1<0) then
           some (.inl (5,()))
          else
           again (A,B,C,w64 (D+1),E,F,G,H,I,J,K,L,M,())
         else
          again (A,B,C,w64 (D+1),E,F,G,H,I,J,K,L,M,())
        else
         again (A,B,C,w64 (D+1),E,F,G,H,I,J,K,L,M,())
    else
     bif !y2.1 then
      (jk y2.2.1 (-1000000000) 1000000000 H).bind fun r10=>
      bif !r10.1 then
       some (.inl (1,()))
      else
       bif A then
        bif !(y2.2.2==[]) then
         some (.inl (3,()))
        else
         bif !A then
          bif !(y2.2.2==[]) then
           (fk (E,F,G,H,I,J,K,L,M) y2.2.2).bind fun r11=>
           bif decide (r11.1<0) then
            some (.inl (5,()))
           else
            again (A,B,C,w64 (D+1),E,F,G,H,I,J,K,L,M,())
          else
           again (A,B,C,w64 (D+1),E,F,G,H,I,J,K,L,M,())
         else
          again (A,B,C,w64 (D+1),E,F,G,H,I,J,K,L,M,())
       else
        bif !A then
         bif !(y2.2.2==[]) then
          (fk (E,F,G,H,I,J,K,L,M) y2.2.2).bind fun r12=>
          bif decide (r12.1<0) then
           some (.inl (5,()))
          else
           again (A,B,C,w64 (D+1),E,F,G,H,I,J,K,L,M,())
         else
          again (A,B,C,w64 (D+1),E,F,G,H,I,J,K,L,M,())
        else
         again (A,B,C,w64 (D+1),E,F,G,H,I,J,K,L,M,())
     else
      bif A then
       bif !(y2.2.2==[]) then
        some (.inl (3,()))
       else
        bif !A then
         bif !(y2.2.2==[]) then
          (fk (E,F,G,H,I,J,K,L,M) y2.2.2).bind fun r13=>
          bif decide (r13.1<0) then
           some (.inl (5,()))
          else
           again (A,B,C,w64 (D+1),E,F,G,H,I,J,K,L,M,())
         else
          again (A,B,C,w64 (D+1),E,F,G,H,I,J,K,L,M,())
        else
         again (A,B,C,w64 (D+1),E,F,G,H,I,J,K,L,M,())
      else
       bif !A then
        bif !(y2.2.2==[]) then
         (fk (E,F,G,H,I,J,K,L,M) y2.2.2).bind fun r14=>
         bif decide (r14.1<0) then
          some (.inl (5,()))
         else
          again (A,B,C,w64 (D+1),E,F,G,H,I,J,K,L,M,())
        else
         again (A,B,C,w64 (D+1),E,F,G,H,I,J,K,L,M,())
       else
        again (A,B,C,w64 (D+1),E,F,G,H,I,J,K,L,M,())
 else
  some (.inr ())
def iN (a0:aa) (a1:List aJ) (a2:Bool):Option (Int×Unit):=
 bif decide (((a1.length:Int))>20) then
  some (2,())
 else
  aR (
   iter (X:=mG) (β:=qJ) (a1.length+(Int.natAbs ((a1.length:Int))+(Int.natAbs (0:Int)+(a0.1.length+(a0.2.1.length+(a0.2.2.1.natAbs+(a0.2.2.2.1.natAbs+(a0.2.2.2.2.1.natAbs+(a0.2.2.2.2.2.2.1.length+(a0.2.2.2.2.2.2.2.1.length+(a0.2.2.2.2.2.2.2.2.length+2))))))))))) (a2,a1,(a1.length:Int),0,a0.1,a0.2.1,a0.2.2.1,a0.2.2.2.1,a0.2.2.2.2.1,a0.2.2.2.2.2.1,a0.2.2.2.2.2.2.1,a0.2.2.2.2.2.2.2.1,a0.2.2.2.2.2.2.2.2,()) (mF)) fun _=>
  some (0,())
def o3 (a0:aa) (a1:Int):Option (Int×Unit):=
 (idx a0.2.2.2.2.2.2.2.1 a1).bind fun y1=>
 (kG y1.1 1 99999).bind fun r2=>
 bif !r2.1 then
  some (1,())
 else
  bif decide (a1>0) then
   (idx a0.2.2.2.2.2.2.2.1 (w64 (a1 - 1))).bind fun y3=>
   bif decide (y1.1<=y3.1) then
    some (8,())
   else
    (kG y1.2.1 1 99999).bind fun r4=>
    bif !r4.1 then
     some (1,())
    else
     (kN y1.2.2.1).bind fun r5=>
     bif !r5.1 then
      some (5,())
     else
      (jk y1.2.2.2.1 (-1000000000) 1000000000 3).bind fun r6=>
      bif !r6.1 then
       some (1,())
      else
       bif y1.2.2.2.1.1==0 then
        some (13,())
       else
        (kN y1.2.2.2.2.1).bind fun r7=>
        bif !r7.1 then
         some (5,())
        else
         (jk y1.2.2.2.2.2.1 0 1000000000 4).bind fun r8=>
         bif !r8.1 then
          some (1,())
         else
          (kG y1.2.2.2.2.2.2.1 1 100000).bind fun r9=>
          bif !r9.1 then
           some (1,())
          else
           (iN a0 y1.2.2.2.2.2.2.2.1 true).bind fun r10=>
           bif r10.1 != 0 then
            some (r10.1,())
           else
            (fk a0 y1.2.2.2.2.2.2.2.2).bind fun r11=>
            bif decide (r11.1<0) then
             some (5,())
            else
             some (0,())
  else
   (kG y1.2.1 1 99999).bind fun r12=>
   bif !r12.1 then
    some (1,())
   else
    (kN y1.2.2.1).bind fun r13=>
    bif !r13.1 then
     some (5,())
    else
     (jk y1.2.2.2.1 (-1000000000) 1000000000 3).bind fun r14=>
     bif !r14.1 then
      some (1,())
     else
      bif y1.2.2.2.1.1==0 then
       some (13,())
      else
       (kN y1.2.2.2.2.1).bind fun r15=>
       bif !r15.1 then
        some (5,())
       else
        (jk y1.2.2.2.2.2.1 0 1000000000 4).bind fun r16=>
        bif !r16.1 then
         some (1,())
        else
         (kG y1.2.2.2.2.2.2.1 1 100000).bind fun r17=>
         bif !r17.1 then
          some (1,())
         else
          (iN a0 y1.2.2.2.2.2.2.2.1 true).bind fun r18=>
          bif r18.1 != 0 then
           some (r18.1,())
          else
           (fk a0 y1.2.2.2.2.2.2.2.2).bind fun r19=>
           bif decide (r19.1<0) then
            some (5,())
           else
            some (0,())
abbrev oI:Type:=(List aC)×Int×Int×Bys×Bys×Int×Int×Int×Bool×(List aC)×(List ai)×(List aJ)×Unit
abbrev oG:Type:=((Int×Unit) ⊕ (Bys×Bys×Int×Int×Int×Bool×(List aC)×(List ai)×(List aJ)×Unit))
def kE (x1:oI) (again:oI->Option oG):Option oG:=
 match x1 with
 | (A,B,C,D,E,F,G,H,I,J,K,L,_)=>
 bif decide (C<B) then
  (idx A C).bind fun y2=>
  (kN y2.1).bind fun r3=>
  bif !r3.1 then
   some (.inl (5,()))
  else
   bif decide (C>0) then
    (idx J (w64 (C - 1))).bind fun y4=>
    bif Op.bytesLess y2.1 y4.1||y2.1==y4.1 then
     some (.inl (8,()))
    else
     (jk y2.2 0 100 9).bind fun r5=>
     bif !r5.1 then
      some (.inl (1,()))
     else
      again (A,B,w64 (C+1),D,E,F,G,H,I,J,K,L,())
   else
    (jk y2.2 0 100 9).bind fun r6=>
    bif !r6.1 then
     some (.inl (1,()))
    else
     again (A,B,w64 (C+1),D,E,F,G,H,I,J,K,L,())
 else
  some (.inr (D,E,F,G,H,I,J,K,L,()))
abbrev oJ:Type:=Int×Int×Bys×Bys×Int×Int×Int×Bool×(List aC)×(List ai)×(List aJ)×Unit
abbrev oH:Type:=((Int×Unit) ⊕ (Bys×Bys×Int×Int×Int×Bool×(List aC)×(List ai)×(List aJ)×Unit))
def kF (x1:oJ) (again:oJ->Option oH):Option oH:=
 match x1 with
 | (A,B,C,D,E,F,G,H,I,J,K,_)=>
 bif decide (B<A) then
  (o3 (C,D,E,F,G,H,I,J,K) B).bind fun r2=>
  bif r2.1 != 0 then
   some (.inl (r2.1,()))
  else
   again (A,w64 (B+1),C,D,E,F,G,H,I,J,K,())
 else
  some (.inr (C,D,E,F,G,H,I,J,K,()))
def gX (a0:aa):Option (Int×Unit):=
 (kN a0.1).bind fun r1=>
 bif !r1.1 then
  some (5,())
 else
  (kN a0.2.1).bind fun r2=>
  bif !r2.1 then
   some (5,())
  else
   (DX a0.2.2.1).bind fun r3=>
   bif !r3.1 then
    some (1,())
   else
    (kG a0.2.2.2.1 0 4).bind fun r4=>
    bif !r4.1 then
     some (1,())
    else
     (kG a0.2.2.2.2.1 1 6).bind fun r5=>
     bif !r5.1 then
      some (4,())
     else
      bif ((a0.2.2.2.2.2.2.1.length:Int))==0 then
       some (9,())
      else
       bif decide (((a0.2.2.2.2.2.2.1.length:Int))>20) then
        some (2,())
       else
        aR (
         iter (X:=oI) (β:=oG) (a0.2.2.2.2.2.2.1.length+(Int.natAbs ((a0.2.2.2.2.2.2.1.length:Int))+(Int.natAbs (0:Int)+(a0.1.length+(a0.2.1.length+(a0.2.2.1.natAbs+(a0.2.2.2.1.natAbs+(a0.2.2.2.2.1.natAbs+(a0.2.2.2.2.2.2.1.length+(a0.2.2.2.2.2.2.2.1.length+(a0.2.2.2.2.2.2.2.2.length+2))))))))))) (a0.2.2.2.2.2.2.1,(a0.2.2.2.2.2.2.1.length:Int),0,a0.1,a0.2.1,a0.2.2.1,a0.2.2.2.1,a0.2.2.2.2.1,a0.2.2.2.2.2.1,a0.2.2.2.2.2.2.1,a0.2.2.2.2.2.2.2.1,a0.2.2.2.2.2.2.2.2,()) (kE)) fun (A,B,C,D,E,F,G,H,I,_)=>
        bif ((H.length:Int))==0 then
         some (9,())
        else
         bif decide (((H.length:Int))>500) then
          some (2,())
         else
          aR (
           iter (X:=oJ) (β:=oH) (Int.natAbs ((H.length:Int))+(Int.natAbs (0:Int)+(A.length+(B.length+(C.natAbs+(D.natAbs+(E.natAbs+(G.length+(H.length+(I.length+2)))))))))) ((H.length:Int),0,A,B,C,D,E,F,G,H,I,()) (kF)) fun (J,K,L,M,N,O,P,Q,R,_)=>
          (iN (J,K,L,M,N,O,P,Q,R) R false).bind fun r16=>
          some (r16.1,())
end Go.Md
namespace Go.Md
open Go.Dn
abbrev Ip:Type:=Int×Bys×Bys×ah×ah×Int×ah×ah×ah×ah
abbrev nF:Type:=Bys×Int×Int×Int×Int×Unit
abbrev wK:Type:=((Bool×Unit) ⊕ Unit)
def rO (x1:nF) (again:nF->Option wK):Option wK:=
 match x1 with
 | (A,B,C,D,E,_)=>
 bif decide (E<D) then
  (iV A E).bind fun c2=>
  bif decide ((c2.toNat:Int)<B) then
   some (.inl (false,()))
  else
   (iV A E).bind fun c3=>
   bif decide ((c3.toNat:Int)>C) then
    some (.inl (false,()))
   else
    again (A,B,C,D,w64 (E+1),())
 else
  some (.inr ())
def BL (a0:Bys) (a1:Int) (a2:Int):Option (Bool×Unit):=
 aR (
  iter (X:=nF) (β:=wK) (a0.length+(a1.natAbs+(a2.natAbs+(Int.natAbs ((a0.length:Int))+(Int.natAbs (0:Int)+2))))) (a0,a1,a2,(a0.length:Int),0,()) (rO)) fun _=>
 some (true,())
def nG (a0:Bys):Option (Bool×Unit):=
 bif !(a0==[]) then
  (BL a0 48 57).bind fun r1=>
  some (r1.1,())
 else
  some (false,())
abbrev nL:Type:=Bys×Int×Int×Unit
abbrev wX:Type:=((Bool×Unit) ⊕ Unit)
def rY (x1:nL) (again:nL->Option wX):Option wX:=
 bif decide (x1.2.2.1<x1.2.1) then
  (iV x1.1 x1.2.2.1).bind fun c2=>
  bif decide ((c2.toNat:Int)<48) then
   some (.inl (false,()))
  else
   (iV x1.1 x1.2.2.1).bind fun c3=>
   bif decide ((c3.toNat:Int)>57) then
    some (.inl (false,()))
   else
    again (x1.1,x1.2.1,w64 (x1.2.2.1+1),())
 else
  some (.inr ())
def jB (a0:Bys):Option (Bool×Unit):=
 bif a0==[] then
  some (false,())
 else
  aR (
   iter (X:=nL) (β:=wX) (a0.length+(Int.natAbs ((a0.length:Int))+(Int.natAbs (0:Int)+2))) (a0,(a0.length:Int),0,()) (rY)) fun _=>
  some (true,())
end Go.Md
namespace Go.Md
open Go.Dn
end Go.Md
namespace Go.Md
open Go.Dn
end Go.Md
