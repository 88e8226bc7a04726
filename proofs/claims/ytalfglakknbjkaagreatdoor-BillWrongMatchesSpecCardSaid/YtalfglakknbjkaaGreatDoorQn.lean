/-
  Plain models, part 2. No condition.
-/
import Derived.Test.YtalfglakknbjkaaGreatDoorQm
import Derived.Lib.Bytealg
import Derived.Test.YtalfglakknbjkaaGreatDoorQd
set_option linter.all false
noncomputable section
namespace Go.Md
open Go.Dn
def strings_Compare (a b:Bys):Option (Int×Unit):=some (Lib.compareBytes a b,())
abbrev cg:Ty:=(.st (.pair .str aN))
abbrev aB:Type:=Bys×aj
abbrev bK:Ty:=(.st (.pair .bool (.pair aN .str)))
abbrev ax:Type:=Bool×aj×Bys
abbrev b7:Ty:=(.st (.pair tI (.pair tI (.pair .str (.pair aN (.pair .str (.pair aN (.pair tI (.pair (.slice bK) .str)))))))))
abbrev au:Type:=Int×Int×Bys×aj×Bys×aj×Int×(List ax)×Bys
abbrev bB:Ty:=(.st (.pair .str (.pair .str (.pair tI (.pair tI (.pair tI (.pair .bool (.pair (.slice cg) (.pair (.slice b7) (.slice bK))))))))))
abbrev ah:Type:=Bys×Bys×Int×Int×Int×Bool×(List aB)×(List au)×(List ax)
abbrev aL:Ty:=(.st (.pair .str (.pair aN aN)))
abbrev ak:Type:=Bys×aj×aj
abbrev kE:Ty:=(.st (.pair aN (.pair aN (.pair aN (.pair aN aN)))))
abbrev bP:Type:=aj×aj×aj×aj×aj
abbrev dh:Ty:=(.st (.pair tI av))
abbrev bg:Type:=Int×aa
abbrev dV:Ty:=(.st (.pair bB (.pair (.slice av) (.pair (.slice av) (.pair (.slice av) (.pair (.slice dh) (.pair (.slice av) (.pair (.slice .bool) (.slice av)))))))))
abbrev bZ:Type:=ah×(List aa)×(List aa)×(List aa)×(List bg)×(List aa)×(List Bool)×(List aa)
abbrev bw:Ty:=(.st (.pair tI (.pair tI av)))
abbrev aq:Type:=Int×Int×aa
def Kk (a0:Int):Option (Bool×Unit):=
 (cD a0 1 6).bind fun r1=>
 some (!r1.1,())
abbrev rH:Type:=(List aB)×(List aB)×Int×Int×Unit
abbrev xV:Type:=((Int×Unit) ⊕ Unit)
def qQ (x1:rH) (again:rH→Option xV):Option xV:=
 match x1 with
 | (A,B,C,D,_)=>
 bif decide (D<C) then
  (idx B D).bind fun y2=>
  (gd y2.1).bind fun r3=>
  bif !r3.1 then
   some (.inl (5,()))
  else
   bif decide (D>0) then
    (idx A (w64 (D - 1))).bind fun y4=>
    bif Op.bytesLess y2.1 y4.1||y2.1==y4.1 then
     some (.inl (8,()))
    else
     (cl y2.2).bind fun r5=>
     bif r5.1 != 0 then
      some (.inl (r5.1,()))
     else
      bif decide (y2.2.1<0) then
       some (.inl (1,()))
      else
       (fJ y2.2 100).bind fun r6=>
       bif !r6.1 then
        some (.inl (1,()))
       else
        again (A,B,C,w64 (D+1),())
   else
    (cl y2.2).bind fun r7=>
    bif r7.1 != 0 then
     some (.inl (r7.1,()))
    else
     bif decide (y2.2.1<0) then
      some (.inl (1,()))
     else
      (fJ y2.2 100).bind fun r8=>
      bif !r8.1 then
       some (.inl (1,()))
      else
       again (A,B,C,w64 (D+1),())
 else
  some (.inr ())
def n7 (a0:List aB):Option (Int×Unit):=
 bif ((a0.length:Int))==0 then
  some (9,())
 else
  bif decide (((a0.length:Int))>20) then
   some (2,())
  else
   aO (
    iter (X:=rH) (β:=xV) (a0.length+(a0.length+(Int.natAbs ((a0.length:Int))+(Int.natAbs (0:Int)+2)))) (a0,a0,(a0.length:Int),0,()) (qQ)) fun _=>
   some (0,())
abbrev Fs:Type:=Int×Int×Int×Unit
abbrev Ft:Type:=((Int×Unit) ⊕ (Int×Unit))
def XI (x1:Fs) (again:Fs→Option Ft):Option Ft:=
 bif decide (x1.2.2.1<x1.2.1) then
  again (w64 (x1.1*10),x1.2.1,w64 (x1.2.2.1+1),())
 else
  some (.inr (x1.1,()))
def Mj (a0:Int):Option (Int×Unit):=
 aO (
  iter (X:=Fs) (β:=Ft) (Int.natAbs (1:Int)+(a0.natAbs+(Int.natAbs (0:Int)+2))) (1,a0,0,()) (XI)) fun v2=>
 some (v2.1,())
def Km (a0:aj) (a1:Int) (a2:Int):Option (Bool×Unit):=
 bif decide (a0.2≤a1) then
  bif decide (a0.1≥0) then
   (Mj a0.2).bind fun r1=>
   some (decide (a0.1≤(w64 (a2*r1.1))),())
  else
   some (false,())
 else
  some (false,())
def pI (a0:aj):Option (Int×Unit):=
 (cl a0).bind fun r1=>
 bif r1.1 != 0 then
  some (r1.1,())
 else
  (Km a0 4 1000000000).bind fun r2=>
  bif !r2.1 then
   some (1,())
  else
   some (0,())
def Hs (a0:aB) (a1:Bys):Option (Int×Unit):=
 (strings_Compare a0.1 a1).bind fun r1=>
 some (r1.1,())
abbrev cG:Type:=(List aB)×Bys×Unit×Int×Int×Int×Unit
abbrev gJ:Type:=((Int×Bool×Unit) ⊕ ((List aB)×Bys×Unit×Int×Int×Unit))
def gQ (x1:cG) (again:cG→Option gJ):Option gJ:=
 match x1 with
 | (A,B,C,D,E,F,_)=>
 bif decide (E<F) then
  let n2:Int:=w64 (Int.fdiv (b8 (w64 (E+F))) (2 ^ 1))
  (idx A n2).bind fun y3=>
  (Hs y3 B).bind fun r4=>
  bif decide (r4.1<0) then
   again (A,B,C,D,w64 (n2+1),F,())
  else
   again (A,B,C,D,E,n2,())
 else
  some (.inr (A,B,C,D,E,()))
def eE (a0:List aB) (a1:Bys) (a2:Unit):Option (Int×Bool×Unit):=
 aO (
  iter (X:=cG) (β:=gJ) (a0.length+(a1.length+(Int.natAbs ((a0.length:Int))+(Int.natAbs (0:Int)+(Int.natAbs ((a0.length:Int))+2))))) (a0,a1,a2,(a0.length:Int),0,(a0.length:Int),()) (gQ)) fun (A,B,_,C,D,_)=>
 bif decide (D<C) then
  (idx A D).bind fun y6=>
  (Hs y6 B).bind fun r7=>
  some (D,r7.1==0,())
 else
  some (D,false,())
def si (a0:List aB) (a1:Bys):Option (Int×Bool×Unit):=
 (eE a0 a1 ()).bind fun r1=>
 some (r1.1,r1.2.1,())
def kD (a0:ah) (a1:Bys):Option (Bool×Unit):=
 (si a0.2.2.2.2.2.2.1 a1).bind fun r1=>
 some (r1.2.1,())
abbrev qc:Type:=Bool×(List ax)×Int×Int×Bys×Bys×Int×Int×Int×Bool×(List aB)×(List au)×(List ax)×Unit
abbrev wF:Type:=((Int×Unit) ⊕ Unit)
def qi (x1:qc) (again:qc→Option wF):Option wF:=
 match x1 with
 | (A,B,C,D,E,F,G,H,I,J,K,L,M,_)=>
 bif decide (D<C) then
  (idx B D).bind fun y2=>
  (cl y2.2.1).bind fun r3=>
  bif r3.1 != 0 then
   some (.inl (r3.1,()))
  else
   bif y2.2.1.1==0 then
    some (.inl (13,()))
   else
    bif y2.1 then
     (fJ y2.2.1 100).bind fun r4=>
     aO (γ:=(Bool×(List ax)×Int×Int×Bool×Bys×Bys×Int×Int×Int×Bool×(List aB)×(List au)×(List ax)×Bool×Int×Int×Bys×Unit)) (
      bif !r4.1 then
       some (.inr (A,B,C,D, !r4.1,E,F,G,H,I,J,K,L,M,y2.1,y2.2.1.1,y2.2.1.2,y2.2.2,()))
      else
       bif !y2.1 then
        (fJ y2.2.1 1000000000).bind fun r5=>
        bif !r5.1 then
         some (.inr (A,B,C,D,true,E,F,G,H,I,J,K,L,M,y2.1,y2.2.1.1,y2.2.1.2,y2.2.2,()))
        else
         some (.inr (A,B,C,D,decide (y2.2.1.2>H),E,F,G,H,I,J,K,L,M,y2.1,y2.2.1.1,y2.2.1.2,y2.2.2,()))
       else
        some (.inr (A,B,C,D,false,E,F,G,H,I,J,K,L,M,y2.1,y2.2.1.1,y2.2.1.2,y2.2.2,()))) fun (N,O,P,Q,R,S,T,U,V,W,X,Y,Z,A0,_,_,_,B0,_)=>
     bif R then
      some (.inl (1,()))
     else
      bif N then
       bif !(B0==[]) then
        some (.inl (3,()))
       else
        bif !N then
         bif !(B0==[]) then
          (kD (S,T,U,V,W,X,Y,Z,A0) B0).bind fun r7=>
          bif !r7.1 then
           some (.inl (5,()))
          else
           again (N,O,P,w64 (Q+1),S,T,U,V,W,X,Y,Z,A0,())
         else
          again (N,O,P,w64 (Q+1),S,T,U,V,W,X,Y,Z,A0,())
        else
         again (N,O,P,w64 (Q+1),S,T,U,V,W,X,Y,Z,A0,())
      else
       bif !N then
        bif !(B0==[]) then
         (kD (S,T,U,V,W,X,Y,Z,A0) B0).bind fun r8=>
         bif !r8.1 then
          some (.inl (5,()))
         else
          again (N,O,P,w64 (Q+1),S,T,U,V,W,X,Y,Z,A0,())
        else
         again (N,O,P,w64 (Q+1),S,T,U,V,W,X,Y,Z,A0,())
       else
        again (N,O,P,w64 (Q+1),S,T,U,V,W,X,Y,Z,A0,())
    else
     aO (γ:=(Bool×(List ax)×Int×Int×Bool×Bys×Bys×Int×Int×Int×Bool×(List aB)×(List au)×(List ax)×Bool×Int×Int×Bys×Unit)) (
      bif !y2.1 then
       (fJ y2.2.1 1000000000).bind fun r9=>
       bif !r9.1 then
        some (.inr (A,B,C,D,true,E,F,G,H,I,J,K,L,M,y2.1,y2.2.1.1,y2.2.1.2,y2.2.2,()))
       else
        some (.inr (A,B,C,D,decide (y2.2.1.2>H),E,F,G,H,I,J,K,L,M,y2.1,y2.2.1.1,y2.2.1.2,y2.2.2,()))
      else
       some (.inr (A,B,C,D,false,E,F,G,H,I,J,K,L,M,y2.1,y2.2.1.1,y2.2.1.2,y2.2.2,()))) fun (C0,D0,E0,F0,G0,H0,I0,J0,K0,L0,M0,N0,O0,P0,_,_,_,Q0,_)=>
     bif G0 then
      some (.inl (1,()))
     else
      bif C0 then
       bif !(Q0==[]) then
        some (.inl (3,()))
       else
        bif !C0 then
         bif !(Q0==[]) then
          (kD (H0,I0,J0,K0,L0,M0,N0,O0,P0) Q0).bind fun r11=>
          bif !r11.1 then
           some (.inl (5,()))
          else
           again (C0,D0,E0,w64 (F0+1),H0,I0,J0,K0,L0,M0,N0,O0,P0,())
         else
          again (C0,D0,E0,w64 (F0+1),H0,I0,J0,K0,L0,M0,N0,O0,P0,())
        else
         again (C0,D0,E0,w64 (F0+1),H0,I0,J0,K0,L0,M0,N0,O0,P0,())
      else
       bif !C0 then
        bif !(Q0==[]) then
         (kD (H0,I0,J0,K0,L0,M0,N0,O0,P0) Q0).bind fun r12=>
         bif !r12.1 then
          some (.inl (5,()))
         else
          again (C0,D0,E0,w64 (F0+1),H0,I0,J0,K0,L0,M0,N0,O0,P0,())
        else
         again (C0,D0,E0,w64 (F0+1),H0,I0,J0,K0,L0,M0,N0,O0,P0,())
       else
        again (C0,D0,E0,w64 (F0+1),H0,I0,J0,K0,L0,M0,N0,O0,P0,())
 else
  some (.inr ())
def kW (a0:ah) (a1:List ax) (a2:Bool):Option (Int×Unit):=
 bif decide (((a1.length:Int))>20) then
  some (2,())
 else
  aO (
   iter (X:=qc) (β:=wF) (a1.length+(Int.natAbs ((a1.length:Int))+(Int.natAbs (0:Int)+(a0.1.length+(a0.2.1.length+(a0.2.2.1.natAbs+(a0.2.2.2.1.natAbs+(a0.2.2.2.2.1.natAbs+(a0.2.2.2.2.2.2.1.length+(a0.2.2.2.2.2.2.2.1.length+(a0.2.2.2.2.2.2.2.2.length+2))))))))))) (a2,a1,(a1.length:Int),0,a0.1,a0.2.1,a0.2.2.1,a0.2.2.2.1,a0.2.2.2.2.1,a0.2.2.2.2.2.1,a0.2.2.2.2.2.2.1,a0.2.2.2.2.2.2.2.1,a0.2.2.2.2.2.2.2.2,()) (qi)) fun _=>
  some (0,())
def tL (a0:ah) (a1:Int):Option (Int×Unit):=
 (idx a0.2.2.2.2.2.2.2.1 a1).bind fun y1=>
 (cD y1.1 1 99999).bind fun r2=>
 bif r2.1 then
  some (1,())
 else
  bif decide (a1>0) then
   (idx a0.2.2.2.2.2.2.2.1 (w64 (a1 - 1))).bind fun y3=>
   bif decide (y1.1≤y3.1) then
    some (8,())
   else
    (cD y1.2.1 1 99999).bind fun r4=>
    bif r4.1 then
     some (1,())
    else
     (gd y1.2.2.1).bind fun r5=>
     bif !r5.1 then
      some (5,())
     else
      (cl y1.2.2.2.1).bind fun r6=>
      bif r6.1 != 0 then
       some (r6.1,())
      else
       bif decide (y1.2.2.2.1.2>3) then
        some (1,())
       else
        (fJ y1.2.2.2.1 1000000000).bind fun r7=>
        bif !r7.1 then
         some (1,())
        else
         bif y1.2.2.2.1.1==0 then
          some (13,())
         else
          (gd y1.2.2.2.2.1).bind fun r8=>
          bif !r8.1 then
           some (5,())
          else
           (pI y1.2.2.2.2.2.1).bind fun r9=>
           bif r9.1 != 0 then
            some (r9.1,())
           else
            (cD y1.2.2.2.2.2.2.1 1 100000).bind fun r10=>
            bif r10.1 then
             some (1,())
            else
             (kW a0 y1.2.2.2.2.2.2.2.1 true).bind fun r11=>
             bif r11.1 != 0 then
              some (r11.1,())
             else
              (kD a0 y1.2.2.2.2.2.2.2.2).bind fun r12=>
              bif !r12.1 then
               some (5,())
              else
               some (0,())
  else
   (cD y1.2.1 1 99999).bind fun r13=>
   bif r13.1 then
    some (1,())
   else
    (gd y1.2.2.1).bind fun r14=>
    bif !r14.1 then
     some (5,())
    else
     (cl y1.2.2.2.1).bind fun r15=>
     bif r15.1 != 0 then
      some (r15.1,())
     else
      bif decide (y1.2.2.2.1.2>3) then
       some (1,())
      else
       (fJ y1.2.2.2.1 1000000000).bind fun r16=>
       bif !r16.1 then
        some (1,())
       else
        bif y1.2.2.2.1.1==0 then
         some (13,())
        else
         (gd y1.2.2.2.2.1).bind fun r17=>
         bif !r17.1 then
          some (5,())
         else
          (pI y1.2.2.2.2.2.1).bind fun r18=>
          bif r18.1 != 0 then
           some (r18.1,())
          else
           (cD y1.2.2.2.2.2.2.1 1 100000).bind fun r19=>
           bif r19.1 then
            some (1,())
           else
            (kW a0 y1.2.2.2.2.2.2.2.1 true).bind fun r20=>
            bif r20.1 != 0 then
             some (r20.1,())
            else
             (kD a0 y1.2.2.2.2.2.2.2.2).bind fun r21=>
             bif !r21.1 then
              some (5,())
             else
              some (0,())
abbrev tF:Type:=Int×Int×Bys×Bys×Int×Int×Int×Bool×(List aB)×(List au)×(List ax)×Unit
abbrev tD:Type:=((Int×Unit) ⊕ (Bys×Bys×Int×Int×Int×Bool×(List aB)×(List au)×(List ax)×Unit))
def og (x1:tF) (again:tF→Option tD):Option tD:=
 match x1 with
 | (A,B,C,D,E,F,G,H,I,J,K,_)=>
 bif decide (B<A) then
  (tL (C,D,E,F,G,H,I,J,K) B).bind fun r2=>
  bif r2.1 != 0 then
   some (.inl (r2.1,()))
  else
   again (A,w64 (B+1),C,D,E,F,G,H,I,J,K,())
 else
  some (.inr (C,D,E,F,G,H,I,J,K,()))
def mh (a0:ah):Option (Int×Unit):=
 (gd a0.1).bind fun r1=>
 bif !r1.1 then
  some (5,())
 else
  (gd a0.2.1).bind fun r2=>
  bif !r2.1 then
   some (5,())
  else
   (CY a0.2.2.1).bind fun r3=>
   bif !r3.1 then
    some (1,())
   else
    (cD a0.2.2.2.1 0 4).bind fun r4=>
    bif r4.1 then
     some (1,())
    else
     (Kk a0.2.2.2.2.1).bind fun r5=>
     bif !r5.1 then
      some (4,())
     else
      (n7 a0.2.2.2.2.2.2.1).bind fun r6=>
      bif r6.1 != 0 then
       some (r6.1,())
      else
       bif ((a0.2.2.2.2.2.2.2.1.length:Int))==0 then
        some (9,())
       else
        bif decide (((a0.2.2.2.2.2.2.2.1.length:Int))>500) then
         some (2,())
        else
         aO (
          iter (X:=tF) (β:=tD) (Int.natAbs ((a0.2.2.2.2.2.2.2.1.length:Int))+(Int.natAbs (0:Int)+(a0.1.length+(a0.2.1.length+(a0.2.2.1.natAbs+(a0.2.2.2.1.natAbs+(a0.2.2.2.2.1.natAbs+(a0.2.2.2.2.2.2.1.length+(a0.2.2.2.2.2.2.2.1.length+(a0.2.2.2.2.2.2.2.2.length+2)))))))))) ((a0.2.2.2.2.2.2.2.1.length:Int),0,a0.1,a0.2.1,a0.2.2.1,a0.2.2.2.1,a0.2.2.2.2.1,a0.2.2.2.2.2.1,a0.2.2.2.2.2.2.1,a0.2.2.2.2.2.2.2.1,a0.2.2.2.2.2.2.2.2,()) (og)) fun (A,B,C,D,E,F,G,H,I,_)=>
         (kW (A,B,C,D,E,F,G,H,I) I false).bind fun r10=>
         some (r10.1,())
abbrev nB:Type:=Int×Int×Int×(List Int)×Int×Int×(List Int)×Int×Int×Bool×(List Int)×Bool×(List Int)×Bool×(List Int)×(List Int)×Unit
abbrev yo:Type:=(((aa×Unit) ⊕ (Bool×(List Int)×Bool×(List Int)×Bool×(List Int)×(List Int)×Unit)) ⊕ (Int×Int×(List Int)×Int×Int×Bool×(List Int)×Bool×(List Int)×Bool×(List Int)×(List Int)×Unit))
def q9 (x1:nB) (again:nB→Option yo):Option yo:=
 match x1 with
 | (A,B,C,D,E,F,G,H,I,J,K,L,M,N,O,P,_)=>
 bif decide (I<H) then
  (idx G I).bind fun y2=>
  chk (decide (0≤(w64 (A+I)))&&decide ((w64 (A+I))<(P.length:Int))) <|
  (P[(w64 (A+I)).toNat]?).bind fun y3=>
  let n4:Int:=b8 ((b8 y3)+(b8 ((b8 B)*(b8 y2))))
  chk (decide (0≤(w64 (A+I)))&&decide ((w64 (A+I))<(P.length:Int))) <|
  (P[(w64 (A+I)).toNat]?).bind fun _=>
  again (A,B,Int.fdiv (b8 (C+n4)) (2 ^ 32),D,E,F,G,H,w64 (I+1),J,K,L,M,N,O,List.set P (w64 (A+I)).toNat (nN (b8 (C+n4))),())
 else
  some (.inr (A,C,D,E,F,J,K,L,M,N,O,P,()))
abbrev nJ:Type:=(List Int)×Int×Int×Bool×(List Int)×Bool×(List Int)×Bool×(List Int)×(List Int)×Unit
abbrev yP:Type:=((aa×Unit) ⊕ (Bool×(List Int)×Bool×(List Int)×Bool×(List Int)×(List Int)×Unit))
def qV (x1:nJ) (again:nJ→Option yP):Option yP:=
 match x1 with
 | (A,B,C,D,E,F,G,H,I,J,_)=>
 bif decide (C<B) then
  (idx A C).bind fun y2=>
  aO (
   iter (X:=nB) (β:=yo) (C.natAbs+(y2.natAbs+(Int.natAbs (0:Int)+(A.length+(B.natAbs+(C.natAbs+(G.length+(Int.natAbs ((G.length:Int))+(Int.natAbs (0:Int)+(E.length+(G.length+(I.length+(J.length+2))))))))))))) (C,y2,0,A,B,C,G,(G.length:Int),0,D,E,F,G,H,I,J,()) (q9)) fun (K,L,M,N,O,P,Q,R,S,T,U,V,_)=>
  chk (decide (0≤(w64 (K+((S.length:Int)))))&&decide ((w64 (K+((S.length:Int))))<(V.length:Int))) <|
  (V[(w64 (K+((S.length:Int)))).toNat]?).bind fun _=>
  again (M,N,w64 (O+1),P,Q,R,S,T,U,List.set V (w64 (K+((S.length:Int)))).toNat (nN L),())
 else
  some (.inr (D,E,F,G,H,I,J,()))
def fM (a0:aa) (a1:aa):Option (aa×Unit):=
 chk (decide (0≤(w64 (((a0.2.length:Int))+((a1.2.length:Int)))))&&decide ((w64 (((a0.2.length:Int))+((a1.2.length:Int))))≤(w64 (((a0.2.length:Int))+((a1.2.length:Int)))))&&decide ((4:Int)*(w64 (((a0.2.length:Int))+((a1.2.length:Int))))≤281474976710656)&&decide ((w64 (((a0.2.length:Int))+((a1.2.length:Int))))≤9223372036854775807)) <|
 aO (
  iter (X:=nJ) (β:=yP) (a0.2.length+(Int.natAbs ((a0.2.length:Int))+(Int.natAbs (0:Int)+(a0.2.length+(a1.2.length+(List.length ([]:List Int)+(List.length ((List.replicate (Int.toNat (w64 (((a0.2.length:Int))+((a1.2.length:Int))))) 0):List Int)+2))))))) (a0.2,(a0.2.length:Int),0,a0.1,a0.2,a1.1,a1.2,false,[],List.replicate (Int.toNat (w64 (((a0.2.length:Int))+((a1.2.length:Int))))) 0,()) (qV)) fun v10=>
 (jy (!(v10.1==v10.2.2.1)) v10.2.2.2.2.2.2.1).bind fun r11=>
 some (r11.1,())
abbrev s8:Type:=Int×Int×Bool×(List Int)×Bool×(List Int)×Unit
abbrev FE:Type:=((aa×Unit) ⊕ (Bool×(List Int)×Bool×(List Int)×Unit))
def zA (x1:s8) (again:s8→Option FE):Option FE:=
 match x1 with
 | (A,B,C,D,E,F,_)=>
 bif decide (B<A) then
  (bN 10).bind fun r2=>
  (fM (E,F) r2.1).bind fun r3=>
  again (A,w64 (B+1),C,D,r3.1.1,r3.1.2,())
 else
  some (.inr (C,D,E,F,()))
def o7 (a0:Int):Option (aa×Unit):=
 (bN 1).bind fun r1=>
 aO (
  iter (X:=s8) (β:=FE) (a0.natAbs+(Int.natAbs (0:Int)+(List.length ([]:List Int)+(r1.1.2.length+2)))) (a0,0,false,[],r1.1.1,r1.1.2,()) (zA)) fun v5=>
 some ((v5.2.2.1,v5.2.2.2.1),())
abbrev Fm:Type:=(List Int)×(List Int)×Int×(List Int)×Int×Int×Unit
abbrev FA:Type:=(((List Int)×Unit) ⊕ ((List Int)×Int×Unit))
def XZ (x1:Fm) (again:Fm→Option FA):Option FA:=
 match x1 with
 | (A,B,C,D,E,F,_)=>
 bif decide (F<E) then
  (idx D F).bind fun y2=>
  aO (γ:=((List Int)×(List Int)×Int×(List Int)×Int×Int×Unit)) (
   bif decide (F<((A.length:Int))) then
    (idx A F).bind fun y3=>
    let n4:Int:=b8 ((b8 (C+(b8 y2)))+(b8 y3))
    some (.inr (A,B,n4,D,E,F,()))
   else
    some (.inr (A,B,b8 (C+(b8 y2)),D,E,F,()))) fun (G,H,I,J,K,L,_)=>
  chk (decide (((H.length)+1)*4≤140737488355328)&&decide ((H.length)+1≤maxLen)) <|
  again (G,H++[(nN I)],Int.fdiv I (2 ^ 32),J,K,w64 (L+1),())
 else
  some (.inr (B,C,()))
def LS (a0:List Int) (a1:List Int):Option ((List Int)×Unit):=
 aO (γ:=((List Int)×(List Int)×Unit)) (
  bif decide (((a0.length:Int))<((a1.length:Int))) then
   some (.inr (a1,a0,()))
  else
   some (.inr (a0,a1,()))) fun (A,B,_)=>
 chk (decide (0≤(0:Int))&&decide ((0:Int)≤(w64 (((A.length:Int))+1)))&&decide ((4:Int)*(w64 (((A.length:Int))+1))≤281474976710656)&&decide ((w64 (((A.length:Int))+1))≤9223372036854775807)) <|
 aO (
  iter (X:=Fm) (β:=FA) (B.length+(List.length ([]:List Int)+(Int.natAbs (0:Int)+(A.length+(Int.natAbs ((A.length:Int))+(Int.natAbs (0:Int)+2)))))) (B,[],0,A,(A.length:Int),0,()) (XZ)) fun (C,D,_)=>
 chk (decide (((C.length)+1)*4≤140737488355328)&&decide ((C.length)+1≤maxLen)) <|
 some (C++[(nN D)],())
def bC (a0:aa) (a1:aa):Option (aa×Unit):=
 bif a0.1==a1.1 then
  (LS a0.2 a1.2).bind fun r1=>
  (jy a0.1 r1.1).bind fun r2=>
  some (r2.1,())
 else
  (vI a0.2 a1.2).bind fun r3=>
  bif decide (r3.1≥0) then
   (zi a0.2 a1.2).bind fun r4=>
   (jy a0.1 r4.1).bind fun r5=>
   some (r5.1,())
  else
   (zi a1.2 a0.2).bind fun r6=>
   (jy a1.1 r6.1).bind fun r7=>
   some (r7.1,())
def zg (a0:aa) (a1:aa):Option (aa×Unit):=
 (aR a1).bind fun r1=>
 (bC a0 r1.1).bind fun r2=>
 some (r2.1,())
def mj (a0:aa) (a1:aa):Option (Int×Unit):=
 (zg a0 a1).bind fun r1=>
 (aS r1.1).bind fun r2=>
 some (r2.1,())
def gI (a0:aa):Option (Bool×Unit):=
 bif decide (((a0.2.length:Int))>0) then
  (idx a0.2 0).bind fun y1=>
  some ((nN (((BitVec.ofInt (IntKind.bits .u32) y1 &&& BitVec.ofInt (IntKind.bits .u32) 1).toNat:Int)))==1,())
 else
  some (false,())
def uk (a0:aa) (a1:aa) (a2:Int):Option (aa×Unit):=
 (tC a0 a1).bind fun r1=>
 (aS r1.2.1).bind fun r2=>
 bif r2.1 != 0 then
  (bC r1.2.1 r1.2.1).bind fun r3=>
  (mj r3.1 a1).bind fun r4=>
  (aS a0).bind fun r5=>
  bif a2==4 then
   (bN 1).bind fun r6=>
   (bC r1.1 r6.1).bind fun r7=>
   (aS a0).bind fun r8=>
   bif decide (r8.1<0) then
    (aR r7.1).bind fun r9=>
    some (r9.1,())
   else
    some (r7.1,())
  else
   bif a2==5 then
    bif decide (r5.1<0) then
     (bN 1).bind fun r10=>
     (bC r1.1 r10.1).bind fun r11=>
     (aS a0).bind fun r12=>
     bif decide (r12.1<0) then
      (aR r11.1).bind fun r13=>
      some (r13.1,())
     else
      some (r11.1,())
    else
     bif a2==6 then
      bif !(decide (r5.1<0)) then
       (bN 1).bind fun r14=>
       (bC r1.1 r14.1).bind fun r15=>
       (aS a0).bind fun r16=>
       bif decide (r16.1<0) then
        (aR r15.1).bind fun r17=>
        some (r17.1,())
       else
        some (r15.1,())
      else
       bif a2==1 then
        bif decide (r4.1≥0) then
         (bN 1).bind fun r18=>
         (bC r1.1 r18.1).bind fun r19=>
         (aS a0).bind fun r20=>
         bif decide (r20.1<0) then
          (aR r19.1).bind fun r21=>
          some (r21.1,())
         else
          some (r19.1,())
        else
         bif a2==2 then
          bif decide (r4.1>0) then
           (bN 1).bind fun r22=>
           (bC r1.1 r22.1).bind fun r23=>
           (aS a0).bind fun r24=>
           bif decide (r24.1<0) then
            (aR r23.1).bind fun r25=>
            some (r25.1,())
           else
            some (r23.1,())
          else
           bif r4.1==0 then
            (gI r1.1).bind fun r26=>
            bif r26.1 then
             (bN 1).bind fun r27=>
             (bC r1.1 r27.1).bind fun r28=>
             (aS a0).bind fun r29=>
             bif decide (r29.1<0) then
              (aR r28.1).bind fun r30=>
              some (r30.1,())
             else
              some (r28.1,())
            else
             (aS a0).bind fun r31=>
             bif decide (r31.1<0) then
              (aR r1.1).bind fun r32=>
              some (r32.1,())
             else
              some (r1.1,())
           else
            (aS a0).bind fun r33=>
            bif decide (r33.1<0) then
             (aR r1.1).bind fun r34=>
             some (r34.1,())
            else
             some (r1.1,())
         else
          (aS a0).bind fun r35=>
          bif decide (r35.1<0) then
           (aR r1.1).bind fun r36=>
           some (r36.1,())
          else
           some (r1.1,())
       else
        bif a2==2 then
         bif decide (r4.1>0) then
          (bN 1).bind fun r37=>
          (bC r1.1 r37.1).bind fun r38=>
          (aS a0).bind fun r39=>
          bif decide (r39.1<0) then
           (aR r38.1).bind fun r40=>
           some (r40.1,())
          else
           some (r38.1,())
         else
          bif r4.1==0 then
           (gI r1.1).bind fun r41=>
           bif r41.1 then
            (bN 1).bind fun r42=>
            (bC r1.1 r42.1).bind fun r43=>
            (aS a0).bind fun r44=>
            bif decide (r44.1<0) then
             (aR r43.1).bind fun r45=>
             some (r45.1,())
            else
             some (r43.1,())
           else
            (aS a0).bind fun r46=>
            bif decide (r46.1<0) then
             (aR r1.1).bind fun r47=>
             some (r47.1,())
            else
             some (r1.1,())
          else
           (aS a0).bind fun r48=>
           bif decide (r48.1<0) then
            (aR r1.1).bind fun r49=>
            some (r49.1,())
           else
            some (r1.1,())
        else
         (aS a0).bind fun r50=>
         bif decide (r50.1<0) then
          (aR r1.1).bind fun r51=>
          some (r51.1,())
         else
          some (r1.1,())
     else
      bif a2==1 then
       bif decide (r4.1≥0) then
        (bN 1).bind fun r52=>
        (bC r1.1 r52.1).bind fun r53=>
        (aS a0).bind fun r54=>
        bif decide (r54.1<0) then
         (aR r53.1).bind fun r55=>
         some (r55.1,())
        else
         some (r53.1,())
       else
        bif a2==2 then
         bif decide (r4.1>0) then
          (bN 1).bind fun r56=>
          (bC r1.1 r56.1).bind fun r57=>
          (aS a0).bind fun r58=>
          bif decide (r58.1<0) then
           (aR r57.1).bind fun r59=>
           some (r59.1,())
          else
           some (r57.1,())
         else
          bif r4.1==0 then
           (gI r1.1).bind fun r60=>
           bif r60.1 then
            (bN 1).bind fun r61=>
            (bC r1.1 r61.1).bind fun r62=>
            (aS a0).bind fun r63=>
            bif decide (r63.1<0) then
             (aR r62.1).bind fun r64=>
             some (r64.1,())
            else
             some (r62.1,())
           else
            (aS a0).bind fun r65=>
            bif decide (r65.1<0) then
             (aR r1.1).bind fun r66=>
             some (r66.1,())
            else
             some (r1.1,())
          else
           (aS a0).bind fun r67=>
           bif decide (r67.1<0) then
            (aR r1.1).bind fun r68=>
            some (r68.1,())
           else
            some (r1.1,())
        else
         (aS a0).bind fun r69=>
         bif decide (r69.1<0) then
          (aR r1.1).bind fun r70=>
          some (r70.1,())
         else
          some (r1.1,())
      else
       bif a2==2 then
        bif decide (r4.1>0) then
         (bN 1).bind fun r71=>
         (bC r1.1 r71.1).bind fun r72=>
         (aS a0).bind fun r73=>
         bif decide (r73.1<0) then
          (aR r72.1).bind fun r74=>
          some (r74.1,())
         else
          some (r72.1,())
        else
         bif r4.1==0 then
          (gI r1.1).bind fun r75=>
          bif r75.1 then
           (bN 1).bind fun r76=>
           (bC r1.1 r76.1).bind fun r77=>
           (aS a0).bind fun r78=>
           bif decide (r78.1<0) then
            (aR r77.1).bind fun r79=>
            some (r79.1,())
           else
            some (r77.1,())
          else
           (aS a0).bind fun r80=>
           bif decide (r80.1<0) then
            (aR r1.1).bind fun r81=>
            some (r81.1,())
           else
            some (r1.1,())
         else
          (aS a0).bind fun r82=>
          bif decide (r82.1<0) then
           (aR r1.1).bind fun r83=>
           some (r83.1,())
          else
           some (r1.1,())
       else
        (aS a0).bind fun r84=>
        bif decide (r84.1<0) then
         (aR r1.1).bind fun r85=>
         some (r85.1,())
        else
         some (r1.1,())
   else
    bif a2==6 then
     bif !(decide (r5.1<0)) then
      (bN 1).bind fun r86=>
      (bC r1.1 r86.1).bind fun r87=>
      (aS a0).bind fun r88=>
      bif decide (r88.1<0) then
       (aR r87.1).bind fun r89=>
       some (r89.1,())
      else
       some (r87.1,())
     else
      bif a2==1 then
       bif decide (r4.1≥0) then
        (bN 1).bind fun r90=>
        (bC r1.1 r90.1).bind fun r91=>
        (aS a0).bind fun r92=>
        bif decide (r92.1<0) then
         (aR r91.1).bind fun r93=>
         some (r93.1,())
        else
         some (r91.1,())
       else
        bif a2==2 then
         bif decide (r4.1>0) then
          (bN 1).bind fun r94=>
          (bC r1.1 r94.1).bind fun r95=>
          (aS a0).bind fun r96=>
          bif decide (r96.1<0) then
           (aR r95.1).bind fun r97=>
           some (r97.1,())
          else
           some (r95.1,())
         else
          bif r4.1==0 then
           (gI r1.1).bind fun r98=>
           bif r98.1 then
            (bN 1).bind fun r99=>
            (bC r1.1 r99.1).bind fun r100=>
            (aS a0).bind fun r101=>
            bif decide (r101.1<0) then
             (aR r100.1).bind fun r102=>
             some (r102.1,())
            else
             some (r100.1,())
           else
            (aS a0).bind fun r103=>
            bif decide (r103.1<0) then
             (aR r1.1).bind fun r104=>
             some (r104.1,())
            else
             some (r1.1,())
          else
           (aS a0).bind fun r105=>
           bif decide (r105.1<0) then
            (aR r1.1).bind fun r106=>
            some (r106.1,())
           else
            some (r1.1,())
        else
         (aS a0).bind fun r107=>
         bif decide (r107.1<0) then
          (aR r1.1).bind fun r108=>
          some (r108.1,())
         else
          some (r1.1,())
      else
       bif a2==2 then
        bif decide (r4.1>0) then
         (bN 1).bind fun r109=>
         (bC r1.1 r109.1).bind fun r110=>
         (aS a0).bind fun r111=>
         bif decide (r111.1<0) then
          (aR r110.1).bind fun r112=>
          some (r112.1,())
         else
          some (r110.1,())
        else
         bif r4.1==0 then
          (gI r1.1).bind fun r113=>
          bif r113.1 then
           (bN 1).bind fun r114=>
           (bC r1.1 r114.1).bind fun r115=>
           (aS a0).bind fun r116=>
           bif decide (r116.1<0) then
            (aR r115.1).bind fun r117=>
            some (r117.1,())
           else
            some (r115.1,())
          else
           (aS a0).bind fun r118=>
           bif decide (r118.1<0) then
            (aR r1.1).bind fun r119=>
            some (r119.1,())
           else
            some (r1.1,())
         else
          (aS a0).bind fun r120=>
          bif decide (r120.1<0) then
           (aR r1.1).bind fun r121=>
           some (r121.1,())
          else
           some (r1.1,())
       else
        (aS a0).bind fun r122=>
        bif decide (r122.1<0) then
         (aR r1.1).bind fun r123=>
         some (r123.1,())
        else
         some (r1.1,())
    else
     bif a2==1 then
      bif decide (r4.1≥0) then
       (bN 1).bind fun r124=>
       (bC r1.1 r124.1).bind fun r125=>
       (aS a0).bind fun r126=>
       bif decide (r126.1<0) then
        (aR r125.1).bind fun r127=>
        some (r127.1,())
       else
        some (r125.1,())
      else
       bif a2==2 then
        bif decide (r4.1>0) then
         (bN 1).bind fun r128=>
         (bC r1.1 r128.1).bind fun r129=>
         (aS a0).bind fun r130=>
         bif decide (r130.1<0) then
          (aR r129.1).bind fun r131=>
          some (r131.1,())
         else
          some (r129.1,())
        else
         bif r4.1==0 then
          (gI r1.1).bind fun r132=>
          bif r132.1 then
           (bN 1).bind fun r133=>
           (bC r1.1 r133.1).bind fun r134=>
           (aS a0).bind fun r135=>
           bif decide (r135.1<0) then
            (aR r134.1).bind fun r136=>
            some (r136.1,())
           else
            some (r134.1,())
          else
           (aS a0).bind fun r137=>
           bif decide (r137.1<0) then
            (aR r1.1).bind fun r138=>
            some (r138.1,())
           else
            some (r1.1,())
         else
          (aS a0).bind fun r139=>
          bif decide (r139.1<0) then
           (aR r1.1).bind fun r140=>
           some (r140.1,())
          else
           some (r1.1,())
       else
        (aS a0).bind fun r141=>
        bif decide (r141.1<0) then
         (aR r1.1).bind fun r142=>
         some (r142.1,())
        else
         some (r1.1,())
     else
      bif a2==2 then
       bif decide (r4.1>0) then
        (bN 1).bind fun r143=>
        (bC r1.1 r143.1).bind fun r144=>
        (aS a0).bind fun r145=>
        bif decide (r145.1<0) then
         (aR r144.1).bind fun r146=>
         some (r146.1,())
        else
         some (r144.1,())
       else
        bif r4.1==0 then
         (gI r1.1).bind fun r147=>
         bif r147.1 then
          (bN 1).bind fun r148=>
          (bC r1.1 r148.1).bind fun r149=>
          (aS a0).bind fun r150=>
          bif decide (r150.1<0) then
           (aR r149.1).bind fun r151=>
           some (r151.1,())
          else
           some (r149.1,())
         else
          (aS a0).bind fun r152=>
          bif decide (r152.1<0) then
           (aR r1.1).bind fun r153=>
           some (r153.1,())
          else
           some (r1.1,())
        else
         (aS a0).bind fun r154=>
         bif decide (r154.1<0) then
          (aR r1.1).bind fun r155=>
          some (r155.1,())
         else
          some (r1.1,())
      else
       (aS a0).bind fun r156=>
       bif decide (r156.1<0) then
        (aR r1.1).bind fun r157=>
        some (r157.1,())
       else
        some (r1.1,())
 else
  (aS a0).bind fun r158=>
  bif decide (r158.1<0) then
   (aR r1.1).bind fun r159=>
   some (r159.1,())
  else
   some (r1.1,())
def ke (a0:aa):Option (Bool×Unit):=
 (oF a0 1000000000000000).bind fun r1=>
 some (r1.2.1,())
def Ig (a0:ah) (a1:au):Option (aa×Bool×Unit):=
 (bN a1.2.2.2.1.1).bind fun r1=>
 (bN a1.2.2.2.2.2.1.1).bind fun r2=>
 (fM r1.1 r2.1).bind fun r3=>
 (o7 a0.2.2.2.1).bind fun r4=>
 (fM r3.1 r4.1).bind fun r5=>
 (o7 (w64 (a1.2.2.2.1.2+a1.2.2.2.2.2.1.2))).bind fun r6=>
 (bN a1.2.2.2.2.2.2.1).bind fun r7=>
 (fM r6.1 r7.1).bind fun r8=>
 (uk r5.1 r8.1 a0.2.2.2.2.1).bind fun r9=>
 (ke r9.1).bind fun r10=>
 some (r9.1,r10.1,())
def ou (a0:aj) (a1:Int):Option (aa×Unit):=
 (bN a0.1).bind fun r1=>
 (o7 (w64 (a1 - a0.2))).bind fun r2=>
 (fM r1.1 r2.1).bind fun r3=>
 some (r3.1,())
def rj (a0:ah) (a1:aa) (a2:aj):Option (aa×Unit):=
 (bN a2.1).bind fun r1=>
 (fM a1 r1.1).bind fun r2=>
 (bN 100).bind fun r3=>
 (o7 a2.2).bind fun r4=>
 (fM r3.1 r4.1).bind fun r5=>
 (uk r2.1 r5.1 a0.2.2.2.2.1).bind fun r6=>
 some (r6.1,())
abbrev AQ:Type:=Bool×(List ax)×Int×Int×Bys×Bys×Int×Int×Int×Bool×(List aB)×(List au)×(List ax)×Bool×(List Int)×Bool×(List Int)×Bool×(List Int)×Unit
abbrev Ms:Type:=((aa×Bool×Unit) ⊕ (Bool×Bool×(List Int)×Bool×(List Int)×Unit))
def FR (x1:AQ) (again:AQ→Option Ms):Option Ms:=
 match x1 with
 | (A,B,C,D,E,F,G,H,I,J,K,L,M,N,O,P,Q,R,S,_)=>
 bif decide (D<C) then
  (idx B D).bind fun y2=>
  (ou y2.2.1 (if y2.2.1.2>H then y2.2.1.2 else H)).bind fun r3=>
  aO (γ:=(Bool×(List ax)×Int×Int×Bys×Bys×Int×Int×Int×Bool×(List aB)×(List au)×(List ax)×Bool×(List Int)×Bool×(List Int)×Bool×(List Int)×Bool×(List Int)×Unit)) (
   bif y2.1 then
    (rj (E,F,G,H,I,J,K,L,M) (P,Q) y2.2.1).bind fun r4=>
    some (.inr (A,B,C,D,E,F,G,H,I,J,K,L,M,N,O,P,Q,R,S,r4.1.1,r4.1.2,()))
   else
    some (.inr (A,B,C,D,E,F,G,H,I,J,K,L,M,N,O,P,Q,R,S,r3.1.1,r3.1.2,()))) fun (T,U,V,W,X,Y,Z,A0,B0,C0,D0,E0,F0,G0,H0,I0,J0,K0,L0,M0,N0,_)=>
  (bC (K0,L0) (M0,N0)).bind fun r6=>
  bif T then
   (ke (M0,N0)).bind fun r7=>
   bif r7.1 then
    (ke r6.1).bind fun r8=>
    again (r8.1,U,V,w64 (W+1),X,Y,Z,A0,B0,C0,D0,E0,F0,G0,H0,I0,J0,r6.1.1,r6.1.2,())
   else
    again (false,U,V,w64 (W+1),X,Y,Z,A0,B0,C0,D0,E0,F0,G0,H0,I0,J0,r6.1.1,r6.1.2,())
  else
   again (false,U,V,w64 (W+1),X,Y,Z,A0,B0,C0,D0,E0,F0,G0,H0,I0,J0,r6.1.1,r6.1.2,())
 else
  some (.inr (A,N,O,R,S,()))
def Ph (a0:ah) (a1:au):Option (aa×Bool×Unit):=
 (Ig a0 a1).bind fun r1=>
 aO (
  iter (X:=AQ) (β:=Ms) (a1.2.2.2.2.2.2.2.1.length+(Int.natAbs ((a1.2.2.2.2.2.2.2.1.length:Int))+(Int.natAbs (0:Int)+(a0.1.length+(a0.2.1.length+(a0.2.2.1.natAbs+(a0.2.2.2.1.natAbs+(a0.2.2.2.2.1.natAbs+(a0.2.2.2.2.2.2.1.length+(a0.2.2.2.2.2.2.2.1.length+(a0.2.2.2.2.2.2.2.2.length+(List.length ([]:List Int)+(r1.1.2.length+(r1.1.2.length+2)))))))))))))) (r1.2.1,a1.2.2.2.2.2.2.2.1,(a1.2.2.2.2.2.2.2.1.length:Int),0,a0.1,a0.2.1,a0.2.2.1,a0.2.2.2.1,a0.2.2.2.2.1,a0.2.2.2.2.2.1,a0.2.2.2.2.2.2.1,a0.2.2.2.2.2.2.2.1,a0.2.2.2.2.2.2.2.2,false,[],r1.1.1,r1.1.2,r1.1.1,r1.1.2,()) (FR)) fun (A,_,_,B,C,_)=>
 some ((B,C),A,())
abbrev vK:Type:=Bys×(List aB)×Int×Int×Unit
abbrev HU:Type:=((Int×Unit) ⊕ Unit)
def Bs (x1:vK) (again:vK→Option HU):Option HU:=
 match x1 with
 | (A,B,C,D,_)=>
 bif decide (D<C) then
  (idx B D).bind fun y2=>
  bif y2.1==A then
   some (.inl (D,()))
  else
   again (A,B,C,w64 (D+1),())
 else
  some (.inr ())
def fS (a0:ah) (a1:Bys):Option (Int×Unit):=
 aO (
  iter (X:=vK) (β:=HU) (a1.length+(a0.2.2.2.2.2.2.1.length+(Int.natAbs ((a0.2.2.2.2.2.2.1.length:Int))+(Int.natAbs (0:Int)+2)))) (a1,a0.2.2.2.2.2.2.1,(a0.2.2.2.2.2.2.1.length:Int),0,()) (Bs)) fun _=>
 some ((-1),())
abbrev qN:Type:=Bool×(List ax)×Int×Int×Bys×Bys×Int×Int×Int×Bool×(List aB)×(List au)×(List ax)×Unit
abbrev yK:Type:=((Int×Unit) ⊕ Unit)
def rf (x1:qN) (again:qN→Option yK):Option yK:=
 match x1 with
 | (A,B,C,D,E,F,G,H,I,J,K,L,M,_)=>
 bif decide (D<C) then
  (idx B D).bind fun y2=>
  (di y2.2.1).bind fun r3=>
  bif r3.1 != 0 then
   some (.inl (1,()))
  else
   bif y2.2.1.1==0 then
    some (.inl (13,()))
   else
    bif y2.1 then
     (m6 y2.2.1 (-100) 100 9).bind fun r4=>
     bif !r4.1 then
      some (.inl (1,()))
     else
      bif !y2.1 then
       (m6 y2.2.1 (-1000000000) 1000000000 H).bind fun r5=>
       bif !r5.1 then
        some (.inl (1,()))
       else
        bif A then
         bif !(y2.2.2==[]) then
          some (.inl (3,()))
         else
          bif !A then
           bif !(y2.2.2==[]) then
            (fS (E,F,G,H,I,J,K,L,M) y2.2.2).bind fun r6=>
            bif decide (r6.1<0) then
             some (.inl (5,()))
            else
             again (A,B,C,w64 (D+1),E,F,G,H,I,J,K,L,M,())
           else
            again (A,B,C,w64 (D+1),E,F,G,H,I,J,K,L,M,())
          else
           again (A,B,C,w64 (D+1),E,F,G,H,I,J,K,L,M,())
        else
         bif !A then
          bif !(y2.2.2==[]) then
           (fS (E,F,G,H,I,J,K,L,M) y2.2.2).bind fun r7=>
           bif decide (r7.1<0) then
            some (.inl (5,()))
           else
            again (A,B,C,w64 (D+1),E,F,G,H,I,J,K,L,M,())
          else
           again (A,B,C,w64 (D+1),E,F,G,H,I,J,K,L,M,())
         else
          again (A,B,C,w64 (D+1),E,F,G,H,I,J,K,L,M,())
      else
       bif A then
        bif !(y2.2.2==[]) then
         some (.inl (3,()))
        else
         bif !A then
          bif !(y2.2.2==[]) then
           (fS (E,F,G,H,I,J,K,L,M) y2.2.2).bind fun r8=>
           bif decide (r8.1<0) then
            some (.inl (5,()))
           else
            again (A,B,C,w64 (D+1),E,F,G,H,I,J,K,L,M,())
          else
           again (A,B,C,w64 (D+1),E,F,G,H,I,J,K,L,M,())
         else
          again (A,B,C,w64 (D+1),E,F,G,H,I,J,K,L,M,())
       else
        bif !A then
         bif !(y2.2.2==[]) then
          (fS (E,F,G,H,I,J,K,L,M) y2.2.2).bind fun r9=>
          bif decide (r9.1<0) then
           some (.inl (5,()))
          else
           again (A,B,C,w64 (D+1),E,F,G,H,I,J,K,L,M,())
         else
          again (A,B,C,w64 (D+1),E,F,G,H,I,J,K,L,M,())
        else
         again (A,B,C,w64 (D+1),E,F,G,H,I,J,K,L,M,())
    else
     bif !y2.1 then
      (m6 y2.2.1 (-1000000000) 1000000000 H).bind fun r10=>
      bif !r10.1 then
       some (.inl (1,()))
      else
       bif A then
        bif !(y2.2.2==[]) then
         some (.inl (3,()))
        else
         bif !A then
          bif !(y2.2.2==[]) then
           (fS (E,F,G,H,I,J,K,L,M) y2.2.2).bind fun r11=>
           bif decide (r11.1<0) then
            some (.inl (5,()))
           else
            again (A,B,C,w64 (D+1),E,F,G,H,I,J,K,L,M,())
          else
           again (A,B,C,w64 (D+1),E,F,G,H,I,J,K,L,M,())
         else
          again (A,B,C,w64 (D+1),E,F,G,H,I,J,K,L,M,())
       else
        bif !A then
         bif !(y2.2.2==[]) then
          (fS (E,F,G,H,I,J,K,L,M) y2.2.2).bind fun r12=>
          bif decide (r12.1<0) then
           some (.inl (5,()))
          else
           again (A,B,C,w64 (D+1),E,F,G,H,I,J,K,L,M,())
         else
          again (A,B,C,w64 (D+1),E,F,G,H,I,J,K,L,M,())
        else
         again (A,B,C,w64 (D+1),E,F,G,H,I,J,K,L,M,())
     else
      bif A then
       bif !(y2.2.2==[]) then
        some (.inl (3,()))
       else
        bif !A then
         bif !(y2.2.2==[]) then
          (fS (E,F,G,H,I,J,K,L,M) y2.2.2).bind fun r13=>
          bif decide (r13.1<0) then
           some (.inl (5,()))
          else
           again (A,B,C,w64 (D+1),E,F,G,H,I,J,K,L,M,())
         else
          again (A,B,C,w64 (D+1),E,F,G,H,I,J,K,L,M,())
        else
         again (A,B,C,w64 (D+1),E,F,G,H,I,J,K,L,M,())
      else
       bif !A then
        bif !(y2.2.2==[]) then
         (fS (E,F,G,H,I,J,K,L,M) y2.2.2).bind fun r14=>
         bif decide (r14.1<0) then
          some (.inl (5,()))
         else
          again (A,B,C,w64 (D+1),E,F,G,H,I,J,K,L,M,())
        else
         again (A,B,C,w64 (D+1),E,F,G,H,I,J,K,L,M,())
       else
        again (A,B,C,w64 (D+1),E,F,G,H,I,J,K,L,M,())
 else
  some (.inr ())
def l8 (a0:ah) (a1:List ax) (a2:Bool):Option (Int×Unit):=
 bif decide (((a1.length:Int))>20) then
  some (2,())
 else
  aO (
   iter (X:=qN) (β:=yK) (a1.length+(Int.natAbs ((a1.length:Int))+(Int.natAbs (0:Int)+(a0.1.length+(a0.2.1.length+(a0.2.2.1.natAbs+(a0.2.2.2.1.natAbs+(a0.2.2.2.2.1.natAbs+(a0.2.2.2.2.2.2.1.length+(a0.2.2.2.2.2.2.2.1.length+(a0.2.2.2.2.2.2.2.2.length+2))))))))))) (a2,a1,(a1.length:Int),0,a0.1,a0.2.1,a0.2.2.1,a0.2.2.2.1,a0.2.2.2.2.1,a0.2.2.2.2.2.1,a0.2.2.2.2.2.2.1,a0.2.2.2.2.2.2.2.1,a0.2.2.2.2.2.2.2.2,()) (rf)) fun _=>
  some (0,())
def vQ (a0:ah) (a1:Int):Option (Int×Unit):=
 (idx a0.2.2.2.2.2.2.2.1 a1).bind fun y1=>
 (lP y1.1 1 99999).bind fun r2=>
 bif !r2.1 then
  some (1,())
 else
  bif decide (a1>0) then
   (idx a0.2.2.2.2.2.2.2.1 (w64 (a1 - 1))).bind fun y3=>
   bif decide (y1.1≤y3.1) then
    some (8,())
   else
    (lP y1.2.1 1 99999).bind fun r4=>
    bif !r4.1 then
     some (1,())
    else
     (mu y1.2.2.1).bind fun r5=>
     bif !r5.1 then
      some (5,())
     else
      (m6 y1.2.2.2.1 (-1000000000) 1000000000 3).bind fun r6=>
      bif !r6.1 then
       some (1,())
      else
       bif y1.2.2.2.1.1==0 then
        some (13,())
       else
        (mu y1.2.2.2.2.1).bind fun r7=>
        bif !r7.1 then
         some (5,())
        else
         (m6 y1.2.2.2.2.2.1 0 1000000000 4).bind fun r8=>
         bif !r8.1 then
          some (1,())
         else
          (lP y1.2.2.2.2.2.2.1 1 100000).bind fun r9=>
          bif !r9.1 then
           some (1,())
          else
           (l8 a0 y1.2.2.2.2.2.2.2.1 true).bind fun r10=>
           bif r10.1 != 0 then
            some (r10.1,())
           else
            (fS a0 y1.2.2.2.2.2.2.2.2).bind fun r11=>
            bif decide (r11.1<0) then
             some (5,())
            else
             some (0,())
  else
   (lP y1.2.1 1 99999).bind fun r12=>
   bif !r12.1 then
    some (1,())
   else
    (mu y1.2.2.1).bind fun r13=>
    bif !r13.1 then
     some (5,())
    else
     (m6 y1.2.2.2.1 (-1000000000) 1000000000 3).bind fun r14=>
     bif !r14.1 then
      some (1,())
     else
      bif y1.2.2.2.1.1==0 then
       some (13,())
      else
       (mu y1.2.2.2.2.1).bind fun r15=>
       bif !r15.1 then
        some (5,())
       else
        (m6 y1.2.2.2.2.2.1 0 1000000000 4).bind fun r16=>
        bif !r16.1 then
         some (1,())
        else
         (lP y1.2.2.2.2.2.2.1 1 100000).bind fun r17=>
         bif !r17.1 then
          some (1,())
         else
          (l8 a0 y1.2.2.2.2.2.2.2.1 true).bind fun r18=>
          bif r18.1 != 0 then
           some (r18.1,())
          else
           (fS a0 y1.2.2.2.2.2.2.2.2).bind fun r19=>
           bif decide (r19.1<0) then
            some (5,())
           else
            some (0,())
abbrev uP:Type:=(List aB)×Int×Int×Bys×Bys×Int×Int×Int×Bool×(List aB)×(List au)×(List ax)×Unit
abbrev vo:Type:=((Int×Unit) ⊕ (Bys×Bys×Int×Int×Int×Bool×(List aB)×(List au)×(List ax)×Unit))
def oQ (x1:uP) (again:uP→Option vo):Option vo:=
 match x1 with
 | (A,B,C,D,E,F,G,H,I,J,K,L,_)=>
 bif decide (C<B) then
  (idx A C).bind fun y2=>
  (mu y2.1).bind fun r3=>
  bif !r3.1 then
   some (.inl (5,()))
  else
   bif decide (C>0) then
    (idx J (w64 (C - 1))).bind fun y4=>
    bif Op.bytesLess y2.1 y4.1||y2.1==y4.1 then
     some (.inl (8,()))
    else
     (m6 y2.2 0 100 9).bind fun r5=>
     bif !r5.1 then
      some (.inl (1,()))
     else
      again (A,B,w64 (C+1),D,E,F,G,H,I,J,K,L,())
   else
    (m6 y2.2 0 100 9).bind fun r6=>
    bif !r6.1 then
     some (.inl (1,()))
    else
     again (A,B,w64 (C+1),D,E,F,G,H,I,J,K,L,())
 else
  some (.inr (D,E,F,G,H,I,J,K,L,()))
abbrev vf:Type:=Int×Int×Bys×Bys×Int×Int×Int×Bool×(List aB)×(List au)×(List ax)×Unit
abbrev u7:Type:=((Int×Unit) ⊕ (Bys×Bys×Int×Int×Int×Bool×(List aB)×(List au)×(List ax)×Unit))
def oV (x1:vf) (again:vf→Option u7):Option u7:=
 match x1 with
 | (A,B,C,D,E,F,G,H,I,J,K,_)=>
 bif decide (B<A) then
  (vQ (C,D,E,F,G,H,I,J,K) B).bind fun r2=>
  bif r2.1 != 0 then
   some (.inl (r2.1,()))
  else
   again (A,w64 (B+1),C,D,E,F,G,H,I,J,K,())
 else
  some (.inr (C,D,E,F,G,H,I,J,K,()))
def kU (a0:ah):Option (Int×Unit):=
 (mu a0.1).bind fun r1=>
 bif !r1.1 then
  some (5,())
 else
  (mu a0.2.1).bind fun r2=>
  bif !r2.1 then
   some (5,())
  else
   (NQ a0.2.2.1).bind fun r3=>
   bif !r3.1 then
    some (1,())
   else
    (lP a0.2.2.2.1 0 4).bind fun r4=>
    bif !r4.1 then
     some (1,())
    else
     (lP a0.2.2.2.2.1 1 6).bind fun r5=>
     bif !r5.1 then
      some (4,())
     else
      bif ((a0.2.2.2.2.2.2.1.length:Int))==0 then
       some (9,())
      else
       bif decide (((a0.2.2.2.2.2.2.1.length:Int))>20) then
        some (2,())
       else
        aO (
         iter (X:=uP) (β:=vo) (a0.2.2.2.2.2.2.1.length+(Int.natAbs ((a0.2.2.2.2.2.2.1.length:Int))+(Int.natAbs (0:Int)+(a0.1.length+(a0.2.1.length+(a0.2.2.1.natAbs+(a0.2.2.2.1.natAbs+(a0.2.2.2.2.1.natAbs+(a0.2.2.2.2.2.2.1.length+(a0.2.2.2.2.2.2.2.1.length+(a0.2.2.2.2.2.2.2.2.length+2))))))))))) (a0.2.2.2.2.2.2.1,(a0.2.2.2.2.2.2.1.length:Int),0,a0.1,a0.2.1,a0.2.2.1,a0.2.2.2.1,a0.2.2.2.2.1,a0.2.2.2.2.2.1,a0.2.2.2.2.2.2.1,a0.2.2.2.2.2.2.2.1,a0.2.2.2.2.2.2.2.2,()) (oQ)) fun (A,B,C,D,E,F,G,H,I,_)=>
        bif ((H.length:Int))==0 then
         some (9,())
        else
         bif decide (((H.length:Int))>500) then
          some (2,())
         else
          aO (
           iter (X:=vf) (β:=u7) (Int.natAbs ((H.length:Int))+(Int.natAbs (0:Int)+(A.length+(B.length+(C.natAbs+(D.natAbs+(E.natAbs+(G.length+(H.length+(I.length+2)))))))))) ((H.length:Int),0,A,B,C,D,E,F,G,H,I,()) (oV)) fun (J,K,L,M,N,O,P,Q,R,_)=>
          (l8 (J,K,L,M,N,O,P,Q,R) R false).bind fun r16=>
          some (r16.1,())
abbrev DP:Type:=Int×Int×Bool×(List Int)×Bool×(List Int)×Bool×(List Int)×Unit
abbrev OI:Type:=((aP×Int×Unit) ⊕ (Int×Bool×(List Int)×Bool×(List Int)×Unit))
def IC (x1:DP) (again:DP→Option OI):Option OI:=
 match x1 with
 | (A,B,C,D,E,F,G,H,_)=>
 bif decide (B≥0) then
  (idx D B).bind fun y2=>
  let n3:Int:=w64 (Int.tdiv (w64 ((w64 (A*1000000))+y2)) 2)
  let n4:Int:=Int.tmod (w64 ((w64 (A*1000000))+y2)) 2
  chk (decide (0≤B)&&decide (B<(H.length:Int))) <|
  (H[B.toNat]?).bind fun _=>
  again (n4,w64 (B - 1),C,D,E,F,G,List.set H B.toNat n3,())
 else
  some (.inr (A,E,F,G,H,()))
def SH (a0:aP):Option (aP×Int×Unit):=
 chk (decide (0≤((a0.2.length:Int)))&&decide (((a0.2.length:Int))≤((a0.2.length:Int)))&&decide ((8:Int)*((a0.2.length:Int))≤281474976710656)&&decide (((a0.2.length:Int))≤9223372036854775807)) <|
 aO (
  iter (X:=DP) (β:=OI) (Int.natAbs (0:Int)+(Int.natAbs (w64 (((a0.2.length:Int)) - 1))+(a0.2.length+(List.length ([]:List Int)+(List.length ((List.replicate (Int.toNat ((a0.2.length:Int))) 0):List Int)+2))))) (0,w64 (((a0.2.length:Int)) - 1),a0.1,a0.2,false,[],false,List.replicate (Int.toNat ((a0.2.length:Int))) 0,()) (IC)) fun (A,_,_,B,C,_)=>
 (oZ (B,C)).bind fun r7=>
 some (r7.1,A,())
abbrev xU:Type:=(List Int)×Bool×(List Int)×Bool×(List Int)×Bool×(List Int)×Bool×(List Int)×Unit
abbrev Kf:Type:=((aP×aP×Unit) ⊕ ((List Int)×Bool×(List Int)×Bool×(List Int)×Bool×(List Int)×Unit))
def nU (x1:xU) (again:xU→Option Kf):Option Kf:=
 match x1 with
 | (A,B,C,D,E,F,G,H,I,_)=>
 (CU (H,I)).bind fun r2=>
 bif decide (r2.1>0) then
  (SH (H,I)).bind fun r3=>
  chk (decide (((A.length)+1)*8≤140737488355328)&&decide ((A.length)+1≤maxLen)) <|
  again (A++[r3.2.1],B,C,D,E,F,G,r3.1.1,r3.1.2,())
 else
  some (.inr (A,B,C,D,E,F,G,()))
abbrev vM:Type:=(List Int)×Int×Bool×(List Int)×Bool×(List Int)×Bool×(List Int)×Bool×(List Int)×Bool×(List Int)×Bool×(List Int)×Unit
abbrev HN:Type:=((aP×aP×Unit) ⊕ (Bool×(List Int)×Bool×(List Int)×Bool×(List Int)×Bool×(List Int)×Unit))
def Bj (x1:vM) (again:vM→Option HN):Option HN:=
 match x1 with
 | (A,B,C,D,E,F,G,H,I,J,K,L,M,N,_)=>
 bif decide (B≥0) then
  (iA (I,J) (M,N)).bind fun r2=>
  (iA (K,L) (M,N)).bind fun r3=>
  chk (decide (0≤B)&&decide (B<(A.length:Int))) <|
  (A[B.toNat]?).bind fun y4=>
  (mD y4).bind fun r5=>
  (zz r3.1 r5.1).bind fun r6=>
  (M7 r6.1 (C,D)).bind fun r7=>
  bif decide (r7.1≥0) then
   (mD 1).bind fun r8=>
   (zz r2.1 r8.1).bind fun r9=>
   (u0 (C,D)).bind fun r10=>
   (zz r6.1 r10.1).bind fun r11=>
   again (A,w64 (B - 1),C,D,E,F,G,H,r9.1.1,r9.1.2,r11.1.1,r11.1.2,M,N,())
  else
   again (A,w64 (B - 1),C,D,E,F,G,H,r2.1.1,r2.1.2,r6.1.1,r6.1.2,M,N,())
 else
  some (.inr (E,F,G,H,I,J,K,L,()))
def Hg (a0:aP) (a1:aP):Option (aP×aP×Unit):=
 aO (
  iter (X:=xU) (β:=Kf) ((20*List.length (([],a1.1,a1.2,false,[],false,[],a0.1,a0.2,()):xU).2.2.2.2.2.2.2.2.1+2)) ([],a1.1,a1.2,false,[],false,[],a0.1,a0.2,()) (nU)) fun (A,B,C,D,E,F,G,_)=>
 (mD 2).bind fun r5=>
 aO (
  iter (X:=vM) (β:=HN) (A.length+(Int.natAbs (w64 (((A.length:Int)) - 1))+(C.length+(E.length+(G.length+(List.length ([]:List Int)+(List.length ([]:List Int)+(r5.1.2.length+2)))))))) (A,w64 (((A.length:Int)) - 1),B,C,D,E,F,G,false,[],false,[],r5.1.1,r5.1.2,()) (Bj)) fun (_,_,_,_,H,I,J,K,_)=>
 some ((H,I),(J,K),())
def NZ (a0:aP) (a1:aP) (a2:Int):Option (aP×Unit):=
 (Hg (false,a0.2) a1).bind fun r1=>
 (mD 2).bind fun r2=>
 (iA r1.2.1 r2.1).bind fun r3=>
 (M7 r3.1 a1).bind fun r4=>
 aO (γ:=(Bool×Bool×Bool×(List Int)×Bool×(List Int)×Unit)) (
  bif a2==1 then
   some (.inr (a0.1,decide (r4.1≥0),false,[],r1.1.1,r1.1.2,()))
  else
   bif a2==2 then
    bif decide (r4.1>0) then
     some (.inr (a0.1,true,false,[],r1.1.1,r1.1.2,()))
    else
     bif r4.1==0 then
      (xP r1.1.2 0).bind fun r5=>
      some (.inr (a0.1,(Int.tmod r5.1 2)==1,false,[],r1.1.1,r1.1.2,()))
     else
      some (.inr (a0.1,false,false,[],r1.1.1,r1.1.2,()))
   else
    bif a2==4 then
     (CU r1.2.1).bind fun r6=>
     some (.inr (a0.1,decide (r6.1>0),false,[],r1.1.1,r1.1.2,()))
    else
     bif a2==5 then
      bif a0.1 then
       (CU r1.2.1).bind fun r7=>
       some (.inr (a0.1,decide (r7.1>0),false,[],r1.1.1,r1.1.2,()))
      else
       some (.inr (a0.1,false,false,[],r1.1.1,r1.1.2,()))
     else
      bif a2==6 then
       bif !a0.1 then
        (CU r1.2.1).bind fun r8=>
        some (.inr (a0.1,decide (r8.1>0),false,[],r1.1.1,r1.1.2,()))
       else
        some (.inr (a0.1,false,false,[],r1.1.1,r1.1.2,()))
      else
       some (.inr (a0.1,false,false,[],r1.1.1,r1.1.2,()))) fun (A,B,_,_,C,D,_)=>
 bif B then
  (mD 1).bind fun r10=>
  (zz (C,D) r10.1).bind fun r11=>
  bif A then
   (u0 r11.1).bind fun r12=>
   some (r12.1,())
  else
   some (r11.1,())
 else
  bif A then
   (u0 (C,D)).bind fun r13=>
   some (r13.1,())
  else
   some ((C,D),())
abbrev AP:Type:=Int×Int×Bool×(List Int)×Unit
abbrev L7:Type:=((Int×Bool×Unit) ⊕ (Int×Bool×(List Int)×Unit))
def FO (x1:AP) (again:AP→Option L7):Option L7:=
 match x1 with
 | (A,B,C,D,_)=>
 bif decide (B≥0) then
  (idx D B).bind fun y2=>
  again (w64 ((w64 (A*1000000))+y2),w64 (B - 1),C,D,())
 else
  some (.inr (A,C,D,()))
def B8 (a0:aP) (a1:Int):Option (Int×Bool×Unit):=
 (mD a1).bind fun r1=>
 (ET a0.2 r1.1.2).bind fun r2=>
 bif decide (r2.1>0) then
  some (0,false,())
 else
  aO (
   iter (X:=AP) (β:=L7) (Int.natAbs (0:Int)+(Int.natAbs (w64 (((a0.2.length:Int)) - 1))+(a0.2.length+2))) (0,w64 (((a0.2.length:Int)) - 1),a0.1,a0.2,()) (FO)) fun v5=>
  bif v5.2.1 then
   some (w64 (0 - v5.1),true,())
  else
   some (v5.1,true,())
def AA (a0:ah) (a1:aP) (a2:aP):Option (Int×Bool×Unit):=
 (NZ a1 a2 a0.2.2.2.2.1).bind fun r1=>
 (B8 r1.1 1000000000000000).bind fun r2=>
 some (r2.1,r2.2.1,())
def Lf (a0:ah) (a1:au):Option (Int×Bool×Unit):=
 (mD a1.2.2.2.1.1).bind fun r1=>
 (mD a1.2.2.2.2.2.1.1).bind fun r2=>
 (iA r1.1 r2.1).bind fun r3=>
 (xH a0.2.2.2.1).bind fun r4=>
 (iA r3.1 r4.1).bind fun r5=>
 (xH (w64 (a1.2.2.2.1.2+a1.2.2.2.2.2.1.2))).bind fun r6=>
 (mD a1.2.2.2.2.2.2.1).bind fun r7=>
 (iA r6.1 r7.1).bind fun r8=>
 (AA a0 r5.1 r8.1).bind fun r9=>
 some (r9.1,r9.2.1,())
def se (a0:ah) (a1:Int):Option (aj×Unit):=
 some ((a1,a0.2.2.2.1),())
def o6 (a0:ah) (a1:Int) (a2:aj):Option (Int×Bool×Unit):=
 (mD a1).bind fun r1=>
 (mD a2.1).bind fun r2=>
 (iA r1.1 r2.1).bind fun r3=>
 (xH a2.2).bind fun r4=>
 (mD 100).bind fun r5=>
 (iA r4.1 r5.1).bind fun r6=>
 (AA a0 r3.1 r6.1).bind fun r7=>
 some (r7.1,r7.2.1,())
def D6 (a0:ah) (a1:ax) (a2:Int):Option (Int×Bool×Unit):=
 bif a1.1 then
  (o6 a0 a2 a1.2.1).bind fun r1=>
  some (r1.1,r1.2.1,())
 else
  (Lr a1.2.1 a0.2.2.2.1).bind fun r2=>
  (B8 r2.1 1000000000000000).bind fun r3=>
  some (r3.1,r3.2.1,())
def nP (a0:Int):Option (Bool×Unit):=
 (lP a0 (-1000000000000000) 1000000000000000).bind fun r1=>
 some (r1.1,())
abbrev Ep:Type:=Int×Int×(List ax)×Int×Int×Bys×Bys×Int×Int×Int×Bool×(List aB)×(List au)×(List ax)×Unit
abbrev Im:Type:=((Int×Bool×Unit) ⊕ (Int×Unit))
def Ir (x1:Ep) (again:Ep→Option Im):Option Im:=
 match x1 with
 | (A,B,C,D,E,F,G,H,I,J,K,L,M,N,_)=>
 bif decide (E<D) then
  (idx C E).bind fun y2=>
  (D6 (F,G,H,I,J,K,L,M,N) y2 A).bind fun r3=>
  bif !r3.2.1 then
   some (.inl (0,false,()))
  else
   (nP (w64 (B+r3.1))).bind fun r4=>
   bif !r4.1 then
    some (.inl (0,false,()))
   else
    again (A,w64 (B+r3.1),C,D,w64 (E+1),F,G,H,I,J,K,L,M,N,())
 else
  some (.inr (B,()))
def S6 (a0:ah) (a1:au):Option (Int×Bool×Unit):=
 (Lf a0 a1).bind fun r1=>
 bif !r1.2.1 then
  some (0,false,())
 else
  aO (
   iter (X:=Ep) (β:=Im) (r1.1.natAbs+(r1.1.natAbs+(a1.2.2.2.2.2.2.2.1.length+(Int.natAbs ((a1.2.2.2.2.2.2.2.1.length:Int))+(Int.natAbs (0:Int)+(a0.1.length+(a0.2.1.length+(a0.2.2.1.natAbs+(a0.2.2.2.1.natAbs+(a0.2.2.2.2.1.natAbs+(a0.2.2.2.2.2.2.1.length+(a0.2.2.2.2.2.2.2.1.length+(a0.2.2.2.2.2.2.2.2.length+2))))))))))))) (r1.1,r1.1,a1.2.2.2.2.2.2.2.1,(a1.2.2.2.2.2.2.2.1.length:Int),0,a0.1,a0.2.1,a0.2.2.1,a0.2.2.2.1,a0.2.2.2.2.1,a0.2.2.2.2.2.1,a0.2.2.2.2.2.2.1,a0.2.2.2.2.2.2.2.1,a0.2.2.2.2.2.2.2.2,()) (Ir)) fun v6=>
  some (v6.1,true,())
end Go.Md
namespace Go.Md
open Go.Dn
abbrev dc:Ty:=(.st (.pair tI (.pair .str (.pair aN aN))))
abbrev bz:Type:=Int×Bys×aj×aj
abbrev p6:Ty:=(.st (.pair (.slice tI) (.pair (.slice tI) (.pair (.slice (.slice tI)) (.pair (.slice tI) (.pair (.slice tI) (.pair (.slice tI) (.pair (.slice .bool) (.st (.pair tI (.pair tI (.pair tI (.pair tI tI)))))))))))))
abbrev ck:Type:=(List Int)×(List Int)×(List (List Int))×(List Int)×(List Int)×(List Int)×(List Bool)×(Int×Int×Int×Int×Int)
def u6 (a0:aa):Option (Bool×Unit):=
 (ke a0).bind fun r1=>
 some (!r1.1,())
def x9 (a0:aa):Option (Bool×Unit):=
 (ke a0).bind fun r1=>
 some (!r1.1,())
def CI (a0:aa):Option (Bool×Unit):=
 (ke a0).bind fun r1=>
 some (!r1.1,())
def wA (a0:aa):Option (Bool×Unit):=
 (ke a0).bind fun r1=>
 some (!r1.1,())
abbrev gx:Type:=(List aa)×Unit×Int×Int×Unit
abbrev mC:Type:=((Int×Unit) ⊕ Unit)
def gy (x1:gx) (again:gx→Option mC):Option mC:=
 match x1 with
 | (A,B,C,D,_)=>
 bif decide (D<C) then
  (idx A D).bind fun y2=>
  (u6 y2).bind fun r3=>
  bif r3.1 then
   some (.inl (D,()))
  else
   again (A,B,C,w64 (D+1),())
 else
  some (.inr ())
def om (a0:List aa) (a1:Unit):Option (Int×Unit):=
 aO (
  iter (X:=gx) (β:=mC) (a0.length+(Int.natAbs ((a0.length:Int))+(Int.natAbs (0:Int)+2))) (a0,a1,(a0.length:Int),0,()) (gy)) fun _=>
 some ((-1),())
abbrev fE:Type:=(List aa)×Unit×Int×Int×Unit
abbrev lE:Type:=((Int×Unit) ⊕ Unit)
def fA (x1:fE) (again:fE→Option lE):Option lE:=
 match x1 with
 | (A,B,C,D,_)=>
 bif decide (D<C) then
  (idx A D).bind fun y2=>
  (x9 y2).bind fun r3=>
  bif r3.1 then
   some (.inl (D,()))
  else
   again (A,B,C,w64 (D+1),())
 else
  some (.inr ())
def ni (a0:List aa) (a1:Unit):Option (Int×Unit):=
 aO (
  iter (X:=fE) (β:=lE) (a0.length+(Int.natAbs ((a0.length:Int))+(Int.natAbs (0:Int)+2))) (a0,a1,(a0.length:Int),0,()) (fA)) fun _=>
 some ((-1),())
abbrev fD:Type:=(List aa)×Unit×Int×Int×Unit
abbrev lJ:Type:=((Int×Unit) ⊕ Unit)
def fF (x1:fD) (again:fD→Option lJ):Option lJ:=
 match x1 with
 | (A,B,C,D,_)=>
 bif decide (D<C) then
  (idx A D).bind fun y2=>
  (CI y2).bind fun r3=>
  bif r3.1 then
   some (.inl (D,()))
  else
   again (A,B,C,w64 (D+1),())
 else
  some (.inr ())
def mW (a0:List aa) (a1:Unit):Option (Int×Unit):=
 aO (
  iter (X:=fD) (β:=lJ) (a0.length+(Int.natAbs ((a0.length:Int))+(Int.natAbs (0:Int)+2))) (a0,a1,(a0.length:Int),0,()) (fF)) fun _=>
 some ((-1),())
abbrev fB:Type:=(List aa)×Unit×Int×Int×Unit
abbrev lH:Type:=((Int×Unit) ⊕ Unit)
def fC (x1:fB) (again:fB→Option lH):Option lH:=
 match x1 with
 | (A,B,C,D,_)=>
 bif decide (D<C) then
  (idx A D).bind fun y2=>
  (wA y2).bind fun r3=>
  bif r3.1 then
   some (.inl (D,()))
  else
   again (A,B,C,w64 (D+1),())
 else
  some (.inr ())
def mV (a0:List aa) (a1:Unit):Option (Int×Unit):=
 aO (
  iter (X:=fB) (β:=lH) (a0.length+(Int.natAbs ((a0.length:Int))+(Int.natAbs (0:Int)+2))) (a0,a1,(a0.length:Int),0,()) (fC)) fun _=>
 some ((-1),())
def jf (a0:List aa) (a1:Unit):Option (Bool×Unit):=
 (om a0 a1).bind fun r1=>
 some (decide (r1.1≥0),())
def b6 (a0:List aa) (a1:Unit):Option (Bool×Unit):=
 (ni a0 a1).bind fun r1=>
 some (decide (r1.1≥0),())
def iD (a0:List aa) (a1:Unit):Option (Bool×Unit):=
 (mW a0 a1).bind fun r1=>
 some (decide (r1.1≥0),())
def iE (a0:List aa) (a1:Unit):Option (Bool×Unit):=
 (mV a0 a1).bind fun r1=>
 some (decide (r1.1≥0),())
def nr (a0:List aa):Option ((List aa)×Unit):=
 bif List.isEmpty a0 then
  both (
   some ([],())) (
   chk (decide ((0+(a0.length))*32≤140737488355328)&&decide (0+(a0.length)≤maxLen)) <|
   some (a0,()))
 else
  chk (decide ((0+(a0.length))*32≤140737488355328)&&decide (0+(a0.length)≤maxLen)) <|
  some (a0,())
abbrev jc:Type:=(List au)×Int×Int×Bys×Bys×Int×Int×Int×Bool×(List aB)×(List au)×(List ax)×(List aa)×(List bg)×(List aa)×(List Bool)×(List aa)×(List aa)×(List aa)×Unit
abbrev tU:Type:=((Int×(ah×(List aa)×(List aa)×(List aa)×(List bg)×(List aa)×(List Bool)×(List aa)×Unit)×Unit) ⊕ (Bys×Bys×Int×Int×Int×Bool×(List aB)×(List au)×(List ax)×(List aa)×(List bg)×(List aa)×(List Bool)×(List aa)×(List aa)×(List aa)×Unit))
def lg (x1:jc) (again:jc→Option tU):Option tU:=
 match x1 with
 | (A,B,C,D,E,F,G,H,I,J,K,L,M,N,O,P,Q,R,S,_)=>
 bif decide (C<B) then
  (idx A C).bind fun y2=>
  (Ph (D,E,F,G,H,I,J,K,L) y2).bind fun r3=>
  bif !r3.2.1 then
   some (.inl (1,((D,E,F,G,H,I,J,K,L),M,O,Q,N,R,P,S,()),()))
  else
   (si J y2.2.2.2.2.2.2.2.2).bind fun r4=>
   chk (decide (((M.length)+1)*32≤140737488355328)&&decide ((M.length)+1≤maxLen)) <|
   chk (decide (0≤r4.1)&&decide (r4.1<(O.length:Int))) <|
   (O[r4.1.toNat]?).bind fun y5=>
   (bC y5 r3.1).bind fun r6=>
   chk (decide (0≤r4.1)&&decide (r4.1<(O.length:Int))) <|
   (O[r4.1.toNat]?).bind fun _=>
   chk (decide (((N.length)+1)*40≤140737488355328)&&decide ((N.length)+1≤maxLen)) <|
   chk (decide (0≤r4.1)&&decide (r4.1<(P.length:Int))) <|
   (P[r4.1.toNat]?).bind fun _=>
   again (A,B,w64 (C+1),D,E,F,G,H,I,J,K,L,M++[r3.1],N++[(r4.1,r3.1)],List.set O r4.1.toNat r6.1,List.set P r4.1.toNat true,Q,R,S,())
 else
  some (.inr (D,E,F,G,H,I,J,K,L,M,N,O,P,Q,R,S,()))
def nW (a0:ah×(List aa)×(List aa)×(List aa)×(List bg)×(List aa)×(List Bool)×(List aa)×Unit):Option (Int×(ah×(List aa)×(List aa)×(List aa)×(List bg)×(List aa)×(List Bool)×(List aa)×Unit)×Unit):=
 chk (decide (0≤((a0.1.2.2.2.2.2.2.1.length:Int)))&&decide (((a0.1.2.2.2.2.2.2.1.length:Int))≤((a0.1.2.2.2.2.2.2.1.length:Int)))&&decide ((32:Int)*((a0.1.2.2.2.2.2.2.1.length:Int))≤281474976710656)&&decide (((a0.1.2.2.2.2.2.2.1.length:Int))≤9223372036854775807)) <|
 chk (decide (0≤((a0.1.2.2.2.2.2.2.1.length:Int)))&&decide (((a0.1.2.2.2.2.2.2.1.length:Int))≤((a0.1.2.2.2.2.2.2.1.length:Int)))&&decide ((1:Int)*((a0.1.2.2.2.2.2.2.1.length:Int))≤281474976710656)&&decide (((a0.1.2.2.2.2.2.2.1.length:Int))≤9223372036854775807)) <|
 aO (
  iter (X:=jc) (β:=tU) (a0.1.2.2.2.2.2.2.2.1.length+(Int.natAbs ((a0.1.2.2.2.2.2.2.2.1.length:Int))+(Int.natAbs (0:Int)+(a0.1.1.length+(a0.1.2.1.length+(a0.1.2.2.1.natAbs+(a0.1.2.2.2.1.natAbs+(a0.1.2.2.2.2.1.natAbs+(a0.1.2.2.2.2.2.2.1.length+(a0.1.2.2.2.2.2.2.2.1.length+(a0.1.2.2.2.2.2.2.2.2.length+(a0.2.1.length+(a0.2.2.2.2.1.length+(List.length ((List.replicate (Int.toNat ((a0.1.2.2.2.2.2.2.1.length:Int))) (false,[]):List (aa)):List aa)+(List.length ((List.replicate (Int.toNat ((a0.1.2.2.2.2.2.2.1.length:Int))) false:List (Bool)):List Bool)+(a0.2.2.2.1.length+(a0.2.2.2.2.2.1.length+(a0.2.2.2.2.2.2.2.1.length+2)))))))))))))))))) (a0.1.2.2.2.2.2.2.2.1,(a0.1.2.2.2.2.2.2.2.1.length:Int),0,a0.1.1,a0.1.2.1,a0.1.2.2.1,a0.1.2.2.2.1,a0.1.2.2.2.2.1,a0.1.2.2.2.2.2.1,a0.1.2.2.2.2.2.2.1,a0.1.2.2.2.2.2.2.2.1,a0.1.2.2.2.2.2.2.2.2,a0.2.1,a0.2.2.2.2.1,(List.replicate (Int.toNat ((a0.1.2.2.2.2.2.2.1.length:Int))) (false,[]):List (aa)),(List.replicate (Int.toNat ((a0.1.2.2.2.2.2.2.1.length:Int))) false:List (Bool)),a0.2.2.2.1,a0.2.2.2.2.2.1,a0.2.2.2.2.2.2.2.1,()) (lg)) fun (A,B,C,D,E,F,G,H,I,J,K,L,M,N,O,P,_)=>
 (jf L ()).bind fun r10=>
 bif r10.1 then
  some (1,((A,B,C,D,E,F,G,H,I),J,L,N,K,O,M,P,()),())
 else
  (nr L).bind fun r11=>
  some (0,((A,B,C,D,E,F,G,H,I),J,L,r11.1,K,O,M,P,()),())
def gm (a0:ah×(List aa)×(List aa)×(List aa)×(List bg)×(List aa)×(List Bool)×(List aa)×Unit) (a1:Int) (a2:aa):Option ((ah×(List aa)×(List aa)×(List aa)×(List bg)×(List aa)×(List Bool)×(List aa)×Unit)×Unit):=
 chk (decide (0≤a1)&&decide (a1<(a0.2.2.2.1.length:Int))) <|
 (a0.2.2.2.1[a1.toNat]?).bind fun y1=>
 (bC y1 a2).bind fun r2=>
 chk (decide (0≤a1)&&decide (a1<(a0.2.2.2.1.length:Int))) <|
 (a0.2.2.2.1[a1.toNat]?).bind fun _=>
 chk (decide (((a0.2.2.2.2.1.length)+1)*40≤140737488355328)&&decide ((a0.2.2.2.2.1.length)+1≤maxLen)) <|
 some ((a0.1,a0.2.1,a0.2.2.1,List.set a0.2.2.2.1 a1.toNat r2.1,a0.2.2.2.2.1++[(a1,a2)],a0.2.2.2.2.2.1,a0.2.2.2.2.2.2.1,a0.2.2.2.2.2.2.2.1,()),())
def BP (a0:aa):Option (aa×Unit):=
 (jy false a0.2).bind fun r1=>
 some (r1.1,())
def wE (a0:Int):Option (Bool×Unit):=
 some (decide (a0>1000000000),())
abbrev jD:Type:=(List Int)×Unit×Int×Int×Unit
abbrev qx:Type:=((Int×Unit) ⊕ Unit)
def jC (x1:jD) (again:jD→Option qx):Option qx:=
 match x1 with
 | (A,B,C,D,_)=>
 bif decide (D<C) then
  (idx A D).bind fun y2=>
  (wE y2).bind fun r3=>
  bif r3.1 then
   some (.inl (D,()))
  else
   again (A,B,C,w64 (D+1),())
 else
  some (.inr ())
def uF (a0:List Int) (a1:Unit):Option (Int×Unit):=
 aO (
  iter (X:=jD) (β:=qx) (a0.length+(Int.natAbs ((a0.length:Int))+(Int.natAbs (0:Int)+2))) (a0,a1,(a0.length:Int),0,()) (jC)) fun _=>
 some ((-1),())
def jE (a0:List Int) (a1:Unit):Option (Bool×Unit):=
 (uF a0 a1).bind fun r1=>
 some (decide (r1.1≥0),())
abbrev nx:Type:=Int×(List Int)×Int×Int×Unit
abbrev rX:Type:=((Int×Unit) ⊕ (Int×Unit))
def ny (x1:nx) (again:nx→Option rX):Option rX:=
 bif decide (x1.2.2.2.1<x1.2.2.1) then
  (idx x1.2.1 x1.2.2.2.1).bind fun y2=>
  (cD y2 0 1000000000).bind fun r3=>
  bif r3.1 then
   some (.inl (1,()))
  else
   again (w64 (x1.1+y2),x1.2.1,x1.2.2.1,w64 (x1.2.2.2.1+1),())
 else
  some (.inr (x1.1,()))
def qh (a0:List Int):Option (Int×Unit):=
 bif ((a0.length:Int))==0 then
  some (9,())
 else
  bif decide (((a0.length:Int))>1000) then
   some (2,())
  else
   aO (
    iter (X:=nx) (β:=rX) (Int.natAbs (0:Int)+(a0.length+(Int.natAbs ((a0.length:Int))+(Int.natAbs (0:Int)+2)))) (0,a0,(a0.length:Int),0,()) (ny)) fun v4=>
   bif v4.1==0 then
    some (13,())
   else
    some (0,())
def me (a0:aq) (a1:aq):Option (Int×Unit):=
 (mj a1.2.2 a0.2.2).bind fun r1=>
 some (r1.1,())
abbrev dH:Type:=Int×Int×Unit×Int×Int×(List aq)×Unit
abbrev dM:Type:=((((List aq)×Unit) ⊕ ((List aq)×Unit)) ⊕ (Int×Int×Unit×Int×(List aq)×Unit))
def dI (x1:dH) (again:dH→Option dM):Option dM:=
 match x1 with
 | (A,B,C,D,E,F,_)=>
 bif decide (E>A) then
  chk (decide (0≤E)&&decide (E<(F.length:Int))) <|
  (F[E.toNat]?).bind fun y2=>
  chk (decide (0≤(w64 (E - 1)))&&decide ((w64 (E - 1))<(F.length:Int))) <|
  (F[(w64 (E - 1)).toNat]?).bind fun y3=>
  (me y2 y3).bind fun r4=>
  bif decide (r4.1<0) then
   chk (decide (0≤(w64 (E - 1)))&&decide ((w64 (E - 1))<(F.length:Int))) <|
   (F[(w64 (E - 1)).toNat]?).bind fun y5=>
   chk (decide (0≤E)&&decide (E<(F.length:Int))) <|
   (F[E.toNat]?).bind fun y6=>
   chk (decide (0≤E)&&decide (E<(F.length:Int))) <|
   (F[E.toNat]?).bind fun _=>
   chk (decide (0≤(w64 (E - 1)))&&decide ((w64 (E - 1))<(List.length (List.set F E.toNat y5):Int))) <|
   ((List.set F E.toNat y5)[(w64 (E - 1)).toNat]?).bind fun _=>
   again (A,B,C,D,w64 (E - 1),List.set (List.set F E.toNat y5) (w64 (E - 1)).toNat y6,())
  else
   some (.inr (A,B,C,D,F,()))
 else
  some (.inr (A,B,C,D,F,()))
abbrev dJ:Type:=Int×Int×Unit×Int×(List aq)×Unit
abbrev dL:Type:=(((List aq)×Unit) ⊕ ((List aq)×Unit))
def cA (x1:dJ) (again:dJ→Option dL):Option dL:=
 match x1 with
 | (A,B,C,D,E,_)=>
 bif decide (D<B) then
  aO (
   iter (X:=dH) (β:=dM) (A.natAbs+(B.natAbs+(D.natAbs+(D.natAbs+(E.length+2))))) (A,B,C,D,D,E,()) (dI)) fun (F,G,H,I,J,_)=>
  again (F,G,H,w64 (I+1),J,())
 else
  some (.inr (E,()))
def cS (a0:List aq) (a1:Int) (a2:Int) (a3:Unit):Option ((List aq)×Unit):=
 aO (
  iter (X:=dJ) (β:=dL) (a1.natAbs+(a2.natAbs+(Int.natAbs (w64 (a1+1))+(a0.length+2)))) (a1,a2,a3,w64 (a1+1),a0,()) (cA)) fun v11=>
 some (v11.1,())
abbrev eN:Type:=Int×Int×Int×Int×(List aq)×Unit
abbrev eS:Type:=(((List aq)×Unit) ⊕ ((List aq)×Unit))
def eP (x1:eN) (again:eN→Option eS):Option eS:=
 match x1 with
 | (A,B,C,D,E,_)=>
 bif decide (D<C) then
  chk (decide (0≤(w64 (B+D)))&&decide ((w64 (B+D))<(E.length:Int))) <|
  (E[(w64 (B+D)).toNat]?).bind fun y2=>
  chk (decide (0≤(w64 (A+D)))&&decide ((w64 (A+D))<(E.length:Int))) <|
  (E[(w64 (A+D)).toNat]?).bind fun y3=>
  chk (decide (0≤(w64 (A+D)))&&decide ((w64 (A+D))<(E.length:Int))) <|
  (E[(w64 (A+D)).toNat]?).bind fun _=>
  chk (decide (0≤(w64 (B+D)))&&decide ((w64 (B+D))<(List.length (List.set E (w64 (A+D)).toNat y2):Int))) <|
  ((List.set E (w64 (A+D)).toNat y2)[(w64 (B+D)).toNat]?).bind fun _=>
  again (A,B,C,w64 (D+1),List.set (List.set E (w64 (A+D)).toNat y2) (w64 (B+D)).toNat y3,())
 else
  some (.inr (E,()))
def cE (a0:List aq) (a1:Int) (a2:Int) (a3:Int) (_a4:Unit):Option ((List aq)×Unit):=
 aO (
  iter (X:=eN) (β:=eS) (a1.natAbs+(a2.natAbs+(a3.natAbs+(Int.natAbs (0:Int)+(a0.length+2))))) (a1,a2,a3,0,a0,()) (eP)) fun v6=>
 some (v6.1,())
abbrev fN:Type:=Int×Unit×Int×Int×(List aq)×Unit
abbrev fQ:Type:=(((List aq)×Unit) ⊕ (Int×Unit×Int×(List aq)×Unit))
def fT (x1:fN) (again:fN→Option fQ):Option fQ:=
 match x1 with
 | (A,B,C,D,E,_)=>
 bif C != D then
  bif decide (C>D) then
   (cE E (w64 (A - C)) A D B).bind fun r2=>
   again (A,B,w64 (C - D),D,r2.1,())
  else
   (cE E (w64 (A - C)) (w64 ((w64 (A+D)) - C)) C B).bind fun r3=>
   again (A,B,C,w64 (D - C),r3.1,())
 else
  some (.inr (A,B,C,E,()))
def gV (a0:List aq) (a1:Int) (a2:Int) (a3:Int) (a4:Unit):Option ((List aq)×Unit):=
 aO (
  iter (X:=fN) (β:=fQ) (a2.natAbs+(Int.natAbs (w64 (a2 - a1))+(Int.natAbs (w64 (a3 - a2))+(a0.length+2)))) (a2,a4,w64 (a2 - a1),w64 (a3 - a2),a0,()) (fT)) fun (A,B,C,D,_)=>
 (cE D (w64 (A - C)) A C B).bind fun r5=>
 some (r5.1,())
abbrev eZ:Type:=Int×Unit×Int×Int×(List aq)×Unit
abbrev fh:Type:=(((List aq)×Unit) ⊕ (Int×Int×(List aq)×Unit))
def de (x1:eZ) (again:eZ→Option fh):Option fh:=
 match x1 with
 | (A,B,C,D,E,_)=>
 bif decide (C<D) then
  let n2:Int:=w64 (Int.fdiv (b8 (w64 (C+D))) (2 ^ 1))
  chk (decide (0≤n2)&&decide (n2<(E.length:Int))) <|
  (E[n2.toNat]?).bind fun y3=>
  chk (decide (0≤A)&&decide (A<(E.length:Int))) <|
  (E[A.toNat]?).bind fun y4=>
  (me y3 y4).bind fun r5=>
  bif decide (r5.1<0) then
   again (A,B,w64 (n2+1),D,E,())
  else
   again (A,B,C,n2,E,())
 else
  some (.inr (A,C,E,()))
abbrev fm:Type:=Int×Int×(List aq)×Unit
abbrev fe:Type:=(((List aq)×Unit) ⊕ ((List aq)×Unit))
def fk (x1:fm) (again:fm→Option fe):Option fe:=
 match x1 with
 | (A,B,C,_)=>
 bif decide (B<(w64 (A - 1))) then
  chk (decide (0≤(w64 (B+1)))&&decide ((w64 (B+1))<(C.length:Int))) <|
  (C[(w64 (B+1)).toNat]?).bind fun y2=>
  chk (decide (0≤B)&&decide (B<(C.length:Int))) <|
  (C[B.toNat]?).bind fun y3=>
  chk (decide (0≤B)&&decide (B<(C.length:Int))) <|
  (C[B.toNat]?).bind fun _=>
  chk (decide (0≤(w64 (B+1)))&&decide ((w64 (B+1))<(List.length (List.set C B.toNat y2):Int))) <|
  ((List.set C B.toNat y2)[(w64 (B+1)).toNat]?).bind fun _=>
  again (A,w64 (B+1),List.set (List.set C B.toNat y2) (w64 (B+1)).toNat y3,())
 else
  some (.inr (C,()))
abbrev eL:Type:=Int×Unit×Int×Int×(List aq)×Unit
abbrev eV:Type:=(((List aq)×Unit) ⊕ (Int×Int×(List aq)×Unit))
def cW (x1:eL) (again:eL→Option eV):Option eV:=
 match x1 with
 | (A,B,C,D,E,_)=>
 bif decide (C<D) then
  let n2:Int:=w64 (Int.fdiv (b8 (w64 (C+D))) (2 ^ 1))
  chk (decide (0≤A)&&decide (A<(E.length:Int))) <|
  (E[A.toNat]?).bind fun y3=>
  chk (decide (0≤n2)&&decide (n2<(E.length:Int))) <|
  (E[n2.toNat]?).bind fun y4=>
  (me y3 y4).bind fun r5=>
  bif !(decide (r5.1<0)) then
   again (A,B,w64 (n2+1),D,E,())
  else
   again (A,B,C,n2,E,())
 else
  some (.inr (A,C,E,()))
abbrev eG:Type:=Int×Int×(List aq)×Unit
abbrev eU:Type:=(((List aq)×Unit) ⊕ ((List aq)×Unit))
def eF (x1:eG) (again:eG→Option eU):Option eU:=
 match x1 with
 | (A,B,C,_)=>
 bif decide (B>A) then
  chk (decide (0≤(w64 (B - 1)))&&decide ((w64 (B - 1))<(C.length:Int))) <|
  (C[(w64 (B - 1)).toNat]?).bind fun y2=>
  chk (decide (0≤B)&&decide (B<(C.length:Int))) <|
  (C[B.toNat]?).bind fun y3=>
  chk (decide (0≤B)&&decide (B<(C.length:Int))) <|
  (C[B.toNat]?).bind fun _=>
  chk (decide (0≤(w64 (B - 1)))&&decide ((w64 (B - 1))<(List.length (List.set C B.toNat y2):Int))) <|
  ((List.set C B.toNat y2)[(w64 (B - 1)).toNat]?).bind fun _=>
  again (A,w64 (B - 1),List.set (List.set C B.toNat y2) (w64 (B - 1)).toNat y3,())
 else
  some (.inr (C,()))
abbrev eH:Type:=Int×Int×Int×Unit×Int×Int×Int×Int×Int×(List aq)×Unit
abbrev eM:Type:=(((List aq)×Unit) ⊕ (Int×Int×Int×Unit×Int×Int×Int×(List aq)×Unit))
def cU (x1:eH) (again:eH→Option eM):Option eM:=
 match x1 with
 | (A,B,C,D,E,F,G,H,I,J,_)=>
 bif decide (G<H) then
  let n2:Int:=w64 (Int.fdiv (b8 (w64 (G+H))) (2 ^ 1))
  chk (decide (0≤(w64 (I - n2)))&&decide ((w64 (I - n2))<(J.length:Int))) <|
  (J[(w64 (I - n2)).toNat]?).bind fun y3=>
  chk (decide (0≤n2)&&decide (n2<(J.length:Int))) <|
  (J[n2.toNat]?).bind fun y4=>
  (me y3 y4).bind fun r5=>
  bif !(decide (r5.1<0)) then
   again (A,B,C,D,E,F,w64 (n2+1),H,I,J,())
  else
   again (A,B,C,D,E,F,G,n2,I,J,())
 else
  some (.inr (A,B,C,D,E,F,G,J,()))
def cc (self:((List aq)×Int×Int×Int×Unit×Unit)→Option ((List aq)×Unit)) (a0:List aq) (a1:Int) (a2:Int) (a3:Int) (a4:Unit):Option ((List aq)×Unit):=
 bif (w64 (a2 - a1))==1 then
  aO (
   iter (X:=eZ) (β:=fh) (a1.natAbs+(a2.natAbs+(a3.natAbs+(a0.length+2)))) (a1,a4,a2,a3,a0,()) (de)) fun (A,B,C,_)=>
  aO (
   iter (X:=fm) (β:=fe) (B.natAbs+(A.natAbs+(C.length+2))) (B,A,C,()) (fk)) fun v12=>
  some (v12.1,())
 else
  bif (w64 (a3 - a2))==1 then
   aO (
    iter (X:=eL) (β:=eV) (a2.natAbs+(a1.natAbs+(a2.natAbs+(a0.length+2)))) (a2,a4,a1,a2,a0,()) (cW)) fun (D,E,F,_)=>
   aO (
    iter (X:=eG) (β:=eU) (E.natAbs+(D.natAbs+(F.length+2))) (E,D,F,()) (eF)) fun v24=>
   some (v24.1,())
  else
   let n25:Int:=w64 (Int.fdiv (b8 (w64 (a1+a3))) (2 ^ 1))
   aO (γ:=(Int×Int×Int×Unit×Int×Int×Int×Int×(List aq)×Unit)) (
    bif decide (a2>n25) then
     some (.inr (a1,a2,a3,a4,n25,w64 (n25+a2),w64 ((w64 (n25+a2)) - a3),n25,a0,()))
    else
     some (.inr (a1,a2,a3,a4,n25,w64 (n25+a2),a1,a2,a0,()))) fun (G,H,I,J,K,L,M,N,O,_)=>
   aO (
    iter (X:=eH) (β:=eM) (G.natAbs+(H.natAbs+(I.natAbs+(K.natAbs+(L.natAbs+(M.natAbs+(N.natAbs+(Int.natAbs (w64 (L - 1))+(O.length+2))))))))) (G,H,I,J,K,L,M,N,w64 (L - 1),O,()) (cU)) fun (P,Q,R,S,T,U,V,W,_)=>
   bif decide (V<Q) then
    aO (γ:=(Int×Int×Unit×Int×Int×Int×(List aq)×Unit)) (
     bif decide (Q<(w64 (U - V))) then
      (gV W V Q (w64 (U - V)) S).bind fun r33=>
      some (.inr (P,R,S,T,V,w64 (U - V),r33.1,()))
     else
      some (.inr (P,R,S,T,V,w64 (U - V),W,()))) fun (Y,Z,A0,B0,C0,D0,E0,_)=>
    bif decide (Y<C0) then
     aO (γ:=(Int×Unit×Int×Int×(List aq)×Unit)) (
      bif decide (C0<B0) then
       (self (E0,Y,C0,B0,A0,())).bind fun r35=>
       some (.inr (Z,A0,B0,D0,r35.1,()))
      else
       some (.inr (Z,A0,B0,D0,E0,()))) fun (F0,G0,H0,I0,J0,_)=>
     bif decide (H0<I0) then
      bif decide (I0<F0) then
       (self (J0,H0,I0,F0,G0,())).bind fun r37=>
       some (r37.1,())
      else
       some (J0,())
     else
      some (J0,())
    else
     aO (γ:=(Int×Unit×Int×Int×(List aq)×Unit)) (
      some (.inr (Z,A0,B0,D0,E0,()))) fun (K0,L0,M0,N0,O0,_)=>
     bif decide (M0<N0) then
      bif decide (N0<K0) then
       (self (O0,M0,N0,K0,L0,())).bind fun r39=>
       some (r39.1,())
      else
       some (O0,())
     else
      some (O0,())
   else
    aO (γ:=(Int×Int×Unit×Int×Int×Int×(List aq)×Unit)) (
     some (.inr (P,R,S,T,V,w64 (U - V),W,()))) fun (P0,Q0,R0,S0,T0,U0,V0,_)=>
    bif decide (P0<T0) then
     aO (γ:=(Int×Unit×Int×Int×(List aq)×Unit)) (
      bif decide (T0<S0) then
       (self (V0,P0,T0,S0,R0,())).bind fun r41=>
       some (.inr (Q0,R0,S0,U0,r41.1,()))
      else
       some (.inr (Q0,R0,S0,U0,V0,()))) fun (W0,X0,Y0,Z0,A1,_)=>
     bif decide (Y0<Z0) then
      bif decide (Z0<W0) then
       (self (A1,Y0,Z0,W0,X0,())).bind fun r43=>
       some (r43.1,())
      else
       some (A1,())
     else
      some (A1,())
    else
     aO (γ:=(Int×Unit×Int×Int×(List aq)×Unit)) (
      some (.inr (Q0,R0,S0,U0,V0,()))) fun (B1,C1,D1,E1,F1,_)=>
     bif decide (D1<E1) then
      bif decide (E1<B1) then
       (self (F1,D1,E1,B1,C1,())).bind fun r45=>
       some (r45.1,())
      else
       some (F1,())
     else
      some (F1,())
def iw (a0:List aq) (a1:Int) (a2:Int) (a3:Int) (_a4:Unit):Nat:=a0.length+(a1.natAbs+(a2.natAbs+(a3.natAbs+2)))
def dO (a0:List aq) (a1:Int) (a2:Int) (a3:Int) (a4:Unit):Option ((List aq)×Unit):=
 FI (fun self x=>cc self x.1 x.2.1 x.2.2.1 x.2.2.2.1 x.2.2.2.2.1) (iw a0 a1 a2 a3 a4) (a0,a1,a2,a3,a4,())
abbrev fZ:Type:=Int×Unit×Int×Int×Int×(List aq)×Unit
abbrev fO:Type:=(((List aq)×Unit) ⊕ (Int×Unit×Int×Int×(List aq)×Unit))
def fX (x1:fZ) (again:fZ→Option fO):Option fO:=
 match x1 with
 | (A,B,C,D,E,F,_)=>
 bif decide (E≤A) then
  (cS F D E B).bind fun r2=>
  again (A,B,C,E,w64 (E+C),r2.1,())
 else
  some (.inr (A,B,C,D,F,()))
abbrev fU:Type:=Int×Unit×Int×Int×Int×(List aq)×Unit
abbrev gj:Type:=((((List aq)×Unit) ⊕ ((List aq)×Unit)) ⊕ (Int×Unit×Int×Int×(List aq)×Unit))
def fP (x1:fU) (again:fU→Option gj):Option gj:=
 match x1 with
 | (A,B,C,D,E,F,_)=>
 bif decide (E≤A) then
  (dO F D (w64 (D+C)) E B).bind fun r2=>
  again (A,B,C,E,w64 (E+(w64 (2*C))),r2.1,())
 else
  some (.inr (A,B,C,D,F,()))
abbrev fL:Type:=Int×Unit×Int×(List aq)×Unit
abbrev fY:Type:=(((List aq)×Unit) ⊕ ((List aq)×Unit))
def gf (x1:fL) (again:fL→Option fY):Option fY:=
 match x1 with
 | (A,B,C,D,_)=>
 bif decide (C<A) then
  aO (
   iter (X:=fU) (β:=gj) (A.natAbs+(C.natAbs+(Int.natAbs (0:Int)+(Int.natAbs (w64 (2*C))+(D.length+2))))) (A,B,C,0,w64 (2*C),D,()) (fP)) fun (E,F,G,H,I,_)=>
  bif decide ((w64 (H+G))<E) then
   (dO I H (w64 (H+G)) E F).bind fun r3=>
   again (E,F,w64 (G*2),r3.1,())
  else
   again (E,F,w64 (G*2),I,())
 else
  some (.inr (D,()))
def ku (a0:List aq) (a1:Int) (a2:Unit):Option ((List aq)×Unit):=
 aO (
  iter (X:=fZ) (β:=fO) (a1.natAbs+(Int.natAbs (20:Int)+(Int.natAbs (0:Int)+(Int.natAbs (20:Int)+(a0.length+2))))) (a1,a2,20,0,20,a0,()) (fX)) fun (A,B,C,D,E,_)=>
 (cS E D A B).bind fun r4=>
 aO (
  iter (X:=fL) (β:=fY) (A.natAbs+(C.natAbs+(r4.1.length+2))) (A,B,C,r4.1,()) (gf)) fun v10=>
 some (v10.1,())
def dW (a0:List aq) (a1:Unit):Option ((List aq)×Unit):=
 (ku a0 ((a0.length:Int)) a1).bind fun r1=>
 some (r1.1,())
abbrev uC:Type:=(List Int)×Int×(List Int)×Int×Int×Int×Int×Unit
abbrev Cw:Type:=(((List aj)×Int×Unit) ⊕ ((List Int)×Int×Int×Int×Unit))
def vn (x1:uC) (again:uC→Option Cw):Option Cw:=
 match x1 with
 | (A,B,C,D,E,F,G,_)=>
 bif decide (E<D) then
  (idx C E).bind fun y2=>
  again (A,w64 (B+y2),C,D,w64 (E+1),F,G,())
 else
  some (.inr (A,B,F,G,()))
abbrev sG:Type:=Int×Int×Int×(List aq)×(List Int)×Int×Int×Int×Int×Unit
abbrev Aw:Type:=(((List aj)×Int×Unit) ⊕ (Int×(List aq)×Int×Int×Unit))
def sX (x1:sG) (again:sG→Option Aw):Option Aw:=
 match x1 with
 | (A,B,C,D,E,F,G,H,I,_)=>
 bif decide (G<F) then
  (idx E G).bind fun y2=>
  (bN B).bind fun r3=>
  (bN y2).bind fun r4=>
  (fM r3.1 r4.1).bind fun r5=>
  (bN A).bind fun r6=>
  (tC r5.1 r6.1).bind fun r7=>
  (oF r7.1 1000000000000000).bind fun r8=>
  chk (decide (((D.length)+1)*48≤140737488355328)&&decide ((D.length)+1≤maxLen)) <|
  again (A,B,w64 (C - r8.1),D++[(G,r8.1,r7.2.1)],E,F,w64 (G+1),H,I,())
 else
  some (.inr (C,D,H,I,()))
abbrev sF:Type:=Int×(List aq)×Int×Int×Int×Int×(List aj)×Unit
abbrev Ax:Type:=(((List aj)×Int×Unit) ⊕ ((List aj)×Unit))
def sP (x1:sF) (again:sF→Option Ax):Option Ax:=
 match x1 with
 | (A,B,C,D,E,F,G,_)=>
 bif decide (D<C) then
  chk (decide (0≤D)&&decide (D<(B.length:Int))) <|
  (B[D.toNat]?).bind fun y2=>
  aO (γ:=(Int×(List aq)×Int×Int×Int×Int×Int×Int×Bool×(List Int)×(List aj)×Unit)) (
   bif decide (D<A) then
    some (.inr (A,B,C,D,E,F,y2.1,w64 (y2.2.1+1),y2.2.2.1,y2.2.2.2,G,()))
   else
    some (.inr (A,B,C,D,E,F,y2.1,y2.2.1,y2.2.2.1,y2.2.2.2,G,()))) fun (H,I,J,K,L,M,N,O,P,Q,R,_)=>
  aO (γ:=(Int×(List aq)×Int×Int×Int×Int×Int×Int×Bool×(List Int)×(List aj)×Unit)) (
   bif decide (L<0) then
    some (.inr (H,I,J,K,L,M,N,w64 (0 - O),P,Q,R,()))
   else
    some (.inr (H,I,J,K,L,M,N,O,P,Q,R,()))) fun (S,T,U,V,W,X,Y,Z,_,_,A0,_)=>
  chk (decide (0≤Y)&&decide (Y<(A0.length:Int))) <|
  (A0[Y.toNat]?).bind fun _=>
  again (S,T,U,w64 (V+1),W,X,List.set A0 Y.toNat (Z,X),())
 else
  some (.inr (G,()))
def vw (a0:aj) (a1:List Int):Option ((List aj)×Int×Unit):=
 (cl a0).bind fun r1=>
 bif r1.1 != 0 then
  some ([],r1.1,())
 else
  (qh a1).bind fun r2=>
  bif r2.1 != 0 then
   some ([],r2.1,())
  else
   aO (
    iter (X:=uC) (β:=Cw) (a1.length+(Int.natAbs (0:Int)+(a1.length+(Int.natAbs ((a1.length:Int))+(Int.natAbs (0:Int)+(a0.1.natAbs+(a0.2.natAbs+2))))))) (a1,0,a1,(a1.length:Int),0,a0.1,a0.2,()) (vn)) fun (A,B,C,D,_)=>
   aO (
    iter (X:=sG) (β:=Aw) (B.natAbs+(Int.natAbs (if (w64 (0 - C))>C then (w64 (0 - C)) else C)+(Int.natAbs (if (w64 (0 - C))>C then (w64 (0 - C)) else C)+(List.length ([]:List aq)+(A.length+(Int.natAbs ((A.length:Int))+(Int.natAbs (0:Int)+(C.natAbs+(D.natAbs+2))))))))) (B,if (w64 (0 - C))>C then (w64 (0 - C)) else C,if (w64 (0 - C))>C then (w64 (0 - C)) else C,[],A,(A.length:Int),0,C,D,()) (sX)) fun (E,F,G,H,_)=>
   (dW F ()).bind fun r15=>
   chk (decide (0≤((r15.1.length:Int)))&&decide (((r15.1.length:Int))≤((r15.1.length:Int)))&&decide ((16:Int)*((r15.1.length:Int))≤281474976710656)&&decide (((r15.1.length:Int))≤9223372036854775807)) <|
   aO (
    iter (X:=sF) (β:=Ax) (E.natAbs+(r15.1.length+(Int.natAbs ((r15.1.length:Int))+(Int.natAbs (0:Int)+(G.natAbs+(H.natAbs+(List.length ((List.replicate (Int.toNat ((r15.1.length:Int))) (0,0):List (aj)):List aj)+2))))))) (E,r15.1,(r15.1.length:Int),0,G,H,(List.replicate (Int.toNat ((r15.1.length:Int))) (0,0):List (aj)),()) (sP)) fun v21=>
   some (v21.1,0,())
abbrev lW:Type:=(List Int)×Bool×(List aa)×Int×Int×Bool×(List Int)×Bys×Bys×Int×Int×Int×Bool×(List aB)×(List au)×(List ax)×(List aa)×(List aa)×(List aa)×(List bg)×(List aa)×(List Bool)×(List aa)×Unit
abbrev vk:Type:=((Int×(ah×(List aa)×(List aa)×(List aa)×(List bg)×(List aa)×(List Bool)×(List aa)×Unit)×Unit) ⊕ ((List Int)×Bool×Bool×(List Int)×Bys×Bys×Int×Int×Int×Bool×(List aB)×(List au)×(List ax)×(List aa)×(List aa)×(List aa)×(List bg)×(List aa)×(List Bool)×(List aa)×Unit))
def oP (x1:lW) (again:lW→Option vk):Option vk:=
 match x1 with
 | (A,B,C,D,E,F,G,H,I,J,K,L,M,N,O,P,Q,R,S,T,U,V,W,_)=>
 bif decide (E<D) then
  (idx C E).bind fun y2=>
  (BP y2).bind fun r3=>
  (oF r3.1 1000000000000000).bind fun r4=>
  chk (decide (((A.length)+1)*8≤140737488355328)&&decide ((A.length)+1≤maxLen)) <|
  bif B then
   again (A++[r4.1],true,C,D,w64 (E+1),F,G,H,I,J,K,L,M,N,O,P,Q,R,S,T,U,V,W,())
  else
   again (A++[r4.1],decide (r4.1>0),C,D,w64 (E+1),F,G,H,I,J,K,L,M,N,O,P,Q,R,S,T,U,V,W,())
 else
  some (.inr (A,B,F,G,H,I,J,K,L,M,N,O,P,Q,R,S,T,U,V,W,()))
abbrev jb:Type:=(List aj)×Int×Int×Bys×Bys×Int×Int×Int×Bool×(List aB)×(List au)×(List ax)×(List aa)×(List aa)×(List aa)×(List bg)×(List aa)×(List Bool)×(List aa)×Unit
abbrev oc:Type:=((Int×(ah×(List aa)×(List aa)×(List aa)×(List bg)×(List aa)×(List Bool)×(List aa)×Unit)×Unit) ⊕ (Bys×Bys×Int×Int×Int×Bool×(List aB)×(List au)×(List ax)×(List aa)×(List aa)×(List aa)×(List bg)×(List aa)×(List Bool)×(List aa)×Unit))
def k9 (x1:jb) (again:jb→Option oc):Option oc:=
 match x1 with
 | (A,B,C,D,E,F,G,H,I,J,K,L,M,N,O,P,Q,R,S,_)=>
 bif decide (C<B) then
  (idx A C).bind fun y2=>
  bif y2.1 != 0 then
   (bN y2.1).bind fun r3=>
   (gm ((D,E,F,G,H,I,J,K,L),M,N,O,P,Q,R,S,()) C r3.1).bind fun r4=>
   chk (decide (0≤C)&&decide (C<(r4.1.2.2.2.2.2.2.1.length:Int))) <|
   (r4.1.2.2.2.2.2.2.1[C.toNat]?).bind fun _=>
   again (A,B,w64 (C+1),r4.1.1.1,r4.1.1.2.1,r4.1.1.2.2.1,r4.1.1.2.2.2.1,r4.1.1.2.2.2.2.1,r4.1.1.2.2.2.2.2.1,r4.1.1.2.2.2.2.2.2.1,r4.1.1.2.2.2.2.2.2.2.1,r4.1.1.2.2.2.2.2.2.2.2,r4.1.2.1,r4.1.2.2.1,r4.1.2.2.2.1,r4.1.2.2.2.2.1,r4.1.2.2.2.2.2.1,List.set r4.1.2.2.2.2.2.2.1 C.toNat true,r4.1.2.2.2.2.2.2.2.1,())
  else
   again (A,B,w64 (C+1),D,E,F,G,H,I,J,K,L,M,N,O,P,Q,R,S,())
 else
  some (.inr (D,E,F,G,H,I,J,K,L,M,N,O,P,Q,R,S,()))
def iH (a0:ah×(List aa)×(List aa)×(List aa)×(List bg)×(List aa)×(List Bool)×(List aa)×Unit) (a1:aa):Option (Int×(ah×(List aa)×(List aa)×(List aa)×(List bg)×(List aa)×(List Bool)×(List aa)×Unit)×Unit):=
 aO (
  iter (X:=lW) (β:=vk) (List.length ([]:List Int)+(a0.2.2.1.length+(Int.natAbs ((a0.2.2.1.length:Int))+(Int.natAbs (0:Int)+(a1.2.length+(a0.1.1.length+(a0.1.2.1.length+(a0.1.2.2.1.natAbs+(a0.1.2.2.2.1.natAbs+(a0.1.2.2.2.2.1.natAbs+(a0.1.2.2.2.2.2.2.1.length+(a0.1.2.2.2.2.2.2.2.1.length+(a0.1.2.2.2.2.2.2.2.2.length+(a0.2.2.1.length+(a0.2.1.length+(a0.2.2.2.1.length+(a0.2.2.2.2.1.length+(a0.2.2.2.2.2.1.length+(a0.2.2.2.2.2.2.1.length+(a0.2.2.2.2.2.2.2.1.length+2)))))))))))))))))))) ([],false,a0.2.2.1,(a0.2.2.1.length:Int),0,a1.1,a1.2,a0.1.1,a0.1.2.1,a0.1.2.2.1,a0.1.2.2.2.1,a0.1.2.2.2.2.1,a0.1.2.2.2.2.2.1,a0.1.2.2.2.2.2.2.1,a0.1.2.2.2.2.2.2.2.1,a0.1.2.2.2.2.2.2.2.2,a0.2.2.1,a0.2.1,a0.2.2.2.1,a0.2.2.2.2.1,a0.2.2.2.2.2.1,a0.2.2.2.2.2.2.1,a0.2.2.2.2.2.2.2.1,()) (oP)) fun (A,B,C,D,E,F,G,H,I,J,K,L,M,N,O,P,Q,R,S,T,_)=>
 bif !B then
  (gm ((E,F,G,H,I,J,K,L,M),O,N,P,Q,R,S,T,()) 0 (C,D)).bind fun r6=>
  chk (decide (0≤(0:Int))&&decide ((0:Int)<(r6.1.2.2.2.2.2.2.1.length:Int))) <|
  (r6.1.2.2.2.2.2.2.1[0]?).bind fun y7=>
  bif y7 then
   chk (decide (0≤(0:Int))&&decide ((0:Int)<(r6.1.2.2.2.2.2.2.1.length:Int))) <|
   (r6.1.2.2.2.2.2.2.1[0]?).bind fun _=>
   some (0,(r6.1.1,r6.1.2.1,r6.1.2.2.1,r6.1.2.2.2.1,r6.1.2.2.2.2.1,r6.1.2.2.2.2.2.1,List.set r6.1.2.2.2.2.2.2.1 0 true,r6.1.2.2.2.2.2.2.2.1,()),())
  else
   (aS (C,D)).bind fun r9=>
   chk (decide (0≤(0:Int))&&decide ((0:Int)<(r6.1.2.2.2.2.2.2.1.length:Int))) <|
   (r6.1.2.2.2.2.2.2.1[0]?).bind fun _=>
   some (0,(r6.1.1,r6.1.2.1,r6.1.2.2.1,r6.1.2.2.2.1,r6.1.2.2.2.2.1,r6.1.2.2.2.2.2.1,List.set r6.1.2.2.2.2.2.2.1 0 (r9.1 != 0),r6.1.2.2.2.2.2.2.2.1,()),())
 else
  (jE A ()).bind fun r11=>
  bif r11.1 then
   some (2,((E,F,G,H,I,J,K,L,M),O,N,P,Q,R,S,T,()),())
  else
   (rP (C,D) H).bind fun r12=>
   (vw r12.1 A).bind fun r13=>
   bif r13.2.1 != 0 then
    some (r13.2.1,((E,F,G,H,I,J,K,L,M),O,N,P,Q,R,S,T,()),())
   else
    aO (
     iter (X:=jb) (β:=oc) (r13.1.length+(Int.natAbs ((r13.1.length:Int))+(Int.natAbs (0:Int)+(E.length+(F.length+(G.natAbs+(H.natAbs+(I.natAbs+(K.length+(L.length+(M.length+(O.length+(N.length+(P.length+(Q.length+(R.length+(S.length+(T.length+2)))))))))))))))))) (r13.1,(r13.1.length:Int),0,E,F,G,H,I,J,K,L,M,O,N,P,Q,R,S,T,()) (k9)) fun (U,V,W,Y,Z,A0,B0,C0,D0,E0,F0,G0,H0,I0,J0,K0,_)=>
    some (0,((U,V,W,Y,Z,A0,B0,C0,D0),E0,F0,G0,H0,I0,J0,K0,()),())
abbrev mU:Type:=Int×Bool×(List aa)×Int×Int×Bool×Int×Int×Bys×Bool×(List Int)×Bys×Bys×Int×Int×Int×Bool×(List aB)×(List au)×(List ax)×(List aa)×(List aa)×(List aa)×(List bg)×(List aa)×(List Bool)×(List aa)×Unit
abbrev wz:Type:=(((Int×(ah×(List aa)×(List aa)×(List aa)×(List bg)×(List aa)×(List Bool)×(List aa)×Unit)×Unit) ⊕ (Int×Bool×Bool×Int×Int×Bys×Bool×(List Int)×Bys×Bys×Int×Int×Int×Bool×(List aB)×(List au)×(List ax)×(List aa)×(List aa)×(List aa)×(List bg)×(List aa)×(List Bool)×(List aa)×Unit)) ⊕ (Int×Bool×Bool×Int×Int×Bys×Bool×(List Int)×Bys×Bys×Int×Int×Int×Bool×(List aB)×(List au)×(List ax)×(List aa)×(List aa)×(List aa)×(List bg)×(List aa)×(List Bool)×(List aa)×Unit))
def p9 (x1:mU) (again:mU→Option wz):Option wz:=
 match x1 with
 | (A,B,C,D,E,F,G,H,I,J,K,L,M,N,O,P,Q,R,S,T,U,V,W,X,Y,Z,A0,_)=>
 bif decide (E<D) then
  (idx C E).bind fun y2=>
  (bC (J,K) y2).bind fun r3=>
  again (A,B,C,D,w64 (E+1),F,G,H,I,r3.1.1,r3.1.2,L,M,N,O,P,Q,R,S,T,U,V,W,X,Y,Z,A0,())
 else
  some (.inr (A,B,F,G,H,I,J,K,L,M,N,O,P,Q,R,S,T,U,V,W,X,Y,Z,A0,()))
def nj (a0:ah×(List aa)×(List aa)×(List aa)×(List bg)×(List aa)×(List Bool)×(List aa)×Unit) (a1:ax):Option (Int×(ah×(List aa)×(List aa)×(List aa)×(List bg)×(List aa)×(List Bool)×(List aa)×Unit)×Unit):=
 (bN 0).bind fun r1=>
 (si a0.1.2.2.2.2.2.2.1 a1.2.2).bind fun r2=>
 aO (γ:=(Int×Bool×Bool×Int×Int×Bys×Bool×(List Int)×Bys×Bys×Int×Int×Int×Bool×(List aB)×(List au)×(List ax)×(List aa)×(List aa)×(List aa)×(List bg)×(List aa)×(List Bool)×(List aa)×Unit)) (
  bif r2.2.1 then
   (idx a0.2.2.1 r2.1).bind fun y3=>
   some (.inr (r2.1,r2.2.1,a1.1,a1.2.1.1,a1.2.1.2,a1.2.2,y3.1,y3.2,a0.1.1,a0.1.2.1,a0.1.2.2.1,a0.1.2.2.2.1,a0.1.2.2.2.2.1,a0.1.2.2.2.2.2.1,a0.1.2.2.2.2.2.2.1,a0.1.2.2.2.2.2.2.2.1,a0.1.2.2.2.2.2.2.2.2,a0.2.2.1,a0.2.1,a0.2.2.2.1,a0.2.2.2.2.1,a0.2.2.2.2.2.1,a0.2.2.2.2.2.2.1,a0.2.2.2.2.2.2.2.1,()))
  else
   aO (
    iter (X:=mU) (β:=wz) (r2.1.natAbs+(a0.2.2.1.length+(Int.natAbs ((a0.2.2.1.length:Int))+(Int.natAbs (0:Int)+(a1.2.1.1.natAbs+(a1.2.1.2.natAbs+(a1.2.2.length+(r1.1.2.length+(a0.1.1.length+(a0.1.2.1.length+(a0.1.2.2.1.natAbs+(a0.1.2.2.2.1.natAbs+(a0.1.2.2.2.2.1.natAbs+(a0.1.2.2.2.2.2.2.1.length+(a0.1.2.2.2.2.2.2.2.1.length+(a0.1.2.2.2.2.2.2.2.2.length+(a0.2.2.1.length+(a0.2.1.length+(a0.2.2.2.1.length+(a0.2.2.2.2.1.length+(a0.2.2.2.2.2.1.length+(a0.2.2.2.2.2.2.1.length+(a0.2.2.2.2.2.2.2.1.length+2))))))))))))))))))))))) (r2.1,r2.2.1,a0.2.2.1,(a0.2.2.1.length:Int),0,a1.1,a1.2.1.1,a1.2.1.2,a1.2.2,r1.1.1,r1.1.2,a0.1.1,a0.1.2.1,a0.1.2.2.1,a0.1.2.2.2.1,a0.1.2.2.2.2.1,a0.1.2.2.2.2.2.1,a0.1.2.2.2.2.2.2.1,a0.1.2.2.2.2.2.2.2.1,a0.1.2.2.2.2.2.2.2.2,a0.2.2.1,a0.2.1,a0.2.2.2.1,a0.2.2.2.2.1,a0.2.2.2.2.2.1,a0.2.2.2.2.2.2.1,a0.2.2.2.2.2.2.2.1,()) (p9)) fun (Y,Z,A0,B0,C0,D0,E0,F0,G0,H0,I0,J0,K0,L0,M0,N0,O0,P0,Q0,R0,S0,T0,U0,V0,_)=>
   some (.inr (Y,Z,A0,B0,C0,D0,E0,F0,G0,H0,I0,J0,K0,L0,M0,N0,O0,P0,Q0,R0,S0,T0,U0,V0,()))) fun (A,B,C,D,E,_,F,G,H,I,J,K,L,M,N,O,P,Q,R,S,T,U,V,W,_)=>
 (ou (D,E) (if E>K then E else K)).bind fun r9=>
 aO (γ:=(Int×Bool×Bool×(List Int)×Bys×Bys×Int×Int×Int×Bool×(List aB)×(List au)×(List ax)×(List aa)×(List aa)×(List aa)×(List bg)×(List aa)×(List Bool)×(List aa)×Unit)) (
  bif C then
   (rj (H,I,J,K,L,M,N,O,P) (F,G) (D,E)).bind fun r10=>
   some (.inr (A,B,r10.1.1,r10.1.2,H,I,J,K,L,M,N,O,P,Q,R,S,T,U,V,W,()))
  else
   some (.inr (A,B,r9.1.1,r9.1.2,H,I,J,K,L,M,N,O,P,Q,R,S,T,U,V,W,()))) fun (W0,X0,Y0,Z0,A1,B1,C1,D1,E1,F1,G1,H1,I1,J1,K1,L1,M1,N1,O1,P1,_)=>
 (ke (Y0,Z0)).bind fun r12=>
 bif !r12.1 then
  some (1,((A1,B1,C1,D1,E1,F1,G1,H1,I1),K1,J1,L1,M1,N1,O1,P1,()),())
 else
  chk (decide (((N1.length)+1)*32≤140737488355328)&&decide ((N1.length)+1≤maxLen)) <|
  bif X0 then
   (gm ((A1,B1,C1,D1,E1,F1,G1,H1,I1),K1,J1,L1,M1,N1++[(Y0,Z0)],O1,P1,()) W0 (Y0,Z0)).bind fun r13=>
   chk (decide (0≤W0)&&decide (W0<(r13.1.2.2.2.2.2.2.1.length:Int))) <|
   (r13.1.2.2.2.2.2.2.1[W0.toNat]?).bind fun _=>
   (b6 r13.1.2.2.2.1 ()).bind fun r15=>
   bif r15.1 then
    some (1,(r13.1.1,r13.1.2.1,r13.1.2.2.1,r13.1.2.2.2.1,r13.1.2.2.2.2.1,r13.1.2.2.2.2.2.1,List.set r13.1.2.2.2.2.2.2.1 W0.toNat true,r13.1.2.2.2.2.2.2.2.1,()),())
   else
    some (0,(r13.1.1,r13.1.2.1,r13.1.2.2.1,r13.1.2.2.2.1,r13.1.2.2.2.2.1,r13.1.2.2.2.2.2.1,List.set r13.1.2.2.2.2.2.2.1 W0.toNat true,r13.1.2.2.2.2.2.2.2.1,()),())
  else
   (iH ((A1,B1,C1,D1,E1,F1,G1,H1,I1),K1,J1,L1,M1,N1++[(Y0,Z0)],O1,P1,()) (Y0,Z0)).bind fun r16=>
   bif r16.1 != 0 then
    some (r16.1,(r16.2.1.1,r16.2.1.2.1,r16.2.1.2.2.1,r16.2.1.2.2.2.1,r16.2.1.2.2.2.2.1,r16.2.1.2.2.2.2.2.1,r16.2.1.2.2.2.2.2.2.1,r16.2.1.2.2.2.2.2.2.2.1,()),())
   else
    (b6 r16.2.1.2.2.2.1 ()).bind fun r17=>
    bif r17.1 then
     some (1,(r16.2.1.1,r16.2.1.2.1,r16.2.1.2.2.1,r16.2.1.2.2.2.1,r16.2.1.2.2.2.2.1,r16.2.1.2.2.2.2.2.1,r16.2.1.2.2.2.2.2.2.1,r16.2.1.2.2.2.2.2.2.2.1,()),())
    else
     some (0,(r16.2.1.1,r16.2.1.2.1,r16.2.1.2.2.1,r16.2.1.2.2.2.1,r16.2.1.2.2.2.2.1,r16.2.1.2.2.2.2.2.1,r16.2.1.2.2.2.2.2.2.1,r16.2.1.2.2.2.2.2.2.2.1,()),())
abbrev oI:Type:=(List aB)×Int×Int×Bys×Bys×Int×Int×Int×Bool×(List aB)×(List au)×(List ax)×(List aa)×(List aa)×(List aa)×(List aa)×(List bg)×(List aa)×(List Bool)×Unit
abbrev zT:Type:=((Int×(ah×(List aa)×(List aa)×(List aa)×(List bg)×(List aa)×(List Bool)×(List aa)×Unit)×Unit) ⊕ (Bys×Bys×Int×Int×Int×Bool×(List aB)×(List au)×(List ax)×(List aa)×(List aa)×(List aa)×(List aa)×(List bg)×(List aa)×(List Bool)×Unit))
def sC (x1:oI) (again:oI→Option zT):Option zT:=
 match x1 with
 | (A,B,C,D,E,F,G,H,I,J,K,L,M,N,O,P,Q,R,S,_)=>
 bif decide (C<B) then
  (idx A C).bind fun y2=>
  bif !I then
   chk (decide (0≤C)&&decide (C<(P.length:Int))) <|
   (P[C.toNat]?).bind fun y3=>
   (rj (D,E,F,G,H,I,J,K,L) y3 y2.2).bind fun r4=>
   chk (decide (0≤C)&&decide (C<(N.length:Int))) <|
   (N[C.toNat]?).bind fun _=>
   again (A,B,w64 (C+1),D,E,F,G,H,I,J,K,L,M,List.set N C.toNat r4.1,O,P,Q,R,S,())
  else
   again (A,B,w64 (C+1),D,E,F,G,H,I,J,K,L,M,N,O,P,Q,R,S,())
 else
  some (.inr (D,E,F,G,H,I,J,K,L,M,N,O,P,Q,R,S,()))
abbrev oG:Type:=Int×Int×Bys×Bys×Int×Int×Int×Bool×(List aB)×(List au)×(List ax)×(List aa)×(List aa)×(List aa)×(List aa)×(List bg)×(List aa)×(List Bool)×Unit
abbrev Av:Type:=((Int×(ah×(List aa)×(List aa)×(List aa)×(List bg)×(List aa)×(List Bool)×(List aa)×Unit)×Unit) ⊕ (Bys×Bys×Int×Int×Int×Bool×(List aB)×(List au)×(List ax)×(List aa)×(List aa)×(List aa)×(List aa)×(List bg)×(List aa)×(List Bool)×Unit))
def sM (x1:oG) (again:oG→Option Av):Option Av:=
 match x1 with
 | (A,B,C,D,E,F,G,H,I,J,K,L,M,N,O,P,Q,R,_)=>
 bif decide (B<A) then
  chk (decide (0≤B)&&decide (B<(P.length:Int))) <|
  (P[B.toNat]?).bind fun y2=>
  bif H then
   chk (decide (0≤y2.1)&&decide (y2.1<(M.length:Int))) <|
   (M[y2.1.toNat]?).bind fun y3=>
   (idx I y2.1).bind fun y4=>
   (rj (C,D,E,F,G,H,I,J,K) y2.2 y4.2).bind fun r5=>
   (bC y3 r5.1).bind fun r6=>
   chk (decide (0≤y2.1)&&decide (y2.1<(M.length:Int))) <|
   (M[y2.1.toNat]?).bind fun _=>
   again (A,w64 (B+1),C,D,E,F,G,H,I,J,K,L,List.set M y2.1.toNat r6.1,N,O,P,Q,R,())
  else
   again (A,w64 (B+1),C,D,E,F,G,H,I,J,K,L,M,N,O,P,Q,R,())
 else
  some (.inr (C,D,E,F,G,H,I,J,K,L,M,N,O,P,Q,R,()))
def zI (a0:ah×(List aa)×(List aa)×(List aa)×(List bg)×(List aa)×(List Bool)×(List aa)×Unit):Option (Int×(ah×(List aa)×(List aa)×(List aa)×(List bg)×(List aa)×(List Bool)×(List aa)×Unit)×Unit):=
 chk (decide (0≤((a0.2.2.2.1.length:Int)))&&decide (((a0.2.2.2.1.length:Int))≤((a0.2.2.2.1.length:Int)))&&decide ((32:Int)*((a0.2.2.2.1.length:Int))≤281474976710656)&&decide (((a0.2.2.2.1.length:Int))≤9223372036854775807)) <|
 aO (
  iter (X:=oI) (β:=zT) (a0.1.2.2.2.2.2.2.1.length+(Int.natAbs ((a0.1.2.2.2.2.2.2.1.length:Int))+(Int.natAbs (0:Int)+(a0.1.1.length+(a0.1.2.1.length+(a0.1.2.2.1.natAbs+(a0.1.2.2.2.1.natAbs+(a0.1.2.2.2.2.1.natAbs+(a0.1.2.2.2.2.2.2.1.length+(a0.1.2.2.2.2.2.2.2.1.length+(a0.1.2.2.2.2.2.2.2.2.length+(a0.2.2.1.length+(List.length ((List.replicate (Int.toNat ((a0.2.2.2.1.length:Int))) (false,[]):List (aa)):List aa)+(a0.2.1.length+(a0.2.2.2.1.length+(a0.2.2.2.2.1.length+(a0.2.2.2.2.2.1.length+(a0.2.2.2.2.2.2.1.length+2)))))))))))))))))) (a0.1.2.2.2.2.2.2.1,(a0.1.2.2.2.2.2.2.1.length:Int),0,a0.1.1,a0.1.2.1,a0.1.2.2.1,a0.1.2.2.2.1,a0.1.2.2.2.2.1,a0.1.2.2.2.2.2.1,a0.1.2.2.2.2.2.2.1,a0.1.2.2.2.2.2.2.2.1,a0.1.2.2.2.2.2.2.2.2,a0.2.2.1,(List.replicate (Int.toNat ((a0.2.2.2.1.length:Int))) (false,[]):List (aa)),a0.2.1,a0.2.2.2.1,a0.2.2.2.2.1,a0.2.2.2.2.2.1,a0.2.2.2.2.2.2.1,()) (sC)) fun (A,B,C,D,E,F,G,H,I,J,K,L,M,N,O,P,_)=>
 aO (
  iter (X:=oG) (β:=Av) (Int.natAbs ((N.length:Int))+(Int.natAbs (0:Int)+(A.length+(B.length+(C.natAbs+(D.natAbs+(E.natAbs+(G.length+(H.length+(I.length+(J.length+(K.length+(L.length+(M.length+(N.length+(O.length+(P.length+2))))))))))))))))) ((N.length:Int),0,A,B,C,D,E,F,G,H,I,J,K,L,M,N,O,P,()) (sM)) fun (Q,R,S,T,U,V,W,Y,Z,A0,B0,C0,D0,E0,F0,G0,_)=>
 (iD B0 ()).bind fun r15=>
 bif r15.1 then
  some (1,((Q,R,S,T,U,V,W,Y,Z),C0,A0,D0,E0,F0,G0,B0,()),())
 else
  some (0,((Q,R,S,T,U,V,W,Y,Z),C0,A0,D0,E0,F0,G0,B0,()),())
abbrev mg:Type:=(List ax)×Int×Int×Bys×Bys×Int×Int×Int×Bool×(List aB)×(List au)×(List ax)×(List aa)×(List aa)×(List aa)×(List bg)×(List aa)×(List Bool)×(List aa)×(List bZ)×Unit
abbrev Aa:Type:=(((Option Nat)×Int×(List bZ)×Unit) ⊕ (Bys×Bys×Int×Int×Int×Bool×(List aB)×(List au)×(List ax)×(List aa)×(List aa)×(List aa)×(List bg)×(List aa)×(List Bool)×(List aa)×(List bZ)×Unit))
def oJ (x1:mg) (again:mg→Option Aa):Option Aa:=
 match x1 with
 | (A,B,C,D,E,F,G,H,I,J,K,L,M,N,O,P,Q,R,S,T,_)=>
 bif decide (C<B) then
  (idx A C).bind fun y2=>
  (nj ((D,E,F,G,H,I,J,K,L),M,N,O,P,Q,R,S,()) y2).bind fun r3=>
  bif r3.1 != 0 then
   some (.inl (none,r3.1,T,()))
  else
   again (A,B,w64 (C+1),r3.2.1.1.1,r3.2.1.1.2.1,r3.2.1.1.2.2.1,r3.2.1.1.2.2.2.1,r3.2.1.1.2.2.2.2.1,r3.2.1.1.2.2.2.2.2.1,r3.2.1.1.2.2.2.2.2.2.1,r3.2.1.1.2.2.2.2.2.2.2.1,r3.2.1.1.2.2.2.2.2.2.2.2,r3.2.1.2.1,r3.2.1.2.2.1,r3.2.1.2.2.2.1,r3.2.1.2.2.2.2.1,r3.2.1.2.2.2.2.2.1,r3.2.1.2.2.2.2.2.2.1,r3.2.1.2.2.2.2.2.2.2.1,T,())
 else
  some (.inr (D,E,F,G,H,I,J,K,L,M,N,O,P,Q,R,S,T,()))
def m7 (a0:ah) (a1:List bZ):Option ((Option Nat)×Int×(List bZ)×Unit):=
 (mh a0).bind fun r1=>
 bif r1.1 != 0 then
  some (none,r1.1,a1,())
 else
  (nW (a0,[],[],[],[],[],[],[],())).bind fun r2=>
  bif r2.1 != 0 then
   some (none,r2.1,a1,())
  else
   aO (
    iter (X:=mg) (β:=Aa) (a0.2.2.2.2.2.2.2.2.length+(Int.natAbs ((a0.2.2.2.2.2.2.2.2.length:Int))+(Int.natAbs (0:Int)+(r2.2.1.1.1.length+(r2.2.1.1.2.1.length+(r2.2.1.1.2.2.1.natAbs+(r2.2.1.1.2.2.2.1.natAbs+(r2.2.1.1.2.2.2.2.1.natAbs+(r2.2.1.1.2.2.2.2.2.2.1.length+(r2.2.1.1.2.2.2.2.2.2.2.1.length+(r2.2.1.1.2.2.2.2.2.2.2.2.length+(r2.2.1.2.1.length+(r2.2.1.2.2.1.length+(r2.2.1.2.2.2.1.length+(r2.2.1.2.2.2.2.1.length+(r2.2.1.2.2.2.2.2.1.length+(r2.2.1.2.2.2.2.2.2.1.length+(r2.2.1.2.2.2.2.2.2.2.1.length+(a1.length+2))))))))))))))))))) (a0.2.2.2.2.2.2.2.2,(a0.2.2.2.2.2.2.2.2.length:Int),0,r2.2.1.1.1,r2.2.1.1.2.1,r2.2.1.1.2.2.1,r2.2.1.1.2.2.2.1,r2.2.1.1.2.2.2.2.1,r2.2.1.1.2.2.2.2.2.1,r2.2.1.1.2.2.2.2.2.2.1,r2.2.1.1.2.2.2.2.2.2.2.1,r2.2.1.1.2.2.2.2.2.2.2.2,r2.2.1.2.1,r2.2.1.2.2.1,r2.2.1.2.2.2.1,r2.2.1.2.2.2.2.1,r2.2.1.2.2.2.2.2.1,r2.2.1.2.2.2.2.2.2.1,r2.2.1.2.2.2.2.2.2.2.1,a1,()) (oJ)) fun (A,B,C,D,E,F,G,H,I,J,K,L,M,N,O,P,Q,_)=>
   (zI ((A,B,C,D,E,F,G,H,I),J,K,L,M,N,O,P,())).bind fun r7=>
   bif r7.1 != 0 then
    some (none,r7.1,Q,())
   else
    some (some (Q.length),0,Q++[(r7.2.1.1,r7.2.1.2.1,r7.2.1.2.2.1,r7.2.1.2.2.2.1,r7.2.1.2.2.2.2.1,r7.2.1.2.2.2.2.2.1,r7.2.1.2.2.2.2.2.2.1,r7.2.1.2.2.2.2.2.2.2.1)],())
abbrev AL:Type:=(List aa)×Int×Int×Bool×(List Int)×Bool×(List Int)×Unit
abbrev Mq:Type:=((aa×Unit) ⊕ (Bool×(List Int)×Bool×(List Int)×Unit))
def Gn (x1:AL) (again:AL→Option Mq):Option Mq:=
 match x1 with
 | (A,B,C,D,E,F,G,_)=>
 bif decide (C<B) then
  (idx A C).bind fun y2=>
  (bC (F,G) y2).bind fun r3=>
  again (A,B,w64 (C+1),D,E,r3.1.1,r3.1.2,())
 else
  some (.inr (D,E,F,G,()))
def Fq (a0:List aa):Option (aa×Unit):=
 (bN 0).bind fun r1=>
 aO (
  iter (X:=AL) (β:=Mq) (a0.length+(Int.natAbs ((a0.length:Int))+(Int.natAbs (0:Int)+(List.length ([]:List Int)+(r1.1.2.length+2))))) (a0,(a0.length:Int),0,false,[],r1.1.1,r1.1.2,()) (Gn)) fun v5=>
 some ((v5.2.2.1,v5.2.2.2.1),())
def gW (a0:Option Nat) (a1:aa) (a2:List bZ):Option (aj×Unit):=
 (a0).bind fun h1=>
 (a2[h1]?).bind fun y2=>
 (rP a1 y2.1.2.2.2.1).bind fun r3=>
 some (r3.1,())
def sS (a0:Option Nat) (a1:List bZ):Option (bP×Int×Unit):=
 (a0).bind fun h1=>
 (a1[h1]?).bind fun y2=>
 (Fq y2.2.1).bind fun r3=>
 (a0).bind fun h4=>
 (a1[h4]?).bind fun y5=>
 (Fq y5.2.2.2.2.2.1).bind fun r6=>
 (a0).bind fun h7=>
 (a1[h7]?).bind fun y8=>
 (Fq y8.2.2.2.2.2.2.2).bind fun r9=>
 (bC r3.1 r6.1).bind fun r10=>
 (bC r10.1 r9.1).bind fun r11=>
 (iE [r3.1,r6.1,r10.1,r9.1,r11.1] ()).bind fun r12=>
 bif r12.1 then
  some (((0,0),(0,0),(0,0),(0,0),0,0),1,())
 else
  (gW a0 r3.1 a1).bind fun r13=>
  (gW a0 r6.1 a1).bind fun r14=>
  (gW a0 r10.1 a1).bind fun r15=>
  (gW a0 r9.1 a1).bind fun r16=>
  (gW a0 r11.1 a1).bind fun r17=>
  some ((r13.1,r14.1,r15.1,r16.1,r17.1),0,())
abbrev nM:Type:=(Option Nat)×(List ak)×(List aB)×Int×Int×(List bZ)×Unit
abbrev xJ:Type:=(((List ak)×Unit) ⊕ ((List ak)×(List bZ)×Unit))
def rE (x1:nM) (again:nM→Option xJ):Option xJ:=
 match x1 with
 | (A,B,C,D,E,F,_)=>
 bif decide (E<D) then
  (idx C E).bind fun y2=>
  (A).bind fun h3=>
  (F[h3]?).bind fun y4=>
  (idx y4.2.2.2.2.2.2.1 E).bind fun y5=>
  bif y5 then
   (A).bind fun h6=>
   (F[h6]?).bind fun y7=>
   (idx y7.2.2.2.1 E).bind fun y8=>
   (gW A y8 F).bind fun r9=>
   (A).bind fun h10=>
   (F[h10]?).bind fun y11=>
   (idx y11.2.2.2.2.2.2.2 E).bind fun y12=>
   (gW A y12 F).bind fun r13=>
   chk (decide (((B.length)+1)*48≤140737488355328)&&decide ((B.length)+1≤maxLen)) <|
   again (A,B++[(y2.1,r9.1,r13.1)],C,D,w64 (E+1),F,())
  else
   again (A,B,C,D,w64 (E+1),F,())
 else
  some (.inr (B,F,()))
def wS (a0:Option Nat) (a1:List bZ):Option ((List ak)×Unit):=
 (a0).bind fun h1=>
 (a1[h1]?).bind fun y2=>
 aO (
  iter (X:=nM) (β:=xJ) (List.length ([]:List ak)+(y2.1.2.2.2.2.2.2.1.length+(Int.natAbs ((y2.1.2.2.2.2.2.2.1.length:Int))+(Int.natAbs (0:Int)+2)))) (a0,[],y2.1.2.2.2.2.2.2.1,(y2.1.2.2.2.2.2.2.1.length:Int),0,a1,()) (rE)) fun v16=>
 some (v16.1,())
def uZ (a0:List Int):Option ((List Int)×Unit):=
 bif List.isEmpty a0 then
  both (
   some ([],())) (
   chk (decide ((0+(a0.length))*8≤140737488355328)&&decide (0+(a0.length)≤maxLen)) <|
   some (a0,()))
 else
  chk (decide ((0+(a0.length))*8≤140737488355328)&&decide (0+(a0.length)≤maxLen)) <|
  some (a0,())
def I5 (a0:Int):Option (Int×Unit):=
 some (if (w64 (0 - a0))>a0 then (w64 (0 - a0)) else a0,())
abbrev Dv:Type:=(List Int)×Int×(List Int)×Int×Int×Int×Int×Unit
abbrev Ke:Type:=(((List aj)×Int×Unit) ⊕ ((List Int)×Int×Int×Int×Unit))
def EB (x1:Dv) (again:Dv→Option Ke):Option Ke:=
 match x1 with
 | (A,B,C,D,E,F,G,_)=>
 bif decide (E<D) then
  (idx C E).bind fun y2=>
  (yL y2 0 1000000000).bind fun r3=>
  bif !r3.1 then
   some (.inl ([],1,()))
  else
   again (A,w64 (B+y2),C,D,w64 (E+1),F,G,())
 else
  some (.inr (A,B,F,G,()))
abbrev Bl:Type:=Int×Int×Int×(List Int)×Int×Int×Int×Int×(List aj)×(List Int)×Unit
abbrev HP:Type:=(((List aj)×Int×Unit) ⊕ (Int×Int×Int×(List aj)×(List Int)×Unit))
def A7 (x1:Bl) (again:Bl→Option HP):Option HP:=
 match x1 with
 | (A,B,C,D,E,F,G,H,I,J,_)=>
 bif decide (F<E) then
  (idx D F).bind fun y2=>
  (mD B).bind fun r3=>
  (mD y2).bind fun r4=>
  (iA r3.1 r4.1).bind fun r5=>
  (mD A).bind fun r6=>
  (Hg r5.1 r6.1).bind fun r7=>
  (B8 r7.1 1000000000000000).bind fun r8=>
  (B8 r7.2.1 1000000000000000).bind fun r9=>
  chk (decide (0≤F)&&decide (F<(J.length:Int))) <|
  (J[F.toNat]?).bind fun _=>
  chk (decide (0≤F)&&decide (F<(I.length:Int))) <|
  (I[F.toNat]?).bind fun _=>
  again (A,B,w64 (C - r8.1),D,E,w64 (F+1),G,H,List.set I F.toNat (r8.1,H),List.set J F.toNat r9.1,())
 else
  some (.inr (C,G,H,I,J,()))
abbrev BE:Type:=Int×Int×Int×Int×Int×Int×(List aj)×(List Int)×Unit
abbrev Hw:Type:=((((List aj)×Int×Unit) ⊕ (Int×Int×(List aj)×Unit)) ⊕ (Int×Int×Int×Int×(List aj)×(List Int)×Unit))
def Bk (x1:BE) (again:BE→Option Hw):Option Hw:=
 match x1 with
 | (A,B,C,D,E,F,G,H,_)=>
 bif decide (D<C) then
  chk (decide (0≤D)&&decide (D<(H.length:Int))) <|
  (H[D.toNat]?).bind fun y2=>
  chk (decide (0≤B)&&decide (B<(H.length:Int))) <|
  (H[B.toNat]?).bind fun y3=>
  bif decide (y2>y3) then
   again (A,D,C,w64 (D+1),E,F,G,H,())
  else
   again (A,B,C,w64 (D+1),E,F,G,H,())
 else
  some (.inr (A,B,E,F,G,H,()))
abbrev BI:Type:=Int×Int×Int×(List aj)×(List Int)×Unit
abbrev HR:Type:=(((List aj)×Int×Unit) ⊕ (Int×Int×(List aj)×Unit))
def BD (x1:BI) (again:BI→Option HR):Option HR:=
 match x1 with
 | (A,B,C,D,E,_)=>
 bif decide (A>0) then
  aO (
   iter (X:=BE) (β:=Hw) (A.natAbs+(Int.natAbs (0:Int)+(Int.natAbs ((E.length:Int))+(Int.natAbs (0:Int)+(B.natAbs+(C.natAbs+(D.length+(E.length+2)))))))) (A,0,(E.length:Int),0,B,C,D,E,()) (Bk)) fun (F,G,H,I,J,K,_)=>
  chk (decide (0≤G)&&decide (G<(J.length:Int))) <|
  (J[G.toNat]?).bind fun y3=>
  chk (decide (0≤G)&&decide (G<(J.length:Int))) <|
  (J[G.toNat]?).bind fun y4=>
  chk (decide (0≤G)&&decide (G<(K.length:Int))) <|
  (K[G.toNat]?).bind fun _=>
  again (w64 (F - 1),H,I,List.set J G.toNat (w64 (y3.1+1),y4.2),List.set K G.toNat (-1),())
 else
  some (.inr (B,C,D,()))
abbrev BB:Type:=Int×Int×Int×Int×(List aj)×Unit
abbrev Hy:Type:=(((List aj)×Int×Unit) ⊕ ((List aj)×Unit))
def BF (x1:BB) (again:BB→Option Hy):Option Hy:=
 match x1 with
 | (A,B,C,D,E,_)=>
 bif decide (B<A) then
  bif decide (C<0) then
   chk (decide (0≤B)&&decide (B<(E.length:Int))) <|
   (E[B.toNat]?).bind fun y2=>
   chk (decide (0≤B)&&decide (B<(E.length:Int))) <|
   (E[B.toNat]?).bind fun y3=>
   again (A,w64 (B+1),C,D,List.set E B.toNat (w64 (0 - y2.1),y3.2),())
  else
   again (A,w64 (B+1),C,D,E,())
 else
  some (.inr (E,()))
def Lh (a0:aj) (a1:List Int):Option ((List aj)×Int×Unit):=
 (di a0).bind fun r1=>
 bif r1.1 != 0 then
  some ([],1,())
 else
  bif ((a1.length:Int))==0 then
   some ([],9,())
  else
   bif decide (((a1.length:Int))>1000) then
    some ([],2,())
   else
    aO (
     iter (X:=Dv) (β:=Ke) (a1.length+(Int.natAbs (0:Int)+(a1.length+(Int.natAbs ((a1.length:Int))+(Int.natAbs (0:Int)+(a0.1.natAbs+(a0.2.natAbs+2))))))) (a1,0,a1,(a1.length:Int),0,a0.1,a0.2,()) (EB)) fun (A,B,C,D,_)=>
    bif B==0 then
     some ([],13,())
    else
     chk (decide (0≤((A.length:Int)))&&decide (((A.length:Int))≤((A.length:Int)))&&decide ((16:Int)*((A.length:Int))≤281474976710656)&&decide (((A.length:Int))≤9223372036854775807)) <|
     chk (decide (0≤((A.length:Int)))&&decide (((A.length:Int))≤((A.length:Int)))&&decide ((8:Int)*((A.length:Int))≤281474976710656)&&decide (((A.length:Int))≤9223372036854775807)) <|
     aO (
      iter (X:=Bl) (β:=HP) (B.natAbs+(Int.natAbs (if (w64 (0 - C))>C then (w64 (0 - C)) else C)+(Int.natAbs (if (w64 (0 - C))>C then (w64 (0 - C)) else C)+(A.length+(Int.natAbs ((A.length:Int))+(Int.natAbs (0:Int)+(C.natAbs+(D.natAbs+(List.length ((List.replicate (Int.toNat ((A.length:Int))) (0,0):List (aj)):List aj)+(List.length ((List.replicate (Int.toNat ((A.length:Int))) 0:List (Int)):List Int)+2)))))))))) (B,if (w64 (0 - C))>C then (w64 (0 - C)) else C,if (w64 (0 - C))>C then (w64 (0 - C)) else C,A,(A.length:Int),0,C,D,(List.replicate (Int.toNat ((A.length:Int))) (0,0):List (aj)),(List.replicate (Int.toNat ((A.length:Int))) 0:List (Int)),()) (A7)) fun (E,F,G,H,I,_)=>
     aO (
      iter (X:=BI) (β:=HR) (E.natAbs+(F.natAbs+(G.natAbs+(H.length+(I.length+2))))) (E,F,G,H,I,()) (BD)) fun (J,K,L,_)=>
     aO (
      iter (X:=BB) (β:=Hy) (Int.natAbs ((L.length:Int))+(Int.natAbs (0:Int)+(J.natAbs+(K.natAbs+(L.length+2))))) ((L.length:Int),0,J,K,L,()) (BF)) fun v30=>
     some (v30.1,0,())
abbrev A6:Type:=Int×(List Int)×Int×(List Int)×Int×Int×(List Int)×Unit
abbrev H6:Type:=(((List Int)×Int×Unit) ⊕ (Int×(List Int)×Int×(List Int)×Unit))
def BK (x1:A6) (again:A6→Option H6):Option H6:=
 match x1 with
 | (A,B,C,D,E,F,G,_)=>
 bif decide (F<E) then
  (idx D F).bind fun y2=>
  (I5 y2).bind fun r3=>
  chk (decide (((B.length)+1)*8≤140737488355328)&&decide ((B.length)+1≤maxLen)) <|
  (I5 y2).bind fun r4=>
  (I5 y2).bind fun r5=>
  bif decide (r5.1>1000000000) then
   some (.inl ([],2,()))
  else
   again (A,B++[r3.1],w64 (C+r4.1),D,E,w64 (F+1),G,())
 else
  some (.inr (A,B,C,G,()))
abbrev zf:Type:=Int×(List aj)×Int×Int×(List Int)×Unit
abbrev Fh:Type:=(((List Int)×Int×Unit) ⊕ (Int×(List Int)×Unit))
def zF (x1:zf) (again:zf→Option Fh):Option Fh:=
 match x1 with
 | (A,B,C,D,E,_)=>
 bif decide (D<C) then
  (idx B D).bind fun y2=>
  chk (decide (0≤D)&&decide (D<(E.length:Int))) <|
  (E[D.toNat]?).bind fun _=>
  again (A,B,C,w64 (D+1),List.set E D.toNat y2.1,())
 else
  some (.inr (A,E,()))
def Iv (a0:Int) (a1:List Int):Option ((List Int)×Int×Unit):=
 chk (decide (0≤((a1.length:Int)))&&decide (((a1.length:Int))≤((a1.length:Int)))&&decide ((8:Int)*((a1.length:Int))≤281474976710656)&&decide (((a1.length:Int))≤9223372036854775807)) <|
 aO (
  iter (X:=A6) (β:=H6) (a0.natAbs+(List.length ([]:List Int)+(Int.natAbs (0:Int)+(a1.length+(Int.natAbs ((a1.length:Int))+(Int.natAbs (0:Int)+(List.length ((List.replicate (Int.toNat ((a1.length:Int))) 0:List (Int)):List Int)+2))))))) (a0,[],0,a1,(a1.length:Int),0,(List.replicate (Int.toNat ((a1.length:Int))) 0:List (Int)),()) (BK)) fun (A,B,C,D,_)=>
 bif C==0 then
  chk (decide (0≤(0:Int))&&decide ((0:Int)<(D.length:Int))) <|
  (D[0]?).bind fun _=>
  some (List.set D 0 A,0,())
 else
  (Lh (A,0) B).bind fun r8=>
  aO (
   iter (X:=zf) (β:=Fh) (r8.2.1.natAbs+(r8.1.length+(Int.natAbs ((r8.1.length:Int))+(Int.natAbs (0:Int)+(D.length+2))))) (r8.2.1,r8.1,(r8.1.length:Int),0,D,()) (zF)) fun v12=>
  some (v12.2.1,v12.1,())
abbrev qZ:Type:=Int×Int×Int×Int×Bys×Bys×Int×Int×Int×Bool×(List aB)×(List au)×(List ax)×Bool×Int×Int×Bys×Int×Int×Int×Int×Int×(List Int)×(List Int)×(List (List Int))×(List Int)×(List Int)×(List Int)×(List Bool)×Unit
abbrev xF:Type:=((Int×((List Int)×(List Int)×(List (List Int))×(List Int)×(List Int)×(List Int)×(List Bool)×(Int×Int×Int×Int×Int)×Unit)×Unit) ⊕ (Int×Int×Bys×Bys×Int×Int×Int×Bool×(List aB)×(List au)×(List ax)×Bool×Int×Int×Bys×Int×Int×Int×Int×Int×(List Int)×(List Int)×(List (List Int))×(List Int)×(List Int)×(List Int)×(List Bool)×Unit))
def ry (x1:qZ) (again:qZ→Option xF):Option xF:=
 match x1 with
 | (A,B,C,D,E,F,G,H,I,J,K,L,M,N,O,P,Q,R,S,T,U,V,W,X,Y,Z,A0,B0,C0,_)=>
 bif decide (D<C) then
  chk (decide (0≤D)&&decide (D<(X.length:Int))) <|
  (X[D.toNat]?).bind fun y2=>
  bif Q==[] then
   again (w64 (A+y2),B,C,w64 (D+1),E,F,G,H,I,J,K,L,M,N,O,P,Q,R,S,T,U,V,W,X,Y,Z,A0,B0,C0,())
  else
   bif D==B then
    again (w64 (A+y2),B,C,w64 (D+1),E,F,G,H,I,J,K,L,M,N,O,P,Q,R,S,T,U,V,W,X,Y,Z,A0,B0,C0,())
   else
    again (A,B,C,w64 (D+1),E,F,G,H,I,J,K,L,M,N,O,P,Q,R,S,T,U,V,W,X,Y,Z,A0,B0,C0,())
 else
  some (.inr (A,B,E,F,G,H,I,J,K,L,M,N,O,P,Q,R,S,T,U,V,W,X,Y,Z,A0,B0,C0,()))
abbrev mN:Type:=Int×Int×(List Int)×(List Int)×Int×Int×Int×Int×Int×Int×Int×(List Int)×(List Int)×(List (List Int))×(List Int)×(List Int)×(List Int)×(List Bool)×Unit
abbrev qb:Type:=((Int×((List Int)×(List Int)×(List (List Int))×(List Int)×(List Int)×(List Int)×(List Bool)×(Int×Int×Int×Int×Int)×Unit)×Unit) ⊕ (Int×(List Int)×Int×Int×Int×Int×Int×(List Int)×(List Int)×(List (List Int))×(List Int)×(List Int)×(List Int)×(List Bool)×Unit))
def mO (x1:mN) (again:mN→Option qb):Option qb:=
 match x1 with
 | (A,B,C,D,E,F,G,H,I,J,K,L,M,N,O,P,Q,R,_)=>
 bif decide (F<E) then
  (idx D F).bind fun y2=>
  chk (decide (0≤F)&&decide (F<(P.length:Int))) <|
  (P[F.toNat]?).bind fun y3=>
  chk (decide (0≤F)&&decide (F<(P.length:Int))) <|
  (P[F.toNat]?).bind fun _=>
  chk (decide (0≤F)&&decide (F<(R.length:Int))) <|
  (R[F.toNat]?).bind fun y4=>
  bif y4 then
   chk (decide (0≤F)&&decide (F<(R.length:Int))) <|
   (R[F.toNat]?).bind fun _=>
   again (A,B,C,D,E,w64 (F+1),G,H,I,J,K,L,M,N,O,List.set P F.toNat (w64 (y3+y2)),Q,List.set R F.toNat true,())
  else
   bif y2 != 0 then
    chk (decide (0≤F)&&decide (F<(R.length:Int))) <|
    (R[F.toNat]?).bind fun _=>
    again (A,B,C,D,E,w64 (F+1),G,H,I,J,K,L,M,N,O,List.set P F.toNat (w64 (y3+y2)),Q,List.set R F.toNat true,())
   else
    chk (decide (0≤F)&&decide (F<(R.length:Int))) <|
    (R[F.toNat]?).bind fun _=>
    again (A,B,C,D,E,w64 (F+1),G,H,I,J,K,L,M,N,O,List.set P F.toNat (w64 (y3+y2)),Q,List.set R F.toNat (F==A),())
 else
  some (.inr (B,C,G,H,I,J,K,L,M,N,O,P,Q,R,()))
abbrev mP:Type:=Int×(List Int)×Int×Int×Int×Int×Int×Int×Int×(List Int)×(List Int)×(List (List Int))×(List Int)×(List Int)×(List Int)×(List Bool)×Unit
abbrev p8:Type:=((Int×((List Int)×(List Int)×(List (List Int))×(List Int)×(List Int)×(List Int)×(List Bool)×(Int×Int×Int×Int×Int)×Unit)×Unit) ⊕ (Int×(List Int)×Int×Int×Int×Int×Int×(List Int)×(List Int)×(List (List Int))×(List Int)×(List Int)×(List Int)×(List Bool)×Unit))
def mQ (x1:mP) (again:mP→Option p8):Option p8:=
 match x1 with
 | (A,B,C,D,E,F,G,H,I,J,K,L,M,N,O,P,_)=>
 bif decide (D<C) then
  chk (decide (0≤D)&&decide (D<(N.length:Int))) <|
  (N[D.toNat]?).bind fun y2=>
  (nP y2).bind fun r3=>
  bif !r3.1 then
   some (.inl (1,(J,K,L,M,N,O,P,(E,F,G,H,I),()),()))
  else
   again (A,B,C,w64 (D+1),E,F,G,H,I,J,K,L,M,N,O,P,())
 else
  some (.inr (A,B,E,F,G,H,I,J,K,L,M,N,O,P,()))
def xb (a0:(List Int)×(List Int)×(List (List Int))×(List Int)×(List Int)×(List Int)×(List Bool)×(Int×Int×Int×Int×Int)×Unit) (a1:ah) (a2:ax):Option (Int×((List Int)×(List Int)×(List (List Int))×(List Int)×(List Int)×(List Int)×(List Bool)×(Int×Int×Int×Int×Int)×Unit)×Unit):=
 (fS a1 a2.2.2).bind fun r1=>
 aO (
  iter (X:=qZ) (β:=xF) (Int.natAbs (0:Int)+(r1.1.natAbs+(Int.natAbs ((a0.2.1.length:Int))+(Int.natAbs (0:Int)+(a1.1.length+(a1.2.1.length+(a1.2.2.1.natAbs+(a1.2.2.2.1.natAbs+(a1.2.2.2.2.1.natAbs+(a1.2.2.2.2.2.2.1.length+(a1.2.2.2.2.2.2.2.1.length+(a1.2.2.2.2.2.2.2.2.length+(a2.2.1.1.natAbs+(a2.2.1.2.natAbs+(a2.2.2.length+(a0.2.2.2.2.2.2.2.1.1.natAbs+(a0.2.2.2.2.2.2.2.1.2.1.natAbs+(a0.2.2.2.2.2.2.2.1.2.2.1.natAbs+(a0.2.2.2.2.2.2.2.1.2.2.2.1.natAbs+(a0.2.2.2.2.2.2.2.1.2.2.2.2.natAbs+(a0.1.length+(a0.2.1.length+(a0.2.2.1.length+(a0.2.2.2.1.length+(a0.2.2.2.2.1.length+(a0.2.2.2.2.2.1.length+(a0.2.2.2.2.2.2.1.length+2))))))))))))))))))))))))))) (0,r1.1,(a0.2.1.length:Int),0,a1.1,a1.2.1,a1.2.2.1,a1.2.2.2.1,a1.2.2.2.2.1,a1.2.2.2.2.2.1,a1.2.2.2.2.2.2.1,a1.2.2.2.2.2.2.2.1,a1.2.2.2.2.2.2.2.2,a2.1,a2.2.1.1,a2.2.1.2,a2.2.2,a0.2.2.2.2.2.2.2.1.1,a0.2.2.2.2.2.2.2.1.2.1,a0.2.2.2.2.2.2.2.1.2.2.1,a0.2.2.2.2.2.2.2.1.2.2.2.1,a0.2.2.2.2.2.2.2.1.2.2.2.2,a0.1,a0.2.1,a0.2.2.1,a0.2.2.2.1,a0.2.2.2.2.1,a0.2.2.2.2.2.1,a0.2.2.2.2.2.2.1,()) (ry)) fun (A,B,C,D,E,F,G,H,I,J,K,L,M,N,O,P,Q,R,S,T,U,V,W,Y,Z,A0,B0,_)=>
 (D6 (C,D,E,F,G,H,I,J,K) (L,(M,N),O) A).bind fun r5=>
 bif !r5.2.1 then
  some (1,(U,V,W,Y,Z,A0,B0,(P,Q,R,S,T),()),())
 else
  chk (decide (0≤((V.length:Int)))&&decide (((V.length:Int))≤((V.length:Int)))&&decide ((8:Int)*((V.length:Int))≤281474976710656)&&decide (((V.length:Int))≤9223372036854775807)) <|
  aO (γ:=(Int×Int×(List Int)×Int×Int×Int×Int×Int×(List Int)×(List Int)×(List (List Int))×(List Int)×(List Int)×(List Int)×(List Bool)×Unit)) (
   bif O==[] then
    (Iv r5.1 V).bind fun r6=>
    bif r6.2.1 != 0 then
     some (.inl (r6.2.1,(U,V,W,Y,Z,A0,B0,(P,Q,R,S,T),()),()))
    else
     some (.inr (B,r5.1,r6.1,P,Q,R,S,T,U,V,W,Y,Z,A0,B0,()))
   else
    chk (decide (0≤B)&&decide (B<(List.length (List.replicate (Int.toNat ((V.length:Int))) 0:List (Int)):Int))) <|
    ((List.replicate (Int.toNat ((V.length:Int))) 0:List (Int))[B.toNat]?).bind fun _=>
    some (.inr (B,r5.1,List.set (List.replicate (Int.toNat ((V.length:Int))) 0:List (Int)) B.toNat r5.1,P,Q,R,S,T,U,V,W,Y,Z,A0,B0,()))) fun (C0,D0,E0,F0,G0,H0,I0,J0,K0,L0,M0,N0,O0,P0,Q0,_)=>
  aO (
   iter (X:=mN) (β:=qb) (C0.natAbs+(D0.natAbs+(E0.length+(E0.length+(Int.natAbs ((E0.length:Int))+(Int.natAbs (0:Int)+(F0.natAbs+(G0.natAbs+(H0.natAbs+(I0.natAbs+(J0.natAbs+(K0.length+(L0.length+(M0.length+(N0.length+(O0.length+(P0.length+(Q0.length+2)))))))))))))))))) (C0,D0,E0,E0,(E0.length:Int),0,F0,G0,H0,I0,J0,K0,L0,M0,N0,O0,P0,Q0,()) (mO)) fun (R0,S0,T0,U0,V0,W0,X0,Y0,Z0,A1,B1,C1,D1,E1,_)=>
  aO (
   iter (X:=mP) (β:=p8) (R0.natAbs+(S0.length+(Int.natAbs ((C1.length:Int))+(Int.natAbs (0:Int)+(T0.natAbs+(U0.natAbs+(V0.natAbs+(W0.natAbs+(X0.natAbs+(Y0.length+(Z0.length+(A1.length+(B1.length+(C1.length+(D1.length+(E1.length+2)))))))))))))))) (R0,S0,(C1.length:Int),0,T0,U0,V0,W0,X0,Y0,Z0,A1,B1,C1,D1,E1,()) (mQ)) fun (F1,G1,H1,I1,J1,K1,L1,M1,N1,O1,P1,Q1,R1,S1,_)=>
  chk (decide (((P1.length)+1)*8≤140737488355328)&&decide ((P1.length)+1≤maxLen)) <|
  chk (decide (((O1.length)+1)*24≤140737488355328)&&decide ((O1.length)+1≤maxLen)) <|
  some (0,(M1,N1,O1++[G1],P1++[F1],Q1,R1,S1,(H1,I1,J1,K1,L1),()),())
abbrev vh:Type:=Int×Int×(List au)×Int×Int×Bys×Bys×Int×Int×Int×Bool×(List aB)×(List au)×(List ax)×Int×Int×Int×Int×Int×(List Int)×(List Int)×(List (List Int))×(List Int)×(List Int)×(List Int)×(List Bool)×Unit
abbrev BZ:Type:=((Int×Bool×((List Int)×(List Int)×(List (List Int))×(List Int)×(List Int)×(List Int)×(List Bool)×(Int×Int×Int×Int×Int)×Unit)×Unit) ⊕ (Int×Int×Bys×Bys×Int×Int×Int×Bool×(List aB)×(List au)×(List ax)×Int×Int×Int×Int×Int×(List Int)×(List Int)×(List (List Int))×(List Int)×(List Int)×(List Int)×(List Bool)×Unit))
def u9 (x1:vh) (again:vh→Option BZ):Option BZ:=
 match x1 with
 | (A,B,C,D,E,F,G,H,I,J,K,L,M,N,O,P,Q,R,S,T,U,V,W,X,Y,Z,_)=>
 bif decide (E<D) then
  (idx C E).bind fun y2=>
  (idx L A).bind fun y3=>
  bif y2.2.2.2.2.2.2.2.2==y3.1 then
   chk (decide (0≤E)&&decide (E<(T.length:Int))) <|
   (T[E.toNat]?).bind fun y4=>
   (idx L A).bind fun y5=>
   (o6 (F,G,H,I,J,K,L,M,N) y4 y5.2).bind fun r6=>
   again (A,w64 (B+r6.1),C,D,w64 (E+1),F,G,H,I,J,K,L,M,N,O,P,Q,R,S,T,U,V,W,X,Y,Z,())
  else
   again (A,B,C,D,w64 (E+1),F,G,H,I,J,K,L,M,N,O,P,Q,R,S,T,U,V,W,X,Y,Z,())
 else
  some (.inr (A,B,F,G,H,I,J,K,L,M,N,O,P,Q,R,S,T,U,V,W,X,Y,Z,()))
abbrev sD:Type:=Int×Int×Int×Int×Bys×Bys×Int×Int×Int×Bool×(List aB)×(List au)×(List ax)×Int×Int×Int×Int×Int×(List Int)×(List Int)×(List (List Int))×(List Int)×(List Int)×(List Int)×(List Bool)×Unit
abbrev zY:Type:=((Int×Bool×((List Int)×(List Int)×(List (List Int))×(List Int)×(List Int)×(List Int)×(List Bool)×(Int×Int×Int×Int×Int)×Unit)×Unit) ⊕ (Int×Int×Int×Int×Int×Int×(List Int)×(List Int)×(List (List Int))×(List Int)×(List Int)×(List Int)×(List Bool)×Unit))
def sW (x1:sD) (again:sD→Option zY):Option zY:=
 match x1 with
 | (A,B,C,D,E,F,G,H,I,J,K,L,M,N,O,P,Q,R,S,T,U,V,W,X,Y,_)=>
 bif decide (D<C) then
  chk (decide (0≤D)&&decide (D<(U.length:Int))) <|
  (U[D.toNat]?).bind fun y2=>
  (idx y2 A).bind fun y3=>
  (idx K A).bind fun y4=>
  (o6 (E,F,G,H,I,J,K,L,M) y3 y4.2).bind fun r5=>
  again (A,w64 (B+r5.1),C,w64 (D+1),E,F,G,H,I,J,K,L,M,N,O,P,Q,R,S,T,U,V,W,X,Y,())
 else
  some (.inr (B,N,O,P,Q,R,S,T,U,V,W,X,Y,()))
def Bh (a0:(List Int)×(List Int)×(List (List Int))×(List Int)×(List Int)×(List Int)×(List Bool)×(Int×Int×Int×Int×Int)×Unit) (a1:ah) (a2:Int):Option (Int×Bool×((List Int)×(List Int)×(List (List Int))×(List Int)×(List Int)×(List Int)×(List Bool)×(Int×Int×Int×Int×Int)×Unit)×Unit):=
 bif !a1.2.2.2.2.2.1 then
  chk (decide (0≤a2)&&decide (a2<(a0.2.2.2.2.1.length:Int))) <|
  (a0.2.2.2.2.1[a2.toNat]?).bind fun y1=>
  (idx a1.2.2.2.2.2.2.1 a2).bind fun y2=>
  (o6 a1 y1 y2.2).bind fun r3=>
  some (r3.1,r3.2.1,(a0.1,a0.2.1,a0.2.2.1,a0.2.2.2.1,a0.2.2.2.2.1,a0.2.2.2.2.2.1,a0.2.2.2.2.2.2.1,a0.2.2.2.2.2.2.2.1,()),())
 else
  aO (
   iter (X:=vh) (β:=BZ) (a2.natAbs+(Int.natAbs (0:Int)+(a1.2.2.2.2.2.2.2.1.length+(Int.natAbs ((a1.2.2.2.2.2.2.2.1.length:Int))+(Int.natAbs (0:Int)+(a1.1.length+(a1.2.1.length+(a1.2.2.1.natAbs+(a1.2.2.2.1.natAbs+(a1.2.2.2.2.1.natAbs+(a1.2.2.2.2.2.2.1.length+(a1.2.2.2.2.2.2.2.1.length+(a1.2.2.2.2.2.2.2.2.length+(a0.2.2.2.2.2.2.2.1.1.natAbs+(a0.2.2.2.2.2.2.2.1.2.1.natAbs+(a0.2.2.2.2.2.2.2.1.2.2.1.natAbs+(a0.2.2.2.2.2.2.2.1.2.2.2.1.natAbs+(a0.2.2.2.2.2.2.2.1.2.2.2.2.natAbs+(a0.1.length+(a0.2.1.length+(a0.2.2.1.length+(a0.2.2.2.1.length+(a0.2.2.2.2.1.length+(a0.2.2.2.2.2.1.length+(a0.2.2.2.2.2.2.1.length+2))))))))))))))))))))))))) (a2,0,a1.2.2.2.2.2.2.2.1,(a1.2.2.2.2.2.2.2.1.length:Int),0,a1.1,a1.2.1,a1.2.2.1,a1.2.2.2.1,a1.2.2.2.2.1,a1.2.2.2.2.2.1,a1.2.2.2.2.2.2.1,a1.2.2.2.2.2.2.2.1,a1.2.2.2.2.2.2.2.2,a0.2.2.2.2.2.2.2.1.1,a0.2.2.2.2.2.2.2.1.2.1,a0.2.2.2.2.2.2.2.1.2.2.1,a0.2.2.2.2.2.2.2.1.2.2.2.1,a0.2.2.2.2.2.2.2.1.2.2.2.2,a0.1,a0.2.1,a0.2.2.1,a0.2.2.2.1,a0.2.2.2.2.1,a0.2.2.2.2.2.1,a0.2.2.2.2.2.2.1,()) (u9)) fun (A,B,C,D,E,F,G,H,I,J,K,L,M,N,O,P,Q,R,S,T,U,V,W,_)=>
  aO (
   iter (X:=sD) (β:=zY) (A.natAbs+(B.natAbs+(Int.natAbs ((S.length:Int))+(Int.natAbs (0:Int)+(C.length+(D.length+(E.natAbs+(F.natAbs+(G.natAbs+(I.length+(J.length+(K.length+(L.natAbs+(M.natAbs+(N.natAbs+(O.natAbs+(P.natAbs+(Q.length+(R.length+(S.length+(T.length+(U.length+(V.length+(W.length+2)))))))))))))))))))))))) (A,B,(S.length:Int),0,C,D,E,F,G,H,I,J,K,L,M,N,O,P,Q,R,S,T,U,V,W,()) (sW)) fun (Y,Z,A0,B0,C0,D0,E0,F0,G0,H0,I0,J0,K0,_)=>
  (nP Y).bind fun r17=>
  some (Y,r17.1,(E0,F0,G0,H0,I0,J0,K0,(Z,A0,B0,C0,D0),()),())
abbrev Gc:Type:=(List au)×Int×Int×Bys×Bys×Int×Int×Int×Bool×(List aB)×(List au)×(List ax)×(List Int)×(List Int)×(List (List Int))×(List Int)×(List Int)×(List Int)×(List Bool)×Int×Int×Int×Int×Int×(List Int)×(List (List Int))×(List Int)×(List Int)×(List Int)×Int×Int×Int×Int×Int×(List Int)×(List Bool)×Unit
abbrev Gk:Type:=((ck×Int×Unit) ⊕ (Bys×Bys×Int×Int×Int×Bool×(List aB)×(List au)×(List ax)×(List Int)×(List Int)×(List (List Int))×(List Int)×(List Int)×(List Int)×(List Bool)×Int×Int×Int×Int×Int×(List Int)×(List (List Int))×(List Int)×(List Int)×(List Int)×Int×Int×Int×Int×Int×(List Int)×(List Bool)×Unit))
def vZ (x1:Gc) (again:Gc→Option Gk):Option Gk:=
 match x1 with
 | (A,B,C,D,E,F,G,H,I,J,K,L,M,N,O,P,Q,R,S,T,U,V,W,X,Y,Z,A0,B0,C0,D0,E0,F0,G0,H0,I0,J0,_)=>
 bif decide (C<B) then
  (idx A C).bind fun y2=>
  (S6 (D,E,F,G,H,I,J,K,L) y2).bind fun r3=>
  bif !r3.2.1 then
   some (.inl ((Y,I0,Z,A0,B0,C0,J0,D0,E0,F0,G0,H0),1,()))
  else
   (fS (D,E,F,G,H,I,J,K,L) y2.2.2.2.2.2.2.2.2).bind fun r4=>
   chk (decide (((Y.length)+1)*8≤140737488355328)&&decide ((Y.length)+1≤maxLen)) <|
   chk (decide (0≤r4.1)&&decide (r4.1<(I0.length:Int))) <|
   (I0[r4.1.toNat]?).bind fun y5=>
   chk (decide (0≤r4.1)&&decide (r4.1<(I0.length:Int))) <|
   (I0[r4.1.toNat]?).bind fun _=>
   chk (decide (0≤r4.1)&&decide (r4.1<(J0.length:Int))) <|
   (J0[r4.1.toNat]?).bind fun _=>
   again (A,B,w64 (C+1),D,E,F,G,H,I,J,K,L,M,N,O,P,Q,R,S,T,U,V,W,X,Y++[r3.1],Z,A0,B0,C0,w64 (D0+r3.1),E0,F0,G0,H0,List.set I0 r4.1.toNat (w64 (y5+r3.1)),List.set J0 r4.1.toNat true,())
 else
  some (.inr (D,E,F,G,H,I,J,K,L,M,N,O,P,Q,R,S,T,U,V,W,X,Y,Z,A0,B0,C0,D0,E0,F0,G0,H0,I0,J0,()))
abbrev DE:Type:=Int×Int×Bys×Bys×Int×Int×Int×Bool×(List aB)×(List au)×(List ax)×(List Int)×(List Int)×(List (List Int))×(List Int)×(List Int)×(List Int)×(List Bool)×Int×Int×Int×Int×Int×(List Int)×(List (List Int))×(List Int)×(List Int)×(List Int)×Int×Int×Int×Int×Int×(List Int)×(List Bool)×Unit
abbrev Ev:Type:=((ck×Int×Unit) ⊕ (Bys×Bys×Int×Int×Int×Bool×(List aB)×(List au)×(List ax)×(List Int)×(List Int)×(List (List Int))×(List Int)×(List Int)×(List Int)×(List Bool)×Int×Int×Int×Int×Int×(List Int)×(List (List Int))×(List Int)×(List Int)×(List Int)×Int×Int×Int×Int×Int×(List Int)×(List Bool)×Unit))
def sY (x1:DE) (again:DE→Option Ev):Option Ev:=
 match x1 with
 | (A,B,C,D,E,F,G,H,I,J,K,L,M,N,O,P,Q,R,S,T,U,V,W,X,Y,Z,A0,B0,C0,D0,E0,F0,G0,H0,I0,_)=>
 bif decide (B<A) then
  chk (decide (0≤B)&&decide (B<(H0.length:Int))) <|
  (H0[B.toNat]?).bind fun y2=>
  (nP y2).bind fun r3=>
  bif !r3.1 then
   some (.inl ((X,H0,Y,Z,A0,B0,I0,C0,D0,E0,F0,G0),1,()))
  else
   again (A,w64 (B+1),C,D,E,F,G,H,I,J,K,L,M,N,O,P,Q,R,S,T,U,V,W,X,Y,Z,A0,B0,C0,D0,E0,F0,G0,H0,I0,())
 else
  some (.inr (C,D,E,F,G,H,I,J,K,L,M,N,O,P,Q,R,S,T,U,V,W,X,Y,Z,A0,B0,C0,D0,E0,F0,G0,H0,I0,()))
abbrev Eo:Type:=(List ax)×Int×Int×Bys×Bys×Int×Int×Int×Bool×(List aB)×(List au)×(List ax)×(List Int)×(List Int)×(List (List Int))×(List Int)×(List Int)×(List Int)×(List Bool)×Int×Int×Int×Int×Int×(List Int)×(List Int)×(List (List Int))×(List Int)×(List Int)×(List Int)×(List Bool)×Int×Int×Int×Int×Int×Unit
abbrev D5:Type:=((ck×Int×Unit) ⊕ (Bys×Bys×Int×Int×Int×Bool×(List aB)×(List au)×(List ax)×(List Int)×(List Int)×(List (List Int))×(List Int)×(List Int)×(List Int)×(List Bool)×Int×Int×Int×Int×Int×(List Int)×(List Int)×(List (List Int))×(List Int)×(List Int)×(List Int)×(List Bool)×Int×Int×Int×Int×Int×Unit))
def Dr (x1:Eo) (again:Eo→Option D5):Option D5:=
 match x1 with
 | (A,B,C,D,E,F,G,H,I,J,K,L,M,N,O,P,Q,R,S,T,U,V,W,X,Y,Z,A0,B0,C0,D0,E0,F0,G0,H0,I0,J0,_)=>
 bif decide (C<B) then
  (idx A C).bind fun y2=>
  (xb (Y,Z,A0,B0,C0,D0,E0,(F0,G0,H0,I0,J0),()) (D,E,F,G,H,I,J,K,L) y2).bind fun r3=>
  bif r3.1 != 0 then
   some (.inl ((r3.2.1.1,r3.2.1.2.1,r3.2.1.2.2.1,r3.2.1.2.2.2.1,r3.2.1.2.2.2.2.1,r3.2.1.2.2.2.2.2.1,r3.2.1.2.2.2.2.2.2.1,r3.2.1.2.2.2.2.2.2.2.1),r3.1,()))
  else
   again (A,B,w64 (C+1),D,E,F,G,H,I,J,K,L,M,N,O,P,Q,R,S,T,U,V,W,X,r3.2.1.1,r3.2.1.2.1,r3.2.1.2.2.1,r3.2.1.2.2.2.1,r3.2.1.2.2.2.2.1,r3.2.1.2.2.2.2.2.1,r3.2.1.2.2.2.2.2.2.1,r3.2.1.2.2.2.2.2.2.2.1.1,r3.2.1.2.2.2.2.2.2.2.1.2.1,r3.2.1.2.2.2.2.2.2.2.1.2.2.1,r3.2.1.2.2.2.2.2.2.2.1.2.2.2.1,r3.2.1.2.2.2.2.2.2.2.1.2.2.2.2,())
 else
  some (.inr (D,E,F,G,H,I,J,K,L,M,N,O,P,Q,R,S,T,U,V,W,X,Y,Z,A0,B0,C0,D0,E0,F0,G0,H0,I0,J0,()))
abbrev DA:Type:=Int×Int×Bys×Bys×Int×Int×Int×Bool×(List aB)×(List au)×(List ax)×(List Int)×(List Int)×(List (List Int))×(List Int)×(List Int)×(List Int)×(List Bool)×Int×Int×Int×Int×Int×(List Int)×(List Int)×(List (List Int))×(List Int)×(List Int)×(List Int)×(List Bool)×Int×Int×Int×Int×Int×Unit
abbrev Eg:Type:=((ck×Int×Unit) ⊕ ((List Int)×(List Int)×(List (List Int))×(List Int)×(List Int)×(List Int)×(List Bool)×Int×Int×Int×Int×Int×(List Int)×(List Int)×(List (List Int))×(List Int)×(List Int)×(List Int)×(List Bool)×Int×Int×Int×Int×Int×Unit))
def Et (x1:DA) (again:DA→Option Eg):Option Eg:=
 match x1 with
 | (A,B,C,D,E,F,G,H,I,J,K,L,M,N,O,P,Q,R,S,T,U,V,W,X,Y,Z,A0,B0,C0,D0,E0,F0,G0,H0,I0,_)=>
 bif decide (B<A) then
  (Bh (X,Y,Z,A0,B0,C0,D0,(E0,F0,G0,H0,I0),()) (C,D,E,F,G,H,I,J,K) B).bind fun r2=>
  bif !r2.2.1 then
   some (.inl ((r2.2.2.1.1,r2.2.2.1.2.1,r2.2.2.1.2.2.1,r2.2.2.1.2.2.2.1,r2.2.2.1.2.2.2.2.1,r2.2.2.1.2.2.2.2.2.1,r2.2.2.1.2.2.2.2.2.2.1,r2.2.2.1.2.2.2.2.2.2.2.1),1,()))
  else
   chk (decide (((r2.2.2.1.2.2.2.2.2.1.length)+1)*8≤140737488355328)&&decide ((r2.2.2.1.2.2.2.2.2.1.length)+1≤maxLen)) <|
   again (A,w64 (B+1),C,D,E,F,G,H,I,J,K,L,M,N,O,P,Q,R,S,T,U,V,W,r2.2.2.1.1,r2.2.2.1.2.1,r2.2.2.1.2.2.1,r2.2.2.1.2.2.2.1,r2.2.2.1.2.2.2.2.1,r2.2.2.1.2.2.2.2.2.1++[r2.1],r2.2.2.1.2.2.2.2.2.2.1,r2.2.2.1.2.2.2.2.2.2.2.1.1,r2.2.2.1.2.2.2.2.2.2.2.1.2.1,r2.2.2.1.2.2.2.2.2.2.2.1.2.2.1,w64 (r2.2.2.1.2.2.2.2.2.2.2.1.2.2.2.1+r2.1),r2.2.2.1.2.2.2.2.2.2.2.1.2.2.2.2,())
 else
  some (.inr (L,M,N,O,P,Q,R,S,T,U,V,W,X,Y,Z,A0,B0,C0,D0,E0,F0,G0,H0,I0,()))
abbrev DQ:Type:=(List Int)×Int×Int×(List Int)×(List Int)×(List (List Int))×(List Int)×(List Int)×(List Int)×(List Bool)×Int×Int×Int×Int×Int×(List Int)×(List Int)×(List (List Int))×(List Int)×(List Int)×(List Int)×(List Bool)×Int×Int×Int×Int×Int×Unit
abbrev DV:Type:=((ck×Int×Unit) ⊕ ((List Int)×(List Int)×(List (List Int))×(List Int)×(List Int)×(List Int)×(List Bool)×Int×Int×Int×Int×Int×(List Int)×(List Int)×(List (List Int))×(List Int)×(List Int)×(List Int)×(List Bool)×Int×Int×Int×Int×Int×Unit))
def yA (x1:DQ) (again:DQ→Option DV):Option DV:=
 match x1 with
 | (A,B,C,D,E,F,G,H,I,J,K,L,M,N,O,P,Q,R,S,T,U,V,W,X,Y,Z,A0,_)=>
 bif decide (C<B) then
  (idx A C).bind fun y2=>
  again (A,B,w64 (C+1),D,E,F,G,H,I,J,K,L,M,N,O,P,Q,R,S,T,U,V,W,w64 (X+y2),Y,Z,A0,())
 else
  some (.inr (D,E,F,G,H,I,J,K,L,M,N,O,P,Q,R,S,T,U,V,W,X,Y,Z,A0,()))
abbrev ED:Type:=(Int×Int×Int×Int×Int)×Int×(List Int)×(List Int)×(List (List Int))×(List Int)×(List Int)×(List Int)×(List Bool)×Int×Int×Int×Int×Int×(List Int)×(List Int)×(List (List Int))×(List Int)×(List Int)×(List Int)×(List Bool)×Int×Int×Int×Int×Int×Unit
abbrev Ey:Type:=((ck×Int×Unit) ⊕ ((List Int)×(List Int)×(List (List Int))×(List Int)×(List Int)×(List Int)×(List Bool)×Int×Int×Int×Int×Int×(List Int)×(List Int)×(List (List Int))×(List Int)×(List Int)×(List Int)×(List Bool)×Int×Int×Int×Int×Int×Unit))
def tH (x1:ED) (again:ED→Option Ey):Option Ey:=
 bif decide (x1.2.1<5) then
  (idx ([@x1.1.1, @x1.1.2.1, @x1.1.2.2.1, @x1.1.2.2.2.1, @x1.1.2.2.2.2]:List Int) x1.2.1).bind fun y2=>
  (nP y2).bind fun r3=>
  bif !r3.1 then
   some (.inl ((x1.2.2.2.2.2.2.2.2.2.2.2.2.2.2.1,x1.2.2.2.2.2.2.2.2.2.2.2.2.2.2.2.1,x1.2.2.2.2.2.2.2.2.2.2.2.2.2.2.2.2.1,x1.2.2.2.2.2.2.2.2.2.2.2.2.2.2.2.2.2.1,x1.2.2.2.2.2.2.2.2.2.2.2.2.2.2.2.2.2.2.1,x1.2.2.2.2.2.2.2.2.2.2.2.2.2.2.2.2.2.2.2.1,x1.2.2.2.2.2.2.2.2.2.2.2.2.2.2.2.2.2.2.2.2.1,x1.2.2.2.2.2.2.2.2.2.2.2.2.2.2.2.2.2.2.2.2.2.1,x1.2.2.2.2.2.2.2.2.2.2.2.2.2.2.2.2.2.2.2.2.2.2.1,x1.2.2.2.2.2.2.2.2.2.2.2.2.2.2.2.2.2.2.2.2.2.2.2.1,x1.2.2.2.2.2.2.2.2.2.2.2.2.2.2.2.2.2.2.2.2.2.2.2.2.1,x1.2.2.2.2.2.2.2.2.2.2.2.2.2.2.2.2.2.2.2.2.2.2.2.2.2.1),1,()))
  else
   again (x1.1,w64 (x1.2.1+1),x1.2.2.1,x1.2.2.2.1,x1.2.2.2.2.1,x1.2.2.2.2.2.1,x1.2.2.2.2.2.2.1,x1.2.2.2.2.2.2.2.1,x1.2.2.2.2.2.2.2.2.1,x1.2.2.2.2.2.2.2.2.2.1,x1.2.2.2.2.2.2.2.2.2.2.1,x1.2.2.2.2.2.2.2.2.2.2.2.1,x1.2.2.2.2.2.2.2.2.2.2.2.2.1,x1.2.2.2.2.2.2.2.2.2.2.2.2.2.1,x1.2.2.2.2.2.2.2.2.2.2.2.2.2.2.1,x1.2.2.2.2.2.2.2.2.2.2.2.2.2.2.2.1,x1.2.2.2.2.2.2.2.2.2.2.2.2.2.2.2.2.1,x1.2.2.2.2.2.2.2.2.2.2.2.2.2.2.2.2.2.1,x1.2.2.2.2.2.2.2.2.2.2.2.2.2.2.2.2.2.2.1,x1.2.2.2.2.2.2.2.2.2.2.2.2.2.2.2.2.2.2.2.1,x1.2.2.2.2.2.2.2.2.2.2.2.2.2.2.2.2.2.2.2.2.1,x1.2.2.2.2.2.2.2.2.2.2.2.2.2.2.2.2.2.2.2.2.2.1,x1.2.2.2.2.2.2.2.2.2.2.2.2.2.2.2.2.2.2.2.2.2.2.1,x1.2.2.2.2.2.2.2.2.2.2.2.2.2.2.2.2.2.2.2.2.2.2.2.1,x1.2.2.2.2.2.2.2.2.2.2.2.2.2.2.2.2.2.2.2.2.2.2.2.2.1,x1.2.2.2.2.2.2.2.2.2.2.2.2.2.2.2.2.2.2.2.2.2.2.2.2.2.1,())
 else
  some (.inr (x1.2.2.1,x1.2.2.2.1,x1.2.2.2.2.1,x1.2.2.2.2.2.1,x1.2.2.2.2.2.2.1,x1.2.2.2.2.2.2.2.1,x1.2.2.2.2.2.2.2.2.1,x1.2.2.2.2.2.2.2.2.2.1,x1.2.2.2.2.2.2.2.2.2.2.1,x1.2.2.2.2.2.2.2.2.2.2.2.1,x1.2.2.2.2.2.2.2.2.2.2.2.2.1,x1.2.2.2.2.2.2.2.2.2.2.2.2.2.1,x1.2.2.2.2.2.2.2.2.2.2.2.2.2.2.1,x1.2.2.2.2.2.2.2.2.2.2.2.2.2.2.2.1,x1.2.2.2.2.2.2.2.2.2.2.2.2.2.2.2.2.1,x1.2.2.2.2.2.2.2.2.2.2.2.2.2.2.2.2.2.1,x1.2.2.2.2.2.2.2.2.2.2.2.2.2.2.2.2.2.2.1,x1.2.2.2.2.2.2.2.2.2.2.2.2.2.2.2.2.2.2.2.1,x1.2.2.2.2.2.2.2.2.2.2.2.2.2.2.2.2.2.2.2.2.1,x1.2.2.2.2.2.2.2.2.2.2.2.2.2.2.2.2.2.2.2.2.2.1,x1.2.2.2.2.2.2.2.2.2.2.2.2.2.2.2.2.2.2.2.2.2.2.1,x1.2.2.2.2.2.2.2.2.2.2.2.2.2.2.2.2.2.2.2.2.2.2.2.1,x1.2.2.2.2.2.2.2.2.2.2.2.2.2.2.2.2.2.2.2.2.2.2.2.2.1,x1.2.2.2.2.2.2.2.2.2.2.2.2.2.2.2.2.2.2.2.2.2.2.2.2.2.1,()))
def J6 (a0:ah):Option (ck×Int×Unit):=
 chk (decide (0≤((a0.2.2.2.2.2.2.1.length:Int)))&&decide (((a0.2.2.2.2.2.2.1.length:Int))≤((a0.2.2.2.2.2.2.1.length:Int)))&&decide ((8:Int)*((a0.2.2.2.2.2.2.1.length:Int))≤281474976710656)&&decide (((a0.2.2.2.2.2.2.1.length:Int))≤9223372036854775807)) <|
 chk (decide (0≤((a0.2.2.2.2.2.2.1.length:Int)))&&decide (((a0.2.2.2.2.2.2.1.length:Int))≤((a0.2.2.2.2.2.2.1.length:Int)))&&decide ((1:Int)*((a0.2.2.2.2.2.2.1.length:Int))≤281474976710656)&&decide (((a0.2.2.2.2.2.2.1.length:Int))≤9223372036854775807)) <|
 aO (
  iter (X:=Gc) (β:=Gk) (a0.2.2.2.2.2.2.2.1.length+(Int.natAbs ((a0.2.2.2.2.2.2.2.1.length:Int))+(Int.natAbs (0:Int)+(a0.1.length+(a0.2.1.length+(a0.2.2.1.natAbs+(a0.2.2.2.1.natAbs+(a0.2.2.2.2.1.natAbs+(a0.2.2.2.2.2.2.1.length+(a0.2.2.2.2.2.2.2.1.length+(a0.2.2.2.2.2.2.2.2.length+(List.length ([]:List Int)+(List.length ([]:List Int)+(List.length ([]:List (List Int))+(List.length ([]:List Int)+(List.length ([]:List Int)+(List.length ([]:List Int)+(List.length ([]:List Bool)+(Int.natAbs (0:Int)+(Int.natAbs (0:Int)+(Int.natAbs (0:Int)+(Int.natAbs (0:Int)+(Int.natAbs (0:Int)+(List.length ([]:List Int)+(List.length ([]:List (List Int))+(List.length ([]:List Int)+(List.length ([]:List Int)+(List.length ([]:List Int)+(Int.natAbs (0:Int)+(Int.natAbs (0:Int)+(Int.natAbs (0:Int)+(Int.natAbs (0:Int)+(Int.natAbs (0:Int)+(List.length ((List.replicate (Int.toNat ((a0.2.2.2.2.2.2.1.length:Int))) 0:List (Int)):List Int)+(List.length ((List.replicate (Int.toNat ((a0.2.2.2.2.2.2.1.length:Int))) false:List (Bool)):List Bool)+2))))))))))))))))))))))))))))))))))) (a0.2.2.2.2.2.2.2.1,(a0.2.2.2.2.2.2.2.1.length:Int),0,a0.1,a0.2.1,a0.2.2.1,a0.2.2.2.1,a0.2.2.2.2.1,a0.2.2.2.2.2.1,a0.2.2.2.2.2.2.1,a0.2.2.2.2.2.2.2.1,a0.2.2.2.2.2.2.2.2,[],[],[],[],[],[],[],0,0,0,0,0,[],[],[],[],[],0,0,0,0,0,(List.replicate (Int.toNat ((a0.2.2.2.2.2.2.1.length:Int))) 0:List (Int)),(List.replicate (Int.toNat ((a0.2.2.2.2.2.2.1.length:Int))) false:List (Bool)),()) (vZ)) fun (A,B,C,D,E,F,G,H,I,J,K,L,M,N,O,P,Q,R,S,T,U,V,W,Y,Z,A0,B0,C0,D0,E0,F0,G0,H0,_)=>
 aO (
  iter (X:=DE) (β:=Ev) (Int.natAbs ((G0.length:Int))+(Int.natAbs (0:Int)+(A.length+(B.length+(C.natAbs+(D.natAbs+(E.natAbs+(G.length+(H.length+(I.length+(J.length+(K.length+(L.length+(M.length+(N.length+(O.length+(P.length+(Q.natAbs+(R.natAbs+(S.natAbs+(T.natAbs+(U.natAbs+(V.length+(W.length+(Y.length+(Z.length+(A0.length+(B0.natAbs+(C0.natAbs+(D0.natAbs+(E0.natAbs+(F0.natAbs+(G0.length+(H0.length+2)))))))))))))))))))))))))))))))))) ((G0.length:Int),0,A,B,C,D,E,F,G,H,I,J,K,L,M,N,O,P,Q,R,S,T,U,V,W,Y,Z,A0,B0,C0,D0,E0,F0,G0,H0,()) (sY)) fun (I0,J0,K0,L0,M0,N0,O0,P0,Q0,R0,S0,T0,U0,V0,W0,X0,Y0,Z0,A1,B1,C1,D1,E1,F1,_,G1,H1,I1,J1,K1,L1,M1,N1,_)=>
 (uZ M1).bind fun r13=>
 aO (
  iter (X:=Eo) (β:=D5) (Q0.length+(Int.natAbs ((Q0.length:Int))+(Int.natAbs (0:Int)+(I0.length+(J0.length+(K0.natAbs+(L0.natAbs+(M0.natAbs+(O0.length+(P0.length+(Q0.length+(R0.length+(S0.length+(T0.length+(U0.length+(V0.length+(W0.length+(X0.length+(Y0.natAbs+(Z0.natAbs+(A1.natAbs+(B1.natAbs+(C1.natAbs+(D1.length+(M1.length+(E1.length+(F1.length+(r13.1.length+(G1.length+(N1.length+(H1.natAbs+(I1.natAbs+(J1.natAbs+(K1.natAbs+(L1.natAbs+2))))))))))))))))))))))))))))))))))) (Q0,(Q0.length:Int),0,I0,J0,K0,L0,M0,N0,O0,P0,Q0,R0,S0,T0,U0,V0,W0,X0,Y0,Z0,A1,B1,C1,D1,M1,E1,F1,r13.1,G1,N1,H1,I1,J1,K1,L1,()) (Dr)) fun (O1,P1,Q1,R1,S1,T1,U1,V1,W1,X1,Y1,Z1,A2,B2,C2,D2,E2,F2,G2,H2,I2,J2,K2,L2,M2,N2,O2,P2,Q2,R2,S2,T2,U2,_)=>
 aO (
  iter (X:=DA) (β:=Eg) (Int.natAbs ((U1.length:Int))+(Int.natAbs (0:Int)+(O1.length+(P1.length+(Q1.natAbs+(R1.natAbs+(S1.natAbs+(U1.length+(V1.length+(W1.length+(X1.length+(Y1.length+(Z1.length+(A2.length+(B2.length+(C2.length+(D2.length+(E2.natAbs+(F2.natAbs+(G2.natAbs+(H2.natAbs+(I2.natAbs+(J2.length+(K2.length+(L2.length+(M2.length+(N2.length+(O2.length+(P2.length+(Q2.natAbs+(R2.natAbs+(S2.natAbs+(T2.natAbs+(U2.natAbs+2)))))))))))))))))))))))))))))))))) ((U1.length:Int),0,O1,P1,Q1,R1,S1,T1,U1,V1,W1,X1,Y1,Z1,A2,B2,C2,D2,E2,F2,G2,H2,I2,J2,K2,L2,M2,N2,O2,P2,Q2,R2,S2,T2,U2,()) (Et)) fun (V2,W2,X2,Y2,Z2,A3,B3,C3,D3,E3,F3,G3,H3,I3,J3,K3,L3,M3,N3,O3,P3,Q3,R3,S3,_)=>
 aO (
  iter (X:=DQ) (β:=DV) (K3.length+(Int.natAbs ((K3.length:Int))+(Int.natAbs (0:Int)+(V2.length+(W2.length+(X2.length+(Y2.length+(Z2.length+(A3.length+(B3.length+(C3.natAbs+(D3.natAbs+(E3.natAbs+(F3.natAbs+(G3.natAbs+(H3.length+(I3.length+(J3.length+(K3.length+(L3.length+(M3.length+(N3.length+(O3.natAbs+(P3.natAbs+(Q3.natAbs+(R3.natAbs+(S3.natAbs+2))))))))))))))))))))))))))) (K3,(K3.length:Int),0,V2,W2,X2,Y2,Z2,A3,B3,C3,D3,E3,F3,G3,H3,I3,J3,K3,L3,M3,N3,O3,P3,Q3,R3,S3,()) (yA)) fun (T3,U3,V3,W3,X3,Y3,Z3,A4,B4,C4,D4,E4,F4,G4,H4,I4,J4,K4,L4,M4,N4,_,O4,_,_)=>
 aO (
  iter (X:=ED) (β:=Ey) (M4.natAbs+(N4.natAbs+(Int.natAbs (w64 (M4+N4))+(O4.natAbs+(Int.natAbs (w64 ((w64 (M4+N4))+O4))+(Int.natAbs (0:Int)+(T3.length+(U3.length+(V3.length+(W3.length+(X3.length+(Y3.length+(Z3.length+(A4.natAbs+(B4.natAbs+(C4.natAbs+(D4.natAbs+(E4.natAbs+(F4.length+(G4.length+(H4.length+(I4.length+(J4.length+(K4.length+(L4.length+(M4.natAbs+(N4.natAbs+(Int.natAbs (w64 (M4+N4))+(O4.natAbs+(Int.natAbs (w64 ((w64 (M4+N4))+O4))+2)))))))))))))))))))))))))))))) ((M4,N4,w64 (M4+N4),O4,w64 ((w64 (M4+N4))+O4)),0,T3,U3,V3,W3,X3,Y3,Z3,A4,B4,C4,D4,E4,F4,G4,H4,I4,J4,K4,L4,M4,N4,w64 (M4+N4),O4,w64 ((w64 (M4+N4))+O4),()) (tH)) fun (_,_,_,_,_,_,_,_,_,_,_,_,P4,Q4,R4,S4,T4,U4,V4,W4,X4,Y4,Z4,A5,_)=>
 some ((P4,Q4,R4,S4,T4,U4,V4,W4,X4,Y4,Z4,A5),0,())
abbrev oS:Type:=ck×(List ak)×(List aB)×Int×Int×Bys×Bys×Int×Int×Int×Bool×(List aB)×(List au)×(List ax)×Unit
abbrev uO:Type:=(((List ak)×Unit) ⊕ ((List ak)×Unit))
def o4 (x1:oS) (again:oS→Option uO):Option uO:=
 bif decide (x1.2.2.2.2.1<x1.2.2.2.1) then
  (idx x1.2.2.1 x1.2.2.2.2.1).bind fun y2=>
  (idx x1.1.2.2.2.2.2.2.1 x1.2.2.2.2.1).bind fun y3=>
  bif y3 then
   (idx x1.1.2.2.2.2.1 x1.2.2.2.2.1).bind fun y4=>
   (se (x1.2.2.2.2.2.1,x1.2.2.2.2.2.2.1,x1.2.2.2.2.2.2.2.1,x1.2.2.2.2.2.2.2.2.1,x1.2.2.2.2.2.2.2.2.2.1,x1.2.2.2.2.2.2.2.2.2.2.1,x1.2.2.2.2.2.2.2.2.2.2.2.1,x1.2.2.2.2.2.2.2.2.2.2.2.2.1,x1.2.2.2.2.2.2.2.2.2.2.2.2.2.1) y4).bind fun r5=>
   (idx x1.1.2.2.2.2.2.1 x1.2.2.2.2.1).bind fun y6=>
   (se (x1.2.2.2.2.2.1,x1.2.2.2.2.2.2.1,x1.2.2.2.2.2.2.2.1,x1.2.2.2.2.2.2.2.2.1,x1.2.2.2.2.2.2.2.2.2.1,x1.2.2.2.2.2.2.2.2.2.2.1,x1.2.2.2.2.2.2.2.2.2.2.2.1,x1.2.2.2.2.2.2.2.2.2.2.2.2.1,x1.2.2.2.2.2.2.2.2.2.2.2.2.2.1) y6).bind fun r7=>
   chk (decide (((x1.2.1.length)+1)*48≤140737488355328)&&decide ((x1.2.1.length)+1≤maxLen)) <|
   again (x1.1,x1.2.1++[(y2.1,r5.1,r7.1)],x1.2.2.1,x1.2.2.2.1,w64 (x1.2.2.2.2.1+1),x1.2.2.2.2.2.1,x1.2.2.2.2.2.2.1,x1.2.2.2.2.2.2.2.1,x1.2.2.2.2.2.2.2.2.1,x1.2.2.2.2.2.2.2.2.2.1,x1.2.2.2.2.2.2.2.2.2.2.1,x1.2.2.2.2.2.2.2.2.2.2.2.1,x1.2.2.2.2.2.2.2.2.2.2.2.2.1,x1.2.2.2.2.2.2.2.2.2.2.2.2.2.1,())
  else
   again (x1.1,x1.2.1,x1.2.2.1,x1.2.2.2.1,w64 (x1.2.2.2.2.1+1),x1.2.2.2.2.2.1,x1.2.2.2.2.2.2.1,x1.2.2.2.2.2.2.2.1,x1.2.2.2.2.2.2.2.2.1,x1.2.2.2.2.2.2.2.2.2.1,x1.2.2.2.2.2.2.2.2.2.2.1,x1.2.2.2.2.2.2.2.2.2.2.2.1,x1.2.2.2.2.2.2.2.2.2.2.2.2.1,x1.2.2.2.2.2.2.2.2.2.2.2.2.2.1,())
 else
  some (.inr (x1.2.1,()))
def sQ (a0:ck) (a1:ah):Option ((List ak)×Unit):=
 aO (
  iter (X:=oS) (β:=uO) (a0.1.length+(a0.2.1.length+(a0.2.2.1.length+(a0.2.2.2.1.length+(a0.2.2.2.2.1.length+(a0.2.2.2.2.2.1.length+(a0.2.2.2.2.2.2.1.length+(a0.2.2.2.2.2.2.2.1.natAbs+(a0.2.2.2.2.2.2.2.2.1.natAbs+(a0.2.2.2.2.2.2.2.2.2.1.natAbs+(a0.2.2.2.2.2.2.2.2.2.2.1.natAbs+(a0.2.2.2.2.2.2.2.2.2.2.2.natAbs+(List.length ([]:List ak)+(a1.2.2.2.2.2.2.1.length+(Int.natAbs ((a1.2.2.2.2.2.2.1.length:Int))+(Int.natAbs (0:Int)+(a1.1.length+(a1.2.1.length+(a1.2.2.1.natAbs+(a1.2.2.2.1.natAbs+(a1.2.2.2.2.1.natAbs+(a1.2.2.2.2.2.2.1.length+(a1.2.2.2.2.2.2.2.1.length+(a1.2.2.2.2.2.2.2.2.length+2)))))))))))))))))))))))) (a0,[],a1.2.2.2.2.2.2.1,(a1.2.2.2.2.2.2.1.length:Int),0,a1.1,a1.2.1,a1.2.2.1,a1.2.2.2.1,a1.2.2.2.2.1,a1.2.2.2.2.2.1,a1.2.2.2.2.2.2.1,a1.2.2.2.2.2.2.2.1,a1.2.2.2.2.2.2.2.2,()) (o4)) fun v8=>
 some (v8.1,())
def CZ (a0:ah):Option ((List ak)×Int×Unit):=
 (kU a0).bind fun r1=>
 bif r1.1 != 0 then
  some ([],r1.1,())
 else
  (J6 a0).bind fun r2=>
  bif r2.2.1 != 0 then
   some ([],r2.2.1,())
  else
   (sQ r2.1 a0).bind fun r3=>
   some (r3.1,0,())
def It (a0:ah):Option (bP×Int×Unit):=
 (kU a0).bind fun r1=>
 bif r1.1 != 0 then
  some (((0,0),(0,0),(0,0),(0,0),0,0),r1.1,())
 else
  (J6 a0).bind fun r2=>
  bif r2.2.1 != 0 then
   some (((0,0),(0,0),(0,0),(0,0),0,0),r2.2.1,())
  else
   (se a0 r2.1.2.2.2.2.2.2.2.1).bind fun r3=>
   (se a0 r2.1.2.2.2.2.2.2.2.2.1).bind fun r4=>
   (se a0 r2.1.2.2.2.2.2.2.2.2.2.1).bind fun r5=>
   (se a0 r2.1.2.2.2.2.2.2.2.2.2.2.1).bind fun r6=>
   (se a0 r2.1.2.2.2.2.2.2.2.2.2.2.2).bind fun r7=>
   some ((r3.1,r4.1,r5.1,r6.1,r7.1),0,())
end Go.Md
namespace Go.Md
open Go.Dn
def lf (a0:List aB):Option ((List aB)×Unit):=
 bif List.isEmpty a0 then
  both (
   some ([],())) (
   chk (decide ((0+(a0.length))*32≤140737488355328)&&decide (0+(a0.length)≤maxLen)) <|
   some (a0,()))
 else
  chk (decide ((0+(a0.length))*32≤140737488355328)&&decide (0+(a0.length)≤maxLen)) <|
  some (a0,())
def ez (a0:List au):Option ((List au)×Unit):=
 bif List.isEmpty a0 then
  both (
   some ([],())) (
   chk (decide ((0+(a0.length))*128≤140737488355328)&&decide (0+(a0.length)≤maxLen)) <|
   some (a0,()))
 else
  chk (decide ((0+(a0.length))*128≤140737488355328)&&decide (0+(a0.length)≤maxLen)) <|
  some (a0,())
def kG (a0:List ax):Option ((List ax)×Unit):=
 bif List.isEmpty a0 then
  both (
   some ([],())) (
   chk (decide ((0+(a0.length))*40≤140737488355328)&&decide (0+(a0.length)≤maxLen)) <|
   some (a0,()))
 else
  chk (decide ((0+(a0.length))*40≤140737488355328)&&decide (0+(a0.length)≤maxLen)) <|
  some (a0,())
def DS (a0:aj):Option (aj×Unit):=
 some ((w64 (0 - a0.1),a0.2),())
abbrev pY:Type:=Int×Int×(List ax)×Unit
abbrev Ca:Type:=(((List ax)×Unit) ⊕ ((List ax)×Unit))
def vq (x1:pY) (again:pY→Option Ca):Option Ca:=
 match x1 with
 | (A,B,C,_)=>
 bif decide (B<A) then
  chk (decide (0≤B)&&decide (B<(C.length:Int))) <|
  (C[B.toNat]?).bind fun y2=>
  bif !y2.1 then
   (DS y2.2.1).bind fun r3=>
   chk (decide (0≤B)&&decide (B<(C.length:Int))) <|
   (C[B.toNat]?).bind fun y4=>
   again (A,w64 (B+1),List.set C B.toNat (y4.1,r3.1,y4.2.2),())
  else
   again (A,w64 (B+1),C,())
 else
  some (.inr (C,()))
def oy (a0:List ax):Option ((List ax)×Unit):=
 (kG a0).bind fun r1=>
 aO (
  iter (X:=pY) (β:=Ca) (Int.natAbs ((r1.1.length:Int))+(Int.natAbs (0:Int)+(r1.1.length+2))) ((r1.1.length:Int),0,r1.1,()) (vq)) fun v6=>
 some (v6.1,())
abbrev oM:Type:=Int×Int×Bys×Bys×Int×Int×Int×Bool×(List aB)×(List au)×(List ax)×Bys×Bys×Int×Int×Int×Bool×(List aB)×(List ax)×(List au)×Unit
abbrev Au:Type:=((ah×Int×Unit) ⊕ (Bys×Bys×Int×Int×Int×Bool×(List aB)×(List au)×(List ax)×Bys×Bys×Int×Int×Int×Bool×(List aB)×(List ax)×(List au)×Unit))
def oH (x1:oM) (again:oM→Option Au):Option Au:=
 match x1 with
 | (A,B,C,D,E,F,G,H,I,J,K,L,M,N,O,P,Q,R,S,T,_)=>
 bif decide (B<A) then
  chk (decide (0≤B)&&decide (B<(T.length:Int))) <|
  (T[B.toNat]?).bind fun y2=>
  (DS y2.2.2.2.1).bind fun r3=>
  (oy y2.2.2.2.2.2.2.2.1).bind fun r4=>
  chk (decide (0≤B)&&decide (B<(T.length:Int))) <|
  (T[B.toNat]?).bind fun y5=>
  chk (decide (0≤B)&&decide (B<(List.length (List.set T B.toNat (y5.1,y5.2.1,y5.2.2.1,r3.1,y5.2.2.2.2)):Int))) <|
  ((List.set T B.toNat (y5.1,y5.2.1,y5.2.2.1,r3.1,y5.2.2.2.2))[B.toNat]?).bind fun y6=>
  again (A,w64 (B+1),C,D,E,F,G,H,I,J,K,L,M,N,O,P,Q,R,S,List.set (List.set T B.toNat (y5.1,y5.2.1,y5.2.2.1,r3.1,y5.2.2.2.2)) B.toNat (y6.1,y6.2.1,y6.2.2.1,y6.2.2.2.1,y6.2.2.2.2.1,y6.2.2.2.2.2.1,y6.2.2.2.2.2.2.1,r4.1,y6.2.2.2.2.2.2.2.2),())
 else
  some (.inr (C,D,E,F,G,H,I,J,K,L,M,N,O,P,Q,R,S,T,()))
def Bi (a0:ah) (a1:Bys) (a2:Int):Option (ah×Int×Unit):=
 (mh a0).bind fun r1=>
 bif r1.1 != 0 then
  some (([],[],0,0,0,false,[],[],[]),r1.1,())
 else
  (gd a1).bind fun r2=>
  bif !r2.1 then
   some (([],[],0,0,0,false,[],[],[]),5,())
  else
   bif a1==a0.1 then
    some (([],[],0,0,0,false,[],[],[]),12,())
   else
    (cD a2 a0.2.2.1 3652059).bind fun r3=>
    bif r3.1 then
     some (([],[],0,0,0,false,[],[],[]),1,())
    else
     (lf a0.2.2.2.2.2.2.1).bind fun r4=>
     (ez a0.2.2.2.2.2.2.2.1).bind fun r5=>
     (oy a0.2.2.2.2.2.2.2.2).bind fun r6=>
     aO (
      iter (X:=oM) (β:=Au) (Int.natAbs ((r5.1.length:Int))+(Int.natAbs (0:Int)+(List.length ([]:Bys)+(List.length ([]:Bys)+(Int.natAbs (0:Int)+(Int.natAbs (0:Int)+(Int.natAbs (0:Int)+(List.length ([]:List aB)+(List.length ([]:List au)+(List.length ([]:List ax)+(a1.length+(a0.2.1.length+(a2.natAbs+(a0.2.2.2.1.natAbs+(a0.2.2.2.2.1.natAbs+(r4.1.length+(r6.1.length+(r5.1.length+2)))))))))))))))))) ((r5.1.length:Int),0,[],[],0,0,0,false,[],[],[],a1,a0.2.1,a2,a0.2.2.2.1,a0.2.2.2.2.1,a0.2.2.2.2.2.1,r4.1,r6.1,r5.1,()) (oH)) fun (_,_,_,_,_,_,_,_,_,A,B,C,D,E,F,G,H,I,_)=>
     (mh (A,B,C,D,E,F,G,I,H)).bind fun r14=>
     bif r14.1 != 0 then
      some (([],[],0,0,0,false,[],[],[]),r14.1,())
     else
      some ((A,B,C,D,E,F,G,I,H),0,())
abbrev lC:Type:=(List ax)×(List ax)×Int×Int×Unit
abbrev oX:Type:=((Bool×Unit) ⊕ Unit)
def lD (x1:lC) (again:lC→Option oX):Option oX:=
 match x1 with
 | (A,B,C,D,_)=>
 bif decide (D<C) then
  (idx A D).bind fun y2=>
  (idx B D).bind fun y3=>
  bif !((y2.1==y3.1)&&(((y2.2.1.1==y3.2.1.1)&&((y2.2.1.2==y3.2.1.2)&&true))&&((y2.2.2==y3.2.2)&&true))) then
   some (.inl (false,()))
  else
   again (A,B,C,w64 (D+1),())
 else
  some (.inr ())
def kI (a0:List ax) (a1:List ax):Option (Bool×Unit):=
 bif ((a0.length:Int)) != ((a1.length:Int)) then
  some (false,())
 else
  aO (
   iter (X:=lC) (β:=oX) (a0.length+(a1.length+(Int.natAbs ((a0.length:Int))+(Int.natAbs (0:Int)+2)))) (a0,a1,(a0.length:Int),0,()) (lD)) fun _=>
  some (true,())
abbrev lQ:Type:=(List aB)×(List aB)×Int×Int×Unit
abbrev pN:Type:=((Bool×Unit) ⊕ Unit)
def lX (x1:lQ) (again:lQ→Option pN):Option pN:=
 match x1 with
 | (A,B,C,D,_)=>
 bif decide (D<C) then
  (idx A D).bind fun y2=>
  (idx B D).bind fun y3=>
  bif !((y2.1==y3.1)&&(((y2.2.1==y3.2.1)&&((y2.2.2==y3.2.2)&&true))&&true)) then
   some (.inl (false,()))
  else
   again (A,B,C,w64 (D+1),())
 else
  some (.inr ())
def n9 (a0:List aB) (a1:List aB):Option (Bool×Unit):=
 bif ((a0.length:Int)) != ((a1.length:Int)) then
  some (false,())
 else
  aO (
   iter (X:=lQ) (β:=pN) (a0.length+(a1.length+(Int.natAbs ((a0.length:Int))+(Int.natAbs (0:Int)+2)))) (a0,a1,(a0.length:Int),0,()) (lX)) fun _=>
  some (true,())
abbrev AB:Type:=(List au)×Int×Int×Bys×Bys×Int×Int×Int×Bool×(List aB)×(List au)×(List ax)×Bys×Bys×Int×Int×Int×Bool×(List aB)×(List au)×(List ax)×Unit
abbrev Lu:Type:=((Bool×Unit) ⊕ (Bys×Bys×Int×Int×Int×Bool×(List aB)×(List au)×(List ax)×Bys×Bys×Int×Int×Int×Bool×(List aB)×(List au)×(List ax)×Unit))
def Gr (x1:AB) (again:AB→Option Lu):Option Lu:=
 match x1 with
 | (A,B,C,D,E,F,G,H,I,J,K,L,M,N,O,P,Q,R,S,T,U,_)=>
 bif decide (C<B) then
  (idx A C).bind fun y2=>
  (idx T C).bind fun y3=>
  bif y2.1 != y3.1 then
   some (.inl (false,()))
  else
   bif y2.2.1 != y3.2.1 then
    some (.inl (false,()))
   else
    bif !(y2.2.2.1==y3.2.2.1) then
     some (.inl (false,()))
    else
     bif !((y2.2.2.2.1.1==y3.2.2.2.1.1)&&((y2.2.2.2.1.2==y3.2.2.2.1.2)&&true)) then
      some (.inl (false,()))
     else
      bif !(y2.2.2.2.2.1==y3.2.2.2.2.1) then
       some (.inl (false,()))
      else
       bif !((y2.2.2.2.2.2.1.1==y3.2.2.2.2.2.1.1)&&((y2.2.2.2.2.2.1.2==y3.2.2.2.2.2.1.2)&&true)) then
        some (.inl (false,()))
       else
        bif y2.2.2.2.2.2.2.1 != y3.2.2.2.2.2.2.1 then
         some (.inl (false,()))
        else
         bif !(y2.2.2.2.2.2.2.2.2==y3.2.2.2.2.2.2.2.2) then
          some (.inl (false,()))
         else
          (kI y2.2.2.2.2.2.2.2.1 y3.2.2.2.2.2.2.2.1).bind fun r4=>
          bif !r4.1 then
           some (.inl (false,()))
          else
           again (A,B,w64 (C+1),D,E,F,G,H,I,J,K,L,M,N,O,P,Q,R,S,T,U,())
 else
  some (.inr (D,E,F,G,H,I,J,K,L,M,N,O,P,Q,R,S,T,U,()))
def Fg (a0:ah) (a1:ah):Option (Bool×Unit):=
 bif !(a0.1==a1.1) then
  some (false,())
 else
  bif !(a0.2.1==a1.2.1) then
   some (false,())
  else
   bif a0.2.2.1 != a1.2.2.1 then
    some (false,())
   else
    bif a0.2.2.2.1 != a1.2.2.2.1 then
     some (false,())
    else
     bif a0.2.2.2.2.1 != a1.2.2.2.2.1 then
      some (false,())
     else
      bif !(a0.2.2.2.2.2.1==a1.2.2.2.2.2.1) then
       some (false,())
      else
       bif ((a0.2.2.2.2.2.2.2.1.length:Int)) != ((a1.2.2.2.2.2.2.2.1.length:Int)) then
        some (false,())
       else
        aO (
         iter (X:=AB) (β:=Lu) (a0.2.2.2.2.2.2.2.1.length+(Int.natAbs ((a0.2.2.2.2.2.2.2.1.length:Int))+(Int.natAbs (0:Int)+(a0.1.length+(a0.2.1.length+(a0.2.2.1.natAbs+(a0.2.2.2.1.natAbs+(a0.2.2.2.2.1.natAbs+(a0.2.2.2.2.2.2.1.length+(a0.2.2.2.2.2.2.2.1.length+(a0.2.2.2.2.2.2.2.2.length+(a1.1.length+(a1.2.1.length+(a1.2.2.1.natAbs+(a1.2.2.2.1.natAbs+(a1.2.2.2.2.1.natAbs+(a1.2.2.2.2.2.2.1.length+(a1.2.2.2.2.2.2.2.1.length+(a1.2.2.2.2.2.2.2.2.length+2))))))))))))))))))) (a0.2.2.2.2.2.2.2.1,(a0.2.2.2.2.2.2.2.1.length:Int),0,a0.1,a0.2.1,a0.2.2.1,a0.2.2.2.1,a0.2.2.2.2.1,a0.2.2.2.2.2.1,a0.2.2.2.2.2.2.1,a0.2.2.2.2.2.2.2.1,a0.2.2.2.2.2.2.2.2,a1.1,a1.2.1,a1.2.2.1,a1.2.2.2.1,a1.2.2.2.2.1,a1.2.2.2.2.2.1,a1.2.2.2.2.2.2.1,a1.2.2.2.2.2.2.2.1,a1.2.2.2.2.2.2.2.2,()) (Gr)) fun (_,_,_,_,_,_,A,_,B,_,_,_,_,_,_,C,_,D,_)=>
        (n9 A C).bind fun r6=>
        bif r6.1 then
         (kI B D).bind fun r7=>
         some (r7.1,())
        else
         some (false,())
def GD (a0:aj):Option (aj×Unit):=
 some ((w64 (0 - a0.1),a0.2),())
end Go.Md
namespace Go.Md
open Go.Dn
abbrev slices_Sort_string:=Ih
abbrev slices_Compact_string:=IA
abbrev mE:Type:=(List aj)×Int×Int×Unit
abbrev mF:Type:=((Int×Unit) ⊕ Unit)
def jF (x1:mE) (again:mE→Option mF):Option mF:=
 bif decide (x1.2.2.1<x1.2.1) then
  (idx x1.1 x1.2.2.1).bind fun y2=>
  (cl y2).bind fun r3=>
  bif r3.1 != 0 then
   some (.inl (r3.1,()))
  else
   again (x1.1,x1.2.1,w64 (x1.2.2.1+1),())
 else
  some (.inr ())
def dD (a0:List aj):Option (Int×Unit):=
 aO (
  iter (X:=mE) (β:=mF) (a0.length+(Int.natAbs ((a0.length:Int))+(Int.natAbs (0:Int)+2))) (a0,(a0.length:Int),0,()) (jF)) fun _=>
 some (0,())
abbrev ki:Type:=(List ak)×(List ak)×Int×Int×Unit
abbrev qa:Type:=((Int×Unit) ⊕ Unit)
def gB (x1:ki) (again:ki→Option qa):Option qa:=
 match x1 with
 | (A,B,C,D,_)=>
 bif decide (D<C) then
  (idx B D).bind fun y2=>
  (gd y2.1).bind fun r3=>
  bif !r3.1 then
   some (.inl (5,()))
  else
   bif decide (D>0) then
    (idx A (w64 (D - 1))).bind fun y4=>
    bif Op.bytesLess y2.1 y4.1||y2.1==y4.1 then
     some (.inl (8,()))
    else
     (dD [y2.2.1,y2.2.2]).bind fun r5=>
     bif r5.1 != 0 then
      some (.inl (r5.1,()))
     else
      again (A,B,C,w64 (D+1),())
   else
    (dD [y2.2.1,y2.2.2]).bind fun r6=>
    bif r6.1 != 0 then
     some (.inl (r6.1,()))
    else
     again (A,B,C,w64 (D+1),())
 else
  some (.inr ())
def jr (a0:bP) (a1:List ak):Option (Int×Unit):=
 (dD [a0.1,a0.2.1,a0.2.2.1,a0.2.2.2.1,a0.2.2.2.2]).bind fun r1=>
 bif r1.1 != 0 then
  some (r1.1,())
 else
  bif decide (((a1.length:Int))>20) then
   some (2,())
  else
   aO (
    iter (X:=ki) (β:=qa) (a1.length+(a1.length+(Int.natAbs ((a1.length:Int))+(Int.natAbs (0:Int)+2)))) (a1,a1,(a1.length:Int),0,()) (gB)) fun _=>
   some (0,())
def yb (a0:aj):Option (aa×Unit):=
 (ou a0 9).bind fun r1=>
 some (r1.1,())
def er (a0:List bz) (a1:Int) (a2:Bys) (a3:aj) (a4:aj):Option ((List bz)×Unit):=
 (yb a3).bind fun r1=>
 (yb a4).bind fun r2=>
 (mj r1.1 r2.1).bind fun r3=>
 bif r3.1==0 then
  some (a0,())
 else
  chk (decide (((a0.length)+1)*56≤140737488355328)&&decide ((a0.length)+1≤maxLen)) <|
  some (a0++[(a1,a2,a3,a4)],())
abbrev tK:Type:=(Option Nat)×(List Bys)×(List ak)×Int×Int×Bys×Bys×Int×Int×Int×Bool×(List aB)×(List au)×(List ax)×(List bz)×(List (Bys×ak))×(List (Bys×ak))×(List bZ)×Unit
abbrev zw:Type:=(((List bz)×Int×Unit) ⊕ ((Option Nat)×(List Bys)×Bys×Bys×Int×Int×Int×Bool×(List aB)×(List au)×(List ax)×(List bz)×(List (Bys×ak))×(List (Bys×ak))×(List bZ)×Unit))
def ug (x1:tK) (again:tK→Option zw):Option zw:=
 match x1 with
 | (A,B,C,D,E,F,G,H,I,J,K,L,M,N,O,P,Q,R,_)=>
 bif decide (E<D) then
  (idx C E).bind fun y2=>
  chk (decide (((B.length)+1)*16≤140737488355328)&&decide ((B.length)+1≤maxLen)) <|
  again (A,B++[y2.1],C,D,w64 (E+1),F,G,H,I,J,K,L,M,N,O,vi (k:= .str) (v:=aL) P y2.1 y2,Q,R,())
 else
  some (.inr (A,B,F,G,H,I,J,K,L,M,N,O,P,Q,R,()))
abbrev tW:Type:=(List Bys)×Int×Int×Bys×Bys×Int×Int×Int×Bool×(List aB)×(List au)×(List ax)×(List bz)×(List ak)×(List (Bys×ak))×(List (Bys×ak))×(List bZ)×Unit
abbrev zE:Type:=(((List bz)×Int×Unit) ⊕ ((List Bys)×Bys×Bys×Int×Int×Int×Bool×(List aB)×(List au)×(List ax)×(List bz)×(List (Bys×ak))×(List (Bys×ak))×(List bZ)×Unit))
def s7 (x1:tW) (again:tW→Option zE):Option zE:=
 match x1 with
 | (A,B,C,D,E,F,G,H,I,J,K,L,M,N,O,P,Q,_)=>
 bif decide (C<B) then
  chk (decide (0≤C)&&decide (C<(N.length:Int))) <|
  (N[C.toNat]?).bind fun y2=>
  chk (decide (((A.length)+1)*16≤140737488355328)&&decide ((A.length)+1≤maxLen)) <|
  again (A++[y2.1],B,w64 (C+1),D,E,F,G,H,I,J,K,L,M,N,O,vi (k:= .str) (v:=aL) P y2.1 y2,Q,())
 else
  some (.inr (A,D,E,F,G,H,I,J,K,L,M,O,P,Q,()))
abbrev tV:Type:=(List bz)×Int×Int×Int×Int×(List Bys)×(List (Bys×ak))×(List (Bys×ak))×(List bZ)×Unit
abbrev za:Type:=(((List bz)×Int×Unit) ⊕ ((List bz)×(List bZ)×Unit))
def th (x1:tV) (again:tV→Option za):Option za:=
 match x1 with
 | (A,B,C,D,E,F,G,H,I,_)=>
 bif decide (C<B) then
  chk (decide (0≤C)&&decide (C<(F.length:Int))) <|
  (F[C.toNat]?).bind fun y2=>
  aO (γ:=((List bz)×Bys×Int×Int×Int×Int×Bys×Int×Int×Int×Int×(List Bys)×(List (Bys×ak))×(List (Bys×ak))×(List bZ)×Unit)) (
   bif !(Option.isSome (jP (k:= .str) (v:=aL) H y2)) then
    some (.inr (A,y2,B,C,D,E,(Option.getD (α:=ak) (jP (k:= .str) (v:=aL) H y2) ([],(0,0),0,0)).1,D,E,D,E,F,G,H,I,()))
   else
    some (.inr (A,y2,B,C,D,E,(Option.getD (α:=ak) (jP (k:= .str) (v:=aL) H y2) ([],(0,0),0,0)).1,(Option.getD (α:=ak) (jP (k:= .str) (v:=aL) H y2) ([],(0,0),0,0)).2.1.1,(Option.getD (α:=ak) (jP (k:= .str) (v:=aL) H y2) ([],(0,0),0,0)).2.1.2,(Option.getD (α:=ak) (jP (k:= .str) (v:=aL) H y2) ([],(0,0),0,0)).2.2.1,(Option.getD (α:=ak) (jP (k:= .str) (v:=aL) H y2) ([],(0,0),0,0)).2.2.2,F,G,H,I,()))) fun (J,K,L,M,N,O,_,P,Q,R,S,T,U,V,W,_)=>
  (er J 6 K (Option.getD (α:=ak) (jP (k:= .str) (v:=aL) U K) ([],(0,0),0,0)).2.1 (P,Q)).bind fun r4=>
  (er r4.1 4 K (Option.getD (α:=ak) (jP (k:= .str) (v:=aL) U K) ([],(0,0),0,0)).2.2 (R,S)).bind fun r5=>
  again (r5.1,L,w64 (M+1),N,O,T,U,V,W,())
 else
  some (.inr (A,I,()))
def qS (a0:ah) (a1:bP) (a2:List ak):Option ((List bz)×Int×Unit):=
 (m7 a0 []).bind fun r1=>
 bif r1.2.1 != 0 then
  some ([],r1.2.1,())
 else
  (sS r1.1 r1.2.2.1).bind fun r2=>
  bif r2.2.1 != 0 then
   some ([],r2.2.1,())
  else
   (jr a1 a2).bind fun r3=>
   bif r3.1 != 0 then
    some ([],r3.1,())
   else
    (er [] 1 [] a1.1 r2.1.1).bind fun r4=>
    (er r4.1 2 [] a1.2.1 r2.1.2.1).bind fun r5=>
    (er r5.1 3 [] a1.2.2.1 r2.1.2.2.1).bind fun r6=>
    (er r6.1 4 [] a1.2.2.2.1 r2.1.2.2.2.1).bind fun r7=>
    (er r7.1 5 [] a1.2.2.2.2 r2.1.2.2.2.2).bind fun r8=>
    aO (
     iter (X:=tK) (β:=zw) (List.length ([]:List Bys)+(a2.length+(Int.natAbs ((a2.length:Int))+(Int.natAbs (0:Int)+(a0.1.length+(a0.2.1.length+(a0.2.2.1.natAbs+(a0.2.2.2.1.natAbs+(a0.2.2.2.2.1.natAbs+(a0.2.2.2.2.2.2.1.length+(a0.2.2.2.2.2.2.2.1.length+(a0.2.2.2.2.2.2.2.2.length+(r8.1.length+(List.length ([]:List (Bys×ak))+(List.length ([]:List (Bys×ak))+(r1.2.2.1.length+2)))))))))))))))) (r1.1,[],a2,(a2.length:Int),0,a0.1,a0.2.1,a0.2.2.1,a0.2.2.2.1,a0.2.2.2.2.1,a0.2.2.2.2.2.1,a0.2.2.2.2.2.2.1,a0.2.2.2.2.2.2.2.1,a0.2.2.2.2.2.2.2.2,r8.1,[],[],r1.2.2.1,()) (ug)) fun (A,B,C,D,E,F,G,H,I,J,K,L,M,N,O,_)=>
    (wS A O).bind fun r12=>
    aO (
     iter (X:=tW) (β:=zE) (B.length+(Int.natAbs ((r12.1.length:Int))+(Int.natAbs (0:Int)+(C.length+(D.length+(E.natAbs+(F.natAbs+(G.natAbs+(I.length+(J.length+(K.length+(L.length+(r12.1.length+(M.length+(N.length+(O.length+2)))))))))))))))) (B,(r12.1.length:Int),0,C,D,E,F,G,H,I,J,K,L,r12.1,M,N,O,()) (s7)) fun (P,_,_,_,Q,_,_,_,_,_,R,S,T,U,_)=>
    (slices_Sort_string P).bind fun r16=>
    (slices_Compact_string r16.1).bind fun r17=>
    aO (
     iter (X:=tV) (β:=za) (R.length+(Int.natAbs ((r17.1.length:Int))+(Int.natAbs (0:Int)+(Int.natAbs (0:Int)+(Q.natAbs+(r17.1.length+(S.length+(T.length+(U.length+2))))))))) (R,(r17.1.length:Int),0,0,Q,r17.1,S,T,U,()) (th)) fun v23=>
    some (v23.1,0,())
end Go.Md
namespace Go.Md
open Go.Dn
abbrev rU (l:List ak) (n:Int):Option (List ak×Unit):=Sy 48 l n
def Fu (a0:bP):Option ((List aj)×Unit):=
 some ([a0.1,a0.2.1,a0.2.2.1,a0.2.2.2.1,a0.2.2.2.2],())
abbrev ir:Type:=(List (List ak))×Int×(List (List ak))×Int×Int×Unit
abbrev nV:Type:=(((List ak)×Unit) ⊕ ((List (List ak))×Int×Unit))
def ij (x1:ir) (again:ir→Option nV):Option nV:=
 match x1 with
 | (A,B,C,D,E,_)=>
 bif decide (E<D) then
  (idx C E).bind fun y2=>
  bif decide ((w64 (B+((y2.length:Int))))<0) then
   none
  else
   again (A,w64 (B+((y2.length:Int))),C,D,w64 (E+1),())
 else
  some (.inr (A,B,()))
abbrev gP:Type:=(List ak)×(List (List ak))×Int×Int×Unit
abbrev mZ:Type:=(((List ak)×Unit) ⊕ ((List ak)×Unit))
def gM (x1:gP) (again:gP→Option mZ):Option mZ:=
 match x1 with
 | (A,B,C,D,_)=>
 bif decide (D<C) then
  (idx B D).bind fun y2=>
  chk (decide (((A.length)+(y2.length))*48≤140737488355328)&&decide ((A.length)+(y2.length)≤maxLen)) <|
  again (A++y2,B,C,w64 (D+1),())
 else
  some (.inr (A,()))
def lY (a0:List (List ak)):Option ((List ak)×Unit):=
 aO (
  iter (X:=ir) (β:=nV) (a0.length+(Int.natAbs (0:Int)+(a0.length+(Int.natAbs ((a0.length:Int))+(Int.natAbs (0:Int)+2))))) (a0,0,a0,(a0.length:Int),0,()) (ij)) fun (A,B,_)=>
 (rU [] B).bind fun r4=>
 aO (
  iter (X:=gP) (β:=mZ) (r4.1.length+(A.length+(Int.natAbs ((A.length:Int))+(Int.natAbs (0:Int)+2)))) (r4.1,A,(A.length:Int),0,()) (gM)) fun v7=>
 some (v7.1,())
abbrev DY:Type:=Bys×(List ak)×Int×Int×Int×Int×Bys×Int×Int×Int×Int×Unit
abbrev Jv:Type:=((ak×Unit) ⊕ (Bys×Int×Int×Bys×Int×Int×Int×Int×Unit))
def yh (x1:DY) (again:DY→Option Jv):Option Jv:=
 match x1 with
 | (A,B,C,D,E,F,G,H,I,J,K,_)=>
 bif decide (D<C) then
  (idx B D).bind fun y2=>
  bif y2.1==A then
   some (.inl (y2,()))
  else
   again (A,B,C,w64 (D+1),E,F,G,H,I,J,K,())
 else
  some (.inr (A,E,F,G,H,I,J,K,()))
def GZ (a0:List ak) (a1:Bys) (a2:aj):Option (ak×Unit):=
 aO (
  iter (X:=DY) (β:=Jv) (a1.length+(a0.length+(Int.natAbs ((a0.length:Int))+(Int.natAbs (0:Int)+(a2.1.natAbs+(a2.2.natAbs+(List.length ([]:Bys)+(Int.natAbs (0:Int)+(Int.natAbs (0:Int)+(Int.natAbs (0:Int)+(Int.natAbs (0:Int)+2))))))))))) (a1,a0,(a0.length:Int),0,a2.1,a2.2,[],0,0,0,0,()) (yh)) fun v3=>
 some ((v3.1,(v3.2.1,v3.2.2.1),v3.2.1,v3.2.2.1),())
abbrev yq:Type:=(List ak)×(List aj)×Int×Int×Bys×Bys×Int×Int×Int×Bool×(List aB)×(List au)×(List ax)×Int×Int×Int×Int×Int×Int×Int×Int×Int×Int×Int×Int×Int×Int×Int×Int×Int×Int×Int×Int×Unit
abbrev Es:Type:=(((List bz)×Int×Unit) ⊕ ((List ak)×Bys×Bys×Int×Int×Int×Bool×(List aB)×(List au)×(List ax)×Int×Int×Int×Int×Int×Int×Int×Int×Int×Int×Int×Int×Int×Int×Int×Int×Int×Int×Int×Int×Unit))
def s4 (x1:yq) (again:yq→Option Es):Option Es:=
 match x1 with
 | (A,B,C,D,E,F,G,H,I,J,K,L,M,N,O,P,Q,R,S,T,U,V,W,X,Y,Z,A0,B0,C0,D0,E0,F0,G0,_)=>
 bif decide (D<C) then
  (idx B D).bind fun y2=>
  (di y2).bind fun r3=>
  bif r3.1 != 0 then
   some (.inl ([],r3.1,()))
  else
   again (A,B,C,w64 (D+1),E,F,G,H,I,J,K,L,M,N,O,P,Q,R,S,T,U,V,W,X,Y,Z,A0,B0,C0,D0,E0,F0,G0,())
 else
  some (.inr (A,E,F,G,H,I,J,K,L,M,N,O,P,Q,R,S,T,U,V,W,X,Y,Z,A0,B0,C0,D0,E0,F0,G0,()))
abbrev vr:Type:=(List ak)×(List ak)×Int×Int×Bys×Bys×Int×Int×Int×Bool×(List aB)×(List au)×(List ax)×Int×Int×Int×Int×Int×Int×Int×Int×Int×Int×Int×Int×Int×Int×Int×Int×Int×Int×Int×Int×Unit
abbrev BX:Type:=(((List bz)×Int×Unit) ⊕ ((List ak)×Bys×Bys×Int×Int×Int×Bool×(List aB)×(List au)×(List ax)×Int×Int×Int×Int×Int×Int×Int×Int×Int×Int×Int×Int×Int×Int×Int×Int×Int×Int×Int×Int×Unit))
def qy (x1:vr) (again:vr→Option BX):Option BX:=
 match x1 with
 | (A,B,C,D,E,F,G,H,I,J,K,L,M,N,O,P,Q,R,S,T,U,V,W,X,Y,Z,A0,B0,C0,D0,E0,F0,G0,_)=>
 bif decide (D<C) then
  (idx B D).bind fun y2=>
  (mu y2.1).bind fun r3=>
  bif !r3.1 then
   some (.inl ([],5,()))
  else
   bif decide (D>0) then
    (idx A (w64 (D - 1))).bind fun y4=>
    bif Op.bytesLess y2.1 y4.1||y2.1==y4.1 then
     some (.inl ([],8,()))
    else
     (di y2.2.1).bind fun r5=>
     bif r5.1 != 0 then
      some (.inl ([],1,()))
     else
      (di y2.2.2).bind fun r6=>
      bif r6.1 != 0 then
       some (.inl ([],1,()))
      else
       again (A,B,C,w64 (D+1),E,F,G,H,I,J,K,L,M,N,O,P,Q,R,S,T,U,V,W,X,Y,Z,A0,B0,C0,D0,E0,F0,G0,())
   else
    (di y2.2.1).bind fun r7=>
    bif r7.1 != 0 then
     some (.inl ([],1,()))
    else
     (di y2.2.2).bind fun r8=>
     bif r8.1 != 0 then
      some (.inl ([],1,()))
     else
      again (A,B,C,w64 (D+1),E,F,G,H,I,J,K,L,M,N,O,P,Q,R,S,T,U,V,W,X,Y,Z,A0,B0,C0,D0,E0,F0,G0,())
 else
  some (.inr (A,E,F,G,H,I,J,K,L,M,N,O,P,Q,R,S,T,U,V,W,X,Y,Z,A0,B0,C0,D0,E0,F0,G0,()))
abbrev vG:Type:=(List ak)×(List bz)×(List aj)×Int×Int×Bys×Bys×Int×Int×Int×Bool×(List aB)×(List au)×(List ax)×Int×Int×Int×Int×Int×Int×Int×Int×Int×Int×Unit
abbrev Bm:Type:=(((List bz)×Int×Unit) ⊕ ((List ak)×(List bz)×Bys×Bys×Int×Int×Int×Bool×(List aB)×(List au)×(List ax)×Unit))
def vF (x1:vG) (again:vG→Option Bm):Option Bm:=
 match x1 with
 | (A,B,C,D,E,F,G,H,I,J,K,L,M,N,O,P,Q,R,S,T,U,V,W,X,_)=>
 bif decide (E<D) then
  (idx C E).bind fun y2=>
  (Fu ((O,P),(Q,R),(S,T),(U,V),W,X)).bind fun r3=>
  (idx r3.1 E).bind fun y4=>
  (yZ y2 y4).bind fun r5=>
  bif r5.1 != 0 then
   chk (decide (((B.length)+1)*56≤140737488355328)&&decide ((B.length)+1≤maxLen)) <|
   again (A,B++[(w64 (1+E),[],y2,y4)],C,D,w64 (E+1),F,G,H,I,J,K,L,M,N,O,P,Q,R,S,T,U,V,W,X,())
  else
   again (A,B,C,D,w64 (E+1),F,G,H,I,J,K,L,M,N,O,P,Q,R,S,T,U,V,W,X,())
 else
  some (.inr (A,B,F,G,H,I,J,K,L,M,N,()))
abbrev vW:Type:=(List ak)×(List bz)×(List ak)×(List Bys)×Int×Int×Bys×Bys×Int×Int×Int×Bool×(List aB)×(List au)×(List ax)×(List ak)×Unit
abbrev BJ:Type:=(((List bz)×Int×Unit) ⊕ ((List ak)×(List bz)×(List ak)×(List Bys)×Bys×Bys×Int×Int×Int×Bool×(List aB)×(List au)×(List ax)×Unit))
def vE (x1:vW) (again:vW→Option BJ):Option BJ:=
 match x1 with
 | (A,B,C,D,E,F,G,H,I,J,K,L,M,N,O,P,_)=>
 bif decide (F<E) then
  chk (decide (0≤F)&&decide (F<(P.length:Int))) <|
  (P[F.toNat]?).bind fun y2=>
  chk (decide (((D.length)+1)*16≤140737488355328)&&decide ((D.length)+1≤maxLen)) <|
  again (A,B,C,D++[y2.1],E,w64 (F+1),G,H,I,J,K,L,M,N,O,P,())
 else
  some (.inr (A,B,C,D,G,H,I,J,K,L,M,N,O,()))
abbrev vN:Type:=(List ak)×(List bz)×(List ak)×Int×Int×Bys×Bys×Int×Int×Int×Bool×(List aB)×(List au)×(List ax)×(List Bys)×Unit
abbrev Bf:Type:=(((List bz)×Int×Unit) ⊕ ((List bz)×Unit))
def vD (x1:vN) (again:vN→Option Bf):Option Bf:=
 match x1 with
 | (A,B,C,D,E,F,G,H,I,J,K,L,M,N,O,_)=>
 bif decide (E<D) then
  chk (decide (0≤E)&&decide (E<(O.length:Int))) <|
  (O[E.toNat]?).bind fun y2=>
  (GZ A y2 (0,0)).bind fun r3=>
  (se (F,G,H,I,J,K,L,M,N) 0).bind fun r4=>
  (GZ C y2 r4.1).bind fun r5=>
  (yZ r3.1.2.1 r5.1.2.1).bind fun r6=>
  aO (γ:=((List ak)×(List bz)×(List ak)×Bys×Int×Int×Bys×Bys×Int×Int×Int×Bool×(List aB)×(List au)×(List ax)×Bys×Int×Int×Int×Int×Bys×Int×Int×Int×Int×(List Bys)×Unit)) (
   bif r6.1 != 0 then
    chk (decide (((B.length)+1)*56≤140737488355328)&&decide ((B.length)+1≤maxLen)) <|
    some (.inr (A,B++[(6,y2,r3.1.2.1,r5.1.2.1)],C,y2,D,E,F,G,H,I,J,K,L,M,N,r3.1.1,r3.1.2.1.1,r3.1.2.1.2,r3.1.2.2.1,r3.1.2.2.2,r5.1.1,r5.1.2.1.1,r5.1.2.1.2,r5.1.2.2.1,r5.1.2.2.2,O,()))
   else
    some (.inr (A,B,C,y2,D,E,F,G,H,I,J,K,L,M,N,r3.1.1,r3.1.2.1.1,r3.1.2.1.2,r3.1.2.2.1,r3.1.2.2.2,r5.1.1,r5.1.2.1.1,r5.1.2.1.2,r5.1.2.2.1,r5.1.2.2.2,O,()))) fun (P,Q,R,S,T,U,V,W,X,Y,Z,A0,B0,C0,D0,_,_,_,E0,F0,_,_,_,G0,H0,I0,_)=>
  (yZ (E0,F0) (G0,H0)).bind fun r8=>
  bif r8.1 != 0 then
   chk (decide (((Q.length)+1)*56≤140737488355328)&&decide ((Q.length)+1≤maxLen)) <|
   again (P,Q++[(4,S,(E0,F0),G0,H0)],R,T,w64 (U+1),V,W,X,Y,Z,A0,B0,C0,D0,I0,())
  else
   again (P,Q,R,T,w64 (U+1),V,W,X,Y,Z,A0,B0,C0,D0,I0,())
 else
  some (.inr (B,()))
def Ld (a0:ah) (a1:bP) (a2:List ak):Option ((List bz)×Int×Unit):=
 (It a0).bind fun r1=>
 bif r1.2.1 != 0 then
  some ([],r1.2.1,())
 else
  (Fu a1).bind fun r2=>
  aO (
   iter (X:=yq) (β:=Es) (a2.length+(r2.1.length+(Int.natAbs ((r2.1.length:Int))+(Int.natAbs (0:Int)+(a0.1.length+(a0.2.1.length+(a0.2.2.1.natAbs+(a0.2.2.2.1.natAbs+(a0.2.2.2.2.1.natAbs+(a0.2.2.2.2.2.2.1.length+(a0.2.2.2.2.2.2.2.1.length+(a0.2.2.2.2.2.2.2.2.length+(a1.1.1.natAbs+(a1.1.2.natAbs+(a1.2.1.1.natAbs+(a1.2.1.2.natAbs+(a1.2.2.1.1.natAbs+(a1.2.2.1.2.natAbs+(a1.2.2.2.1.1.natAbs+(a1.2.2.2.1.2.natAbs+(a1.2.2.2.2.1.natAbs+(a1.2.2.2.2.2.natAbs+(r1.1.1.1.natAbs+(r1.1.1.2.natAbs+(r1.1.2.1.1.natAbs+(r1.1.2.1.2.natAbs+(r1.1.2.2.1.1.natAbs+(r1.1.2.2.1.2.natAbs+(r1.1.2.2.2.1.1.natAbs+(r1.1.2.2.2.1.2.natAbs+(r1.1.2.2.2.2.1.natAbs+(r1.1.2.2.2.2.2.natAbs+2)))))))))))))))))))))))))))))))) (a2,r2.1,(r2.1.length:Int),0,a0.1,a0.2.1,a0.2.2.1,a0.2.2.2.1,a0.2.2.2.2.1,a0.2.2.2.2.2.1,a0.2.2.2.2.2.2.1,a0.2.2.2.2.2.2.2.1,a0.2.2.2.2.2.2.2.2,a1.1.1,a1.1.2,a1.2.1.1,a1.2.1.2,a1.2.2.1.1,a1.2.2.1.2,a1.2.2.2.1.1,a1.2.2.2.1.2,a1.2.2.2.2.1,a1.2.2.2.2.2,r1.1.1.1,r1.1.1.2,r1.1.2.1.1,r1.1.2.1.2,r1.1.2.2.1.1,r1.1.2.2.1.2,r1.1.2.2.2.1.1,r1.1.2.2.2.1.2,r1.1.2.2.2.2.1,r1.1.2.2.2.2.2,()) (s4)) fun (A,B,C,D,E,F,G,H,I,J,K,L,M,N,O,P,Q,R,S,T,U,V,W,Y,Z,A0,B0,C0,D0,E0,_)=>
  bif decide (((A.length:Int))>20) then
   some ([],2,())
  else
   aO (
    iter (X:=vr) (β:=BX) (A.length+(A.length+(Int.natAbs ((A.length:Int))+(Int.natAbs (0:Int)+(B.length+(C.length+(D.natAbs+(E.natAbs+(F.natAbs+(H.length+(I.length+(J.length+(K.natAbs+(L.natAbs+(M.natAbs+(N.natAbs+(O.natAbs+(P.natAbs+(Q.natAbs+(R.natAbs+(S.natAbs+(T.natAbs+(U.natAbs+(V.natAbs+(W.natAbs+(Y.natAbs+(Z.natAbs+(A0.natAbs+(B0.natAbs+(C0.natAbs+(D0.natAbs+(E0.natAbs+2)))))))))))))))))))))))))))))))) (A,A,(A.length:Int),0,B,C,D,E,F,G,H,I,J,K,L,M,N,O,P,Q,R,S,T,U,V,W,Y,Z,A0,B0,C0,D0,E0,()) (qy)) fun (F0,G0,H0,I0,J0,K0,L0,M0,N0,O0,P0,Q0,R0,S0,T0,U0,V0,W0,X0,Y0,Z0,A1,B1,C1,D1,E1,F1,G1,H1,I1,_)=>
   (Fu ((P0,Q0),(R0,S0),(T0,U0),(V0,W0),X0,Y0)).bind fun r16=>
   aO (
    iter (X:=vG) (β:=Bm) (F0.length+(List.length ([]:List bz)+(r16.1.length+(Int.natAbs ((r16.1.length:Int))+(Int.natAbs (0:Int)+(G0.length+(H0.length+(I0.natAbs+(J0.natAbs+(K0.natAbs+(M0.length+(N0.length+(O0.length+(Z0.natAbs+(A1.natAbs+(B1.natAbs+(C1.natAbs+(D1.natAbs+(E1.natAbs+(F1.natAbs+(G1.natAbs+(H1.natAbs+(I1.natAbs+2))))))))))))))))))))))) (F0,[],r16.1,(r16.1.length:Int),0,G0,H0,I0,J0,K0,L0,M0,N0,O0,Z0,A1,B1,C1,D1,E1,F1,G1,H1,I1,()) (vF)) fun (J1,K1,L1,M1,N1,O1,P1,Q1,R1,S1,T1,_)=>
   (CZ (L1,M1,N1,O1,P1,Q1,R1,S1,T1)).bind fun r23=>
   (lY [J1,r23.1]).bind fun r24=>
   aO (
    iter (X:=vW) (β:=BJ) (J1.length+(K1.length+(r23.1.length+(List.length ([]:List Bys)+(Int.natAbs ((r24.1.length:Int))+(Int.natAbs (0:Int)+(L1.length+(M1.length+(N1.natAbs+(O1.natAbs+(P1.natAbs+(R1.length+(S1.length+(T1.length+(r24.1.length+2))))))))))))))) (J1,K1,r23.1,[],(r24.1.length:Int),0,L1,M1,N1,O1,P1,Q1,R1,S1,T1,r24.1,()) (vE)) fun (U1,V1,W1,X1,Y1,Z1,A2,B2,C2,D2,E2,F2,G2,_)=>
   (slices_Sort_string X1).bind fun r28=>
   (slices_Compact_string r28.1).bind fun r29=>
   aO (
    iter (X:=vN) (β:=Bf) (U1.length+(V1.length+(W1.length+(Int.natAbs ((r29.1.length:Int))+(Int.natAbs (0:Int)+(Y1.length+(Z1.length+(A2.natAbs+(B2.natAbs+(C2.natAbs+(E2.length+(F2.length+(G2.length+(r29.1.length+2)))))))))))))) (U1,V1,W1,(r29.1.length:Int),0,Y1,Z1,A2,B2,C2,D2,E2,F2,G2,r29.1,()) (vD)) fun v38=>
   some (v38.1,0,())
abbrev lZ:Type:=(List bz)×(List bz)×Int×Int×Unit
abbrev pO:Type:=((Bool×Unit) ⊕ Unit)
def lU (x1:lZ) (again:lZ→Option pO):Option pO:=
 match x1 with
 | (A,B,C,D,_)=>
 bif decide (D<C) then
  (idx A D).bind fun y2=>
  (idx B D).bind fun y3=>
  bif !((y2.1==y3.1)&&((y2.2.1==y3.2.1)&&(((y2.2.2.1.1==y3.2.2.1.1)&&((y2.2.2.1.2==y3.2.2.1.2)&&true))&&(((y2.2.2.2.1==y3.2.2.2.1)&&((y2.2.2.2.2==y3.2.2.2.2)&&true))&&true)))) then
   some (.inl (false,()))
  else
   again (A,B,C,w64 (D+1),())
 else
  some (.inr ())
def oe (a0:List bz) (a1:List bz):Option (Bool×Unit):=
 bif ((a0.length:Int)) != ((a1.length:Int)) then
  some (false,())
 else
  aO (
   iter (X:=lZ) (β:=pO) (a0.length+(a1.length+(Int.natAbs ((a0.length:Int))+(Int.natAbs (0:Int)+2)))) (a0,a1,(a0.length:Int),0,()) (lU)) fun _=>
  some (true,())
abbrev vH:Type:=Int×Int×(List ax)×Unit
abbrev HH:Type:=(((List ax)×Unit) ⊕ ((List ax)×Unit))
def BR (x1:vH) (again:vH→Option HH):Option HH:=
 match x1 with
 | (A,B,C,_)=>
 bif decide (B<A) then
  chk (decide (0≤B)&&decide (B<(C.length:Int))) <|
  (C[B.toNat]?).bind fun y2=>
  bif !y2.1 then
   (GD y2.2.1).bind fun r3=>
   chk (decide (0≤B)&&decide (B<(C.length:Int))) <|
   (C[B.toNat]?).bind fun y4=>
   again (A,w64 (B+1),List.set C B.toNat (y4.1,r3.1,y4.2.2),())
  else
   again (A,w64 (B+1),C,())
 else
  some (.inr (C,()))
def uU (a0:List ax):Option ((List ax)×Unit):=
 (kG a0).bind fun r1=>
 aO (
  iter (X:=vH) (β:=HH) (Int.natAbs ((r1.1.length:Int))+(Int.natAbs (0:Int)+(r1.1.length+2))) ((r1.1.length:Int),0,r1.1,()) (BR)) fun v6=>
 some (v6.1,())
abbrev pQ:Type:=Int×Int×Bys×Bys×Int×Int×Int×Bool×(List aB)×(List au)×(List ax)×Bys×Bys×Int×Int×Int×Bool×(List aB)×(List ax)×(List au)×Unit
abbrev Ci:Type:=((ah×Int×Unit) ⊕ (Bys×Bys×Int×Int×Int×Bool×(List aB)×(List au)×(List ax)×Bys×Bys×Int×Int×Int×Bool×(List aB)×(List ax)×(List au)×Unit))
def pH (x1:pQ) (again:pQ→Option Ci):Option Ci:=
 match x1 with
 | (A,B,C,D,E,F,G,H,I,J,K,L,M,N,O,P,Q,R,S,T,_)=>
 bif decide (B<A) then
  chk (decide (0≤B)&&decide (B<(T.length:Int))) <|
  (T[B.toNat]?).bind fun y2=>
  (GD y2.2.2.2.1).bind fun r3=>
  (uU y2.2.2.2.2.2.2.2.1).bind fun r4=>
  chk (decide (0≤B)&&decide (B<(T.length:Int))) <|
  (T[B.toNat]?).bind fun y5=>
  chk (decide (0≤B)&&decide (B<(List.length (List.set T B.toNat (y5.1,y5.2.1,y5.2.2.1,r3.1,y5.2.2.2.2)):Int))) <|
  ((List.set T B.toNat (y5.1,y5.2.1,y5.2.2.1,r3.1,y5.2.2.2.2))[B.toNat]?).bind fun y6=>
  again (A,w64 (B+1),C,D,E,F,G,H,I,J,K,L,M,N,O,P,Q,R,S,List.set (List.set T B.toNat (y5.1,y5.2.1,y5.2.2.1,r3.1,y5.2.2.2.2)) B.toNat (y6.1,y6.2.1,y6.2.2.1,y6.2.2.2.1,y6.2.2.2.2.1,y6.2.2.2.2.2.1,y6.2.2.2.2.2.2.1,r4.1,y6.2.2.2.2.2.2.2.2),())
 else
  some (.inr (C,D,E,F,G,H,I,J,K,L,M,N,O,P,Q,R,S,T,()))
def Dz (a0:ah) (a1:Bys) (a2:Int):Option (ah×Int×Unit):=
 (kU a0).bind fun r1=>
 bif r1.1 != 0 then
  some (([],[],0,0,0,false,[],[],[]),r1.1,())
 else
  (mu a1).bind fun r2=>
  bif !r2.1 then
   some (([],[],0,0,0,false,[],[],[]),5,())
  else
   bif a1==a0.1 then
    some (([],[],0,0,0,false,[],[],[]),12,())
   else
    (lP a2 a0.2.2.1 3652059).bind fun r3=>
    bif !r3.1 then
     some (([],[],0,0,0,false,[],[],[]),1,())
    else
     (uU a0.2.2.2.2.2.2.2.2).bind fun r4=>
     (ez a0.2.2.2.2.2.2.2.1).bind fun r5=>
     aO (
      iter (X:=pQ) (β:=Ci) (Int.natAbs ((r5.1.length:Int))+(Int.natAbs (0:Int)+(List.length ([]:Bys)+(List.length ([]:Bys)+(Int.natAbs (0:Int)+(Int.natAbs (0:Int)+(Int.natAbs (0:Int)+(List.length ([]:List aB)+(List.length ([]:List au)+(List.length ([]:List ax)+(a1.length+(a0.2.1.length+(a2.natAbs+(a0.2.2.2.1.natAbs+(a0.2.2.2.2.1.natAbs+(a0.2.2.2.2.2.2.1.length+(r4.1.length+(r5.1.length+2)))))))))))))))))) ((r5.1.length:Int),0,[],[],0,0,0,false,[],[],[],a1,a0.2.1,a2,a0.2.2.2.1,a0.2.2.2.2.1,a0.2.2.2.2.2.1,a0.2.2.2.2.2.2.1,r4.1,r5.1,()) (pH)) fun (_,_,_,_,_,_,_,_,_,A,B,C,D,E,F,G,H,I,_)=>
     (kU (A,B,C,D,E,F,G,I,H)).bind fun r13=>
     bif r13.1 != 0 then
      some (([],[],0,0,0,false,[],[],[]),r13.1,())
     else
      some ((A,B,C,D,E,F,G,I,H),0,())
def lV (a0:ah) (a1:bP) (a2:List ak) (a3:Bys) (a4:Int):Option (Bool×Unit):=
 (qS a0 a1 a2).bind fun r1=>
 (Ld a0 a1 a2).bind fun r2=>
 bif r1.2.1 != r2.2.1 then
  some (false,())
 else
  (oe r1.1 r2.1).bind fun r3=>
  bif !r3.1 then
   some (false,())
  else
   (Bi a0 a3 a4).bind fun r4=>
   (Dz a0 a3 a4).bind fun r5=>
   bif r4.2.1==r5.2.1 then
    (Fg r4.1 r5.1).bind fun r6=>
    bif r6.1 then
     (Ro).bind fun r7=>
     some (r7.1,())
    else
     some (false,())
   else
    some (false,())
end Go.Md
end
