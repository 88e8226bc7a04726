/-
  The plain models of the functions that the law reaches, second part. No condition.
-/
import Derived.Test.YtcpmaicaibdafaaGreatDoorXm
import Derived.Lib.Bytealg
import Derived.Lib.Repeat
import Derived.Lib.ItoaNum
set_option linter.all false
namespace Go.Md
open Go.Dn
def strings_Compare (a b:Bys):Option (Int×Unit):=some (Lib.compareBytes a b,())
abbrev lY:Ty:=(.st (.pair .str cc))
abbrev bD:Type:=Bys×ah
abbrev rW:Ty:=(.st (.pair .bool (.pair cc .str)))
abbrev ew:Type:=Bool×ah×Bys
abbrev kY:Ty:=(.st (.pair tI (.pair tI (.pair .str (.pair cc (.pair .str (.pair cc (.pair tI (.pair (.slice rW) .str)))))))))
abbrev aT:Type:=Int×Int×Bys×ah×Bys×ah×Int×(List ew)×Bys
abbrev bn:Ty:=(.st (.pair .str (.pair .str (.pair tI (.pair tI (.pair tI (.pair .bool (.pair (.slice lY) (.pair (.slice kY) (.slice rW))))))))))
abbrev aj:Type:=Bys×Bys×Int×Int×Int×Bool×(List bD)×(List aT)×(List ew)
def Ew (a0:Int):Option (Bool×Unit):=
 (bB a0 1 6).bind fun r1=>
 some (!r1.1,())
abbrev qT:Type:=(List bD)×(List bD)×Int×Int×Unit
abbrev wm:Type:=((Int×Unit) ⊕ Unit)
def qS (x1:qT) (again:qT→Option wm):Option wm:=
 match x1 with
 | (A,B,C,D,_)=>
 bif decide (D<C) then
  (idx B D).bind fun y2=>
  (cO y2.1).bind fun r3=>
  bif !r3.1 then
   some (.inl (5,()))
  else
   bif decide (D>0) then
    (idx A (w64 (D - 1))).bind fun y4=>
    bif Op.bytesLess y2.1 y4.1||y2.1==y4.1 then
     some (.inl (8,()))
    else
     (bY y2.2).bind fun r5=>
     bif r5.1 != 0 then
      some (.inl (r5.1,()))
     else
      bif decide (y2.2.1<0) then
       some (.inl (1,()))
      else
       (fA y2.2 100).bind fun r6=>
       bif !r6.1 then
        some (.inl (1,()))
       else
        again (A,B,C,w64 (D+1),())
   else
    (bY y2.2).bind fun r7=>
    bif r7.1 != 0 then
     some (.inl (r7.1,()))
    else
     bif decide (y2.2.1<0) then
      some (.inl (1,()))
     else
      (fA y2.2 100).bind fun r8=>
      bif !r8.1 then
       some (.inl (1,()))
      else
       again (A,B,C,w64 (D+1),())
 else
  some (.inr ())
def nY (a0:List bD):Option (Int×Unit):=
 bif ((a0.length:Int))==0 then
  some (9,())
 else
  bif decide (((a0.length:Int))>20) then
   some (2,())
  else
   aM (
    iter (X:=qT) (β:=wm) (a0.length+(a0.length+(Int.natAbs ((a0.length:Int))+(Int.natAbs (0:Int)+2)))) (a0,a0,(a0.length:Int),0,()) (qS)) fun _=>
   some (0,())
abbrev BT:Type:=Int×Int×Int×Unit
abbrev BS:Type:=((Int×Unit) ⊕ (Int×Unit))
def Qh (x1:BT) (again:BT→Option BS):Option BS:=
 bif decide (x1.2.2.1<x1.2.1) then
  again (w64 (x1.1*10),x1.2.1,w64 (x1.2.2.1+1),())
 else
  some (.inr (x1.1,()))
def Cg (a0:Int):Option (Int×Unit):=
 aM (
  iter (X:=BT) (β:=BS) (Int.natAbs (1:Int)+(a0.natAbs+(Int.natAbs (0:Int)+2))) (1,a0,0,()) (Qh)) fun v2=>
 some (v2.1,())
def s9 (a0:ah) (a1:Int) (a2:Int):Option (Bool×Unit):=
 bif decide (a0.2≤a1) then
  bif decide (a0.1≥0) then
   (Cg a0.2).bind fun r1=>
   some (decide (a0.1≤(w64 (a2*r1.1))),())
  else
   some (false,())
 else
  some (false,())
def kE (a0:ah):Option (Int×Unit):=
 (bY a0).bind fun r1=>
 bif r1.1 != 0 then
  some (r1.1,())
 else
  (s9 a0 4 1000000000).bind fun r2=>
  bif !r2.1 then
   some (1,())
  else
   some (0,())
def Dm (a0:bD) (a1:Bys):Option (Int×Unit):=
 (strings_Compare a0.1 a1).bind fun r1=>
 some (r1.1,())
abbrev cq:Type:=(List bD)×Bys×Unit×Int×Int×Int×Unit
abbrev gx:Type:=((Int×Bool×Unit) ⊕ ((List bD)×Bys×Unit×Int×Int×Unit))
def gw (x1:cq) (again:cq→Option gx):Option gx:=
 match x1 with
 | (A,B,C,D,E,F,_)=>
 bif decide (E<F) then
  let n2:Int:=w64 (Int.fdiv (bT (w64 (E+F))) (2 ^ 1))
  (idx A n2).bind fun y3=>
  (Dm y3 B).bind fun r4=>
  bif decide (r4.1<0) then
   again (A,B,C,D,w64 (n2+1),F,())
  else
   again (A,B,C,D,E,n2,())
 else
  some (.inr (A,B,C,D,E,()))
def dY (a0:List bD) (a1:Bys) (a2:Unit):Option (Int×Bool×Unit):=
 aM (
  iter (X:=cq) (β:=gx) (a0.length+(a1.length+(Int.natAbs ((a0.length:Int))+(Int.natAbs (0:Int)+(Int.natAbs ((a0.length:Int))+2))))) (a0,a1,a2,(a0.length:Int),0,(a0.length:Int),()) (gw)) fun (A,B,_,C,D,_)=>
 bif decide (D<C) then
  (idx A D).bind fun y6=>
  (Dm y6 B).bind fun r7=>
  some (D,r7.1==0,())
 else
  some (D,false,())
def Cd (a0:List bD) (a1:Bys):Option (Int×Bool×Unit):=
 (dY a0 a1 ()).bind fun r1=>
 some (r1.1,r1.2.1,())
def jM (a0:aj) (a1:Bys):Option (Bool×Unit):=
 (Cd a0.2.2.2.2.2.2.1 a1).bind fun r1=>
 some (r1.2.1,())
abbrev qo:Type:=Bool×(List ew)×Int×Int×Bys×Bys×Int×Int×Int×Bool×(List bD)×(List aT)×(List ew)×Unit
abbrev u9:Type:=((Int×Unit) ⊕ Unit)
def qm (x1:qo) (again:qo→Option u9):Option u9:=
 match x1 with
 | (A,B,C,D,E,F,G,H,I,J,K,L,M,_)=>
 bif decide (D<C) then
  (idx B D).bind fun y2=>
  (bY y2.2.1).bind fun r3=>
  bif r3.1 != 0 then
   some (.inl (r3.1,()))
  else
   bif y2.2.1.1==0 then
    some (.inl (13,()))
   else
    bif y2.1 then
     (fA y2.2.1 100).bind fun r4=>
     aM (γ:=(Bool×(List ew)×Int×Int×Bool×Bys×Bys×Int×Int×Int×Bool×(List bD)×(List aT)×(List ew)×Bool×Int×Int×Bys×Unit)) (
      bif !r4.1 then
       some (.inr (A,B,C,D, !r4.1,E,F,G,H,I,J,K,L,M,y2.1,y2.2.1.1,y2.2.1.2,y2.2.2,()))
      else
       bif !y2.1 then
        (fA y2.2.1 1000000000).bind fun r5=>
        bif !r5.1 then
         some (.inr (A,B,C,D,true,E,F,G,H,I,J,K,L,M,y2.1,y2.2.1.1,y2.2.1.2,y2.2.2,()))
        else
         some (.inr (A,B,C,D,decide (y2.2.1.2>H),E,F,G,H,I,J,K,L,M,y2.1,y2.2.1.1,y2.2.1.2,y2.2.2,()))
       else
        some (.inr (A,B,C,D,false,E,F,G,H,I,J,K,L,M,y2.1,y2.2.1.1,y2.2.1.2,y2.2.2,()))) fun (N,O,P,Q,R,S,T,U,V,W,X,Y,Z,A0,_,_,_,B0,_)=>
     bif R then
      some (.inl (1,()))
     else
      bif N then
       bif !(B0==[]) then
        some (.inl (3,()))
       else
        bif !N then
         bif !(B0==[]) then
          (jM (S,T,U,V,W,X,Y,Z,A0) B0).bind fun r7=>
          bif !r7.1 then
           some (.inl (5,()))
          else
           again (N,O,P,w64 (Q+1),S,T,U,V,W,X,Y,Z,A0,())
         else
          again (N,O,P,w64 (Q+1),S,T,U,V,W,X,Y,Z,A0,())
        else
         again (N,O,P,w64 (Q+1),S,T,U,V,W,X,Y,Z,A0,())
      else
       bif !N then
        bif !(B0==[]) then
         (jM (S,T,U,V,W,X,Y,Z,A0) B0).bind fun r8=>
         bif !r8.1 then
          some (.inl (5,()))
         else
          again (N,O,P,w64 (Q+1),S,T,U,V,W,X,Y,Z,A0,())
        else
         again (N,O,P,w64 (Q+1),S,T,U,V,W,X,Y,Z,A0,())
       else
        again (N,O,P,w64 (Q+1),S,T,U,V,W,X,Y,Z,A0,())
    else
     aM (γ:=(Bool×(List ew)×Int×Int×Bool×Bys×Bys×Int×Int×Int×Bool×(List bD)×(List aT)×(List ew)×Bool×Int×Int×Bys×Unit)) (
      bif !y2.1 then
       (fA y2.2.1 1000000000).bind fun r9=>
       bif !r9.1 then
        some (.inr (A,B,C,D,true,E,F,G,H,I,J,K,L,M,y2.1,y2.2.1.1,y2.2.1.2,y2.2.2,()))
       else
        some (.inr (A,B,C,D,decide (y2.2.1.2>H),E,F,G,H,I,J,K,L,M,y2.1,y2.2.1.1,y2.2.1.2,y2.2.2,()))
      else
       some (.inr (A,B,C,D,false,E,F,G,H,I,J,K,L,M,y2.1,y2.2.1.1,y2.2.1.2,y2.2.2,()))) fun (C0,D0,E0,F0,G0,H0,I0,J0,K0,L0,M0,N0,O0,P0,_,_,_,Q0,_)=>
     bif G0 then
      some (.inl (1,()))
     else
      bif C0 then
       bif !(Q0==[]) then
        some (.inl (3,()))
       else
        bif !C0 then
         bif !(Q0==[]) then
          (jM (H0,I0,J0,K0,L0,M0,N0,O0,P0) Q0).bind fun r11=>
          bif !r11.1 then
           some (.inl (5,()))
          else
           again (C0,D0,E0,w64 (F0+1),H0,I0,J0,K0,L0,M0,N0,O0,P0,())
         else
          again (C0,D0,E0,w64 (F0+1),H0,I0,J0,K0,L0,M0,N0,O0,P0,())
        else
         again (C0,D0,E0,w64 (F0+1),H0,I0,J0,K0,L0,M0,N0,O0,P0,())
      else
       bif !C0 then
        bif !(Q0==[]) then
         (jM (H0,I0,J0,K0,L0,M0,N0,O0,P0) Q0).bind fun r12=>
         bif !r12.1 then
          some (.inl (5,()))
         else
          again (C0,D0,E0,w64 (F0+1),H0,I0,J0,K0,L0,M0,N0,O0,P0,())
        else
         again (C0,D0,E0,w64 (F0+1),H0,I0,J0,K0,L0,M0,N0,O0,P0,())
       else
        again (C0,D0,E0,w64 (F0+1),H0,I0,J0,K0,L0,M0,N0,O0,P0,())
 else
  some (.inr ())
def kz (a0:aj) (a1:List ew) (a2:Bool):Option (Int×Unit):=
 bif decide (((a1.length:Int))>20) then
  some (2,())
 else
  aM (
   iter (X:=qo) (β:=u9) (a1.length+(Int.natAbs ((a1.length:Int))+(Int.natAbs (0:Int)+(a0.1.length+(a0.2.1.length+(a0.2.2.1.natAbs+(a0.2.2.2.1.natAbs+(a0.2.2.2.2.1.natAbs+(a0.2.2.2.2.2.2.1.length+(a0.2.2.2.2.2.2.2.1.length+(a0.2.2.2.2.2.2.2.2.length+2))))))))))) (a2,a1,(a1.length:Int),0,a0.1,a0.2.1,a0.2.2.1,a0.2.2.2.1,a0.2.2.2.2.1,a0.2.2.2.2.2.1,a0.2.2.2.2.2.2.1,a0.2.2.2.2.2.2.2.1,a0.2.2.2.2.2.2.2.2,()) (qm)) fun _=>
  some (0,())
def sN (a0:aj) (a1:Int):Option (Int×Unit):=
 (idx a0.2.2.2.2.2.2.2.1 a1).bind fun y1=>
 (bB y1.1 1 99999).bind fun r2=>
 bif r2.1 then
  some (1,())
 else
  bif decide (a1>0) then
   (idx a0.2.2.2.2.2.2.2.1 (w64 (a1 - 1))).bind fun y3=>
   bif decide (y1.1≤y3.1) then
    some (8,())
   else
    (bB y1.2.1 1 99999).bind fun r4=>
    bif r4.1 then
     some (1,())
    else
     (cO y1.2.2.1).bind fun r5=>
     bif !r5.1 then
      some (5,())
     else
      (bY y1.2.2.2.1).bind fun r6=>
      bif r6.1 != 0 then
       some (r6.1,())
      else
       bif decide (y1.2.2.2.1.2>3) then
        some (1,())
       else
        (fA y1.2.2.2.1 1000000000).bind fun r7=>
        bif !r7.1 then
         some (1,())
        else
         bif y1.2.2.2.1.1==0 then
          some (13,())
         else
          (cO y1.2.2.2.2.1).bind fun r8=>
          bif !r8.1 then
           some (5,())
          else
           (kE y1.2.2.2.2.2.1).bind fun r9=>
           bif r9.1 != 0 then
            some (r9.1,())
           else
            (bB y1.2.2.2.2.2.2.1 1 100000).bind fun r10=>
            bif r10.1 then
             some (1,())
            else
             (kz a0 y1.2.2.2.2.2.2.2.1 true).bind fun r11=>
             bif r11.1 != 0 then
              some (r11.1,())
             else
              (jM a0 y1.2.2.2.2.2.2.2.2).bind fun r12=>
              bif !r12.1 then
               some (5,())
              else
               some (0,())
  else
   (bB y1.2.1 1 99999).bind fun r13=>
   bif r13.1 then
    some (1,())
   else
    (cO y1.2.2.1).bind fun r14=>
    bif !r14.1 then
     some (5,())
    else
     (bY y1.2.2.2.1).bind fun r15=>
     bif r15.1 != 0 then
      some (r15.1,())
     else
      bif decide (y1.2.2.2.1.2>3) then
       some (1,())
      else
       (fA y1.2.2.2.1 1000000000).bind fun r16=>
       bif !r16.1 then
        some (1,())
       else
        bif y1.2.2.2.1.1==0 then
         some (13,())
        else
         (cO y1.2.2.2.2.1).bind fun r17=>
         bif !r17.1 then
          some (5,())
         else
          (kE y1.2.2.2.2.2.1).bind fun r18=>
          bif r18.1 != 0 then
           some (r18.1,())
          else
           (bB y1.2.2.2.2.2.2.1 1 100000).bind fun r19=>
           bif r19.1 then
            some (1,())
           else
            (kz a0 y1.2.2.2.2.2.2.2.1 true).bind fun r20=>
            bif r20.1 != 0 then
             some (r20.1,())
            else
             (jM a0 y1.2.2.2.2.2.2.2.2).bind fun r21=>
             bif !r21.1 then
              some (5,())
             else
              some (0,())
abbrev sJ:Type:=Int×Int×Bys×Bys×Int×Int×Int×Bool×(List bD)×(List aT)×(List ew)×Unit
abbrev sI:Type:=((Int×Unit) ⊕ (Bys×Bys×Int×Int×Int×Bool×(List bD)×(List aT)×(List ew)×Unit))
def nU (x1:sJ) (again:sJ→Option sI):Option sI:=
 match x1 with
 | (A,B,C,D,E,F,G,H,I,J,K,_)=>
 bif decide (B<A) then
  (sN (C,D,E,F,G,H,I,J,K) B).bind fun r2=>
  bif r2.1 != 0 then
   some (.inl (r2.1,()))
  else
   again (A,w64 (B+1),C,D,E,F,G,H,I,J,K,())
 else
  some (.inr (C,D,E,F,G,H,I,J,K,()))
def oC (a0:aj):Option (Int×Unit):=
 (cO a0.1).bind fun r1=>
 bif !r1.1 then
  some (5,())
 else
  (cO a0.2.1).bind fun r2=>
  bif !r2.1 then
   some (5,())
  else
   (mg a0.2.2.1).bind fun r3=>
   bif !r3.1 then
    some (1,())
   else
    (bB a0.2.2.2.1 0 4).bind fun r4=>
    bif r4.1 then
     some (1,())
    else
     (Ew a0.2.2.2.2.1).bind fun r5=>
     bif !r5.1 then
      some (4,())
     else
      (nY a0.2.2.2.2.2.2.1).bind fun r6=>
      bif r6.1 != 0 then
       some (r6.1,())
      else
       bif ((a0.2.2.2.2.2.2.2.1.length:Int))==0 then
        some (9,())
       else
        bif decide (((a0.2.2.2.2.2.2.2.1.length:Int))>500) then
         some (2,())
        else
         aM (
          iter (X:=sJ) (β:=sI) (Int.natAbs ((a0.2.2.2.2.2.2.2.1.length:Int))+(Int.natAbs (0:Int)+(a0.1.length+(a0.2.1.length+(a0.2.2.1.natAbs+(a0.2.2.2.1.natAbs+(a0.2.2.2.2.1.natAbs+(a0.2.2.2.2.2.2.1.length+(a0.2.2.2.2.2.2.2.1.length+(a0.2.2.2.2.2.2.2.2.length+2)))))))))) ((a0.2.2.2.2.2.2.2.1.length:Int),0,a0.1,a0.2.1,a0.2.2.1,a0.2.2.2.1,a0.2.2.2.2.1,a0.2.2.2.2.2.1,a0.2.2.2.2.2.2.1,a0.2.2.2.2.2.2.2.1,a0.2.2.2.2.2.2.2.2,()) (nU)) fun (A,B,C,D,E,F,G,H,I,_)=>
         (kz (A,B,C,D,E,F,G,H,I) I false).bind fun r10=>
         some (r10.1,())
abbrev nR:Type:=Int×Int×Int×(List Int)×Int×Int×(List Int)×Int×Int×Bool×(List Int)×Bool×(List Int)×Bool×(List Int)×(List Int)×Unit
abbrev w5:Type:=(((aG×Unit) ⊕ (Bool×(List Int)×Bool×(List Int)×Bool×(List Int)×(List Int)×Unit)) ⊕ (Int×Int×(List Int)×Int×Int×Bool×(List Int)×Bool×(List Int)×Bool×(List Int)×(List Int)×Unit))
def rI (x1:nR) (again:nR→Option w5):Option w5:=
 match x1 with
 | (A,B,C,D,E,F,G,H,I,J,K,L,M,N,O,P,_)=>
 bif decide (I<H) then
  (idx G I).bind fun y2=>
  chk (decide (0≤(w64 (A+I)))&&decide ((w64 (A+I))<(P.length:Int))) <|
  (P[(w64 (A+I)).toNat]?).bind fun y3=>
  let n4:Int:=bT ((bT y3)+(bT ((bT B)*(bT y2))))
  chk (decide (0≤(w64 (A+I)))&&decide ((w64 (A+I))<(P.length:Int))) <|
  (P[(w64 (A+I)).toNat]?).bind fun _=>
  again (A,B,Int.fdiv (bT (C+n4)) (2 ^ 32),D,E,F,G,H,w64 (I+1),J,K,L,M,N,O,List.set P (w64 (A+I)).toNat (oB (bT (C+n4))),())
 else
  some (.inr (A,C,D,E,F,J,K,L,M,N,O,P,()))
abbrev nQ:Type:=(List Int)×Int×Int×Bool×(List Int)×Bool×(List Int)×Bool×(List Int)×(List Int)×Unit
abbrev wZ:Type:=((aG×Unit) ⊕ (Bool×(List Int)×Bool×(List Int)×Bool×(List Int)×(List Int)×Unit))
def rH (x1:nQ) (again:nQ→Option wZ):Option wZ:=
 match x1 with
 | (A,B,C,D,E,F,G,H,I,J,_)=>
 bif decide (C<B) then
  (idx A C).bind fun y2=>
  aM (
   iter (X:=nR) (β:=w5) (C.natAbs+(y2.natAbs+(Int.natAbs (0:Int)+(A.length+(B.natAbs+(C.natAbs+(G.length+(Int.natAbs ((G.length:Int))+(Int.natAbs (0:Int)+(E.length+(G.length+(I.length+(J.length+2))))))))))))) (C,y2,0,A,B,C,G,(G.length:Int),0,D,E,F,G,H,I,J,()) (rI)) fun (K,L,M,N,O,P,Q,R,S,T,U,V,_)=>
  chk (decide (0≤(w64 (K+((S.length:Int)))))&&decide ((w64 (K+((S.length:Int))))<(V.length:Int))) <|
  (V[(w64 (K+((S.length:Int)))).toNat]?).bind fun _=>
  again (M,N,w64 (O+1),P,Q,R,S,T,U,List.set V (w64 (K+((S.length:Int)))).toNat (oB L),())
 else
  some (.inr (D,E,F,G,H,I,J,()))
def iJ (a0:aG) (a1:aG):Option (aG×Unit):=
 chk (decide (0≤(w64 (((a0.2.length:Int))+((a1.2.length:Int)))))&&decide ((w64 (((a0.2.length:Int))+((a1.2.length:Int))))≤(w64 (((a0.2.length:Int))+((a1.2.length:Int)))))&&decide ((4:Int)*(w64 (((a0.2.length:Int))+((a1.2.length:Int))))≤281474976710656)&&decide ((w64 (((a0.2.length:Int))+((a1.2.length:Int))))≤9223372036854775807)) <|
 aM (
  iter (X:=nQ) (β:=wZ) (a0.2.length+(Int.natAbs ((a0.2.length:Int))+(Int.natAbs (0:Int)+(a0.2.length+(a1.2.length+(List.length ([]:List Int)+(List.length ((List.replicate (Int.toNat (w64 (((a0.2.length:Int))+((a1.2.length:Int))))) 0):List Int)+2))))))) (a0.2,(a0.2.length:Int),0,a0.1,a0.2,a1.1,a1.2,false,[],List.replicate (Int.toNat (w64 (((a0.2.length:Int))+((a1.2.length:Int))))) 0,()) (rH)) fun v10=>
 (ko (!(v10.1==v10.2.2.1)) v10.2.2.2.2.2.2.1).bind fun r11=>
 some (r11.1,())
abbrev tC:Type:=Int×Int×Bool×(List Int)×Bool×(List Int)×Unit
abbrev B2:Type:=((aG×Unit) ⊕ (Bool×(List Int)×Bool×(List Int)×Unit))
def xJ (x1:tC) (again:tC→Option B2):Option B2:=
 match x1 with
 | (A,B,C,D,E,F,_)=>
 bif decide (B<A) then
  (mV 10).bind fun r2=>
  (iJ (E,F) r2.1).bind fun r3=>
  again (A,w64 (B+1),C,D,r3.1.1,r3.1.2,())
 else
  some (.inr (C,D,E,F,()))
def Ck (a0:Int):Option (aG×Unit):=
 (mV 1).bind fun r1=>
 aM (
  iter (X:=tC) (β:=B2) (a0.natAbs+(Int.natAbs (0:Int)+(List.length ([]:List Int)+(r1.1.2.length+2)))) (a0,0,false,[],r1.1.1,r1.1.2,()) (xJ)) fun v5=>
 some ((v5.2.2.1,v5.2.2.2.1),())
abbrev B4:Type:=(List Int)×(List Int)×Int×(List Int)×Int×Int×Unit
abbrev B3:Type:=(((List Int)×Unit) ⊕ ((List Int)×Int×Unit))
def Qv (x1:B4) (again:B4→Option B3):Option B3:=
 match x1 with
 | (A,B,C,D,E,F,_)=>
 bif decide (F<E) then
  (idx D F).bind fun y2=>
  aM (γ:=((List Int)×(List Int)×Int×(List Int)×Int×Int×Unit)) (
   bif decide (F<((A.length:Int))) then
    (idx A F).bind fun y3=>
    let n4:Int:=bT ((bT (C+(bT y2)))+(bT y3))
    some (.inr (A,B,n4,D,E,F,()))
   else
    some (.inr (A,B,bT (C+(bT y2)),D,E,F,()))) fun (G,H,I,J,K,L,_)=>
  chk (decide (((H.length)+1)*4≤140737488355328)&&decide ((H.length)+1≤maxLen)) <|
  again (G,H++[(oB I)],Int.fdiv I (2 ^ 32),J,K,w64 (L+1),())
 else
  some (.inr (B,C,()))
def G7 (a0:List Int) (a1:List Int):Option ((List Int)×Unit):=
 aM (γ:=((List Int)×(List Int)×Unit)) (
  bif decide (((a0.length:Int))<((a1.length:Int))) then
   some (.inr (a1,a0,()))
  else
   some (.inr (a0,a1,()))) fun (A,B,_)=>
 chk (decide (0≤(0:Int))&&decide ((0:Int)≤(w64 (((A.length:Int))+1)))&&decide ((4:Int)*(w64 (((A.length:Int))+1))≤281474976710656)&&decide ((w64 (((A.length:Int))+1))≤9223372036854775807)) <|
 aM (
  iter (X:=B4) (β:=B3) (B.length+(List.length ([]:List Int)+(Int.natAbs (0:Int)+(A.length+(Int.natAbs ((A.length:Int))+(Int.natAbs (0:Int)+2)))))) (B,[],0,A,(A.length:Int),0,()) (Qv)) fun (C,D,_)=>
 chk (decide (((C.length)+1)*4≤140737488355328)&&decide ((C.length)+1≤maxLen)) <|
 some (C++[(oB D)],())
def pN (a0:aG) (a1:aG):Option (aG×Unit):=
 bif a0.1==a1.1 then
  (G7 a0.2 a1.2).bind fun r1=>
  (ko a0.1 r1.1).bind fun r2=>
  some (r2.1,())
 else
  (uT a0.2 a1.2).bind fun r3=>
  bif decide (r3.1≥0) then
   (xK a0.2 a1.2).bind fun r4=>
   (ko a0.1 r4.1).bind fun r5=>
   some (r5.1,())
  else
   (xK a1.2 a0.2).bind fun r6=>
   (ko a1.1 r6.1).bind fun r7=>
   some (r7.1,())
def tw (a0:aG) (a1:aG):Option (aG×Unit):=
 (rG a1).bind fun r1=>
 (pN a0 r1.1).bind fun r2=>
 some (r2.1,())
def oO (a0:aG) (a1:aG):Option (Int×Unit):=
 (tw a0 a1).bind fun r1=>
 (kZ r1.1).bind fun r2=>
 some (r2.1,())
def yN (a0:ah) (a1:Int):Option (aG×Unit):=
 (mV a0.1).bind fun r1=>
 (Ck (w64 (a1 - a0.2))).bind fun r2=>
 (iJ r1.1 r2.1).bind fun r3=>
 some (r3.1,())
end Go.Md
namespace Go.Md
open Go.Dn
abbrev b8:Ty:=(.st (.pair tI (.pair .str (.pair .str (.pair cc (.pair cc (.pair tI (.pair cc (.pair cc (.pair cc cc))))))))))
abbrev aF:Type:=Int×Bys×Bys×ah×ah×Int×ah×ah×ah×ah
def mH (a0:ah) (a1:Bool):Option (Int×Unit):=
 (bY a0).bind fun r1=>
 bif r1.1 != 0 then
  some (r1.1,())
 else
  (s9 a0 3 1000000000).bind fun r2=>
  bif !r2.1 then
   some (1,())
  else
   bif a0.1==0 then
    bif !a1 then
     some (1,())
    else
     some (0,())
   else
    some (0,())
end Go.Md
namespace Go.Md
open Go.Dn
end Go.Md
namespace Go.Md
open Go.Dn
def lF (a0:ah):Option (aG×Unit):=
 (yN a0 9).bind fun r1=>
 some (r1.1,())
end Go.Md
