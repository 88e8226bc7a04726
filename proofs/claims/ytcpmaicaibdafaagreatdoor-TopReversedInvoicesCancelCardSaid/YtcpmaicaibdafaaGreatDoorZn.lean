/-
  The plain models of the functions that the laws reach, second part. No condition.
-/
import Derived.Test.YtcpmaicaibdafaaGreatDoorZm
import Derived.Lib.Bytealg
import Derived.Lib.Repeat
import Derived.Lib.ItoaNum
set_option linter.all false
namespace Go.Md
open Go.Dn
def strings_Compare (a b:Bys):Option (Int×Unit):=some (Lib.compareBytes a b,())
abbrev cE:Ty:=(.st (.pair .str cr))
abbrev aD:Type:=Bys×ai
abbrev b9:Ty:=(.st (.pair .bool (.pair cr .str)))
abbrev ax:Type:=Bool×ai×Bys
abbrev bU:Ty:=(.st (.pair tI (.pair tI (.pair .str (.pair cr (.pair .str (.pair cr (.pair tI (.pair (.slice b9) .str)))))))))
abbrev au:Type:=Int×Int×Bys×ai×Bys×ai×Int×(List ax)×Bys
abbrev aV:Ty:=(.st (.pair .str (.pair .str (.pair tI (.pair tI (.pair tI (.pair .bool (.pair (.slice cE) (.pair (.slice bU) (.slice b9))))))))))
abbrev ah:Type:=Bys×Bys×Int×Int×Int×Bool×(List aD)×(List au)×(List ax)
abbrev OE:Ty:=(.st (.pair cr (.pair cr (.pair cr (.pair cr cr)))))
abbrev yd:Type:=ai×ai×ai×ai×ai
abbrev dL:Ty:=(.st (.pair tI aq))
abbrev aJ:Type:=Int×aa
abbrev vf:Ty:=(.st (.pair aV (.pair (.slice aq) (.pair (.slice aq) (.pair (.slice aq) (.pair (.slice dL) (.pair (.slice aq) (.pair (.slice .bool) (.slice aq)))))))))
abbrev gy:Type:=ah×(List aa)×(List aa)×(List aa)×(List aJ)×(List aa)×(List Bool)×(List aa)
abbrev bh:Ty:=(.st (.pair tI (.pair tI aq)))
abbrev ak:Type:=Int×Int×aa
def Gs (a0:Int):Option (Bool×Unit):=
 (b8 a0 1 6).bind fun r1=>
 some (!r1.1,())
abbrev sD:Type:=(List aD)×(List aD)×Int×Int×Unit
abbrev yh:Type:=((Int×Unit) ⊕ Unit)
def sC (x1:sD) (again:sD→Option yh):Option yh:=
 match x1 with
 | (A,B,C,D,_)=>
 bif decide (D<C) then
  (idx B D).bind fun y2=>
  (dI y2.1).bind fun r3=>
  bif !r3.1 then
   some (.inl (5,()))
  else
   bif decide (D>0) then
    (idx A (w64 (D - 1))).bind fun y4=>
    bif Op.bytesLess y2.1 y4.1||y2.1==y4.1 then
     some (.inl (8,()))
    else
     (cu y2.2).bind fun r5=>
     bif r5.1 != 0 then
      some (.inl (r5.1,()))
     else
      bif decide (y2.2.1<0) then
       some (.inl (1,()))
      else
       (iy y2.2 100).bind fun r6=>
       bif !r6.1 then
        some (.inl (1,()))
       else
        again (A,B,C,w64 (D+1),())
   else
    (cu y2.2).bind fun r7=>
    bif r7.1 != 0 then
     some (.inl (r7.1,()))
    else
     bif decide (y2.2.1<0) then
      some (.inl (1,()))
     else
      (iy y2.2 100).bind fun r8=>
      bif !r8.1 then
       some (.inl (1,()))
      else
       again (A,B,C,w64 (D+1),())
 else
  some (.inr ())
def oP (a0:List aD):Option (Int×Unit):=
 bif ((a0.length:Int))==0 then
  some (9,())
 else
  bif decide (((a0.length:Int))>20) then
   some (2,())
  else
   aT (
    iter (X:=sD) (β:=yh) (a0.length+(a0.length+(Int.natAbs ((a0.length:Int))+(Int.natAbs (0:Int)+2)))) (a0,a0,(a0.length:Int),0,()) (sC)) fun _=>
   some (0,())
abbrev DV:Type:=Int×Int×Int×Unit
abbrev DU:Type:=((Int×Unit) ⊕ (Int×Unit))
def UF (x1:DV) (again:DV→Option DU):Option DU:=
 bif decide (x1.2.2.1<x1.2.1) then
  again (w64 (x1.1*10),x1.2.1,w64 (x1.2.2.1+1),())
 else
  some (.inr (x1.1,()))
def Er (a0:Int):Option (Int×Unit):=
 aT (
  iter (X:=DV) (β:=DU) (Int.natAbs (1:Int)+(a0.natAbs+(Int.natAbs (0:Int)+2))) (1,a0,0,()) (UF)) fun v2=>
 some (v2.1,())
def uT (a0:ai) (a1:Int) (a2:Int):Option (Bool×Unit):=
 bif decide (a0.2≤a1) then
  bif decide (a0.1≥0) then
   (Er a0.2).bind fun r1=>
   some (decide (a0.1≤(w64 (a2*r1.1))),())
  else
   some (false,())
 else
  some (false,())
def lD (a0:ai):Option (Int×Unit):=
 (cu a0).bind fun r1=>
 bif r1.1 != 0 then
  some (r1.1,())
 else
  (uT a0 4 1000000000).bind fun r2=>
  bif !r2.1 then
   some (1,())
  else
   some (0,())
def Fa (a0:aD) (a1:Bys):Option (Int×Unit):=
 (strings_Compare a0.1 a1).bind fun r1=>
 some (r1.1,())
abbrev cV:Type:=(List aD)×Bys×Unit×Int×Int×Int×Unit
abbrev iB:Type:=((Int×Bool×Unit) ⊕ ((List aD)×Bys×Unit×Int×Int×Unit))
def iA (x1:cV) (again:cV→Option iB):Option iB:=
 match x1 with
 | (A,B,C,D,E,F,_)=>
 bif decide (E<F) then
  let n2:Int:=w64 (Int.fdiv (cw (w64 (E+F))) (2 ^ 1))
  (idx A n2).bind fun y3=>
  (Fa y3 B).bind fun r4=>
  bif decide (r4.1<0) then
   again (A,B,C,D,w64 (n2+1),F,())
  else
   again (A,B,C,D,E,n2,())
 else
  some (.inr (A,B,C,D,E,()))
def fm (a0:List aD) (a1:Bys) (a2:Unit):Option (Int×Bool×Unit):=
 aT (
  iter (X:=cV) (β:=iB) (a0.length+(a1.length+(Int.natAbs ((a0.length:Int))+(Int.natAbs (0:Int)+(Int.natAbs ((a0.length:Int))+2))))) (a0,a1,a2,(a0.length:Int),0,(a0.length:Int),()) (iA)) fun (A,B,_,C,D,_)=>
 bif decide (D<C) then
  (idx A D).bind fun y6=>
  (Fa y6 B).bind fun r7=>
  some (D,r7.1==0,())
 else
  some (D,false,())
def tC (a0:List aD) (a1:Bys):Option (Int×Bool×Unit):=
 (fm a0 a1 ()).bind fun r1=>
 some (r1.1,r1.2.1,())
def kQ (a0:ah) (a1:Bys):Option (Bool×Unit):=
 (tC a0.2.2.2.2.2.2.1 a1).bind fun r1=>
 some (r1.2.1,())
abbrev rC:Type:=Bool×(List ax)×Int×Int×Bys×Bys×Int×Int×Int×Bool×(List aD)×(List au)×(List ax)×Unit
abbrev xk:Type:=((Int×Unit) ⊕ Unit)
def rB (x1:rC) (again:rC→Option xk):Option xk:=
 match x1 with
 | (A,B,C,D,E,F,G,H,I,J,K,L,M,_)=>
 bif decide (D<C) then
  (idx B D).bind fun y2=>
  (cu y2.2.1).bind fun r3=>
  bif r3.1 != 0 then
   some (.inl (r3.1,()))
  else
   bif y2.2.1.1==0 then
    some (.inl (13,()))
   else
    bif y2.1 then
     (iy y2.2.1 100).bind fun r4=>
     aT (γ:=(Bool×(List ax)×Int×Int×Bool×Bys×Bys×Int×Int×Int×Bool×(List aD)×(List au)×(List ax)×Bool×Int×Int×Bys×Unit)) (
      bif !r4.1 then
       some (.inr (A,B,C,D, !r4.1,E,F,G,H,I,J,K,L,M,y2.1,y2.2.1.1,y2.2.1.2,y2.2.2,()))
      else
       bif !y2.1 then
        (iy y2.2.1 1000000000).bind fun r5=>
        bif !r5.1 then
         some (.inr (A,B,C,D,true,E,F,G,H,I,J,K,L,M,y2.1,y2.2.1.1,y2.2.1.2,y2.2.2,()))
        else
         some (.inr (A,B,C,D,decide (y2.2.1.2>H),E,F,G,H,I,J,K,L,M,y2.1,y2.2.1.1,y2.2.1.2,y2.2.2,()))
       else
        some (.inr (A,B,C,D,false,E,F,G,H,I,J,K,L,M,y2.1,y2.2.1.1,y2.2.1.2,y2.2.2,()))) fun (N,O,P,Q,R,S,T,U,V,W,X,Y,Z,A0,_,_,_,B0,_)=>
     bif R then
      some (.inl (1,()))
     else
      bif N then
       bif !(B0==[]) then
        some (.inl (3,()))
       else
        bif !N then
         bif !(B0==[]) then
          (kQ (S,T,U,V,W,X,Y,Z,A0) B0).bind fun r7=>
          bif !r7.1 then
           some (.inl (5,()))
          else
           again (N,O,P,w64 (Q+1),S,T,U,V,W,X,Y,Z,A0,())
         else
          again (N,O,P,w64 (Q+1),S,T,U,V,W,X,Y,Z,A0,())
        else
         again (N,O,P,w64 (Q+1),S,T,U,V,W,X,Y,Z,A0,())
      else
       bif !N then
        bif !(B0==[]) then
         (kQ (S,T,U,V,W,X,Y,Z,A0) B0).bind fun r8=>
         bif !r8.1 then
          some (.inl (5,()))
         else
          again (N,O,P,w64 (Q+1),S,T,U,V,W,X,Y,Z,A0,())
        else
         again (N,O,P,w64 (Q+1),S,T,U,V,W,X,Y,Z,A0,())
       else
        again (N,O,P,w64 (Q+1),S,T,U,V,W,X,Y,Z,A0,())
    else
     aT (γ:=(Bool×(List ax)×Int×Int×Bool×Bys×Bys×Int×Int×Int×Bool×(List aD)×(List au)×(List ax)×Bool×Int×Int×Bys×Unit)) (
      bif !y2.1 then
       (iy y2.2.1 1000000000).bind fun r9=>
       bif !r9.1 then
        some (.inr (A,B,C,D,true,E,F,G,H,I,J,K,L,M,y2.1,y2.2.1.1,y2.2.1.2,y2.2.2,()))
       else
        some (.inr (A,B,C,D,decide (y2.2.1.2>H),E,F,G,H,I,J,K,L,M,y2.1,y2.2.1.1,y2.2.1.2,y2.2.2,()))
      else
       some (.inr (A,B,C,D,false,E,F,G,H,I,J,K,L,M,y2.1,y2.2.1.1,y2.2.1.2,y2.2.2,()))) fun (C0,D0,E0,F0,G0,H0,I0,J0,K0,L0,M0,N0,O0,P0,_,_,_,Q0,_)=>
     bif G0 then
      some (.inl (1,()))
     else
      bif C0 then
       bif !(Q0==[]) then
        some (.inl (3,()))
       else
        bif !C0 then
         bif !(Q0==[]) then
          (kQ (H0,I0,J0,K0,L0,M0,N0,O0,P0) Q0).bind fun r11=>
          bif !r11.1 then
           some (.inl (5,()))
          else
           again (C0,D0,E0,w64 (F0+1),H0,I0,J0,K0,L0,M0,N0,O0,P0,())
         else
          again (C0,D0,E0,w64 (F0+1),H0,I0,J0,K0,L0,M0,N0,O0,P0,())
        else
         again (C0,D0,E0,w64 (F0+1),H0,I0,J0,K0,L0,M0,N0,O0,P0,())
      else
       bif !C0 then
        bif !(Q0==[]) then
         (kQ (H0,I0,J0,K0,L0,M0,N0,O0,P0) Q0).bind fun r12=>
         bif !r12.1 then
          some (.inl (5,()))
         else
          again (C0,D0,E0,w64 (F0+1),H0,I0,J0,K0,L0,M0,N0,O0,P0,())
        else
         again (C0,D0,E0,w64 (F0+1),H0,I0,J0,K0,L0,M0,N0,O0,P0,())
       else
        again (C0,D0,E0,w64 (F0+1),H0,I0,J0,K0,L0,M0,N0,O0,P0,())
 else
  some (.inr ())
def lu (a0:ah) (a1:List ax) (a2:Bool):Option (Int×Unit):=
 bif decide (((a1.length:Int))>20) then
  some (2,())
 else
  aT (
   iter (X:=rC) (β:=xk) (a1.length+(Int.natAbs ((a1.length:Int))+(Int.natAbs (0:Int)+(a0.1.length+(a0.2.1.length+(a0.2.2.1.natAbs+(a0.2.2.2.1.natAbs+(a0.2.2.2.2.1.natAbs+(a0.2.2.2.2.2.2.1.length+(a0.2.2.2.2.2.2.2.1.length+(a0.2.2.2.2.2.2.2.2.length+2))))))))))) (a2,a1,(a1.length:Int),0,a0.1,a0.2.1,a0.2.2.1,a0.2.2.2.1,a0.2.2.2.2.1,a0.2.2.2.2.2.1,a0.2.2.2.2.2.2.1,a0.2.2.2.2.2.2.2.1,a0.2.2.2.2.2.2.2.2,()) (rB)) fun _=>
  some (0,())
def uG (a0:ah) (a1:Int):Option (Int×Unit):=
 (idx a0.2.2.2.2.2.2.2.1 a1).bind fun y1=>
 (b8 y1.1 1 99999).bind fun r2=>
 bif r2.1 then
  some (1,())
 else
  bif decide (a1>0) then
   (idx a0.2.2.2.2.2.2.2.1 (w64 (a1 - 1))).bind fun y3=>
   bif decide (y1.1≤y3.1) then
    some (8,())
   else
    (b8 y1.2.1 1 99999).bind fun r4=>
    bif r4.1 then
     some (1,())
    else
     (dI y1.2.2.1).bind fun r5=>
     bif !r5.1 then
      some (5,())
     else
      (cu y1.2.2.2.1).bind fun r6=>
      bif r6.1 != 0 then
       some (r6.1,())
      else
       bif decide (y1.2.2.2.1.2>3) then
        some (1,())
       else
        (iy y1.2.2.2.1 1000000000).bind fun r7=>
        bif !r7.1 then
         some (1,())
        else
         bif y1.2.2.2.1.1==0 then
          some (13,())
         else
          (dI y1.2.2.2.2.1).bind fun r8=>
          bif !r8.1 then
           some (5,())
          else
           (lD y1.2.2.2.2.2.1).bind fun r9=>
           bif r9.1 != 0 then
            some (r9.1,())
           else
            (b8 y1.2.2.2.2.2.2.1 1 100000).bind fun r10=>
            bif r10.1 then
             some (1,())
            else
             (lu a0 y1.2.2.2.2.2.2.2.1 true).bind fun r11=>
             bif r11.1 != 0 then
              some (r11.1,())
             else
              (kQ a0 y1.2.2.2.2.2.2.2.2).bind fun r12=>
              bif !r12.1 then
               some (5,())
              else
               some (0,())
  else
   (b8 y1.2.1 1 99999).bind fun r13=>
   bif r13.1 then
    some (1,())
   else
    (dI y1.2.2.1).bind fun r14=>
    bif !r14.1 then
     some (5,())
    else
     (cu y1.2.2.2.1).bind fun r15=>
     bif r15.1 != 0 then
      some (r15.1,())
     else
      bif decide (y1.2.2.2.1.2>3) then
       some (1,())
      else
       (iy y1.2.2.2.1 1000000000).bind fun r16=>
       bif !r16.1 then
        some (1,())
       else
        bif y1.2.2.2.1.1==0 then
         some (13,())
        else
         (dI y1.2.2.2.2.1).bind fun r17=>
         bif !r17.1 then
          some (5,())
         else
          (lD y1.2.2.2.2.2.1).bind fun r18=>
          bif r18.1 != 0 then
           some (r18.1,())
          else
           (b8 y1.2.2.2.2.2.2.1 1 100000).bind fun r19=>
           bif r19.1 then
            some (1,())
           else
            (lu a0 y1.2.2.2.2.2.2.2.1 true).bind fun r20=>
            bif r20.1 != 0 then
             some (r20.1,())
            else
             (kQ a0 y1.2.2.2.2.2.2.2.2).bind fun r21=>
             bif !r21.1 then
              some (5,())
             else
              some (0,())
abbrev uF:Type:=Int×Int×Bys×Bys×Int×Int×Int×Bool×(List aD)×(List au)×(List ax)×Unit
abbrev uE:Type:=((Int×Unit) ⊕ (Bys×Bys×Int×Int×Int×Bool×(List aD)×(List au)×(List ax)×Unit))
def oO (x1:uF) (again:uF→Option uE):Option uE:=
 match x1 with
 | (A,B,C,D,E,F,G,H,I,J,K,_)=>
 bif decide (B<A) then
  (uG (C,D,E,F,G,H,I,J,K) B).bind fun r2=>
  bif r2.1 != 0 then
   some (.inl (r2.1,()))
  else
   again (A,w64 (B+1),C,D,E,F,G,H,I,J,K,())
 else
  some (.inr (C,D,E,F,G,H,I,J,K,()))
def fS (a0:ah):Option (Int×Unit):=
 (dI a0.1).bind fun r1=>
 bif !r1.1 then
  some (5,())
 else
  (dI a0.2.1).bind fun r2=>
  bif !r2.1 then
   some (5,())
  else
   (mV a0.2.2.1).bind fun r3=>
   bif !r3.1 then
    some (1,())
   else
    (b8 a0.2.2.2.1 0 4).bind fun r4=>
    bif r4.1 then
     some (1,())
    else
     (Gs a0.2.2.2.2.1).bind fun r5=>
     bif !r5.1 then
      some (4,())
     else
      (oP a0.2.2.2.2.2.2.1).bind fun r6=>
      bif r6.1 != 0 then
       some (r6.1,())
      else
       bif ((a0.2.2.2.2.2.2.2.1.length:Int))==0 then
        some (9,())
       else
        bif decide (((a0.2.2.2.2.2.2.2.1.length:Int))>500) then
         some (2,())
        else
         aT (
          iter (X:=uF) (β:=uE) (Int.natAbs ((a0.2.2.2.2.2.2.2.1.length:Int))+(Int.natAbs (0:Int)+(a0.1.length+(a0.2.1.length+(a0.2.2.1.natAbs+(a0.2.2.2.1.natAbs+(a0.2.2.2.2.1.natAbs+(a0.2.2.2.2.2.2.1.length+(a0.2.2.2.2.2.2.2.1.length+(a0.2.2.2.2.2.2.2.2.length+2)))))))))) ((a0.2.2.2.2.2.2.2.1.length:Int),0,a0.1,a0.2.1,a0.2.2.1,a0.2.2.2.1,a0.2.2.2.2.1,a0.2.2.2.2.2.1,a0.2.2.2.2.2.2.1,a0.2.2.2.2.2.2.2.1,a0.2.2.2.2.2.2.2.2,()) (oO)) fun (A,B,C,D,E,F,G,H,I,_)=>
         (lu (A,B,C,D,E,F,G,H,I) I false).bind fun r10=>
         some (r10.1,())
abbrev oK:Type:=Int×Int×Int×(List Int)×Int×Int×(List Int)×Int×Int×Bool×(List Int)×Bool×(List Int)×Bool×(List Int)×(List Int)×Unit
abbrev zk:Type:=(((aa×Unit) ⊕ (Bool×(List Int)×Bool×(List Int)×Bool×(List Int)×(List Int)×Unit)) ⊕ (Int×Int×(List Int)×Int×Int×Bool×(List Int)×Bool×(List Int)×Bool×(List Int)×(List Int)×Unit))
def tj (x1:oK) (again:oK→Option zk):Option zk:=
 match x1 with
 | (A,B,C,D,E,F,G,H,I,J,K,L,M,N,O,P,_)=>
 bif decide (I<H) then
  (idx G I).bind fun y2=>
  chk (decide (0≤(w64 (A+I)))&&decide ((w64 (A+I))<(P.length:Int))) <|
  (P[(w64 (A+I)).toNat]?).bind fun y3=>
  let n4:Int:=cw ((cw y3)+(cw ((cw B)*(cw y2))))
  chk (decide (0≤(w64 (A+I)))&&decide ((w64 (A+I))<(P.length:Int))) <|
  (P[(w64 (A+I)).toNat]?).bind fun _=>
  again (A,B,Int.fdiv (cw (C+n4)) (2 ^ 32),D,E,F,G,H,w64 (I+1),J,K,L,M,N,O,List.set P (w64 (A+I)).toNat (oL (cw (C+n4))),())
 else
  some (.inr (A,C,D,E,F,J,K,L,M,N,O,P,()))
abbrev oJ:Type:=(List Int)×Int×Int×Bool×(List Int)×Bool×(List Int)×Bool×(List Int)×(List Int)×Unit
abbrev zj:Type:=((aa×Unit) ⊕ (Bool×(List Int)×Bool×(List Int)×Bool×(List Int)×(List Int)×Unit))
def th (x1:oJ) (again:oJ→Option zj):Option zj:=
 match x1 with
 | (A,B,C,D,E,F,G,H,I,J,_)=>
 bif decide (C<B) then
  (idx A C).bind fun y2=>
  aT (
   iter (X:=oK) (β:=zk) (C.natAbs+(y2.natAbs+(Int.natAbs (0:Int)+(A.length+(B.natAbs+(C.natAbs+(G.length+(Int.natAbs ((G.length:Int))+(Int.natAbs (0:Int)+(E.length+(G.length+(I.length+(J.length+2))))))))))))) (C,y2,0,A,B,C,G,(G.length:Int),0,D,E,F,G,H,I,J,()) (tj)) fun (K,L,M,N,O,P,Q,R,S,T,U,V,_)=>
  chk (decide (0≤(w64 (K+((S.length:Int)))))&&decide ((w64 (K+((S.length:Int))))<(V.length:Int))) <|
  (V[(w64 (K+((S.length:Int)))).toNat]?).bind fun _=>
  again (M,N,w64 (O+1),P,Q,R,S,T,U,List.set V (w64 (K+((S.length:Int)))).toNat (oL L),())
 else
  some (.inr (D,E,F,G,H,I,J,()))
def dx (a0:aa) (a1:aa):Option (aa×Unit):=
 chk (decide (0≤(w64 (((a0.2.length:Int))+((a1.2.length:Int)))))&&decide ((w64 (((a0.2.length:Int))+((a1.2.length:Int))))≤(w64 (((a0.2.length:Int))+((a1.2.length:Int)))))&&decide ((4:Int)*(w64 (((a0.2.length:Int))+((a1.2.length:Int))))≤281474976710656)&&decide ((w64 (((a0.2.length:Int))+((a1.2.length:Int))))≤9223372036854775807)) <|
 aT (
  iter (X:=oJ) (β:=zj) (a0.2.length+(Int.natAbs ((a0.2.length:Int))+(Int.natAbs (0:Int)+(a0.2.length+(a1.2.length+(List.length ([]:List Int)+(List.length ((List.replicate (Int.toNat (w64 (((a0.2.length:Int))+((a1.2.length:Int))))) 0):List Int)+2))))))) (a0.2,(a0.2.length:Int),0,a0.1,a0.2,a1.1,a1.2,false,[],List.replicate (Int.toNat (w64 (((a0.2.length:Int))+((a1.2.length:Int))))) 0,()) (th)) fun v10=>
 (jZ (!(v10.1==v10.2.2.1)) v10.2.2.2.2.2.2.1).bind fun r11=>
 some (r11.1,())
abbrev vh:Type:=Int×Int×Bool×(List Int)×Bool×(List Int)×Unit
abbrev D7:Type:=((aa×Unit) ⊕ (Bool×(List Int)×Bool×(List Int)×Unit))
def zU (x1:vh) (again:vh→Option D7):Option D7:=
 match x1 with
 | (A,B,C,D,E,F,_)=>
 bif decide (B<A) then
  (bJ 10).bind fun r2=>
  (dx (E,F) r2.1).bind fun r3=>
  again (A,w64 (B+1),C,D,r3.1.1,r3.1.2,())
 else
  some (.inr (C,D,E,F,()))
def qy (a0:Int):Option (aa×Unit):=
 (bJ 1).bind fun r1=>
 aT (
  iter (X:=vh) (β:=D7) (a0.natAbs+(Int.natAbs (0:Int)+(List.length ([]:List Int)+(r1.1.2.length+2)))) (a0,0,false,[],r1.1.1,r1.1.2,()) (zU)) fun v5=>
 some ((v5.2.2.1,v5.2.2.2.1),())
abbrev D9:Type:=(List Int)×(List Int)×Int×(List Int)×Int×Int×Unit
abbrev D8:Type:=(((List Int)×Unit) ⊕ ((List Int)×Int×Unit))
def UZ (x1:D9) (again:D9→Option D8):Option D8:=
 match x1 with
 | (A,B,C,D,E,F,_)=>
 bif decide (F<E) then
  (idx D F).bind fun y2=>
  aT (γ:=((List Int)×(List Int)×Int×(List Int)×Int×Int×Unit)) (
   bif decide (F<((A.length:Int))) then
    (idx A F).bind fun y3=>
    let n4:Int:=cw ((cw (C+(cw y2)))+(cw y3))
    some (.inr (A,B,n4,D,E,F,()))
   else
    some (.inr (A,B,cw (C+(cw y2)),D,E,F,()))) fun (G,H,I,J,K,L,_)=>
  chk (decide (((H.length)+1)*4≤140737488355328)&&decide ((H.length)+1≤maxLen)) <|
  again (G,H++[(oL I)],Int.fdiv I (2 ^ 32),J,K,w64 (L+1),())
 else
  some (.inr (B,C,()))
def JG (a0:List Int) (a1:List Int):Option ((List Int)×Unit):=
 aT (γ:=((List Int)×(List Int)×Unit)) (
  bif decide (((a0.length:Int))<((a1.length:Int))) then
   some (.inr (a1,a0,()))
  else
   some (.inr (a0,a1,()))) fun (A,B,_)=>
 chk (decide (0≤(0:Int))&&decide ((0:Int)≤(w64 (((A.length:Int))+1)))&&decide ((4:Int)*(w64 (((A.length:Int))+1))≤281474976710656)&&decide ((w64 (((A.length:Int))+1))≤9223372036854775807)) <|
 aT (
  iter (X:=D9) (β:=D8) (B.length+(List.length ([]:List Int)+(Int.natAbs (0:Int)+(A.length+(Int.natAbs ((A.length:Int))+(Int.natAbs (0:Int)+2)))))) (B,[],0,A,(A.length:Int),0,()) (UZ)) fun (C,D,_)=>
 chk (decide (((C.length)+1)*4≤140737488355328)&&decide ((C.length)+1≤maxLen)) <|
 some (C++[(oL D)],())
def bf (a0:aa) (a1:aa):Option (aa×Unit):=
 bif a0.1==a1.1 then
  (JG a0.2 a1.2).bind fun r1=>
  (jZ a0.1 r1.1).bind fun r2=>
  some (r2.1,())
 else
  (wT a0.2 a1.2).bind fun r3=>
  bif decide (r3.1≥0) then
   (zV a0.2 a1.2).bind fun r4=>
   (jZ a0.1 r4.1).bind fun r5=>
   some (r5.1,())
  else
   (zV a1.2 a0.2).bind fun r6=>
   (jZ a1.1 r6.1).bind fun r7=>
   some (r7.1,())
def qC (a0:aa) (a1:aa):Option (aa×Unit):=
 (aI a1).bind fun r1=>
 (bf a0 r1.1).bind fun r2=>
 some (r2.1,())
def kH (a0:aa) (a1:aa):Option (Int×Unit):=
 (qC a0 a1).bind fun r1=>
 (aG r1.1).bind fun r2=>
 some (r2.1,())
def iw (a0:aa):Option (Bool×Unit):=
 bif decide (((a0.2.length:Int))>0) then
  (idx a0.2 0).bind fun y1=>
  some ((oL (((BitVec.ofInt (IntKind.bits .u32) y1 &&& BitVec.ofInt (IntKind.bits .u32) 1).toNat:Int)))==1,())
 else
  some (false,())
def uC (a0:aa) (a1:aa) (a2:Int):Option (aa×Unit):=
 (rq a0 a1).bind fun r1=>
 (aG r1.2.1).bind fun r2=>
 bif r2.1 != 0 then
  (bf r1.2.1 r1.2.1).bind fun r3=>
  (kH r3.1 a1).bind fun r4=>
  (aG a0).bind fun r5=>
  bif a2==4 then
   (bJ 1).bind fun r6=>
   (bf r1.1 r6.1).bind fun r7=>
   (aG a0).bind fun r8=>
   bif decide (r8.1<0) then
    (aI r7.1).bind fun r9=>
    some (r9.1,())
   else
    some (r7.1,())
  else
   bif a2==5 then
    bif decide (r5.1<0) then
     (bJ 1).bind fun r10=>
     (bf r1.1 r10.1).bind fun r11=>
     (aG a0).bind fun r12=>
     bif decide (r12.1<0) then
      (aI r11.1).bind fun r13=>
      some (r13.1,())
     else
      some (r11.1,())
    else
     bif a2==6 then
      bif !(decide (r5.1<0)) then
       (bJ 1).bind fun r14=>
       (bf r1.1 r14.1).bind fun r15=>
       (aG a0).bind fun r16=>
       bif decide (r16.1<0) then
        (aI r15.1).bind fun r17=>
        some (r17.1,())
       else
        some (r15.1,())
      else
       bif a2==1 then
        bif decide (r4.1≥0) then
         (bJ 1).bind fun r18=>
         (bf r1.1 r18.1).bind fun r19=>
         (aG a0).bind fun r20=>
         bif decide (r20.1<0) then
          (aI r19.1).bind fun r21=>
          some (r21.1,())
         else
          some (r19.1,())
        else
         bif a2==2 then
          bif decide (r4.1>0) then
           (bJ 1).bind fun r22=>
           (bf r1.1 r22.1).bind fun r23=>
           (aG a0).bind fun r24=>
           bif decide (r24.1<0) then
            (aI r23.1).bind fun r25=>
            some (r25.1,())
           else
            some (r23.1,())
          else
           bif r4.1==0 then
            (iw r1.1).bind fun r26=>
            bif r26.1 then
             (bJ 1).bind fun r27=>
             (bf r1.1 r27.1).bind fun r28=>
             (aG a0).bind fun r29=>
             bif decide (r29.1<0) then
              (aI r28.1).bind fun r30=>
              some (r30.1,())
             else
              some (r28.1,())
            else
             (aG a0).bind fun r31=>
             bif decide (r31.1<0) then
              (aI r1.1).bind fun r32=>
              some (r32.1,())
             else
              some (r1.1,())
           else
            (aG a0).bind fun r33=>
            bif decide (r33.1<0) then
             (aI r1.1).bind fun r34=>
             some (r34.1,())
            else
             some (r1.1,())
         else
          (aG a0).bind fun r35=>
          bif decide (r35.1<0) then
           (aI r1.1).bind fun r36=>
           some (r36.1,())
          else
           some (r1.1,())
       else
        bif a2==2 then
         bif decide (r4.1>0) then
          (bJ 1).bind fun r37=>
          (bf r1.1 r37.1).bind fun r38=>
          (aG a0).bind fun r39=>
          bif decide (r39.1<0) then
           (aI r38.1).bind fun r40=>
           some (r40.1,())
          else
           some (r38.1,())
         else
          bif r4.1==0 then
           (iw r1.1).bind fun r41=>
           bif r41.1 then
            (bJ 1).bind fun r42=>
            (bf r1.1 r42.1).bind fun r43=>
            (aG a0).bind fun r44=>
            bif decide (r44.1<0) then
             (aI r43.1).bind fun r45=>
             some (r45.1,())
            else
             some (r43.1,())
           else
            (aG a0).bind fun r46=>
            bif decide (r46.1<0) then
             (aI r1.1).bind fun r47=>
             some (r47.1,())
            else
             some (r1.1,())
          else
           (aG a0).bind fun r48=>
           bif decide (r48.1<0) then
            (aI r1.1).bind fun r49=>
            some (r49.1,())
           else
            some (r1.1,())
        else
         (aG a0).bind fun r50=>
         bif decide (r50.1<0) then
          (aI r1.1).bind fun r51=>
          some (r51.1,())
         else
          some (r1.1,())
     else
      bif a2==1 then
       bif decide (r4.1≥0) then
        (bJ 1).bind fun r52=>
        (bf r1.1 r52.1).bind fun r53=>
        (aG a0).bind fun r54=>
        bif decide (r54.1<0) then
         (aI r53.1).bind fun r55=>
         some (r55.1,())
        else
         some (r53.1,())
       else
        bif a2==2 then
         bif decide (r4.1>0) then
          (bJ 1).bind fun r56=>
          (bf r1.1 r56.1).bind fun r57=>
          (aG a0).bind fun r58=>
          bif decide (r58.1<0) then
           (aI r57.1).bind fun r59=>
           some (r59.1,())
          else
           some (r57.1,())
         else
          bif r4.1==0 then
           (iw r1.1).bind fun r60=>
           bif r60.1 then
            (bJ 1).bind fun r61=>
            (bf r1.1 r61.1).bind fun r62=>
            (aG a0).bind fun r63=>
            bif decide (r63.1<0) then
             (aI r62.1).bind fun r64=>
             some (r64.1,())
            else
             some (r62.1,())
           else
            (aG a0).bind fun r65=>
            bif decide (r65.1<0) then
             (aI r1.1).bind fun r66=>
             some (r66.1,())
            else
             some (r1.1,())
          else
           (aG a0).bind fun r67=>
           bif decide (r67.1<0) then
            (aI r1.1).bind fun r68=>
            some (r68.1,())
           else
            some (r1.1,())
        else
         (aG a0).bind fun r69=>
         bif decide (r69.1<0) then
          (aI r1.1).bind fun r70=>
          some (r70.1,())
         else
          some (r1.1,())
      else
       bif a2==2 then
        bif decide (r4.1>0) then
         (bJ 1).bind fun r71=>
         (bf r1.1 r71.1).bind fun r72=>
         (aG a0).bind fun r73=>
         bif decide (r73.1<0) then
          (aI r72.1).bind fun r74=>
          some (r74.1,())
         else
          some (r72.1,())
        else
         bif r4.1==0 then
          (iw r1.1).bind fun r75=>
          bif r75.1 then
           (bJ 1).bind fun r76=>
           (bf r1.1 r76.1).bind fun r77=>
           (aG a0).bind fun r78=>
           bif decide (r78.1<0) then
            (aI r77.1).bind fun r79=>
            some (r79.1,())
           else
            some (r77.1,())
          else
           (aG a0).bind fun r80=>
           bif decide (r80.1<0) then
            (aI r1.1).bind fun r81=>
            some (r81.1,())
           else
            some (r1.1,())
         else
          (aG a0).bind fun r82=>
          bif decide (r82.1<0) then
           (aI r1.1).bind fun r83=>
           some (r83.1,())
          else
           some (r1.1,())
       else
        (aG a0).bind fun r84=>
        bif decide (r84.1<0) then
         (aI r1.1).bind fun r85=>
         some (r85.1,())
        else
         some (r1.1,())
   else
    bif a2==6 then
     bif !(decide (r5.1<0)) then
      (bJ 1).bind fun r86=>
      (bf r1.1 r86.1).bind fun r87=>
      (aG a0).bind fun r88=>
      bif decide (r88.1<0) then
       (aI r87.1).bind fun r89=>
       some (r89.1,())
      else
       some (r87.1,())
     else
      bif a2==1 then
       bif decide (r4.1≥0) then
        (bJ 1).bind fun r90=>
        (bf r1.1 r90.1).bind fun r91=>
        (aG a0).bind fun r92=>
        bif decide (r92.1<0) then
         (aI r91.1).bind fun r93=>
         some (r93.1,())
        else
         some (r91.1,())
       else
        bif a2==2 then
         bif decide (r4.1>0) then
          (bJ 1).bind fun r94=>
          (bf r1.1 r94.1).bind fun r95=>
          (aG a0).bind fun r96=>
          bif decide (r96.1<0) then
           (aI r95.1).bind fun r97=>
           some (r97.1,())
          else
           some (r95.1,())
         else
          bif r4.1==0 then
           (iw r1.1).bind fun r98=>
           bif r98.1 then
            (bJ 1).bind fun r99=>
            (bf r1.1 r99.1).bind fun r100=>
            (aG a0).bind fun r101=>
            bif decide (r101.1<0) then
             (aI r100.1).bind fun r102=>
             some (r102.1,())
            else
             some (r100.1,())
           else
            (aG a0).bind fun r103=>
            bif decide (r103.1<0) then
             (aI r1.1).bind fun r104=>
             some (r104.1,())
            else
             some (r1.1,())
          else
           (aG a0).bind fun r105=>
           bif decide (r105.1<0) then
            (aI r1.1).bind fun r106=>
            some (r106.1,())
           else
            some (r1.1,())
        else
         (aG a0).bind fun r107=>
         bif decide (r107.1<0) then
          (aI r1.1).bind fun r108=>
          some (r108.1,())
         else
          some (r1.1,())
      else
       bif a2==2 then
        bif decide (r4.1>0) then
         (bJ 1).bind fun r109=>
         (bf r1.1 r109.1).bind fun r110=>
         (aG a0).bind fun r111=>
         bif decide (r111.1<0) then
          (aI r110.1).bind fun r112=>
          some (r112.1,())
         else
          some (r110.1,())
        else
         bif r4.1==0 then
          (iw r1.1).bind fun r113=>
          bif r113.1 then
           (bJ 1).bind fun r114=>
           (bf r1.1 r114.1).bind fun r115=>
           (aG a0).bind fun r116=>
           bif decide (r116.1<0) then
            (aI r115.1).bind fun r117=>
            some (r117.1,())
           else
            some (r115.1,())
          else
           (aG a0).bind fun r118=>
           bif decide (r118.1<0) then
            (aI r1.1).bind fun r119=>
            some (r119.1,())
           else
            some (r1.1,())
         else
          (aG a0).bind fun r120=>
          bif decide (r120.1<0) then
           (aI r1.1).bind fun r121=>
           some (r121.1,())
          else
           some (r1.1,())
       else
        (aG a0).bind fun r122=>
        bif decide (r122.1<0) then
         (aI r1.1).bind fun r123=>
         some (r123.1,())
        else
         some (r1.1,())
    else
     bif a2==1 then
      bif decide (r4.1≥0) then
       (bJ 1).bind fun r124=>
       (bf r1.1 r124.1).bind fun r125=>
       (aG a0).bind fun r126=>
       bif decide (r126.1<0) then
        (aI r125.1).bind fun r127=>
        some (r127.1,())
       else
        some (r125.1,())
      else
       bif a2==2 then
        bif decide (r4.1>0) then
         (bJ 1).bind fun r128=>
         (bf r1.1 r128.1).bind fun r129=>
         (aG a0).bind fun r130=>
         bif decide (r130.1<0) then
          (aI r129.1).bind fun r131=>
          some (r131.1,())
         else
          some (r129.1,())
        else
         bif r4.1==0 then
          (iw r1.1).bind fun r132=>
          bif r132.1 then
           (bJ 1).bind fun r133=>
           (bf r1.1 r133.1).bind fun r134=>
           (aG a0).bind fun r135=>
           bif decide (r135.1<0) then
            (aI r134.1).bind fun r136=>
            some (r136.1,())
           else
            some (r134.1,())
          else
           (aG a0).bind fun r137=>
           bif decide (r137.1<0) then
            (aI r1.1).bind fun r138=>
            some (r138.1,())
           else
            some (r1.1,())
         else
          (aG a0).bind fun r139=>
          bif decide (r139.1<0) then
           (aI r1.1).bind fun r140=>
           some (r140.1,())
          else
           some (r1.1,())
       else
        (aG a0).bind fun r141=>
        bif decide (r141.1<0) then
         (aI r1.1).bind fun r142=>
         some (r142.1,())
        else
         some (r1.1,())
     else
      bif a2==2 then
       bif decide (r4.1>0) then
        (bJ 1).bind fun r143=>
        (bf r1.1 r143.1).bind fun r144=>
        (aG a0).bind fun r145=>
        bif decide (r145.1<0) then
         (aI r144.1).bind fun r146=>
         some (r146.1,())
        else
         some (r144.1,())
       else
        bif r4.1==0 then
         (iw r1.1).bind fun r147=>
         bif r147.1 then
          (bJ 1).bind fun r148=>
          (bf r1.1 r148.1).bind fun r149=>
          (aG a0).bind fun r150=>
          bif decide (r150.1<0) then
           (aI r149.1).bind fun r151=>
           some (r151.1,())
          else
           some (r149.1,())
         else
          (aG a0).bind fun r152=>
          bif decide (r152.1<0) then
           (aI r1.1).bind fun r153=>
           some (r153.1,())
          else
           some (r1.1,())
        else
         (aG a0).bind fun r154=>
         bif decide (r154.1<0) then
          (aI r1.1).bind fun r155=>
          some (r155.1,())
         else
          some (r1.1,())
      else
       (aG a0).bind fun r156=>
       bif decide (r156.1<0) then
        (aI r1.1).bind fun r157=>
        some (r157.1,())
       else
        some (r1.1,())
 else
  (aG a0).bind fun r158=>
  bif decide (r158.1<0) then
   (aI r1.1).bind fun r159=>
   some (r159.1,())
  else
   some (r1.1,())
def kI (a0:aa):Option (Bool×Unit):=
 (pJ a0 1000000000000000).bind fun r1=>
 some (r1.2.1,())
def FC (a0:ah) (a1:au):Option (aa×Bool×Unit):=
 (bJ a1.2.2.2.1.1).bind fun r1=>
 (bJ a1.2.2.2.2.2.1.1).bind fun r2=>
 (dx r1.1 r2.1).bind fun r3=>
 (qy a0.2.2.2.1).bind fun r4=>
 (dx r3.1 r4.1).bind fun r5=>
 (qy (w64 (a1.2.2.2.1.2+a1.2.2.2.2.2.1.2))).bind fun r6=>
 (bJ a1.2.2.2.2.2.2.1).bind fun r7=>
 (dx r6.1 r7.1).bind fun r8=>
 (uC r5.1 r8.1 a0.2.2.2.2.1).bind fun r9=>
 (kI r9.1).bind fun r10=>
 some (r9.1,r10.1,())
def mQ (a0:ai) (a1:Int):Option (aa×Unit):=
 (bJ a0.1).bind fun r1=>
 (qy (w64 (a1 - a0.2))).bind fun r2=>
 (dx r1.1 r2.1).bind fun r3=>
 some (r3.1,())
def sB (a0:ah) (a1:aa) (a2:ai):Option (aa×Unit):=
 (bJ a2.1).bind fun r1=>
 (dx a1 r1.1).bind fun r2=>
 (bJ 100).bind fun r3=>
 (qy a2.2).bind fun r4=>
 (dx r3.1 r4.1).bind fun r5=>
 (uC r2.1 r5.1 a0.2.2.2.2.1).bind fun r6=>
 some (r6.1,())
abbrev AF:Type:=Bool×(List ax)×Int×Int×Bys×Bys×Int×Int×Int×Bool×(List aD)×(List au)×(List ax)×Bool×(List Int)×Bool×(List Int)×Bool×(List Int)×Unit
abbrev IJ:Type:=((aa×Bool×Unit) ⊕ (Bool×Bool×(List Int)×Bool×(List Int)×Unit))
def Ek (x1:AF) (again:AF→Option IJ):Option IJ:=
 match x1 with
 | (A,B,C,D,E,F,G,H,I,J,K,L,M,N,O,P,Q,R,S,_)=>
 bif decide (D<C) then
  (idx B D).bind fun y2=>
  (mQ y2.2.1 (if y2.2.1.2>H then y2.2.1.2 else H)).bind fun r3=>
  aT (γ:=(Bool×(List ax)×Int×Int×Bys×Bys×Int×Int×Int×Bool×(List aD)×(List au)×(List ax)×Bool×(List Int)×Bool×(List Int)×Bool×(List Int)×Bool×(List Int)×Unit)) (
   bif y2.1 then
    (sB (E,F,G,H,I,J,K,L,M) (P,Q) y2.2.1).bind fun r4=>
    some (.inr (A,B,C,D,E,F,G,H,I,J,K,L,M,N,O,P,Q,R,S,r4.1.1,r4.1.2,()))
   else
    some (.inr (A,B,C,D,E,F,G,H,I,J,K,L,M,N,O,P,Q,R,S,r3.1.1,r3.1.2,()))) fun (T,U,V,W,X,Y,Z,A0,B0,C0,D0,E0,F0,G0,H0,I0,J0,K0,L0,M0,N0,_)=>
  (bf (K0,L0) (M0,N0)).bind fun r6=>
  bif T then
   (kI (M0,N0)).bind fun r7=>
   bif r7.1 then
    (kI r6.1).bind fun r8=>
    again (r8.1,U,V,w64 (W+1),X,Y,Z,A0,B0,C0,D0,E0,F0,G0,H0,I0,J0,r6.1.1,r6.1.2,())
   else
    again (false,U,V,w64 (W+1),X,Y,Z,A0,B0,C0,D0,E0,F0,G0,H0,I0,J0,r6.1.1,r6.1.2,())
  else
   again (false,U,V,w64 (W+1),X,Y,Z,A0,B0,C0,D0,E0,F0,G0,H0,I0,J0,r6.1.1,r6.1.2,())
 else
  some (.inr (A,N,O,R,S,()))
def KN (a0:ah) (a1:au):Option (aa×Bool×Unit):=
 (FC a0 a1).bind fun r1=>
 aT (
  iter (X:=AF) (β:=IJ) (a1.2.2.2.2.2.2.2.1.length+(Int.natAbs ((a1.2.2.2.2.2.2.2.1.length:Int))+(Int.natAbs (0:Int)+(a0.1.length+(a0.2.1.length+(a0.2.2.1.natAbs+(a0.2.2.2.1.natAbs+(a0.2.2.2.2.1.natAbs+(a0.2.2.2.2.2.2.1.length+(a0.2.2.2.2.2.2.2.1.length+(a0.2.2.2.2.2.2.2.2.length+(List.length ([]:List Int)+(r1.1.2.length+(r1.1.2.length+2)))))))))))))) (r1.2.1,a1.2.2.2.2.2.2.2.1,(a1.2.2.2.2.2.2.2.1.length:Int),0,a0.1,a0.2.1,a0.2.2.1,a0.2.2.2.1,a0.2.2.2.2.1,a0.2.2.2.2.2.1,a0.2.2.2.2.2.2.1,a0.2.2.2.2.2.2.2.1,a0.2.2.2.2.2.2.2.2,false,[],r1.1.1,r1.1.2,r1.1.1,r1.1.2,()) (Ek)) fun (A,_,_,B,C,_)=>
 some ((B,C),A,())
end Go.Md
namespace Go.Md
open Go.Dn
abbrev wk:Ty:=(.st (.pair tI (.pair cr tI)))
abbrev iM:Type:=Int×ai×Int
abbrev cc:Ty:=(.st (.pair tI (.pair .str (.pair .str (.pair cr (.pair cr (.pair tI (.pair cr (.pair cr (.pair cr cr))))))))))
abbrev aF:Type:=Int×Bys×Bys×ai×ai×Int×ai×ai×ai×ai
def nD (a0:ai) (a1:Bool):Option (Int×Unit):=
 (cu a0).bind fun r1=>
 bif r1.1 != 0 then
  some (r1.1,())
 else
  (uT a0 3 1000000000).bind fun r2=>
  bif !r2.1 then
   some (1,())
  else
   bif a0.1==0 then
    bif !a1 then
     some (1,())
    else
     some (0,())
   else
    some (0,())
end Go.Md
namespace Go.Md
open Go.Dn
end Go.Md
namespace Go.Md
open Go.Dn
def l8 (a0:ai):Option (aa×Unit):=
 (mQ a0 9).bind fun r1=>
 some (r1.1,())
end Go.Md
