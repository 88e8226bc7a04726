/-
  Plain models, third part. No condition.
-/
import Derived.Test.YtilaijcbckgmmabGreatDoorYn
import Derived.Test.YtilaijcbckgmmabGreatDoorYd
import Derived.Lib.Atoi
import Derived.Lib.IndexBytes
namespace Go.Md
open Go.Dn
def abu (a b:Int×Int×Int×Int×Int×Bys×(Int×Int)×Bys×(Int×Int)×Int×Int):Int:=
 bif !(a.1 - b.1==0) then a.1 - b.1 else bif !(a.2.1 - b.2.1==0) then a.2.1 - b.2.1 else a.2.2.1 - b.2.2.1
noncomputable section
abbrev Wa:Ty:=(.st (.pair tI (.pair tI tI)))
abbrev Vq:Type:=Int×Int×Int
abbrev IX:Ty:=(.st (.pair .bool (.pair .bool (.pair .bool (.pair .bool .bool)))))
abbrev Ia:Type:=Bool×Bool×Bool×Bool×Bool
abbrev XQ:Ty:=(.st (.pair .bool (.pair .bool (.pair .bool (.pair .bool (.pair .bool .bool))))))
abbrev Wo:Type:=Bool×Bool×Bool×Bool×Bool×Bool
abbrev fh:Ty:=(.st (.pair tI (.pair .str (.pair cl (.pair .str (.pair cl tI))))))
abbrev aF:Type:=Int×Bys×ah×Bys×ah×Int
abbrev az:Ty:=(.st (.pair tI (.pair tI (.pair tI (.pair tI (.pair tI (.pair .str (.pair cl (.pair .str (.pair cl (.pair tI tI)))))))))))
abbrev aa:Type:=Int×Int×Int×Int×Int×Bys×ah×Bys×ah×Int×Int
abbrev aY:Ty:=(.st (.pair .str (.pair .str (.pair .str (.pair tI (.pair tI (.slice fh)))))))
abbrev aj:Type:=Bys×Bys×Bys×Int×Int×(List aF)
abbrev ck:Ty:=(.st (.pair tI (.pair .str (.pair .str (.pair tI (.pair tI (.pair tI (.pair tI (.pair cl (.pair tI (.pair tI Wa)))))))))))
abbrev bf:Type:=Int×Bys×Bys×Int×Int×Int×Int×ah×Int×Int×Vq
abbrev cO:Ty:=(.st (.pair tI bg))
abbrev aL:Type:=Int×aq
def vi (a0:aj) (a1:Int):Option (Int×Unit):=
 (idx a0.2.2.2.2.2 a1).bind fun y1=>
 (bP y1.1 1 99999).bind fun r2=>
 bif r2.1 then
  some (1,())
 else
  (
   bif decide (a1>0) then
    Option.bind (idx a0.2.2.2.2.2 (w64 (a1 - 1))) fun y3=>
    some (decide (y1.1<=y3.1),())
   else
    some (false,())).bind fun v4=>
  bif v4.1 then
   some (8,())
  else
   (cK y1.2.1).bind fun r5=>
   bif !r5.1 then
    some (5,())
   else
    (kJ y1.2.2.1 false).bind fun r6=>
    bif r6.1 != 0 then
     some (r6.1,())
    else
     (cK y1.2.2.2.1).bind fun r7=>
     bif !r7.1 then
      some (5,())
     else
      (iY y1.2.2.2.2.1).bind fun r8=>
      bif r8.1 != 0 then
       some (r8.1,())
      else
       (bP y1.2.2.2.2.2 a0.2.2.2.1 3652059).bind fun r9=>
       bif r9.1 then
        some (1,())
       else
        some (0,())
abbrev nr:Type:=Int×Int×Bys×Bys×Bys×Int×Int×(List aF)×Unit
abbrev nq:Type:=((Int×Unit) ⊕ Unit)
def nk (x1:nr) (again:nr->Option nq):Option nq:=
 match x1 with
 | (A,B,C,D,E,F,G,H,_)=>
 bif decide (B<A) then
  (vi (C,D,E,F,G,H) B).bind fun r2=>
  bif r2.1 != 0 then
   some (.inl (r2.1,()))
  else
   again (A,w64 (B+1),C,D,E,F,G,H,())
 else
  some (.inr ())
def iX (a0:aj):Option (Int×Unit):=
 (cK a0.1).bind fun r1=>
 bif !r1.1 then
  some (5,())
 else
  (cK a0.2.1).bind fun r2=>
  bif !r2.1 then
   some (5,())
  else
   (cK a0.2.2.1).bind fun r3=>
   bif !r3.1 then
    some (5,())
   else
    bif a0.2.1==a0.2.2.1 then
     some (12,())
    else
     (iw a0.2.2.2.1).bind fun r4=>
     bif !r4.1 then
      some (1,())
     else
      (bP a0.2.2.2.2.1 0 1000).bind fun r5=>
      bif r5.1 then
       some (1,())
      else
       bif ((a0.2.2.2.2.2.length:Int))==0 then
        some (9,())
       else
        bif decide (((a0.2.2.2.2.2.length:Int))>500) then
         some (2,())
        else
         aB (
          iter (X:=nr) (β:=nq) (Int.natAbs ((a0.2.2.2.2.2.length:Int))+(Int.natAbs (0:Int)+(a0.1.length+(a0.2.1.length+(a0.2.2.1.length+(a0.2.2.2.1.natAbs+(a0.2.2.2.2.1.natAbs+(a0.2.2.2.2.2.length+2)))))))) ((a0.2.2.2.2.2.length:Int),0,a0.1,a0.2.1,a0.2.2.1,a0.2.2.2.1,a0.2.2.2.2.1,a0.2.2.2.2.2,()) (nk)) fun _=>
         some (0,())
def p9 (a0:Int):Option (Bool×Unit):=
 bif a0==5 then
  some (true,())
 else
  bif a0==6 then
   some (true,())
  else
   bif a0==7 then
    some (true,())
   else
    some (a0==9,())
def Bg (a0:Int):Option (Wo×Unit):=
 bif a0==1 then
  some ((true,true,true,true,true,false),())
 else
  bif a0==3 then
   some ((false,false,false,false,true,false),())
  else
   bif a0==4 then
    some ((false,false,false,true,false,false),())
   else
    bif a0==5 then
     bif a0==5 then
      some ((false,false,false,false,false,true),())
     else
      bif a0==7 then
       some ((false,true,false,false,true,false),())
      else
       some ((false,true,false,false,false,false),())
    else
     bif a0==6 then
      bif a0==6 then
       some ((false,false,false,false,false,true),())
      else
       bif a0==7 then
        some ((false,true,false,false,true,false),())
       else
        some ((false,true,false,false,false,false),())
     else
      bif a0==8 then
       some ((false,false,false,false,false,true),())
      else
       bif a0==7 then
        some ((false,true,false,false,true,false),())
       else
        some ((false,true,false,false,false,false),())
def vj (a0:aa):Option (Int×Unit):=
 (Bg a0.2.2.2.1).bind fun r1=>
 aB (γ:=(Int×Int×Int×Int×Int×Bys×Int×Int×Bys×Int×Int×Int×Int×Bool×Bool×Bool×Bool×Bool×Bool×Unit)) (
  bif r1.1.2.1 then
   (kJ a0.2.2.2.2.2.2.1 (a0.2.2.2.1==2)).bind fun r2=>
   bif r2.1 != 0 then
    some (.inl (r2.1,()))
   else
    some (.inr (a0.1,a0.2.1,a0.2.2.1,a0.2.2.2.1,a0.2.2.2.2.1,a0.2.2.2.2.2.1,a0.2.2.2.2.2.2.1.1,a0.2.2.2.2.2.2.1.2,a0.2.2.2.2.2.2.2.1,a0.2.2.2.2.2.2.2.2.1.1,a0.2.2.2.2.2.2.2.2.1.2,a0.2.2.2.2.2.2.2.2.2.1,a0.2.2.2.2.2.2.2.2.2.2,r1.1.1,r1.1.2.1,r1.1.2.2.1,r1.1.2.2.2.1,r1.1.2.2.2.2.1,r1.1.2.2.2.2.2,()))
  else
   some (.inr (a0.1,a0.2.1,a0.2.2.1,a0.2.2.2.1,a0.2.2.2.2.1,a0.2.2.2.2.2.1,a0.2.2.2.2.2.2.1.1,a0.2.2.2.2.2.2.1.2,a0.2.2.2.2.2.2.2.1,a0.2.2.2.2.2.2.2.2.1.1,a0.2.2.2.2.2.2.2.2.1.2,a0.2.2.2.2.2.2.2.2.2.1,a0.2.2.2.2.2.2.2.2.2.2,r1.1.1,r1.1.2.1,r1.1.2.2.1,r1.1.2.2.2.1,r1.1.2.2.2.2.1,r1.1.2.2.2.2.2,()))) fun (A,B,C,D,E,F,G,H,I,J,K,L,M,N,O,P,Q,R,S,_)=>
 aB (γ:=(Int×Int×Int×Int×Int×Bys×Int×Int×Bys×Int×Int×Int×Int×Bool×Bool×Bool×Bool×Bool×Bool×Unit)) (
  bif Q then
   (iY (J,K)).bind fun r4=>
   bif r4.1 != 0 then
    some (.inl (r4.1,()))
   else
    some (.inr (A,B,C,D,E,F,G,H,I,J,K,L,M,N,O,P,Q,R,S,()))
  else
   some (.inr (A,B,C,D,E,F,G,H,I,J,K,L,M,N,O,P,Q,R,S,()))) fun (_,_,_,_,_,T,U,V,W,X,Y,Z,A0,B0,C0,D0,E0,F0,G0,_)=>
 (
  bif F0 then
   Option.bind (iw Z) fun r6=>
   some (!r6.1,())
  else
   some (false,())).bind fun v7=>
 bif v7.1 then
  some (1,())
 else
  (
   bif B0 then
    Option.bind (cK T) fun r8=>
    bif !r8.1 then
     some (true,())
    else
     bif D0 then
      Option.bind (cK W) fun r9=>
      some (!r9.1,())
     else
      some (false,())
   else
    bif D0 then
     Option.bind (cK W) fun r10=>
     some (!r10.1,())
    else
     some (false,())).bind fun v11=>
  bif v11.1 then
   some (5,())
  else
   (
    bif G0 then
     Option.bind (bP A0 1 2000) fun r12=>
     some (r12.1,())
    else
     some (false,())).bind fun v13=>
   bif v13.1 then
    some (1,())
   else
    (
     bif !B0 then
      bif !(T==[]) then
       some (true,())
      else
       bif !C0 then
        bif !((U==0)&&((V==0)&&true)) then
         some (true,())
        else
         bif !D0 then
          bif !(W==[]) then
           some (true,())
          else
           bif !E0 then
            bif !((X==0)&&((Y==0)&&true)) then
             some (true,())
            else
             bif !F0 then
              bif Z != 0 then
               some (true,())
              else
               bif !G0 then
                some (A0 != 0,())
               else
                some (false,())
             else
              bif !G0 then
               some (A0 != 0,())
              else
               some (false,())
           else
            bif !F0 then
             bif Z != 0 then
              some (true,())
             else
              bif !G0 then
               some (A0 != 0,())
              else
               some (false,())
            else
             bif !G0 then
              some (A0 != 0,())
             else
              some (false,())
         else
          bif !E0 then
           bif !((X==0)&&((Y==0)&&true)) then
            some (true,())
           else
            bif !F0 then
             bif Z != 0 then
              some (true,())
             else
              bif !G0 then
               some (A0 != 0,())
              else
               some (false,())
            else
             bif !G0 then
              some (A0 != 0,())
             else
              some (false,())
          else
           bif !F0 then
            bif Z != 0 then
             some (true,())
            else
             bif !G0 then
              some (A0 != 0,())
             else
              some (false,())
           else
            bif !G0 then
             some (A0 != 0,())
            else
             some (false,())
       else
        bif !D0 then
         bif !(W==[]) then
          some (true,())
         else
          bif !E0 then
           bif !((X==0)&&((Y==0)&&true)) then
            some (true,())
           else
            bif !F0 then
             bif Z != 0 then
              some (true,())
             else
              bif !G0 then
               some (A0 != 0,())
              else
               some (false,())
            else
             bif !G0 then
              some (A0 != 0,())
             else
              some (false,())
          else
           bif !F0 then
            bif Z != 0 then
             some (true,())
            else
             bif !G0 then
              some (A0 != 0,())
             else
              some (false,())
           else
            bif !G0 then
             some (A0 != 0,())
            else
             some (false,())
        else
         bif !E0 then
          bif !((X==0)&&((Y==0)&&true)) then
           some (true,())
          else
           bif !F0 then
            bif Z != 0 then
             some (true,())
            else
             bif !G0 then
              some (A0 != 0,())
             else
              some (false,())
           else
            bif !G0 then
             some (A0 != 0,())
            else
             some (false,())
         else
          bif !F0 then
           bif Z != 0 then
            some (true,())
           else
            bif !G0 then
             some (A0 != 0,())
            else
             some (false,())
          else
           bif !G0 then
            some (A0 != 0,())
           else
            some (false,())
     else
      bif !C0 then
       bif !((U==0)&&((V==0)&&true)) then
        some (true,())
       else
        bif !D0 then
         bif !(W==[]) then
          some (true,())
         else
          bif !E0 then
           bif !((X==0)&&((Y==0)&&true)) then
            some (true,())
           else
            bif !F0 then
             bif Z != 0 then
              some (true,())
             else
              bif !G0 then
               some (A0 != 0,())
              else
               some (false,())
            else
             bif !G0 then
              some (A0 != 0,())
             else
              some (false,())
          else
           bif !F0 then
            bif Z != 0 then
             some (true,())
            else
             bif !G0 then
              some (A0 != 0,())
             else
              some (false,())
           else
            bif !G0 then
             some (A0 != 0,())
            else
             some (false,())
        else
         bif !E0 then
          bif !((X==0)&&((Y==0)&&true)) then
           some (true,())
          else
           bif !F0 then
            bif Z != 0 then
             some (true,())
            else
             bif !G0 then
              some (A0 != 0,())
             else
              some (false,())
           else
            bif !G0 then
             some (A0 != 0,())
            else
             some (false,())
         else
          bif !F0 then
           bif Z != 0 then
            some (true,())
           else
            bif !G0 then
             some (A0 != 0,())
            else
             some (false,())
          else
           bif !G0 then
            some (A0 != 0,())
           else
            some (false,())
      else
       bif !D0 then
        bif !(W==[]) then
         some (true,())
        else
         bif !E0 then
          bif !((X==0)&&((Y==0)&&true)) then
           some (true,())
          else
           bif !F0 then
            bif Z != 0 then
             some (true,())
            else
             bif !G0 then
              some (A0 != 0,())
             else
              some (false,())
           else
            bif !G0 then
             some (A0 != 0,())
            else
             some (false,())
         else
          bif !F0 then
           bif Z != 0 then
            some (true,())
           else
            bif !G0 then
             some (A0 != 0,())
            else
             some (false,())
          else
           bif !G0 then
            some (A0 != 0,())
           else
            some (false,())
       else
        bif !E0 then
         bif !((X==0)&&((Y==0)&&true)) then
          some (true,())
         else
          bif !F0 then
           bif Z != 0 then
            some (true,())
           else
            bif !G0 then
             some (A0 != 0,())
            else
             some (false,())
          else
           bif !G0 then
            some (A0 != 0,())
           else
            some (false,())
        else
         bif !F0 then
          bif Z != 0 then
           some (true,())
          else
           bif !G0 then
            some (A0 != 0,())
           else
            some (false,())
         else
          bif !G0 then
           some (A0 != 0,())
          else
           some (false,())).bind fun v14=>
    bif v14.1 then
     some (3,())
    else
     some (0,())
def vh (a0:aa):Option (Int×Unit):=
 (iw a0.1).bind fun r1=>
 bif !r1.1 then
  some (1,())
 else
  (bP a0.2.1 1 2).bind fun r2=>
  bif r2.1 then
   some (4,())
  else
   (bP a0.2.2.1 1 2000).bind fun r3=>
   bif r3.1 then
    some (1,())
   else
    (bP a0.2.2.2.1 1 11).bind fun r4=>
    bif r4.1 then
     some (4,())
    else
     (p9 a0.2.2.2.1).bind fun r5=>
     bif !(r5.1==(a0.2.1==2)) then
      some (4,())
     else
      (bP a0.2.2.2.2.1 1 99999).bind fun r6=>
      bif r6.1 then
       some (1,())
      else
       (vj a0).bind fun r7=>
       some (r7.1,())
abbrev mg:Type:=Int×Int×(List Int)×Unit
abbrev me:Type:=((Int×Unit) ⊕ Unit)
def rP (x1:mg) (again:mg->Option me):Option me:=
 bif decide (x1.2.1<x1.1) then
  chk (decide (0<=x1.2.1)&&decide (x1.2.1<(x1.2.2.1.length:Int))) <|
  (x1.2.2.1[x1.2.1.toNat]?).bind fun y2=>
  bif y2 != 0 then
   some (.inl (y2,()))
  else
   again (x1.1,w64 (x1.2.1+1),x1.2.2.1,())
 else
  some (.inr ())
def lM (a0:aa) (a1:aa):Option (Int×Unit):=
 aB (
  iter (X:=mg) (β:=me) (Int.natAbs ((List.length [(w64 (a0.1 - a1.1)),(w64 (a0.2.1 - a1.2.1)),(w64 (a0.2.2.1 - a1.2.2.1))]:Int))+(Int.natAbs (0:Int)+(List.length ([(w64 (a0.1 - a1.1)),(w64 (a0.2.1 - a1.2.1)),(w64 (a0.2.2.1 - a1.2.2.1))]:List Int)+2))) ((List.length [(w64 (a0.1 - a1.1)),(w64 (a0.2.1 - a1.2.1)),(w64 (a0.2.2.1 - a1.2.2.1))]:Int),0,[(w64 (a0.1 - a1.1)),(w64 (a0.2.1 - a1.2.1)),(w64 (a0.2.2.1 - a1.2.2.1))],()) (rP)) fun _=>
 some (0,())
abbrev kI:Type:=(List aa)×(List aa)×Int×Int×Int×Int×Int×Unit
abbrev iD:Type:=((Int×Unit) ⊕ Unit)
def kH (x1:kI) (again:kI->Option iD):Option iD:=
 match x1 with
 | (A,B,C,D,E,F,G,_)=>
 bif decide (D<C) then
  (idx B D).bind fun y2=>
  (vh y2).bind fun r3=>
  bif r3.1 != 0 then
   some (.inl (r3.1,()))
  else
   (
    bif decide (D>0) then
     Option.bind (idx A (w64 (D - 1))) fun y4=>
     Option.bind (lM y4 y2) fun r5=>
     some (decide (r5.1>=0),())
    else
     some (false,())).bind fun v6=>
   bif v6.1 then
    some (.inl (8,()))
   else
    bif y2.2.1==0 then
     bif y2.2.2.1 != (w64 (E+1)) then
      some (.inl (9,()))
     else
      bif y2.2.1==0 then
       again (A,B,C,w64 (D+1),y2.2.2.1,F,G,())
      else
       bif y2.2.1==1 then
        again (A,B,C,w64 (D+1),E,y2.2.2.1,G,())
       else
        bif y2.2.1==2 then
         again (A,B,C,w64 (D+1),E,F,y2.2.2.1,())
        else
         none
    else
     bif y2.2.1==1 then
      bif y2.2.2.1 != (w64 (F+1)) then
       some (.inl (9,()))
      else
       bif y2.2.1==0 then
        again (A,B,C,w64 (D+1),y2.2.2.1,F,G,())
       else
        bif y2.2.1==1 then
         again (A,B,C,w64 (D+1),E,y2.2.2.1,G,())
        else
         bif y2.2.1==2 then
          again (A,B,C,w64 (D+1),E,F,y2.2.2.1,())
         else
          none
     else
      bif y2.2.1==2 then
       bif y2.2.2.1 != (w64 (G+1)) then
        some (.inl (9,()))
       else
        bif y2.2.1==0 then
         again (A,B,C,w64 (D+1),y2.2.2.1,F,G,())
        else
         bif y2.2.1==1 then
          again (A,B,C,w64 (D+1),E,y2.2.2.1,G,())
         else
          bif y2.2.1==2 then
           again (A,B,C,w64 (D+1),E,F,y2.2.2.1,())
          else
           none
      else
       none
 else
  some (.inr ())
def kQ (a0:List aa):Option (Int×Unit):=
 bif decide (((a0.length:Int))>2000) then
  some (2,())
 else
  aB (
   iter (X:=kI) (β:=iD) (a0.length+(a0.length+(Int.natAbs ((a0.length:Int))+(Int.natAbs (0:Int)+(Int.natAbs (0:Int)+(Int.natAbs (0:Int)+(Int.natAbs (0:Int)+2))))))) (a0,a0,(a0.length:Int),0,0,0,0,()) (kH)) fun _=>
  some (0,())
def tQ (a0:aj) (a1:List aa):Option (Int×Unit):=
 (iX a0).bind fun r1=>
 bif r1.1 != 0 then
  some (r1.1,())
 else
  (kQ a1).bind fun r2=>
  some (r2.1,())
def iI (a0:ah):Option (Int×Unit):=
 (CQ (w64 (3 - a0.2))).bind fun r1=>
 some (w64 (a0.1*r1.1),())
abbrev nu:Type:=(List aF)×Int×Int×Bys×Bys×Bys×Int×Int×(List aF)×(List aa)×(List ah)×(List aL)×Int×(List (Int×(Option Nat)))×(List bf)×Unit
abbrev sZ:Type:=(((aj×(List aa)×(List (Int×(Option Nat)))×(List ah)×(List aL)×Int×Unit)×(List bf)×Unit) ⊕ (Bys×Bys×Bys×Int×Int×(List aF)×(List aa)×(List ah)×(List aL)×Int×(List (Int×(Option Nat)))×(List bf)×Unit))
def nt (x1:nu) (again:nu->Option sZ):Option sZ:=
 match x1 with
 | (A,B,C,D,E,F,G,H,I,J,K,L,M,N,O,_)=>
 bif decide (C<B) then
  (idx A C).bind fun y2=>
  (iI y2.2.2.1).bind fun r3=>
  again (A,B,w64 (C+1),D,E,F,G,H,I,J,K,L,M,jG (k:=tI) (v:= .hnd) N y2.1 (some (O.length)),O++[(y2.1,y2.2.1,y2.2.2.2.1,r3.1,0,0,0,y2.2.2.2.2.1,y2.2.2.2.2.2,(-1),0,0,0)],())
 else
  some (.inr (D,E,F,G,H,I,J,K,L,M,N,O,()))
def jX (a0:aj) (a1:List aa) (a2:List bf):Option ((aj×(List aa)×(List (Int×(Option Nat)))×(List ah)×(List aL)×Int×Unit)×(List bf)×Unit):=
 aB (
  iter (X:=nu) (β:=sZ) (a0.2.2.2.2.2.length+(Int.natAbs ((a0.2.2.2.2.2.length:Int))+(Int.natAbs (0:Int)+(a0.1.length+(a0.2.1.length+(a0.2.2.1.length+(a0.2.2.2.1.natAbs+(a0.2.2.2.2.1.natAbs+(a0.2.2.2.2.2.length+(a1.length+(List.length ([]:List ah)+(List.length ([]:List aL)+(Int.natAbs (0:Int)+(List.length ([]:List (Int×(Option Nat)))+(a2.length+2))))))))))))))) (a0.2.2.2.2.2,(a0.2.2.2.2.2.length:Int),0,a0.1,a0.2.1,a0.2.2.1,a0.2.2.2.1,a0.2.2.2.2.1,a0.2.2.2.2.2,a1,[],[],0,[],a2,()) (nt)) fun (A,B,C,D,E,F,G,H,I,J,K,L,_)=>
 some (((A,B,C,D,E,F),G,K,H,I,J,()),L,())
def p8 (a0:aj×(List aa)×(List (Int×(Option Nat)))×(List ah)×(List aL)×Int×Unit) (a1:Int) (a2:List bf):Option (Int×(aj×(List aa)×(List (Int×(Option Nat)))×(List ah)×(List aL)×Int×Unit)×(List bf)×Unit):=
 (idx a0.2.1 a1).bind fun y1=>
 bif !(Option.isNone (Option.getD (α:=Option Nat) (bV (k:=tI) (v:= .hnd) a0.2.2.1 y1.2.2.2.2.1) none)) then
  some (7,(a0.1,a0.2.1,a0.2.2.1,a0.2.2.2.1,a0.2.2.2.2.1,a0.2.2.2.2.2.1,()),a2,())
 else
  bif decide (((a0.2.2.1.length:Int))>=500) then
   some (16,(a0.1,a0.2.1,a0.2.2.1,a0.2.2.2.1,a0.2.2.2.2.1,a0.2.2.2.2.2.1,()),a2,())
  else
   bif decide (y1.2.2.2.2.2.2.2.2.2.1<a0.1.2.2.2.1) then
    some (1,(a0.1,a0.2.1,a0.2.2.1,a0.2.2.2.1,a0.2.2.2.2.1,a0.2.2.2.2.2.1,()),a2,())
   else
    some (0,(a0.1,a0.2.1,jG (k:=tI) (v:= .hnd) a0.2.2.1 y1.2.2.2.2.1 (some (a2.length)),a0.2.2.2.1,a0.2.2.2.2.1,a0.2.2.2.2.2.1,()),a2++[(y1.2.2.2.2.1,y1.2.2.2.2.2.1,y1.2.2.2.2.2.2.2.1,0,0,0,0,y1.2.2.2.2.2.2.2.2.1,y1.2.2.2.2.2.2.2.2.2.1,a1,0,0,0)],())
def oM (a0:aj×(List aa)×(List (Int×(Option Nat)))×(List ah)×(List aL)×Int×Unit) (a1:Option Nat) (a2:Int) (a3:List bf):Option (Int×(aj×(List aa)×(List (Int×(Option Nat)))×(List ah)×(List aL)×Int×Unit)×(List bf)×Unit):=
 (idx a0.2.1 a2).bind fun y1=>
 (
  bif y1.2.2.2.1==3 then
   some (decide (y1.2.2.2.2.2.2.2.2.2.1<a0.1.2.2.2.1),())
  else
   some (false,())).bind fun v2=>
 bif v2.1 then
  some (1,(a0.1,a0.2.1,a0.2.2.1,a0.2.2.2.1,a0.2.2.2.2.1,a0.2.2.2.2.2.1,()),a3,())
 else
  (a1).bind fun h3=>
  (a3[h3]?).bind fun y4=>
  bif decide (y4.2.2.2.2.2.2.2.2.2.1>=0) then
   some (11,(a0.1,a0.2.1,a0.2.2.1,a0.2.2.2.1,a0.2.2.2.2.1,a0.2.2.2.2.2.1,()),a3,())
  else
   (a1).bind fun h5=>
   (a3[h5]?).bind fun y6=>
   some (0,(a0.1,a0.2.1,a0.2.2.1,a0.2.2.2.1,a0.2.2.2.2.1,a0.2.2.2.2.2.1,()),List.set a3 h5 (y6.1,y6.2.1,y6.2.2.1,y6.2.2.2.1,y6.2.2.2.2.1,y6.2.2.2.2.2.1,y6.2.2.2.2.2.2.1,y6.2.2.2.2.2.2.2.1,y6.2.2.2.2.2.2.2.2.1,a2,y6.2.2.2.2.2.2.2.2.2.2),())
def mh (a0:aj×(List aa)×(List (Int×(Option Nat)))×(List ah)×(List aL)×Int×Unit) (a1:Option Nat) (a2:aa) (a3:List bf):Option (Int×(aj×(List aa)×(List (Int×(Option Nat)))×(List ah)×(List aL)×Int×Unit)×(List bf)×Unit):=
 (a1).bind fun h1=>
 (a3[h1]?).bind fun y2=>
 bif decide (y2.2.2.2.2.2.2.2.2.2.1<0) then
  some (5,(a0.1,a0.2.1,a0.2.2.1,a0.2.2.2.1,a0.2.2.2.2.1,a0.2.2.2.2.2.1,()),a3,())
 else
  (a1).bind fun h3=>
  (a3[h3]?).bind fun y4=>
  (idx a0.2.1 y4.2.2.2.2.2.2.2.2.2.1).bind fun y5=>
  bif y5.2.2.1 != a2.2.2.2.2.2.2.2.2.2.2 then
   some (5,(a0.1,a0.2.1,a0.2.2.1,a0.2.2.2.1,a0.2.2.2.2.1,a0.2.2.2.2.2.1,()),a3,())
  else
   (a1).bind fun h6=>
   (a3[h6]?).bind fun y7=>
   (idx a0.2.1 y7.2.2.2.2.2.2.2.2.2.1).bind fun y8=>
   bif a2.2.2.2.1==5 then
    bif y8.2.2.2.1==2 then
     (iI y8.2.2.2.2.2.2.1).bind fun r9=>
     (a1).bind fun h10=>
     (a3[h10]?).bind fun y11=>
     (a1).bind fun h12=>
     (a3[h12]?).bind fun y13=>
     bif decide (r9.1<(w64 (y11.2.2.2.2.1 - y13.2.2.2.2.2.2.1))) then
      some (12,(a0.1,a0.2.1,a0.2.2.1,a0.2.2.2.1,a0.2.2.2.2.1,a0.2.2.2.2.2.1,()),a3,())
     else
      (iI y8.2.2.2.2.2.2.1).bind fun r14=>
      (a1).bind fun h15=>
      (a3[h15]?).bind fun y16=>
      (a1).bind fun h17=>
      ((List.set a3 h15 (y16.1,y16.2.1,y16.2.2.1,r14.1,y16.2.2.2.2))[h17]?).bind fun y18=>
      some (0,(a0.1,a0.2.1,a0.2.2.1,a0.2.2.2.1,a0.2.2.2.2.1,a0.2.2.2.2.2.1,()),List.set (List.set a3 h15 (y16.1,y16.2.1,y16.2.2.1,r14.1,y16.2.2.2.2)) h17 (y18.1,y18.2.1,y18.2.2.1,y18.2.2.2.1,y18.2.2.2.2.1,y18.2.2.2.2.2.1,y18.2.2.2.2.2.2.1,y18.2.2.2.2.2.2.2.1,y18.2.2.2.2.2.2.2.2.1,(-1),y18.2.2.2.2.2.2.2.2.2.2),())
    else
     bif y8.2.2.2.1==1 then
      (iI y8.2.2.2.2.2.2.1).bind fun r19=>
      (a1).bind fun h20=>
      (a3[h20]?).bind fun y21=>
      (a1).bind fun h22=>
      ((List.set a3 h20 (y21.1,y21.2.1,y21.2.2.1,r19.1,y21.2.2.2.2))[h22]?).bind fun y23=>
      some (0,(a0.1,a0.2.1,a0.2.2.1,a0.2.2.2.1,a0.2.2.2.2.1,a0.2.2.2.2.2.1,()),List.set (List.set a3 h20 (y21.1,y21.2.1,y21.2.2.1,r19.1,y21.2.2.2.2)) h22 (y23.1,y23.2.1,y23.2.2.1,y23.2.2.2.1,y23.2.2.2.2.1,y23.2.2.2.2.2.1,y23.2.2.2.2.2.2.1,y23.2.2.2.2.2.2.2.1,y23.2.2.2.2.2.2.2.2.1,(-1),y23.2.2.2.2.2.2.2.2.2.2),())
     else
      bif y8.2.2.2.1==3 then
       (a1).bind fun h24=>
       (a3[h24]?).bind fun y25=>
       (a1).bind fun h26=>
       ((List.set a3 h24 (y25.1,y25.2.1,y25.2.2.1,y25.2.2.2.1,y25.2.2.2.2.1,y25.2.2.2.2.2.1,y25.2.2.2.2.2.2.1,y25.2.2.2.2.2.2.2.1,y8.2.2.2.2.2.2.2.2.2.1,y25.2.2.2.2.2.2.2.2.2))[h26]?).bind fun y27=>
       some (0,(a0.1,a0.2.1,a0.2.2.1,a0.2.2.2.1,a0.2.2.2.2.1,a0.2.2.2.2.2.1,()),List.set (List.set a3 h24 (y25.1,y25.2.1,y25.2.2.1,y25.2.2.2.1,y25.2.2.2.2.1,y25.2.2.2.2.2.1,y25.2.2.2.2.2.2.1,y25.2.2.2.2.2.2.2.1,y8.2.2.2.2.2.2.2.2.2.1,y25.2.2.2.2.2.2.2.2.2)) h26 (y27.1,y27.2.1,y27.2.2.1,y27.2.2.2.1,y27.2.2.2.2.1,y27.2.2.2.2.2.1,y27.2.2.2.2.2.2.1,y27.2.2.2.2.2.2.2.1,y27.2.2.2.2.2.2.2.2.1,(-1),y27.2.2.2.2.2.2.2.2.2.2),())
      else
       (a1).bind fun h28=>
       (a3[h28]?).bind fun y29=>
       (a1).bind fun h30=>
       ((List.set a3 h28 (y29.1,y29.2.1,y29.2.2.1,y29.2.2.2.1,y29.2.2.2.2.1,y29.2.2.2.2.2.1,y29.2.2.2.2.2.2.1,y8.2.2.2.2.2.2.2.2.1,y29.2.2.2.2.2.2.2.2))[h30]?).bind fun y31=>
       some (0,(a0.1,a0.2.1,a0.2.2.1,a0.2.2.2.1,a0.2.2.2.2.1,a0.2.2.2.2.2.1,()),List.set (List.set a3 h28 (y29.1,y29.2.1,y29.2.2.1,y29.2.2.2.1,y29.2.2.2.2.1,y29.2.2.2.2.2.1,y29.2.2.2.2.2.2.1,y8.2.2.2.2.2.2.2.2.1,y29.2.2.2.2.2.2.2.2)) h30 (y31.1,y31.2.1,y31.2.2.1,y31.2.2.2.1,y31.2.2.2.2.1,y31.2.2.2.2.2.1,y31.2.2.2.2.2.2.1,y31.2.2.2.2.2.2.2.1,y31.2.2.2.2.2.2.2.2.1,(-1),y31.2.2.2.2.2.2.2.2.2.2),())
   else
    (a1).bind fun h32=>
    (a3[h32]?).bind fun y33=>
    some (0,(a0.1,a0.2.1,a0.2.2.1,a0.2.2.2.1,a0.2.2.2.2.1,a0.2.2.2.2.2.1,()),List.set a3 h32 (y33.1,y33.2.1,y33.2.2.1,y33.2.2.2.1,y33.2.2.2.2.1,y33.2.2.2.2.2.1,y33.2.2.2.2.2.2.1,y33.2.2.2.2.2.2.2.1,y33.2.2.2.2.2.2.2.2.1,(-1),y33.2.2.2.2.2.2.2.2.2.2),())
def mq (a0:Option Nat) (a1:List bf):Option (Int×Unit):=
 (a0).bind fun h1=>
 (a1[h1]?).bind fun y2=>
 (a0).bind fun h3=>
 (a1[h3]?).bind fun y4=>
 (a0).bind fun h5=>
 (a1[h5]?).bind fun y6=>
 some (if (w64 ((w64 (y2.2.2.2.1 - y4.2.2.2.2.1))+y6.2.2.2.2.2.2.1))>0 then (w64 ((w64 (y2.2.2.2.1 - y4.2.2.2.2.1))+y6.2.2.2.2.2.2.1)) else 0,())
def lC (a0:aj×(List aa)×(List (Int×(Option Nat)))×(List ah)×(List aL)×Int×Unit) (a1:Option Nat) (a2:aa) (a3:List bf):Option (Int×(aj×(List aa)×(List (Int×(Option Nat)))×(List ah)×(List aL)×Int×Unit)×(List bf)×Unit):=
 bif decide (a2.2.2.2.2.2.2.2.2.2.1<a0.1.2.2.2.1) then
  some (1,(a0.1,a0.2.1,a0.2.2.1,a0.2.2.2.1,a0.2.2.2.2.1,a0.2.2.2.2.2.1,()),a3,())
 else
  (a1).bind fun h1=>
  (a3[h1]?).bind fun y2=>
  bif decide (y2.2.2.2.2.2.2.2.2.2.1>=0) then
   some (11,(a0.1,a0.2.1,a0.2.2.1,a0.2.2.2.1,a0.2.2.2.2.1,a0.2.2.2.2.2.1,()),a3,())
  else
   (mq a1 a3).bind fun r3=>
   bif r3.1==0 then
    some (11,(a0.1,a0.2.1,a0.2.2.1,a0.2.2.2.1,a0.2.2.2.2.1,a0.2.2.2.2.2.1,()),a3,())
   else
    (iI a2.2.2.2.2.2.2.1).bind fun r4=>
    (mq a1 a3).bind fun r5=>
    bif decide (r4.1>r5.1) then
     some (12,(a0.1,a0.2.1,a0.2.2.1,a0.2.2.2.1,a0.2.2.2.2.1,a0.2.2.2.2.2.1,()),a3,())
    else
     some (0,(a0.1,a0.2.1,a0.2.2.1,a0.2.2.2.1,a0.2.2.2.2.1,a0.2.2.2.2.2.1,()),a3,())
def oL (a0:aj×(List aa)×(List (Int×(Option Nat)))×(List ah)×(List aL)×Int×Unit) (a1:Option Nat) (a2:aa) (a3:List bf):Option (Int×(aj×(List aa)×(List (Int×(Option Nat)))×(List ah)×(List aL)×Int×Unit)×(List bf)×Unit):=
 (a1).bind fun h1=>
 (a3[h1]?).bind fun y2=>
 bif decide (y2.2.2.2.2.2.2.2.2.2.1>=0) then
  some (11,(a0.1,a0.2.1,a0.2.2.1,a0.2.2.2.1,a0.2.2.2.2.1,a0.2.2.2.2.2.1,()),a3,())
 else
  (a1).bind fun h3=>
  (a3[h3]?).bind fun y4=>
  bif y4.2.2.2.2.2.2.2.2.2.2.1==0 then
   some (5,(a0.1,a0.2.1,a0.2.2.1,a0.2.2.2.1,a0.2.2.2.2.1,a0.2.2.2.2.2.1,()),a3,())
  else
   (a1).bind fun h5=>
   (a3[h5]?).bind fun y6=>
   bif y6.2.2.2.2.2.2.2.2.2.2.1 != a2.2.2.2.2.2.2.2.2.2.2 then
    some (5,(a0.1,a0.2.1,a0.2.2.1,a0.2.2.2.1,a0.2.2.2.2.1,a0.2.2.2.2.2.1,()),a3,())
   else
    (a1).bind fun h7=>
    (a3[h7]?).bind fun y8=>
    (a1).bind fun h9=>
    (a3[h9]?).bind fun y10=>
    (a1).bind fun h11=>
    (a3[h11]?).bind fun y12=>
    (a1).bind fun h13=>
    (a3[h13]?).bind fun y14=>
    (a1).bind fun h15=>
    (a3[h15]?).bind fun y16=>
    (a1).bind fun h17=>
    ((List.set a3 h15 (y16.1,y16.2.1,y16.2.2.1,w64 ((w64 (y8.2.2.2.2.1 - y10.2.2.2.2.2.2.1))+y12.2.2.2.2.2.2.2.2.2.2.2.1),y16.2.2.2.2))[h17]?).bind fun y18=>
    (a1).bind fun h19=>
    ((List.set (List.set a3 h15 (y16.1,y16.2.1,y16.2.2.1,w64 ((w64 (y8.2.2.2.2.1 - y10.2.2.2.2.2.2.1))+y12.2.2.2.2.2.2.2.2.2.2.2.1),y16.2.2.2.2)) h17 (y18.1,y18.2.1,y18.2.2.1,y18.2.2.2.1,y18.2.2.2.2.1,y18.2.2.2.2.2.1,y18.2.2.2.2.2.2.1,y18.2.2.2.2.2.2.2.1,y14.2.2.2.2.2.2.2.2.2.2.2.2,y18.2.2.2.2.2.2.2.2.2))[h19]?).bind fun y20=>
    some (0,(a0.1,a0.2.1,a0.2.2.1,a0.2.2.2.1,a0.2.2.2.2.1,a0.2.2.2.2.2.1,()),List.set (List.set (List.set a3 h15 (y16.1,y16.2.1,y16.2.2.1,w64 ((w64 (y8.2.2.2.2.1 - y10.2.2.2.2.2.2.1))+y12.2.2.2.2.2.2.2.2.2.2.2.1),y16.2.2.2.2)) h17 (y18.1,y18.2.1,y18.2.2.1,y18.2.2.2.1,y18.2.2.2.2.1,y18.2.2.2.2.2.1,y18.2.2.2.2.2.2.1,y18.2.2.2.2.2.2.2.1,y14.2.2.2.2.2.2.2.2.2.2.2.2,y18.2.2.2.2.2.2.2.2.2)) h19 (y20.1,y20.2.1,y20.2.2.1,y20.2.2.2.1,y20.2.2.2.2.1,y20.2.2.2.2.2.1,y20.2.2.2.2.2.2.1,y20.2.2.2.2.2.2.2.1,y20.2.2.2.2.2.2.2.2.1,y20.2.2.2.2.2.2.2.2.2.1,0,0,0),())
def oK (a0:aj×(List aa)×(List (Int×(Option Nat)))×(List ah)×(List aL)×Int×Unit) (a1:Option Nat) (a2:aa) (a3:List bf):Option (Int×(aj×(List aa)×(List (Int×(Option Nat)))×(List ah)×(List aL)×Int×Unit)×(List bf)×Unit):=
 (iI a2.2.2.2.2.2.2.1).bind fun r1=>
 bif a2.2.2.2.1==9 then
  (a1).bind fun h2=>
  (a3[h2]?).bind fun y3=>
  (a1).bind fun h4=>
  (a3[h4]?).bind fun y5=>
  (a1).bind fun h6=>
  (a3[h6]?).bind fun y7=>
  (a1).bind fun h8=>
  (a3[h8]?).bind fun y9=>
  let n10:Int:=w64 (y7.2.2.2.1+(w64 (Int.tdiv (w64 (y9.2.2.2.1*a0.1.2.2.2.2.1)) 1000)))
  bif decide ((w64 ((w64 (y3.2.2.2.2.1 - y5.2.2.2.2.2.2.1))+r1.1))>n10) then
   some (12,(a0.1,a0.2.1,a0.2.2.1,a0.2.2.2.1,a0.2.2.2.2.1,a0.2.2.2.2.2.1,()),a3,())
  else
   (a1).bind fun h11=>
   (a3[h11]?).bind fun y12=>
   bif decide ((w64 (y12.2.2.2.2.1+r1.1))>1000000000000000) then
    some (16,(a0.1,a0.2.1,a0.2.2.1,a0.2.2.2.1,a0.2.2.2.2.1,a0.2.2.2.2.2.1,()),a3,())
   else
    (a1).bind fun h13=>
    (a3[h13]?).bind fun y14=>
    (a1).bind fun h15=>
    (a3[h15]?).bind fun y16=>
    some (0,(a0.1,a0.2.1,a0.2.2.1,a0.2.2.2.1,a0.2.2.2.2.1,a0.2.2.2.2.2.1,()),List.set a3 h15 (y16.1,y16.2.1,y16.2.2.1,y16.2.2.2.1,w64 (y14.2.2.2.2.1+r1.1),y16.2.2.2.2.2),())
 else
  bif a2.2.2.2.1==10 then
   (a1).bind fun h17=>
   (a3[h17]?).bind fun y18=>
   (a1).bind fun h19=>
   (a3[h19]?).bind fun y20=>
   bif decide ((w64 (y18.2.2.2.2.2.1+r1.1))>y20.2.2.2.2.1) then
    some (12,(a0.1,a0.2.1,a0.2.2.1,a0.2.2.2.1,a0.2.2.2.2.1,a0.2.2.2.2.2.1,()),a3,())
   else
    (a1).bind fun h21=>
    (a3[h21]?).bind fun y22=>
    (a1).bind fun h23=>
    (a3[h23]?).bind fun y24=>
    some (0,(a0.1,a0.2.1,a0.2.2.1,a0.2.2.2.1,a0.2.2.2.2.1,a0.2.2.2.2.2.1,()),List.set a3 h23 (y24.1,y24.2.1,y24.2.2.1,y24.2.2.2.1,y24.2.2.2.2.1,w64 (y22.2.2.2.2.2.1+r1.1),y24.2.2.2.2.2.2),())
  else
   (a1).bind fun h25=>
   (a3[h25]?).bind fun y26=>
   (a1).bind fun h27=>
   (a3[h27]?).bind fun y28=>
   bif decide ((w64 (y26.2.2.2.2.2.2.1+r1.1))>y28.2.2.2.2.2.1) then
    some (12,(a0.1,a0.2.1,a0.2.2.1,a0.2.2.2.1,a0.2.2.2.2.1,a0.2.2.2.2.2.1,()),a3,())
   else
    (a1).bind fun h29=>
    (a3[h29]?).bind fun y30=>
    (a1).bind fun h31=>
    (a3[h31]?).bind fun y32=>
    some (0,(a0.1,a0.2.1,a0.2.2.1,a0.2.2.2.1,a0.2.2.2.2.1,a0.2.2.2.2.2.1,()),List.set a3 h31 (y32.1,y32.2.1,y32.2.2.1,y32.2.2.2.1,y32.2.2.2.2.1,y32.2.2.2.2.2.1,w64 (y30.2.2.2.2.2.2.1+r1.1),y32.2.2.2.2.2.2.2),())
def aZ (a0:aj×(List aa)×(List (Int×(Option Nat)))×(List ah)×(List aL)×Int×Unit) (a1:Int) (a2:List bf):Option (Int×(aj×(List aa)×(List (Int×(Option Nat)))×(List ah)×(List aL)×Int×Unit)×(List bf)×Unit):=
 (idx a0.2.1 a1).bind fun y1=>
 bif y1.2.2.2.1==1 then
  (p8 (a0.1,a0.2.1,a0.2.2.1,a0.2.2.2.1,a0.2.2.2.2.1,a0.2.2.2.2.2.1,()) a1 a2).bind fun r2=>
  some (r2.1,(r2.2.1.1,r2.2.1.2.1,r2.2.1.2.2.1,r2.2.1.2.2.2.1,r2.2.1.2.2.2.2.1,r2.2.1.2.2.2.2.2.1,()),r2.2.2.1,())
 else
  bif Option.isNone (Option.getD (α:=Option Nat) (bV (k:=tI) (v:= .hnd) a0.2.2.1 y1.2.2.2.2.1) none) then
   some (9,(a0.1,a0.2.1,a0.2.2.1,a0.2.2.2.1,a0.2.2.2.2.1,a0.2.2.2.2.2.1,()),a2,())
  else
   aB (γ:=(Int×(Option Nat)×Int×Bool×Int×Int×Int×Int×Int×Bys×Int×Int×Bys×Int×Int×Int×Int×Bys×Bys×Bys×Int×Int×(List aF)×(List aa)×Int×(List ah)×(List aL)×(List (Int×(Option Nat)))×(List bf)×Unit)) (
    bif y1.2.2.2.1==2 then
     some (.inr (a1,Option.getD (α:=Option Nat) (bV (k:=tI) (v:= .hnd) a0.2.2.1 y1.2.2.2.2.1) none,y1.2.2.2.1,y1.2.2.2.1==2,y1.1,y1.2.1,y1.2.2.1,y1.2.2.2.1,y1.2.2.2.2.1,y1.2.2.2.2.2.1,y1.2.2.2.2.2.2.1.1,y1.2.2.2.2.2.2.1.2,y1.2.2.2.2.2.2.2.1,y1.2.2.2.2.2.2.2.2.1.1,y1.2.2.2.2.2.2.2.2.1.2,y1.2.2.2.2.2.2.2.2.2.1,y1.2.2.2.2.2.2.2.2.2.2,a0.1.1,a0.1.2.1,a0.1.2.2.1,a0.1.2.2.2.1,a0.1.2.2.2.2.1,a0.1.2.2.2.2.2,a0.2.1,a0.2.2.2.2.2.1,a0.2.2.2.1,a0.2.2.2.2.1,a0.2.2.1,a2,()))
    else
     bif y1.2.2.2.1==3 then
      some (.inr (a1,Option.getD (α:=Option Nat) (bV (k:=tI) (v:= .hnd) a0.2.2.1 y1.2.2.2.2.1) none,y1.2.2.2.1,y1.2.2.2.1==3,y1.1,y1.2.1,y1.2.2.1,y1.2.2.2.1,y1.2.2.2.2.1,y1.2.2.2.2.2.1,y1.2.2.2.2.2.2.1.1,y1.2.2.2.2.2.2.1.2,y1.2.2.2.2.2.2.2.1,y1.2.2.2.2.2.2.2.2.1.1,y1.2.2.2.2.2.2.2.2.1.2,y1.2.2.2.2.2.2.2.2.2.1,y1.2.2.2.2.2.2.2.2.2.2,a0.1.1,a0.1.2.1,a0.1.2.2.1,a0.1.2.2.2.1,a0.1.2.2.2.2.1,a0.1.2.2.2.2.2,a0.2.1,a0.2.2.2.2.2.1,a0.2.2.2.1,a0.2.2.2.2.1,a0.2.2.1,a2,()))
     else
      some (.inr (a1,Option.getD (α:=Option Nat) (bV (k:=tI) (v:= .hnd) a0.2.2.1 y1.2.2.2.2.1) none,y1.2.2.2.1,y1.2.2.2.1==4,y1.1,y1.2.1,y1.2.2.1,y1.2.2.2.1,y1.2.2.2.2.1,y1.2.2.2.2.2.1,y1.2.2.2.2.2.2.1.1,y1.2.2.2.2.2.2.1.2,y1.2.2.2.2.2.2.2.1,y1.2.2.2.2.2.2.2.2.1.1,y1.2.2.2.2.2.2.2.2.1.2,y1.2.2.2.2.2.2.2.2.2.1,y1.2.2.2.2.2.2.2.2.2.2,a0.1.1,a0.1.2.1,a0.1.2.2.1,a0.1.2.2.2.1,a0.1.2.2.2.2.1,a0.1.2.2.2.2.2,a0.2.1,a0.2.2.2.2.2.1,a0.2.2.2.1,a0.2.2.2.2.1,a0.2.2.1,a2,()))) fun (A,B,C,D,E,F,G,H,I,J,K,L,M,N,O,P,Q,R,S,T,U,V,W,X,Y,Z,A0,B0,C0,_)=>
   bif D then
    (oM ((R,S,T,U,V,W),X,B0,Z,A0,Y,()) B A C0).bind fun r4=>
    some (r4.1,(r4.2.1.1,r4.2.1.2.1,r4.2.1.2.2.1,r4.2.1.2.2.2.1,r4.2.1.2.2.2.2.1,r4.2.1.2.2.2.2.2.1,()),r4.2.2.1,())
   else
    aB (γ:=((Option Nat)×Int×Bool×Int×Int×Int×Int×Int×Bys×Int×Int×Bys×Int×Int×Int×Int×Bys×Bys×Bys×Int×Int×(List aF)×(List aa)×Int×(List ah)×(List aL)×(List (Int×(Option Nat)))×(List bf)×Unit)) (
     bif C==5 then
      some (.inr (B,C,C==5,E,F,G,H,I,J,K,L,M,N,O,P,Q,R,S,T,U,V,W,X,Y,Z,A0,B0,C0,()))
     else
      some (.inr (B,C,C==6,E,F,G,H,I,J,K,L,M,N,O,P,Q,R,S,T,U,V,W,X,Y,Z,A0,B0,C0,()))) fun (D0,E0,F0,G0,H0,I0,J0,K0,L0,M0,N0,O0,P0,Q0,R0,S0,T0,U0,V0,W0,X0,Y0,Z0,A1,B1,C1,D1,E1,_)=>
    aB (γ:=((Option Nat)×Int×Int×Int×Int×Int×Int×Bys×Int×Int×Bys×Int×Int×Int×Int×Bys×Bys×Bys×Int×Int×(List aF)×(List aa)×(List (Int×(Option Nat)))×(List ah)×(List aL)×Int×(List bf)×Unit)) (
     bif F0 then
      (mh ((T0,U0,V0,W0,X0,Y0),Z0,D1,B1,C1,A1,()) D0 (G0,H0,I0,J0,K0,L0,(M0,N0),O0,(P0,Q0),R0,S0) E1).bind fun r6=>
      some (.inr (D0,r6.1,G0,H0,I0,J0,K0,L0,M0,N0,O0,P0,Q0,R0,S0,r6.2.1.1.1,r6.2.1.1.2.1,r6.2.1.1.2.2.1,r6.2.1.1.2.2.2.1,r6.2.1.1.2.2.2.2.1,r6.2.1.1.2.2.2.2.2,r6.2.1.2.1,r6.2.1.2.2.1,r6.2.1.2.2.2.1,r6.2.1.2.2.2.2.1,r6.2.1.2.2.2.2.2.1,r6.2.2.1,()))
     else
      bif E0==7 then
       (lC ((T0,U0,V0,W0,X0,Y0),Z0,D1,B1,C1,A1,()) D0 (G0,H0,I0,J0,K0,L0,(M0,N0),O0,(P0,Q0),R0,S0) E1).bind fun r7=>
       some (.inr (D0,r7.1,G0,H0,I0,J0,K0,L0,M0,N0,O0,P0,Q0,R0,S0,r7.2.1.1.1,r7.2.1.1.2.1,r7.2.1.1.2.2.1,r7.2.1.1.2.2.2.1,r7.2.1.1.2.2.2.2.1,r7.2.1.1.2.2.2.2.2,r7.2.1.2.1,r7.2.1.2.2.1,r7.2.1.2.2.2.1,r7.2.1.2.2.2.2.1,r7.2.1.2.2.2.2.2.1,r7.2.2.1,()))
      else
       bif E0==8 then
        (oL ((T0,U0,V0,W0,X0,Y0),Z0,D1,B1,C1,A1,()) D0 (G0,H0,I0,J0,K0,L0,(M0,N0),O0,(P0,Q0),R0,S0) E1).bind fun r8=>
        some (.inl (r8.1,(r8.2.1.1,r8.2.1.2.1,r8.2.1.2.2.1,r8.2.1.2.2.2.1,r8.2.1.2.2.2.2.1,r8.2.1.2.2.2.2.2.1,()),r8.2.2.1,()))
       else
        (oK ((T0,U0,V0,W0,X0,Y0),Z0,D1,B1,C1,A1,()) D0 (G0,H0,I0,J0,K0,L0,(M0,N0),O0,(P0,Q0),R0,S0) E1).bind fun r9=>
        some (.inr (D0,r9.1,G0,H0,I0,J0,K0,L0,M0,N0,O0,P0,Q0,R0,S0,r9.2.1.1.1,r9.2.1.1.2.1,r9.2.1.1.2.2.1,r9.2.1.1.2.2.2.1,r9.2.1.1.2.2.2.2.1,r9.2.1.1.2.2.2.2.2,r9.2.1.2.1,r9.2.1.2.2.1,r9.2.1.2.2.2.1,r9.2.1.2.2.2.2.1,r9.2.1.2.2.2.2.2.1,r9.2.2.1,()))) fun (F1,G1,_,_,H1,I1,_,_,J1,K1,_,_,_,L1,_,M1,N1,O1,P1,Q1,R1,S1,T1,U1,V1,W1,X1,_)=>
    (
     bif G1==0 then
      Option.bind (p9 I1) fun r11=>
      some (r11.1,())
     else
      some (false,())).bind fun v12=>
    bif v12.1 then
     (F1).bind fun h13=>
     (X1[h13]?).bind fun y14=>
     bif I1==7 then
      (iI (J1,K1)).bind fun r15=>
      (F1).bind fun h16=>
      ((List.set X1 h13 (y14.1,y14.2.1,y14.2.2.1,y14.2.2.2.1,y14.2.2.2.2.1,y14.2.2.2.2.2.1,y14.2.2.2.2.2.2.1,y14.2.2.2.2.2.2.2.1,y14.2.2.2.2.2.2.2.2.1,y14.2.2.2.2.2.2.2.2.2.1,0,0,0))[h16]?).bind fun y17=>
      some (G1,((M1,N1,O1,P1,Q1,R1),S1,T1,U1,V1,W1,()),List.set (List.set X1 h13 (y14.1,y14.2.1,y14.2.2.1,y14.2.2.2.1,y14.2.2.2.2.1,y14.2.2.2.2.2.1,y14.2.2.2.2.2.2.1,y14.2.2.2.2.2.2.2.1,y14.2.2.2.2.2.2.2.2.1,y14.2.2.2.2.2.2.2.2.2.1,0,0,0)) h16 (y17.1,y17.2.1,y17.2.2.1,y17.2.2.2.1,y17.2.2.2.2.1,y17.2.2.2.2.2.1,y17.2.2.2.2.2.2.1,y17.2.2.2.2.2.2.2.1,y17.2.2.2.2.2.2.2.2.1,y17.2.2.2.2.2.2.2.2.2.1,H1,r15.1,L1),())
     else
      some (G1,((M1,N1,O1,P1,Q1,R1),S1,T1,U1,V1,W1,()),List.set X1 h13 (y14.1,y14.2.1,y14.2.2.1,y14.2.2.2.1,y14.2.2.2.2.1,y14.2.2.2.2.2.1,y14.2.2.2.2.2.2.1,y14.2.2.2.2.2.2.2.1,y14.2.2.2.2.2.2.2.2.1,y14.2.2.2.2.2.2.2.2.2.1,0,0,0),())
    else
     some (G1,((M1,N1,O1,P1,Q1,R1),S1,T1,U1,V1,W1,()),X1,())
def qa (a0:Int):Option (ah×Unit):=
 (ld a0).bind fun r1=>
 (ke r1.1 3).bind fun r2=>
 some (r2.1,())
abbrev u5:Type:=Int×Int×Int×Int×Unit
abbrev uZ:Type:=((ah×Unit) ⊕ (Int×Int×Int×Int×Unit))
def uY (x1:u5) (again:u5->Option uZ):Option uZ:=
 (
  bif decide (x1.2.1>0) then
   some ((Int.tmod x1.1 10)==0,())
  else
   some (false,())).bind fun v2=>
 bif v2.1 then
  again (w64 (Int.tdiv x1.1 10),w64 (x1.2.1 - 1),x1.2.2.1,x1.2.2.2.1,())
 else
  some (.inr (x1.1,x1.2.1,x1.2.2.1,x1.2.2.2.1,()))
def AV (a0:ah):Option (ah×Unit):=
 aB (
  iter (X:=u5) (β:=uZ) (a0.1.natAbs+(a0.2.natAbs+(Int.natAbs (0:Int)+(Int.natAbs (0:Int)+2)))) (a0.1,a0.2,0,0,()) (uY)) fun v3=>
 some ((v3.1,v3.2.1),())
def kR (a0:Option Nat) (a1:List bf):Option (aq×Unit):=
 (a0).bind fun h1=>
 (a1[h1]?).bind fun y2=>
 (a0).bind fun h3=>
 (a1[h3]?).bind fun y4=>
 (a0).bind fun h5=>
 (a1[h5]?).bind fun y6=>
 (a0).bind fun h7=>
 (a1[h7]?).bind fun y8=>
 (qa y8.2.2.2.1).bind fun r9=>
 (a0).bind fun h10=>
 (a1[h10]?).bind fun y11=>
 (AV y11.2.2.2.2.2.2.2.1).bind fun r12=>
 (a0).bind fun h13=>
 (a1[h13]?).bind fun y14=>
 (a0).bind fun h15=>
 (a1[h15]?).bind fun y16=>
 (qa y16.2.2.2.2.1).bind fun r17=>
 (a0).bind fun h18=>
 (a1[h18]?).bind fun y19=>
 (qa y19.2.2.2.2.2.1).bind fun r20=>
 (a0).bind fun h21=>
 (a1[h21]?).bind fun y22=>
 (qa y22.2.2.2.2.2.2.1).bind fun r23=>
 (mq a0 a1).bind fun r24=>
 (qa r24.1).bind fun r25=>
 some ((y2.1,y4.2.1,y6.2.2.1,r9.1,r12.1,y14.2.2.2.2.2.2.2.2.1,r17.1,r20.1,r23.1,r25.1),())
abbrev mm:Type:=Int×(List aa)×Int×Int×Bys×Bys×Bys×Int×Int×(List aF)×(List aa)×(List (Int×(Option Nat)))×(List ah)×(List aL)×Int×(List bf)×Unit
abbrev mj:Type:=(((aj×(List aa)×(List (Int×(Option Nat)))×(List ah)×(List aL)×Int×Unit)×(List bf)×Unit) ⊕ (Bys×Bys×Bys×Int×Int×(List aF)×(List aa)×(List (Int×(Option Nat)))×(List ah)×(List aL)×Int×(List bf)×Unit))
def jg (x1:mm) (again:mm->Option mj):Option mj:=
 match x1 with
 | (A,B,C,D,E,F,G,H,I,J,K,L,M,N,O,P,_)=>
 bif decide (D<C) then
  (idx B D).bind fun y2=>
  bif decide (y2.1>A) then
   some (.inr (E,F,G,H,I,J,K,L,M,N,O,P,()))
  else
   (aZ ((E,F,G,H,I,J),K,L,M,N,O,()) D P).bind fun r3=>
   bif r3.1 != 0 then
    chk (decide (((r3.2.1.2.2.2.1.length)+1)*16<=140737488355328)&&decide ((r3.2.1.2.2.2.1.length)+1<=maxLen)) <|
    again (A,B,C,w64 (D+1),r3.2.1.1.1,r3.2.1.1.2.1,r3.2.1.1.2.2.1,r3.2.1.1.2.2.2.1,r3.2.1.1.2.2.2.2.1,r3.2.1.1.2.2.2.2.2,r3.2.1.2.1,r3.2.1.2.2.1,r3.2.1.2.2.2.1++[(D,r3.1)],r3.2.1.2.2.2.2.1,r3.2.1.2.2.2.2.2.1,r3.2.2.1,())
   else
    bif y2.2.2.2.2.1==r3.2.1.2.2.2.2.2.1 then
     (kR (Option.getD (α:=Option Nat) (bV (k:=tI) (v:= .hnd) r3.2.1.2.2.1 y2.2.2.2.2.1) none) r3.2.2.1).bind fun r4=>
     chk (decide (((r3.2.1.2.2.2.2.1.length)+1)*152<=140737488355328)&&decide ((r3.2.1.2.2.2.2.1.length)+1<=maxLen)) <|
     again (A,B,C,w64 (D+1),r3.2.1.1.1,r3.2.1.1.2.1,r3.2.1.1.2.2.1,r3.2.1.1.2.2.2.1,r3.2.1.1.2.2.2.2.1,r3.2.1.1.2.2.2.2.2,r3.2.1.2.1,r3.2.1.2.2.1,r3.2.1.2.2.2.1,r3.2.1.2.2.2.2.1++[(D,r4.1)],r3.2.1.2.2.2.2.2.1,r3.2.2.1,())
    else
     again (A,B,C,w64 (D+1),r3.2.1.1.1,r3.2.1.1.2.1,r3.2.1.1.2.2.1,r3.2.1.1.2.2.2.1,r3.2.1.1.2.2.2.2.1,r3.2.1.1.2.2.2.2.2,r3.2.1.2.1,r3.2.1.2.2.1,r3.2.1.2.2.2.1,r3.2.1.2.2.2.2.1,r3.2.1.2.2.2.2.2.1,r3.2.2.1,())
 else
  some (.inr (E,F,G,H,I,J,K,L,M,N,O,P,()))
def jf (a0:aj×(List aa)×(List (Int×(Option Nat)))×(List ah)×(List aL)×Int×Unit) (a1:Int) (a2:List bf):Option ((aj×(List aa)×(List (Int×(Option Nat)))×(List ah)×(List aL)×Int×Unit)×(List bf)×Unit):=
 aB (
  iter (X:=mm) (β:=mj) (a1.natAbs+(a0.2.1.length+(Int.natAbs ((a0.2.1.length:Int))+(Int.natAbs (0:Int)+(a0.1.1.length+(a0.1.2.1.length+(a0.1.2.2.1.length+(a0.1.2.2.2.1.natAbs+(a0.1.2.2.2.2.1.natAbs+(a0.1.2.2.2.2.2.length+(a0.2.1.length+(a0.2.2.1.length+(a0.2.2.2.1.length+(a0.2.2.2.2.1.length+(a0.2.2.2.2.2.1.natAbs+(a2.length+2)))))))))))))))) (a1,a0.2.1,(a0.2.1.length:Int),0,a0.1.1,a0.1.2.1,a0.1.2.2.1,a0.1.2.2.2.1,a0.1.2.2.2.2.1,a0.1.2.2.2.2.2,a0.2.1,a0.2.2.1,a0.2.2.2.1,a0.2.2.2.2.1,a0.2.2.2.2.2.1,a2,()) (jg)) fun (A,B,C,D,E,F,G,H,I,J,K,L,_)=>
 some (((A,B,C,D,E,F),G,H,I,J,K,()),L,())
def KW (a0:aj) (a1:List aa) (a2:Int) (a3:List bf):Option ((aj×(List aa)×(List (Int×(Option Nat)))×(List ah)×(List aL)×Int×Unit)×Int×(List bf)×Unit):=
 (tQ a0 a1).bind fun r1=>
 bif r1.1 != 0 then
  none
 else
  (iw a2).bind fun r2=>
  bif !r2.1 then
   none
  else
   (jX a0 a1 a3).bind fun r3=>
   (jf (r3.1.1,r3.1.2.1,r3.1.2.2.1,r3.1.2.2.2.1,r3.1.2.2.2.2.1,r3.1.2.2.2.2.2.1,()) a2 r3.2.1).bind fun r4=>
   some ((r4.1.1,r4.1.2.1,r4.1.2.2.1,r4.1.2.2.2.1,r4.1.2.2.2.2.1,r4.1.2.2.2.2.2.1,()),0,r4.2.1,())
def EZ (a0:aj) (a1:List aa) (a2:Int) (a3:List bf):Option ((Option Nat)×Int×(List bf)×Unit):=
 (tQ a0 a1).bind fun r1=>
 bif r1.1 != 0 then
  some (none,r1.1,a3,())
 else
  (iw a2).bind fun r2=>
  bif !r2.1 then
   some (none,1,a3,())
  else
   (jX a0 a1 a3).bind fun r3=>
   (jf (r3.1.1,r3.1.2.1,r3.1.2.2.1,r3.1.2.2.2.1,r3.1.2.2.2.2.1,r3.1.2.2.2.2.2.1,()) a2 r3.2.1).bind fun _=>
   none
def lQ (a0:Int) (a1:Int) (a2:Int):Option (Bool×Unit):=
 (
  bif decide (a1<=a0) then
   some (decide (a0<=a2),())
  else
   some (false,())).bind fun v1=>
 some (v1.1,())
def C6 (a0:Int):Option (Bool×Unit):=
 (lQ a0 1 4).bind fun r1=>
 bif r1.1 then
  some (true,())
 else
  bif a0==8 then
   some (true,())
  else
   bif a0==10 then
    some (true,())
   else
    some (a0==11,())
def HP (a0:Int):Option (Ia×Unit):=
 bif a0==1 then
  some ((true,true,true,true,false),())
 else
  aB (γ:=(Int×Bool×Bool×Bool×Bool×Bool×Bool×Unit)) (
   bif a0==2 then
    some (.inr (a0,a0==2,false,false,false,false,false,()))
   else
    bif a0==9 then
     some (.inr (a0,a0==9,false,false,false,false,false,()))
    else
     bif a0==10 then
      some (.inr (a0,a0==10,false,false,false,false,false,()))
     else
      some (.inr (a0,a0==11,false,false,false,false,false,()))) fun v1=>
  bif v1.2.1 then
   some ((true,false,false,false,false),())
  else
   bif v1.1==3 then
    some ((false,false,true,false,false),())
   else
    bif v1.1==4 then
     some ((false,true,false,false,false),())
    else
     bif v1.1==7 then
      some ((true,false,true,false,false),())
     else
      some ((false,false,false,false,true),())
def Cr (a0:Int):Option (ah×Unit):=
 some ((a0,0),())
def wE (a0:ah) (a1:ah):Option (Int×Unit):=
 (Bq a0 9).bind fun r1=>
 (Bq a1 9).bind fun r2=>
 (Gu r1.1 r2.1).bind fun r3=>
 some (r3.1,())
def oa (a0:ah) (a1:Bool):Option (Int×Unit):=
 (
  Option.bind (iB a0) fun r1=>
  bif r1.1 != 0 then
   some (true,())
  else
   bif decide (a0.1<0) then
    some (true,())
   else
    bif a0.1==0 then
     bif !a1 then
      some (true,())
     else
      Option.bind (Cr 1000000000) fun r2=>
      Option.bind (wE a0 r2.1) fun r3=>
      bif decide (r3.1>0) then
       some (true,())
      else
       some (decide (a0.2>3),())
    else
     Option.bind (Cr 1000000000) fun r4=>
     Option.bind (wE a0 r4.1) fun r5=>
     bif decide (r5.1>0) then
      some (true,())
     else
      some (decide (a0.2>3),())).bind fun v6=>
 bif v6.1 then
  some (1,())
 else
  some (0,())
def um (a0:ah):Option (Int×Unit):=
 (iB a0).bind fun r1=>
 bif r1.1 != 0 then
  some (1,())
 else
  bif decide (a0.1<0) then
   some (1,())
  else
   (Cr 1000000000).bind fun r2=>
   (wE a0 r2.1).bind fun r3=>
   bif decide (r3.1>0) then
    some (1,())
   else
    bif decide (a0.2>4) then
     some (1,())
    else
     some (0,())
def xS (a0:aa):Option (Int×Unit):=
 (HP a0.2.2.2.1).bind fun r1=>
 (
  bif r1.1.1 then
   Option.bind (oa a0.2.2.2.2.2.2.1 (a0.2.2.2.1==2)) fun r2=>
   some (r2.1 != 0,())
  else
   some (false,())).bind fun v3=>
 bif v3.1 then
  some (1,())
 else
  (
   bif r1.1.2.1 then
    Option.bind (um a0.2.2.2.2.2.2.2.2.1) fun r4=>
    some (r4.1 != 0,())
   else
    some (false,())).bind fun v5=>
  bif v5.1 then
   some (1,())
  else
   (
    bif r1.1.2.2.1 then
     Option.bind (td a0.2.2.2.2.2.2.2.2.2.1) fun r6=>
     some (!r6.1,())
    else
     some (false,())).bind fun v7=>
   bif v7.1 then
    some (1,())
   else
    (
     bif r1.1.2.2.2.1 then
      Option.bind (eX a0.2.2.2.2.2.1) fun r8=>
      bif !r8.1 then
       some (true,())
      else
       Option.bind (eX a0.2.2.2.2.2.2.2.1) fun r9=>
       some (!r9.1,())
     else
      some (false,())).bind fun v10=>
    bif v10.1 then
     some (5,())
    else
     (
      bif r1.1.2.2.2.2 then
       Option.bind (lQ a0.2.2.2.2.2.2.2.2.2.2 1 2000) fun r11=>
       some (!r11.1,())
      else
       some (false,())).bind fun v12=>
     bif v12.1 then
      some (1,())
     else
      (
       bif !r1.1.1 then
        bif !((a0.2.2.2.2.2.2.1.1==0)&&((a0.2.2.2.2.2.2.1.2==0)&&true)) then
         some (true,())
        else
         bif !r1.1.2.1 then
          bif !((a0.2.2.2.2.2.2.2.2.1.1==0)&&((a0.2.2.2.2.2.2.2.2.1.2==0)&&true)) then
           some (true,())
          else
           bif !r1.1.2.2.1 then
            bif a0.2.2.2.2.2.2.2.2.2.1 != 0 then
             some (true,())
            else
             bif !r1.1.2.2.2.1 then
              chk (decide (a0.2.2.2.2.2.1.length+a0.2.2.2.2.2.2.2.1.length<=maxLen)) <|
              bif !((a0.2.2.2.2.2.1++a0.2.2.2.2.2.2.2.1)==[]) then
               some (true,())
              else
               bif !r1.1.2.2.2.2 then
                some (a0.2.2.2.2.2.2.2.2.2.2 != 0,())
               else
                some (false,())
             else
              bif !r1.1.2.2.2.2 then
               some (a0.2.2.2.2.2.2.2.2.2.2 != 0,())
              else
               some (false,())
           else
            bif !r1.1.2.2.2.1 then
             chk (decide (a0.2.2.2.2.2.1.length+a0.2.2.2.2.2.2.2.1.length<=maxLen)) <|
             bif !((a0.2.2.2.2.2.1++a0.2.2.2.2.2.2.2.1)==[]) then
              some (true,())
             else
              bif !r1.1.2.2.2.2 then
               some (a0.2.2.2.2.2.2.2.2.2.2 != 0,())
              else
               some (false,())
            else
             bif !r1.1.2.2.2.2 then
              some (a0.2.2.2.2.2.2.2.2.2.2 != 0,())
             else
              some (false,())
         else
          bif !r1.1.2.2.1 then
           bif a0.2.2.2.2.2.2.2.2.2.1 != 0 then
            some (true,())
           else
            bif !r1.1.2.2.2.1 then
             chk (decide (a0.2.2.2.2.2.1.length+a0.2.2.2.2.2.2.2.1.length<=maxLen)) <|
             bif !((a0.2.2.2.2.2.1++a0.2.2.2.2.2.2.2.1)==[]) then
              some (true,())
             else
              bif !r1.1.2.2.2.2 then
               some (a0.2.2.2.2.2.2.2.2.2.2 != 0,())
              else
               some (false,())
            else
             bif !r1.1.2.2.2.2 then
              some (a0.2.2.2.2.2.2.2.2.2.2 != 0,())
             else
              some (false,())
          else
           bif !r1.1.2.2.2.1 then
            chk (decide (a0.2.2.2.2.2.1.length+a0.2.2.2.2.2.2.2.1.length<=maxLen)) <|
            bif !((a0.2.2.2.2.2.1++a0.2.2.2.2.2.2.2.1)==[]) then
             some (true,())
            else
             bif !r1.1.2.2.2.2 then
              some (a0.2.2.2.2.2.2.2.2.2.2 != 0,())
             else
              some (false,())
           else
            bif !r1.1.2.2.2.2 then
             some (a0.2.2.2.2.2.2.2.2.2.2 != 0,())
            else
             some (false,())
       else
        bif !r1.1.2.1 then
         bif !((a0.2.2.2.2.2.2.2.2.1.1==0)&&((a0.2.2.2.2.2.2.2.2.1.2==0)&&true)) then
          some (true,())
         else
          bif !r1.1.2.2.1 then
           bif a0.2.2.2.2.2.2.2.2.2.1 != 0 then
            some (true,())
           else
            bif !r1.1.2.2.2.1 then
             chk (decide (a0.2.2.2.2.2.1.length+a0.2.2.2.2.2.2.2.1.length<=maxLen)) <|
             bif !((a0.2.2.2.2.2.1++a0.2.2.2.2.2.2.2.1)==[]) then
              some (true,())
             else
              bif !r1.1.2.2.2.2 then
               some (a0.2.2.2.2.2.2.2.2.2.2 != 0,())
              else
               some (false,())
            else
             bif !r1.1.2.2.2.2 then
              some (a0.2.2.2.2.2.2.2.2.2.2 != 0,())
             else
              some (false,())
          else
           bif !r1.1.2.2.2.1 then
            chk (decide (a0.2.2.2.2.2.1.length+a0.2.2.2.2.2.2.2.1.length<=maxLen)) <|
            bif !((a0.2.2.2.2.2.1++a0.2.2.2.2.2.2.2.1)==[]) then
             some (true,())
            else
             bif !r1.1.2.2.2.2 then
              some (a0.2.2.2.2.2.2.2.2.2.2 != 0,())
             else
              some (false,())
           else
            bif !r1.1.2.2.2.2 then
             some (a0.2.2.2.2.2.2.2.2.2.2 != 0,())
            else
             some (false,())
        else
         bif !r1.1.2.2.1 then
          bif a0.2.2.2.2.2.2.2.2.2.1 != 0 then
           some (true,())
          else
           bif !r1.1.2.2.2.1 then
            chk (decide (a0.2.2.2.2.2.1.length+a0.2.2.2.2.2.2.2.1.length<=maxLen)) <|
            bif !((a0.2.2.2.2.2.1++a0.2.2.2.2.2.2.2.1)==[]) then
             some (true,())
            else
             bif !r1.1.2.2.2.2 then
              some (a0.2.2.2.2.2.2.2.2.2.2 != 0,())
             else
              some (false,())
           else
            bif !r1.1.2.2.2.2 then
             some (a0.2.2.2.2.2.2.2.2.2.2 != 0,())
            else
             some (false,())
         else
          bif !r1.1.2.2.2.1 then
           chk (decide (a0.2.2.2.2.2.1.length+a0.2.2.2.2.2.2.2.1.length<=maxLen)) <|
           bif !((a0.2.2.2.2.2.1++a0.2.2.2.2.2.2.2.1)==[]) then
            some (true,())
           else
            bif !r1.1.2.2.2.2 then
             some (a0.2.2.2.2.2.2.2.2.2.2 != 0,())
            else
             some (false,())
          else
           bif !r1.1.2.2.2.2 then
            some (a0.2.2.2.2.2.2.2.2.2.2 != 0,())
           else
            some (false,())).bind fun v13=>
      bif v13.1 then
       some (3,())
      else
       some (0,())
abbrev vm:Type:=Int×Int×(List Int)×Unit
abbrev vl:Type:=((Int×Unit) ⊕ Unit)
def BF (x1:vm) (again:vm->Option vl):Option vl:=
 bif decide (x1.2.1<x1.1) then
  chk (decide (0<=x1.2.1)&&decide (x1.2.1<(x1.2.2.1.length:Int))) <|
  (x1.2.2.1[x1.2.1.toNat]?).bind fun y2=>
  bif y2 != 0 then
   some (.inl (y2,()))
  else
   again (x1.1,w64 (x1.2.1+1),x1.2.2.1,())
 else
  some (.inr ())
def wF (a0:aa) (a1:aa):Option (Int×Unit):=
 aB (
  iter (X:=vm) (β:=vl) (Int.natAbs ((List.length [(w64 (a0.1 - a1.1)),(w64 (a0.2.1 - a1.2.1)),(w64 (a0.2.2.1 - a1.2.2.1))]:Int))+(Int.natAbs (0:Int)+(List.length ([(w64 (a0.1 - a1.1)),(w64 (a0.2.1 - a1.2.1)),(w64 (a0.2.2.1 - a1.2.2.1))]:List Int)+2))) ((List.length [(w64 (a0.1 - a1.1)),(w64 (a0.2.1 - a1.2.1)),(w64 (a0.2.2.1 - a1.2.2.1))]:Int),0,[(w64 (a0.1 - a1.1)),(w64 (a0.2.1 - a1.2.1)),(w64 (a0.2.2.1 - a1.2.2.1))],()) (BF)) fun _=>
 some (0,())
abbrev wG:Type:=Int×Int×(List aa)×Int×Int×Unit
abbrev BH:Type:=((Int×Unit) ⊕ (Int×Unit))
def BG (x1:wG) (again:wG->Option BH):Option BH:=
 match x1 with
 | (A,B,C,D,E,_)=>
 bif decide (E<D) then
  (idx C E).bind fun y2=>
  bif y2.2.1==A then
   again (A,y2.2.2.1,C,D,w64 (E+1),())
  else
   again (A,B,C,D,w64 (E+1),())
 else
  some (.inr (B,()))
def HK (a0:List aa) (a1:Int):Option (Int×Unit):=
 aB (
  iter (X:=wG) (β:=BH) (a1.natAbs+(Int.natAbs (0:Int)+(a0.length+(Int.natAbs ((a0.length:Int))+(Int.natAbs (0:Int)+2))))) (a1,0,a0,(a0.length:Int),0,()) (BG)) fun v3=>
 some (v3.1,())
abbrev tj:Type:=(List aa)×(List aa)×Int×Int×Unit
abbrev th:Type:=((Int×Unit) ⊕ Unit)
def nZ (x1:tj) (again:tj->Option th):Option th:=
 match x1 with
 | (A,B,C,D,_)=>
 bif decide (D<C) then
  (idx B D).bind fun y2=>
  (td y2.1).bind fun r3=>
  bif !r3.1 then
   some (.inl (1,()))
  else
   (
    bif y2.2.1 != 1 then
     some (y2.2.1 != 2,())
    else
     some (false,())).bind fun v4=>
   bif v4.1 then
    some (.inl (4,()))
   else
    (lQ y2.2.2.1 1 2000).bind fun r5=>
    bif !r5.1 then
     some (.inl (1,()))
    else
     (lQ y2.2.2.2.1 1 11).bind fun r6=>
     bif !r6.1 then
      some (.inl (4,()))
     else
      (C6 y2.2.2.2.1).bind fun r7=>
      bif !(r7.1==(y2.2.1==1)) then
       some (.inl (4,()))
      else
       (lQ y2.2.2.2.2.1 1 99999).bind fun r8=>
       bif !r8.1 then
        some (.inl (1,()))
       else
        (xS y2).bind fun r9=>
        bif r9.1 != 0 then
         some (.inl (r9.1,()))
        else
         (
          bif decide (D>0) then
           Option.bind (idx A (w64 (D - 1))) fun y10=>
           Option.bind (wF y2 y10) fun r11=>
           some (decide (r11.1<=0),())
          else
           some (false,())).bind fun v12=>
         bif v12.1 then
          some (.inl (8,()))
         else
          chk (decide (0<=(0:Int))&&decide ((0:Int)<=D)&&decide (D<=(A.length:Int))) <|
          (HK (List.drop 0 (List.take (Int.toNat D) A)) y2.2.1).bind fun r13=>
          bif y2.2.2.1 != (w64 (r13.1+1)) then
           some (.inl (9,()))
          else
           again (A,B,C,w64 (D+1),())
 else
  some (.inr ())
def uj (a0:List aa):Option (Int×Unit):=
 bif decide (((a0.length:Int))>2000) then
  some (2,())
 else
  aB (
   iter (X:=tj) (β:=th) (a0.length+(a0.length+(Int.natAbs ((a0.length:Int))+(Int.natAbs (0:Int)+2)))) (a0,a0,(a0.length:Int),0,()) (nZ)) fun _=>
  some (0,())
end
end Go.Md
