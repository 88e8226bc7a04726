/-
  The plain models of the functions that the law reaches, third part. No condition.
-/
import Derived.Test.YtekilbogbgmbbaaGreatDoorYn
import Derived.Test.YtekilbogbgmbbaaGreatDoorYd
import Derived.Lib.Atoi
import Derived.Lib.IndexBytes
namespace Go.Md
open Go.Dn
def fq (s:Bys) (c:Int):Option (Int×Unit):=some (Lib.indexByte s c.toNat.toUInt8,())
def kg (c:UInt8):Bys->List Bys
 | []=>[[]]
 | b::r=>bif b==c then []::kg c r else (match kg c r with
  | h::t=>(b::h)::t
  | []=>[[b]])
def strings_Split (s sep:Bys):Option (List Bys×Unit):=match sep with
 | [c]=>bif decide (s.length<4294967281) then some (kg c s,()) else none
 | _=>none
def aaT (b:UInt8):Bool:=decide (48<=b.toNat)&&decide (b.toNat<=57)
def AB (s:Bys) (most:Int):Option (Int×Bool×Unit):=
 bif decide (most<(s.length:Int)) then some (0,false,())
 else bif decide (s.length<=18) then (bif !(!(s==[])&&s.all aaT)||(decide (1<s.length)&&s.head? ==some 48) then some (0,false,()) else (Lib.atoi s).bind fun n=>some (n,true,())) else none
def Yu (a b:Int×Int×Int×Int×Int×Bys×(Int×Int)×Bys×(Int×Int)×Int×Int):Int:=
 bif !(a.1 - b.1==0) then a.1 - b.1 else bif !(a.2.1 - b.2.1==0) then a.2.1 - b.2.1 else a.2.2.1 - b.2.2.1
noncomputable section
abbrev Sd:Ty:=(.st (.pair tI (.pair tI tI)))
abbrev Rg:Type:=Int×Int×Int
abbrev Ea:Ty:=(.st (.pair .bool (.pair .bool (.pair .bool (.pair .bool .bool)))))
abbrev Di:Type:=Bool×Bool×Bool×Bool×Bool
abbrev Uj:Ty:=(.st (.pair .bool (.pair .bool (.pair .bool (.pair .bool (.pair .bool .bool))))))
abbrev SB:Type:=Bool×Bool×Bool×Bool×Bool×Bool
abbrev aJ:Ty:=(.st (.pair tI (.pair .str (.pair au (.pair .str (.pair au tI))))))
abbrev ai:Type:=Int×Bys×ah×Bys×ah×Int
abbrev aq:Ty:=(.st (.pair tI (.pair tI (.pair tI (.pair tI (.pair tI (.pair .str (.pair au (.pair .str (.pair au (.pair tI tI)))))))))))
abbrev aa:Type:=Int×Int×Int×Int×Int×Bys×ah×Bys×ah×Int×Int
abbrev aH:Ty:=(.st (.pair .str (.pair .str (.pair .str (.pair tI (.pair tI (.slice aJ)))))))
abbrev aj:Type:=Bys×Bys×Bys×Int×Int×(List ai)
abbrev bP:Ty:=(.st (.pair tI (.pair .str (.pair .str (.pair tI (.pair tI (.pair tI (.pair tI (.pair au (.pair tI (.pair tI Sd)))))))))))
abbrev aP:Type:=Int×Bys×Bys×Int×Int×Int×Int×ah×Int×Int×Rg
abbrev bL:Ty:=(.st (.pair tI gC))
abbrev ay:Type:=Int×dD
def qJ (a0:aj) (a1:Int):Option (Int×Unit):=
 (idx a0.2.2.2.2.2 a1).bind fun y1=>
 (dR y1.1 1 99999).bind fun r2=>
 bif r2.1 then
  some (1,())
 else
  (
   bif decide (a1>0) then
    Option.bind (idx a0.2.2.2.2.2 (w64 (a1 - 1))) fun y3=>
    some (decide (y1.1<=y3.1),())
   else
    some (false,())).bind fun v4=>
  bif v4.1 then
   some (8,())
  else
   (eP y1.2.1).bind fun r5=>
   bif !r5.1 then
    some (5,())
   else
    (iV y1.2.2.1 false).bind fun r6=>
    bif r6.1 != 0 then
     some (r6.1,())
    else
     (eP y1.2.2.2.1).bind fun r7=>
     bif !r7.1 then
      some (5,())
     else
      (lz y1.2.2.2.2.1).bind fun r8=>
      bif r8.1 != 0 then
       some (r8.1,())
      else
       (dR y1.2.2.2.2.2 a0.2.2.2.1 3652059).bind fun r9=>
       bif r9.1 then
        some (1,())
       else
        some (0,())
abbrev kM:Type:=Int×Int×Bys×Bys×Bys×Int×Int×(List ai)×Unit
abbrev kL:Type:=((Int×Unit) ⊕ Unit)
def kK (x1:kM) (again:kM->Option kL):Option kL:=
 match x1 with
 | (A,B,C,D,E,F,G,H,_)=>
 bif decide (B<A) then
  (qJ (C,D,E,F,G,H) B).bind fun r2=>
  bif r2.1 != 0 then
   some (.inl (r2.1,()))
  else
   again (A,w64 (B+1),C,D,E,F,G,H,())
 else
  some (.inr ())
def dM (a0:aj):Option (Int×Unit):=
 (eP a0.1).bind fun r1=>
 bif !r1.1 then
  some (5,())
 else
  (eP a0.2.1).bind fun r2=>
  bif !r2.1 then
   some (5,())
  else
   (eP a0.2.2.1).bind fun r3=>
   bif !r3.1 then
    some (5,())
   else
    bif a0.2.1==a0.2.2.1 then
     some (12,())
    else
     (mL a0.2.2.2.1).bind fun r4=>
     bif !r4.1 then
      some (1,())
     else
      (dR a0.2.2.2.2.1 0 1000).bind fun r5=>
      bif r5.1 then
       some (1,())
      else
       bif ((a0.2.2.2.2.2.length:Int))==0 then
        some (9,())
       else
        bif decide (((a0.2.2.2.2.2.length:Int))>500) then
         some (2,())
        else
         aC (
          iter (X:=kM) (β:=kL) (Int.natAbs ((a0.2.2.2.2.2.length:Int))+(Int.natAbs (0:Int)+(a0.1.length+(a0.2.1.length+(a0.2.2.1.length+(a0.2.2.2.1.natAbs+(a0.2.2.2.2.1.natAbs+(a0.2.2.2.2.2.length+2)))))))) ((a0.2.2.2.2.2.length:Int),0,a0.1,a0.2.1,a0.2.2.1,a0.2.2.2.1,a0.2.2.2.2.1,a0.2.2.2.2.2,()) (kK)) fun _=>
         some (0,())
def mN (a0:Int):Option (Bool×Unit):=
 bif a0==5 then
  some (true,())
 else
  bif a0==6 then
   some (true,())
  else
   bif a0==7 then
    some (true,())
   else
    some (a0==9,())
def rG (a0:Int):Option (SB×Unit):=
 bif a0==1 then
  some ((true,true,true,true,true,false),())
 else
  bif a0==3 then
   some ((false,false,false,false,true,false),())
  else
   bif a0==4 then
    some ((false,false,false,true,false,false),())
   else
    bif a0==5 then
     bif a0==5 then
      some ((false,false,false,false,false,true),())
     else
      bif a0==7 then
       some ((false,true,false,false,true,false),())
      else
       some ((false,true,false,false,false,false),())
    else
     bif a0==6 then
      bif a0==6 then
       some ((false,false,false,false,false,true),())
      else
       bif a0==7 then
        some ((false,true,false,false,true,false),())
       else
        some ((false,true,false,false,false,false),())
     else
      bif a0==8 then
       some ((false,false,false,false,false,true),())
      else
       bif a0==7 then
        some ((false,true,false,false,true,false),())
       else
        some ((false,true,false,false,false,false),())
def qK (a0:aa):Option (Int×Unit):=
 (rG a0.2.2.2.1).bind fun r1=>
 aC (γ:=(Int×Int×Int×Int×Int×Bys×Int×Int×Bys×Int×Int×Int×Int×Bool×Bool×Bool×Bool×Bool×Bool×Unit)) (
  bif r1.1.2.1 then
   (iV a0.2.2.2.2.2.2.1 (a0.2.2.2.1==2)).bind fun r2=>
   bif r2.1 != 0 then
    some (.inl (r2.1,()))
   else
    some (.inr (a0.1,a0.2.1,a0.2.2.1,a0.2.2.2.1,a0.2.2.2.2.1,a0.2.2.2.2.2.1,a0.2.2.2.2.2.2.1.1,a0.2.2.2.2.2.2.1.2,a0.2.2.2.2.2.2.2.1,a0.2.2.2.2.2.2.2.2.1.1,a0.2.2.2.2.2.2.2.2.1.2,a0.2.2.2.2.2.2.2.2.2.1,a0.2.2.2.2.2.2.2.2.2.2,r1.1.1,r1.1.2.1,r1.1.2.2.1,r1.1.2.2.2.1,r1.1.2.2.2.2.1,r1.1.2.2.2.2.2,()))
  else
   some (.inr (a0.1,a0.2.1,a0.2.2.1,a0.2.2.2.1,a0.2.2.2.2.1,a0.2.2.2.2.2.1,a0.2.2.2.2.2.2.1.1,a0.2.2.2.2.2.2.1.2,a0.2.2.2.2.2.2.2.1,a0.2.2.2.2.2.2.2.2.1.1,a0.2.2.2.2.2.2.2.2.1.2,a0.2.2.2.2.2.2.2.2.2.1,a0.2.2.2.2.2.2.2.2.2.2,r1.1.1,r1.1.2.1,r1.1.2.2.1,r1.1.2.2.2.1,r1.1.2.2.2.2.1,r1.1.2.2.2.2.2,()))) fun (A,B,C,D,E,F,G,H,I,J,K,L,M,N,O,P,Q,R,S,_)=>
 aC (γ:=(Int×Int×Int×Int×Int×Bys×Int×Int×Bys×Int×Int×Int×Int×Bool×Bool×Bool×Bool×Bool×Bool×Unit)) (
  bif Q then
   (lz (J,K)).bind fun r4=>
   bif r4.1 != 0 then
    some (.inl (r4.1,()))
   else
    some (.inr (A,B,C,D,E,F,G,H,I,J,K,L,M,N,O,P,Q,R,S,()))
  else
   some (.inr (A,B,C,D,E,F,G,H,I,J,K,L,M,N,O,P,Q,R,S,()))) fun (_,_,_,_,_,T,U,V,W,X,Y,Z,A0,B0,C0,D0,E0,F0,G0,_)=>
 (
  bif F0 then
   Option.bind (mL Z) fun r6=>
   some (!r6.1,())
  else
   some (false,())).bind fun v7=>
 bif v7.1 then
  some (1,())
 else
  (
   bif B0 then
    Option.bind (eP T) fun r8=>
    bif !r8.1 then
     some (true,())
    else
     bif D0 then
      Option.bind (eP W) fun r9=>
      some (!r9.1,())
     else
      some (false,())
   else
    bif D0 then
     Option.bind (eP W) fun r10=>
     some (!r10.1,())
    else
     some (false,())).bind fun v11=>
  bif v11.1 then
   some (5,())
  else
   (
    bif G0 then
     Option.bind (dR A0 1 2000) fun r12=>
     some (r12.1,())
    else
     some (false,())).bind fun v13=>
   bif v13.1 then
    some (1,())
   else
    (
     bif !B0 then
      bif !(T==[]) then
       some (true,())
      else
       bif !C0 then
        bif !((U==0)&&((V==0)&&true)) then
         some (true,())
        else
         bif !D0 then
          bif !(W==[]) then
           some (true,())
          else
           bif !E0 then
            bif !((X==0)&&((Y==0)&&true)) then
             some (true,())
            else
             bif !F0 then
              bif Z != 0 then
               some (true,())
              else
               bif !G0 then
                some (A0 != 0,())
               else
                some (false,())
             else
              bif !G0 then
               some (A0 != 0,())
              else
               some (false,())
           else
            bif !F0 then
             bif Z != 0 then
              some (true,())
             else
              bif !G0 then
               some (A0 != 0,())
              else
               some (false,())
            else
             bif !G0 then
              some (A0 != 0,())
             else
              some (false,())
         else
          bif !E0 then
           bif !((X==0)&&((Y==0)&&true)) then
            some (true,())
           else
            bif !F0 then
             bif Z != 0 then
              some (true,())
             else
              bif !G0 then
               some (A0 != 0,())
              else
               some (false,())
            else
             bif !G0 then
              some (A0 != 0,())
             else
              some (false,())
          else
           bif !F0 then
            bif Z != 0 then
             some (true,())
            else
             bif !G0 then
              some (A0 != 0,())
             else
              some (false,())
           else
            bif !G0 then
             some (A0 != 0,())
            else
             some (false,())
       else
        bif !D0 then
         bif !(W==[]) then
          some (true,())
         else
          bif !E0 then
           bif !((X==0)&&((Y==0)&&true)) then
            some (true,())
           else
            bif !F0 then
             bif Z != 0 then
              some (true,())
             else
              bif !G0 then
               some (A0 != 0,())
              else
               some (false,())
            else
             bif !G0 then
              some (A0 != 0,())
             else
              some (false,())
          else
           bif !F0 then
            bif Z != 0 then
             some (true,())
            else
             bif !G0 then
              some (A0 != 0,())
             else
              some (false,())
           else
            bif !G0 then
             some (A0 != 0,())
            else
             some (false,())
        else
         bif !E0 then
          bif !((X==0)&&((Y==0)&&true)) then
           some (true,())
          else
           bif !F0 then
            bif Z != 0 then
             some (true,())
            else
             bif !G0 then
              some (A0 != 0,())
             else
              some (false,())
           else
            bif !G0 then
             some (A0 != 0,())
            else
             some (false,())
         else
          bif !F0 then
           bif Z != 0 then
            some (true,())
           else
            bif !G0 then
             some (A0 != 0,())
            else
             some (false,())
          else
           bif !G0 then
            some (A0 != 0,())
           else
            some (false,())
     else
      bif !C0 then
       bif !((U==0)&&((V==0)&&true)) then
        some (true,())
       else
        bif !D0 then
         bif !(W==[]) then
          some (true,())
         else
          bif !E0 then
           bif !((X==0)&&((Y==0)&&true)) then
            some (true,())
           else
            bif !F0 then
             bif Z != 0 then
              some (true,())
             else
              bif !G0 then
               some (A0 != 0,())
              else
               some (false,())
            else
             bif !G0 then
              some (A0 != 0,())
             else
              some (false,())
          else
           bif !F0 then
            bif Z != 0 then
             some (true,())
            else
             bif !G0 then
              some (A0 != 0,())
             else
              some (false,())
           else
            bif !G0 then
             some (A0 != 0,())
            else
             some (false,())
        else
         bif !E0 then
          bif !((X==0)&&((Y==0)&&true)) then
           some (true,())
          else
           bif !F0 then
            bif Z != 0 then
             some (true,())
            else
             bif !G0 then
              some (A0 != 0,())
             else
              some (false,())
           else
            bif !G0 then
             some (A0 != 0,())
            else
             some (false,())
         else
          bif !F0 then
           bif Z != 0 then
            some (true,())
           else
            bif !G0 then
             some (A0 != 0,())
            else
             some (false,())
          else
           bif !G0 then
            some (A0 != 0,())
           else
            some (false,())
      else
       bif !D0 then
        bif !(W==[]) then
         some (true,())
        else
         bif !E0 then
          bif !((X==0)&&((Y==0)&&true)) then
           some (true,())
          else
           bif !F0 then
            bif Z != 0 then
             some (true,())
            else
             bif !G0 then
              some (A0 != 0,())
             else
              some (false,())
           else
            bif !G0 then
             some (A0 != 0,())
            else
             some (false,())
         else
          bif !F0 then
           bif Z != 0 then
            some (true,())
           else
            bif !G0 then
             some (A0 != 0,())
            else
             some (false,())
          else
           bif !G0 then
            some (A0 != 0,())
           else
            some (false,())
       else
        bif !E0 then
         bif !((X==0)&&((Y==0)&&true)) then
          some (true,())
         else
          bif !F0 then
           bif Z != 0 then
            some (true,())
           else
            bif !G0 then
             some (A0 != 0,())
            else
             some (false,())
          else
           bif !G0 then
            some (A0 != 0,())
           else
            some (false,())
        else
         bif !F0 then
          bif Z != 0 then
           some (true,())
          else
           bif !G0 then
            some (A0 != 0,())
           else
            some (false,())
         else
          bif !G0 then
           some (A0 != 0,())
          else
           some (false,())).bind fun v14=>
    bif v14.1 then
     some (3,())
    else
     some (0,())
def qI (a0:aa):Option (Int×Unit):=
 (mL a0.1).bind fun r1=>
 bif !r1.1 then
  some (1,())
 else
  (dR a0.2.1 1 2).bind fun r2=>
  bif r2.1 then
   some (4,())
  else
   (dR a0.2.2.1 1 2000).bind fun r3=>
   bif r3.1 then
    some (1,())
   else
    (dR a0.2.2.2.1 1 11).bind fun r4=>
    bif r4.1 then
     some (4,())
    else
     (mN a0.2.2.2.1).bind fun r5=>
     bif !(r5.1==(a0.2.1==2)) then
      some (4,())
     else
      (dR a0.2.2.2.2.1 1 99999).bind fun r6=>
      bif r6.1 then
       some (1,())
      else
       (qK a0).bind fun r7=>
       some (r7.1,())
abbrev jF:Type:=Int×Int×(List Int)×Unit
abbrev jE:Type:=((Int×Unit) ⊕ Unit)
def og (x1:jF) (again:jF->Option jE):Option jE:=
 bif decide (x1.2.1<x1.1) then
  chk (decide (0<=x1.2.1)&&decide (x1.2.1<(x1.2.2.1.length:Int))) <|
  (x1.2.2.1[x1.2.1.toNat]?).bind fun y2=>
  bif y2 != 0 then
   some (.inl (y2,()))
  else
   again (x1.1,w64 (x1.2.1+1),x1.2.2.1,())
 else
  some (.inr ())
def ju (a0:aa) (a1:aa):Option (Int×Unit):=
 aC (
  iter (X:=jF) (β:=jE) (Int.natAbs ((List.length [(w64 (a0.1 - a1.1)),(w64 (a0.2.1 - a1.2.1)),(w64 (a0.2.2.1 - a1.2.2.1))]:Int))+(Int.natAbs (0:Int)+(List.length ([(w64 (a0.1 - a1.1)),(w64 (a0.2.1 - a1.2.1)),(w64 (a0.2.2.1 - a1.2.2.1))]:List Int)+2))) ((List.length [(w64 (a0.1 - a1.1)),(w64 (a0.2.1 - a1.2.1)),(w64 (a0.2.2.1 - a1.2.2.1))]:Int),0,[(w64 (a0.1 - a1.1)),(w64 (a0.2.1 - a1.2.1)),(w64 (a0.2.2.1 - a1.2.2.1))],()) (og)) fun _=>
 some (0,())
abbrev iT:Type:=(List aa)×(List aa)×Int×Int×Int×Int×Int×Unit
abbrev gp:Type:=((Int×Unit) ⊕ Unit)
def iS (x1:iT) (again:iT->Option gp):Option gp:=
 match x1 with
 | (A,B,C,D,E,F,G,_)=>
 bif decide (D<C) then
  (idx B D).bind fun y2=>
  (qI y2).bind fun r3=>
  bif r3.1 != 0 then
   some (.inl (r3.1,()))
  else
   (
    bif decide (D>0) then
     Option.bind (idx A (w64 (D - 1))) fun y4=>
     Option.bind (ju y4 y2) fun r5=>
     some (decide (r5.1>=0),())
    else
     some (false,())).bind fun v6=>
   bif v6.1 then
    some (.inl (8,()))
   else
    bif y2.2.1==0 then
     bif y2.2.2.1 != (w64 (E+1)) then
      some (.inl (9,()))
     else
      bif y2.2.1==0 then
       again (A,B,C,w64 (D+1),y2.2.2.1,F,G,())
      else
       bif y2.2.1==1 then
        again (A,B,C,w64 (D+1),E,y2.2.2.1,G,())
       else
        bif y2.2.1==2 then
         again (A,B,C,w64 (D+1),E,F,y2.2.2.1,())
        else
         none
    else
     bif y2.2.1==1 then
      bif y2.2.2.1 != (w64 (F+1)) then
       some (.inl (9,()))
      else
       bif y2.2.1==0 then
        again (A,B,C,w64 (D+1),y2.2.2.1,F,G,())
       else
        bif y2.2.1==1 then
         again (A,B,C,w64 (D+1),E,y2.2.2.1,G,())
        else
         bif y2.2.1==2 then
          again (A,B,C,w64 (D+1),E,F,y2.2.2.1,())
         else
          none
     else
      bif y2.2.1==2 then
       bif y2.2.2.1 != (w64 (G+1)) then
        some (.inl (9,()))
       else
        bif y2.2.1==0 then
         again (A,B,C,w64 (D+1),y2.2.2.1,F,G,())
        else
         bif y2.2.1==1 then
          again (A,B,C,w64 (D+1),E,y2.2.2.1,G,())
         else
          bif y2.2.1==2 then
           again (A,B,C,w64 (D+1),E,F,y2.2.2.1,())
          else
           none
      else
       none
 else
  some (.inr ())
def dL (a0:List aa):Option (Int×Unit):=
 bif decide (((a0.length:Int))>2000) then
  some (2,())
 else
  aC (
   iter (X:=iT) (β:=gp) (a0.length+(a0.length+(Int.natAbs ((a0.length:Int))+(Int.natAbs (0:Int)+(Int.natAbs (0:Int)+(Int.natAbs (0:Int)+(Int.natAbs (0:Int)+2))))))) (a0,a0,(a0.length:Int),0,0,0,0,()) (iS)) fun _=>
  some (0,())
def me (a0:aj) (a1:List aa):Option (Int×Unit):=
 (dM a0).bind fun r1=>
 bif r1.1 != 0 then
  some (r1.1,())
 else
  (dL a1).bind fun r2=>
  some (r2.1,())
def gx (a0:ah):Option (Int×Unit):=
 (yA (w64 (3 - a0.2))).bind fun r1=>
 some (w64 (a0.1*r1.1),())
abbrev kO:Type:=(List ai)×Int×Int×Bys×Bys×Bys×Int×Int×(List ai)×(List aa)×(List ah)×(List ay)×Int×(List (Int×(Option Nat)))×(List aP)×Unit
abbrev pe:Type:=(((aj×(List aa)×(List (Int×(Option Nat)))×(List ah)×(List ay)×Int×Unit)×(List aP)×Unit) ⊕ (Bys×Bys×Bys×Int×Int×(List ai)×(List aa)×(List ah)×(List ay)×Int×(List (Int×(Option Nat)))×(List aP)×Unit))
def kN (x1:kO) (again:kO->Option pe):Option pe:=
 match x1 with
 | (A,B,C,D,E,F,G,H,I,J,K,L,M,N,O,_)=>
 bif decide (C<B) then
  (idx A C).bind fun y2=>
  (gx y2.2.2.1).bind fun r3=>
  again (A,B,w64 (C+1),D,E,F,G,H,I,J,K,L,M,lq (k:=tI) (v:= .hnd) N y2.1 (some (O.length)),O++[(y2.1,y2.2.1,y2.2.2.2.1,r3.1,0,0,0,y2.2.2.2.2.1,y2.2.2.2.2.2,(-1),0,0,0)],())
 else
  some (.inr (D,E,F,G,H,I,J,K,L,M,N,O,()))
def fZ (a0:aj) (a1:List aa) (a2:List aP):Option ((aj×(List aa)×(List (Int×(Option Nat)))×(List ah)×(List ay)×Int×Unit)×(List aP)×Unit):=
 aC (
  iter (X:=kO) (β:=pe) (a0.2.2.2.2.2.length+(Int.natAbs ((a0.2.2.2.2.2.length:Int))+(Int.natAbs (0:Int)+(a0.1.length+(a0.2.1.length+(a0.2.2.1.length+(a0.2.2.2.1.natAbs+(a0.2.2.2.2.1.natAbs+(a0.2.2.2.2.2.length+(a1.length+(List.length ([]:List ah)+(List.length ([]:List ay)+(Int.natAbs (0:Int)+(List.length ([]:List (Int×(Option Nat)))+(a2.length+2))))))))))))))) (a0.2.2.2.2.2,(a0.2.2.2.2.2.length:Int),0,a0.1,a0.2.1,a0.2.2.1,a0.2.2.2.1,a0.2.2.2.2.1,a0.2.2.2.2.2,a1,[],[],0,[],a2,()) (kN)) fun (A,B,C,D,E,F,G,H,I,J,K,L,_)=>
 some (((A,B,C,D,E,F),G,K,H,I,J,()),L,())
def mM (a0:aj×(List aa)×(List (Int×(Option Nat)))×(List ah)×(List ay)×Int×Unit) (a1:Int) (a2:List aP):Option (Int×(aj×(List aa)×(List (Int×(Option Nat)))×(List ah)×(List ay)×Int×Unit)×(List aP)×Unit):=
 (idx a0.2.1 a1).bind fun y1=>
 bif !(Option.isNone (Option.getD (α:=Option Nat) (eH (k:=tI) (v:= .hnd) a0.2.2.1 y1.2.2.2.2.1) none)) then
  some (7,(a0.1,a0.2.1,a0.2.2.1,a0.2.2.2.1,a0.2.2.2.2.1,a0.2.2.2.2.2.1,()),a2,())
 else
  bif decide (((a0.2.2.1.length:Int))>=500) then
   some (16,(a0.1,a0.2.1,a0.2.2.1,a0.2.2.2.1,a0.2.2.2.2.1,a0.2.2.2.2.2.1,()),a2,())
  else
   bif decide (y1.2.2.2.2.2.2.2.2.2.1<a0.1.2.2.2.1) then
    some (1,(a0.1,a0.2.1,a0.2.2.1,a0.2.2.2.1,a0.2.2.2.2.1,a0.2.2.2.2.2.1,()),a2,())
   else
    some (0,(a0.1,a0.2.1,lq (k:=tI) (v:= .hnd) a0.2.2.1 y1.2.2.2.2.1 (some (a2.length)),a0.2.2.2.1,a0.2.2.2.2.1,a0.2.2.2.2.2.1,()),a2++[(y1.2.2.2.2.1,y1.2.2.2.2.2.1,y1.2.2.2.2.2.2.2.1,0,0,0,0,y1.2.2.2.2.2.2.2.2.1,y1.2.2.2.2.2.2.2.2.2.1,a1,0,0,0)],())
def lV (a0:aj×(List aa)×(List (Int×(Option Nat)))×(List ah)×(List ay)×Int×Unit) (a1:Option Nat) (a2:Int) (a3:List aP):Option (Int×(aj×(List aa)×(List (Int×(Option Nat)))×(List ah)×(List ay)×Int×Unit)×(List aP)×Unit):=
 (idx a0.2.1 a2).bind fun y1=>
 (
  bif y1.2.2.2.1==3 then
   some (decide (y1.2.2.2.2.2.2.2.2.2.1<a0.1.2.2.2.1),())
  else
   some (false,())).bind fun v2=>
 bif v2.1 then
  some (1,(a0.1,a0.2.1,a0.2.2.1,a0.2.2.2.1,a0.2.2.2.2.1,a0.2.2.2.2.2.1,()),a3,())
 else
  (a1).bind fun h3=>
  (a3[h3]?).bind fun y4=>
  bif decide (y4.2.2.2.2.2.2.2.2.2.1>=0) then
   some (11,(a0.1,a0.2.1,a0.2.2.1,a0.2.2.2.1,a0.2.2.2.2.1,a0.2.2.2.2.2.1,()),a3,())
  else
   (a1).bind fun h5=>
   (a3[h5]?).bind fun y6=>
   some (0,(a0.1,a0.2.1,a0.2.2.1,a0.2.2.2.1,a0.2.2.2.2.1,a0.2.2.2.2.2.1,()),List.set a3 h5 (y6.1,y6.2.1,y6.2.2.1,y6.2.2.2.1,y6.2.2.2.2.1,y6.2.2.2.2.2.1,y6.2.2.2.2.2.2.1,y6.2.2.2.2.2.2.2.1,y6.2.2.2.2.2.2.2.2.1,a2,y6.2.2.2.2.2.2.2.2.2.2),())
def jG (a0:aj×(List aa)×(List (Int×(Option Nat)))×(List ah)×(List ay)×Int×Unit) (a1:Option Nat) (a2:aa) (a3:List aP):Option (Int×(aj×(List aa)×(List (Int×(Option Nat)))×(List ah)×(List ay)×Int×Unit)×(List aP)×Unit):=
 (a1).bind fun h1=>
 (a3[h1]?).bind fun y2=>
 bif decide (y2.2.2.2.2.2.2.2.2.2.1<0) then
  some (5,(a0.1,a0.2.1,a0.2.2.1,a0.2.2.2.1,a0.2.2.2.2.1,a0.2.2.2.2.2.1,()),a3,())
 else
  (a1).bind fun h3=>
  (a3[h3]?).bind fun y4=>
  (idx a0.2.1 y4.2.2.2.2.2.2.2.2.2.1).bind fun y5=>
  bif y5.2.2.1 != a2.2.2.2.2.2.2.2.2.2.2 then
   some (5,(a0.1,a0.2.1,a0.2.2.1,a0.2.2.2.1,a0.2.2.2.2.1,a0.2.2.2.2.2.1,()),a3,())
  else
   (a1).bind fun h6=>
   (a3[h6]?).bind fun y7=>
   (idx a0.2.1 y7.2.2.2.2.2.2.2.2.2.1).bind fun y8=>
   bif a2.2.2.2.1==5 then
    bif y8.2.2.2.1==2 then
     (gx y8.2.2.2.2.2.2.1).bind fun r9=>
     (a1).bind fun h10=>
     (a3[h10]?).bind fun y11=>
     (a1).bind fun h12=>
     (a3[h12]?).bind fun y13=>
     bif decide (r9.1<(w64 (y11.2.2.2.2.1 - y13.2.2.2.2.2.2.1))) then
      some (12,(a0.1,a0.2.1,a0.2.2.1,a0.2.2.2.1,a0.2.2.2.2.1,a0.2.2.2.2.2.1,()),a3,())
     else
      (gx y8.2.2.2.2.2.2.1).bind fun r14=>
      (a1).bind fun h15=>
      (a3[h15]?).bind fun y16=>
      (a1).bind fun h17=>
      ((List.set a3 h15 (y16.1,y16.2.1,y16.2.2.1,r14.1,y16.2.2.2.2))[h17]?).bind fun y18=>
      some (0,(a0.1,a0.2.1,a0.2.2.1,a0.2.2.2.1,a0.2.2.2.2.1,a0.2.2.2.2.2.1,()),List.set (List.set a3 h15 (y16.1,y16.2.1,y16.2.2.1,r14.1,y16.2.2.2.2)) h17 (y18.1,y18.2.1,y18.2.2.1,y18.2.2.2.1,y18.2.2.2.2.1,y18.2.2.2.2.2.1,y18.2.2.2.2.2.2.1,y18.2.2.2.2.2.2.2.1,y18.2.2.2.2.2.2.2.2.1,(-1),y18.2.2.2.2.2.2.2.2.2.2),())
    else
     bif y8.2.2.2.1==1 then
      (gx y8.2.2.2.2.2.2.1).bind fun r19=>
      (a1).bind fun h20=>
      (a3[h20]?).bind fun y21=>
      (a1).bind fun h22=>
      ((List.set a3 h20 (y21.1,y21.2.1,y21.2.2.1,r19.1,y21.2.2.2.2))[h22]?).bind fun y23=>
      some (0,(a0.1,a0.2.1,a0.2.2.1,a0.2.2.2.1,a0.2.2.2.2.1,a0.2.2.2.2.2.1,()),List.set (List.set a3 h20 (y21.1,y21.2.1,y21.2.2.1,r19.1,y21.2.2.2.2)) h22 (y23.1,y23.2.1,y23.2.2.1,y23.2.2.2.1,y23.2.2.2.2.1,y23.2.2.2.2.2.1,y23.2.2.2.2.2.2.1,y23.2.2.2.2.2.2.2.1,y23.2.2.2.2.2.2.2.2.1,(-1),y23.2.2.2.2.2.2.2.2.2.2),())
     else
      bif y8.2.2.2.1==3 then
       (a1).bind fun h24=>
       (a3[h24]?).bind fun y25=>
       (a1).bind fun h26=>
       ((List.set a3 h24 (y25.1,y25.2.1,y25.2.2.1,y25.2.2.2.1,y25.2.2.2.2.1,y25.2.2.2.2.2.1,y25.2.2.2.2.2.2.1,y25.2.2.2.2.2.2.2.1,y8.2.2.2.2.2.2.2.2.2.1,y25.2.2.2.2.2.2.2.2.2))[h26]?).bind fun y27=>
       some (0,(a0.1,a0.2.1,a0.2.2.1,a0.2.2.2.1,a0.2.2.2.2.1,a0.2.2.2.2.2.1,()),List.set (List.set a3 h24 (y25.1,y25.2.1,y25.2.2.1,y25.2.2.2.1,y25.2.2.2.2.1,y25.2.2.2.2.2.1,y25.2.2.2.2.2.2.1,y25.2.2.2.2.2.2.2.1,y8.2.2.2.2.2.2.2.2.2.1,y25.2.2.2.2.2.2.2.2.2)) h26 (y27.1,y27.2.1,y27.2.2.1,y27.2.2.2.1,y27.2.2.2.2.1,y27.2.2.2.2.2.1,y27.2.2.2.2.2.2.1,y27.2.2.2.2.2.2.2.1,y27.2.2.2.2.2.2.2.2.1,(-1),y27.2.2.2.2.2.2.2.2.2.2),())
      else
       (a1).bind fun h28=>
       (a3[h28]?).bind fun y29=>
       (a1).bind fun h30=>
       ((List.set a3 h28 (y29.1,y29.2.1,y29.2.2.1,y29.2.2.2.1,y29.2.2.2.2.1,y29.2.2.2.2.2.1,y29.2.2.2.2.2.2.1,y8.2.2.2.2.2.2.2.2.1,y29.2.2.2.2.2.2.2.2))[h30]?).bind fun y31=>
       some (0,(a0.1,a0.2.1,a0.2.2.1,a0.2.2.2.1,a0.2.2.2.2.1,a0.2.2.2.2.2.1,()),List.set (List.set a3 h28 (y29.1,y29.2.1,y29.2.2.1,y29.2.2.2.1,y29.2.2.2.2.1,y29.2.2.2.2.2.1,y29.2.2.2.2.2.2.1,y8.2.2.2.2.2.2.2.2.1,y29.2.2.2.2.2.2.2.2)) h30 (y31.1,y31.2.1,y31.2.2.1,y31.2.2.2.1,y31.2.2.2.2.1,y31.2.2.2.2.2.1,y31.2.2.2.2.2.2.1,y31.2.2.2.2.2.2.2.1,y31.2.2.2.2.2.2.2.2.1,(-1),y31.2.2.2.2.2.2.2.2.2.2),())
   else
    (a1).bind fun h32=>
    (a3[h32]?).bind fun y33=>
    some (0,(a0.1,a0.2.1,a0.2.2.1,a0.2.2.2.1,a0.2.2.2.2.1,a0.2.2.2.2.2.1,()),List.set a3 h32 (y33.1,y33.2.1,y33.2.2.1,y33.2.2.2.1,y33.2.2.2.2.1,y33.2.2.2.2.2.1,y33.2.2.2.2.2.2.1,y33.2.2.2.2.2.2.2.1,y33.2.2.2.2.2.2.2.2.1,(-1),y33.2.2.2.2.2.2.2.2.2.2),())
def jK (a0:Option Nat) (a1:List aP):Option (Int×Unit):=
 (a0).bind fun h1=>
 (a1[h1]?).bind fun y2=>
 (a0).bind fun h3=>
 (a1[h3]?).bind fun y4=>
 (a0).bind fun h5=>
 (a1[h5]?).bind fun y6=>
 some (if (w64 ((w64 (y2.2.2.2.1 - y4.2.2.2.2.1))+y6.2.2.2.2.2.2.1))>0 then (w64 ((w64 (y2.2.2.2.1 - y4.2.2.2.2.1))+y6.2.2.2.2.2.2.1)) else 0,())
def ji (a0:aj×(List aa)×(List (Int×(Option Nat)))×(List ah)×(List ay)×Int×Unit) (a1:Option Nat) (a2:aa) (a3:List aP):Option (Int×(aj×(List aa)×(List (Int×(Option Nat)))×(List ah)×(List ay)×Int×Unit)×(List aP)×Unit):=
 bif decide (a2.2.2.2.2.2.2.2.2.2.1<a0.1.2.2.2.1) then
  some (1,(a0.1,a0.2.1,a0.2.2.1,a0.2.2.2.1,a0.2.2.2.2.1,a0.2.2.2.2.2.1,()),a3,())
 else
  (a1).bind fun h1=>
  (a3[h1]?).bind fun y2=>
  bif decide (y2.2.2.2.2.2.2.2.2.2.1>=0) then
   some (11,(a0.1,a0.2.1,a0.2.2.1,a0.2.2.2.1,a0.2.2.2.2.1,a0.2.2.2.2.2.1,()),a3,())
  else
   (jK a1 a3).bind fun r3=>
   bif r3.1==0 then
    some (11,(a0.1,a0.2.1,a0.2.2.1,a0.2.2.2.1,a0.2.2.2.2.1,a0.2.2.2.2.2.1,()),a3,())
   else
    (gx a2.2.2.2.2.2.2.1).bind fun r4=>
    (jK a1 a3).bind fun r5=>
    bif decide (r4.1>r5.1) then
     some (12,(a0.1,a0.2.1,a0.2.2.1,a0.2.2.2.1,a0.2.2.2.2.1,a0.2.2.2.2.2.1,()),a3,())
    else
     some (0,(a0.1,a0.2.1,a0.2.2.1,a0.2.2.2.1,a0.2.2.2.2.1,a0.2.2.2.2.2.1,()),a3,())
def lU (a0:aj×(List aa)×(List (Int×(Option Nat)))×(List ah)×(List ay)×Int×Unit) (a1:Option Nat) (a2:aa) (a3:List aP):Option (Int×(aj×(List aa)×(List (Int×(Option Nat)))×(List ah)×(List ay)×Int×Unit)×(List aP)×Unit):=
 (a1).bind fun h1=>
 (a3[h1]?).bind fun y2=>
 bif decide (y2.2.2.2.2.2.2.2.2.2.1>=0) then
  some (11,(a0.1,a0.2.1,a0.2.2.1,a0.2.2.2.1,a0.2.2.2.2.1,a0.2.2.2.2.2.1,()),a3,())
 else
  (a1).bind fun h3=>
  (a3[h3]?).bind fun y4=>
  bif y4.2.2.2.2.2.2.2.2.2.2.1==0 then
   some (5,(a0.1,a0.2.1,a0.2.2.1,a0.2.2.2.1,a0.2.2.2.2.1,a0.2.2.2.2.2.1,()),a3,())
  else
   (a1).bind fun h5=>
   (a3[h5]?).bind fun y6=>
   bif y6.2.2.2.2.2.2.2.2.2.2.1 != a2.2.2.2.2.2.2.2.2.2.2 then
    some (5,(a0.1,a0.2.1,a0.2.2.1,a0.2.2.2.1,a0.2.2.2.2.1,a0.2.2.2.2.2.1,()),a3,())
   else
    (a1).bind fun h7=>
    (a3[h7]?).bind fun y8=>
    (a1).bind fun h9=>
    (a3[h9]?).bind fun y10=>
    (a1).bind fun h11=>
    (a3[h11]?).bind fun y12=>
    (a1).bind fun h13=>
    (a3[h13]?).bind fun y14=>
    (a1).bind fun h15=>
    (a3[h15]?).bind fun y16=>
    (a1).bind fun h17=>
    ((List.set a3 h15 (y16.1,y16.2.1,y16.2.2.1,w64 ((w64 (y8.2.2.2.2.1 - y10.2.2.2.2.2.2.1))+y12.2.2.2.2.2.2.2.2.2.2.2.1),y16.2.2.2.2))[h17]?).bind fun y18=>
    (a1).bind fun h19=>
    ((List.set (List.set a3 h15 (y16.1,y16.2.1,y16.2.2.1,w64 ((w64 (y8.2.2.2.2.1 - y10.2.2.2.2.2.2.1))+y12.2.2.2.2.2.2.2.2.2.2.2.1),y16.2.2.2.2)) h17 (y18.1,y18.2.1,y18.2.2.1,y18.2.2.2.1,y18.2.2.2.2.1,y18.2.2.2.2.2.1,y18.2.2.2.2.2.2.1,y18.2.2.2.2.2.2.2.1,y14.2.2.2.2.2.2.2.2.2.2.2.2,y18.2.2.2.2.2.2.2.2.2))[h19]?).bind fun y20=>
    some (0,(a0.1,a0.2.1,a0.2.2.1,a0.2.2.2.1,a0.2.2.2.2.1,a0.2.2.2.2.2.1,()),List.set (List.set (List.set a3 h15 (y16.1,y16.2.1,y16.2.2.1,w64 ((w64 (y8.2.2.2.2.1 - y10.2.2.2.2.2.2.1))+y12.2.2.2.2.2.2.2.2.2.2.2.1),y16.2.2.2.2)) h17 (y18.1,y18.2.1,y18.2.2.1,y18.2.2.2.1,y18.2.2.2.2.1,y18.2.2.2.2.2.1,y18.2.2.2.2.2.2.1,y18.2.2.2.2.2.2.2.1,y14.2.2.2.2.2.2.2.2.2.2.2.2,y18.2.2.2.2.2.2.2.2.2)) h19 (y20.1,y20.2.1,y20.2.2.1,y20.2.2.2.1,y20.2.2.2.2.1,y20.2.2.2.2.2.1,y20.2.2.2.2.2.2.1,y20.2.2.2.2.2.2.2.1,y20.2.2.2.2.2.2.2.2.1,y20.2.2.2.2.2.2.2.2.2.1,0,0,0),())
def lT (a0:aj×(List aa)×(List (Int×(Option Nat)))×(List ah)×(List ay)×Int×Unit) (a1:Option Nat) (a2:aa) (a3:List aP):Option (Int×(aj×(List aa)×(List (Int×(Option Nat)))×(List ah)×(List ay)×Int×Unit)×(List aP)×Unit):=
 (gx a2.2.2.2.2.2.2.1).bind fun r1=>
 bif a2.2.2.2.1==9 then
  (a1).bind fun h2=>
  (a3[h2]?).bind fun y3=>
  (a1).bind fun h4=>
  (a3[h4]?).bind fun y5=>
  (a1).bind fun h6=>
  (a3[h6]?).bind fun y7=>
  (a1).bind fun h8=>
  (a3[h8]?).bind fun y9=>
  let n10:Int:=w64 (y7.2.2.2.1+(w64 (Int.tdiv (w64 (y9.2.2.2.1*a0.1.2.2.2.2.1)) 1000)))
  bif decide ((w64 ((w64 (y3.2.2.2.2.1 - y5.2.2.2.2.2.2.1))+r1.1))>n10) then
   some (12,(a0.1,a0.2.1,a0.2.2.1,a0.2.2.2.1,a0.2.2.2.2.1,a0.2.2.2.2.2.1,()),a3,())
  else
   (a1).bind fun h11=>
   (a3[h11]?).bind fun y12=>
   bif decide ((w64 (y12.2.2.2.2.1+r1.1))>1000000000000000) then
    some (16,(a0.1,a0.2.1,a0.2.2.1,a0.2.2.2.1,a0.2.2.2.2.1,a0.2.2.2.2.2.1,()),a3,())
   else
    (a1).bind fun h13=>
    (a3[h13]?).bind fun y14=>
    (a1).bind fun h15=>
    (a3[h15]?).bind fun y16=>
    some (0,(a0.1,a0.2.1,a0.2.2.1,a0.2.2.2.1,a0.2.2.2.2.1,a0.2.2.2.2.2.1,()),List.set a3 h15 (y16.1,y16.2.1,y16.2.2.1,y16.2.2.2.1,w64 (y14.2.2.2.2.1+r1.1),y16.2.2.2.2.2),())
 else
  bif a2.2.2.2.1==10 then
   (a1).bind fun h17=>
   (a3[h17]?).bind fun y18=>
   (a1).bind fun h19=>
   (a3[h19]?).bind fun y20=>
   bif decide ((w64 (y18.2.2.2.2.2.1+r1.1))>y20.2.2.2.2.1) then
    some (12,(a0.1,a0.2.1,a0.2.2.1,a0.2.2.2.1,a0.2.2.2.2.1,a0.2.2.2.2.2.1,()),a3,())
   else
    (a1).bind fun h21=>
    (a3[h21]?).bind fun y22=>
    (a1).bind fun h23=>
    (a3[h23]?).bind fun y24=>
    some (0,(a0.1,a0.2.1,a0.2.2.1,a0.2.2.2.1,a0.2.2.2.2.1,a0.2.2.2.2.2.1,()),List.set a3 h23 (y24.1,y24.2.1,y24.2.2.1,y24.2.2.2.1,y24.2.2.2.2.1,w64 (y22.2.2.2.2.2.1+r1.1),y24.2.2.2.2.2.2),())
  else
   (a1).bind fun h25=>
   (a3[h25]?).bind fun y26=>
   (a1).bind fun h27=>
   (a3[h27]?).bind fun y28=>
   bif decide ((w64 (y26.2.2.2.2.2.2.1+r1.1))>y28.2.2.2.2.2.1) then
    some (12,(a0.1,a0.2.1,a0.2.2.1,a0.2.2.2.1,a0.2.2.2.2.1,a0.2.2.2.2.2.1,()),a3,())
   else
    (a1).bind fun h29=>
    (a3[h29]?).bind fun y30=>
    (a1).bind fun h31=>
    (a3[h31]?).bind fun y32=>
    some (0,(a0.1,a0.2.1,a0.2.2.1,a0.2.2.2.1,a0.2.2.2.2.1,a0.2.2.2.2.2.1,()),List.set a3 h31 (y32.1,y32.2.1,y32.2.2.1,y32.2.2.2.1,y32.2.2.2.2.1,y32.2.2.2.2.2.1,w64 (y30.2.2.2.2.2.2.1+r1.1),y32.2.2.2.2.2.2.2),())
def aN (a0:aj×(List aa)×(List (Int×(Option Nat)))×(List ah)×(List ay)×Int×Unit) (a1:Int) (a2:List aP):Option (Int×(aj×(List aa)×(List (Int×(Option Nat)))×(List ah)×(List ay)×Int×Unit)×(List aP)×Unit):=
 (idx a0.2.1 a1).bind fun y1=>
 bif y1.2.2.2.1==1 then
  (mM (a0.1,a0.2.1,a0.2.2.1,a0.2.2.2.1,a0.2.2.2.2.1,a0.2.2.2.2.2.1,()) a1 a2).bind fun r2=>
  some (r2.1,(r2.2.1.1,r2.2.1.2.1,r2.2.1.2.2.1,r2.2.1.2.2.2.1,r2.2.1.2.2.2.2.1,r2.2.1.2.2.2.2.2.1,()),r2.2.2.1,())
 else
  bif Option.isNone (Option.getD (α:=Option Nat) (eH (k:=tI) (v:= .hnd) a0.2.2.1 y1.2.2.2.2.1) none) then
   some (9,(a0.1,a0.2.1,a0.2.2.1,a0.2.2.2.1,a0.2.2.2.2.1,a0.2.2.2.2.2.1,()),a2,())
  else
   aC (γ:=(Int×(Option Nat)×Int×Bool×Int×Int×Int×Int×Int×Bys×Int×Int×Bys×Int×Int×Int×Int×Bys×Bys×Bys×Int×Int×(List ai)×(List aa)×Int×(List ah)×(List ay)×(List (Int×(Option Nat)))×(List aP)×Unit)) (
    bif y1.2.2.2.1==2 then
     some (.inr (a1,Option.getD (α:=Option Nat) (eH (k:=tI) (v:= .hnd) a0.2.2.1 y1.2.2.2.2.1) none,y1.2.2.2.1,y1.2.2.2.1==2,y1.1,y1.2.1,y1.2.2.1,y1.2.2.2.1,y1.2.2.2.2.1,y1.2.2.2.2.2.1,y1.2.2.2.2.2.2.1.1,y1.2.2.2.2.2.2.1.2,y1.2.2.2.2.2.2.2.1,y1.2.2.2.2.2.2.2.2.1.1,y1.2.2.2.2.2.2.2.2.1.2,y1.2.2.2.2.2.2.2.2.2.1,y1.2.2.2.2.2.2.2.2.2.2,a0.1.1,a0.1.2.1,a0.1.2.2.1,a0.1.2.2.2.1,a0.1.2.2.2.2.1,a0.1.2.2.2.2.2,a0.2.1,a0.2.2.2.2.2.1,a0.2.2.2.1,a0.2.2.2.2.1,a0.2.2.1,a2,()))
    else
     bif y1.2.2.2.1==3 then
      some (.inr (a1,Option.getD (α:=Option Nat) (eH (k:=tI) (v:= .hnd) a0.2.2.1 y1.2.2.2.2.1) none,y1.2.2.2.1,y1.2.2.2.1==3,y1.1,y1.2.1,y1.2.2.1,y1.2.2.2.1,y1.2.2.2.2.1,y1.2.2.2.2.2.1,y1.2.2.2.2.2.2.1.1,y1.2.2.2.2.2.2.1.2,y1.2.2.2.2.2.2.2.1,y1.2.2.2.2.2.2.2.2.1.1,y1.2.2.2.2.2.2.2.2.1.2,y1.2.2.2.2.2.2.2.2.2.1,y1.2.2.2.2.2.2.2.2.2.2,a0.1.1,a0.1.2.1,a0.1.2.2.1,a0.1.2.2.2.1,a0.1.2.2.2.2.1,a0.1.2.2.2.2.2,a0.2.1,a0.2.2.2.2.2.1,a0.2.2.2.1,a0.2.2.2.2.1,a0.2.2.1,a2,()))
     else
      some (.inr (a1,Option.getD (α:=Option Nat) (eH (k:=tI) (v:= .hnd) a0.2.2.1 y1.2.2.2.2.1) none,y1.2.2.2.1,y1.2.2.2.1==4,y1.1,y1.2.1,y1.2.2.1,y1.2.2.2.1,y1.2.2.2.2.1,y1.2.2.2.2.2.1,y1.2.2.2.2.2.2.1.1,y1.2.2.2.2.2.2.1.2,y1.2.2.2.2.2.2.2.1,y1.2.2.2.2.2.2.2.2.1.1,y1.2.2.2.2.2.2.2.2.1.2,y1.2.2.2.2.2.2.2.2.2.1,y1.2.2.2.2.2.2.2.2.2.2,a0.1.1,a0.1.2.1,a0.1.2.2.1,a0.1.2.2.2.1,a0.1.2.2.2.2.1,a0.1.2.2.2.2.2,a0.2.1,a0.2.2.2.2.2.1,a0.2.2.2.1,a0.2.2.2.2.1,a0.2.2.1,a2,()))) fun (A,B,C,D,E,F,G,H,I,J,K,L,M,N,O,P,Q,R,S,T,U,V,W,X,Y,Z,A0,B0,C0,_)=>
   bif D then
    (lV ((R,S,T,U,V,W),X,B0,Z,A0,Y,()) B A C0).bind fun r4=>
    some (r4.1,(r4.2.1.1,r4.2.1.2.1,r4.2.1.2.2.1,r4.2.1.2.2.2.1,r4.2.1.2.2.2.2.1,r4.2.1.2.2.2.2.2.1,()),r4.2.2.1,())
   else
    aC (γ:=((Option Nat)×Int×Bool×Int×Int×Int×Int×Int×Bys×Int×Int×Bys×Int×Int×Int×Int×Bys×Bys×Bys×Int×Int×(List ai)×(List aa)×Int×(List ah)×(List ay)×(List (Int×(Option Nat)))×(List aP)×Unit)) (
     bif C==5 then
      some (.inr (B,C,C==5,E,F,G,H,I,J,K,L,M,N,O,P,Q,R,S,T,U,V,W,X,Y,Z,A0,B0,C0,()))
     else
      some (.inr (B,C,C==6,E,F,G,H,I,J,K,L,M,N,O,P,Q,R,S,T,U,V,W,X,Y,Z,A0,B0,C0,()))) fun (D0,E0,F0,G0,H0,I0,J0,K0,L0,M0,N0,O0,P0,Q0,R0,S0,T0,U0,V0,W0,X0,Y0,Z0,A1,B1,C1,D1,E1,_)=>
    aC (γ:=((Option Nat)×Int×Int×Int×Int×Int×Int×Bys×Int×Int×Bys×Int×Int×Int×Int×Bys×Bys×Bys×Int×Int×(List ai)×(List aa)×(List (Int×(Option Nat)))×(List ah)×(List ay)×Int×(List aP)×Unit)) (
     bif F0 then
      (jG ((T0,U0,V0,W0,X0,Y0),Z0,D1,B1,C1,A1,()) D0 (G0,H0,I0,J0,K0,L0,(M0,N0),O0,(P0,Q0),R0,S0) E1).bind fun r6=>
      some (.inr (D0,r6.1,G0,H0,I0,J0,K0,L0,M0,N0,O0,P0,Q0,R0,S0,r6.2.1.1.1,r6.2.1.1.2.1,r6.2.1.1.2.2.1,r6.2.1.1.2.2.2.1,r6.2.1.1.2.2.2.2.1,r6.2.1.1.2.2.2.2.2,r6.2.1.2.1,r6.2.1.2.2.1,r6.2.1.2.2.2.1,r6.2.1.2.2.2.2.1,r6.2.1.2.2.2.2.2.1,r6.2.2.1,()))
     else
      bif E0==7 then
       (ji ((T0,U0,V0,W0,X0,Y0),Z0,D1,B1,C1,A1,()) D0 (G0,H0,I0,J0,K0,L0,(M0,N0),O0,(P0,Q0),R0,S0) E1).bind fun r7=>
       some (.inr (D0,r7.1,G0,H0,I0,J0,K0,L0,M0,N0,O0,P0,Q0,R0,S0,r7.2.1.1.1,r7.2.1.1.2.1,r7.2.1.1.2.2.1,r7.2.1.1.2.2.2.1,r7.2.1.1.2.2.2.2.1,r7.2.1.1.2.2.2.2.2,r7.2.1.2.1,r7.2.1.2.2.1,r7.2.1.2.2.2.1,r7.2.1.2.2.2.2.1,r7.2.1.2.2.2.2.2.1,r7.2.2.1,()))
      else
       bif E0==8 then
        (lU ((T0,U0,V0,W0,X0,Y0),Z0,D1,B1,C1,A1,()) D0 (G0,H0,I0,J0,K0,L0,(M0,N0),O0,(P0,Q0),R0,S0) E1).bind fun r8=>
        some (.inl (r8.1,(r8.2.1.1,r8.2.1.2.1,r8.2.1.2.2.1,r8.2.1.2.2.2.1,r8.2.1.2.2.2.2.1,r8.2.1.2.2.2.2.2.1,()),r8.2.2.1,()))
       else
        (lT ((T0,U0,V0,W0,X0,Y0),Z0,D1,B1,C1,A1,()) D0 (G0,H0,I0,J0,K0,L0,(M0,N0),O0,(P0,Q0),R0,S0) E1).bind fun r9=>
        some (.inr (D0,r9.1,G0,H0,I0,J0,K0,L0,M0,N0,O0,P0,Q0,R0,S0,r9.2.1.1.1,r9.2.1.1.2.1,r9.2.1.1.2.2.1,r9.2.1.1.2.2.2.1,r9.2.1.1.2.2.2.2.1,r9.2.1.1.2.2.2.2.2,r9.2.1.2.1,r9.2.1.2.2.1,r9.2.1.2.2.2.1,r9.2.1.2.2.2.2.1,r9.2.1.2.2.2.2.2.1,r9.2.2.1,()))) fun (F1,G1,_,_,H1,I1,_,_,J1,K1,_,_,_,L1,_,M1,N1,O1,P1,Q1,R1,S1,T1,U1,V1,W1,X1,_)=>
    (
     bif G1==0 then
      Option.bind (mN I1) fun r11=>
      some (r11.1,())
     else
      some (false,())).bind fun v12=>
    bif v12.1 then
     (F1).bind fun h13=>
     (X1[h13]?).bind fun y14=>
     bif I1==7 then
      (gx (J1,K1)).bind fun r15=>
      (F1).bind fun h16=>
      ((List.set X1 h13 (y14.1,y14.2.1,y14.2.2.1,y14.2.2.2.1,y14.2.2.2.2.1,y14.2.2.2.2.2.1,y14.2.2.2.2.2.2.1,y14.2.2.2.2.2.2.2.1,y14.2.2.2.2.2.2.2.2.1,y14.2.2.2.2.2.2.2.2.2.1,0,0,0))[h16]?).bind fun y17=>
      some (G1,((M1,N1,O1,P1,Q1,R1),S1,T1,U1,V1,W1,()),List.set (List.set X1 h13 (y14.1,y14.2.1,y14.2.2.1,y14.2.2.2.1,y14.2.2.2.2.1,y14.2.2.2.2.2.1,y14.2.2.2.2.2.2.1,y14.2.2.2.2.2.2.2.1,y14.2.2.2.2.2.2.2.2.1,y14.2.2.2.2.2.2.2.2.2.1,0,0,0)) h16 (y17.1,y17.2.1,y17.2.2.1,y17.2.2.2.1,y17.2.2.2.2.1,y17.2.2.2.2.2.1,y17.2.2.2.2.2.2.1,y17.2.2.2.2.2.2.2.1,y17.2.2.2.2.2.2.2.2.1,y17.2.2.2.2.2.2.2.2.2.1,H1,r15.1,L1),())
     else
      some (G1,((M1,N1,O1,P1,Q1,R1),S1,T1,U1,V1,W1,()),List.set X1 h13 (y14.1,y14.2.1,y14.2.2.1,y14.2.2.2.1,y14.2.2.2.2.1,y14.2.2.2.2.2.1,y14.2.2.2.2.2.2.1,y14.2.2.2.2.2.2.2.1,y14.2.2.2.2.2.2.2.2.1,y14.2.2.2.2.2.2.2.2.2.1,0,0,0),())
    else
     some (G1,((M1,N1,O1,P1,Q1,R1),S1,T1,U1,V1,W1,()),X1,())
def mO (a0:Int):Option (ah×Unit):=
 (sA a0).bind fun r1=>
 (um r1.1 3).bind fun r2=>
 some (r2.1,())
abbrev qD:Type:=Int×Int×Int×Int×Unit
abbrev qC:Type:=((ah×Unit) ⊕ (Int×Int×Int×Int×Unit))
def qB (x1:qD) (again:qD->Option qC):Option qC:=
 (
  bif decide (x1.2.1>0) then
   some ((Int.tmod x1.1 10)==0,())
  else
   some (false,())).bind fun v2=>
 bif v2.1 then
  again (w64 (Int.tdiv x1.1 10),w64 (x1.2.1 - 1),x1.2.2.1,x1.2.2.2.1,())
 else
  some (.inr (x1.1,x1.2.1,x1.2.2.1,x1.2.2.2.1,()))
def nT (a0:ah):Option (ah×Unit):=
 aC (
  iter (X:=qD) (β:=qC) (a0.1.natAbs+(a0.2.natAbs+(Int.natAbs (0:Int)+(Int.natAbs (0:Int)+2)))) (a0.1,a0.2,0,0,()) (qB)) fun v3=>
 some ((v3.1,v3.2.1),())
def ja (a0:Option Nat) (a1:List aP):Option (dD×Unit):=
 (a0).bind fun h1=>
 (a1[h1]?).bind fun y2=>
 (a0).bind fun h3=>
 (a1[h3]?).bind fun y4=>
 (a0).bind fun h5=>
 (a1[h5]?).bind fun y6=>
 (a0).bind fun h7=>
 (a1[h7]?).bind fun y8=>
 (mO y8.2.2.2.1).bind fun r9=>
 (a0).bind fun h10=>
 (a1[h10]?).bind fun y11=>
 (nT y11.2.2.2.2.2.2.2.1).bind fun r12=>
 (a0).bind fun h13=>
 (a1[h13]?).bind fun y14=>
 (a0).bind fun h15=>
 (a1[h15]?).bind fun y16=>
 (mO y16.2.2.2.2.1).bind fun r17=>
 (a0).bind fun h18=>
 (a1[h18]?).bind fun y19=>
 (mO y19.2.2.2.2.2.1).bind fun r20=>
 (a0).bind fun h21=>
 (a1[h21]?).bind fun y22=>
 (mO y22.2.2.2.2.2.2.1).bind fun r23=>
 (jK a0 a1).bind fun r24=>
 (mO r24.1).bind fun r25=>
 some ((y2.1,y4.2.1,y6.2.2.1,r9.1,r12.1,y14.2.2.2.2.2.2.2.2.1,r17.1,r20.1,r23.1,r25.1),())
abbrev jI:Type:=Int×(List aa)×Int×Int×Bys×Bys×Bys×Int×Int×(List ai)×(List aa)×(List (Int×(Option Nat)))×(List ah)×(List ay)×Int×(List aP)×Unit
abbrev jH:Type:=(((aj×(List aa)×(List (Int×(Option Nat)))×(List ah)×(List ay)×Int×Unit)×(List aP)×Unit) ⊕ (Bys×Bys×Bys×Int×Int×(List ai)×(List aa)×(List (Int×(Option Nat)))×(List ah)×(List ay)×Int×(List aP)×Unit))
def gT (x1:jI) (again:jI->Option jH):Option jH:=
 match x1 with
 | (A,B,C,D,E,F,G,H,I,J,K,L,M,N,O,P,_)=>
 bif decide (D<C) then
  (idx B D).bind fun y2=>
  bif decide (y2.1>A) then
   some (.inr (E,F,G,H,I,J,K,L,M,N,O,P,()))
  else
   (aN ((E,F,G,H,I,J),K,L,M,N,O,()) D P).bind fun r3=>
   bif r3.1 != 0 then
    chk (decide (((r3.2.1.2.2.2.1.length)+1)*16<=140737488355328)&&decide ((r3.2.1.2.2.2.1.length)+1<=maxLen)) <|
    again (A,B,C,w64 (D+1),r3.2.1.1.1,r3.2.1.1.2.1,r3.2.1.1.2.2.1,r3.2.1.1.2.2.2.1,r3.2.1.1.2.2.2.2.1,r3.2.1.1.2.2.2.2.2,r3.2.1.2.1,r3.2.1.2.2.1,r3.2.1.2.2.2.1++[(D,r3.1)],r3.2.1.2.2.2.2.1,r3.2.1.2.2.2.2.2.1,r3.2.2.1,())
   else
    bif y2.2.2.2.2.1==r3.2.1.2.2.2.2.2.1 then
     (ja (Option.getD (α:=Option Nat) (eH (k:=tI) (v:= .hnd) r3.2.1.2.2.1 y2.2.2.2.2.1) none) r3.2.2.1).bind fun r4=>
     chk (decide (((r3.2.1.2.2.2.2.1.length)+1)*152<=140737488355328)&&decide ((r3.2.1.2.2.2.2.1.length)+1<=maxLen)) <|
     again (A,B,C,w64 (D+1),r3.2.1.1.1,r3.2.1.1.2.1,r3.2.1.1.2.2.1,r3.2.1.1.2.2.2.1,r3.2.1.1.2.2.2.2.1,r3.2.1.1.2.2.2.2.2,r3.2.1.2.1,r3.2.1.2.2.1,r3.2.1.2.2.2.1,r3.2.1.2.2.2.2.1++[(D,r4.1)],r3.2.1.2.2.2.2.2.1,r3.2.2.1,())
    else
     again (A,B,C,w64 (D+1),r3.2.1.1.1,r3.2.1.1.2.1,r3.2.1.1.2.2.1,r3.2.1.1.2.2.2.1,r3.2.1.1.2.2.2.2.1,r3.2.1.1.2.2.2.2.2,r3.2.1.2.1,r3.2.1.2.2.1,r3.2.1.2.2.2.1,r3.2.1.2.2.2.2.1,r3.2.1.2.2.2.2.2.1,r3.2.2.1,())
 else
  some (.inr (E,F,G,H,I,J,K,L,M,N,O,P,()))
def fI (a0:aj×(List aa)×(List (Int×(Option Nat)))×(List ah)×(List ay)×Int×Unit) (a1:Int) (a2:List aP):Option ((aj×(List aa)×(List (Int×(Option Nat)))×(List ah)×(List ay)×Int×Unit)×(List aP)×Unit):=
 aC (
  iter (X:=jI) (β:=jH) (a1.natAbs+(a0.2.1.length+(Int.natAbs ((a0.2.1.length:Int))+(Int.natAbs (0:Int)+(a0.1.1.length+(a0.1.2.1.length+(a0.1.2.2.1.length+(a0.1.2.2.2.1.natAbs+(a0.1.2.2.2.2.1.natAbs+(a0.1.2.2.2.2.2.length+(a0.2.1.length+(a0.2.2.1.length+(a0.2.2.2.1.length+(a0.2.2.2.2.1.length+(a0.2.2.2.2.2.1.natAbs+(a2.length+2)))))))))))))))) (a1,a0.2.1,(a0.2.1.length:Int),0,a0.1.1,a0.1.2.1,a0.1.2.2.1,a0.1.2.2.2.1,a0.1.2.2.2.2.1,a0.1.2.2.2.2.2,a0.2.1,a0.2.2.1,a0.2.2.2.1,a0.2.2.2.2.1,a0.2.2.2.2.2.1,a2,()) (gT)) fun (A,B,C,D,E,F,G,H,I,J,K,L,_)=>
 some (((A,B,C,D,E,F),G,H,I,J,K,()),L,())
def uz (a0:aj) (a1:List aa) (a2:Int):Option ((List ay)×Int×Unit):=
 (me a0 a1).bind fun r1=>
 bif r1.1 != 0 then
  some ([],r1.1,())
 else
  (dR a2 1 99999).bind fun r2=>
  bif r2.1 then
   some ([],1,())
  else
   (fZ a0 a1 []).bind fun r3=>
   (fI (r3.1.1,r3.1.2.1,r3.1.2.2.1,r3.1.2.2.2.1,r3.1.2.2.2.2.1,a2,()) 3652059 r3.2.1).bind fun r4=>
   some (r4.1.2.2.2.2.1,0,())
def mJ (a0:Bys) (a1:Bys):Option (Bool×Unit):=
 bif decide (((a0.length:Int))>=((a1.length:Int))) then
  chk (decide (0<=(w64 (((a0.length:Int)) - ((a1.length:Int)))))&&decide ((w64 (((a0.length:Int)) - ((a1.length:Int))))<=((a0.length:Int)))&&decide (((a0.length:Int))<=(a0.length:Int))) <|
  some ((List.drop (Int.toNat (w64 (((a0.length:Int)) - ((a1.length:Int))))) (List.take (Int.toNat ((a0.length:Int))) a0))==a1,())
 else
  some (false,())
def mH (a0:Bys) (a1:Bys):Option (Bys×Bool×Unit):=
 (mJ a0 a1).bind fun r1=>
 bif !r1.1 then
  some (a0,false,())
 else
  chk (decide (0<=(0:Int))&&decide ((0:Int)<=(w64 (((a0.length:Int)) - ((a1.length:Int)))))&&decide ((w64 (((a0.length:Int)) - ((a1.length:Int))))<=(a0.length:Int))) <|
  some (List.drop 0 (List.take (Int.toNat (w64 (((a0.length:Int)) - ((a1.length:Int))))) a0),true,())
def Am (a0:Bys) (a1:Bys):Option (Bys×Bool×Unit):=
 (mH a0 a1).bind fun r1=>
 some (r1.1,r1.2.1,())
def Qx (a0:Bys):Option ((List Bys)×Bool×Unit):=
 bif a0==[] then
  some ([],true,())
 else
  (Am a0 [10]).bind fun r1=>
  (strings_Split r1.1 [10]).bind fun r2=>
  some (r2.1,r1.2.1,())
abbrev BJ:Type:=Int×Int×(List Bys)×Unit
abbrev BI:Type:=(((List Bys)×Bool×Unit) ⊕ ((List Bys)×Unit))
def TE (x1:BJ) (again:BJ->Option BI):Option BI:=
 match x1 with
 | (A,B,C,_)=>
 bif decide (B<A) then
  chk (decide (0<=B)&&decide (B<(C.length:Int))) <|
  (C[B.toNat]?).bind fun y2=>
  bif y2==[] then
   some (.inl ([],false,()))
  else
   again (A,w64 (B+1),C,())
 else
  some (.inr (C,()))
def Qy (a0:Bys):Option ((List Bys)×Bool×Unit):=
 (strings_Split a0 [32]).bind fun r1=>
 aC (
  iter (X:=BJ) (β:=BI) (Int.natAbs ((r1.1.length:Int))+(Int.natAbs (0:Int)+(r1.1.length+2))) ((r1.1.length:Int),0,r1.1,()) (TE)) fun v4=>
 some (v4.1,true,())
def jb (a0:(List Bys)×Bool×Unit):Option (Bys×((List Bys)×Bool×Unit)×Unit):=
 bif ((a0.1.length:Int))==0 then
  some ([],(a0.1,true,()),())
 else
  (idx a0.1 0).bind fun y1=>
  chk (decide (0<=(1:Int))&&decide ((1:Int)<=((a0.1.length:Int)))&&decide (((a0.1.length:Int))<=(a0.1.length:Int))) <|
  some (y1,(List.drop 1 (List.take (Int.toNat ((a0.1.length:Int))) a0.1),a0.2.1,()),())
def gU (a0:(List Bys)×Bool×Unit):Option (Int×((List Bys)×Bool×Unit)×Unit):=
 (jb (a0.1,a0.2.1,())).bind fun r1=>
 (AB r1.1 16).bind fun r2=>
 bif r1.2.1.2.1 then
  some (r2.1,(r1.2.1.1,true,()),())
 else
  some (r2.1,(r1.2.1.1, !r2.2.1,()),())
def GL:Option ((List Bys)×Unit):=
 some ([[],[98,117,121,101,114],[115,101,108,108,101,114]],())
def tu (a0:(List Bys)×Bool×Unit) (a1:List Bys):Option (Int×((List Bys)×Bool×Unit)×Unit):=
 (jb (a0.1,a0.2.1,())).bind fun r1=>
 (xI a1 r1.1).bind fun r2=>
 bif r1.2.1.2.1 then
  some (r2.1,(r1.2.1.1,true,()),())
 else
  some (r2.1,(r1.2.1.1,decide (r2.1<1),()),())
def CL:Option ((List Bys)×Unit):=
 some ([[],[97,100,100],[113,117,97,110,116,105,116,121],[100,117,101],[112,114,105,99,101],[121,101,115],[110,111],[111,102,102,101,114],[116,97,107,101],[115,104,105,112],[114,101,99,101,105,118,101],[114,101,116,117,114,110]],())
def mI (a0:Bys) (a1:Bys):Option (Bool×Unit):=
 bif decide (((a0.length:Int))>=((a1.length:Int))) then
  chk (decide (0<=(0:Int))&&decide ((0:Int)<=((a1.length:Int)))&&decide (((a1.length:Int))<=(a0.length:Int))) <|
  some ((List.drop 0 (List.take (Int.toNat ((a1.length:Int))) a0))==a1,())
 else
  some (false,())
def mG (a0:Bys) (a1:Bys):Option (Bys×Bool×Unit):=
 (mI a0 a1).bind fun r1=>
 bif !r1.1 then
  some (a0,false,())
 else
  chk (decide (0<=((a1.length:Int)))&&decide (((a1.length:Int))<=((a0.length:Int)))&&decide (((a0.length:Int))<=(a0.length:Int))) <|
  some (List.drop (Int.toNat ((a1.length:Int))) (List.take (Int.toNat ((a0.length:Int))) a0),true,())
def Al (a0:Bys) (a1:Bys):Option (Bys×Bool×Unit):=
 (mG a0 a1).bind fun r1=>
 some (r1.1,r1.2.1,())
def pQ (a0:Bys) (a1:Bys):Option (Int×Unit):=
 bif ((a1.length:Int))==0 then
  some (0,())
 else
  bif a1==a0 then
   some (0,())
  else
   bif ((a1.length:Int))==1 then
    (qv a1 0).bind fun c1=>
    (fq a0 (c1.toNat:Int)).bind fun r2=>
    some (r2.1,())
   else
    bif decide (((a1.length:Int))>=((a0.length:Int))) then
     some ((-1),())
    else
     none
def rj (a0:Bys) (a1:Bys):Option (Bys×Bys×Bool×Unit):=
 (pQ a0 a1).bind fun r1=>
 bif decide (r1.1>=0) then
  chk (decide (0<=(0:Int))&&decide ((0:Int)<=r1.1)&&decide (r1.1<=(a0.length:Int))) <|
  chk (decide (0<=(w64 (r1.1+((a1.length:Int)))))&&decide ((w64 (r1.1+((a1.length:Int))))<=((a0.length:Int)))&&decide (((a0.length:Int))<=(a0.length:Int))) <|
  some (List.drop 0 (List.take (Int.toNat r1.1) a0),List.drop (Int.toNat (w64 (r1.1+((a1.length:Int))))) (List.take (Int.toNat ((a0.length:Int))) a0),true,())
 else
  some (a0,[],false,())
def Ll (a0:Bys) (a1:Bys):Option (Bys×Bys×Bool×Unit):=
 (rj a0 a1).bind fun r1=>
 some (r1.1,r1.2.1,r1.2.2.1,())
def Ec (a0:Bys):Option (Bool×Unit):=
 (
  Option.bind (nZ a0) fun r1=>
  bif r1.1 then
   bif ((a0.length:Int))==1 then
    some (true,())
   else
    Option.bind (qv a0 0) fun c2=>
    some ((c2.toNat:Int) != 48,())
  else
   some (false,())).bind fun v3=>
 some (v3.1,())
abbrev xM:Type:=Bool×Bys×Bys×Int×Int×Int×Int×Bool×(List Int)×Unit
abbrev xL:Type:=((ah×Int×Unit) ⊕ (Bool×Bys×Int×Int×Bool×(List Int)×Unit))
def OL (x1:xM) (again:xM->Option xL):Option xL:=
 match x1 with
 | (A,B,C,D,E,F,G,H,I,_)=>
 bif decide (E<D) then
  (sA 10).bind fun r2=>
  (Df (H,I) r2.1).bind fun r3=>
  chk (decide (B.length+C.length<=maxLen)) <|
  (qv (B++C) E).bind fun c4=>
  (sA (w64 (wu8 ((c4.toNat:Int) - 48)))).bind fun r5=>
  (Fa r3.1 r5.1).bind fun r6=>
  again (A,B,C,D,w64 (E+1),F,G,r6.1.1,r6.1.2,())
 else
  some (.inr (A,C,F,G,H,I,()))
def Kw (a0:Bool) (a1:Bys) (a2:Bys):Option (ah×Int×Unit):=
 (sA 0).bind fun r1=>
 chk (decide (a1.length+a2.length<=maxLen)) <|
 aC (
  iter (X:=xM) (β:=xL) (a1.length+(a2.length+(Int.natAbs ((List.length (a1++a2):Int))+(Int.natAbs (0:Int)+(Int.natAbs (0:Int)+(Int.natAbs (0:Int)+(r1.1.2.length+2))))))) (a0,a1,a2,(List.length (a1++a2):Int),0,0,0,r1.1.1,r1.1.2,()) (OL)) fun (A,B,_,_,C,D,_)=>
 bif A then
  (jd (C,D)).bind fun r9=>
  bif r9.1==0 then
   some ((0,0),10,())
  else
   (mY (C,D)).bind fun r10=>
   (nc r10.1 ((B.length:Int))).bind fun r11=>
   some (r11.1,r11.2.1,())
 else
  (nc (C,D) ((B.length:Int))).bind fun r12=>
  some (r12.1,r12.2.1,())
def Ct (a0:Bys):Option (ah×Int×Unit):=
 (Al a0 [45]).bind fun r1=>
 (Ll r1.1 [46]).bind fun r2=>
 (
  bif decide (((a0.length:Int))>40) then
   some (true,())
  else
   Option.bind (Ec r2.1) fun r3=>
   bif !r3.1 then
    some (true,())
   else
    bif r2.2.2.1 then
     Option.bind (nZ r2.2.1) fun r4=>
     bif !r4.1 then
      some (true,())
     else
      some (decide (((r2.2.1.length:Int))>9),())
    else
     some (false,())).bind fun v5=>
 bif v5.1 then
  some ((0,0),10,())
 else
  (Kw r1.2.1 r2.1 r2.2.1).bind fun r6=>
  some (r6.1,r6.2.1,())
def qu (a0:(List Bys)×Bool×Unit):Option (ah×((List Bys)×Bool×Unit)×Unit):=
 (jb (a0.1,a0.2.1,())).bind fun r1=>
 (Ct r1.1).bind fun r2=>
 bif r1.2.1.2.1 then
  some (r2.1,(r1.2.1.1,true,()),())
 else
  some (r2.1,(r1.2.1.1,r2.2.1 != 0,()),())
def EN (a0:Bys):Option (aa×Bool×Unit):=
 (Qy a0).bind fun r1=>
 bif !r1.2.1 then
  some ((0,0,0,0,0,[],(0,0),[],(0,0),0,0),false,())
 else
  (gU (r1.1,false,())).bind fun r2=>
  (GL).bind fun r3=>
  (tu (r2.2.1.1,r2.2.1.2.1,()) r3.1).bind fun r4=>
  (gU (r4.2.1.1,r4.2.1.2.1,())).bind fun r5=>
  (CL).bind fun r6=>
  (tu (r5.2.1.1,r5.2.1.2.1,()) r6.1).bind fun r7=>
  (gU (r7.2.1.1,r7.2.1.2.1,())).bind fun r8=>
  (rG r7.1).bind fun r9=>
  aC (γ:=(Int×Int×Int×Int×Int×Bys×Int×Int×Bys×Int×Int×Int×Int×Int×Int×Int×Int×Int×Bys×Int×Int×Bys×Int×Int×Int×Int×Bool×Bool×Bool×Bool×Bool×Bool×(List Bys)×Bool×Unit)) (
   bif r9.1.1 then
    (jb (r8.2.1.1,r8.2.1.2.1,())).bind fun r10=>
    some (.inr (0,0,0,0,0,[],0,0,[],0,0,0,0,r2.1,r4.1,r5.1,r7.1,r8.1,r10.1,0,0,[],0,0,0,0,r9.1.1,r9.1.2.1,r9.1.2.2.1,r9.1.2.2.2.1,r9.1.2.2.2.2.1,r9.1.2.2.2.2.2,r10.2.1.1,r10.2.1.2.1,()))
   else
    some (.inr (0,0,0,0,0,[],0,0,[],0,0,0,0,r2.1,r4.1,r5.1,r7.1,r8.1,[],0,0,[],0,0,0,0,r9.1.1,r9.1.2.1,r9.1.2.2.1,r9.1.2.2.2.1,r9.1.2.2.2.2.1,r9.1.2.2.2.2.2,r8.2.1.1,r8.2.1.2.1,()))) fun (A,B,C,D,E,F,G,H,I,J,K,L,M,N,O,P,Q,R,S,T,U,V,W,X,Y,Z,A0,B0,C0,D0,E0,F0,G0,H0,_)=>
  aC (γ:=(Int×Int×Int×Int×Int×Bys×Int×Int×Bys×Int×Int×Int×Int×Int×Int×Int×Int×Int×Bys×Int×Int×Bys×Int×Int×Int×Int×Bool×Bool×Bool×Bool×Bool×Bool×(List Bys)×Bool×Unit)) (
   bif B0 then
    (qu (G0,H0,())).bind fun r12=>
    some (.inr (A,B,C,D,E,F,G,H,I,J,K,L,M,N,O,P,Q,R,S,r12.1.1,r12.1.2,V,W,X,Y,Z,A0,B0,C0,D0,E0,F0,r12.2.1.1,r12.2.1.2.1,()))
   else
    some (.inr (A,B,C,D,E,F,G,H,I,J,K,L,M,N,O,P,Q,R,S,T,U,V,W,X,Y,Z,A0,B0,C0,D0,E0,F0,G0,H0,()))) fun (I0,J0,K0,L0,M0,N0,O0,P0,Q0,R0,S0,T0,U0,V0,W0,X0,Y0,Z0,A1,B1,C1,D1,E1,F1,G1,H1,I1,J1,K1,L1,M1,N1,O1,P1,_)=>
  aC (γ:=(Int×Int×Int×Int×Int×Bys×Int×Int×Bys×Int×Int×Int×Int×Int×Int×Int×Int×Int×Bys×Int×Int×Bys×Int×Int×Int×Int×Bool×Bool×Bool×Bool×Bool×Bool×(List Bys)×Bool×Unit)) (
   bif K1 then
    (jb (O1,P1,())).bind fun r14=>
    some (.inr (I0,J0,K0,L0,M0,N0,O0,P0,Q0,R0,S0,T0,U0,V0,W0,X0,Y0,Z0,A1,B1,C1,r14.1,E1,F1,G1,H1,I1,J1,K1,L1,M1,N1,r14.2.1.1,r14.2.1.2.1,()))
   else
    some (.inr (I0,J0,K0,L0,M0,N0,O0,P0,Q0,R0,S0,T0,U0,V0,W0,X0,Y0,Z0,A1,B1,C1,D1,E1,F1,G1,H1,I1,J1,K1,L1,M1,N1,O1,P1,()))) fun (Q1,R1,S1,T1,U1,V1,W1,X1,Y1,Z1,A2,B2,C2,D2,E2,F2,G2,H2,I2,J2,K2,L2,M2,N2,O2,P2,Q2,R2,S2,T2,U2,V2,W2,X2,_)=>
  aC (γ:=(Int×Int×Int×Int×Int×Bys×Int×Int×Bys×Int×Int×Int×Int×Int×Int×Int×Int×Int×Bys×Int×Int×Bys×Int×Int×Int×Int×Bool×Bool×Bool×Bool×Bool×Bool×(List Bys)×Bool×Unit)) (
   bif T2 then
    (qu (W2,X2,())).bind fun r16=>
    some (.inr (Q1,R1,S1,T1,U1,V1,W1,X1,Y1,Z1,A2,B2,C2,D2,E2,F2,G2,H2,I2,J2,K2,L2,r16.1.1,r16.1.2,O2,P2,Q2,R2,S2,T2,U2,V2,r16.2.1.1,r16.2.1.2.1,()))
   else
    some (.inr (Q1,R1,S1,T1,U1,V1,W1,X1,Y1,Z1,A2,B2,C2,D2,E2,F2,G2,H2,I2,J2,K2,L2,M2,N2,O2,P2,Q2,R2,S2,T2,U2,V2,W2,X2,()))) fun (Y2,Z2,A3,B3,C3,D3,E3,F3,G3,H3,I3,J3,K3,L3,M3,N3,O3,P3,Q3,R3,S3,T3,U3,V3,W3,X3,Y3,Z3,A4,B4,C4,D4,E4,F4,_)=>
  aC (γ:=(Int×Int×Int×Int×Int×Bys×Int×Int×Bys×Int×Int×Int×Int×Int×Int×Int×Int×Int×Bys×Int×Int×Bys×Int×Int×Int×Int×Bool×Bool×Bool×Bool×Bool×Bool×(List Bys)×Bool×Unit)) (
   bif C4 then
    (gU (E4,F4,())).bind fun r18=>
    some (.inr (Y2,Z2,A3,B3,C3,D3,E3,F3,G3,H3,I3,J3,K3,L3,M3,N3,O3,P3,Q3,R3,S3,T3,U3,V3,r18.1,X3,Y3,Z3,A4,B4,C4,D4,r18.2.1.1,r18.2.1.2.1,()))
   else
    some (.inr (Y2,Z2,A3,B3,C3,D3,E3,F3,G3,H3,I3,J3,K3,L3,M3,N3,O3,P3,Q3,R3,S3,T3,U3,V3,W3,X3,Y3,Z3,A4,B4,C4,D4,E4,F4,()))) fun (G4,H4,I4,J4,K4,L4,M4,N4,O4,P4,Q4,R4,S4,T4,U4,V4,W4,X4,Y4,Z4,A5,B5,C5,D5,E5,F5,_,_,_,_,_,G5,H5,I5,_)=>
  aC (γ:=(Int×Int×Int×Int×Int×Bys×Int×Int×Bys×Int×Int×Int×Int×Int×Int×Int×Int×Int×Bys×Int×Int×Bys×Int×Int×Int×Int×(List Bys)×Bool×Unit)) (
   bif G5 then
    (gU (H5,I5,())).bind fun r20=>
    some (.inr (G4,H4,I4,J4,K4,L4,M4,N4,O4,P4,Q4,R4,S4,T4,U4,V4,W4,X4,Y4,Z4,A5,B5,C5,D5,E5,r20.1,r20.2.1.1,r20.2.1.2.1,()))
   else
    some (.inr (G4,H4,I4,J4,K4,L4,M4,N4,O4,P4,Q4,R4,S4,T4,U4,V4,W4,X4,Y4,Z4,A5,B5,C5,D5,E5,F5,H5,I5,()))) fun (_,_,_,_,_,_,_,_,_,_,_,_,_,J5,K5,L5,M5,N5,O5,P5,Q5,R5,S5,T5,U5,V5,W5,X5,_)=>
  bif !X5 then
   some ((J5,K5,L5,M5,N5,O5,(P5,Q5),R5,(S5,T5),U5,V5),((W5.length:Int))==0,())
  else
   some ((J5,K5,L5,M5,N5,O5,(P5,Q5),R5,(S5,T5),U5,V5),false,())
abbrev zX:Type:=(List Bys)×Bool×(List aa)×(List Bys)×Int×Int×Unit
abbrev zW:Type:=(((List aa)×Int×Int×Unit) ⊕ ((List aa)×Unit))
def RT (x1:zX) (again:zX->Option zW):Option zW:=
 match x1 with
 | (A,B,C,D,E,F,_)=>
 bif decide (F<E) then
  (idx D F).bind fun y2=>
  (EN y2).bind fun r3=>
  (
   bif !r3.2.1 then
    some (true,())
   else
    bif !B then
     some (F==(w64 (((A.length:Int)) - 1)),())
    else
     some (false,())).bind fun v4=>
  bif v4.1 then
   some (.inl ([],w64 (F+1),10,()))
  else
   chk (decide (((C.length)+1)*120<=140737488355328)&&decide ((C.length)+1<=maxLen)) <|
   again (A,B,C++[r3.1],D,E,w64 (F+1),())
 else
  some (.inr (C,()))
def N8 (a0:Bys):Option ((List aa)×Int×Int×Unit):=
 bif decide (((a0.length:Int))>200000) then
  some ([],0,2,())
 else
  (Qx a0).bind fun r1=>
  aC (
   iter (X:=zX) (β:=zW) (r1.1.length+(List.length ([]:List aa)+(r1.1.length+(Int.natAbs ((r1.1.length:Int))+(Int.natAbs (0:Int)+2))))) (r1.1,r1.2.1,[],r1.1,(r1.1.length:Int),0,()) (RT)) fun v6=>
  (dL v6.1).bind fun r7=>
  bif r7.1 != 0 then
   some ([],0,r7.1,())
  else
   some (v6.1,0,0,())
def Me:Option (Bool×Unit):=
 (N8 [53,32,98,117,121,101,114,32,49,32,100,117,101,32,50,32,55,10]).bind fun r1=>
 (
  bif r1.2.2.1==0 then
   bif r1.2.1==0 then
    bif ((r1.1.length:Int))==1 then
     chk (decide (0<=(0:Int))&&decide ((0:Int)<(r1.1.length:Int))) <|
     Option.bind (r1.1[0]?) fun y2=>
     some (y2.2.2.2.2.2.2.2.2.2.1==7,())
    else
     some (false,())
   else
    some (false,())
  else
   some (false,())).bind fun v3=>
 some (v3.1,())
def Gc (a0:aj) (a1:List aa) (a2:Int) (a3:List aP):Option ((aj×(List aa)×(List (Int×(Option Nat)))×(List ah)×(List ay)×Int×Unit)×Int×(List aP)×Unit):=
 (me a0 a1).bind fun r1=>
 bif r1.1 != 0 then
  none
 else
  (mL a2).bind fun r2=>
  bif !r2.1 then
   none
  else
   (fZ a0 a1 a3).bind fun r3=>
   (fI (r3.1.1,r3.1.2.1,r3.1.2.2.1,r3.1.2.2.2.1,r3.1.2.2.2.2.1,r3.1.2.2.2.2.2.1,()) a2 r3.2.1).bind fun r4=>
   some ((r4.1.1,r4.1.2.1,r4.1.2.2.1,r4.1.2.2.2.1,r4.1.2.2.2.2.1,r4.1.2.2.2.2.2.1,()),0,r4.2.1,())
def AD (a0:aj) (a1:List aa) (a2:Int) (a3:List aP):Option ((Option Nat)×Int×(List aP)×Unit):=
 (me a0 a1).bind fun r1=>
 bif r1.1 != 0 then
  some (none,r1.1,a3,())
 else
  (mL a2).bind fun r2=>
  bif !r2.1 then
   some (none,1,a3,())
  else
   (fZ a0 a1 a3).bind fun r3=>
   (fI (r3.1.1,r3.1.2.1,r3.1.2.2.1,r3.1.2.2.2.1,r3.1.2.2.2.2.1,r3.1.2.2.2.2.2.1,()) a2 r3.2.1).bind fun _=>
   none
abbrev fN:Type:=(List aa)×(List aa)×Int×Int×Unit
abbrev iG:Type:=((Bool×Unit) ⊕ Unit)
def iF (x1:fN) (again:fN->Option iG):Option iG:=
 match x1 with
 | (A,B,C,D,_)=>
 bif decide (D<C) then
  (idx A D).bind fun y2=>
  (idx B D).bind fun y3=>
  bif !((y2.1==y3.1)&&((y2.2.1==y3.2.1)&&((y2.2.2.1==y3.2.2.1)&&((y2.2.2.2.1==y3.2.2.2.1)&&((y2.2.2.2.2.1==y3.2.2.2.2.1)&&((y2.2.2.2.2.2.1==y3.2.2.2.2.2.1)&&(((y2.2.2.2.2.2.2.1.1==y3.2.2.2.2.2.2.1.1)&&((y2.2.2.2.2.2.2.1.2==y3.2.2.2.2.2.2.1.2)&&true))&&((y2.2.2.2.2.2.2.2.1==y3.2.2.2.2.2.2.2.1)&&(((y2.2.2.2.2.2.2.2.2.1.1==y3.2.2.2.2.2.2.2.2.1.1)&&((y2.2.2.2.2.2.2.2.2.1.2==y3.2.2.2.2.2.2.2.2.1.2)&&true))&&((y2.2.2.2.2.2.2.2.2.2.1==y3.2.2.2.2.2.2.2.2.2.1)&&((y2.2.2.2.2.2.2.2.2.2.2==y3.2.2.2.2.2.2.2.2.2.2)&&true))))))))))) then
   some (.inl (false,()))
  else
   again (A,B,C,w64 (D+1),())
 else
  some (.inr ())
def jP (a0:List aa) (a1:List aa):Option (Bool×Unit):=
 bif ((a0.length:Int)) != ((a1.length:Int)) then
  some (false,())
 else
  aC (
   iter (X:=fN) (β:=iG) (a0.length+(a1.length+(Int.natAbs ((a0.length:Int))+(Int.natAbs (0:Int)+2)))) (a0,a1,(a0.length:Int),0,()) (iF)) fun _=>
  some (true,())
def iN (a0:Int) (a1:Int) (a2:Int):Option (Bool×Unit):=
 (
  bif decide (a1<=a0) then
   some (decide (a0<=a2),())
  else
   some (false,())).bind fun v1=>
 some (v1.1,())
def yL (a0:Int):Option (Bool×Unit):=
 (iN a0 1 4).bind fun r1=>
 bif r1.1 then
  some (true,())
 else
  bif a0==8 then
   some (true,())
  else
   bif a0==10 then
    some (true,())
   else
    some (a0==11,())
def CT (a0:Int):Option (Di×Unit):=
 bif a0==1 then
  some ((true,true,true,true,false),())
 else
  aC (γ:=(Int×Bool×Bool×Bool×Bool×Bool×Bool×Unit)) (
   bif a0==2 then
    some (.inr (a0,a0==2,false,false,false,false,false,()))
   else
    bif a0==9 then
     some (.inr (a0,a0==9,false,false,false,false,false,()))
    else
     bif a0==10 then
      some (.inr (a0,a0==10,false,false,false,false,false,()))
     else
      some (.inr (a0,a0==11,false,false,false,false,false,()))) fun v1=>
  bif v1.2.1 then
   some ((true,false,false,false,false),())
  else
   bif v1.1==3 then
    some ((false,false,true,false,false),())
   else
    bif v1.1==4 then
     some ((false,true,false,false,false),())
    else
     bif v1.1==7 then
      some ((true,false,true,false,false),())
     else
      some ((false,false,false,false,true),())
def x9 (a0:Int):Option (ah×Unit):=
 some ((a0,0),())
def mV (a0:ah) (a1:ah):Option (Int×Unit):=
 (AF a0 9).bind fun r1=>
 (AF a1 9).bind fun r2=>
 (I8 r1.1 r2.1).bind fun r3=>
 some (r3.1,())
def lC (a0:ah) (a1:Bool):Option (Int×Unit):=
 (
  Option.bind (jM a0) fun r1=>
  bif r1.1 != 0 then
   some (true,())
  else
   bif decide (a0.1<0) then
    some (true,())
   else
    bif a0.1==0 then
     bif !a1 then
      some (true,())
     else
      Option.bind (x9 1000000000) fun r2=>
      Option.bind (mV a0 r2.1) fun r3=>
      bif decide (r3.1>0) then
       some (true,())
      else
       some (decide (a0.2>3),())
    else
     Option.bind (x9 1000000000) fun r4=>
     Option.bind (mV a0 r4.1) fun r5=>
     bif decide (r5.1>0) then
      some (true,())
     else
      some (decide (a0.2>3),())).bind fun v6=>
 bif v6.1 then
  some (1,())
 else
  some (0,())
def pW (a0:ah):Option (Int×Unit):=
 (jM a0).bind fun r1=>
 bif r1.1 != 0 then
  some (1,())
 else
  bif decide (a0.1<0) then
   some (1,())
  else
   (x9 1000000000).bind fun r2=>
   (mV a0 r2.1).bind fun r3=>
   bif decide (r3.1>0) then
    some (1,())
   else
    bif decide (a0.2>4) then
     some (1,())
    else
     some (0,())
def s6 (a0:aa):Option (Int×Unit):=
 (CT a0.2.2.2.1).bind fun r1=>
 (
  bif r1.1.1 then
   Option.bind (lC a0.2.2.2.2.2.2.1 (a0.2.2.2.1==2)) fun r2=>
   some (r2.1 != 0,())
  else
   some (false,())).bind fun v3=>
 bif v3.1 then
  some (1,())
 else
  (
   bif r1.1.2.1 then
    Option.bind (pW a0.2.2.2.2.2.2.2.2.1) fun r4=>
    some (r4.1 != 0,())
   else
    some (false,())).bind fun v5=>
  bif v5.1 then
   some (1,())
  else
   (
    bif r1.1.2.2.1 then
     Option.bind (x7 a0.2.2.2.2.2.2.2.2.2.1) fun r6=>
     some (!r6.1,())
    else
     some (false,())).bind fun v7=>
   bif v7.1 then
    some (1,())
   else
    (
     bif r1.1.2.2.2.1 then
      Option.bind (kT a0.2.2.2.2.2.1) fun r8=>
      bif !r8.1 then
       some (true,())
      else
       Option.bind (kT a0.2.2.2.2.2.2.2.1) fun r9=>
       some (!r9.1,())
     else
      some (false,())).bind fun v10=>
    bif v10.1 then
     some (5,())
    else
     (
      bif r1.1.2.2.2.2 then
       Option.bind (iN a0.2.2.2.2.2.2.2.2.2.2 1 2000) fun r11=>
       some (!r11.1,())
      else
       some (false,())).bind fun v12=>
     bif v12.1 then
      some (1,())
     else
      (
       bif !r1.1.1 then
        bif !((a0.2.2.2.2.2.2.1.1==0)&&((a0.2.2.2.2.2.2.1.2==0)&&true)) then
         some (true,())
        else
         bif !r1.1.2.1 then
          bif !((a0.2.2.2.2.2.2.2.2.1.1==0)&&((a0.2.2.2.2.2.2.2.2.1.2==0)&&true)) then
           some (true,())
          else
           bif !r1.1.2.2.1 then
            bif a0.2.2.2.2.2.2.2.2.2.1 != 0 then
             some (true,())
            else
             bif !r1.1.2.2.2.1 then
              chk (decide (a0.2.2.2.2.2.1.length+a0.2.2.2.2.2.2.2.1.length<=maxLen)) <|
              bif !((a0.2.2.2.2.2.1++a0.2.2.2.2.2.2.2.1)==[]) then
               some (true,())
              else
               bif !r1.1.2.2.2.2 then
                some (a0.2.2.2.2.2.2.2.2.2.2 != 0,())
               else
                some (false,())
             else
              bif !r1.1.2.2.2.2 then
               some (a0.2.2.2.2.2.2.2.2.2.2 != 0,())
              else
               some (false,())
           else
            bif !r1.1.2.2.2.1 then
             chk (decide (a0.2.2.2.2.2.1.length+a0.2.2.2.2.2.2.2.1.length<=maxLen)) <|
             bif !((a0.2.2.2.2.2.1++a0.2.2.2.2.2.2.2.1)==[]) then
              some (true,())
             else
              bif !r1.1.2.2.2.2 then
               some (a0.2.2.2.2.2.2.2.2.2.2 != 0,())
              else
               some (false,())
            else
             bif !r1.1.2.2.2.2 then
              some (a0.2.2.2.2.2.2.2.2.2.2 != 0,())
             else
              some (false,())
         else
          bif !r1.1.2.2.1 then
           bif a0.2.2.2.2.2.2.2.2.2.1 != 0 then
            some (true,())
           else
            bif !r1.1.2.2.2.1 then
             chk (decide (a0.2.2.2.2.2.1.length+a0.2.2.2.2.2.2.2.1.length<=maxLen)) <|
             bif !((a0.2.2.2.2.2.1++a0.2.2.2.2.2.2.2.1)==[]) then
              some (true,())
             else
              bif !r1.1.2.2.2.2 then
               some (a0.2.2.2.2.2.2.2.2.2.2 != 0,())
              else
               some (false,())
            else
             bif !r1.1.2.2.2.2 then
              some (a0.2.2.2.2.2.2.2.2.2.2 != 0,())
             else
              some (false,())
          else
           bif !r1.1.2.2.2.1 then
            chk (decide (a0.2.2.2.2.2.1.length+a0.2.2.2.2.2.2.2.1.length<=maxLen)) <|
            bif !((a0.2.2.2.2.2.1++a0.2.2.2.2.2.2.2.1)==[]) then
             some (true,())
            else
             bif !r1.1.2.2.2.2 then
              some (a0.2.2.2.2.2.2.2.2.2.2 != 0,())
             else
              some (false,())
           else
            bif !r1.1.2.2.2.2 then
             some (a0.2.2.2.2.2.2.2.2.2.2 != 0,())
            else
             some (false,())
       else
        bif !r1.1.2.1 then
         bif !((a0.2.2.2.2.2.2.2.2.1.1==0)&&((a0.2.2.2.2.2.2.2.2.1.2==0)&&true)) then
          some (true,())
         else
          bif !r1.1.2.2.1 then
           bif a0.2.2.2.2.2.2.2.2.2.1 != 0 then
            some (true,())
           else
            bif !r1.1.2.2.2.1 then
             chk (decide (a0.2.2.2.2.2.1.length+a0.2.2.2.2.2.2.2.1.length<=maxLen)) <|
             bif !((a0.2.2.2.2.2.1++a0.2.2.2.2.2.2.2.1)==[]) then
              some (true,())
             else
              bif !r1.1.2.2.2.2 then
               some (a0.2.2.2.2.2.2.2.2.2.2 != 0,())
              else
               some (false,())
            else
             bif !r1.1.2.2.2.2 then
              some (a0.2.2.2.2.2.2.2.2.2.2 != 0,())
             else
              some (false,())
          else
           bif !r1.1.2.2.2.1 then
            chk (decide (a0.2.2.2.2.2.1.length+a0.2.2.2.2.2.2.2.1.length<=maxLen)) <|
            bif !((a0.2.2.2.2.2.1++a0.2.2.2.2.2.2.2.1)==[]) then
             some (true,())
            else
             bif !r1.1.2.2.2.2 then
              some (a0.2.2.2.2.2.2.2.2.2.2 != 0,())
             else
              some (false,())
           else
            bif !r1.1.2.2.2.2 then
             some (a0.2.2.2.2.2.2.2.2.2.2 != 0,())
            else
             some (false,())
        else
         bif !r1.1.2.2.1 then
          bif a0.2.2.2.2.2.2.2.2.2.1 != 0 then
           some (true,())
          else
           bif !r1.1.2.2.2.1 then
            chk (decide (a0.2.2.2.2.2.1.length+a0.2.2.2.2.2.2.2.1.length<=maxLen)) <|
            bif !((a0.2.2.2.2.2.1++a0.2.2.2.2.2.2.2.1)==[]) then
             some (true,())
            else
             bif !r1.1.2.2.2.2 then
              some (a0.2.2.2.2.2.2.2.2.2.2 != 0,())
             else
              some (false,())
           else
            bif !r1.1.2.2.2.2 then
             some (a0.2.2.2.2.2.2.2.2.2.2 != 0,())
            else
             some (false,())
         else
          bif !r1.1.2.2.2.1 then
           chk (decide (a0.2.2.2.2.2.1.length+a0.2.2.2.2.2.2.2.1.length<=maxLen)) <|
           bif !((a0.2.2.2.2.2.1++a0.2.2.2.2.2.2.2.1)==[]) then
            some (true,())
           else
            bif !r1.1.2.2.2.2 then
             some (a0.2.2.2.2.2.2.2.2.2.2 != 0,())
            else
             some (false,())
          else
           bif !r1.1.2.2.2.2 then
            some (a0.2.2.2.2.2.2.2.2.2.2 != 0,())
           else
            some (false,())).bind fun v13=>
      bif v13.1 then
       some (3,())
      else
       some (0,())
abbrev qN:Type:=Int×Int×(List Int)×Unit
abbrev qM:Type:=((Int×Unit) ⊕ Unit)
def wT (x1:qN) (again:qN->Option qM):Option qM:=
 bif decide (x1.2.1<x1.1) then
  chk (decide (0<=x1.2.1)&&decide (x1.2.1<(x1.2.2.1.length:Int))) <|
  (x1.2.2.1[x1.2.1.toNat]?).bind fun y2=>
  bif y2 != 0 then
   some (.inl (y2,()))
  else
   again (x1.1,w64 (x1.2.1+1),x1.2.2.1,())
 else
  some (.inr ())
def rL (a0:aa) (a1:aa):Option (Int×Unit):=
 aC (
  iter (X:=qN) (β:=qM) (Int.natAbs ((List.length [(w64 (a0.1 - a1.1)),(w64 (a0.2.1 - a1.2.1)),(w64 (a0.2.2.1 - a1.2.2.1))]:Int))+(Int.natAbs (0:Int)+(List.length ([(w64 (a0.1 - a1.1)),(w64 (a0.2.1 - a1.2.1)),(w64 (a0.2.2.1 - a1.2.2.1))]:List Int)+2))) ((List.length [(w64 (a0.1 - a1.1)),(w64 (a0.2.1 - a1.2.1)),(w64 (a0.2.2.1 - a1.2.2.1))]:Int),0,[(w64 (a0.1 - a1.1)),(w64 (a0.2.1 - a1.2.1)),(w64 (a0.2.2.1 - a1.2.2.1))],()) (wT)) fun _=>
 some (0,())
abbrev rM:Type:=Int×Int×(List aa)×Int×Int×Unit
abbrev wV:Type:=((Int×Unit) ⊕ (Int×Unit))
def wU (x1:rM) (again:rM->Option wV):Option wV:=
 match x1 with
 | (A,B,C,D,E,_)=>
 bif decide (E<D) then
  (idx C E).bind fun y2=>
  bif y2.2.1==A then
   again (A,y2.2.2.1,C,D,w64 (E+1),())
  else
   again (A,B,C,D,w64 (E+1),())
 else
  some (.inr (B,()))
def CO (a0:List aa) (a1:Int):Option (Int×Unit):=
 aC (
  iter (X:=rM) (β:=wV) (a1.natAbs+(Int.natAbs (0:Int)+(a0.length+(Int.natAbs ((a0.length:Int))+(Int.natAbs (0:Int)+2))))) (a1,0,a0,(a0.length:Int),0,()) (wU)) fun v3=>
 some (v3.1,())
abbrev pE:Type:=(List aa)×(List aa)×Int×Int×Unit
abbrev pz:Type:=((Int×Unit) ⊕ Unit)
def lB (x1:pE) (again:pE->Option pz):Option pz:=
 match x1 with
 | (A,B,C,D,_)=>
 bif decide (D<C) then
  (idx B D).bind fun y2=>
  (x7 y2.1).bind fun r3=>
  bif !r3.1 then
   some (.inl (1,()))
  else
   (
    bif y2.2.1 != 1 then
     some (y2.2.1 != 2,())
    else
     some (false,())).bind fun v4=>
   bif v4.1 then
    some (.inl (4,()))
   else
    (iN y2.2.2.1 1 2000).bind fun r5=>
    bif !r5.1 then
     some (.inl (1,()))
    else
     (iN y2.2.2.2.1 1 11).bind fun r6=>
     bif !r6.1 then
      some (.inl (4,()))
     else
      (yL y2.2.2.2.1).bind fun r7=>
      bif !(r7.1==(y2.2.1==1)) then
       some (.inl (4,()))
      else
       (iN y2.2.2.2.2.1 1 99999).bind fun r8=>
       bif !r8.1 then
        some (.inl (1,()))
       else
        (s6 y2).bind fun r9=>
        bif r9.1 != 0 then
         some (.inl (r9.1,()))
        else
         (
          bif decide (D>0) then
           Option.bind (idx A (w64 (D - 1))) fun y10=>
           Option.bind (rL y2 y10) fun r11=>
           some (decide (r11.1<=0),())
          else
           some (false,())).bind fun v12=>
         bif v12.1 then
          some (.inl (8,()))
         else
          chk (decide (0<=(0:Int))&&decide ((0:Int)<=D)&&decide (D<=(A.length:Int))) <|
          (CO (List.drop 0 (List.take (Int.toNat D) A)) y2.2.1).bind fun r13=>
          bif y2.2.2.1 != (w64 (r13.1+1)) then
           some (.inl (9,()))
          else
           again (A,B,C,w64 (D+1),())
 else
  some (.inr ())
def pV (a0:List aa):Option (Int×Unit):=
 bif decide (((a0.length:Int))>2000) then
  some (2,())
 else
  aC (
   iter (X:=pE) (β:=pz) (a0.length+(a0.length+(Int.natAbs ((a0.length:Int))+(Int.natAbs (0:Int)+2)))) (a0,a0,(a0.length:Int),0,()) (lB)) fun _=>
  some (0,())
end
end Go.Md
