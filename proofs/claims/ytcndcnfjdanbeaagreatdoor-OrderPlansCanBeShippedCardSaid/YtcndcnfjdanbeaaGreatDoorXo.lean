/-
  The plain models of the functions that the law reaches, third part. No condition.
-/
import Derived.Test.YtcndcnfjdanbeaaGreatDoorXn
import Derived.Test.YtcndcnfjdanbeaaGreatDoorXd
import Derived.Lib.Atoi
import Derived.Lib.IndexBytes
set_option linter.all false
noncomputable section
namespace Go.Md
open Go.Dn
def gu (s:Bys) (c:Int):Option (Int×Unit):=some (Lib.indexByte s c.toNat.toUInt8,())
def l6 (c:UInt8):Bys→List Bys
 | []=>[[]]
 | b::r=>bif b==c then []::l6 c r else (match l6 c r with
  | h::t=>(b::h)::t
  | []=>[[b]])
def strings_Split (s sep:Bys):Option (List Bys×Unit):=match sep with
 | [c]=>bif decide (s.length<4294967281) then some (l6 c s,()) else none
 | _=>none
def T6 (b:UInt8):Bool:=decide (48≤b.toNat)&&decide (b.toNat≤57)
def z7 (s:Bys) (most:Int):Option (Int×Bool×Unit):=
 bif decide (most<(s.length:Int)) then some (0,false,())
 else bif decide (s.length≤18) then (bif !(!(s==[])&&s.all T6)||(decide (1<s.length)&&s.head? ==some 48) then some (0,false,()) else (Lib.atoi s).bind fun n=>some (n,true,())) else none
noncomputable section
abbrev Nu:Ty:=(.st (.pair tI (.pair tI tI)))
abbrev MZ:Type:=Int×Int×Int
abbrev O8:Ty:=(.st (.pair .bool (.pair .bool (.pair .bool (.pair .bool (.pair .bool .bool))))))
abbrev NO:Type:=Bool×Bool×Bool×Bool×Bool×Bool
abbrev jA:Ty:=(.st (.pair tI (.pair .str (.pair az (.pair .str (.pair az tI))))))
abbrev aO:Type:=Int×Bys×ah×Bys×ah×Int
abbrev aH:Ty:=(.st (.pair tI (.pair tI (.pair tI (.pair tI (.pair tI (.pair .str (.pair az (.pair .str (.pair az (.pair tI tI)))))))))))
abbrev aa:Type:=Int×Int×Int×Int×Int×Bys×ah×Bys×ah×Int×Int
abbrev bE:Ty:=(.st (.pair .str (.pair .str (.pair .str (.pair tI (.pair tI (.slice jA)))))))
abbrev aj:Type:=Bys×Bys×Bys×Int×Int×(List aO)
abbrev an:Ty:=(.st (.pair tI (.pair .str (.pair .str (.pair tI (.pair tI (.pair tI (.pair tI (.pair az (.pair tI (.pair tI Nu)))))))))))
abbrev ak:Type:=Int×Bys×Bys×Int×Int×Int×Int×ah×Int×Int×MZ
abbrev bO:Ty:=(.st (.pair tI IZ))
abbrev au:Type:=Int×yu
def se (a0:aj) (a1:Int):Option (Int×Unit):=
 (idx a0.2.2.2.2.2 a1).bind fun y1=>
 (eN y1.1 1 99999).bind fun r2=>
 bif r2.1 then
  some (1,())
 else
  (
   bif decide (a1>0) then
    Option.bind (idx a0.2.2.2.2.2 (w64 (a1 - 1))) fun y3=>
    some (decide (y1.1≤y3.1),())
   else
    some (false,())).bind fun v4=>
  bif v4.1 then
   some (8,())
  else
   (fP y1.2.1).bind fun r5=>
   bif !r5.1 then
    some (5,())
   else
    (ia y1.2.2.1 false).bind fun r6=>
    bif r6.1 != 0 then
     some (r6.1,())
    else
     (fP y1.2.2.2.1).bind fun r7=>
     bif !r7.1 then
      some (5,())
     else
      (ng y1.2.2.2.2.1).bind fun r8=>
      bif r8.1 != 0 then
       some (r8.1,())
      else
       (eN y1.2.2.2.2.2 a0.2.2.2.1 3652059).bind fun r9=>
       bif r9.1 then
        some (1,())
       else
        some (0,())
abbrev mE:Type:=Int×Int×Bys×Bys×Bys×Int×Int×(List aO)×Unit
abbrev mD:Type:=((Int×Unit) ⊕ Unit)
def mC (x1:mE) (again:mE→Option mD):Option mD:=
 match x1 with
 | (A,B,C,D,E,F,G,H,_)=>
 bif decide (B<A) then
  (se (C,D,E,F,G,H) B).bind fun r2=>
  bif r2.1 != 0 then
   some (.inl (r2.1,()))
  else
   again (A,w64 (B+1),C,D,E,F,G,H,())
 else
  some (.inr ())
def qC (a0:aj):Option (Int×Unit):=
 (fP a0.1).bind fun r1=>
 bif !r1.1 then
  some (5,())
 else
  (fP a0.2.1).bind fun r2=>
  bif !r2.1 then
   some (5,())
  else
   (fP a0.2.2.1).bind fun r3=>
   bif !r3.1 then
    some (5,())
   else
    bif a0.2.1==a0.2.2.1 then
     some (12,())
    else
     (ov a0.2.2.2.1).bind fun r4=>
     bif !r4.1 then
      some (1,())
     else
      (eN a0.2.2.2.2.1 0 1000).bind fun r5=>
      bif r5.1 then
       some (1,())
      else
       bif ((a0.2.2.2.2.2.length:Int))==0 then
        some (9,())
       else
        bif decide (((a0.2.2.2.2.2.length:Int))>500) then
         some (2,())
        else
         aL (
          iter (X:=mE) (β:=mD) (Int.natAbs ((a0.2.2.2.2.2.length:Int))+(Int.natAbs (0:Int)+(a0.1.length+(a0.2.1.length+(a0.2.2.1.length+(a0.2.2.2.1.natAbs+(a0.2.2.2.2.1.natAbs+(a0.2.2.2.2.2.length+2)))))))) ((a0.2.2.2.2.2.length:Int),0,a0.1,a0.2.1,a0.2.2.1,a0.2.2.2.1,a0.2.2.2.2.1,a0.2.2.2.2.2,()) (mC)) fun _=>
         some (0,())
def oy (a0:Int):Option (Bool×Unit):=
 bif a0==5 then
  some (true,())
 else
  bif a0==6 then
   some (true,())
  else
   bif a0==7 then
    some (true,())
   else
    some (a0==9,())
def tc (a0:Int):Option (NO×Unit):=
 bif a0==1 then
  some ((true,true,true,true,true,false),())
 else
  bif a0==3 then
   some ((false,false,false,false,true,false),())
  else
   bif a0==4 then
    some ((false,false,false,true,false,false),())
   else
    bif a0==5 then
     bif a0==5 then
      some ((false,false,false,false,false,true),())
     else
      bif a0==7 then
       some ((false,true,false,false,true,false),())
      else
       some ((false,true,false,false,false,false),())
    else
     bif a0==6 then
      bif a0==6 then
       some ((false,false,false,false,false,true),())
      else
       bif a0==7 then
        some ((false,true,false,false,true,false),())
       else
        some ((false,true,false,false,false,false),())
     else
      bif a0==8 then
       some ((false,false,false,false,false,true),())
      else
       bif a0==7 then
        some ((false,true,false,false,true,false),())
       else
        some ((false,true,false,false,false,false),())
def sj (a0:aa):Option (Int×Unit):=
 (tc a0.2.2.2.1).bind fun r1=>
 aL (γ:=(Int×Int×Int×Int×Int×Bys×Int×Int×Bys×Int×Int×Int×Int×Bool×Bool×Bool×Bool×Bool×Bool×Unit)) (
  bif r1.1.2.1 then
   (ia a0.2.2.2.2.2.2.1 (a0.2.2.2.1==2)).bind fun r2=>
   bif r2.1 != 0 then
    some (.inl (r2.1,()))
   else
    some (.inr (a0.1,a0.2.1,a0.2.2.1,a0.2.2.2.1,a0.2.2.2.2.1,a0.2.2.2.2.2.1,a0.2.2.2.2.2.2.1.1,a0.2.2.2.2.2.2.1.2,a0.2.2.2.2.2.2.2.1,a0.2.2.2.2.2.2.2.2.1.1,a0.2.2.2.2.2.2.2.2.1.2,a0.2.2.2.2.2.2.2.2.2.1,a0.2.2.2.2.2.2.2.2.2.2,r1.1.1,r1.1.2.1,r1.1.2.2.1,r1.1.2.2.2.1,r1.1.2.2.2.2.1,r1.1.2.2.2.2.2,()))
  else
   some (.inr (a0.1,a0.2.1,a0.2.2.1,a0.2.2.2.1,a0.2.2.2.2.1,a0.2.2.2.2.2.1,a0.2.2.2.2.2.2.1.1,a0.2.2.2.2.2.2.1.2,a0.2.2.2.2.2.2.2.1,a0.2.2.2.2.2.2.2.2.1.1,a0.2.2.2.2.2.2.2.2.1.2,a0.2.2.2.2.2.2.2.2.2.1,a0.2.2.2.2.2.2.2.2.2.2,r1.1.1,r1.1.2.1,r1.1.2.2.1,r1.1.2.2.2.1,r1.1.2.2.2.2.1,r1.1.2.2.2.2.2,()))) fun (A,B,C,D,E,F,G,H,I,J,K,L,M,N,O,P,Q,R,S,_)=>
 aL (γ:=(Int×Int×Int×Int×Int×Bys×Int×Int×Bys×Int×Int×Int×Int×Bool×Bool×Bool×Bool×Bool×Bool×Unit)) (
  bif Q then
   (ng (J,K)).bind fun r4=>
   bif r4.1 != 0 then
    some (.inl (r4.1,()))
   else
    some (.inr (A,B,C,D,E,F,G,H,I,J,K,L,M,N,O,P,Q,R,S,()))
  else
   some (.inr (A,B,C,D,E,F,G,H,I,J,K,L,M,N,O,P,Q,R,S,()))) fun (_,_,_,_,_,T,U,V,W,X,Y,Z,A0,B0,C0,D0,E0,F0,G0,_)=>
 (
  bif F0 then
   Option.bind (ov Z) fun r6=>
   some (!r6.1,())
  else
   some (false,())).bind fun v7=>
 bif v7.1 then
  some (1,())
 else
  (
   bif B0 then
    Option.bind (fP T) fun r8=>
    bif !r8.1 then
     some (true,())
    else
     bif D0 then
      Option.bind (fP W) fun r9=>
      some (!r9.1,())
     else
      some (false,())
   else
    bif D0 then
     Option.bind (fP W) fun r10=>
     some (!r10.1,())
    else
     some (false,())).bind fun v11=>
  bif v11.1 then
   some (5,())
  else
   (
    bif G0 then
     Option.bind (eN A0 1 2000) fun r12=>
     some (r12.1,())
    else
     some (false,())).bind fun v13=>
   bif v13.1 then
    some (1,())
   else
    (
     bif !B0 then
      bif !(T==[]) then
       some (true,())
      else
       bif !C0 then
        bif !((U==0)&&((V==0)&&true)) then
         some (true,())
        else
         bif !D0 then
          bif !(W==[]) then
           some (true,())
          else
           bif !E0 then
            bif !((X==0)&&((Y==0)&&true)) then
             some (true,())
            else
             bif !F0 then
              bif Z != 0 then
               some (true,())
              else
               bif !G0 then
                some (A0 != 0,())
               else
                some (false,())
             else
              bif !G0 then
               some (A0 != 0,())
              else
               some (false,())
           else
            bif !F0 then
             bif Z != 0 then
              some (true,())
             else
              bif !G0 then
               some (A0 != 0,())
              else
               some (false,())
            else
             bif !G0 then
              some (A0 != 0,())
             else
              some (false,())
         else
          bif !E0 then
           bif !((X==0)&&((Y==0)&&true)) then
            some (true,())
           else
            bif !F0 then
             bif Z != 0 then
              some (true,())
             else
              bif !G0 then
               some (A0 != 0,())
              else
               some (false,())
            else
             bif !G0 then
              some (A0 != 0,())
             else
              some (false,())
          else
           bif !F0 then
            bif Z != 0 then
             some (true,())
            else
             bif !G0 then
              some (A0 != 0,())
             else
              some (false,())
           else
            bif !G0 then
             some (A0 != 0,())
            else
             some (false,())
       else
        bif !D0 then
         bif !(W==[]) then
          some (true,())
         else
          bif !E0 then
           bif !((X==0)&&((Y==0)&&true)) then
            some (true,())
           else
            bif !F0 then
             bif Z != 0 then
              some (true,())
             else
              bif !G0 then
               some (A0 != 0,())
              else
               some (false,())
            else
             bif !G0 then
              some (A0 != 0,())
             else
              some (false,())
          else
           bif !F0 then
            bif Z != 0 then
             some (true,())
            else
             bif !G0 then
              some (A0 != 0,())
             else
              some (false,())
           else
            bif !G0 then
             some (A0 != 0,())
            else
             some (false,())
        else
         bif !E0 then
          bif !((X==0)&&((Y==0)&&true)) then
           some (true,())
          else
           bif !F0 then
            bif Z != 0 then
             some (true,())
            else
             bif !G0 then
              some (A0 != 0,())
             else
              some (false,())
           else
            bif !G0 then
             some (A0 != 0,())
            else
             some (false,())
         else
          bif !F0 then
           bif Z != 0 then
            some (true,())
           else
            bif !G0 then
             some (A0 != 0,())
            else
             some (false,())
          else
           bif !G0 then
            some (A0 != 0,())
           else
            some (false,())
     else
      bif !C0 then
       bif !((U==0)&&((V==0)&&true)) then
        some (true,())
       else
        bif !D0 then
         bif !(W==[]) then
          some (true,())
         else
          bif !E0 then
           bif !((X==0)&&((Y==0)&&true)) then
            some (true,())
           else
            bif !F0 then
             bif Z != 0 then
              some (true,())
             else
              bif !G0 then
               some (A0 != 0,())
              else
               some (false,())
            else
             bif !G0 then
              some (A0 != 0,())
             else
              some (false,())
          else
           bif !F0 then
            bif Z != 0 then
             some (true,())
            else
             bif !G0 then
              some (A0 != 0,())
             else
              some (false,())
           else
            bif !G0 then
             some (A0 != 0,())
            else
             some (false,())
        else
         bif !E0 then
          bif !((X==0)&&((Y==0)&&true)) then
           some (true,())
          else
           bif !F0 then
            bif Z != 0 then
             some (true,())
            else
             bif !G0 then
              some (A0 != 0,())
             else
              some (false,())
           else
            bif !G0 then
             some (A0 != 0,())
            else
             some (false,())
         else
          bif !F0 then
           bif Z != 0 then
            some (true,())
           else
            bif !G0 then
             some (A0 != 0,())
            else
             some (false,())
          else
           bif !G0 then
            some (A0 != 0,())
           else
            some (false,())
      else
       bif !D0 then
        bif !(W==[]) then
         some (true,())
        else
         bif !E0 then
          bif !((X==0)&&((Y==0)&&true)) then
           some (true,())
          else
           bif !F0 then
            bif Z != 0 then
             some (true,())
            else
             bif !G0 then
              some (A0 != 0,())
             else
              some (false,())
           else
            bif !G0 then
             some (A0 != 0,())
            else
             some (false,())
         else
          bif !F0 then
           bif Z != 0 then
            some (true,())
           else
            bif !G0 then
             some (A0 != 0,())
            else
             some (false,())
          else
           bif !G0 then
            some (A0 != 0,())
           else
            some (false,())
       else
        bif !E0 then
         bif !((X==0)&&((Y==0)&&true)) then
          some (true,())
         else
          bif !F0 then
           bif Z != 0 then
            some (true,())
           else
            bif !G0 then
             some (A0 != 0,())
            else
             some (false,())
          else
           bif !G0 then
            some (A0 != 0,())
           else
            some (false,())
        else
         bif !F0 then
          bif Z != 0 then
           some (true,())
          else
           bif !G0 then
            some (A0 != 0,())
           else
            some (false,())
         else
          bif !G0 then
           some (A0 != 0,())
          else
           some (false,())).bind fun v14=>
    bif v14.1 then
     some (3,())
    else
     some (0,())
def sd (a0:aa):Option (Int×Unit):=
 (ov a0.1).bind fun r1=>
 bif !r1.1 then
  some (1,())
 else
  (eN a0.2.1 1 2).bind fun r2=>
  bif r2.1 then
   some (4,())
  else
   (eN a0.2.2.1 1 2000).bind fun r3=>
   bif r3.1 then
    some (1,())
   else
    (eN a0.2.2.2.1 1 11).bind fun r4=>
    bif r4.1 then
     some (4,())
    else
     (oy a0.2.2.2.1).bind fun r5=>
     bif !(r5.1==(a0.2.1==2)) then
      some (4,())
     else
      (eN a0.2.2.2.2.1 1 99999).bind fun r6=>
      bif r6.1 then
       some (1,())
      else
       (sj a0).bind fun r7=>
       some (r7.1,())
abbrev lI:Type:=Int×Int×(List Int)×Unit
abbrev lH:Type:=((Int×Unit) ⊕ Unit)
def pP (x1:lI) (again:lI→Option lH):Option lH:=
 bif decide (x1.2.1<x1.1) then
  chk (decide (0≤x1.2.1)&&decide (x1.2.1<(x1.2.2.1.length:Int))) <|
  (x1.2.2.1[x1.2.1.toNat]?).bind fun y2=>
  bif y2 != 0 then
   some (.inl (y2,()))
  else
   again (x1.1,w64 (x1.2.1+1),x1.2.2.1,())
 else
  some (.inr ())
def kR (a0:aa) (a1:aa):Option (Int×Unit):=
 aL (
  iter (X:=lI) (β:=lH) (Int.natAbs ((List.length [(w64 (a0.1 - a1.1)),(w64 (a0.2.1 - a1.2.1)),(w64 (a0.2.2.1 - a1.2.2.1))]:Int))+(Int.natAbs (0:Int)+(List.length ([(w64 (a0.1 - a1.1)),(w64 (a0.2.1 - a1.2.1)),(w64 (a0.2.2.1 - a1.2.2.1))]:List Int)+2))) ((List.length [(w64 (a0.1 - a1.1)),(w64 (a0.2.1 - a1.2.1)),(w64 (a0.2.2.1 - a1.2.2.1))]:Int),0,[(w64 (a0.1 - a1.1)),(w64 (a0.2.1 - a1.2.1)),(w64 (a0.2.2.1 - a1.2.2.1))],()) (pP)) fun _=>
 some (0,())
abbrev jQ:Type:=(List aa)×(List aa)×Int×Int×Int×Int×Int×Unit
abbrev gZ:Type:=((Int×Unit) ⊕ Unit)
def jP (x1:jQ) (again:jQ→Option gZ):Option gZ:=
 match x1 with
 | (A,B,C,D,E,F,G,_)=>
 bif decide (D<C) then
  (idx B D).bind fun y2=>
  (sd y2).bind fun r3=>
  bif r3.1 != 0 then
   some (.inl (r3.1,()))
  else
   (
    bif decide (D>0) then
     Option.bind (idx A (w64 (D - 1))) fun y4=>
     Option.bind (kR y4 y2) fun r5=>
     some (decide (r5.1≥0),())
    else
     some (false,())).bind fun v6=>
   bif v6.1 then
    some (.inl (8,()))
   else
    bif y2.2.1==0 then
     bif y2.2.2.1 != (w64 (E+1)) then
      some (.inl (9,()))
     else
      bif y2.2.1==0 then
       again (A,B,C,w64 (D+1),y2.2.2.1,F,G,())
      else
       bif y2.2.1==1 then
        again (A,B,C,w64 (D+1),E,y2.2.2.1,G,())
       else
        bif y2.2.1==2 then
         again (A,B,C,w64 (D+1),E,F,y2.2.2.1,())
        else
         none
    else
     bif y2.2.1==1 then
      bif y2.2.2.1 != (w64 (F+1)) then
       some (.inl (9,()))
      else
       bif y2.2.1==0 then
        again (A,B,C,w64 (D+1),y2.2.2.1,F,G,())
       else
        bif y2.2.1==1 then
         again (A,B,C,w64 (D+1),E,y2.2.2.1,G,())
        else
         bif y2.2.1==2 then
          again (A,B,C,w64 (D+1),E,F,y2.2.2.1,())
         else
          none
     else
      bif y2.2.1==2 then
       bif y2.2.2.1 != (w64 (G+1)) then
        some (.inl (9,()))
       else
        bif y2.2.1==0 then
         again (A,B,C,w64 (D+1),y2.2.2.1,F,G,())
        else
         bif y2.2.1==1 then
          again (A,B,C,w64 (D+1),E,y2.2.2.1,G,())
         else
          bif y2.2.1==2 then
           again (A,B,C,w64 (D+1),E,F,y2.2.2.1,())
          else
           none
      else
       none
 else
  some (.inr ())
def jY (a0:List aa):Option (Int×Unit):=
 bif decide (((a0.length:Int))>2000) then
  some (2,())
 else
  aL (
   iter (X:=jQ) (β:=gZ) (a0.length+(a0.length+(Int.natAbs ((a0.length:Int))+(Int.natAbs (0:Int)+(Int.natAbs (0:Int)+(Int.natAbs (0:Int)+(Int.natAbs (0:Int)+2))))))) (a0,a0,(a0.length:Int),0,0,0,0,()) (jP)) fun _=>
  some (0,())
def nS (a0:aj) (a1:List aa):Option (Int×Unit):=
 (qC a0).bind fun r1=>
 bif r1.1 != 0 then
  some (r1.1,())
 else
  (jY a1).bind fun r2=>
  some (r2.1,())
def gM (a0:ah):Option (Int×Unit):=
 (yC (w64 (3 - a0.2))).bind fun r1=>
 some (w64 (a0.1*r1.1),())
abbrev mG:Type:=(List aO)×Int×Int×Bys×Bys×Bys×Int×Int×(List aO)×(List aa)×(List ah)×(List au)×Int×(List (Int×(Option Nat)))×(List ak)×Unit
abbrev qD:Type:=(((aj×(List aa)×(List (Int×(Option Nat)))×(List ah)×(List au)×Int×Unit)×(List ak)×Unit) ⊕ (Bys×Bys×Bys×Int×Int×(List aO)×(List aa)×(List ah)×(List au)×Int×(List (Int×(Option Nat)))×(List ak)×Unit))
def mF (x1:mG) (again:mG→Option qD):Option qD:=
 match x1 with
 | (A,B,C,D,E,F,G,H,I,J,K,L,M,N,O,_)=>
 bif decide (C<B) then
  (idx A C).bind fun y2=>
  (gM y2.2.2.1).bind fun r3=>
  again (A,B,w64 (C+1),D,E,F,G,H,I,J,K,L,M,jH (k:=tI) (v:= .hnd) N y2.1 (some (O.length)),O++[(y2.1,y2.2.1,y2.2.2.2.1,r3.1,0,0,0,y2.2.2.2.2.1,y2.2.2.2.2.2,(-1),0,0,0)],())
 else
  some (.inr (D,E,F,G,H,I,J,K,L,M,N,O,()))
def gW (a0:aj) (a1:List aa) (a2:List ak):Option ((aj×(List aa)×(List (Int×(Option Nat)))×(List ah)×(List au)×Int×Unit)×(List ak)×Unit):=
 aL (
  iter (X:=mG) (β:=qD) (a0.2.2.2.2.2.length+(Int.natAbs ((a0.2.2.2.2.2.length:Int))+(Int.natAbs (0:Int)+(a0.1.length+(a0.2.1.length+(a0.2.2.1.length+(a0.2.2.2.1.natAbs+(a0.2.2.2.2.1.natAbs+(a0.2.2.2.2.2.length+(a1.length+(List.length ([]:List ah)+(List.length ([]:List au)+(Int.natAbs (0:Int)+(List.length ([]:List (Int×(Option Nat)))+(a2.length+2))))))))))))))) (a0.2.2.2.2.2,(a0.2.2.2.2.2.length:Int),0,a0.1,a0.2.1,a0.2.2.1,a0.2.2.2.1,a0.2.2.2.2.1,a0.2.2.2.2.2,a1,[],[],0,[],a2,()) (mF)) fun (A,B,C,D,E,F,G,H,I,J,K,L,_)=>
 some (((A,B,C,D,E,F),G,K,H,I,J,()),L,())
def ox (a0:aj×(List aa)×(List (Int×(Option Nat)))×(List ah)×(List au)×Int×Unit) (a1:Int) (a2:List ak):Option (Int×(aj×(List aa)×(List (Int×(Option Nat)))×(List ah)×(List au)×Int×Unit)×(List ak)×Unit):=
 (idx a0.2.1 a1).bind fun y1=>
 bif !(Option.isNone (Option.getD (α:=Option Nat) (bA (k:=tI) (v:= .hnd) a0.2.2.1 y1.2.2.2.2.1) none)) then
  some (7,(a0.1,a0.2.1,a0.2.2.1,a0.2.2.2.1,a0.2.2.2.2.1,a0.2.2.2.2.2.1,()),a2,())
 else
  bif decide (((a0.2.2.1.length:Int))≥500) then
   some (16,(a0.1,a0.2.1,a0.2.2.1,a0.2.2.2.1,a0.2.2.2.2.1,a0.2.2.2.2.2.1,()),a2,())
  else
   bif decide (y1.2.2.2.2.2.2.2.2.2.1<a0.1.2.2.2.1) then
    some (1,(a0.1,a0.2.1,a0.2.2.1,a0.2.2.2.1,a0.2.2.2.2.1,a0.2.2.2.2.2.1,()),a2,())
   else
    some (0,(a0.1,a0.2.1,jH (k:=tI) (v:= .hnd) a0.2.2.1 y1.2.2.2.2.1 (some (a2.length)),a0.2.2.2.1,a0.2.2.2.2.1,a0.2.2.2.2.2.1,()),a2++[(y1.2.2.2.2.1,y1.2.2.2.2.2.1,y1.2.2.2.2.2.2.2.1,0,0,0,0,y1.2.2.2.2.2.2.2.2.1,y1.2.2.2.2.2.2.2.2.2.1,a1,0,0,0)],())
def nH (a0:aj×(List aa)×(List (Int×(Option Nat)))×(List ah)×(List au)×Int×Unit) (a1:Option Nat) (a2:Int) (a3:List ak):Option (Int×(aj×(List aa)×(List (Int×(Option Nat)))×(List ah)×(List au)×Int×Unit)×(List ak)×Unit):=
 (idx a0.2.1 a2).bind fun y1=>
 (
  bif y1.2.2.2.1==3 then
   some (decide (y1.2.2.2.2.2.2.2.2.2.1<a0.1.2.2.2.1),())
  else
   some (false,())).bind fun v2=>
 bif v2.1 then
  some (1,(a0.1,a0.2.1,a0.2.2.1,a0.2.2.2.1,a0.2.2.2.2.1,a0.2.2.2.2.2.1,()),a3,())
 else
  (a1).bind fun h3=>
  (a3[h3]?).bind fun y4=>
  bif decide (y4.2.2.2.2.2.2.2.2.2.1≥0) then
   some (11,(a0.1,a0.2.1,a0.2.2.1,a0.2.2.2.1,a0.2.2.2.2.1,a0.2.2.2.2.2.1,()),a3,())
  else
   (a1).bind fun h5=>
   (a3[h5]?).bind fun y6=>
   some (0,(a0.1,a0.2.1,a0.2.2.1,a0.2.2.2.1,a0.2.2.2.2.1,a0.2.2.2.2.2.1,()),List.set a3 h5 (y6.1,y6.2.1,y6.2.2.1,y6.2.2.2.1,y6.2.2.2.2.1,y6.2.2.2.2.2.1,y6.2.2.2.2.2.2.1,y6.2.2.2.2.2.2.2.1,y6.2.2.2.2.2.2.2.2.1,a2,y6.2.2.2.2.2.2.2.2.2.2),())
def lJ (a0:aj×(List aa)×(List (Int×(Option Nat)))×(List ah)×(List au)×Int×Unit) (a1:Option Nat) (a2:aa) (a3:List ak):Option (Int×(aj×(List aa)×(List (Int×(Option Nat)))×(List ah)×(List au)×Int×Unit)×(List ak)×Unit):=
 (a1).bind fun h1=>
 (a3[h1]?).bind fun y2=>
 bif decide (y2.2.2.2.2.2.2.2.2.2.1<0) then
  some (5,(a0.1,a0.2.1,a0.2.2.1,a0.2.2.2.1,a0.2.2.2.2.1,a0.2.2.2.2.2.1,()),a3,())
 else
  (a1).bind fun h3=>
  (a3[h3]?).bind fun y4=>
  (idx a0.2.1 y4.2.2.2.2.2.2.2.2.2.1).bind fun y5=>
  bif y5.2.2.1 != a2.2.2.2.2.2.2.2.2.2.2 then
   some (5,(a0.1,a0.2.1,a0.2.2.1,a0.2.2.2.1,a0.2.2.2.2.1,a0.2.2.2.2.2.1,()),a3,())
  else
   (a1).bind fun h6=>
   (a3[h6]?).bind fun y7=>
   (idx a0.2.1 y7.2.2.2.2.2.2.2.2.2.1).bind fun y8=>
   bif a2.2.2.2.1==5 then
    bif y8.2.2.2.1==2 then
     (gM y8.2.2.2.2.2.2.1).bind fun r9=>
     (a1).bind fun h10=>
     (a3[h10]?).bind fun y11=>
     (a1).bind fun h12=>
     (a3[h12]?).bind fun y13=>
     bif decide (r9.1<(w64 (y11.2.2.2.2.1 - y13.2.2.2.2.2.2.1))) then
      some (12,(a0.1,a0.2.1,a0.2.2.1,a0.2.2.2.1,a0.2.2.2.2.1,a0.2.2.2.2.2.1,()),a3,())
     else
      (gM y8.2.2.2.2.2.2.1).bind fun r14=>
      (a1).bind fun h15=>
      (a3[h15]?).bind fun y16=>
      (a1).bind fun h17=>
      ((List.set a3 h15 (y16.1,y16.2.1,y16.2.2.1,r14.1,y16.2.2.2.2))[h17]?).bind fun y18=>
      some (0,(a0.1,a0.2.1,a0.2.2.1,a0.2.2.2.1,a0.2.2.2.2.1,a0.2.2.2.2.2.1,()),List.set (List.set a3 h15 (y16.1,y16.2.1,y16.2.2.1,r14.1,y16.2.2.2.2)) h17 (y18.1,y18.2.1,y18.2.2.1,y18.2.2.2.1,y18.2.2.2.2.1,y18.2.2.2.2.2.1,y18.2.2.2.2.2.2.1,y18.2.2.2.2.2.2.2.1,y18.2.2.2.2.2.2.2.2.1,(-1),y18.2.2.2.2.2.2.2.2.2.2),())
    else
     bif y8.2.2.2.1==1 then
      (gM y8.2.2.2.2.2.2.1).bind fun r19=>
      (a1).bind fun h20=>
      (a3[h20]?).bind fun y21=>
      (a1).bind fun h22=>
      ((List.set a3 h20 (y21.1,y21.2.1,y21.2.2.1,r19.1,y21.2.2.2.2))[h22]?).bind fun y23=>
      some (0,(a0.1,a0.2.1,a0.2.2.1,a0.2.2.2.1,a0.2.2.2.2.1,a0.2.2.2.2.2.1,()),List.set (List.set a3 h20 (y21.1,y21.2.1,y21.2.2.1,r19.1,y21.2.2.2.2)) h22 (y23.1,y23.2.1,y23.2.2.1,y23.2.2.2.1,y23.2.2.2.2.1,y23.2.2.2.2.2.1,y23.2.2.2.2.2.2.1,y23.2.2.2.2.2.2.2.1,y23.2.2.2.2.2.2.2.2.1,(-1),y23.2.2.2.2.2.2.2.2.2.2),())
     else
      bif y8.2.2.2.1==3 then
       (a1).bind fun h24=>
       (a3[h24]?).bind fun y25=>
       (a1).bind fun h26=>
       ((List.set a3 h24 (y25.1,y25.2.1,y25.2.2.1,y25.2.2.2.1,y25.2.2.2.2.1,y25.2.2.2.2.2.1,y25.2.2.2.2.2.2.1,y25.2.2.2.2.2.2.2.1,y8.2.2.2.2.2.2.2.2.2.1,y25.2.2.2.2.2.2.2.2.2))[h26]?).bind fun y27=>
       some (0,(a0.1,a0.2.1,a0.2.2.1,a0.2.2.2.1,a0.2.2.2.2.1,a0.2.2.2.2.2.1,()),List.set (List.set a3 h24 (y25.1,y25.2.1,y25.2.2.1,y25.2.2.2.1,y25.2.2.2.2.1,y25.2.2.2.2.2.1,y25.2.2.2.2.2.2.1,y25.2.2.2.2.2.2.2.1,y8.2.2.2.2.2.2.2.2.2.1,y25.2.2.2.2.2.2.2.2.2)) h26 (y27.1,y27.2.1,y27.2.2.1,y27.2.2.2.1,y27.2.2.2.2.1,y27.2.2.2.2.2.1,y27.2.2.2.2.2.2.1,y27.2.2.2.2.2.2.2.1,y27.2.2.2.2.2.2.2.2.1,(-1),y27.2.2.2.2.2.2.2.2.2.2),())
      else
       (a1).bind fun h28=>
       (a3[h28]?).bind fun y29=>
       (a1).bind fun h30=>
       ((List.set a3 h28 (y29.1,y29.2.1,y29.2.2.1,y29.2.2.2.1,y29.2.2.2.2.1,y29.2.2.2.2.2.1,y29.2.2.2.2.2.2.1,y8.2.2.2.2.2.2.2.2.1,y29.2.2.2.2.2.2.2.2))[h30]?).bind fun y31=>
       some (0,(a0.1,a0.2.1,a0.2.2.1,a0.2.2.2.1,a0.2.2.2.2.1,a0.2.2.2.2.2.1,()),List.set (List.set a3 h28 (y29.1,y29.2.1,y29.2.2.1,y29.2.2.2.1,y29.2.2.2.2.1,y29.2.2.2.2.2.1,y29.2.2.2.2.2.2.1,y8.2.2.2.2.2.2.2.2.1,y29.2.2.2.2.2.2.2.2)) h30 (y31.1,y31.2.1,y31.2.2.1,y31.2.2.2.1,y31.2.2.2.2.1,y31.2.2.2.2.2.1,y31.2.2.2.2.2.2.1,y31.2.2.2.2.2.2.2.1,y31.2.2.2.2.2.2.2.2.1,(-1),y31.2.2.2.2.2.2.2.2.2.2),())
   else
    (a1).bind fun h32=>
    (a3[h32]?).bind fun y33=>
    some (0,(a0.1,a0.2.1,a0.2.2.1,a0.2.2.2.1,a0.2.2.2.2.1,a0.2.2.2.2.2.1,()),List.set a3 h32 (y33.1,y33.2.1,y33.2.2.1,y33.2.2.2.1,y33.2.2.2.2.1,y33.2.2.2.2.2.1,y33.2.2.2.2.2.2.1,y33.2.2.2.2.2.2.2.1,y33.2.2.2.2.2.2.2.2.1,(-1),y33.2.2.2.2.2.2.2.2.2.2),())
def gw (a0:Option Nat) (a1:List ak):Option (Int×Unit):=
 (a0).bind fun h1=>
 (a1[h1]?).bind fun y2=>
 (a0).bind fun h3=>
 (a1[h3]?).bind fun y4=>
 (a0).bind fun h5=>
 (a1[h5]?).bind fun y6=>
 some (if (w64 ((w64 (y2.2.2.2.1 - y4.2.2.2.2.1))+y6.2.2.2.2.2.2.1))>0 then (w64 ((w64 (y2.2.2.2.1 - y4.2.2.2.2.1))+y6.2.2.2.2.2.2.1)) else 0,())
def kI (a0:aj×(List aa)×(List (Int×(Option Nat)))×(List ah)×(List au)×Int×Unit) (a1:Option Nat) (a2:aa) (a3:List ak):Option (Int×(aj×(List aa)×(List (Int×(Option Nat)))×(List ah)×(List au)×Int×Unit)×(List ak)×Unit):=
 bif decide (a2.2.2.2.2.2.2.2.2.2.1<a0.1.2.2.2.1) then
  some (1,(a0.1,a0.2.1,a0.2.2.1,a0.2.2.2.1,a0.2.2.2.2.1,a0.2.2.2.2.2.1,()),a3,())
 else
  (a1).bind fun h1=>
  (a3[h1]?).bind fun y2=>
  bif decide (y2.2.2.2.2.2.2.2.2.2.1≥0) then
   some (11,(a0.1,a0.2.1,a0.2.2.1,a0.2.2.2.1,a0.2.2.2.2.1,a0.2.2.2.2.2.1,()),a3,())
  else
   (gw a1 a3).bind fun r3=>
   bif r3.1==0 then
    some (11,(a0.1,a0.2.1,a0.2.2.1,a0.2.2.2.1,a0.2.2.2.2.1,a0.2.2.2.2.2.1,()),a3,())
   else
    (gM a2.2.2.2.2.2.2.1).bind fun r4=>
    (gw a1 a3).bind fun r5=>
    bif decide (r4.1>r5.1) then
     some (12,(a0.1,a0.2.1,a0.2.2.1,a0.2.2.2.1,a0.2.2.2.2.1,a0.2.2.2.2.2.1,()),a3,())
    else
     some (0,(a0.1,a0.2.1,a0.2.2.1,a0.2.2.2.1,a0.2.2.2.2.1,a0.2.2.2.2.2.1,()),a3,())
def nG (a0:aj×(List aa)×(List (Int×(Option Nat)))×(List ah)×(List au)×Int×Unit) (a1:Option Nat) (a2:aa) (a3:List ak):Option (Int×(aj×(List aa)×(List (Int×(Option Nat)))×(List ah)×(List au)×Int×Unit)×(List ak)×Unit):=
 (a1).bind fun h1=>
 (a3[h1]?).bind fun y2=>
 bif decide (y2.2.2.2.2.2.2.2.2.2.1≥0) then
  some (11,(a0.1,a0.2.1,a0.2.2.1,a0.2.2.2.1,a0.2.2.2.2.1,a0.2.2.2.2.2.1,()),a3,())
 else
  (a1).bind fun h3=>
  (a3[h3]?).bind fun y4=>
  bif y4.2.2.2.2.2.2.2.2.2.2.1==0 then
   some (5,(a0.1,a0.2.1,a0.2.2.1,a0.2.2.2.1,a0.2.2.2.2.1,a0.2.2.2.2.2.1,()),a3,())
  else
   (a1).bind fun h5=>
   (a3[h5]?).bind fun y6=>
   bif y6.2.2.2.2.2.2.2.2.2.2.1 != a2.2.2.2.2.2.2.2.2.2.2 then
    some (5,(a0.1,a0.2.1,a0.2.2.1,a0.2.2.2.1,a0.2.2.2.2.1,a0.2.2.2.2.2.1,()),a3,())
   else
    (a1).bind fun h7=>
    (a3[h7]?).bind fun y8=>
    (a1).bind fun h9=>
    (a3[h9]?).bind fun y10=>
    (a1).bind fun h11=>
    (a3[h11]?).bind fun y12=>
    (a1).bind fun h13=>
    (a3[h13]?).bind fun y14=>
    (a1).bind fun h15=>
    (a3[h15]?).bind fun y16=>
    (a1).bind fun h17=>
    ((List.set a3 h15 (y16.1,y16.2.1,y16.2.2.1,w64 ((w64 (y8.2.2.2.2.1 - y10.2.2.2.2.2.2.1))+y12.2.2.2.2.2.2.2.2.2.2.2.1),y16.2.2.2.2))[h17]?).bind fun y18=>
    (a1).bind fun h19=>
    ((List.set (List.set a3 h15 (y16.1,y16.2.1,y16.2.2.1,w64 ((w64 (y8.2.2.2.2.1 - y10.2.2.2.2.2.2.1))+y12.2.2.2.2.2.2.2.2.2.2.2.1),y16.2.2.2.2)) h17 (y18.1,y18.2.1,y18.2.2.1,y18.2.2.2.1,y18.2.2.2.2.1,y18.2.2.2.2.2.1,y18.2.2.2.2.2.2.1,y18.2.2.2.2.2.2.2.1,y14.2.2.2.2.2.2.2.2.2.2.2.2,y18.2.2.2.2.2.2.2.2.2))[h19]?).bind fun y20=>
    some (0,(a0.1,a0.2.1,a0.2.2.1,a0.2.2.2.1,a0.2.2.2.2.1,a0.2.2.2.2.2.1,()),List.set (List.set (List.set a3 h15 (y16.1,y16.2.1,y16.2.2.1,w64 ((w64 (y8.2.2.2.2.1 - y10.2.2.2.2.2.2.1))+y12.2.2.2.2.2.2.2.2.2.2.2.1),y16.2.2.2.2)) h17 (y18.1,y18.2.1,y18.2.2.1,y18.2.2.2.1,y18.2.2.2.2.1,y18.2.2.2.2.2.1,y18.2.2.2.2.2.2.1,y18.2.2.2.2.2.2.2.1,y14.2.2.2.2.2.2.2.2.2.2.2.2,y18.2.2.2.2.2.2.2.2.2)) h19 (y20.1,y20.2.1,y20.2.2.1,y20.2.2.2.1,y20.2.2.2.2.1,y20.2.2.2.2.2.1,y20.2.2.2.2.2.2.1,y20.2.2.2.2.2.2.2.1,y20.2.2.2.2.2.2.2.2.1,y20.2.2.2.2.2.2.2.2.2.1,0,0,0),())
def nF (a0:aj×(List aa)×(List (Int×(Option Nat)))×(List ah)×(List au)×Int×Unit) (a1:Option Nat) (a2:aa) (a3:List ak):Option (Int×(aj×(List aa)×(List (Int×(Option Nat)))×(List ah)×(List au)×Int×Unit)×(List ak)×Unit):=
 (gM a2.2.2.2.2.2.2.1).bind fun r1=>
 bif a2.2.2.2.1==9 then
  (a1).bind fun h2=>
  (a3[h2]?).bind fun y3=>
  (a1).bind fun h4=>
  (a3[h4]?).bind fun y5=>
  (a1).bind fun h6=>
  (a3[h6]?).bind fun y7=>
  (a1).bind fun h8=>
  (a3[h8]?).bind fun y9=>
  let n10:Int:=w64 (y7.2.2.2.1+(w64 (Int.tdiv (w64 (y9.2.2.2.1*a0.1.2.2.2.2.1)) 1000)))
  bif decide ((w64 ((w64 (y3.2.2.2.2.1 - y5.2.2.2.2.2.2.1))+r1.1))>n10) then
   some (12,(a0.1,a0.2.1,a0.2.2.1,a0.2.2.2.1,a0.2.2.2.2.1,a0.2.2.2.2.2.1,()),a3,())
  else
   (a1).bind fun h11=>
   (a3[h11]?).bind fun y12=>
   bif decide ((w64 (y12.2.2.2.2.1+r1.1))>1000000000000000) then
    some (16,(a0.1,a0.2.1,a0.2.2.1,a0.2.2.2.1,a0.2.2.2.2.1,a0.2.2.2.2.2.1,()),a3,())
   else
    (a1).bind fun h13=>
    (a3[h13]?).bind fun y14=>
    (a1).bind fun h15=>
    (a3[h15]?).bind fun y16=>
    some (0,(a0.1,a0.2.1,a0.2.2.1,a0.2.2.2.1,a0.2.2.2.2.1,a0.2.2.2.2.2.1,()),List.set a3 h15 (y16.1,y16.2.1,y16.2.2.1,y16.2.2.2.1,w64 (y14.2.2.2.2.1+r1.1),y16.2.2.2.2.2),())
 else
  bif a2.2.2.2.1==10 then
   (a1).bind fun h17=>
   (a3[h17]?).bind fun y18=>
   (a1).bind fun h19=>
   (a3[h19]?).bind fun y20=>
   bif decide ((w64 (y18.2.2.2.2.2.1+r1.1))>y20.2.2.2.2.1) then
    some (12,(a0.1,a0.2.1,a0.2.2.1,a0.2.2.2.1,a0.2.2.2.2.1,a0.2.2.2.2.2.1,()),a3,())
   else
    (a1).bind fun h21=>
    (a3[h21]?).bind fun y22=>
    (a1).bind fun h23=>
    (a3[h23]?).bind fun y24=>
    some (0,(a0.1,a0.2.1,a0.2.2.1,a0.2.2.2.1,a0.2.2.2.2.1,a0.2.2.2.2.2.1,()),List.set a3 h23 (y24.1,y24.2.1,y24.2.2.1,y24.2.2.2.1,y24.2.2.2.2.1,w64 (y22.2.2.2.2.2.1+r1.1),y24.2.2.2.2.2.2),())
  else
   (a1).bind fun h25=>
   (a3[h25]?).bind fun y26=>
   (a1).bind fun h27=>
   (a3[h27]?).bind fun y28=>
   bif decide ((w64 (y26.2.2.2.2.2.2.1+r1.1))>y28.2.2.2.2.2.1) then
    some (12,(a0.1,a0.2.1,a0.2.2.1,a0.2.2.2.1,a0.2.2.2.2.1,a0.2.2.2.2.2.1,()),a3,())
   else
    (a1).bind fun h29=>
    (a3[h29]?).bind fun y30=>
    (a1).bind fun h31=>
    (a3[h31]?).bind fun y32=>
    some (0,(a0.1,a0.2.1,a0.2.2.1,a0.2.2.2.1,a0.2.2.2.2.1,a0.2.2.2.2.2.1,()),List.set a3 h31 (y32.1,y32.2.1,y32.2.2.1,y32.2.2.2.1,y32.2.2.2.2.1,y32.2.2.2.2.2.1,w64 (y30.2.2.2.2.2.2.1+r1.1),y32.2.2.2.2.2.2.2),())
def aK (a0:aj×(List aa)×(List (Int×(Option Nat)))×(List ah)×(List au)×Int×Unit) (a1:Int) (a2:List ak):Option (Int×(aj×(List aa)×(List (Int×(Option Nat)))×(List ah)×(List au)×Int×Unit)×(List ak)×Unit):=
 (idx a0.2.1 a1).bind fun y1=>
 bif y1.2.2.2.1==1 then
  (ox (a0.1,a0.2.1,a0.2.2.1,a0.2.2.2.1,a0.2.2.2.2.1,a0.2.2.2.2.2.1,()) a1 a2).bind fun r2=>
  some (r2.1,(r2.2.1.1,r2.2.1.2.1,r2.2.1.2.2.1,r2.2.1.2.2.2.1,r2.2.1.2.2.2.2.1,r2.2.1.2.2.2.2.2.1,()),r2.2.2.1,())
 else
  bif Option.isNone (Option.getD (α:=Option Nat) (bA (k:=tI) (v:= .hnd) a0.2.2.1 y1.2.2.2.2.1) none) then
   some (9,(a0.1,a0.2.1,a0.2.2.1,a0.2.2.2.1,a0.2.2.2.2.1,a0.2.2.2.2.2.1,()),a2,())
  else
   aL (γ:=(Int×(Option Nat)×Int×Bool×Int×Int×Int×Int×Int×Bys×Int×Int×Bys×Int×Int×Int×Int×Bys×Bys×Bys×Int×Int×(List aO)×(List aa)×Int×(List ah)×(List au)×(List (Int×(Option Nat)))×(List ak)×Unit)) (
    bif y1.2.2.2.1==2 then
     some (.inr (a1,Option.getD (α:=Option Nat) (bA (k:=tI) (v:= .hnd) a0.2.2.1 y1.2.2.2.2.1) none,y1.2.2.2.1,y1.2.2.2.1==2,y1.1,y1.2.1,y1.2.2.1,y1.2.2.2.1,y1.2.2.2.2.1,y1.2.2.2.2.2.1,y1.2.2.2.2.2.2.1.1,y1.2.2.2.2.2.2.1.2,y1.2.2.2.2.2.2.2.1,y1.2.2.2.2.2.2.2.2.1.1,y1.2.2.2.2.2.2.2.2.1.2,y1.2.2.2.2.2.2.2.2.2.1,y1.2.2.2.2.2.2.2.2.2.2,a0.1.1,a0.1.2.1,a0.1.2.2.1,a0.1.2.2.2.1,a0.1.2.2.2.2.1,a0.1.2.2.2.2.2,a0.2.1,a0.2.2.2.2.2.1,a0.2.2.2.1,a0.2.2.2.2.1,a0.2.2.1,a2,()))
    else
     bif y1.2.2.2.1==3 then
      some (.inr (a1,Option.getD (α:=Option Nat) (bA (k:=tI) (v:= .hnd) a0.2.2.1 y1.2.2.2.2.1) none,y1.2.2.2.1,y1.2.2.2.1==3,y1.1,y1.2.1,y1.2.2.1,y1.2.2.2.1,y1.2.2.2.2.1,y1.2.2.2.2.2.1,y1.2.2.2.2.2.2.1.1,y1.2.2.2.2.2.2.1.2,y1.2.2.2.2.2.2.2.1,y1.2.2.2.2.2.2.2.2.1.1,y1.2.2.2.2.2.2.2.2.1.2,y1.2.2.2.2.2.2.2.2.2.1,y1.2.2.2.2.2.2.2.2.2.2,a0.1.1,a0.1.2.1,a0.1.2.2.1,a0.1.2.2.2.1,a0.1.2.2.2.2.1,a0.1.2.2.2.2.2,a0.2.1,a0.2.2.2.2.2.1,a0.2.2.2.1,a0.2.2.2.2.1,a0.2.2.1,a2,()))
     else
      some (.inr (a1,Option.getD (α:=Option Nat) (bA (k:=tI) (v:= .hnd) a0.2.2.1 y1.2.2.2.2.1) none,y1.2.2.2.1,y1.2.2.2.1==4,y1.1,y1.2.1,y1.2.2.1,y1.2.2.2.1,y1.2.2.2.2.1,y1.2.2.2.2.2.1,y1.2.2.2.2.2.2.1.1,y1.2.2.2.2.2.2.1.2,y1.2.2.2.2.2.2.2.1,y1.2.2.2.2.2.2.2.2.1.1,y1.2.2.2.2.2.2.2.2.1.2,y1.2.2.2.2.2.2.2.2.2.1,y1.2.2.2.2.2.2.2.2.2.2,a0.1.1,a0.1.2.1,a0.1.2.2.1,a0.1.2.2.2.1,a0.1.2.2.2.2.1,a0.1.2.2.2.2.2,a0.2.1,a0.2.2.2.2.2.1,a0.2.2.2.1,a0.2.2.2.2.1,a0.2.2.1,a2,()))) fun (A,B,C,D,E,F,G,H,I,J,K,L,M,N,O,P,Q,R,S,T,U,V,W,X,Y,Z,A0,B0,C0,_)=>
   bif D then
    (nH ((R,S,T,U,V,W),X,B0,Z,A0,Y,()) B A C0).bind fun r4=>
    some (r4.1,(r4.2.1.1,r4.2.1.2.1,r4.2.1.2.2.1,r4.2.1.2.2.2.1,r4.2.1.2.2.2.2.1,r4.2.1.2.2.2.2.2.1,()),r4.2.2.1,())
   else
    aL (γ:=((Option Nat)×Int×Bool×Int×Int×Int×Int×Int×Bys×Int×Int×Bys×Int×Int×Int×Int×Bys×Bys×Bys×Int×Int×(List aO)×(List aa)×Int×(List ah)×(List au)×(List (Int×(Option Nat)))×(List ak)×Unit)) (
     bif C==5 then
      some (.inr (B,C,C==5,E,F,G,H,I,J,K,L,M,N,O,P,Q,R,S,T,U,V,W,X,Y,Z,A0,B0,C0,()))
     else
      some (.inr (B,C,C==6,E,F,G,H,I,J,K,L,M,N,O,P,Q,R,S,T,U,V,W,X,Y,Z,A0,B0,C0,()))) fun (D0,E0,F0,G0,H0,I0,J0,K0,L0,M0,N0,O0,P0,Q0,R0,S0,T0,U0,V0,W0,X0,Y0,Z0,A1,B1,C1,D1,E1,_)=>
    aL (γ:=((Option Nat)×Int×Int×Int×Int×Int×Int×Bys×Int×Int×Bys×Int×Int×Int×Int×Bys×Bys×Bys×Int×Int×(List aO)×(List aa)×(List (Int×(Option Nat)))×(List ah)×(List au)×Int×(List ak)×Unit)) (
     bif F0 then
      (lJ ((T0,U0,V0,W0,X0,Y0),Z0,D1,B1,C1,A1,()) D0 (G0,H0,I0,J0,K0,L0,(M0,N0),O0,(P0,Q0),R0,S0) E1).bind fun r6=>
      some (.inr (D0,r6.1,G0,H0,I0,J0,K0,L0,M0,N0,O0,P0,Q0,R0,S0,r6.2.1.1.1,r6.2.1.1.2.1,r6.2.1.1.2.2.1,r6.2.1.1.2.2.2.1,r6.2.1.1.2.2.2.2.1,r6.2.1.1.2.2.2.2.2,r6.2.1.2.1,r6.2.1.2.2.1,r6.2.1.2.2.2.1,r6.2.1.2.2.2.2.1,r6.2.1.2.2.2.2.2.1,r6.2.2.1,()))
     else
      bif E0==7 then
       (kI ((T0,U0,V0,W0,X0,Y0),Z0,D1,B1,C1,A1,()) D0 (G0,H0,I0,J0,K0,L0,(M0,N0),O0,(P0,Q0),R0,S0) E1).bind fun r7=>
       some (.inr (D0,r7.1,G0,H0,I0,J0,K0,L0,M0,N0,O0,P0,Q0,R0,S0,r7.2.1.1.1,r7.2.1.1.2.1,r7.2.1.1.2.2.1,r7.2.1.1.2.2.2.1,r7.2.1.1.2.2.2.2.1,r7.2.1.1.2.2.2.2.2,r7.2.1.2.1,r7.2.1.2.2.1,r7.2.1.2.2.2.1,r7.2.1.2.2.2.2.1,r7.2.1.2.2.2.2.2.1,r7.2.2.1,()))
      else
       bif E0==8 then
        (nG ((T0,U0,V0,W0,X0,Y0),Z0,D1,B1,C1,A1,()) D0 (G0,H0,I0,J0,K0,L0,(M0,N0),O0,(P0,Q0),R0,S0) E1).bind fun r8=>
        some (.inl (r8.1,(r8.2.1.1,r8.2.1.2.1,r8.2.1.2.2.1,r8.2.1.2.2.2.1,r8.2.1.2.2.2.2.1,r8.2.1.2.2.2.2.2.1,()),r8.2.2.1,()))
       else
        (nF ((T0,U0,V0,W0,X0,Y0),Z0,D1,B1,C1,A1,()) D0 (G0,H0,I0,J0,K0,L0,(M0,N0),O0,(P0,Q0),R0,S0) E1).bind fun r9=>
        some (.inr (D0,r9.1,G0,H0,I0,J0,K0,L0,M0,N0,O0,P0,Q0,R0,S0,r9.2.1.1.1,r9.2.1.1.2.1,r9.2.1.1.2.2.1,r9.2.1.1.2.2.2.1,r9.2.1.1.2.2.2.2.1,r9.2.1.1.2.2.2.2.2,r9.2.1.2.1,r9.2.1.2.2.1,r9.2.1.2.2.2.1,r9.2.1.2.2.2.2.1,r9.2.1.2.2.2.2.2.1,r9.2.2.1,()))) fun (F1,G1,_,_,H1,I1,_,_,J1,K1,_,_,_,L1,_,M1,N1,O1,P1,Q1,R1,S1,T1,U1,V1,W1,X1,_)=>
    (
     bif G1==0 then
      Option.bind (oy I1) fun r11=>
      some (r11.1,())
     else
      some (false,())).bind fun v12=>
    bif v12.1 then
     (F1).bind fun h13=>
     (X1[h13]?).bind fun y14=>
     bif I1==7 then
      (gM (J1,K1)).bind fun r15=>
      (F1).bind fun h16=>
      ((List.set X1 h13 (y14.1,y14.2.1,y14.2.2.1,y14.2.2.2.1,y14.2.2.2.2.1,y14.2.2.2.2.2.1,y14.2.2.2.2.2.2.1,y14.2.2.2.2.2.2.2.1,y14.2.2.2.2.2.2.2.2.1,y14.2.2.2.2.2.2.2.2.2.1,0,0,0))[h16]?).bind fun y17=>
      some (G1,((M1,N1,O1,P1,Q1,R1),S1,T1,U1,V1,W1,()),List.set (List.set X1 h13 (y14.1,y14.2.1,y14.2.2.1,y14.2.2.2.1,y14.2.2.2.2.1,y14.2.2.2.2.2.1,y14.2.2.2.2.2.2.1,y14.2.2.2.2.2.2.2.1,y14.2.2.2.2.2.2.2.2.1,y14.2.2.2.2.2.2.2.2.2.1,0,0,0)) h16 (y17.1,y17.2.1,y17.2.2.1,y17.2.2.2.1,y17.2.2.2.2.1,y17.2.2.2.2.2.1,y17.2.2.2.2.2.2.1,y17.2.2.2.2.2.2.2.1,y17.2.2.2.2.2.2.2.2.1,y17.2.2.2.2.2.2.2.2.2.1,H1,r15.1,L1),())
     else
      some (G1,((M1,N1,O1,P1,Q1,R1),S1,T1,U1,V1,W1,()),List.set X1 h13 (y14.1,y14.2.1,y14.2.2.1,y14.2.2.2.1,y14.2.2.2.2.1,y14.2.2.2.2.2.1,y14.2.2.2.2.2.2.1,y14.2.2.2.2.2.2.2.1,y14.2.2.2.2.2.2.2.2.1,y14.2.2.2.2.2.2.2.2.2.1,0,0,0),())
    else
     some (G1,((M1,N1,O1,P1,Q1,R1),S1,T1,U1,V1,W1,()),X1,())
def kJ (a0:Int):Option (ah×Unit):=
 (tN a0).bind fun r1=>
 (vl r1.1 3).bind fun r2=>
 some (r2.1,())
abbrev rT:Type:=Int×Int×Int×Int×Unit
abbrev rS:Type:=((ah×Unit) ⊕ (Int×Int×Int×Int×Unit))
def rR (x1:rT) (again:rT→Option rS):Option rS:=
 (
  bif decide (x1.2.1>0) then
   some ((Int.tmod x1.1 10)==0,())
  else
   some (false,())).bind fun v2=>
 bif v2.1 then
  again (w64 (Int.tdiv x1.1 10),w64 (x1.2.1 - 1),x1.2.2.1,x1.2.2.2.1,())
 else
  some (.inr (x1.1,x1.2.1,x1.2.2.1,x1.2.2.2.1,()))
def wK (a0:ah):Option (ah×Unit):=
 aL (
  iter (X:=rT) (β:=rS) (a0.1.natAbs+(a0.2.natAbs+(Int.natAbs (0:Int)+(Int.natAbs (0:Int)+2)))) (a0.1,a0.2,0,0,()) (rR)) fun v3=>
 some ((v3.1,v3.2.1),())
def nh (a0:Option Nat) (a1:List ak):Option (yu×Unit):=
 (a0).bind fun h1=>
 (a1[h1]?).bind fun y2=>
 (a0).bind fun h3=>
 (a1[h3]?).bind fun y4=>
 (a0).bind fun h5=>
 (a1[h5]?).bind fun y6=>
 (a0).bind fun h7=>
 (a1[h7]?).bind fun y8=>
 (kJ y8.2.2.2.1).bind fun r9=>
 (a0).bind fun h10=>
 (a1[h10]?).bind fun y11=>
 (wK y11.2.2.2.2.2.2.2.1).bind fun r12=>
 (a0).bind fun h13=>
 (a1[h13]?).bind fun y14=>
 (a0).bind fun h15=>
 (a1[h15]?).bind fun y16=>
 (kJ y16.2.2.2.2.1).bind fun r17=>
 (a0).bind fun h18=>
 (a1[h18]?).bind fun y19=>
 (kJ y19.2.2.2.2.2.1).bind fun r20=>
 (a0).bind fun h21=>
 (a1[h21]?).bind fun y22=>
 (kJ y22.2.2.2.2.2.2.1).bind fun r23=>
 (gw a0 a1).bind fun r24=>
 (kJ r24.1).bind fun r25=>
 some ((y2.1,y4.2.1,y6.2.2.1,r9.1,r12.1,y14.2.2.2.2.2.2.2.2.1,r17.1,r20.1,r23.1,r25.1),())
abbrev lM:Type:=Int×(List aa)×Int×Int×Bys×Bys×Bys×Int×Int×(List aO)×(List aa)×(List (Int×(Option Nat)))×(List ah)×(List au)×Int×(List ak)×Unit
abbrev lK:Type:=(((aj×(List aa)×(List (Int×(Option Nat)))×(List ah)×(List au)×Int×Unit)×(List ak)×Unit) ⊕ (Bys×Bys×Bys×Int×Int×(List aO)×(List aa)×(List (Int×(Option Nat)))×(List ah)×(List au)×Int×(List ak)×Unit))
def iW (x1:lM) (again:lM→Option lK):Option lK:=
 match x1 with
 | (A,B,C,D,E,F,G,H,I,J,K,L,M,N,O,P,_)=>
 bif decide (D<C) then
  (idx B D).bind fun y2=>
  bif decide (y2.1>A) then
   some (.inr (E,F,G,H,I,J,K,L,M,N,O,P,()))
  else
   (aK ((E,F,G,H,I,J),K,L,M,N,O,()) D P).bind fun r3=>
   bif r3.1 != 0 then
    chk (decide (((r3.2.1.2.2.2.1.length)+1)*16≤140737488355328)&&decide ((r3.2.1.2.2.2.1.length)+1≤maxLen)) <|
    again (A,B,C,w64 (D+1),r3.2.1.1.1,r3.2.1.1.2.1,r3.2.1.1.2.2.1,r3.2.1.1.2.2.2.1,r3.2.1.1.2.2.2.2.1,r3.2.1.1.2.2.2.2.2,r3.2.1.2.1,r3.2.1.2.2.1,r3.2.1.2.2.2.1++[(D,r3.1)],r3.2.1.2.2.2.2.1,r3.2.1.2.2.2.2.2.1,r3.2.2.1,())
   else
    bif y2.2.2.2.2.1==r3.2.1.2.2.2.2.2.1 then
     (nh (Option.getD (α:=Option Nat) (bA (k:=tI) (v:= .hnd) r3.2.1.2.2.1 y2.2.2.2.2.1) none) r3.2.2.1).bind fun r4=>
     chk (decide (((r3.2.1.2.2.2.2.1.length)+1)*152≤140737488355328)&&decide ((r3.2.1.2.2.2.2.1.length)+1≤maxLen)) <|
     again (A,B,C,w64 (D+1),r3.2.1.1.1,r3.2.1.1.2.1,r3.2.1.1.2.2.1,r3.2.1.1.2.2.2.1,r3.2.1.1.2.2.2.2.1,r3.2.1.1.2.2.2.2.2,r3.2.1.2.1,r3.2.1.2.2.1,r3.2.1.2.2.2.1,r3.2.1.2.2.2.2.1++[(D,r4.1)],r3.2.1.2.2.2.2.2.1,r3.2.2.1,())
    else
     again (A,B,C,w64 (D+1),r3.2.1.1.1,r3.2.1.1.2.1,r3.2.1.1.2.2.1,r3.2.1.1.2.2.2.1,r3.2.1.1.2.2.2.2.1,r3.2.1.1.2.2.2.2.2,r3.2.1.2.1,r3.2.1.2.2.1,r3.2.1.2.2.2.1,r3.2.1.2.2.2.2.1,r3.2.1.2.2.2.2.2.1,r3.2.2.1,())
 else
  some (.inr (E,F,G,H,I,J,K,L,M,N,O,P,()))
def gD (a0:aj×(List aa)×(List (Int×(Option Nat)))×(List ah)×(List au)×Int×Unit) (a1:Int) (a2:List ak):Option ((aj×(List aa)×(List (Int×(Option Nat)))×(List ah)×(List au)×Int×Unit)×(List ak)×Unit):=
 aL (
  iter (X:=lM) (β:=lK) (a1.natAbs+(a0.2.1.length+(Int.natAbs ((a0.2.1.length:Int))+(Int.natAbs (0:Int)+(a0.1.1.length+(a0.1.2.1.length+(a0.1.2.2.1.length+(a0.1.2.2.2.1.natAbs+(a0.1.2.2.2.2.1.natAbs+(a0.1.2.2.2.2.2.length+(a0.2.1.length+(a0.2.2.1.length+(a0.2.2.2.1.length+(a0.2.2.2.2.1.length+(a0.2.2.2.2.2.1.natAbs+(a2.length+2)))))))))))))))) (a1,a0.2.1,(a0.2.1.length:Int),0,a0.1.1,a0.1.2.1,a0.1.2.2.1,a0.1.2.2.2.1,a0.1.2.2.2.2.1,a0.1.2.2.2.2.2,a0.2.1,a0.2.2.1,a0.2.2.2.1,a0.2.2.2.2.1,a0.2.2.2.2.2.1,a2,()) (iW)) fun (A,B,C,D,E,F,G,H,I,J,K,L,_)=>
 some (((A,B,C,D,E,F),G,H,I,J,K,()),L,())
def ou (a0:Bys) (a1:Bys):Option (Bool×Unit):=
 bif decide (((a0.length:Int))≥((a1.length:Int))) then
  chk (decide (0≤(w64 (((a0.length:Int)) - ((a1.length:Int)))))&&decide ((w64 (((a0.length:Int)) - ((a1.length:Int))))≤((a0.length:Int)))&&decide (((a0.length:Int))≤(a0.length:Int))) <|
  some ((List.drop (Int.toNat (w64 (((a0.length:Int)) - ((a1.length:Int))))) (List.take (Int.toNat ((a0.length:Int))) a0))==a1,())
 else
  some (false,())
def oo (a0:Bys) (a1:Bys):Option (Bys×Bool×Unit):=
 (ou a0 a1).bind fun r1=>
 bif !r1.1 then
  some (a0,false,())
 else
  chk (decide (0≤(0:Int))&&decide ((0:Int)≤(w64 (((a0.length:Int)) - ((a1.length:Int)))))&&decide ((w64 (((a0.length:Int)) - ((a1.length:Int))))≤(a0.length:Int))) <|
  some (List.drop 0 (List.take (Int.toNat (w64 (((a0.length:Int)) - ((a1.length:Int))))) a0),true,())
def zT (a0:Bys) (a1:Bys):Option (Bys×Bool×Unit):=
 (oo a0 a1).bind fun r1=>
 some (r1.1,r1.2.1,())
def MC (a0:Bys):Option ((List Bys)×Bool×Unit):=
 bif a0==[] then
  some ([],true,())
 else
  (zT a0 [10]).bind fun r1=>
  (strings_Split r1.1 [10]).bind fun r2=>
  some (r2.1,r1.2.1,())
abbrev A7:Type:=Int×Int×(List Bys)×Unit
abbrev A6:Type:=(((List Bys)×Bool×Unit) ⊕ ((List Bys)×Unit))
def Ou (x1:A7) (again:A7→Option A6):Option A6:=
 match x1 with
 | (A,B,C,_)=>
 bif decide (B<A) then
  chk (decide (0≤B)&&decide (B<(C.length:Int))) <|
  (C[B.toNat]?).bind fun y2=>
  bif y2==[] then
   some (.inl ([],false,()))
  else
   again (A,w64 (B+1),C,())
 else
  some (.inr (C,()))
def MD (a0:Bys):Option ((List Bys)×Bool×Unit):=
 (strings_Split a0 [32]).bind fun r1=>
 aL (
  iter (X:=A7) (β:=A6) (Int.natAbs ((r1.1.length:Int))+(Int.natAbs (0:Int)+(r1.1.length+2))) ((r1.1.length:Int),0,r1.1,()) (Ou)) fun v4=>
 some (v4.1,true,())
def kg (a0:(List Bys)×Bool×Unit):Option (Bys×((List Bys)×Bool×Unit)×Unit):=
 bif ((a0.1.length:Int))==0 then
  some ([],(a0.1,true,()),())
 else
  (idx a0.1 0).bind fun y1=>
  chk (decide (0≤(1:Int))&&decide ((1:Int)≤((a0.1.length:Int)))&&decide (((a0.1.length:Int))≤(a0.1.length:Int))) <|
  some (y1,(List.drop 1 (List.take (Int.toNat ((a0.1.length:Int))) a0.1),a0.2.1,()),())
def iX (a0:(List Bys)×Bool×Unit):Option (Int×((List Bys)×Bool×Unit)×Unit):=
 (kg (a0.1,a0.2.1,())).bind fun r1=>
 (z7 r1.1 16).bind fun r2=>
 bif r1.2.1.2.1 then
  some (r2.1,(r1.2.1.1,true,()),())
 else
  some (r2.1,(r1.2.1.1, !r2.2.1,()),())
def FJ:Option ((List Bys)×Unit):=
 some ([[],[98,117,121,101,114],[115,101,108,108,101,114]],())
def uF (a0:(List Bys)×Bool×Unit) (a1:List Bys):Option (Int×((List Bys)×Bool×Unit)×Unit):=
 (kg (a0.1,a0.2.1,())).bind fun r1=>
 (xU a1 r1.1).bind fun r2=>
 bif r1.2.1.2.1 then
  some (r2.1,(r1.2.1.1,true,()),())
 else
  some (r2.1,(r1.2.1.1,decide (r2.1<1),()),())
def Ch:Option ((List Bys)×Unit):=
 some ([[],[97,100,100],[113,117,97,110,116,105,116,121],[100,117,101],[112,114,105,99,101],[121,101,115],[110,111],[111,102,102,101,114],[116,97,107,101],[115,104,105,112],[114,101,99,101,105,118,101],[114,101,116,117,114,110]],())
def ot (a0:Bys) (a1:Bys):Option (Bool×Unit):=
 bif decide (((a0.length:Int))≥((a1.length:Int))) then
  chk (decide (0≤(0:Int))&&decide ((0:Int)≤((a1.length:Int)))&&decide (((a1.length:Int))≤(a0.length:Int))) <|
  some ((List.drop 0 (List.take (Int.toNat ((a1.length:Int))) a0))==a1,())
 else
  some (false,())
def om (a0:Bys) (a1:Bys):Option (Bys×Bool×Unit):=
 (ot a0 a1).bind fun r1=>
 bif !r1.1 then
  some (a0,false,())
 else
  chk (decide (0≤((a1.length:Int)))&&decide (((a1.length:Int))≤((a0.length:Int)))&&decide (((a0.length:Int))≤(a0.length:Int))) <|
  some (List.drop (Int.toNat ((a1.length:Int))) (List.take (Int.toNat ((a0.length:Int))) a0),true,())
def zS (a0:Bys) (a1:Bys):Option (Bys×Bool×Unit):=
 (om a0 a1).bind fun r1=>
 some (r1.1,r1.2.1,())
def qV (a0:Bys) (a1:Bys):Option (Int×Unit):=
 bif ((a1.length:Int))==0 then
  some (0,())
 else
  bif a1==a0 then
   some (0,())
  else
   bif ((a1.length:Int))==1 then
    (yl a1 0).bind fun c1=>
    (gu a0 (c1.toNat:Int)).bind fun r2=>
    some (r2.1,())
   else
    bif decide (((a1.length:Int))≥((a0.length:Int))) then
     some ((-1),())
    else
     none
def sW (a0:Bys) (a1:Bys):Option (Bys×Bys×Bool×Unit):=
 (qV a0 a1).bind fun r1=>
 bif decide (r1.1≥0) then
  chk (decide (0≤(0:Int))&&decide ((0:Int)≤r1.1)&&decide (r1.1≤(a0.length:Int))) <|
  chk (decide (0≤(w64 (r1.1+((a1.length:Int)))))&&decide ((w64 (r1.1+((a1.length:Int))))≤((a0.length:Int)))&&decide (((a0.length:Int))≤(a0.length:Int))) <|
  some (List.drop 0 (List.take (Int.toNat r1.1) a0),List.drop (Int.toNat (w64 (r1.1+((a1.length:Int))))) (List.take (Int.toNat ((a0.length:Int))) a0),true,())
 else
  some (a0,[],false,())
def IX (a0:Bys) (a1:Bys):Option (Bys×Bys×Bool×Unit):=
 (sW a0 a1).bind fun r1=>
 some (r1.1,r1.2.1,r1.2.2.1,())
def C7 (a0:Bys):Option (Bool×Unit):=
 (
  Option.bind (pJ a0) fun r1=>
  bif r1.1 then
   bif ((a0.length:Int))==1 then
    some (true,())
   else
    Option.bind (yl a0 0) fun c2=>
    some ((c2.toNat:Int) != 48,())
  else
   some (false,())).bind fun v3=>
 some (v3.1,())
abbrev xX:Type:=Bool×Bys×Bys×Int×Int×Int×Int×Bool×(List Int)×Unit
abbrev xW:Type:=((ah×Int×Unit) ⊕ (Bool×Bys×Int×Int×Bool×(List Int)×Unit))
def Ll (x1:xX) (again:xX→Option xW):Option xW:=
 match x1 with
 | (A,B,C,D,E,F,G,H,I,_)=>
 bif decide (E<D) then
  (tN 10).bind fun r2=>
  (Cn (H,I) r2.1).bind fun r3=>
  chk (decide (B.length+C.length≤maxLen)) <|
  (yl (B++C) E).bind fun c4=>
  (tN (w64 (wu8 ((c4.toNat:Int) - 48)))).bind fun r5=>
  (Eb r3.1 r5.1).bind fun r6=>
  again (A,B,C,D,w64 (E+1),F,G,r6.1.1,r6.1.2,())
 else
  some (.inr (A,C,F,G,H,I,()))
def Iy (a0:Bool) (a1:Bys) (a2:Bys):Option (ah×Int×Unit):=
 (tN 0).bind fun r1=>
 chk (decide (a1.length+a2.length≤maxLen)) <|
 aL (
  iter (X:=xX) (β:=xW) (a1.length+(a2.length+(Int.natAbs ((List.length (a1++a2):Int))+(Int.natAbs (0:Int)+(Int.natAbs (0:Int)+(Int.natAbs (0:Int)+(r1.1.2.length+2))))))) (a0,a1,a2,(List.length (a1++a2):Int),0,0,0,r1.1.1,r1.1.2,()) (Ll)) fun (A,B,_,_,C,D,_)=>
 bif A then
  (kr (C,D)).bind fun r9=>
  bif r9.1==0 then
   some ((0,0),10,())
  else
   (oG (C,D)).bind fun r10=>
   (oI r10.1 ((B.length:Int))).bind fun r11=>
   some (r11.1,r11.2.1,())
 else
  (oI (C,D) ((B.length:Int))).bind fun r12=>
  some (r12.1,r12.2.1,())
def BL (a0:Bys):Option (ah×Int×Unit):=
 (zS a0 [45]).bind fun r1=>
 (IX r1.1 [46]).bind fun r2=>
 (
  bif decide (((a0.length:Int))>40) then
   some (true,())
  else
   Option.bind (C7 r2.1) fun r3=>
   bif !r3.1 then
    some (true,())
   else
    bif r2.2.2.1 then
     Option.bind (pJ r2.2.1) fun r4=>
     bif !r4.1 then
      some (true,())
     else
      some (decide (((r2.2.1.length:Int))>9),())
    else
     some (false,())).bind fun v5=>
 bif v5.1 then
  some ((0,0),10,())
 else
  (Iy r1.2.1 r2.1 r2.2.1).bind fun r6=>
  some (r6.1,r6.2.1,())
def rN (a0:(List Bys)×Bool×Unit):Option (ah×((List Bys)×Bool×Unit)×Unit):=
 (kg (a0.1,a0.2.1,())).bind fun r1=>
 (BL r1.1).bind fun r2=>
 bif r1.2.1.2.1 then
  some (r2.1,(r1.2.1.1,true,()),())
 else
  some (r2.1,(r1.2.1.1,r2.2.1 != 0,()),())
def DS (a0:Bys):Option (aa×Bool×Unit):=
 (MD a0).bind fun r1=>
 bif !r1.2.1 then
  some ((0,0,0,0,0,[],(0,0),[],(0,0),0,0),false,())
 else
  (iX (r1.1,false,())).bind fun r2=>
  (FJ).bind fun r3=>
  (uF (r2.2.1.1,r2.2.1.2.1,()) r3.1).bind fun r4=>
  (iX (r4.2.1.1,r4.2.1.2.1,())).bind fun r5=>
  (Ch).bind fun r6=>
  (uF (r5.2.1.1,r5.2.1.2.1,()) r6.1).bind fun r7=>
  (iX (r7.2.1.1,r7.2.1.2.1,())).bind fun r8=>
  (tc r7.1).bind fun r9=>
  aL (γ:=(Int×Int×Int×Int×Int×Bys×Int×Int×Bys×Int×Int×Int×Int×Int×Int×Int×Int×Int×Bys×Int×Int×Bys×Int×Int×Int×Int×Bool×Bool×Bool×Bool×Bool×Bool×(List Bys)×Bool×Unit)) (
   bif r9.1.1 then
    (kg (r8.2.1.1,r8.2.1.2.1,())).bind fun r10=>
    some (.inr (0,0,0,0,0,[],0,0,[],0,0,0,0,r2.1,r4.1,r5.1,r7.1,r8.1,r10.1,0,0,[],0,0,0,0,r9.1.1,r9.1.2.1,r9.1.2.2.1,r9.1.2.2.2.1,r9.1.2.2.2.2.1,r9.1.2.2.2.2.2,r10.2.1.1,r10.2.1.2.1,()))
   else
    some (.inr (0,0,0,0,0,[],0,0,[],0,0,0,0,r2.1,r4.1,r5.1,r7.1,r8.1,[],0,0,[],0,0,0,0,r9.1.1,r9.1.2.1,r9.1.2.2.1,r9.1.2.2.2.1,r9.1.2.2.2.2.1,r9.1.2.2.2.2.2,r8.2.1.1,r8.2.1.2.1,()))) fun (A,B,C,D,E,F,G,H,I,J,K,L,M,N,O,P,Q,R,S,T,U,V,W,X,Y,Z,A0,B0,C0,D0,E0,F0,G0,H0,_)=>
  aL (γ:=(Int×Int×Int×Int×Int×Bys×Int×Int×Bys×Int×Int×Int×Int×Int×Int×Int×Int×Int×Bys×Int×Int×Bys×Int×Int×Int×Int×Bool×Bool×Bool×Bool×Bool×Bool×(List Bys)×Bool×Unit)) (
   bif B0 then
    (rN (G0,H0,())).bind fun r12=>
    some (.inr (A,B,C,D,E,F,G,H,I,J,K,L,M,N,O,P,Q,R,S,r12.1.1,r12.1.2,V,W,X,Y,Z,A0,B0,C0,D0,E0,F0,r12.2.1.1,r12.2.1.2.1,()))
   else
    some (.inr (A,B,C,D,E,F,G,H,I,J,K,L,M,N,O,P,Q,R,S,T,U,V,W,X,Y,Z,A0,B0,C0,D0,E0,F0,G0,H0,()))) fun (I0,J0,K0,L0,M0,N0,O0,P0,Q0,R0,S0,T0,U0,V0,W0,X0,Y0,Z0,A1,B1,C1,D1,E1,F1,G1,H1,I1,J1,K1,L1,M1,N1,O1,P1,_)=>
  aL (γ:=(Int×Int×Int×Int×Int×Bys×Int×Int×Bys×Int×Int×Int×Int×Int×Int×Int×Int×Int×Bys×Int×Int×Bys×Int×Int×Int×Int×Bool×Bool×Bool×Bool×Bool×Bool×(List Bys)×Bool×Unit)) (
   bif K1 then
    (kg (O1,P1,())).bind fun r14=>
    some (.inr (I0,J0,K0,L0,M0,N0,O0,P0,Q0,R0,S0,T0,U0,V0,W0,X0,Y0,Z0,A1,B1,C1,r14.1,E1,F1,G1,H1,I1,J1,K1,L1,M1,N1,r14.2.1.1,r14.2.1.2.1,()))
   else
    some (.inr (I0,J0,K0,L0,M0,N0,O0,P0,Q0,R0,S0,T0,U0,V0,W0,X0,Y0,Z0,A1,B1,C1,D1,E1,F1,G1,H1,I1,J1,K1,L1,M1,N1,O1,P1,()))) fun (Q1,R1,S1,T1,U1,V1,W1,X1,Y1,Z1,A2,B2,C2,D2,E2,F2,G2,H2,I2,J2,K2,L2,M2,N2,O2,P2,Q2,R2,S2,T2,U2,V2,W2,X2,_)=>
  aL (γ:=(Int×Int×Int×Int×Int×Bys×Int×Int×Bys×Int×Int×Int×Int×Int×Int×Int×Int×Int×Bys×Int×Int×Bys×Int×Int×Int×Int×Bool×Bool×Bool×Bool×Bool×Bool×(List Bys)×Bool×Unit)) (
   bif T2 then
    (rN (W2,X2,())).bind fun r16=>
    some (.inr (Q1,R1,S1,T1,U1,V1,W1,X1,Y1,Z1,A2,B2,C2,D2,E2,F2,G2,H2,I2,J2,K2,L2,r16.1.1,r16.1.2,O2,P2,Q2,R2,S2,T2,U2,V2,r16.2.1.1,r16.2.1.2.1,()))
   else
    some (.inr (Q1,R1,S1,T1,U1,V1,W1,X1,Y1,Z1,A2,B2,C2,D2,E2,F2,G2,H2,I2,J2,K2,L2,M2,N2,O2,P2,Q2,R2,S2,T2,U2,V2,W2,X2,()))) fun (Y2,Z2,A3,B3,C3,D3,E3,F3,G3,H3,I3,J3,K3,L3,M3,N3,O3,P3,Q3,R3,S3,T3,U3,V3,W3,X3,Y3,Z3,A4,B4,C4,D4,E4,F4,_)=>
  aL (γ:=(Int×Int×Int×Int×Int×Bys×Int×Int×Bys×Int×Int×Int×Int×Int×Int×Int×Int×Int×Bys×Int×Int×Bys×Int×Int×Int×Int×Bool×Bool×Bool×Bool×Bool×Bool×(List Bys)×Bool×Unit)) (
   bif C4 then
    (iX (E4,F4,())).bind fun r18=>
    some (.inr (Y2,Z2,A3,B3,C3,D3,E3,F3,G3,H3,I3,J3,K3,L3,M3,N3,O3,P3,Q3,R3,S3,T3,U3,V3,r18.1,X3,Y3,Z3,A4,B4,C4,D4,r18.2.1.1,r18.2.1.2.1,()))
   else
    some (.inr (Y2,Z2,A3,B3,C3,D3,E3,F3,G3,H3,I3,J3,K3,L3,M3,N3,O3,P3,Q3,R3,S3,T3,U3,V3,W3,X3,Y3,Z3,A4,B4,C4,D4,E4,F4,()))) fun (G4,H4,I4,J4,K4,L4,M4,N4,O4,P4,Q4,R4,S4,T4,U4,V4,W4,X4,Y4,Z4,A5,B5,C5,D5,E5,F5,_,_,_,_,_,G5,H5,I5,_)=>
  aL (γ:=(Int×Int×Int×Int×Int×Bys×Int×Int×Bys×Int×Int×Int×Int×Int×Int×Int×Int×Int×Bys×Int×Int×Bys×Int×Int×Int×Int×(List Bys)×Bool×Unit)) (
   bif G5 then
    (iX (H5,I5,())).bind fun r20=>
    some (.inr (G4,H4,I4,J4,K4,L4,M4,N4,O4,P4,Q4,R4,S4,T4,U4,V4,W4,X4,Y4,Z4,A5,B5,C5,D5,E5,r20.1,r20.2.1.1,r20.2.1.2.1,()))
   else
    some (.inr (G4,H4,I4,J4,K4,L4,M4,N4,O4,P4,Q4,R4,S4,T4,U4,V4,W4,X4,Y4,Z4,A5,B5,C5,D5,E5,F5,H5,I5,()))) fun (_,_,_,_,_,_,_,_,_,_,_,_,_,J5,K5,L5,M5,N5,O5,P5,Q5,R5,S5,T5,U5,V5,W5,X5,_)=>
  bif !X5 then
   some ((J5,K5,L5,M5,N5,O5,(P5,Q5),R5,(S5,T5),U5,V5),((W5.length:Int))==0,())
  else
   some ((J5,K5,L5,M5,N5,O5,(P5,Q5),R5,(S5,T5),U5,V5),false,())
abbrev zF:Type:=(List Bys)×Bool×(List aa)×(List Bys)×Int×Int×Unit
abbrev zD:Type:=(((List aa)×Int×Int×Unit) ⊕ ((List aa)×Unit))
def No (x1:zF) (again:zF→Option zD):Option zD:=
 match x1 with
 | (A,B,C,D,E,F,_)=>
 bif decide (F<E) then
  (idx D F).bind fun y2=>
  (DS y2).bind fun r3=>
  (
   bif !r3.2.1 then
    some (true,())
   else
    bif !B then
     some (F==(w64 (((A.length:Int)) - 1)),())
    else
     some (false,())).bind fun v4=>
  bif v4.1 then
   some (.inl ([],w64 (F+1),10,()))
  else
   chk (decide (((C.length)+1)*120≤140737488355328)&&decide ((C.length)+1≤maxLen)) <|
   again (A,B,C++[r3.1],D,E,w64 (F+1),())
 else
  some (.inr (C,()))
def KL (a0:Bys):Option ((List aa)×Int×Int×Unit):=
 bif decide (((a0.length:Int))>200000) then
  some ([],0,2,())
 else
  (MC a0).bind fun r1=>
  aL (
   iter (X:=zF) (β:=zD) (r1.1.length+(List.length ([]:List aa)+(r1.1.length+(Int.natAbs ((r1.1.length:Int))+(Int.natAbs (0:Int)+2))))) (r1.1,r1.2.1,[],r1.1,(r1.1.length:Int),0,()) (No)) fun v6=>
  (jY v6.1).bind fun r7=>
  bif r7.1 != 0 then
   some ([],0,r7.1,())
  else
   some (v6.1,0,0,())
def A8:Option (Bool×Unit):=
 (KL [53,32,98,117,121,101,114,32,49,32,100,117,101,32,50,32,55,10]).bind fun r1=>
 (
  bif r1.2.2.1==0 then
   bif r1.2.1==0 then
    bif ((r1.1.length:Int))==1 then
     chk (decide (0≤(0:Int))&&decide ((0:Int)<(r1.1.length:Int))) <|
     Option.bind (r1.1[0]?) fun y2=>
     some (y2.2.2.2.2.2.2.2.2.2.1==7,())
    else
     some (false,())
   else
    some (false,())
  else
   some (false,())).bind fun v3=>
 some (v3.1,())
def Bh (a0:aj) (a1:List aa) (a2:Int) (a3:List ak):Option ((aj×(List aa)×(List (Int×(Option Nat)))×(List ah)×(List au)×Int×Unit)×Int×(List ak)×Unit):=
 (nS a0 a1).bind fun r1=>
 bif r1.1 != 0 then
  none
 else
  (ov a2).bind fun r2=>
  bif !r2.1 then
   none
  else
   (gW a0 a1 a3).bind fun r3=>
   (gD (r3.1.1,r3.1.2.1,r3.1.2.2.1,r3.1.2.2.2.1,r3.1.2.2.2.2.1,r3.1.2.2.2.2.2.1,()) a2 r3.2.1).bind fun r4=>
   some ((r4.1.1,r4.1.2.1,r4.1.2.2.1,r4.1.2.2.2.1,r4.1.2.2.2.2.1,r4.1.2.2.2.2.2.1,()),0,r4.2.1,())
def xm (a0:aj) (a1:List aa) (a2:Int) (a3:List ak):Option ((Option Nat)×Int×(List ak)×Unit):=
 (nS a0 a1).bind fun r1=>
 bif r1.1 != 0 then
  some (none,r1.1,a3,())
 else
  (ov a2).bind fun r2=>
  bif !r2.1 then
   some (none,1,a3,())
  else
   (gW a0 a1 a3).bind fun r3=>
   (gD (r3.1.1,r3.1.2.1,r3.1.2.2.1,r3.1.2.2.2.1,r3.1.2.2.2.2.1,r3.1.2.2.2.2.2.1,()) a2 r3.2.1).bind fun _=>
   none
abbrev oz:Type:=Int×Int×(List aa)×Int×Int×Unit
abbrev si:Type:=((Int×Unit) ⊕ (Int×Unit))
def sg (x1:oz) (again:oz→Option si):Option si:=
 match x1 with
 | (A,B,C,D,E,_)=>
 bif decide (E<D) then
  (idx C E).bind fun y2=>
  bif y2.2.1==A then
   again (A,w64 (y2.2.2.1+1),C,D,w64 (E+1),())
  else
   again (A,B,C,D,w64 (E+1),())
 else
  some (.inr (B,()))
def xo (a0:List aa) (a1:Int):Option (Int×Unit):=
 aL (
  iter (X:=oz) (β:=si) (a1.natAbs+(Int.natAbs (1:Int)+(a0.length+(Int.natAbs ((a0.length:Int))+(Int.natAbs (0:Int)+2))))) (a1,1,a0,(a0.length:Int),0,()) (sg)) fun v3=>
 some (v3.1,())
def lP (a0:List aa):Option ((List aa)×Unit):=
 bif List.isEmpty a0 then
  both (
   some ([],())) (
   chk (decide ((0+(a0.length))*120≤140737488355328)&&decide (0+(a0.length)≤maxLen)) <|
   some (a0,()))
 else
  chk (decide ((0+(a0.length))*120≤140737488355328)&&decide (0+(a0.length)≤maxLen)) <|
  some (a0,())
def yB (a0:aj) (a1:List aa) (a2:aa):Option ((List aa)×Int×Unit):=
 (nS a0 a1).bind fun r1=>
 bif r1.1 != 0 then
  some ([],r1.1,())
 else
  bif a2.2.2.1 != 0 then
   some ([],3,())
  else
   (xo a1 a2.2.1).bind fun r2=>
   (lP a1).bind fun r3=>
   chk (decide (((r3.1.length)+1)*120≤140737488355328)&&decide ((r3.1.length)+1≤maxLen)) <|
   (jY (r3.1++[(a2.1,a2.2.1,r2.1,a2.2.2.2)])).bind fun r4=>
   bif r4.1 != 0 then
    some ([],r4.1,())
   else
    (gW a0 (r3.1++[(a2.1,a2.2.1,r2.1,a2.2.2.2)]) []).bind fun r5=>
    (gD (r5.1.1,r5.1.2.1,r5.1.2.2.1,r5.1.2.2.2.1,r5.1.2.2.2.2.1,r5.1.2.2.2.2.2.1,()) 3652059 r5.2.1).bind fun r6=>
    (
     bif decide (((r6.1.2.2.2.1.length:Int))>0) then
      chk (decide (0≤(w64 (((r6.1.2.2.2.1.length:Int)) - 1)))&&decide ((w64 (((r6.1.2.2.2.1.length:Int)) - 1))<(r6.1.2.2.2.1.length:Int))) <|
      Option.bind (r6.1.2.2.2.1[(w64 (((r6.1.2.2.2.1.length:Int)) - 1)).toNat]?) fun y7=>
      some (y7.1==((a1.length:Int)),())
     else
      some (false,())).bind fun v8=>
    bif v8.1 then
     chk (decide (0≤(w64 (((r6.1.2.2.2.1.length:Int)) - 1)))&&decide ((w64 (((r6.1.2.2.2.1.length:Int)) - 1))<(r6.1.2.2.2.1.length:Int))) <|
     (r6.1.2.2.2.1[(w64 (((r6.1.2.2.2.1.length:Int)) - 1)).toNat]?).bind fun y9=>
     some ([],y9.2,())
    else
     some (r3.1++[(a2.1,a2.2.1,r2.1,a2.2.2.2)],0,())
end
end Go.Md
end
