/-
  The plain models of the functions that the law reaches, third part. No condition.
-/
import Derived.Test.YtcoofjaonlccjaaGreatDoorVn
import Derived.Test.YtcoofjaonlccjaaGreatDoorVd
import Derived.Lib.Atoi
import Derived.Lib.IndexBytes
set_option linter.all false
namespace Go.Md
open Go.Dn
def eF (s:List UInt8) (c:Int):Option (Int×Unit):=some (Lib.indexByte s c.toNat.toUInt8,())
def kz (c:UInt8):List UInt8→List (List UInt8)
 | []=>[[]]
 | b::r=>bif b==c then []::kz c r else (match kz c r with
  | h::t=>(b::h)::t
  | []=>[[b]])
def strings_Split (s sep:List UInt8):Option (List (List UInt8)×Unit):=match sep with
 | [c]=>bif decide (s.length<4294967281) then some (kz c s,()) else none
 | _=>none
def XO (b:UInt8):Bool:=decide (48≤b.toNat)&&decide (b.toNat≤57)
def Bw (s:List UInt8) (most:Int):Option (Int×Bool×Unit):=
 bif decide (most<(s.length:Int)) then some (0,false,())
 else bif decide (s.length≤18) then (bif !(!(s==[])&&s.all XO)||(decide (1<s.length)&&s.head? ==some 48) then some (0,false,()) else (Lib.atoi s).bind fun n=>some (n,true,())) else none
def VV (a b:Int×Int×Int×Int×Int×(List UInt8)×(Int×Int)×(List UInt8)×(Int×Int)×Int×Int):Int:=
 bif !(a.1 - b.1==0) then a.1 - b.1 else bif !(a.2.1 - b.2.1==0) then a.2.1 - b.2.1 else a.2.2.1 - b.2.2.1
noncomputable section
abbrev Ri:Ty:=(.st (.pair tI (.pair tI tI)))
abbrev QF:Type:=Int×Int×Int
abbrev EY:Ty:=(.st (.pair .bool (.pair .bool (.pair .bool (.pair .bool .bool)))))
abbrev tP:Type:=Bool×Bool×Bool×Bool×Bool
abbrev SS:Ty:=(.st (.pair .bool (.pair .bool (.pair .bool (.pair .bool (.pair .bool .bool))))))
abbrev RE:Type:=Bool×Bool×Bool×Bool×Bool×Bool
abbrev gx:Ty:=(.st (.pair tI (.pair .str (.pair au (.pair .str (.pair au tI))))))
abbrev aI:Type:=Int×(List UInt8)×ah×(List UInt8)×ah×Int
abbrev av:Ty:=(.st (.pair tI (.pair tI (.pair tI (.pair tI (.pair tI (.pair .str (.pair au (.pair .str (.pair au (.pair tI tI)))))))))))
abbrev aa:Type:=Int×Int×Int×Int×Int×(List UInt8)×ah×(List UInt8)×ah×Int×Int
abbrev bu:Ty:=(.st (.pair .str (.pair .str (.pair .str (.pair tI (.pair tI (.slice gx)))))))
abbrev ai:Type:=(List UInt8)×(List UInt8)×(List UInt8)×Int×Int×(List aI)
abbrev bH:Ty:=(.st (.pair tI (.pair .str (.pair .str (.pair tI (.pair tI (.pair tI (.pair tI (.pair au (.pair tI (.pair tI Ri)))))))))))
abbrev aM:Type:=Int×(List UInt8)×(List UInt8)×Int×Int×Int×Int×ah×Int×Int×QF
abbrev cG:Ty:=(.st (.pair tI nN))
abbrev aB:Type:=Int×fU
def q7 (a0:ai) (a1:Int):Option (Int×Unit):=
 Option.bind (idx a0.2.2.2.2.2 a1) fun y1=>
 Option.bind (dF y1.1 1 99999) fun r2=>
 bif r2.1 then
  some (1,())
 else
  Option.bind (
   bif decide (a1>0) then
    Option.bind (idx a0.2.2.2.2.2 (w64 (a1 - 1))) fun y3=>
    some (decide (y1.1≤y3.1),())
   else
    some (false,())) fun v4=>
  bif v4.1 then
   some (8,())
  else
   Option.bind (eG y1.2.1) fun r5=>
   bif !r5.1 then
    some (5,())
   else
    Option.bind (iQ y1.2.2.1 false) fun r6=>
    bif r6.1 != 0 then
     some (r6.1,())
    else
     Option.bind (eG y1.2.2.2.1) fun r7=>
     bif !r7.1 then
      some (5,())
     else
      Option.bind (lG y1.2.2.2.2.1) fun r8=>
      bif r8.1 != 0 then
       some (r8.1,())
      else
       Option.bind (dF y1.2.2.2.2.2 a0.2.2.2.1 3652059) fun r9=>
       bif r9.1 then
        some (1,())
       else
        some (0,())
abbrev kR:Type:=Int×Int×(List UInt8)×(List UInt8)×(List UInt8)×Int×Int×(List aI)×Unit
abbrev kQ:Type:=((Int×Unit) ⊕ Unit)
def kP (x1:kR) (again:kR→Option kQ):Option kQ:=
 match x1 with
 | (A,B,C,D,E,F,G,H,_)=>
 bif decide (B<A) then
  Option.bind (q7 (C,D,E,F,G,H) B) fun r2=>
  bif r2.1 != 0 then
   some (Sum.inl (r2.1,()))
  else
   again (A,w64 (B+1),C,D,E,F,G,H,())
 else
  some (Sum.inr ())
def pI (a0:ai):Option (Int×Unit):=
 Option.bind (eG a0.1) fun r1=>
 bif !r1.1 then
  some (5,())
 else
  Option.bind (eG a0.2.1) fun r2=>
  bif !r2.1 then
   some (5,())
  else
   Option.bind (eG a0.2.2.1) fun r3=>
   bif !r3.1 then
    some (5,())
   else
    bif a0.2.1==a0.2.2.1 then
     some (12,())
    else
     Option.bind (mS a0.2.2.2.1) fun r4=>
     bif !r4.1 then
      some (1,())
     else
      Option.bind (dF a0.2.2.2.2.1 0 1000) fun r5=>
      bif r5.1 then
       some (1,())
      else
       bif ((a0.2.2.2.2.2.length:Int))==0 then
        some (9,())
       else
        bif decide (((a0.2.2.2.2.2.length:Int))>500) then
         some (2,())
        else
         aL (β:=(Int×Unit)) (γ:=Unit) (
          iter (X:=kR) (β:=kQ) (Int.natAbs ((a0.2.2.2.2.2.length:Int))+(Int.natAbs (0:Int)+(a0.1.length+(a0.2.1.length+(a0.2.2.1.length+(a0.2.2.2.1.natAbs+(a0.2.2.2.2.1.natAbs+(a0.2.2.2.2.2.length+2)))))))) ((a0.2.2.2.2.2.length:Int),0,a0.1,a0.2.1,a0.2.2.1,a0.2.2.2.1,a0.2.2.2.2.1,a0.2.2.2.2.2,()) (kP)) fun _=>
         some (0,())
def mX (a0:Int):Option (Bool×Unit):=
 bif a0==5 then
  some (true,())
 else
  bif a0==6 then
   some (true,())
  else
   bif a0==7 then
    some (true,())
   else
    some (a0==9,())
def se (a0:Int):Option (RE×Unit):=
 bif a0==1 then
  some ((true,true,true,true,true,false),())
 else
  bif a0==3 then
   some ((false,false,false,false,true,false),())
  else
   bif a0==4 then
    some ((false,false,false,true,false,false),())
   else
    bif a0==5 then
     bif a0==5 then
      some ((false,false,false,false,false,true),())
     else
      bif a0==7 then
       some ((false,true,false,false,true,false),())
      else
       some ((false,true,false,false,false,false),())
    else
     bif a0==6 then
      bif a0==6 then
       some ((false,false,false,false,false,true),())
      else
       bif a0==7 then
        some ((false,true,false,false,true,false),())
       else
        some ((false,true,false,false,false,false),())
     else
      bif a0==8 then
       some ((false,false,false,false,false,true),())
      else
       bif a0==7 then
        some ((false,true,false,false,true,false),())
       else
        some ((false,true,false,false,false,false),())
def rf (a0:aa):Option (Int×Unit):=
 Option.bind (se a0.2.2.2.1) fun r1=>
 aL (β:=(Int×Unit)) (γ:=(Int×Int×Int×Int×Int×(List UInt8)×Int×Int×(List UInt8)×Int×Int×Int×Int×Bool×Bool×Bool×Bool×Bool×Bool×Unit)) (
  bif r1.1.2.1 then
   Option.bind (iQ a0.2.2.2.2.2.2.1 (a0.2.2.2.1==2)) fun r2=>
   bif r2.1 != 0 then
    some (Sum.inl (r2.1,()))
   else
    some (Sum.inr (a0.1,a0.2.1,a0.2.2.1,a0.2.2.2.1,a0.2.2.2.2.1,a0.2.2.2.2.2.1,a0.2.2.2.2.2.2.1.1,a0.2.2.2.2.2.2.1.2,a0.2.2.2.2.2.2.2.1,a0.2.2.2.2.2.2.2.2.1.1,a0.2.2.2.2.2.2.2.2.1.2,a0.2.2.2.2.2.2.2.2.2.1,a0.2.2.2.2.2.2.2.2.2.2,r1.1.1,r1.1.2.1,r1.1.2.2.1,r1.1.2.2.2.1,r1.1.2.2.2.2.1,r1.1.2.2.2.2.2,()))
  else
   some (Sum.inr (a0.1,a0.2.1,a0.2.2.1,a0.2.2.2.1,a0.2.2.2.2.1,a0.2.2.2.2.2.1,a0.2.2.2.2.2.2.1.1,a0.2.2.2.2.2.2.1.2,a0.2.2.2.2.2.2.2.1,a0.2.2.2.2.2.2.2.2.1.1,a0.2.2.2.2.2.2.2.2.1.2,a0.2.2.2.2.2.2.2.2.2.1,a0.2.2.2.2.2.2.2.2.2.2,r1.1.1,r1.1.2.1,r1.1.2.2.1,r1.1.2.2.2.1,r1.1.2.2.2.2.1,r1.1.2.2.2.2.2,()))) fun v3=>
 aL (β:=(Int×Unit)) (γ:=(Int×Int×Int×Int×Int×(List UInt8)×Int×Int×(List UInt8)×Int×Int×Int×Int×Bool×Bool×Bool×Bool×Bool×Bool×Unit)) (
  bif v3.2.2.2.2.2.2.2.2.2.2.2.2.2.2.2.2.1 then
   Option.bind (lG (v3.2.2.2.2.2.2.2.2.2.1,v3.2.2.2.2.2.2.2.2.2.2.1)) fun r4=>
   bif r4.1 != 0 then
    some (Sum.inl (r4.1,()))
   else
    some (Sum.inr (v3.1,v3.2.1,v3.2.2.1,v3.2.2.2.1,v3.2.2.2.2.1,v3.2.2.2.2.2.1,v3.2.2.2.2.2.2.1,v3.2.2.2.2.2.2.2.1,v3.2.2.2.2.2.2.2.2.1,v3.2.2.2.2.2.2.2.2.2.1,v3.2.2.2.2.2.2.2.2.2.2.1,v3.2.2.2.2.2.2.2.2.2.2.2.1,v3.2.2.2.2.2.2.2.2.2.2.2.2.1,v3.2.2.2.2.2.2.2.2.2.2.2.2.2.1,v3.2.2.2.2.2.2.2.2.2.2.2.2.2.2.1,v3.2.2.2.2.2.2.2.2.2.2.2.2.2.2.2.1,v3.2.2.2.2.2.2.2.2.2.2.2.2.2.2.2.2.1,v3.2.2.2.2.2.2.2.2.2.2.2.2.2.2.2.2.2.1,v3.2.2.2.2.2.2.2.2.2.2.2.2.2.2.2.2.2.2.1,()))
  else
   some (Sum.inr (v3.1,v3.2.1,v3.2.2.1,v3.2.2.2.1,v3.2.2.2.2.1,v3.2.2.2.2.2.1,v3.2.2.2.2.2.2.1,v3.2.2.2.2.2.2.2.1,v3.2.2.2.2.2.2.2.2.1,v3.2.2.2.2.2.2.2.2.2.1,v3.2.2.2.2.2.2.2.2.2.2.1,v3.2.2.2.2.2.2.2.2.2.2.2.1,v3.2.2.2.2.2.2.2.2.2.2.2.2.1,v3.2.2.2.2.2.2.2.2.2.2.2.2.2.1,v3.2.2.2.2.2.2.2.2.2.2.2.2.2.2.1,v3.2.2.2.2.2.2.2.2.2.2.2.2.2.2.2.1,v3.2.2.2.2.2.2.2.2.2.2.2.2.2.2.2.2.1,v3.2.2.2.2.2.2.2.2.2.2.2.2.2.2.2.2.2.1,v3.2.2.2.2.2.2.2.2.2.2.2.2.2.2.2.2.2.2.1,()))) fun v5=>
 Option.bind (
  bif v5.2.2.2.2.2.2.2.2.2.2.2.2.2.2.2.2.2.1 then
   Option.bind (mS v5.2.2.2.2.2.2.2.2.2.2.2.1) fun r6=>
   some (!r6.1,())
  else
   some (false,())) fun v7=>
 bif v7.1 then
  some (1,())
 else
  Option.bind (
   bif v5.2.2.2.2.2.2.2.2.2.2.2.2.2.1 then
    Option.bind (eG v5.2.2.2.2.2.1) fun r8=>
    bif !r8.1 then
     some (true,())
    else
     bif v5.2.2.2.2.2.2.2.2.2.2.2.2.2.2.2.1 then
      Option.bind (eG v5.2.2.2.2.2.2.2.2.1) fun r9=>
      some (!r9.1,())
     else
      some (false,())
   else
    bif v5.2.2.2.2.2.2.2.2.2.2.2.2.2.2.2.1 then
     Option.bind (eG v5.2.2.2.2.2.2.2.2.1) fun r10=>
     some (!r10.1,())
    else
     some (false,())) fun v11=>
  bif v11.1 then
   some (5,())
  else
   Option.bind (
    bif v5.2.2.2.2.2.2.2.2.2.2.2.2.2.2.2.2.2.2.1 then
     Option.bind (dF v5.2.2.2.2.2.2.2.2.2.2.2.2.1 1 2000) fun r12=>
     some (r12.1,())
    else
     some (false,())) fun v13=>
   bif v13.1 then
    some (1,())
   else
    Option.bind (
     bif !v5.2.2.2.2.2.2.2.2.2.2.2.2.2.1 then
      bif !(v5.2.2.2.2.2.1==[]) then
       some (true,())
      else
       bif !v5.2.2.2.2.2.2.2.2.2.2.2.2.2.2.1 then
        bif !((v5.2.2.2.2.2.2.1==0)&&((v5.2.2.2.2.2.2.2.1==0)&&true)) then
         some (true,())
        else
         bif !v5.2.2.2.2.2.2.2.2.2.2.2.2.2.2.2.1 then
          bif !(v5.2.2.2.2.2.2.2.2.1==[]) then
           some (true,())
          else
           bif !v5.2.2.2.2.2.2.2.2.2.2.2.2.2.2.2.2.1 then
            bif !((v5.2.2.2.2.2.2.2.2.2.1==0)&&((v5.2.2.2.2.2.2.2.2.2.2.1==0)&&true)) then
             some (true,())
            else
             bif !v5.2.2.2.2.2.2.2.2.2.2.2.2.2.2.2.2.2.1 then
              bif v5.2.2.2.2.2.2.2.2.2.2.2.1 != 0 then
               some (true,())
              else
               bif !v5.2.2.2.2.2.2.2.2.2.2.2.2.2.2.2.2.2.2.1 then
                some (v5.2.2.2.2.2.2.2.2.2.2.2.2.1 != 0,())
               else
                some (false,())
             else
              bif !v5.2.2.2.2.2.2.2.2.2.2.2.2.2.2.2.2.2.2.1 then
               some (v5.2.2.2.2.2.2.2.2.2.2.2.2.1 != 0,())
              else
               some (false,())
           else
            bif !v5.2.2.2.2.2.2.2.2.2.2.2.2.2.2.2.2.2.1 then
             bif v5.2.2.2.2.2.2.2.2.2.2.2.1 != 0 then
              some (true,())
             else
              bif !v5.2.2.2.2.2.2.2.2.2.2.2.2.2.2.2.2.2.2.1 then
               some (v5.2.2.2.2.2.2.2.2.2.2.2.2.1 != 0,())
              else
               some (false,())
            else
             bif !v5.2.2.2.2.2.2.2.2.2.2.2.2.2.2.2.2.2.2.1 then
              some (v5.2.2.2.2.2.2.2.2.2.2.2.2.1 != 0,())
             else
              some (false,())
         else
          bif !v5.2.2.2.2.2.2.2.2.2.2.2.2.2.2.2.2.1 then
           bif !((v5.2.2.2.2.2.2.2.2.2.1==0)&&((v5.2.2.2.2.2.2.2.2.2.2.1==0)&&true)) then
            some (true,())
           else
            bif !v5.2.2.2.2.2.2.2.2.2.2.2.2.2.2.2.2.2.1 then
             bif v5.2.2.2.2.2.2.2.2.2.2.2.1 != 0 then
              some (true,())
             else
              bif !v5.2.2.2.2.2.2.2.2.2.2.2.2.2.2.2.2.2.2.1 then
               some (v5.2.2.2.2.2.2.2.2.2.2.2.2.1 != 0,())
              else
               some (false,())
            else
             bif !v5.2.2.2.2.2.2.2.2.2.2.2.2.2.2.2.2.2.2.1 then
              some (v5.2.2.2.2.2.2.2.2.2.2.2.2.1 != 0,())
             else
              some (false,())
          else
           bif !v5.2.2.2.2.2.2.2.2.2.2.2.2.2.2.2.2.2.1 then
            bif v5.2.2.2.2.2.2.2.2.2.2.2.1 != 0 then
             some (true,())
            else
             bif !v5.2.2.2.2.2.2.2.2.2.2.2.2.2.2.2.2.2.2.1 then
              some (v5.2.2.2.2.2.2.2.2.2.2.2.2.1 != 0,())
             else
              some (false,())
           else
            bif !v5.2.2.2.2.2.2.2.2.2.2.2.2.2.2.2.2.2.2.1 then
             some (v5.2.2.2.2.2.2.2.2.2.2.2.2.1 != 0,())
            else
             some (false,())
       else
        bif !v5.2.2.2.2.2.2.2.2.2.2.2.2.2.2.2.1 then
         bif !(v5.2.2.2.2.2.2.2.2.1==[]) then
          some (true,())
         else
          bif !v5.2.2.2.2.2.2.2.2.2.2.2.2.2.2.2.2.1 then
           bif !((v5.2.2.2.2.2.2.2.2.2.1==0)&&((v5.2.2.2.2.2.2.2.2.2.2.1==0)&&true)) then
            some (true,())
           else
            bif !v5.2.2.2.2.2.2.2.2.2.2.2.2.2.2.2.2.2.1 then
             bif v5.2.2.2.2.2.2.2.2.2.2.2.1 != 0 then
              some (true,())
             else
              bif !v5.2.2.2.2.2.2.2.2.2.2.2.2.2.2.2.2.2.2.1 then
               some (v5.2.2.2.2.2.2.2.2.2.2.2.2.1 != 0,())
              else
               some (false,())
            else
             bif !v5.2.2.2.2.2.2.2.2.2.2.2.2.2.2.2.2.2.2.1 then
              some (v5.2.2.2.2.2.2.2.2.2.2.2.2.1 != 0,())
             else
              some (false,())
          else
           bif !v5.2.2.2.2.2.2.2.2.2.2.2.2.2.2.2.2.2.1 then
            bif v5.2.2.2.2.2.2.2.2.2.2.2.1 != 0 then
             some (true,())
            else
             bif !v5.2.2.2.2.2.2.2.2.2.2.2.2.2.2.2.2.2.2.1 then
              some (v5.2.2.2.2.2.2.2.2.2.2.2.2.1 != 0,())
             else
              some (false,())
           else
            bif !v5.2.2.2.2.2.2.2.2.2.2.2.2.2.2.2.2.2.2.1 then
             some (v5.2.2.2.2.2.2.2.2.2.2.2.2.1 != 0,())
            else
             some (false,())
        else
         bif !v5.2.2.2.2.2.2.2.2.2.2.2.2.2.2.2.2.1 then
          bif !((v5.2.2.2.2.2.2.2.2.2.1==0)&&((v5.2.2.2.2.2.2.2.2.2.2.1==0)&&true)) then
           some (true,())
          else
           bif !v5.2.2.2.2.2.2.2.2.2.2.2.2.2.2.2.2.2.1 then
            bif v5.2.2.2.2.2.2.2.2.2.2.2.1 != 0 then
             some (true,())
            else
             bif !v5.2.2.2.2.2.2.2.2.2.2.2.2.2.2.2.2.2.2.1 then
              some (v5.2.2.2.2.2.2.2.2.2.2.2.2.1 != 0,())
             else
              some (false,())
           else
            bif !v5.2.2.2.2.2.2.2.2.2.2.2.2.2.2.2.2.2.2.1 then
             some (v5.2.2.2.2.2.2.2.2.2.2.2.2.1 != 0,())
            else
             some (false,())
         else
          bif !v5.2.2.2.2.2.2.2.2.2.2.2.2.2.2.2.2.2.1 then
           bif v5.2.2.2.2.2.2.2.2.2.2.2.1 != 0 then
            some (true,())
           else
            bif !v5.2.2.2.2.2.2.2.2.2.2.2.2.2.2.2.2.2.2.1 then
             some (v5.2.2.2.2.2.2.2.2.2.2.2.2.1 != 0,())
            else
             some (false,())
          else
           bif !v5.2.2.2.2.2.2.2.2.2.2.2.2.2.2.2.2.2.2.1 then
            some (v5.2.2.2.2.2.2.2.2.2.2.2.2.1 != 0,())
           else
            some (false,())
     else
      bif !v5.2.2.2.2.2.2.2.2.2.2.2.2.2.2.1 then
       bif !((v5.2.2.2.2.2.2.1==0)&&((v5.2.2.2.2.2.2.2.1==0)&&true)) then
        some (true,())
       else
        bif !v5.2.2.2.2.2.2.2.2.2.2.2.2.2.2.2.1 then
         bif !(v5.2.2.2.2.2.2.2.2.1==[]) then
          some (true,())
         else
          bif !v5.2.2.2.2.2.2.2.2.2.2.2.2.2.2.2.2.1 then
           bif !((v5.2.2.2.2.2.2.2.2.2.1==0)&&((v5.2.2.2.2.2.2.2.2.2.2.1==0)&&true)) then
            some (true,())
           else
            bif !v5.2.2.2.2.2.2.2.2.2.2.2.2.2.2.2.2.2.1 then
             bif v5.2.2.2.2.2.2.2.2.2.2.2.1 != 0 then
              some (true,())
             else
              bif !v5.2.2.2.2.2.2.2.2.2.2.2.2.2.2.2.2.2.2.1 then
               some (v5.2.2.2.2.2.2.2.2.2.2.2.2.1 != 0,())
              else
               some (false,())
            else
             bif !v5.2.2.2.2.2.2.2.2.2.2.2.2.2.2.2.2.2.2.1 then
              some (v5.2.2.2.2.2.2.2.2.2.2.2.2.1 != 0,())
             else
              some (false,())
          else
           bif !v5.2.2.2.2.2.2.2.2.2.2.2.2.2.2.2.2.2.1 then
            bif v5.2.2.2.2.2.2.2.2.2.2.2.1 != 0 then
             some (true,())
            else
             bif !v5.2.2.2.2.2.2.2.2.2.2.2.2.2.2.2.2.2.2.1 then
              some (v5.2.2.2.2.2.2.2.2.2.2.2.2.1 != 0,())
             else
              some (false,())
           else
            bif !v5.2.2.2.2.2.2.2.2.2.2.2.2.2.2.2.2.2.2.1 then
             some (v5.2.2.2.2.2.2.2.2.2.2.2.2.1 != 0,())
            else
             some (false,())
        else
         bif !v5.2.2.2.2.2.2.2.2.2.2.2.2.2.2.2.2.1 then
          bif !((v5.2.2.2.2.2.2.2.2.2.1==0)&&((v5.2.2.2.2.2.2.2.2.2.2.1==0)&&true)) then
           some (true,())
          else
           bif !v5.2.2.2.2.2.2.2.2.2.2.2.2.2.2.2.2.2.1 then
            bif v5.2.2.2.2.2.2.2.2.2.2.2.1 != 0 then
             some (true,())
            else
             bif !v5.2.2.2.2.2.2.2.2.2.2.2.2.2.2.2.2.2.2.1 then
              some (v5.2.2.2.2.2.2.2.2.2.2.2.2.1 != 0,())
             else
              some (false,())
           else
            bif !v5.2.2.2.2.2.2.2.2.2.2.2.2.2.2.2.2.2.2.1 then
             some (v5.2.2.2.2.2.2.2.2.2.2.2.2.1 != 0,())
            else
             some (false,())
         else
          bif !v5.2.2.2.2.2.2.2.2.2.2.2.2.2.2.2.2.2.1 then
           bif v5.2.2.2.2.2.2.2.2.2.2.2.1 != 0 then
            some (true,())
           else
            bif !v5.2.2.2.2.2.2.2.2.2.2.2.2.2.2.2.2.2.2.1 then
             some (v5.2.2.2.2.2.2.2.2.2.2.2.2.1 != 0,())
            else
             some (false,())
          else
           bif !v5.2.2.2.2.2.2.2.2.2.2.2.2.2.2.2.2.2.2.1 then
            some (v5.2.2.2.2.2.2.2.2.2.2.2.2.1 != 0,())
           else
            some (false,())
      else
       bif !v5.2.2.2.2.2.2.2.2.2.2.2.2.2.2.2.1 then
        bif !(v5.2.2.2.2.2.2.2.2.1==[]) then
         some (true,())
        else
         bif !v5.2.2.2.2.2.2.2.2.2.2.2.2.2.2.2.2.1 then
          bif !((v5.2.2.2.2.2.2.2.2.2.1==0)&&((v5.2.2.2.2.2.2.2.2.2.2.1==0)&&true)) then
           some (true,())
          else
           bif !v5.2.2.2.2.2.2.2.2.2.2.2.2.2.2.2.2.2.1 then
            bif v5.2.2.2.2.2.2.2.2.2.2.2.1 != 0 then
             some (true,())
            else
             bif !v5.2.2.2.2.2.2.2.2.2.2.2.2.2.2.2.2.2.2.1 then
              some (v5.2.2.2.2.2.2.2.2.2.2.2.2.1 != 0,())
             else
              some (false,())
           else
            bif !v5.2.2.2.2.2.2.2.2.2.2.2.2.2.2.2.2.2.2.1 then
             some (v5.2.2.2.2.2.2.2.2.2.2.2.2.1 != 0,())
            else
             some (false,())
         else
          bif !v5.2.2.2.2.2.2.2.2.2.2.2.2.2.2.2.2.2.1 then
           bif v5.2.2.2.2.2.2.2.2.2.2.2.1 != 0 then
            some (true,())
           else
            bif !v5.2.2.2.2.2.2.2.2.2.2.2.2.2.2.2.2.2.2.1 then
             some (v5.2.2.2.2.2.2.2.2.2.2.2.2.1 != 0,())
            else
             some (false,())
          else
           bif !v5.2.2.2.2.2.2.2.2.2.2.2.2.2.2.2.2.2.2.1 then
            some (v5.2.2.2.2.2.2.2.2.2.2.2.2.1 != 0,())
           else
            some (false,())
       else
        bif !v5.2.2.2.2.2.2.2.2.2.2.2.2.2.2.2.2.1 then
         bif !((v5.2.2.2.2.2.2.2.2.2.1==0)&&((v5.2.2.2.2.2.2.2.2.2.2.1==0)&&true)) then
          some (true,())
         else
          bif !v5.2.2.2.2.2.2.2.2.2.2.2.2.2.2.2.2.2.1 then
           bif v5.2.2.2.2.2.2.2.2.2.2.2.1 != 0 then
            some (true,())
           else
            bif !v5.2.2.2.2.2.2.2.2.2.2.2.2.2.2.2.2.2.2.1 then
             some (v5.2.2.2.2.2.2.2.2.2.2.2.2.1 != 0,())
            else
             some (false,())
          else
           bif !v5.2.2.2.2.2.2.2.2.2.2.2.2.2.2.2.2.2.2.1 then
            some (v5.2.2.2.2.2.2.2.2.2.2.2.2.1 != 0,())
           else
            some (false,())
        else
         bif !v5.2.2.2.2.2.2.2.2.2.2.2.2.2.2.2.2.2.1 then
          bif v5.2.2.2.2.2.2.2.2.2.2.2.1 != 0 then
           some (true,())
          else
           bif !v5.2.2.2.2.2.2.2.2.2.2.2.2.2.2.2.2.2.2.1 then
            some (v5.2.2.2.2.2.2.2.2.2.2.2.2.1 != 0,())
           else
            some (false,())
         else
          bif !v5.2.2.2.2.2.2.2.2.2.2.2.2.2.2.2.2.2.2.1 then
           some (v5.2.2.2.2.2.2.2.2.2.2.2.2.1 != 0,())
          else
           some (false,())) fun v14=>
    bif v14.1 then
     some (3,())
    else
     some (0,())
def qZ (a0:aa):Option (Int×Unit):=
 Option.bind (mS a0.1) fun r1=>
 bif !r1.1 then
  some (1,())
 else
  Option.bind (dF a0.2.1 1 2) fun r2=>
  bif r2.1 then
   some (4,())
  else
   Option.bind (dF a0.2.2.1 1 2000) fun r3=>
   bif r3.1 then
    some (1,())
   else
    Option.bind (dF a0.2.2.2.1 1 11) fun r4=>
    bif r4.1 then
     some (4,())
    else
     Option.bind (mX a0.2.2.2.1) fun r5=>
     bif !(r5.1==(a0.2.1==2)) then
      some (4,())
     else
      Option.bind (dF a0.2.2.2.2.1 1 99999) fun r6=>
      bif r6.1 then
       some (1,())
      else
       Option.bind (rf a0) fun r7=>
       some (r7.1,())
abbrev jO:Type:=Int×Int×(List Int)×Unit
abbrev jN:Type:=((Int×Unit) ⊕ Unit)
def oz (x1:jO) (again:jO→Option jN):Option jN:=
 bif decide (x1.2.1<x1.1) then
  chk (decide (0≤x1.2.1)&&decide (x1.2.1<(x1.2.2.1.length:Int))) <|
  Option.bind (x1.2.2.1[x1.2.1.toNat]?) fun y2=>
  bif y2 != 0 then
   some (Sum.inl (y2,()))
  else
   again (x1.1,w64 (x1.2.1+1),x1.2.2.1,())
 else
  some (Sum.inr ())
def jk (a0:aa) (a1:aa):Option (Int×Unit):=
 aL (β:=(Int×Unit)) (γ:=Unit) (
  iter (X:=jO) (β:=jN) (Int.natAbs ((List.length [(w64 (a0.1 - a1.1)),(w64 (a0.2.1 - a1.2.1)),(w64 (a0.2.2.1 - a1.2.2.1))]:Int))+(Int.natAbs (0:Int)+(List.length ([(w64 (a0.1 - a1.1)),(w64 (a0.2.1 - a1.2.1)),(w64 (a0.2.2.1 - a1.2.2.1))]:List Int)+2))) ((List.length [(w64 (a0.1 - a1.1)),(w64 (a0.2.1 - a1.2.1)),(w64 (a0.2.2.1 - a1.2.2.1))]:Int),0,[(w64 (a0.1 - a1.1)),(w64 (a0.2.1 - a1.2.1)),(w64 (a0.2.2.1 - a1.2.2.1))],()) (oz)) fun _=>
 some (0,())
abbrev iP:Type:=(List aa)×(List aa)×Int×Int×Int×Int×Int×Unit
abbrev fQ:Type:=((Int×Unit) ⊕ Unit)
def iO (x1:iP) (again:iP→Option fQ):Option fQ:=
 match x1 with
 | (A,B,C,D,E,F,G,_)=>
 bif decide (D<C) then
  Option.bind (idx B D) fun y2=>
  Option.bind (qZ y2) fun r3=>
  bif r3.1 != 0 then
   some (Sum.inl (r3.1,()))
  else
   Option.bind (
    bif decide (D>0) then
     Option.bind (idx A (w64 (D - 1))) fun y4=>
     Option.bind (jk y4 y2) fun r5=>
     some (decide (r5.1≥0),())
    else
     some (false,())) fun v6=>
   bif v6.1 then
    some (Sum.inl (8,()))
   else
    bif y2.2.1==0 then
     bif y2.2.2.1 != (w64 (E+1)) then
      some (Sum.inl (9,()))
     else
      bif y2.2.1==0 then
       again (A,B,C,w64 (D+1),y2.2.2.1,F,G,())
      else
       bif y2.2.1==1 then
        again (A,B,C,w64 (D+1),E,y2.2.2.1,G,())
       else
        bif y2.2.1==2 then
         again (A,B,C,w64 (D+1),E,F,y2.2.2.1,())
        else
         none
    else
     bif y2.2.1==1 then
      bif y2.2.2.1 != (w64 (F+1)) then
       some (Sum.inl (9,()))
      else
       bif y2.2.1==0 then
        again (A,B,C,w64 (D+1),y2.2.2.1,F,G,())
       else
        bif y2.2.1==1 then
         again (A,B,C,w64 (D+1),E,y2.2.2.1,G,())
        else
         bif y2.2.1==2 then
          again (A,B,C,w64 (D+1),E,F,y2.2.2.1,())
         else
          none
     else
      bif y2.2.1==2 then
       bif y2.2.2.1 != (w64 (G+1)) then
        some (Sum.inl (9,()))
       else
        bif y2.2.1==0 then
         again (A,B,C,w64 (D+1),y2.2.2.1,F,G,())
        else
         bif y2.2.1==1 then
          again (A,B,C,w64 (D+1),E,y2.2.2.1,G,())
         else
          bif y2.2.1==2 then
           again (A,B,C,w64 (D+1),E,F,y2.2.2.1,())
          else
           none
      else
       none
 else
  some (Sum.inr ())
def iV (a0:List aa):Option (Int×Unit):=
 bif decide (((List.length a0:Int))>2000) then
  some (2,())
 else
  aL (β:=(Int×Unit)) (γ:=Unit) (
   iter (X:=iP) (β:=fQ) (List.length a0+(List.length a0+(Int.natAbs ((List.length a0:Int))+(Int.natAbs (0:Int)+(Int.natAbs (0:Int)+(Int.natAbs (0:Int)+(Int.natAbs (0:Int)+2))))))) (a0,a0,(List.length a0:Int),0,0,0,0,()) (iO)) fun _=>
  some (0,())
def mA (a0:ai) (a1:List aa):Option (Int×Unit):=
 Option.bind (pI a0) fun r1=>
 bif r1.1 != 0 then
  some (r1.1,())
 else
  Option.bind (iV a1) fun r2=>
  some (r2.1,())
def fZ (a0:ah):Option (Int×Unit):=
 Option.bind (zi (w64 (3 - a0.2))) fun r1=>
 some (w64 (a0.1*r1.1),())
abbrev kT:Type:=(List aI)×Int×Int×(List UInt8)×(List UInt8)×(List UInt8)×Int×Int×(List aI)×(List aa)×(List ah)×(List aB)×Int×(List (Int×(Option Nat)))×(List aM)×Unit
abbrev pK:Type:=(((ai×(List aa)×(List (Int×(Option Nat)))×(List ah)×(List aB)×Int×Unit)×(List aM)×Unit) ⊕ ((List UInt8)×(List UInt8)×(List UInt8)×Int×Int×(List aI)×(List aa)×(List ah)×(List aB)×Int×(List (Int×(Option Nat)))×(List aM)×Unit))
def kS (x1:kT) (again:kT→Option pK):Option pK:=
 match x1 with
 | (A,B,C,D,E,F,G,H,I,J,K,L,M,N,O,_)=>
 bif decide (C<B) then
  Option.bind (idx A C) fun y2=>
  Option.bind (fZ y2.2.2.1) fun r3=>
  again (A,B,w64 (C+1),D,E,F,G,H,I,J,K,L,M,yK (k:=tI) (v:= .hnd) N y2.1 (some (O.length)),O++[(y2.1,y2.2.1,y2.2.2.2.1,r3.1,0,0,0,y2.2.2.2.2.1,y2.2.2.2.2.2,(-1),0,0,0)],())
 else
  some (Sum.inr (D,E,F,G,H,I,J,K,L,M,N,O,()))
def fJ (a0:ai) (a1:List aa) (a2:List aM):Option ((ai×(List aa)×(List (Int×(Option Nat)))×(List ah)×(List aB)×Int×Unit)×(List aM)×Unit):=
 aL (β:=((ai×(List aa)×(List (Int×(Option Nat)))×(List ah)×(List aB)×Int×Unit)×(List aM)×Unit)) (γ:=((List UInt8)×(List UInt8)×(List UInt8)×Int×Int×(List aI)×(List aa)×(List ah)×(List aB)×Int×(List (Int×(Option Nat)))×(List aM)×Unit)) (
  iter (X:=kT) (β:=pK) (a0.2.2.2.2.2.length+(Int.natAbs ((a0.2.2.2.2.2.length:Int))+(Int.natAbs (0:Int)+(a0.1.length+(a0.2.1.length+(a0.2.2.1.length+(a0.2.2.2.1.natAbs+(a0.2.2.2.2.1.natAbs+(a0.2.2.2.2.2.length+(List.length a1+(List.length ([]:List ah)+(List.length ([]:List aB)+(Int.natAbs (0:Int)+(List.length ([]:List (Int×(Option Nat)))+(List.length a2+2))))))))))))))) (a0.2.2.2.2.2,(a0.2.2.2.2.2.length:Int),0,a0.1,a0.2.1,a0.2.2.1,a0.2.2.2.1,a0.2.2.2.2.1,a0.2.2.2.2.2,a1,[],[],0,[],a2,()) (kS)) fun v4=>
 some (((v4.1,v4.2.1,v4.2.2.1,v4.2.2.2.1,v4.2.2.2.2.1,v4.2.2.2.2.2.1),v4.2.2.2.2.2.2.1,v4.2.2.2.2.2.2.2.2.2.2.1,v4.2.2.2.2.2.2.2.1,v4.2.2.2.2.2.2.2.2.1,v4.2.2.2.2.2.2.2.2.2.1,()),v4.2.2.2.2.2.2.2.2.2.2.2.1,())
def mW (a0:ai×(List aa)×(List (Int×(Option Nat)))×(List ah)×(List aB)×Int×Unit) (a1:Int) (a2:List aM):Option (Int×(ai×(List aa)×(List (Int×(Option Nat)))×(List ah)×(List aB)×Int×Unit)×(List aM)×Unit):=
 Option.bind (idx a0.2.1 a1) fun y1=>
 bif !(Option.isNone (Option.getD (α:=Option Nat) (ot (k:=tI) (v:= .hnd) a0.2.2.1 y1.2.2.2.2.1) none)) then
  some (7,(a0.1,a0.2.1,a0.2.2.1,a0.2.2.2.1,a0.2.2.2.2.1,a0.2.2.2.2.2.1,()),a2,())
 else
  bif decide (((a0.2.2.1.length:Int))≥500) then
   some (16,(a0.1,a0.2.1,a0.2.2.1,a0.2.2.2.1,a0.2.2.2.2.1,a0.2.2.2.2.2.1,()),a2,())
  else
   bif decide (y1.2.2.2.2.2.2.2.2.2.1<a0.1.2.2.2.1) then
    some (1,(a0.1,a0.2.1,a0.2.2.1,a0.2.2.2.1,a0.2.2.2.2.1,a0.2.2.2.2.2.1,()),a2,())
   else
    some (0,(a0.1,a0.2.1,yK (k:=tI) (v:= .hnd) a0.2.2.1 y1.2.2.2.2.1 (some (List.length a2)),a0.2.2.2.1,a0.2.2.2.2.1,a0.2.2.2.2.2.1,()),a2++[(y1.2.2.2.2.1,y1.2.2.2.2.2.1,y1.2.2.2.2.2.2.2.1,0,0,0,0,y1.2.2.2.2.2.2.2.2.1,y1.2.2.2.2.2.2.2.2.2.1,a1,0,0,0)],())
def me (a0:ai×(List aa)×(List (Int×(Option Nat)))×(List ah)×(List aB)×Int×Unit) (a1:Option Nat) (a2:Int) (a3:List aM):Option (Int×(ai×(List aa)×(List (Int×(Option Nat)))×(List ah)×(List aB)×Int×Unit)×(List aM)×Unit):=
 Option.bind (idx a0.2.1 a2) fun y1=>
 Option.bind (
  bif y1.2.2.2.1==3 then
   some (decide (y1.2.2.2.2.2.2.2.2.2.1<a0.1.2.2.2.1),())
  else
   some (false,())) fun v2=>
 bif v2.1 then
  some (1,(a0.1,a0.2.1,a0.2.2.1,a0.2.2.2.1,a0.2.2.2.2.1,a0.2.2.2.2.2.1,()),a3,())
 else
  Option.bind (a1) fun h3=>
  Option.bind (a3[h3]?) fun y4=>
  bif decide (y4.2.2.2.2.2.2.2.2.2.1≥0) then
   some (11,(a0.1,a0.2.1,a0.2.2.1,a0.2.2.2.1,a0.2.2.2.2.1,a0.2.2.2.2.2.1,()),a3,())
  else
   Option.bind (a1) fun h5=>
   Option.bind (a3[h5]?) fun y6=>
   some (0,(a0.1,a0.2.1,a0.2.2.1,a0.2.2.2.1,a0.2.2.2.2.1,a0.2.2.2.2.2.1,()),List.set a3 h5 (y6.1,y6.2.1,y6.2.2.1,y6.2.2.2.1,y6.2.2.2.2.1,y6.2.2.2.2.2.1,y6.2.2.2.2.2.2.1,y6.2.2.2.2.2.2.2.1,y6.2.2.2.2.2.2.2.2.1,a2,y6.2.2.2.2.2.2.2.2.2.2),())
def jP (a0:ai×(List aa)×(List (Int×(Option Nat)))×(List ah)×(List aB)×Int×Unit) (a1:Option Nat) (a2:aa) (a3:List aM):Option (Int×(ai×(List aa)×(List (Int×(Option Nat)))×(List ah)×(List aB)×Int×Unit)×(List aM)×Unit):=
 Option.bind (a1) fun h1=>
 Option.bind (a3[h1]?) fun y2=>
 bif decide (y2.2.2.2.2.2.2.2.2.2.1<0) then
  some (5,(a0.1,a0.2.1,a0.2.2.1,a0.2.2.2.1,a0.2.2.2.2.1,a0.2.2.2.2.2.1,()),a3,())
 else
  Option.bind (a1) fun h3=>
  Option.bind (a3[h3]?) fun y4=>
  Option.bind (idx a0.2.1 y4.2.2.2.2.2.2.2.2.2.1) fun y5=>
  bif y5.2.2.1 != a2.2.2.2.2.2.2.2.2.2.2 then
   some (5,(a0.1,a0.2.1,a0.2.2.1,a0.2.2.2.1,a0.2.2.2.2.1,a0.2.2.2.2.2.1,()),a3,())
  else
   Option.bind (a1) fun h6=>
   Option.bind (a3[h6]?) fun y7=>
   Option.bind (idx a0.2.1 y7.2.2.2.2.2.2.2.2.2.1) fun y8=>
   bif a2.2.2.2.1==5 then
    bif y8.2.2.2.1==2 then
     Option.bind (fZ y8.2.2.2.2.2.2.1) fun r9=>
     Option.bind (a1) fun h10=>
     Option.bind (a3[h10]?) fun y11=>
     Option.bind (a1) fun h12=>
     Option.bind (a3[h12]?) fun y13=>
     bif decide (r9.1<(w64 (y11.2.2.2.2.1 - y13.2.2.2.2.2.2.1))) then
      some (12,(a0.1,a0.2.1,a0.2.2.1,a0.2.2.2.1,a0.2.2.2.2.1,a0.2.2.2.2.2.1,()),a3,())
     else
      Option.bind (fZ y8.2.2.2.2.2.2.1) fun r14=>
      Option.bind (a1) fun h15=>
      Option.bind (a3[h15]?) fun y16=>
      Option.bind (a1) fun h17=>
      Option.bind ((List.set a3 h15 (y16.1,y16.2.1,y16.2.2.1,r14.1,y16.2.2.2.2))[h17]?) fun y18=>
      some (0,(a0.1,a0.2.1,a0.2.2.1,a0.2.2.2.1,a0.2.2.2.2.1,a0.2.2.2.2.2.1,()),List.set (List.set a3 h15 (y16.1,y16.2.1,y16.2.2.1,r14.1,y16.2.2.2.2)) h17 (y18.1,y18.2.1,y18.2.2.1,y18.2.2.2.1,y18.2.2.2.2.1,y18.2.2.2.2.2.1,y18.2.2.2.2.2.2.1,y18.2.2.2.2.2.2.2.1,y18.2.2.2.2.2.2.2.2.1,(-1),y18.2.2.2.2.2.2.2.2.2.2),())
    else
     bif y8.2.2.2.1==1 then
      Option.bind (fZ y8.2.2.2.2.2.2.1) fun r19=>
      Option.bind (a1) fun h20=>
      Option.bind (a3[h20]?) fun y21=>
      Option.bind (a1) fun h22=>
      Option.bind ((List.set a3 h20 (y21.1,y21.2.1,y21.2.2.1,r19.1,y21.2.2.2.2))[h22]?) fun y23=>
      some (0,(a0.1,a0.2.1,a0.2.2.1,a0.2.2.2.1,a0.2.2.2.2.1,a0.2.2.2.2.2.1,()),List.set (List.set a3 h20 (y21.1,y21.2.1,y21.2.2.1,r19.1,y21.2.2.2.2)) h22 (y23.1,y23.2.1,y23.2.2.1,y23.2.2.2.1,y23.2.2.2.2.1,y23.2.2.2.2.2.1,y23.2.2.2.2.2.2.1,y23.2.2.2.2.2.2.2.1,y23.2.2.2.2.2.2.2.2.1,(-1),y23.2.2.2.2.2.2.2.2.2.2),())
     else
      bif y8.2.2.2.1==3 then
       Option.bind (a1) fun h24=>
       Option.bind (a3[h24]?) fun y25=>
       Option.bind (a1) fun h26=>
       Option.bind ((List.set a3 h24 (y25.1,y25.2.1,y25.2.2.1,y25.2.2.2.1,y25.2.2.2.2.1,y25.2.2.2.2.2.1,y25.2.2.2.2.2.2.1,y25.2.2.2.2.2.2.2.1,y8.2.2.2.2.2.2.2.2.2.1,y25.2.2.2.2.2.2.2.2.2))[h26]?) fun y27=>
       some (0,(a0.1,a0.2.1,a0.2.2.1,a0.2.2.2.1,a0.2.2.2.2.1,a0.2.2.2.2.2.1,()),List.set (List.set a3 h24 (y25.1,y25.2.1,y25.2.2.1,y25.2.2.2.1,y25.2.2.2.2.1,y25.2.2.2.2.2.1,y25.2.2.2.2.2.2.1,y25.2.2.2.2.2.2.2.1,y8.2.2.2.2.2.2.2.2.2.1,y25.2.2.2.2.2.2.2.2.2)) h26 (y27.1,y27.2.1,y27.2.2.1,y27.2.2.2.1,y27.2.2.2.2.1,y27.2.2.2.2.2.1,y27.2.2.2.2.2.2.1,y27.2.2.2.2.2.2.2.1,y27.2.2.2.2.2.2.2.2.1,(-1),y27.2.2.2.2.2.2.2.2.2.2),())
      else
       Option.bind (a1) fun h28=>
       Option.bind (a3[h28]?) fun y29=>
       Option.bind (a1) fun h30=>
       Option.bind ((List.set a3 h28 (y29.1,y29.2.1,y29.2.2.1,y29.2.2.2.1,y29.2.2.2.2.1,y29.2.2.2.2.2.1,y29.2.2.2.2.2.2.1,y8.2.2.2.2.2.2.2.2.1,y29.2.2.2.2.2.2.2.2))[h30]?) fun y31=>
       some (0,(a0.1,a0.2.1,a0.2.2.1,a0.2.2.2.1,a0.2.2.2.2.1,a0.2.2.2.2.2.1,()),List.set (List.set a3 h28 (y29.1,y29.2.1,y29.2.2.1,y29.2.2.2.1,y29.2.2.2.2.1,y29.2.2.2.2.2.1,y29.2.2.2.2.2.2.1,y8.2.2.2.2.2.2.2.2.1,y29.2.2.2.2.2.2.2.2)) h30 (y31.1,y31.2.1,y31.2.2.1,y31.2.2.2.1,y31.2.2.2.2.1,y31.2.2.2.2.2.1,y31.2.2.2.2.2.2.1,y31.2.2.2.2.2.2.2.1,y31.2.2.2.2.2.2.2.2.1,(-1),y31.2.2.2.2.2.2.2.2.2.2),())
   else
    Option.bind (a1) fun h32=>
    Option.bind (a3[h32]?) fun y33=>
    some (0,(a0.1,a0.2.1,a0.2.2.1,a0.2.2.2.1,a0.2.2.2.2.1,a0.2.2.2.2.2.1,()),List.set a3 h32 (y33.1,y33.2.1,y33.2.2.1,y33.2.2.2.1,y33.2.2.2.2.1,y33.2.2.2.2.2.1,y33.2.2.2.2.2.2.1,y33.2.2.2.2.2.2.2.1,y33.2.2.2.2.2.2.2.2.1,(-1),y33.2.2.2.2.2.2.2.2.2.2),())
def jS (a0:Option Nat) (a1:List aM):Option (Int×Unit):=
 Option.bind (a0) fun h1=>
 Option.bind (a1[h1]?) fun y2=>
 Option.bind (a0) fun h3=>
 Option.bind (a1[h3]?) fun y4=>
 Option.bind (a0) fun h5=>
 Option.bind (a1[h5]?) fun y6=>
 some (if (w64 ((w64 (y2.2.2.2.1 - y4.2.2.2.2.1))+y6.2.2.2.2.2.2.1))>0 then (w64 ((w64 (y2.2.2.2.1 - y4.2.2.2.2.1))+y6.2.2.2.2.2.2.1)) else 0,())
def jf (a0:ai×(List aa)×(List (Int×(Option Nat)))×(List ah)×(List aB)×Int×Unit) (a1:Option Nat) (a2:aa) (a3:List aM):Option (Int×(ai×(List aa)×(List (Int×(Option Nat)))×(List ah)×(List aB)×Int×Unit)×(List aM)×Unit):=
 bif decide (a2.2.2.2.2.2.2.2.2.2.1<a0.1.2.2.2.1) then
  some (1,(a0.1,a0.2.1,a0.2.2.1,a0.2.2.2.1,a0.2.2.2.2.1,a0.2.2.2.2.2.1,()),a3,())
 else
  Option.bind (a1) fun h1=>
  Option.bind (a3[h1]?) fun y2=>
  bif decide (y2.2.2.2.2.2.2.2.2.2.1≥0) then
   some (11,(a0.1,a0.2.1,a0.2.2.1,a0.2.2.2.1,a0.2.2.2.2.1,a0.2.2.2.2.2.1,()),a3,())
  else
   Option.bind (jS a1 a3) fun r3=>
   bif r3.1==0 then
    some (11,(a0.1,a0.2.1,a0.2.2.1,a0.2.2.2.1,a0.2.2.2.2.1,a0.2.2.2.2.2.1,()),a3,())
   else
    Option.bind (fZ a2.2.2.2.2.2.2.1) fun r4=>
    Option.bind (jS a1 a3) fun r5=>
    bif decide (r4.1>r5.1) then
     some (12,(a0.1,a0.2.1,a0.2.2.1,a0.2.2.2.1,a0.2.2.2.2.1,a0.2.2.2.2.2.1,()),a3,())
    else
     some (0,(a0.1,a0.2.1,a0.2.2.1,a0.2.2.2.1,a0.2.2.2.2.1,a0.2.2.2.2.2.1,()),a3,())
def mc (a0:ai×(List aa)×(List (Int×(Option Nat)))×(List ah)×(List aB)×Int×Unit) (a1:Option Nat) (a2:aa) (a3:List aM):Option (Int×(ai×(List aa)×(List (Int×(Option Nat)))×(List ah)×(List aB)×Int×Unit)×(List aM)×Unit):=
 Option.bind (a1) fun h1=>
 Option.bind (a3[h1]?) fun y2=>
 bif decide (y2.2.2.2.2.2.2.2.2.2.1≥0) then
  some (11,(a0.1,a0.2.1,a0.2.2.1,a0.2.2.2.1,a0.2.2.2.2.1,a0.2.2.2.2.2.1,()),a3,())
 else
  Option.bind (a1) fun h3=>
  Option.bind (a3[h3]?) fun y4=>
  bif y4.2.2.2.2.2.2.2.2.2.2.1==0 then
   some (5,(a0.1,a0.2.1,a0.2.2.1,a0.2.2.2.1,a0.2.2.2.2.1,a0.2.2.2.2.2.1,()),a3,())
  else
   Option.bind (a1) fun h5=>
   Option.bind (a3[h5]?) fun y6=>
   bif y6.2.2.2.2.2.2.2.2.2.2.1 != a2.2.2.2.2.2.2.2.2.2.2 then
    some (5,(a0.1,a0.2.1,a0.2.2.1,a0.2.2.2.1,a0.2.2.2.2.1,a0.2.2.2.2.2.1,()),a3,())
   else
    Option.bind (a1) fun h7=>
    Option.bind (a3[h7]?) fun y8=>
    Option.bind (a1) fun h9=>
    Option.bind (a3[h9]?) fun y10=>
    Option.bind (a1) fun h11=>
    Option.bind (a3[h11]?) fun y12=>
    Option.bind (a1) fun h13=>
    Option.bind (a3[h13]?) fun y14=>
    Option.bind (a1) fun h15=>
    Option.bind (a3[h15]?) fun y16=>
    Option.bind (a1) fun h17=>
    Option.bind ((List.set a3 h15 (y16.1,y16.2.1,y16.2.2.1,w64 ((w64 (y8.2.2.2.2.1 - y10.2.2.2.2.2.2.1))+y12.2.2.2.2.2.2.2.2.2.2.2.1),y16.2.2.2.2))[h17]?) fun y18=>
    Option.bind (a1) fun h19=>
    Option.bind ((List.set (List.set a3 h15 (y16.1,y16.2.1,y16.2.2.1,w64 ((w64 (y8.2.2.2.2.1 - y10.2.2.2.2.2.2.1))+y12.2.2.2.2.2.2.2.2.2.2.2.1),y16.2.2.2.2)) h17 (y18.1,y18.2.1,y18.2.2.1,y18.2.2.2.1,y18.2.2.2.2.1,y18.2.2.2.2.2.1,y18.2.2.2.2.2.2.1,y18.2.2.2.2.2.2.2.1,y14.2.2.2.2.2.2.2.2.2.2.2.2,y18.2.2.2.2.2.2.2.2.2))[h19]?) fun y20=>
    some (0,(a0.1,a0.2.1,a0.2.2.1,a0.2.2.2.1,a0.2.2.2.2.1,a0.2.2.2.2.2.1,()),List.set (List.set (List.set a3 h15 (y16.1,y16.2.1,y16.2.2.1,w64 ((w64 (y8.2.2.2.2.1 - y10.2.2.2.2.2.2.1))+y12.2.2.2.2.2.2.2.2.2.2.2.1),y16.2.2.2.2)) h17 (y18.1,y18.2.1,y18.2.2.1,y18.2.2.2.1,y18.2.2.2.2.1,y18.2.2.2.2.2.1,y18.2.2.2.2.2.2.1,y18.2.2.2.2.2.2.2.1,y14.2.2.2.2.2.2.2.2.2.2.2.2,y18.2.2.2.2.2.2.2.2.2)) h19 (y20.1,y20.2.1,y20.2.2.1,y20.2.2.2.1,y20.2.2.2.2.1,y20.2.2.2.2.2.1,y20.2.2.2.2.2.2.1,y20.2.2.2.2.2.2.2.1,y20.2.2.2.2.2.2.2.2.1,y20.2.2.2.2.2.2.2.2.2.1,0,0,0),())
def l9 (a0:ai×(List aa)×(List (Int×(Option Nat)))×(List ah)×(List aB)×Int×Unit) (a1:Option Nat) (a2:aa) (a3:List aM):Option (Int×(ai×(List aa)×(List (Int×(Option Nat)))×(List ah)×(List aB)×Int×Unit)×(List aM)×Unit):=
 Option.bind (fZ a2.2.2.2.2.2.2.1) fun r1=>
 bif a2.2.2.2.1==9 then
  Option.bind (a1) fun h2=>
  Option.bind (a3[h2]?) fun y3=>
  Option.bind (a1) fun h4=>
  Option.bind (a3[h4]?) fun y5=>
  Option.bind (a1) fun h6=>
  Option.bind (a3[h6]?) fun y7=>
  Option.bind (a1) fun h8=>
  Option.bind (a3[h8]?) fun y9=>
  let n10:Int:=w64 (y7.2.2.2.1+(w64 (Int.tdiv (w64 (y9.2.2.2.1*a0.1.2.2.2.2.1)) 1000)))
  bif decide ((w64 ((w64 (y3.2.2.2.2.1 - y5.2.2.2.2.2.2.1))+r1.1))>n10) then
   some (12,(a0.1,a0.2.1,a0.2.2.1,a0.2.2.2.1,a0.2.2.2.2.1,a0.2.2.2.2.2.1,()),a3,())
  else
   Option.bind (a1) fun h11=>
   Option.bind (a3[h11]?) fun y12=>
   bif decide ((w64 (y12.2.2.2.2.1+r1.1))>1000000000000000) then
    some (16,(a0.1,a0.2.1,a0.2.2.1,a0.2.2.2.1,a0.2.2.2.2.1,a0.2.2.2.2.2.1,()),a3,())
   else
    Option.bind (a1) fun h13=>
    Option.bind (a3[h13]?) fun y14=>
    Option.bind (a1) fun h15=>
    Option.bind (a3[h15]?) fun y16=>
    some (0,(a0.1,a0.2.1,a0.2.2.1,a0.2.2.2.1,a0.2.2.2.2.1,a0.2.2.2.2.2.1,()),List.set a3 h15 (y16.1,y16.2.1,y16.2.2.1,y16.2.2.2.1,w64 (y14.2.2.2.2.1+r1.1),y16.2.2.2.2.2),())
 else
  bif a2.2.2.2.1==10 then
   Option.bind (a1) fun h17=>
   Option.bind (a3[h17]?) fun y18=>
   Option.bind (a1) fun h19=>
   Option.bind (a3[h19]?) fun y20=>
   bif decide ((w64 (y18.2.2.2.2.2.1+r1.1))>y20.2.2.2.2.1) then
    some (12,(a0.1,a0.2.1,a0.2.2.1,a0.2.2.2.1,a0.2.2.2.2.1,a0.2.2.2.2.2.1,()),a3,())
   else
    Option.bind (a1) fun h21=>
    Option.bind (a3[h21]?) fun y22=>
    Option.bind (a1) fun h23=>
    Option.bind (a3[h23]?) fun y24=>
    some (0,(a0.1,a0.2.1,a0.2.2.1,a0.2.2.2.1,a0.2.2.2.2.1,a0.2.2.2.2.2.1,()),List.set a3 h23 (y24.1,y24.2.1,y24.2.2.1,y24.2.2.2.1,y24.2.2.2.2.1,w64 (y22.2.2.2.2.2.1+r1.1),y24.2.2.2.2.2.2),())
  else
   Option.bind (a1) fun h25=>
   Option.bind (a3[h25]?) fun y26=>
   Option.bind (a1) fun h27=>
   Option.bind (a3[h27]?) fun y28=>
   bif decide ((w64 (y26.2.2.2.2.2.2.1+r1.1))>y28.2.2.2.2.2.1) then
    some (12,(a0.1,a0.2.1,a0.2.2.1,a0.2.2.2.1,a0.2.2.2.2.1,a0.2.2.2.2.2.1,()),a3,())
   else
    Option.bind (a1) fun h29=>
    Option.bind (a3[h29]?) fun y30=>
    Option.bind (a1) fun h31=>
    Option.bind (a3[h31]?) fun y32=>
    some (0,(a0.1,a0.2.1,a0.2.2.1,a0.2.2.2.1,a0.2.2.2.2.1,a0.2.2.2.2.2.1,()),List.set a3 h31 (y32.1,y32.2.1,y32.2.2.1,y32.2.2.2.1,y32.2.2.2.2.1,y32.2.2.2.2.2.1,w64 (y30.2.2.2.2.2.2.1+r1.1),y32.2.2.2.2.2.2.2),())
def aP (a0:ai×(List aa)×(List (Int×(Option Nat)))×(List ah)×(List aB)×Int×Unit) (a1:Int) (a2:List aM):Option (Int×(ai×(List aa)×(List (Int×(Option Nat)))×(List ah)×(List aB)×Int×Unit)×(List aM)×Unit):=
 Option.bind (idx a0.2.1 a1) fun y1=>
 bif y1.2.2.2.1==1 then
  Option.bind (mW (a0.1,a0.2.1,a0.2.2.1,a0.2.2.2.1,a0.2.2.2.2.1,a0.2.2.2.2.2.1,()) a1 a2) fun r2=>
  some (r2.1,(r2.2.1.1,r2.2.1.2.1,r2.2.1.2.2.1,r2.2.1.2.2.2.1,r2.2.1.2.2.2.2.1,r2.2.1.2.2.2.2.2.1,()),r2.2.2.1,())
 else
  bif Option.isNone (Option.getD (α:=Option Nat) (ot (k:=tI) (v:= .hnd) a0.2.2.1 y1.2.2.2.2.1) none) then
   some (9,(a0.1,a0.2.1,a0.2.2.1,a0.2.2.2.1,a0.2.2.2.2.1,a0.2.2.2.2.2.1,()),a2,())
  else
   aL (β:=(Int×(ai×(List aa)×(List (Int×(Option Nat)))×(List ah)×(List aB)×Int×Unit)×(List aM)×Unit)) (γ:=(Int×(Option Nat)×Int×Bool×Int×Int×Int×Int×Int×(List UInt8)×Int×Int×(List UInt8)×Int×Int×Int×Int×(List UInt8)×(List UInt8)×(List UInt8)×Int×Int×(List aI)×(List aa)×Int×(List ah)×(List aB)×(List (Int×(Option Nat)))×(List aM)×Unit)) (
    bif y1.2.2.2.1==2 then
     some (Sum.inr (a1,Option.getD (α:=Option Nat) (ot (k:=tI) (v:= .hnd) a0.2.2.1 y1.2.2.2.2.1) none,y1.2.2.2.1,y1.2.2.2.1==2,y1.1,y1.2.1,y1.2.2.1,y1.2.2.2.1,y1.2.2.2.2.1,y1.2.2.2.2.2.1,y1.2.2.2.2.2.2.1.1,y1.2.2.2.2.2.2.1.2,y1.2.2.2.2.2.2.2.1,y1.2.2.2.2.2.2.2.2.1.1,y1.2.2.2.2.2.2.2.2.1.2,y1.2.2.2.2.2.2.2.2.2.1,y1.2.2.2.2.2.2.2.2.2.2,a0.1.1,a0.1.2.1,a0.1.2.2.1,a0.1.2.2.2.1,a0.1.2.2.2.2.1,a0.1.2.2.2.2.2,a0.2.1,a0.2.2.2.2.2.1,a0.2.2.2.1,a0.2.2.2.2.1,a0.2.2.1,a2,()))
    else
     bif y1.2.2.2.1==3 then
      some (Sum.inr (a1,Option.getD (α:=Option Nat) (ot (k:=tI) (v:= .hnd) a0.2.2.1 y1.2.2.2.2.1) none,y1.2.2.2.1,y1.2.2.2.1==3,y1.1,y1.2.1,y1.2.2.1,y1.2.2.2.1,y1.2.2.2.2.1,y1.2.2.2.2.2.1,y1.2.2.2.2.2.2.1.1,y1.2.2.2.2.2.2.1.2,y1.2.2.2.2.2.2.2.1,y1.2.2.2.2.2.2.2.2.1.1,y1.2.2.2.2.2.2.2.2.1.2,y1.2.2.2.2.2.2.2.2.2.1,y1.2.2.2.2.2.2.2.2.2.2,a0.1.1,a0.1.2.1,a0.1.2.2.1,a0.1.2.2.2.1,a0.1.2.2.2.2.1,a0.1.2.2.2.2.2,a0.2.1,a0.2.2.2.2.2.1,a0.2.2.2.1,a0.2.2.2.2.1,a0.2.2.1,a2,()))
     else
      some (Sum.inr (a1,Option.getD (α:=Option Nat) (ot (k:=tI) (v:= .hnd) a0.2.2.1 y1.2.2.2.2.1) none,y1.2.2.2.1,y1.2.2.2.1==4,y1.1,y1.2.1,y1.2.2.1,y1.2.2.2.1,y1.2.2.2.2.1,y1.2.2.2.2.2.1,y1.2.2.2.2.2.2.1.1,y1.2.2.2.2.2.2.1.2,y1.2.2.2.2.2.2.2.1,y1.2.2.2.2.2.2.2.2.1.1,y1.2.2.2.2.2.2.2.2.1.2,y1.2.2.2.2.2.2.2.2.2.1,y1.2.2.2.2.2.2.2.2.2.2,a0.1.1,a0.1.2.1,a0.1.2.2.1,a0.1.2.2.2.1,a0.1.2.2.2.2.1,a0.1.2.2.2.2.2,a0.2.1,a0.2.2.2.2.2.1,a0.2.2.2.1,a0.2.2.2.2.1,a0.2.2.1,a2,()))) fun v3=>
   bif v3.2.2.2.1 then
    Option.bind (me ((v3.2.2.2.2.2.2.2.2.2.2.2.2.2.2.2.2.2.1,v3.2.2.2.2.2.2.2.2.2.2.2.2.2.2.2.2.2.2.1,v3.2.2.2.2.2.2.2.2.2.2.2.2.2.2.2.2.2.2.2.1,v3.2.2.2.2.2.2.2.2.2.2.2.2.2.2.2.2.2.2.2.2.1,v3.2.2.2.2.2.2.2.2.2.2.2.2.2.2.2.2.2.2.2.2.2.1,v3.2.2.2.2.2.2.2.2.2.2.2.2.2.2.2.2.2.2.2.2.2.2.1),v3.2.2.2.2.2.2.2.2.2.2.2.2.2.2.2.2.2.2.2.2.2.2.2.1,v3.2.2.2.2.2.2.2.2.2.2.2.2.2.2.2.2.2.2.2.2.2.2.2.2.2.2.2.1,v3.2.2.2.2.2.2.2.2.2.2.2.2.2.2.2.2.2.2.2.2.2.2.2.2.2.1,v3.2.2.2.2.2.2.2.2.2.2.2.2.2.2.2.2.2.2.2.2.2.2.2.2.2.2.1,v3.2.2.2.2.2.2.2.2.2.2.2.2.2.2.2.2.2.2.2.2.2.2.2.2.1,()) v3.2.1 v3.1 v3.2.2.2.2.2.2.2.2.2.2.2.2.2.2.2.2.2.2.2.2.2.2.2.2.2.2.2.2.1) fun r4=>
    some (r4.1,(r4.2.1.1,r4.2.1.2.1,r4.2.1.2.2.1,r4.2.1.2.2.2.1,r4.2.1.2.2.2.2.1,r4.2.1.2.2.2.2.2.1,()),r4.2.2.1,())
   else
    aL (β:=(Int×(ai×(List aa)×(List (Int×(Option Nat)))×(List ah)×(List aB)×Int×Unit)×(List aM)×Unit)) (γ:=((Option Nat)×Int×Bool×Int×Int×Int×Int×Int×(List UInt8)×Int×Int×(List UInt8)×Int×Int×Int×Int×(List UInt8)×(List UInt8)×(List UInt8)×Int×Int×(List aI)×(List aa)×Int×(List ah)×(List aB)×(List (Int×(Option Nat)))×(List aM)×Unit)) (
     bif v3.2.2.1==5 then
      some (Sum.inr (v3.2.1,v3.2.2.1,v3.2.2.1==5,v3.2.2.2.2.1,v3.2.2.2.2.2.1,v3.2.2.2.2.2.2.1,v3.2.2.2.2.2.2.2.1,v3.2.2.2.2.2.2.2.2.1,v3.2.2.2.2.2.2.2.2.2.1,v3.2.2.2.2.2.2.2.2.2.2.1,v3.2.2.2.2.2.2.2.2.2.2.2.1,v3.2.2.2.2.2.2.2.2.2.2.2.2.1,v3.2.2.2.2.2.2.2.2.2.2.2.2.2.1,v3.2.2.2.2.2.2.2.2.2.2.2.2.2.2.1,v3.2.2.2.2.2.2.2.2.2.2.2.2.2.2.2.1,v3.2.2.2.2.2.2.2.2.2.2.2.2.2.2.2.2.1,v3.2.2.2.2.2.2.2.2.2.2.2.2.2.2.2.2.2.1,v3.2.2.2.2.2.2.2.2.2.2.2.2.2.2.2.2.2.2.1,v3.2.2.2.2.2.2.2.2.2.2.2.2.2.2.2.2.2.2.2.1,v3.2.2.2.2.2.2.2.2.2.2.2.2.2.2.2.2.2.2.2.2.1,v3.2.2.2.2.2.2.2.2.2.2.2.2.2.2.2.2.2.2.2.2.2.1,v3.2.2.2.2.2.2.2.2.2.2.2.2.2.2.2.2.2.2.2.2.2.2.1,v3.2.2.2.2.2.2.2.2.2.2.2.2.2.2.2.2.2.2.2.2.2.2.2.1,v3.2.2.2.2.2.2.2.2.2.2.2.2.2.2.2.2.2.2.2.2.2.2.2.2.1,v3.2.2.2.2.2.2.2.2.2.2.2.2.2.2.2.2.2.2.2.2.2.2.2.2.2.1,v3.2.2.2.2.2.2.2.2.2.2.2.2.2.2.2.2.2.2.2.2.2.2.2.2.2.2.1,v3.2.2.2.2.2.2.2.2.2.2.2.2.2.2.2.2.2.2.2.2.2.2.2.2.2.2.2.1,v3.2.2.2.2.2.2.2.2.2.2.2.2.2.2.2.2.2.2.2.2.2.2.2.2.2.2.2.2.1,()))
     else
      some (Sum.inr (v3.2.1,v3.2.2.1,v3.2.2.1==6,v3.2.2.2.2.1,v3.2.2.2.2.2.1,v3.2.2.2.2.2.2.1,v3.2.2.2.2.2.2.2.1,v3.2.2.2.2.2.2.2.2.1,v3.2.2.2.2.2.2.2.2.2.1,v3.2.2.2.2.2.2.2.2.2.2.1,v3.2.2.2.2.2.2.2.2.2.2.2.1,v3.2.2.2.2.2.2.2.2.2.2.2.2.1,v3.2.2.2.2.2.2.2.2.2.2.2.2.2.1,v3.2.2.2.2.2.2.2.2.2.2.2.2.2.2.1,v3.2.2.2.2.2.2.2.2.2.2.2.2.2.2.2.1,v3.2.2.2.2.2.2.2.2.2.2.2.2.2.2.2.2.1,v3.2.2.2.2.2.2.2.2.2.2.2.2.2.2.2.2.2.1,v3.2.2.2.2.2.2.2.2.2.2.2.2.2.2.2.2.2.2.1,v3.2.2.2.2.2.2.2.2.2.2.2.2.2.2.2.2.2.2.2.1,v3.2.2.2.2.2.2.2.2.2.2.2.2.2.2.2.2.2.2.2.2.1,v3.2.2.2.2.2.2.2.2.2.2.2.2.2.2.2.2.2.2.2.2.2.1,v3.2.2.2.2.2.2.2.2.2.2.2.2.2.2.2.2.2.2.2.2.2.2.1,v3.2.2.2.2.2.2.2.2.2.2.2.2.2.2.2.2.2.2.2.2.2.2.2.1,v3.2.2.2.2.2.2.2.2.2.2.2.2.2.2.2.2.2.2.2.2.2.2.2.2.1,v3.2.2.2.2.2.2.2.2.2.2.2.2.2.2.2.2.2.2.2.2.2.2.2.2.2.1,v3.2.2.2.2.2.2.2.2.2.2.2.2.2.2.2.2.2.2.2.2.2.2.2.2.2.2.1,v3.2.2.2.2.2.2.2.2.2.2.2.2.2.2.2.2.2.2.2.2.2.2.2.2.2.2.2.1,v3.2.2.2.2.2.2.2.2.2.2.2.2.2.2.2.2.2.2.2.2.2.2.2.2.2.2.2.2.1,()))) fun v5=>
    aL (β:=(Int×(ai×(List aa)×(List (Int×(Option Nat)))×(List ah)×(List aB)×Int×Unit)×(List aM)×Unit)) (γ:=((Option Nat)×Int×Int×Int×Int×Int×Int×(List UInt8)×Int×Int×(List UInt8)×Int×Int×Int×Int×(List UInt8)×(List UInt8)×(List UInt8)×Int×Int×(List aI)×(List aa)×(List (Int×(Option Nat)))×(List ah)×(List aB)×Int×(List aM)×Unit)) (
     bif v5.2.2.1 then
      Option.bind (jP ((v5.2.2.2.2.2.2.2.2.2.2.2.2.2.2.2.2.1,v5.2.2.2.2.2.2.2.2.2.2.2.2.2.2.2.2.2.1,v5.2.2.2.2.2.2.2.2.2.2.2.2.2.2.2.2.2.2.1,v5.2.2.2.2.2.2.2.2.2.2.2.2.2.2.2.2.2.2.2.1,v5.2.2.2.2.2.2.2.2.2.2.2.2.2.2.2.2.2.2.2.2.1,v5.2.2.2.2.2.2.2.2.2.2.2.2.2.2.2.2.2.2.2.2.2.1),v5.2.2.2.2.2.2.2.2.2.2.2.2.2.2.2.2.2.2.2.2.2.2.1,v5.2.2.2.2.2.2.2.2.2.2.2.2.2.2.2.2.2.2.2.2.2.2.2.2.2.2.1,v5.2.2.2.2.2.2.2.2.2.2.2.2.2.2.2.2.2.2.2.2.2.2.2.2.1,v5.2.2.2.2.2.2.2.2.2.2.2.2.2.2.2.2.2.2.2.2.2.2.2.2.2.1,v5.2.2.2.2.2.2.2.2.2.2.2.2.2.2.2.2.2.2.2.2.2.2.2.1,()) v5.1 (v5.2.2.2.1,v5.2.2.2.2.1,v5.2.2.2.2.2.1,v5.2.2.2.2.2.2.1,v5.2.2.2.2.2.2.2.1,v5.2.2.2.2.2.2.2.2.1,(v5.2.2.2.2.2.2.2.2.2.1,v5.2.2.2.2.2.2.2.2.2.2.1),v5.2.2.2.2.2.2.2.2.2.2.2.1,(v5.2.2.2.2.2.2.2.2.2.2.2.2.1,v5.2.2.2.2.2.2.2.2.2.2.2.2.2.1),v5.2.2.2.2.2.2.2.2.2.2.2.2.2.2.1,v5.2.2.2.2.2.2.2.2.2.2.2.2.2.2.2.1) v5.2.2.2.2.2.2.2.2.2.2.2.2.2.2.2.2.2.2.2.2.2.2.2.2.2.2.2.1) fun r6=>
      some (Sum.inr (v5.1,r6.1,v5.2.2.2.1,v5.2.2.2.2.1,v5.2.2.2.2.2.1,v5.2.2.2.2.2.2.1,v5.2.2.2.2.2.2.2.1,v5.2.2.2.2.2.2.2.2.1,v5.2.2.2.2.2.2.2.2.2.1,v5.2.2.2.2.2.2.2.2.2.2.1,v5.2.2.2.2.2.2.2.2.2.2.2.1,v5.2.2.2.2.2.2.2.2.2.2.2.2.1,v5.2.2.2.2.2.2.2.2.2.2.2.2.2.1,v5.2.2.2.2.2.2.2.2.2.2.2.2.2.2.1,v5.2.2.2.2.2.2.2.2.2.2.2.2.2.2.2.1,r6.2.1.1.1,r6.2.1.1.2.1,r6.2.1.1.2.2.1,r6.2.1.1.2.2.2.1,r6.2.1.1.2.2.2.2.1,r6.2.1.1.2.2.2.2.2,r6.2.1.2.1,r6.2.1.2.2.1,r6.2.1.2.2.2.1,r6.2.1.2.2.2.2.1,r6.2.1.2.2.2.2.2.1,r6.2.2.1,()))
     else
      bif v5.2.1==7 then
       Option.bind (jf ((v5.2.2.2.2.2.2.2.2.2.2.2.2.2.2.2.2.1,v5.2.2.2.2.2.2.2.2.2.2.2.2.2.2.2.2.2.1,v5.2.2.2.2.2.2.2.2.2.2.2.2.2.2.2.2.2.2.1,v5.2.2.2.2.2.2.2.2.2.2.2.2.2.2.2.2.2.2.2.1,v5.2.2.2.2.2.2.2.2.2.2.2.2.2.2.2.2.2.2.2.2.1,v5.2.2.2.2.2.2.2.2.2.2.2.2.2.2.2.2.2.2.2.2.2.1),v5.2.2.2.2.2.2.2.2.2.2.2.2.2.2.2.2.2.2.2.2.2.2.1,v5.2.2.2.2.2.2.2.2.2.2.2.2.2.2.2.2.2.2.2.2.2.2.2.2.2.2.1,v5.2.2.2.2.2.2.2.2.2.2.2.2.2.2.2.2.2.2.2.2.2.2.2.2.1,v5.2.2.2.2.2.2.2.2.2.2.2.2.2.2.2.2.2.2.2.2.2.2.2.2.2.1,v5.2.2.2.2.2.2.2.2.2.2.2.2.2.2.2.2.2.2.2.2.2.2.2.1,()) v5.1 (v5.2.2.2.1,v5.2.2.2.2.1,v5.2.2.2.2.2.1,v5.2.2.2.2.2.2.1,v5.2.2.2.2.2.2.2.1,v5.2.2.2.2.2.2.2.2.1,(v5.2.2.2.2.2.2.2.2.2.1,v5.2.2.2.2.2.2.2.2.2.2.1),v5.2.2.2.2.2.2.2.2.2.2.2.1,(v5.2.2.2.2.2.2.2.2.2.2.2.2.1,v5.2.2.2.2.2.2.2.2.2.2.2.2.2.1),v5.2.2.2.2.2.2.2.2.2.2.2.2.2.2.1,v5.2.2.2.2.2.2.2.2.2.2.2.2.2.2.2.1) v5.2.2.2.2.2.2.2.2.2.2.2.2.2.2.2.2.2.2.2.2.2.2.2.2.2.2.2.1) fun r7=>
       some (Sum.inr (v5.1,r7.1,v5.2.2.2.1,v5.2.2.2.2.1,v5.2.2.2.2.2.1,v5.2.2.2.2.2.2.1,v5.2.2.2.2.2.2.2.1,v5.2.2.2.2.2.2.2.2.1,v5.2.2.2.2.2.2.2.2.2.1,v5.2.2.2.2.2.2.2.2.2.2.1,v5.2.2.2.2.2.2.2.2.2.2.2.1,v5.2.2.2.2.2.2.2.2.2.2.2.2.1,v5.2.2.2.2.2.2.2.2.2.2.2.2.2.1,v5.2.2.2.2.2.2.2.2.2.2.2.2.2.2.1,v5.2.2.2.2.2.2.2.2.2.2.2.2.2.2.2.1,r7.2.1.1.1,r7.2.1.1.2.1,r7.2.1.1.2.2.1,r7.2.1.1.2.2.2.1,r7.2.1.1.2.2.2.2.1,r7.2.1.1.2.2.2.2.2,r7.2.1.2.1,r7.2.1.2.2.1,r7.2.1.2.2.2.1,r7.2.1.2.2.2.2.1,r7.2.1.2.2.2.2.2.1,r7.2.2.1,()))
      else
       bif v5.2.1==8 then
        Option.bind (mc ((v5.2.2.2.2.2.2.2.2.2.2.2.2.2.2.2.2.1,v5.2.2.2.2.2.2.2.2.2.2.2.2.2.2.2.2.2.1,v5.2.2.2.2.2.2.2.2.2.2.2.2.2.2.2.2.2.2.1,v5.2.2.2.2.2.2.2.2.2.2.2.2.2.2.2.2.2.2.2.1,v5.2.2.2.2.2.2.2.2.2.2.2.2.2.2.2.2.2.2.2.2.1,v5.2.2.2.2.2.2.2.2.2.2.2.2.2.2.2.2.2.2.2.2.2.1),v5.2.2.2.2.2.2.2.2.2.2.2.2.2.2.2.2.2.2.2.2.2.2.1,v5.2.2.2.2.2.2.2.2.2.2.2.2.2.2.2.2.2.2.2.2.2.2.2.2.2.2.1,v5.2.2.2.2.2.2.2.2.2.2.2.2.2.2.2.2.2.2.2.2.2.2.2.2.1,v5.2.2.2.2.2.2.2.2.2.2.2.2.2.2.2.2.2.2.2.2.2.2.2.2.2.1,v5.2.2.2.2.2.2.2.2.2.2.2.2.2.2.2.2.2.2.2.2.2.2.2.1,()) v5.1 (v5.2.2.2.1,v5.2.2.2.2.1,v5.2.2.2.2.2.1,v5.2.2.2.2.2.2.1,v5.2.2.2.2.2.2.2.1,v5.2.2.2.2.2.2.2.2.1,(v5.2.2.2.2.2.2.2.2.2.1,v5.2.2.2.2.2.2.2.2.2.2.1),v5.2.2.2.2.2.2.2.2.2.2.2.1,(v5.2.2.2.2.2.2.2.2.2.2.2.2.1,v5.2.2.2.2.2.2.2.2.2.2.2.2.2.1),v5.2.2.2.2.2.2.2.2.2.2.2.2.2.2.1,v5.2.2.2.2.2.2.2.2.2.2.2.2.2.2.2.1) v5.2.2.2.2.2.2.2.2.2.2.2.2.2.2.2.2.2.2.2.2.2.2.2.2.2.2.2.1) fun r8=>
        some (Sum.inl (r8.1,(r8.2.1.1,r8.2.1.2.1,r8.2.1.2.2.1,r8.2.1.2.2.2.1,r8.2.1.2.2.2.2.1,r8.2.1.2.2.2.2.2.1,()),r8.2.2.1,()))
       else
        Option.bind (l9 ((v5.2.2.2.2.2.2.2.2.2.2.2.2.2.2.2.2.1,v5.2.2.2.2.2.2.2.2.2.2.2.2.2.2.2.2.2.1,v5.2.2.2.2.2.2.2.2.2.2.2.2.2.2.2.2.2.2.1,v5.2.2.2.2.2.2.2.2.2.2.2.2.2.2.2.2.2.2.2.1,v5.2.2.2.2.2.2.2.2.2.2.2.2.2.2.2.2.2.2.2.2.1,v5.2.2.2.2.2.2.2.2.2.2.2.2.2.2.2.2.2.2.2.2.2.1),v5.2.2.2.2.2.2.2.2.2.2.2.2.2.2.2.2.2.2.2.2.2.2.1,v5.2.2.2.2.2.2.2.2.2.2.2.2.2.2.2.2.2.2.2.2.2.2.2.2.2.2.1,v5.2.2.2.2.2.2.2.2.2.2.2.2.2.2.2.2.2.2.2.2.2.2.2.2.1,v5.2.2.2.2.2.2.2.2.2.2.2.2.2.2.2.2.2.2.2.2.2.2.2.2.2.1,v5.2.2.2.2.2.2.2.2.2.2.2.2.2.2.2.2.2.2.2.2.2.2.2.1,()) v5.1 (v5.2.2.2.1,v5.2.2.2.2.1,v5.2.2.2.2.2.1,v5.2.2.2.2.2.2.1,v5.2.2.2.2.2.2.2.1,v5.2.2.2.2.2.2.2.2.1,(v5.2.2.2.2.2.2.2.2.2.1,v5.2.2.2.2.2.2.2.2.2.2.1),v5.2.2.2.2.2.2.2.2.2.2.2.1,(v5.2.2.2.2.2.2.2.2.2.2.2.2.1,v5.2.2.2.2.2.2.2.2.2.2.2.2.2.1),v5.2.2.2.2.2.2.2.2.2.2.2.2.2.2.1,v5.2.2.2.2.2.2.2.2.2.2.2.2.2.2.2.1) v5.2.2.2.2.2.2.2.2.2.2.2.2.2.2.2.2.2.2.2.2.2.2.2.2.2.2.2.1) fun r9=>
        some (Sum.inr (v5.1,r9.1,v5.2.2.2.1,v5.2.2.2.2.1,v5.2.2.2.2.2.1,v5.2.2.2.2.2.2.1,v5.2.2.2.2.2.2.2.1,v5.2.2.2.2.2.2.2.2.1,v5.2.2.2.2.2.2.2.2.2.1,v5.2.2.2.2.2.2.2.2.2.2.1,v5.2.2.2.2.2.2.2.2.2.2.2.1,v5.2.2.2.2.2.2.2.2.2.2.2.2.1,v5.2.2.2.2.2.2.2.2.2.2.2.2.2.1,v5.2.2.2.2.2.2.2.2.2.2.2.2.2.2.1,v5.2.2.2.2.2.2.2.2.2.2.2.2.2.2.2.1,r9.2.1.1.1,r9.2.1.1.2.1,r9.2.1.1.2.2.1,r9.2.1.1.2.2.2.1,r9.2.1.1.2.2.2.2.1,r9.2.1.1.2.2.2.2.2,r9.2.1.2.1,r9.2.1.2.2.1,r9.2.1.2.2.2.1,r9.2.1.2.2.2.2.1,r9.2.1.2.2.2.2.2.1,r9.2.2.1,()))) fun v10=>
    Option.bind (
     bif v10.2.1==0 then
      Option.bind (mX v10.2.2.2.2.2.1) fun r11=>
      some (r11.1,())
     else
      some (false,())) fun v12=>
    bif v12.1 then
     Option.bind (v10.1) fun h13=>
     Option.bind (v10.2.2.2.2.2.2.2.2.2.2.2.2.2.2.2.2.2.2.2.2.2.2.2.2.2.2.1[h13]?) fun y14=>
     bif v10.2.2.2.2.2.1==7 then
      Option.bind (fZ (v10.2.2.2.2.2.2.2.2.1,v10.2.2.2.2.2.2.2.2.2.1)) fun r15=>
      Option.bind (v10.1) fun h16=>
      Option.bind ((List.set v10.2.2.2.2.2.2.2.2.2.2.2.2.2.2.2.2.2.2.2.2.2.2.2.2.2.2.1 h13 (y14.1,y14.2.1,y14.2.2.1,y14.2.2.2.1,y14.2.2.2.2.1,y14.2.2.2.2.2.1,y14.2.2.2.2.2.2.1,y14.2.2.2.2.2.2.2.1,y14.2.2.2.2.2.2.2.2.1,y14.2.2.2.2.2.2.2.2.2.1,0,0,0))[h16]?) fun y17=>
      some (v10.2.1,((v10.2.2.2.2.2.2.2.2.2.2.2.2.2.2.2.1,v10.2.2.2.2.2.2.2.2.2.2.2.2.2.2.2.2.1,v10.2.2.2.2.2.2.2.2.2.2.2.2.2.2.2.2.2.1,v10.2.2.2.2.2.2.2.2.2.2.2.2.2.2.2.2.2.2.1,v10.2.2.2.2.2.2.2.2.2.2.2.2.2.2.2.2.2.2.2.1,v10.2.2.2.2.2.2.2.2.2.2.2.2.2.2.2.2.2.2.2.2.1),v10.2.2.2.2.2.2.2.2.2.2.2.2.2.2.2.2.2.2.2.2.2.1,v10.2.2.2.2.2.2.2.2.2.2.2.2.2.2.2.2.2.2.2.2.2.2.1,v10.2.2.2.2.2.2.2.2.2.2.2.2.2.2.2.2.2.2.2.2.2.2.2.1,v10.2.2.2.2.2.2.2.2.2.2.2.2.2.2.2.2.2.2.2.2.2.2.2.2.1,v10.2.2.2.2.2.2.2.2.2.2.2.2.2.2.2.2.2.2.2.2.2.2.2.2.2.1,()),List.set (List.set v10.2.2.2.2.2.2.2.2.2.2.2.2.2.2.2.2.2.2.2.2.2.2.2.2.2.2.1 h13 (y14.1,y14.2.1,y14.2.2.1,y14.2.2.2.1,y14.2.2.2.2.1,y14.2.2.2.2.2.1,y14.2.2.2.2.2.2.1,y14.2.2.2.2.2.2.2.1,y14.2.2.2.2.2.2.2.2.1,y14.2.2.2.2.2.2.2.2.2.1,0,0,0)) h16 (y17.1,y17.2.1,y17.2.2.1,y17.2.2.2.1,y17.2.2.2.2.1,y17.2.2.2.2.2.1,y17.2.2.2.2.2.2.1,y17.2.2.2.2.2.2.2.1,y17.2.2.2.2.2.2.2.2.1,y17.2.2.2.2.2.2.2.2.2.1,v10.2.2.2.2.1,r15.1,v10.2.2.2.2.2.2.2.2.2.2.2.2.2.1),())
     else
      some (v10.2.1,((v10.2.2.2.2.2.2.2.2.2.2.2.2.2.2.2.1,v10.2.2.2.2.2.2.2.2.2.2.2.2.2.2.2.2.1,v10.2.2.2.2.2.2.2.2.2.2.2.2.2.2.2.2.2.1,v10.2.2.2.2.2.2.2.2.2.2.2.2.2.2.2.2.2.2.1,v10.2.2.2.2.2.2.2.2.2.2.2.2.2.2.2.2.2.2.2.1,v10.2.2.2.2.2.2.2.2.2.2.2.2.2.2.2.2.2.2.2.2.1),v10.2.2.2.2.2.2.2.2.2.2.2.2.2.2.2.2.2.2.2.2.2.1,v10.2.2.2.2.2.2.2.2.2.2.2.2.2.2.2.2.2.2.2.2.2.2.1,v10.2.2.2.2.2.2.2.2.2.2.2.2.2.2.2.2.2.2.2.2.2.2.2.1,v10.2.2.2.2.2.2.2.2.2.2.2.2.2.2.2.2.2.2.2.2.2.2.2.2.1,v10.2.2.2.2.2.2.2.2.2.2.2.2.2.2.2.2.2.2.2.2.2.2.2.2.2.1,()),List.set v10.2.2.2.2.2.2.2.2.2.2.2.2.2.2.2.2.2.2.2.2.2.2.2.2.2.2.1 h13 (y14.1,y14.2.1,y14.2.2.1,y14.2.2.2.1,y14.2.2.2.2.1,y14.2.2.2.2.2.1,y14.2.2.2.2.2.2.1,y14.2.2.2.2.2.2.2.1,y14.2.2.2.2.2.2.2.2.1,y14.2.2.2.2.2.2.2.2.2.1,0,0,0),())
    else
     some (v10.2.1,((v10.2.2.2.2.2.2.2.2.2.2.2.2.2.2.2.1,v10.2.2.2.2.2.2.2.2.2.2.2.2.2.2.2.2.1,v10.2.2.2.2.2.2.2.2.2.2.2.2.2.2.2.2.2.1,v10.2.2.2.2.2.2.2.2.2.2.2.2.2.2.2.2.2.2.1,v10.2.2.2.2.2.2.2.2.2.2.2.2.2.2.2.2.2.2.2.1,v10.2.2.2.2.2.2.2.2.2.2.2.2.2.2.2.2.2.2.2.2.1),v10.2.2.2.2.2.2.2.2.2.2.2.2.2.2.2.2.2.2.2.2.2.1,v10.2.2.2.2.2.2.2.2.2.2.2.2.2.2.2.2.2.2.2.2.2.2.1,v10.2.2.2.2.2.2.2.2.2.2.2.2.2.2.2.2.2.2.2.2.2.2.2.1,v10.2.2.2.2.2.2.2.2.2.2.2.2.2.2.2.2.2.2.2.2.2.2.2.2.1,v10.2.2.2.2.2.2.2.2.2.2.2.2.2.2.2.2.2.2.2.2.2.2.2.2.2.1,()),v10.2.2.2.2.2.2.2.2.2.2.2.2.2.2.2.2.2.2.2.2.2.2.2.2.2.2.1,())
def mZ (a0:Int):Option (ah×Unit):=
 Option.bind (sW a0) fun r1=>
 Option.bind (uX r1.1 3) fun r2=>
 some (r2.1,())
abbrev qU:Type:=Int×Int×Int×Int×Unit
abbrev qT:Type:=((ah×Unit) ⊕ (Int×Int×Int×Int×Unit))
def qS (x1:qU) (again:qU→Option qT):Option qT:=
 Option.bind (
  bif decide (x1.2.1>0) then
   some ((Int.tmod x1.1 10)==0,())
  else
   some (false,())) fun v2=>
 bif v2.1 then
  again (w64 (Int.tdiv x1.1 10),w64 (x1.2.1 - 1),x1.2.2.1,x1.2.2.2.1,())
 else
  some (Sum.inr (x1.1,x1.2.1,x1.2.2.1,x1.2.2.2.1,()))
def wB (a0:ah):Option (ah×Unit):=
 aL (β:=(ah×Unit)) (γ:=(Int×Int×Int×Int×Unit)) (
  iter (X:=qU) (β:=qT) (a0.1.natAbs+(a0.2.natAbs+(Int.natAbs (0:Int)+(Int.natAbs (0:Int)+2)))) (a0.1,a0.2,0,0,()) (qS)) fun v3=>
 some ((v3.1,v3.2.1),())
def pJ (a0:Option Nat) (a1:List aM):Option (fU×Unit):=
 Option.bind (a0) fun h1=>
 Option.bind (a1[h1]?) fun y2=>
 Option.bind (a0) fun h3=>
 Option.bind (a1[h3]?) fun y4=>
 Option.bind (a0) fun h5=>
 Option.bind (a1[h5]?) fun y6=>
 Option.bind (a0) fun h7=>
 Option.bind (a1[h7]?) fun y8=>
 Option.bind (mZ y8.2.2.2.1) fun r9=>
 Option.bind (a0) fun h10=>
 Option.bind (a1[h10]?) fun y11=>
 Option.bind (wB y11.2.2.2.2.2.2.2.1) fun r12=>
 Option.bind (a0) fun h13=>
 Option.bind (a1[h13]?) fun y14=>
 Option.bind (a0) fun h15=>
 Option.bind (a1[h15]?) fun y16=>
 Option.bind (mZ y16.2.2.2.2.1) fun r17=>
 Option.bind (a0) fun h18=>
 Option.bind (a1[h18]?) fun y19=>
 Option.bind (mZ y19.2.2.2.2.2.1) fun r20=>
 Option.bind (a0) fun h21=>
 Option.bind (a1[h21]?) fun y22=>
 Option.bind (mZ y22.2.2.2.2.2.2.1) fun r23=>
 Option.bind (jS a0 a1) fun r24=>
 Option.bind (mZ r24.1) fun r25=>
 some ((y2.1,y4.2.1,y6.2.2.1,r9.1,r12.1,y14.2.2.2.2.2.2.2.2.1,r17.1,r20.1,r23.1,r25.1),())
abbrev jR:Type:=Int×(List aa)×Int×Int×(List UInt8)×(List UInt8)×(List UInt8)×Int×Int×(List aI)×(List aa)×(List (Int×(Option Nat)))×(List ah)×(List aB)×Int×(List aM)×Unit
abbrev jQ:Type:=(((ai×(List aa)×(List (Int×(Option Nat)))×(List ah)×(List aB)×Int×Unit)×(List aM)×Unit) ⊕ ((List UInt8)×(List UInt8)×(List UInt8)×Int×Int×(List aI)×(List aa)×(List (Int×(Option Nat)))×(List ah)×(List aB)×Int×(List aM)×Unit))
def gJ (x1:jR) (again:jR→Option jQ):Option jQ:=
 match x1 with
 | (A,B,C,D,E,F,G,H,I,J,K,L,M,N,O,P,_)=>
 bif decide (D<C) then
  Option.bind (idx B D) fun y2=>
  bif decide (y2.1>A) then
   some (Sum.inr (E,F,G,H,I,J,K,L,M,N,O,P,()))
  else
   Option.bind (aP ((E,F,G,H,I,J),K,L,M,N,O,()) D P) fun r3=>
   bif r3.1 != 0 then
    chk (decide (((r3.2.1.2.2.2.1.length)+1)*16≤140737488355328)&&decide ((r3.2.1.2.2.2.1.length)+1≤maxLen)) <|
    again (A,B,C,w64 (D+1),r3.2.1.1.1,r3.2.1.1.2.1,r3.2.1.1.2.2.1,r3.2.1.1.2.2.2.1,r3.2.1.1.2.2.2.2.1,r3.2.1.1.2.2.2.2.2,r3.2.1.2.1,r3.2.1.2.2.1,r3.2.1.2.2.2.1++[(D,r3.1)],r3.2.1.2.2.2.2.1,r3.2.1.2.2.2.2.2.1,r3.2.2.1,())
   else
    bif y2.2.2.2.2.1==r3.2.1.2.2.2.2.2.1 then
     Option.bind (pJ (Option.getD (α:=Option Nat) (ot (k:=tI) (v:= .hnd) r3.2.1.2.2.1 y2.2.2.2.2.1) none) r3.2.2.1) fun r4=>
     chk (decide (((r3.2.1.2.2.2.2.1.length)+1)*152≤140737488355328)&&decide ((r3.2.1.2.2.2.2.1.length)+1≤maxLen)) <|
     again (A,B,C,w64 (D+1),r3.2.1.1.1,r3.2.1.1.2.1,r3.2.1.1.2.2.1,r3.2.1.1.2.2.2.1,r3.2.1.1.2.2.2.2.1,r3.2.1.1.2.2.2.2.2,r3.2.1.2.1,r3.2.1.2.2.1,r3.2.1.2.2.2.1,r3.2.1.2.2.2.2.1++[(D,r4.1)],r3.2.1.2.2.2.2.2.1,r3.2.2.1,())
    else
     again (A,B,C,w64 (D+1),r3.2.1.1.1,r3.2.1.1.2.1,r3.2.1.1.2.2.1,r3.2.1.1.2.2.2.1,r3.2.1.1.2.2.2.2.1,r3.2.1.1.2.2.2.2.2,r3.2.1.2.1,r3.2.1.2.2.1,r3.2.1.2.2.2.1,r3.2.1.2.2.2.2.1,r3.2.1.2.2.2.2.2.1,r3.2.2.1,())
 else
  some (Sum.inr (E,F,G,H,I,J,K,L,M,N,O,P,()))
def eY (a0:ai×(List aa)×(List (Int×(Option Nat)))×(List ah)×(List aB)×Int×Unit) (a1:Int) (a2:List aM):Option ((ai×(List aa)×(List (Int×(Option Nat)))×(List ah)×(List aB)×Int×Unit)×(List aM)×Unit):=
 aL (β:=((ai×(List aa)×(List (Int×(Option Nat)))×(List ah)×(List aB)×Int×Unit)×(List aM)×Unit)) (γ:=((List UInt8)×(List UInt8)×(List UInt8)×Int×Int×(List aI)×(List aa)×(List (Int×(Option Nat)))×(List ah)×(List aB)×Int×(List aM)×Unit)) (
  iter (X:=jR) (β:=jQ) (Int.natAbs a1+(a0.2.1.length+(Int.natAbs ((a0.2.1.length:Int))+(Int.natAbs (0:Int)+(a0.1.1.length+(a0.1.2.1.length+(a0.1.2.2.1.length+(a0.1.2.2.2.1.natAbs+(a0.1.2.2.2.2.1.natAbs+(a0.1.2.2.2.2.2.length+(a0.2.1.length+(a0.2.2.1.length+(a0.2.2.2.1.length+(a0.2.2.2.2.1.length+(a0.2.2.2.2.2.1.natAbs+(List.length a2+2)))))))))))))))) (a1,a0.2.1,(a0.2.1.length:Int),0,a0.1.1,a0.1.2.1,a0.1.2.2.1,a0.1.2.2.2.1,a0.1.2.2.2.2.1,a0.1.2.2.2.2.2,a0.2.1,a0.2.2.1,a0.2.2.2.1,a0.2.2.2.2.1,a0.2.2.2.2.2.1,a2,()) (gJ)) fun v5=>
 some (((v5.1,v5.2.1,v5.2.2.1,v5.2.2.2.1,v5.2.2.2.2.1,v5.2.2.2.2.2.1),v5.2.2.2.2.2.2.1,v5.2.2.2.2.2.2.2.1,v5.2.2.2.2.2.2.2.2.1,v5.2.2.2.2.2.2.2.2.2.1,v5.2.2.2.2.2.2.2.2.2.2.1,()),v5.2.2.2.2.2.2.2.2.2.2.2.1,())
def mR (a0:List UInt8) (a1:List UInt8):Option (Bool×Unit):=
 bif decide (((List.length a0:Int))≥((List.length a1:Int))) then
  chk (decide (0≤(w64 (((List.length a0:Int)) - ((List.length a1:Int)))))&&decide ((w64 (((List.length a0:Int)) - ((List.length a1:Int))))≤((List.length a0:Int)))&&decide (((List.length a0:Int))≤(List.length a0:Int))) <|
  some ((List.drop (Int.toNat (w64 (((List.length a0:Int)) - ((List.length a1:Int))))) (List.take (Int.toNat ((List.length a0:Int))) a0))==a1,())
 else
  some (false,())
def mP (a0:List UInt8) (a1:List UInt8):Option ((List UInt8)×Bool×Unit):=
 Option.bind (mR a0 a1) fun r1=>
 bif !r1.1 then
  some (a0,false,())
 else
  chk (decide (0≤(0:Int))&&decide ((0:Int)≤(w64 (((List.length a0:Int)) - ((List.length a1:Int)))))&&decide ((w64 (((List.length a0:Int)) - ((List.length a1:Int))))≤(List.length a0:Int))) <|
  some (List.drop 0 (List.take (Int.toNat (w64 (((List.length a0:Int)) - ((List.length a1:Int))))) a0),true,())
def Bj (a0:List UInt8) (a1:List UInt8):Option ((List UInt8)×Bool×Unit):=
 Option.bind (mP a0 a1) fun r1=>
 some (r1.1,r1.2.1,())
def Qg (a0:List UInt8):Option ((List (List UInt8))×Bool×Unit):=
 bif a0==[] then
  some ([],true,())
 else
  Option.bind (Bj a0 [10]) fun r1=>
  Option.bind (strings_Split r1.1 [10]) fun r2=>
  some (r2.1,r1.2.1,())
abbrev CF:Type:=Int×Int×(List (List UInt8))×Unit
abbrev CE:Type:=(((List (List UInt8))×Bool×Unit) ⊕ ((List (List UInt8))×Unit))
def Su (x1:CF) (again:CF→Option CE):Option CE:=
 match x1 with
 | (A,B,C,_)=>
 bif decide (B<A) then
  chk (decide (0≤B)&&decide (B<(C.length:Int))) <|
  Option.bind (C[B.toNat]?) fun y2=>
  bif y2==[] then
   some (Sum.inl ([],false,()))
  else
   again (A,w64 (B+1),C,())
 else
  some (Sum.inr (C,()))
def Qh (a0:List UInt8):Option ((List (List UInt8))×Bool×Unit):=
 Option.bind (strings_Split a0 [32]) fun r1=>
 aL (β:=((List (List UInt8))×Bool×Unit)) (γ:=((List (List UInt8))×Unit)) (
  iter (X:=CF) (β:=CE) (Int.natAbs ((r1.1.length:Int))+(Int.natAbs (0:Int)+(r1.1.length+2))) ((r1.1.length:Int),0,r1.1,()) (Su)) fun v4=>
 some (v4.1,true,())
def iW (a0:(List (List UInt8))×Bool×Unit):Option ((List UInt8)×((List (List UInt8))×Bool×Unit)×Unit):=
 bif ((a0.1.length:Int))==0 then
  some ([],(a0.1,true,()),())
 else
  Option.bind (idx a0.1 0) fun y1=>
  chk (decide (0≤(1:Int))&&decide ((1:Int)≤((a0.1.length:Int)))&&decide (((a0.1.length:Int))≤(a0.1.length:Int))) <|
  some (y1,(List.drop 1 (List.take (Int.toNat ((a0.1.length:Int))) a0.1),a0.2.1,()),())
def gK (a0:(List (List UInt8))×Bool×Unit):Option (Int×((List (List UInt8))×Bool×Unit)×Unit):=
 Option.bind (iW (a0.1,a0.2.1,())) fun r1=>
 Option.bind (Bw r1.1 16) fun r2=>
 bif r1.2.1.2.1 then
  some (r2.1,(r1.2.1.1,true,()),())
 else
  some (r2.1,(r1.2.1.1, !r2.2.1,()),())
def Ik:Option ((List (List UInt8))×Unit):=
 some ([[],[98,117,121,101,114],[115,101,108,108,101,114]],())
def tN (a0:(List (List UInt8))×Bool×Unit) (a1:List (List UInt8)):Option (Int×((List (List UInt8))×Bool×Unit)×Unit):=
 Option.bind (iW (a0.1,a0.2.1,())) fun r1=>
 Option.bind (yu a1 r1.1) fun r2=>
 bif r1.2.1.2.1 then
  some (r2.1,(r1.2.1.1,true,()),())
 else
  some (r2.1,(r1.2.1.1,decide (r2.1<1),()),())
def D1:Option ((List (List UInt8))×Unit):=
 some ([[],[97,100,100],[113,117,97,110,116,105,116,121],[100,117,101],[112,114,105,99,101],[121,101,115],[110,111],[111,102,102,101,114],[116,97,107,101],[115,104,105,112],[114,101,99,101,105,118,101],[114,101,116,117,114,110]],())
def mQ (a0:List UInt8) (a1:List UInt8):Option (Bool×Unit):=
 bif decide (((List.length a0:Int))≥((List.length a1:Int))) then
  chk (decide (0≤(0:Int))&&decide ((0:Int)≤((List.length a1:Int)))&&decide (((List.length a1:Int))≤(List.length a0:Int))) <|
  some ((List.drop 0 (List.take (Int.toNat ((List.length a1:Int))) a0))==a1,())
 else
  some (false,())
def mO (a0:List UInt8) (a1:List UInt8):Option ((List UInt8)×Bool×Unit):=
 Option.bind (mQ a0 a1) fun r1=>
 bif !r1.1 then
  some (a0,false,())
 else
  chk (decide (0≤((List.length a1:Int)))&&decide (((List.length a1:Int))≤((List.length a0:Int)))&&decide (((List.length a0:Int))≤(List.length a0:Int))) <|
  some (List.drop (Int.toNat ((List.length a1:Int))) (List.take (Int.toNat ((List.length a0:Int))) a0),true,())
def Bi (a0:List UInt8) (a1:List UInt8):Option ((List UInt8)×Bool×Unit):=
 Option.bind (mO a0 a1) fun r1=>
 some (r1.1,r1.2.1,())
def qc (a0:List UInt8) (a1:List UInt8):Option (Int×Unit):=
 bif ((List.length a1:Int))==0 then
  some (0,())
 else
  bif a1==a0 then
   some (0,())
  else
   bif ((List.length a1:Int))==1 then
    Option.bind (sG a1 0) fun c1=>
    Option.bind (eF a0 (c1.toNat:Int)) fun r2=>
    some (r2.1,())
   else
    bif decide (((List.length a1:Int))≥((List.length a0:Int))) then
     some ((-1),())
    else
     none
def rT (a0:List UInt8) (a1:List UInt8):Option ((List UInt8)×(List UInt8)×Bool×Unit):=
 Option.bind (qc a0 a1) fun r1=>
 bif decide (r1.1≥0) then
  chk (decide (0≤(0:Int))&&decide ((0:Int)≤r1.1)&&decide (r1.1≤(List.length a0:Int))) <|
  chk (decide (0≤(w64 (r1.1+((List.length a1:Int)))))&&decide ((w64 (r1.1+((List.length a1:Int))))≤((List.length a0:Int)))&&decide (((List.length a0:Int))≤(List.length a0:Int))) <|
  some (List.drop 0 (List.take (Int.toNat r1.1) a0),List.drop (Int.toNat (w64 (r1.1+((List.length a1:Int))))) (List.take (Int.toNat ((List.length a0:Int))) a0),true,())
 else
  some (a0,[],false,())
def L6 (a0:List UInt8) (a1:List UInt8):Option ((List UInt8)×(List UInt8)×Bool×Unit):=
 Option.bind (rT a0 a1) fun r1=>
 some (r1.1,r1.2.1,r1.2.2.1,())
def E0 (a0:List UInt8):Option (Bool×Unit):=
 Option.bind (
  Option.bind (om a0) fun r1=>
  bif r1.1 then
   bif ((List.length a0:Int))==1 then
    some (true,())
   else
    Option.bind (sG a0 0) fun c2=>
    some ((c2.toNat:Int) != 48,())
  else
   some (false,())) fun v3=>
 some (v3.1,())
abbrev yA:Type:=Bool×(List UInt8)×(List UInt8)×Int×Int×Int×Int×Bool×(List Int)×Unit
abbrev yz:Type:=((ah×Int×Unit) ⊕ (Bool×(List UInt8)×Int×Int×Bool×(List Int)×Unit))
def OJ (x1:yA) (again:yA→Option yz):Option yz:=
 match x1 with
 | (A,B,C,D,E,F,G,H,I,_)=>
 bif decide (E<D) then
  Option.bind (sW 10) fun r2=>
  Option.bind (Ee (H,I) r2.1) fun r3=>
  chk (decide (B.length+C.length≤maxLen)) <|
  Option.bind (sG (B++C) E) fun c4=>
  Option.bind (sW (w64 (wu8 ((c4.toNat:Int) - 48)))) fun r5=>
  Option.bind (Gk r3.1 r5.1) fun r6=>
  again (A,B,C,D,w64 (E+1),F,G,r6.1.1,r6.1.2,())
 else
  some (Sum.inr (A,C,F,G,H,I,()))
def Lm (a0:Bool) (a1:List UInt8) (a2:List UInt8):Option (ah×Int×Unit):=
 Option.bind (sW 0) fun r1=>
 chk (decide (List.length a1+List.length a2≤maxLen)) <|
 aL (β:=(ah×Int×Unit)) (γ:=(Bool×(List UInt8)×Int×Int×Bool×(List Int)×Unit)) (
  iter (X:=yA) (β:=yz) (List.length a1+(List.length a2+(Int.natAbs ((List.length (a1++a2):Int))+(Int.natAbs (0:Int)+(Int.natAbs (0:Int)+(Int.natAbs (0:Int)+(r1.1.2.length+2))))))) (a0,a1,a2,(List.length (a1++a2):Int),0,0,0,r1.1.1,r1.1.2,()) (OJ)) fun v8=>
 bif v8.1 then
  Option.bind (jc (v8.2.2.2.2.1,v8.2.2.2.2.2.1)) fun r9=>
  bif r9.1==0 then
   some ((0,0),10,())
  else
   Option.bind (nx (v8.2.2.2.2.1,v8.2.2.2.2.2.1)) fun r10=>
   Option.bind (nA r10.1 ((v8.2.1.length:Int))) fun r11=>
   some (r11.1,r11.2.1,())
 else
  Option.bind (nA (v8.2.2.2.2.1,v8.2.2.2.2.2.1) ((v8.2.1.length:Int))) fun r12=>
  some (r12.1,r12.2.1,())
def Dv (a0:List UInt8):Option (ah×Int×Unit):=
 Option.bind (Bi a0 [45]) fun r1=>
 Option.bind (L6 r1.1 [46]) fun r2=>
 Option.bind (
  bif decide (((List.length a0:Int))>40) then
   some (true,())
  else
   Option.bind (E0 r2.1) fun r3=>
   bif !r3.1 then
    some (true,())
   else
    bif r2.2.2.1 then
     Option.bind (om r2.2.1) fun r4=>
     bif !r4.1 then
      some (true,())
     else
      some (decide (((r2.2.1.length:Int))>9),())
    else
     some (false,())) fun v5=>
 bif v5.1 then
  some ((0,0),10,())
 else
  Option.bind (Lm r1.2.1 r2.1 r2.2.1) fun r6=>
  some (r6.1,r6.2.1,())
def qP (a0:(List (List UInt8))×Bool×Unit):Option (ah×((List (List UInt8))×Bool×Unit)×Unit):=
 Option.bind (iW (a0.1,a0.2.1,())) fun r1=>
 Option.bind (Dv r1.1) fun r2=>
 bif r1.2.1.2.1 then
  some (r2.1,(r1.2.1.1,true,()),())
 else
  some (r2.1,(r1.2.1.1,r2.2.1 != 0,()),())
def F5 (a0:List UInt8):Option (aa×Bool×Unit):=
 Option.bind (Qh a0) fun r1=>
 bif !r1.2.1 then
  some ((0,0,0,0,0,[],(0,0),[],(0,0),0,0),false,())
 else
  Option.bind (gK (r1.1,false,())) fun r2=>
  Option.bind (Ik) fun r3=>
  Option.bind (tN (r2.2.1.1,r2.2.1.2.1,()) r3.1) fun r4=>
  Option.bind (gK (r4.2.1.1,r4.2.1.2.1,())) fun r5=>
  Option.bind (D1) fun r6=>
  Option.bind (tN (r5.2.1.1,r5.2.1.2.1,()) r6.1) fun r7=>
  Option.bind (gK (r7.2.1.1,r7.2.1.2.1,())) fun r8=>
  Option.bind (se r7.1) fun r9=>
  aL (β:=(aa×Bool×Unit)) (γ:=(Int×Int×Int×Int×Int×(List UInt8)×Int×Int×(List UInt8)×Int×Int×Int×Int×Int×Int×Int×Int×Int×(List UInt8)×Int×Int×(List UInt8)×Int×Int×Int×Int×Bool×Bool×Bool×Bool×Bool×Bool×(List (List UInt8))×Bool×Unit)) (
   bif r9.1.1 then
    Option.bind (iW (r8.2.1.1,r8.2.1.2.1,())) fun r10=>
    some (Sum.inr (0,0,0,0,0,[],0,0,[],0,0,0,0,r2.1,r4.1,r5.1,r7.1,r8.1,r10.1,0,0,[],0,0,0,0,r9.1.1,r9.1.2.1,r9.1.2.2.1,r9.1.2.2.2.1,r9.1.2.2.2.2.1,r9.1.2.2.2.2.2,r10.2.1.1,r10.2.1.2.1,()))
   else
    some (Sum.inr (0,0,0,0,0,[],0,0,[],0,0,0,0,r2.1,r4.1,r5.1,r7.1,r8.1,[],0,0,[],0,0,0,0,r9.1.1,r9.1.2.1,r9.1.2.2.1,r9.1.2.2.2.1,r9.1.2.2.2.2.1,r9.1.2.2.2.2.2,r8.2.1.1,r8.2.1.2.1,()))) fun v11=>
  aL (β:=(aa×Bool×Unit)) (γ:=(Int×Int×Int×Int×Int×(List UInt8)×Int×Int×(List UInt8)×Int×Int×Int×Int×Int×Int×Int×Int×Int×(List UInt8)×Int×Int×(List UInt8)×Int×Int×Int×Int×Bool×Bool×Bool×Bool×Bool×Bool×(List (List UInt8))×Bool×Unit)) (
   bif v11.2.2.2.2.2.2.2.2.2.2.2.2.2.2.2.2.2.2.2.2.2.2.2.2.2.2.2.1 then
    Option.bind (qP (v11.2.2.2.2.2.2.2.2.2.2.2.2.2.2.2.2.2.2.2.2.2.2.2.2.2.2.2.2.2.2.2.2.1,v11.2.2.2.2.2.2.2.2.2.2.2.2.2.2.2.2.2.2.2.2.2.2.2.2.2.2.2.2.2.2.2.2.2.1,())) fun r12=>
    some (Sum.inr (v11.1,v11.2.1,v11.2.2.1,v11.2.2.2.1,v11.2.2.2.2.1,v11.2.2.2.2.2.1,v11.2.2.2.2.2.2.1,v11.2.2.2.2.2.2.2.1,v11.2.2.2.2.2.2.2.2.1,v11.2.2.2.2.2.2.2.2.2.1,v11.2.2.2.2.2.2.2.2.2.2.1,v11.2.2.2.2.2.2.2.2.2.2.2.1,v11.2.2.2.2.2.2.2.2.2.2.2.2.1,v11.2.2.2.2.2.2.2.2.2.2.2.2.2.1,v11.2.2.2.2.2.2.2.2.2.2.2.2.2.2.1,v11.2.2.2.2.2.2.2.2.2.2.2.2.2.2.2.1,v11.2.2.2.2.2.2.2.2.2.2.2.2.2.2.2.2.1,v11.2.2.2.2.2.2.2.2.2.2.2.2.2.2.2.2.2.1,v11.2.2.2.2.2.2.2.2.2.2.2.2.2.2.2.2.2.2.1,r12.1.1,r12.1.2,v11.2.2.2.2.2.2.2.2.2.2.2.2.2.2.2.2.2.2.2.2.2.1,v11.2.2.2.2.2.2.2.2.2.2.2.2.2.2.2.2.2.2.2.2.2.2.1,v11.2.2.2.2.2.2.2.2.2.2.2.2.2.2.2.2.2.2.2.2.2.2.2.1,v11.2.2.2.2.2.2.2.2.2.2.2.2.2.2.2.2.2.2.2.2.2.2.2.2.1,v11.2.2.2.2.2.2.2.2.2.2.2.2.2.2.2.2.2.2.2.2.2.2.2.2.2.1,v11.2.2.2.2.2.2.2.2.2.2.2.2.2.2.2.2.2.2.2.2.2.2.2.2.2.2.1,v11.2.2.2.2.2.2.2.2.2.2.2.2.2.2.2.2.2.2.2.2.2.2.2.2.2.2.2.1,v11.2.2.2.2.2.2.2.2.2.2.2.2.2.2.2.2.2.2.2.2.2.2.2.2.2.2.2.2.1,v11.2.2.2.2.2.2.2.2.2.2.2.2.2.2.2.2.2.2.2.2.2.2.2.2.2.2.2.2.2.1,v11.2.2.2.2.2.2.2.2.2.2.2.2.2.2.2.2.2.2.2.2.2.2.2.2.2.2.2.2.2.2.1,v11.2.2.2.2.2.2.2.2.2.2.2.2.2.2.2.2.2.2.2.2.2.2.2.2.2.2.2.2.2.2.2.1,r12.2.1.1,r12.2.1.2.1,()))
   else
    some (Sum.inr (v11.1,v11.2.1,v11.2.2.1,v11.2.2.2.1,v11.2.2.2.2.1,v11.2.2.2.2.2.1,v11.2.2.2.2.2.2.1,v11.2.2.2.2.2.2.2.1,v11.2.2.2.2.2.2.2.2.1,v11.2.2.2.2.2.2.2.2.2.1,v11.2.2.2.2.2.2.2.2.2.2.1,v11.2.2.2.2.2.2.2.2.2.2.2.1,v11.2.2.2.2.2.2.2.2.2.2.2.2.1,v11.2.2.2.2.2.2.2.2.2.2.2.2.2.1,v11.2.2.2.2.2.2.2.2.2.2.2.2.2.2.1,v11.2.2.2.2.2.2.2.2.2.2.2.2.2.2.2.1,v11.2.2.2.2.2.2.2.2.2.2.2.2.2.2.2.2.1,v11.2.2.2.2.2.2.2.2.2.2.2.2.2.2.2.2.2.1,v11.2.2.2.2.2.2.2.2.2.2.2.2.2.2.2.2.2.2.1,v11.2.2.2.2.2.2.2.2.2.2.2.2.2.2.2.2.2.2.2.1,v11.2.2.2.2.2.2.2.2.2.2.2.2.2.2.2.2.2.2.2.2.1,v11.2.2.2.2.2.2.2.2.2.2.2.2.2.2.2.2.2.2.2.2.2.1,v11.2.2.2.2.2.2.2.2.2.2.2.2.2.2.2.2.2.2.2.2.2.2.1,v11.2.2.2.2.2.2.2.2.2.2.2.2.2.2.2.2.2.2.2.2.2.2.2.1,v11.2.2.2.2.2.2.2.2.2.2.2.2.2.2.2.2.2.2.2.2.2.2.2.2.1,v11.2.2.2.2.2.2.2.2.2.2.2.2.2.2.2.2.2.2.2.2.2.2.2.2.2.1,v11.2.2.2.2.2.2.2.2.2.2.2.2.2.2.2.2.2.2.2.2.2.2.2.2.2.2.1,v11.2.2.2.2.2.2.2.2.2.2.2.2.2.2.2.2.2.2.2.2.2.2.2.2.2.2.2.1,v11.2.2.2.2.2.2.2.2.2.2.2.2.2.2.2.2.2.2.2.2.2.2.2.2.2.2.2.2.1,v11.2.2.2.2.2.2.2.2.2.2.2.2.2.2.2.2.2.2.2.2.2.2.2.2.2.2.2.2.2.1,v11.2.2.2.2.2.2.2.2.2.2.2.2.2.2.2.2.2.2.2.2.2.2.2.2.2.2.2.2.2.2.1,v11.2.2.2.2.2.2.2.2.2.2.2.2.2.2.2.2.2.2.2.2.2.2.2.2.2.2.2.2.2.2.2.1,v11.2.2.2.2.2.2.2.2.2.2.2.2.2.2.2.2.2.2.2.2.2.2.2.2.2.2.2.2.2.2.2.2.1,v11.2.2.2.2.2.2.2.2.2.2.2.2.2.2.2.2.2.2.2.2.2.2.2.2.2.2.2.2.2.2.2.2.2.1,()))) fun v13=>
  aL (β:=(aa×Bool×Unit)) (γ:=(Int×Int×Int×Int×Int×(List UInt8)×Int×Int×(List UInt8)×Int×Int×Int×Int×Int×Int×Int×Int×Int×(List UInt8)×Int×Int×(List UInt8)×Int×Int×Int×Int×Bool×Bool×Bool×Bool×Bool×Bool×(List (List UInt8))×Bool×Unit)) (
   bif v13.2.2.2.2.2.2.2.2.2.2.2.2.2.2.2.2.2.2.2.2.2.2.2.2.2.2.2.2.1 then
    Option.bind (iW (v13.2.2.2.2.2.2.2.2.2.2.2.2.2.2.2.2.2.2.2.2.2.2.2.2.2.2.2.2.2.2.2.2.1,v13.2.2.2.2.2.2.2.2.2.2.2.2.2.2.2.2.2.2.2.2.2.2.2.2.2.2.2.2.2.2.2.2.2.1,())) fun r14=>
    some (Sum.inr (v13.1,v13.2.1,v13.2.2.1,v13.2.2.2.1,v13.2.2.2.2.1,v13.2.2.2.2.2.1,v13.2.2.2.2.2.2.1,v13.2.2.2.2.2.2.2.1,v13.2.2.2.2.2.2.2.2.1,v13.2.2.2.2.2.2.2.2.2.1,v13.2.2.2.2.2.2.2.2.2.2.1,v13.2.2.2.2.2.2.2.2.2.2.2.1,v13.2.2.2.2.2.2.2.2.2.2.2.2.1,v13.2.2.2.2.2.2.2.2.2.2.2.2.2.1,v13.2.2.2.2.2.2.2.2.2.2.2.2.2.2.1,v13.2.2.2.2.2.2.2.2.2.2.2.2.2.2.2.1,v13.2.2.2.2.2.2.2.2.2.2.2.2.2.2.2.2.1,v13.2.2.2.2.2.2.2.2.2.2.2.2.2.2.2.2.2.1,v13.2.2.2.2.2.2.2.2.2.2.2.2.2.2.2.2.2.2.1,v13.2.2.2.2.2.2.2.2.2.2.2.2.2.2.2.2.2.2.2.1,v13.2.2.2.2.2.2.2.2.2.2.2.2.2.2.2.2.2.2.2.2.1,r14.1,v13.2.2.2.2.2.2.2.2.2.2.2.2.2.2.2.2.2.2.2.2.2.2.1,v13.2.2.2.2.2.2.2.2.2.2.2.2.2.2.2.2.2.2.2.2.2.2.2.1,v13.2.2.2.2.2.2.2.2.2.2.2.2.2.2.2.2.2.2.2.2.2.2.2.2.1,v13.2.2.2.2.2.2.2.2.2.2.2.2.2.2.2.2.2.2.2.2.2.2.2.2.2.1,v13.2.2.2.2.2.2.2.2.2.2.2.2.2.2.2.2.2.2.2.2.2.2.2.2.2.2.1,v13.2.2.2.2.2.2.2.2.2.2.2.2.2.2.2.2.2.2.2.2.2.2.2.2.2.2.2.1,v13.2.2.2.2.2.2.2.2.2.2.2.2.2.2.2.2.2.2.2.2.2.2.2.2.2.2.2.2.1,v13.2.2.2.2.2.2.2.2.2.2.2.2.2.2.2.2.2.2.2.2.2.2.2.2.2.2.2.2.2.1,v13.2.2.2.2.2.2.2.2.2.2.2.2.2.2.2.2.2.2.2.2.2.2.2.2.2.2.2.2.2.2.1,v13.2.2.2.2.2.2.2.2.2.2.2.2.2.2.2.2.2.2.2.2.2.2.2.2.2.2.2.2.2.2.2.1,r14.2.1.1,r14.2.1.2.1,()))
   else
    some (Sum.inr (v13.1,v13.2.1,v13.2.2.1,v13.2.2.2.1,v13.2.2.2.2.1,v13.2.2.2.2.2.1,v13.2.2.2.2.2.2.1,v13.2.2.2.2.2.2.2.1,v13.2.2.2.2.2.2.2.2.1,v13.2.2.2.2.2.2.2.2.2.1,v13.2.2.2.2.2.2.2.2.2.2.1,v13.2.2.2.2.2.2.2.2.2.2.2.1,v13.2.2.2.2.2.2.2.2.2.2.2.2.1,v13.2.2.2.2.2.2.2.2.2.2.2.2.2.1,v13.2.2.2.2.2.2.2.2.2.2.2.2.2.2.1,v13.2.2.2.2.2.2.2.2.2.2.2.2.2.2.2.1,v13.2.2.2.2.2.2.2.2.2.2.2.2.2.2.2.2.1,v13.2.2.2.2.2.2.2.2.2.2.2.2.2.2.2.2.2.1,v13.2.2.2.2.2.2.2.2.2.2.2.2.2.2.2.2.2.2.1,v13.2.2.2.2.2.2.2.2.2.2.2.2.2.2.2.2.2.2.2.1,v13.2.2.2.2.2.2.2.2.2.2.2.2.2.2.2.2.2.2.2.2.1,v13.2.2.2.2.2.2.2.2.2.2.2.2.2.2.2.2.2.2.2.2.2.1,v13.2.2.2.2.2.2.2.2.2.2.2.2.2.2.2.2.2.2.2.2.2.2.1,v13.2.2.2.2.2.2.2.2.2.2.2.2.2.2.2.2.2.2.2.2.2.2.2.1,v13.2.2.2.2.2.2.2.2.2.2.2.2.2.2.2.2.2.2.2.2.2.2.2.2.1,v13.2.2.2.2.2.2.2.2.2.2.2.2.2.2.2.2.2.2.2.2.2.2.2.2.2.1,v13.2.2.2.2.2.2.2.2.2.2.2.2.2.2.2.2.2.2.2.2.2.2.2.2.2.2.1,v13.2.2.2.2.2.2.2.2.2.2.2.2.2.2.2.2.2.2.2.2.2.2.2.2.2.2.2.1,v13.2.2.2.2.2.2.2.2.2.2.2.2.2.2.2.2.2.2.2.2.2.2.2.2.2.2.2.2.1,v13.2.2.2.2.2.2.2.2.2.2.2.2.2.2.2.2.2.2.2.2.2.2.2.2.2.2.2.2.2.1,v13.2.2.2.2.2.2.2.2.2.2.2.2.2.2.2.2.2.2.2.2.2.2.2.2.2.2.2.2.2.2.1,v13.2.2.2.2.2.2.2.2.2.2.2.2.2.2.2.2.2.2.2.2.2.2.2.2.2.2.2.2.2.2.2.1,v13.2.2.2.2.2.2.2.2.2.2.2.2.2.2.2.2.2.2.2.2.2.2.2.2.2.2.2.2.2.2.2.2.1,v13.2.2.2.2.2.2.2.2.2.2.2.2.2.2.2.2.2.2.2.2.2.2.2.2.2.2.2.2.2.2.2.2.2.1,()))) fun v15=>
  aL (β:=(aa×Bool×Unit)) (γ:=(Int×Int×Int×Int×Int×(List UInt8)×Int×Int×(List UInt8)×Int×Int×Int×Int×Int×Int×Int×Int×Int×(List UInt8)×Int×Int×(List UInt8)×Int×Int×Int×Int×Bool×Bool×Bool×Bool×Bool×Bool×(List (List UInt8))×Bool×Unit)) (
   bif v15.2.2.2.2.2.2.2.2.2.2.2.2.2.2.2.2.2.2.2.2.2.2.2.2.2.2.2.2.2.1 then
    Option.bind (qP (v15.2.2.2.2.2.2.2.2.2.2.2.2.2.2.2.2.2.2.2.2.2.2.2.2.2.2.2.2.2.2.2.2.1,v15.2.2.2.2.2.2.2.2.2.2.2.2.2.2.2.2.2.2.2.2.2.2.2.2.2.2.2.2.2.2.2.2.2.1,())) fun r16=>
    some (Sum.inr (v15.1,v15.2.1,v15.2.2.1,v15.2.2.2.1,v15.2.2.2.2.1,v15.2.2.2.2.2.1,v15.2.2.2.2.2.2.1,v15.2.2.2.2.2.2.2.1,v15.2.2.2.2.2.2.2.2.1,v15.2.2.2.2.2.2.2.2.2.1,v15.2.2.2.2.2.2.2.2.2.2.1,v15.2.2.2.2.2.2.2.2.2.2.2.1,v15.2.2.2.2.2.2.2.2.2.2.2.2.1,v15.2.2.2.2.2.2.2.2.2.2.2.2.2.1,v15.2.2.2.2.2.2.2.2.2.2.2.2.2.2.1,v15.2.2.2.2.2.2.2.2.2.2.2.2.2.2.2.1,v15.2.2.2.2.2.2.2.2.2.2.2.2.2.2.2.2.1,v15.2.2.2.2.2.2.2.2.2.2.2.2.2.2.2.2.2.1,v15.2.2.2.2.2.2.2.2.2.2.2.2.2.2.2.2.2.2.1,v15.2.2.2.2.2.2.2.2.2.2.2.2.2.2.2.2.2.2.2.1,v15.2.2.2.2.2.2.2.2.2.2.2.2.2.2.2.2.2.2.2.2.1,v15.2.2.2.2.2.2.2.2.2.2.2.2.2.2.2.2.2.2.2.2.2.1,r16.1.1,r16.1.2,v15.2.2.2.2.2.2.2.2.2.2.2.2.2.2.2.2.2.2.2.2.2.2.2.2.1,v15.2.2.2.2.2.2.2.2.2.2.2.2.2.2.2.2.2.2.2.2.2.2.2.2.2.1,v15.2.2.2.2.2.2.2.2.2.2.2.2.2.2.2.2.2.2.2.2.2.2.2.2.2.2.1,v15.2.2.2.2.2.2.2.2.2.2.2.2.2.2.2.2.2.2.2.2.2.2.2.2.2.2.2.1,v15.2.2.2.2.2.2.2.2.2.2.2.2.2.2.2.2.2.2.2.2.2.2.2.2.2.2.2.2.1,v15.2.2.2.2.2.2.2.2.2.2.2.2.2.2.2.2.2.2.2.2.2.2.2.2.2.2.2.2.2.1,v15.2.2.2.2.2.2.2.2.2.2.2.2.2.2.2.2.2.2.2.2.2.2.2.2.2.2.2.2.2.2.1,v15.2.2.2.2.2.2.2.2.2.2.2.2.2.2.2.2.2.2.2.2.2.2.2.2.2.2.2.2.2.2.2.1,r16.2.1.1,r16.2.1.2.1,()))
   else
    some (Sum.inr (v15.1,v15.2.1,v15.2.2.1,v15.2.2.2.1,v15.2.2.2.2.1,v15.2.2.2.2.2.1,v15.2.2.2.2.2.2.1,v15.2.2.2.2.2.2.2.1,v15.2.2.2.2.2.2.2.2.1,v15.2.2.2.2.2.2.2.2.2.1,v15.2.2.2.2.2.2.2.2.2.2.1,v15.2.2.2.2.2.2.2.2.2.2.2.1,v15.2.2.2.2.2.2.2.2.2.2.2.2.1,v15.2.2.2.2.2.2.2.2.2.2.2.2.2.1,v15.2.2.2.2.2.2.2.2.2.2.2.2.2.2.1,v15.2.2.2.2.2.2.2.2.2.2.2.2.2.2.2.1,v15.2.2.2.2.2.2.2.2.2.2.2.2.2.2.2.2.1,v15.2.2.2.2.2.2.2.2.2.2.2.2.2.2.2.2.2.1,v15.2.2.2.2.2.2.2.2.2.2.2.2.2.2.2.2.2.2.1,v15.2.2.2.2.2.2.2.2.2.2.2.2.2.2.2.2.2.2.2.1,v15.2.2.2.2.2.2.2.2.2.2.2.2.2.2.2.2.2.2.2.2.1,v15.2.2.2.2.2.2.2.2.2.2.2.2.2.2.2.2.2.2.2.2.2.1,v15.2.2.2.2.2.2.2.2.2.2.2.2.2.2.2.2.2.2.2.2.2.2.1,v15.2.2.2.2.2.2.2.2.2.2.2.2.2.2.2.2.2.2.2.2.2.2.2.1,v15.2.2.2.2.2.2.2.2.2.2.2.2.2.2.2.2.2.2.2.2.2.2.2.2.1,v15.2.2.2.2.2.2.2.2.2.2.2.2.2.2.2.2.2.2.2.2.2.2.2.2.2.1,v15.2.2.2.2.2.2.2.2.2.2.2.2.2.2.2.2.2.2.2.2.2.2.2.2.2.2.1,v15.2.2.2.2.2.2.2.2.2.2.2.2.2.2.2.2.2.2.2.2.2.2.2.2.2.2.2.1,v15.2.2.2.2.2.2.2.2.2.2.2.2.2.2.2.2.2.2.2.2.2.2.2.2.2.2.2.2.1,v15.2.2.2.2.2.2.2.2.2.2.2.2.2.2.2.2.2.2.2.2.2.2.2.2.2.2.2.2.2.1,v15.2.2.2.2.2.2.2.2.2.2.2.2.2.2.2.2.2.2.2.2.2.2.2.2.2.2.2.2.2.2.1,v15.2.2.2.2.2.2.2.2.2.2.2.2.2.2.2.2.2.2.2.2.2.2.2.2.2.2.2.2.2.2.2.1,v15.2.2.2.2.2.2.2.2.2.2.2.2.2.2.2.2.2.2.2.2.2.2.2.2.2.2.2.2.2.2.2.2.1,v15.2.2.2.2.2.2.2.2.2.2.2.2.2.2.2.2.2.2.2.2.2.2.2.2.2.2.2.2.2.2.2.2.2.1,()))) fun v17=>
  aL (β:=(aa×Bool×Unit)) (γ:=(Int×Int×Int×Int×Int×(List UInt8)×Int×Int×(List UInt8)×Int×Int×Int×Int×Int×Int×Int×Int×Int×(List UInt8)×Int×Int×(List UInt8)×Int×Int×Int×Int×Bool×Bool×Bool×Bool×Bool×Bool×(List (List UInt8))×Bool×Unit)) (
   bif v17.2.2.2.2.2.2.2.2.2.2.2.2.2.2.2.2.2.2.2.2.2.2.2.2.2.2.2.2.2.2.1 then
    Option.bind (gK (v17.2.2.2.2.2.2.2.2.2.2.2.2.2.2.2.2.2.2.2.2.2.2.2.2.2.2.2.2.2.2.2.2.1,v17.2.2.2.2.2.2.2.2.2.2.2.2.2.2.2.2.2.2.2.2.2.2.2.2.2.2.2.2.2.2.2.2.2.1,())) fun r18=>
    some (Sum.inr (v17.1,v17.2.1,v17.2.2.1,v17.2.2.2.1,v17.2.2.2.2.1,v17.2.2.2.2.2.1,v17.2.2.2.2.2.2.1,v17.2.2.2.2.2.2.2.1,v17.2.2.2.2.2.2.2.2.1,v17.2.2.2.2.2.2.2.2.2.1,v17.2.2.2.2.2.2.2.2.2.2.1,v17.2.2.2.2.2.2.2.2.2.2.2.1,v17.2.2.2.2.2.2.2.2.2.2.2.2.1,v17.2.2.2.2.2.2.2.2.2.2.2.2.2.1,v17.2.2.2.2.2.2.2.2.2.2.2.2.2.2.1,v17.2.2.2.2.2.2.2.2.2.2.2.2.2.2.2.1,v17.2.2.2.2.2.2.2.2.2.2.2.2.2.2.2.2.1,v17.2.2.2.2.2.2.2.2.2.2.2.2.2.2.2.2.2.1,v17.2.2.2.2.2.2.2.2.2.2.2.2.2.2.2.2.2.2.1,v17.2.2.2.2.2.2.2.2.2.2.2.2.2.2.2.2.2.2.2.1,v17.2.2.2.2.2.2.2.2.2.2.2.2.2.2.2.2.2.2.2.2.1,v17.2.2.2.2.2.2.2.2.2.2.2.2.2.2.2.2.2.2.2.2.2.1,v17.2.2.2.2.2.2.2.2.2.2.2.2.2.2.2.2.2.2.2.2.2.2.1,v17.2.2.2.2.2.2.2.2.2.2.2.2.2.2.2.2.2.2.2.2.2.2.2.1,r18.1,v17.2.2.2.2.2.2.2.2.2.2.2.2.2.2.2.2.2.2.2.2.2.2.2.2.2.1,v17.2.2.2.2.2.2.2.2.2.2.2.2.2.2.2.2.2.2.2.2.2.2.2.2.2.2.1,v17.2.2.2.2.2.2.2.2.2.2.2.2.2.2.2.2.2.2.2.2.2.2.2.2.2.2.2.1,v17.2.2.2.2.2.2.2.2.2.2.2.2.2.2.2.2.2.2.2.2.2.2.2.2.2.2.2.2.1,v17.2.2.2.2.2.2.2.2.2.2.2.2.2.2.2.2.2.2.2.2.2.2.2.2.2.2.2.2.2.1,v17.2.2.2.2.2.2.2.2.2.2.2.2.2.2.2.2.2.2.2.2.2.2.2.2.2.2.2.2.2.2.1,v17.2.2.2.2.2.2.2.2.2.2.2.2.2.2.2.2.2.2.2.2.2.2.2.2.2.2.2.2.2.2.2.1,r18.2.1.1,r18.2.1.2.1,()))
   else
    some (Sum.inr (v17.1,v17.2.1,v17.2.2.1,v17.2.2.2.1,v17.2.2.2.2.1,v17.2.2.2.2.2.1,v17.2.2.2.2.2.2.1,v17.2.2.2.2.2.2.2.1,v17.2.2.2.2.2.2.2.2.1,v17.2.2.2.2.2.2.2.2.2.1,v17.2.2.2.2.2.2.2.2.2.2.1,v17.2.2.2.2.2.2.2.2.2.2.2.1,v17.2.2.2.2.2.2.2.2.2.2.2.2.1,v17.2.2.2.2.2.2.2.2.2.2.2.2.2.1,v17.2.2.2.2.2.2.2.2.2.2.2.2.2.2.1,v17.2.2.2.2.2.2.2.2.2.2.2.2.2.2.2.1,v17.2.2.2.2.2.2.2.2.2.2.2.2.2.2.2.2.1,v17.2.2.2.2.2.2.2.2.2.2.2.2.2.2.2.2.2.1,v17.2.2.2.2.2.2.2.2.2.2.2.2.2.2.2.2.2.2.1,v17.2.2.2.2.2.2.2.2.2.2.2.2.2.2.2.2.2.2.2.1,v17.2.2.2.2.2.2.2.2.2.2.2.2.2.2.2.2.2.2.2.2.1,v17.2.2.2.2.2.2.2.2.2.2.2.2.2.2.2.2.2.2.2.2.2.1,v17.2.2.2.2.2.2.2.2.2.2.2.2.2.2.2.2.2.2.2.2.2.2.1,v17.2.2.2.2.2.2.2.2.2.2.2.2.2.2.2.2.2.2.2.2.2.2.2.1,v17.2.2.2.2.2.2.2.2.2.2.2.2.2.2.2.2.2.2.2.2.2.2.2.2.1,v17.2.2.2.2.2.2.2.2.2.2.2.2.2.2.2.2.2.2.2.2.2.2.2.2.2.1,v17.2.2.2.2.2.2.2.2.2.2.2.2.2.2.2.2.2.2.2.2.2.2.2.2.2.2.1,v17.2.2.2.2.2.2.2.2.2.2.2.2.2.2.2.2.2.2.2.2.2.2.2.2.2.2.2.1,v17.2.2.2.2.2.2.2.2.2.2.2.2.2.2.2.2.2.2.2.2.2.2.2.2.2.2.2.2.1,v17.2.2.2.2.2.2.2.2.2.2.2.2.2.2.2.2.2.2.2.2.2.2.2.2.2.2.2.2.2.1,v17.2.2.2.2.2.2.2.2.2.2.2.2.2.2.2.2.2.2.2.2.2.2.2.2.2.2.2.2.2.2.1,v17.2.2.2.2.2.2.2.2.2.2.2.2.2.2.2.2.2.2.2.2.2.2.2.2.2.2.2.2.2.2.2.1,v17.2.2.2.2.2.2.2.2.2.2.2.2.2.2.2.2.2.2.2.2.2.2.2.2.2.2.2.2.2.2.2.2.1,v17.2.2.2.2.2.2.2.2.2.2.2.2.2.2.2.2.2.2.2.2.2.2.2.2.2.2.2.2.2.2.2.2.2.1,()))) fun v19=>
  aL (β:=(aa×Bool×Unit)) (γ:=(Int×Int×Int×Int×Int×(List UInt8)×Int×Int×(List UInt8)×Int×Int×Int×Int×Int×Int×Int×Int×Int×(List UInt8)×Int×Int×(List UInt8)×Int×Int×Int×Int×(List (List UInt8))×Bool×Unit)) (
   bif v19.2.2.2.2.2.2.2.2.2.2.2.2.2.2.2.2.2.2.2.2.2.2.2.2.2.2.2.2.2.2.2.1 then
    Option.bind (gK (v19.2.2.2.2.2.2.2.2.2.2.2.2.2.2.2.2.2.2.2.2.2.2.2.2.2.2.2.2.2.2.2.2.1,v19.2.2.2.2.2.2.2.2.2.2.2.2.2.2.2.2.2.2.2.2.2.2.2.2.2.2.2.2.2.2.2.2.2.1,())) fun r20=>
    some (Sum.inr (v19.1,v19.2.1,v19.2.2.1,v19.2.2.2.1,v19.2.2.2.2.1,v19.2.2.2.2.2.1,v19.2.2.2.2.2.2.1,v19.2.2.2.2.2.2.2.1,v19.2.2.2.2.2.2.2.2.1,v19.2.2.2.2.2.2.2.2.2.1,v19.2.2.2.2.2.2.2.2.2.2.1,v19.2.2.2.2.2.2.2.2.2.2.2.1,v19.2.2.2.2.2.2.2.2.2.2.2.2.1,v19.2.2.2.2.2.2.2.2.2.2.2.2.2.1,v19.2.2.2.2.2.2.2.2.2.2.2.2.2.2.1,v19.2.2.2.2.2.2.2.2.2.2.2.2.2.2.2.1,v19.2.2.2.2.2.2.2.2.2.2.2.2.2.2.2.2.1,v19.2.2.2.2.2.2.2.2.2.2.2.2.2.2.2.2.2.1,v19.2.2.2.2.2.2.2.2.2.2.2.2.2.2.2.2.2.2.1,v19.2.2.2.2.2.2.2.2.2.2.2.2.2.2.2.2.2.2.2.1,v19.2.2.2.2.2.2.2.2.2.2.2.2.2.2.2.2.2.2.2.2.1,v19.2.2.2.2.2.2.2.2.2.2.2.2.2.2.2.2.2.2.2.2.2.1,v19.2.2.2.2.2.2.2.2.2.2.2.2.2.2.2.2.2.2.2.2.2.2.1,v19.2.2.2.2.2.2.2.2.2.2.2.2.2.2.2.2.2.2.2.2.2.2.2.1,v19.2.2.2.2.2.2.2.2.2.2.2.2.2.2.2.2.2.2.2.2.2.2.2.2.1,r20.1,r20.2.1.1,r20.2.1.2.1,()))
   else
    some (Sum.inr (v19.1,v19.2.1,v19.2.2.1,v19.2.2.2.1,v19.2.2.2.2.1,v19.2.2.2.2.2.1,v19.2.2.2.2.2.2.1,v19.2.2.2.2.2.2.2.1,v19.2.2.2.2.2.2.2.2.1,v19.2.2.2.2.2.2.2.2.2.1,v19.2.2.2.2.2.2.2.2.2.2.1,v19.2.2.2.2.2.2.2.2.2.2.2.1,v19.2.2.2.2.2.2.2.2.2.2.2.2.1,v19.2.2.2.2.2.2.2.2.2.2.2.2.2.1,v19.2.2.2.2.2.2.2.2.2.2.2.2.2.2.1,v19.2.2.2.2.2.2.2.2.2.2.2.2.2.2.2.1,v19.2.2.2.2.2.2.2.2.2.2.2.2.2.2.2.2.1,v19.2.2.2.2.2.2.2.2.2.2.2.2.2.2.2.2.2.1,v19.2.2.2.2.2.2.2.2.2.2.2.2.2.2.2.2.2.2.1,v19.2.2.2.2.2.2.2.2.2.2.2.2.2.2.2.2.2.2.2.1,v19.2.2.2.2.2.2.2.2.2.2.2.2.2.2.2.2.2.2.2.2.1,v19.2.2.2.2.2.2.2.2.2.2.2.2.2.2.2.2.2.2.2.2.2.1,v19.2.2.2.2.2.2.2.2.2.2.2.2.2.2.2.2.2.2.2.2.2.2.1,v19.2.2.2.2.2.2.2.2.2.2.2.2.2.2.2.2.2.2.2.2.2.2.2.1,v19.2.2.2.2.2.2.2.2.2.2.2.2.2.2.2.2.2.2.2.2.2.2.2.2.1,v19.2.2.2.2.2.2.2.2.2.2.2.2.2.2.2.2.2.2.2.2.2.2.2.2.2.1,v19.2.2.2.2.2.2.2.2.2.2.2.2.2.2.2.2.2.2.2.2.2.2.2.2.2.2.2.2.2.2.2.2.1,v19.2.2.2.2.2.2.2.2.2.2.2.2.2.2.2.2.2.2.2.2.2.2.2.2.2.2.2.2.2.2.2.2.2.1,()))) fun v21=>
  bif !v21.2.2.2.2.2.2.2.2.2.2.2.2.2.2.2.2.2.2.2.2.2.2.2.2.2.2.2.1 then
   some ((v21.2.2.2.2.2.2.2.2.2.2.2.2.2.1,v21.2.2.2.2.2.2.2.2.2.2.2.2.2.2.1,v21.2.2.2.2.2.2.2.2.2.2.2.2.2.2.2.1,v21.2.2.2.2.2.2.2.2.2.2.2.2.2.2.2.2.1,v21.2.2.2.2.2.2.2.2.2.2.2.2.2.2.2.2.2.1,v21.2.2.2.2.2.2.2.2.2.2.2.2.2.2.2.2.2.2.1,(v21.2.2.2.2.2.2.2.2.2.2.2.2.2.2.2.2.2.2.2.1,v21.2.2.2.2.2.2.2.2.2.2.2.2.2.2.2.2.2.2.2.2.1),v21.2.2.2.2.2.2.2.2.2.2.2.2.2.2.2.2.2.2.2.2.2.1,(v21.2.2.2.2.2.2.2.2.2.2.2.2.2.2.2.2.2.2.2.2.2.2.1,v21.2.2.2.2.2.2.2.2.2.2.2.2.2.2.2.2.2.2.2.2.2.2.2.1),v21.2.2.2.2.2.2.2.2.2.2.2.2.2.2.2.2.2.2.2.2.2.2.2.2.1,v21.2.2.2.2.2.2.2.2.2.2.2.2.2.2.2.2.2.2.2.2.2.2.2.2.2.1),((v21.2.2.2.2.2.2.2.2.2.2.2.2.2.2.2.2.2.2.2.2.2.2.2.2.2.2.1.length:Int))==0,())
  else
   some ((v21.2.2.2.2.2.2.2.2.2.2.2.2.2.1,v21.2.2.2.2.2.2.2.2.2.2.2.2.2.2.1,v21.2.2.2.2.2.2.2.2.2.2.2.2.2.2.2.1,v21.2.2.2.2.2.2.2.2.2.2.2.2.2.2.2.2.1,v21.2.2.2.2.2.2.2.2.2.2.2.2.2.2.2.2.2.1,v21.2.2.2.2.2.2.2.2.2.2.2.2.2.2.2.2.2.2.1,(v21.2.2.2.2.2.2.2.2.2.2.2.2.2.2.2.2.2.2.2.1,v21.2.2.2.2.2.2.2.2.2.2.2.2.2.2.2.2.2.2.2.2.1),v21.2.2.2.2.2.2.2.2.2.2.2.2.2.2.2.2.2.2.2.2.2.1,(v21.2.2.2.2.2.2.2.2.2.2.2.2.2.2.2.2.2.2.2.2.2.2.1,v21.2.2.2.2.2.2.2.2.2.2.2.2.2.2.2.2.2.2.2.2.2.2.2.1),v21.2.2.2.2.2.2.2.2.2.2.2.2.2.2.2.2.2.2.2.2.2.2.2.2.1,v21.2.2.2.2.2.2.2.2.2.2.2.2.2.2.2.2.2.2.2.2.2.2.2.2.2.1),false,())
abbrev AS:Type:=(List (List UInt8))×Bool×(List aa)×(List (List UInt8))×Int×Int×Unit
abbrev AR:Type:=(((List aa)×Int×Int×Unit) ⊕ ((List aa)×Unit))
def Q8 (x1:AS) (again:AS→Option AR):Option AR:=
 match x1 with
 | (A,B,C,D,E,F,_)=>
 bif decide (F<E) then
  Option.bind (idx D F) fun y2=>
  Option.bind (F5 y2) fun r3=>
  Option.bind (
   bif !r3.2.1 then
    some (true,())
   else
    bif !B then
     some (F==(w64 (((A.length:Int)) - 1)),())
    else
     some (false,())) fun v4=>
  bif v4.1 then
   some (Sum.inl ([],w64 (F+1),10,()))
  else
   chk (decide (((C.length)+1)*120≤140737488355328)&&decide ((C.length)+1≤maxLen)) <|
   again (A,B,C++[r3.1],D,E,w64 (F+1),())
 else
  some (Sum.inr (C,()))
def N8 (a0:List UInt8):Option ((List aa)×Int×Int×Unit):=
 bif decide (((List.length a0:Int))>200000) then
  some ([],0,2,())
 else
  Option.bind (Qg a0) fun r1=>
  aL (β:=((List aa)×Int×Int×Unit)) (γ:=((List aa)×Unit)) (
   iter (X:=AS) (β:=AR) (r1.1.length+(List.length ([]:List aa)+(r1.1.length+(Int.natAbs ((r1.1.length:Int))+(Int.natAbs (0:Int)+2))))) (r1.1,r1.2.1,[],r1.1,(r1.1.length:Int),0,()) (Q8)) fun v6=>
  Option.bind (iV v6.1) fun r7=>
  bif r7.1 != 0 then
   some ([],0,r7.1,())
  else
   some (v6.1,0,0,())
def GW:Option (Bool×Unit):=
 Option.bind (N8 [53,32,98,117,121,101,114,32,49,32,100,117,101,32,50,32,55,10]) fun r1=>
 Option.bind (
  bif r1.2.2.1==0 then
   bif r1.2.1==0 then
    bif ((r1.1.length:Int))==1 then
     chk (decide (0≤(0:Int))&&decide ((0:Int)<(r1.1.length:Int))) <|
     Option.bind (r1.1[0]?) fun y2=>
     some (y2.2.2.2.2.2.2.2.2.2.1==7,())
    else
     some (false,())
   else
    some (false,())
  else
   some (false,())) fun v3=>
 some (v3.1,())
def Hi (a0:ai) (a1:List aa) (a2:Int) (a3:List aM):Option ((ai×(List aa)×(List (Int×(Option Nat)))×(List ah)×(List aB)×Int×Unit)×Int×(List aM)×Unit):=
 Option.bind (mA a0 a1) fun r1=>
 bif r1.1 != 0 then
  none
 else
  Option.bind (mS a2) fun r2=>
  bif !r2.1 then
   none
  else
   Option.bind (fJ a0 a1 a3) fun r3=>
   Option.bind (eY (r3.1.1,r3.1.2.1,r3.1.2.2.1,r3.1.2.2.2.1,r3.1.2.2.2.2.1,r3.1.2.2.2.2.2.1,()) a2 r3.2.1) fun r4=>
   some ((r4.1.1,r4.1.2.1,r4.1.2.2.1,r4.1.2.2.2.1,r4.1.2.2.2.2.1,r4.1.2.2.2.2.2.1,()),0,r4.2.1,())
def BB (a0:ai) (a1:List aa) (a2:Int) (a3:List aM):Option ((Option Nat)×Int×(List aM)×Unit):=
 Option.bind (mA a0 a1) fun r1=>
 bif r1.1 != 0 then
  some (none,r1.1,a3,())
 else
  Option.bind (mS a2) fun r2=>
  bif !r2.1 then
   some (none,1,a3,())
  else
   Option.bind (fJ a0 a1 a3) fun r3=>
   Option.bind (eY (r3.1.1,r3.1.2.1,r3.1.2.2.1,r3.1.2.2.2.1,r3.1.2.2.2.2.1,r3.1.2.2.2.2.2.1,()) a2 r3.2.1) fun _=>
   none
abbrev mY:Type:=Int×Int×(List aa)×Int×Int×Unit
abbrev q9:Type:=((Int×Unit) ⊕ (Int×Unit))
def q8 (x1:mY) (again:mY→Option q9):Option q9:=
 match x1 with
 | (A,B,C,D,E,_)=>
 bif decide (E<D) then
  Option.bind (idx C E) fun y2=>
  bif y2.2.1==A then
   again (A,w64 (y2.2.2.1+1),C,D,w64 (E+1),())
  else
   again (A,B,C,D,w64 (E+1),())
 else
  some (Sum.inr (B,()))
def xg (a0:List aa) (a1:Int):Option (Int×Unit):=
 aL (β:=(Int×Unit)) (γ:=(Int×Unit)) (
  iter (X:=mY) (β:=q9) (Int.natAbs a1+(Int.natAbs (1:Int)+(List.length a0+(Int.natAbs ((List.length a0:Int))+(Int.natAbs (0:Int)+2))))) (a1,1,a0,(List.length a0:Int),0,()) (q8)) fun v3=>
 some (v3.1,())
noncomputable def gM (a0:List aa):Option ((List aa)×Unit):=
 bif List.isEmpty a0 then
  both (
   some ([],())) (
   chk (decide ((0+(List.length a0))*120≤140737488355328)&&decide (0+(List.length a0)≤maxLen)) <|
   some (a0,()))
 else
  chk (decide ((0+(List.length a0))*120≤140737488355328)&&decide (0+(List.length a0)≤maxLen)) <|
  some (a0,())
noncomputable def zh (a0:ai) (a1:List aa) (a2:aa):Option ((List aa)×Int×Unit):=
 Option.bind (mA a0 a1) fun r1=>
 bif r1.1 != 0 then
  some ([],r1.1,())
 else
  bif a2.2.2.1 != 0 then
   some ([],3,())
  else
   Option.bind (xg a1 a2.2.1) fun r2=>
   Option.bind (gM a1) fun r3=>
   chk (decide (((r3.1.length)+1)*120≤140737488355328)&&decide ((r3.1.length)+1≤maxLen)) <|
   Option.bind (iV (r3.1++[(a2.1,a2.2.1,r2.1,a2.2.2.2)])) fun r4=>
   bif r4.1 != 0 then
    some ([],r4.1,())
   else
    Option.bind (fJ a0 (r3.1++[(a2.1,a2.2.1,r2.1,a2.2.2.2)]) []) fun r5=>
    Option.bind (eY (r5.1.1,r5.1.2.1,r5.1.2.2.1,r5.1.2.2.2.1,r5.1.2.2.2.2.1,r5.1.2.2.2.2.2.1,()) 3652059 r5.2.1) fun r6=>
    Option.bind (
     bif decide (((r6.1.2.2.2.1.length:Int))>0) then
      chk (decide (0≤(w64 (((r6.1.2.2.2.1.length:Int)) - 1)))&&decide ((w64 (((r6.1.2.2.2.1.length:Int)) - 1))<(r6.1.2.2.2.1.length:Int))) <|
      Option.bind (r6.1.2.2.2.1[(w64 (((r6.1.2.2.2.1.length:Int)) - 1)).toNat]?) fun y7=>
      some (y7.1==((List.length a1:Int)),())
     else
      some (false,())) fun v8=>
    bif v8.1 then
     chk (decide (0≤(w64 (((r6.1.2.2.2.1.length:Int)) - 1)))&&decide ((w64 (((r6.1.2.2.2.1.length:Int)) - 1))<(r6.1.2.2.2.1.length:Int))) <|
     Option.bind (r6.1.2.2.2.1[(w64 (((r6.1.2.2.2.1.length:Int)) - 1)).toNat]?) fun y9=>
     some ([],y9.2,())
    else
     some (r3.1++[(a2.1,a2.2.1,r2.1,a2.2.2.2)],0,())
abbrev fh:Type:=(List aa)×(List aa)×Int×Int×Unit
abbrev iA:Type:=((Bool×Unit) ⊕ Unit)
def iy (x1:fh) (again:fh→Option iA):Option iA:=
 match x1 with
 | (A,B,C,D,_)=>
 bif decide (D<C) then
  Option.bind (idx A D) fun y2=>
  Option.bind (idx B D) fun y3=>
  bif !((y2.1==y3.1)&&((y2.2.1==y3.2.1)&&((y2.2.2.1==y3.2.2.1)&&((y2.2.2.2.1==y3.2.2.2.1)&&((y2.2.2.2.2.1==y3.2.2.2.2.1)&&((y2.2.2.2.2.2.1==y3.2.2.2.2.2.1)&&(((y2.2.2.2.2.2.2.1.1==y3.2.2.2.2.2.2.1.1)&&((y2.2.2.2.2.2.2.1.2==y3.2.2.2.2.2.2.1.2)&&true))&&((y2.2.2.2.2.2.2.2.1==y3.2.2.2.2.2.2.2.1)&&(((y2.2.2.2.2.2.2.2.2.1.1==y3.2.2.2.2.2.2.2.2.1.1)&&((y2.2.2.2.2.2.2.2.2.1.2==y3.2.2.2.2.2.2.2.2.1.2)&&true))&&((y2.2.2.2.2.2.2.2.2.2.1==y3.2.2.2.2.2.2.2.2.2.1)&&((y2.2.2.2.2.2.2.2.2.2.2==y3.2.2.2.2.2.2.2.2.2.2)&&true))))))))))) then
   some (Sum.inl (false,()))
  else
   again (A,B,C,w64 (D+1),())
 else
  some (Sum.inr ())
def jW (a0:List aa) (a1:List aa):Option (Bool×Unit):=
 bif ((List.length a0:Int)) != ((List.length a1:Int)) then
  some (false,())
 else
  aL (β:=(Bool×Unit)) (γ:=Unit) (
   iter (X:=fh) (β:=iA) (List.length a0+(List.length a1+(Int.natAbs ((List.length a0:Int))+(Int.natAbs (0:Int)+2)))) (a0,a1,(List.length a0:Int),0,()) (iy)) fun _=>
  some (true,())
def jM (a0:ai) (a1:List aa):Option ((List ah)×Int×Unit):=
 Rx (BB a0 a1 3652059 []) (fun r1=>
  bif r1.2.1 != 0 then
   some ([],r1.2.1,())
  else
   Option.bind (r1.1) fun h2=>
   Option.bind (r1.2.2.1[h2]?) fun _=>
   none) (
  Option.bind (Hi a0 a1 3652059 []) fun r4=>
  bif r4.2.1 != 0 then
   some ([],r4.2.1,())
  else
   some (r4.1.2.2.2.1,0,()))
abbrev dS:Type:=(List ah)×(List ah)×Int×Int×Unit
abbrev fO:Type:=((Bool×Unit) ⊕ Unit)
def fN (x1:dS) (again:dS→Option fO):Option fO:=
 match x1 with
 | (A,B,C,D,_)=>
 bif decide (D<C) then
  Option.bind (idx A D) fun y2=>
  Option.bind (idx B D) fun y3=>
  bif !((y2.1==y3.1)&&((y2.2==y3.2)&&true)) then
   some (Sum.inl (false,()))
  else
   again (A,B,C,w64 (D+1),())
 else
  some (Sum.inr ())
def fk (a0:List ah) (a1:List ah):Option (Bool×Unit):=
 bif ((List.length a0:Int)) != ((List.length a1:Int)) then
  some (false,())
 else
  aL (β:=(Bool×Unit)) (γ:=Unit) (
   iter (X:=dS) (β:=fO) (List.length a0+(List.length a1+(Int.natAbs ((List.length a0:Int))+(Int.natAbs (0:Int)+2)))) (a0,a1,(List.length a0:Int),0,()) (fN)) fun _=>
  some (true,())
def jm (a0:Int) (a1:Int) (a2:Int):Option (Bool×Unit):=
 Option.bind (
  bif decide (a1≤a0) then
   some (decide (a0≤a2),())
  else
   some (false,())) fun v1=>
 some (v1.1,())
def zx (a0:Int):Option (Bool×Unit):=
 Option.bind (jm a0 1 4) fun r1=>
 bif r1.1 then
  some (true,())
 else
  bif a0==8 then
   some (true,())
  else
   bif a0==10 then
    some (true,())
   else
    some (a0==11,())
def D7 (a0:Int):Option (tP×Unit):=
 bif a0==1 then
  some ((true,true,true,true,false),())
 else
  aL (β:=(tP×Unit)) (γ:=(Int×Bool×Bool×Bool×Bool×Bool×Bool×Unit)) (
   bif a0==2 then
    some (Sum.inr (a0,a0==2,false,false,false,false,false,()))
   else
    bif a0==9 then
     some (Sum.inr (a0,a0==9,false,false,false,false,false,()))
    else
     bif a0==10 then
      some (Sum.inr (a0,a0==10,false,false,false,false,false,()))
     else
      some (Sum.inr (a0,a0==11,false,false,false,false,false,()))) fun v1=>
  bif v1.2.1 then
   some ((true,false,false,false,false),())
  else
   bif v1.1==3 then
    some ((false,false,true,false,false),())
   else
    bif v1.1==4 then
     some ((false,true,false,false,false),())
    else
     bif v1.1==7 then
      some ((true,false,true,false,false),())
     else
      some ((false,false,false,false,true),())
def yS (a0:Int):Option (ah×Unit):=
 some ((a0,0),())
def sC (a0:ah) (a1:ah):Option (Int×Unit):=
 Option.bind (BD a0 9) fun r1=>
 Option.bind (BD a1 9) fun r2=>
 Option.bind (Kk r1.1 r2.1) fun r3=>
 some (r3.1,())
def lK (a0:ah) (a1:Bool):Option (Int×Unit):=
 Option.bind (
  Option.bind (jT a0) fun r1=>
  bif r1.1 != 0 then
   some (true,())
  else
   bif decide (a0.1<0) then
    some (true,())
   else
    bif a0.1==0 then
     bif !a1 then
      some (true,())
     else
      Option.bind (yS 1000000000) fun r2=>
      Option.bind (sC a0 r2.1) fun r3=>
      bif decide (r3.1>0) then
       some (true,())
      else
       some (decide (a0.2>3),())
    else
     Option.bind (yS 1000000000) fun r4=>
     Option.bind (sC a0 r4.1) fun r5=>
     bif decide (r5.1>0) then
      some (true,())
     else
      some (decide (a0.2>3),())) fun v6=>
 bif v6.1 then
  some (1,())
 else
  some (0,())
def qq (a0:ah):Option (Int×Unit):=
 Option.bind (jT a0) fun r1=>
 bif r1.1 != 0 then
  some (1,())
 else
  bif decide (a0.1<0) then
   some (1,())
  else
   Option.bind (yS 1000000000) fun r2=>
   Option.bind (sC a0 r2.1) fun r3=>
   bif decide (r3.1>0) then
    some (1,())
   else
    bif decide (a0.2>4) then
     some (1,())
    else
     some (0,())
def tu (a0:aa):Option (Int×Unit):=
 Option.bind (D7 a0.2.2.2.1) fun r1=>
 Option.bind (
  bif r1.1.1 then
   Option.bind (lK a0.2.2.2.2.2.2.1 (a0.2.2.2.1==2)) fun r2=>
   some (r2.1 != 0,())
  else
   some (false,())) fun v3=>
 bif v3.1 then
  some (1,())
 else
  Option.bind (
   bif r1.1.2.1 then
    Option.bind (qq a0.2.2.2.2.2.2.2.2.1) fun r4=>
    some (r4.1 != 0,())
   else
    some (false,())) fun v5=>
  bif v5.1 then
   some (1,())
  else
   Option.bind (
    bif r1.1.2.2.1 then
     Option.bind (yQ a0.2.2.2.2.2.2.2.2.2.1) fun r6=>
     some (!r6.1,())
    else
     some (false,())) fun v7=>
   bif v7.1 then
    some (1,())
   else
    Option.bind (
     bif r1.1.2.2.2.1 then
      Option.bind (kZ a0.2.2.2.2.2.1) fun r8=>
      bif !r8.1 then
       some (true,())
      else
       Option.bind (kZ a0.2.2.2.2.2.2.2.1) fun r9=>
       some (!r9.1,())
     else
      some (false,())) fun v10=>
    bif v10.1 then
     some (5,())
    else
     Option.bind (
      bif r1.1.2.2.2.2 then
       Option.bind (jm a0.2.2.2.2.2.2.2.2.2.2 1 2000) fun r11=>
       some (!r11.1,())
      else
       some (false,())) fun v12=>
     bif v12.1 then
      some (1,())
     else
      Option.bind (
       bif !r1.1.1 then
        bif !((a0.2.2.2.2.2.2.1.1==0)&&((a0.2.2.2.2.2.2.1.2==0)&&true)) then
         some (true,())
        else
         bif !r1.1.2.1 then
          bif !((a0.2.2.2.2.2.2.2.2.1.1==0)&&((a0.2.2.2.2.2.2.2.2.1.2==0)&&true)) then
           some (true,())
          else
           bif !r1.1.2.2.1 then
            bif a0.2.2.2.2.2.2.2.2.2.1 != 0 then
             some (true,())
            else
             bif !r1.1.2.2.2.1 then
              chk (decide (a0.2.2.2.2.2.1.length+a0.2.2.2.2.2.2.2.1.length≤maxLen)) <|
              bif !((a0.2.2.2.2.2.1++a0.2.2.2.2.2.2.2.1)==[]) then
               some (true,())
              else
               bif !r1.1.2.2.2.2 then
                some (a0.2.2.2.2.2.2.2.2.2.2 != 0,())
               else
                some (false,())
             else
              bif !r1.1.2.2.2.2 then
               some (a0.2.2.2.2.2.2.2.2.2.2 != 0,())
              else
               some (false,())
           else
            bif !r1.1.2.2.2.1 then
             chk (decide (a0.2.2.2.2.2.1.length+a0.2.2.2.2.2.2.2.1.length≤maxLen)) <|
             bif !((a0.2.2.2.2.2.1++a0.2.2.2.2.2.2.2.1)==[]) then
              some (true,())
             else
              bif !r1.1.2.2.2.2 then
               some (a0.2.2.2.2.2.2.2.2.2.2 != 0,())
              else
               some (false,())
            else
             bif !r1.1.2.2.2.2 then
              some (a0.2.2.2.2.2.2.2.2.2.2 != 0,())
             else
              some (false,())
         else
          bif !r1.1.2.2.1 then
           bif a0.2.2.2.2.2.2.2.2.2.1 != 0 then
            some (true,())
           else
            bif !r1.1.2.2.2.1 then
             chk (decide (a0.2.2.2.2.2.1.length+a0.2.2.2.2.2.2.2.1.length≤maxLen)) <|
             bif !((a0.2.2.2.2.2.1++a0.2.2.2.2.2.2.2.1)==[]) then
              some (true,())
             else
              bif !r1.1.2.2.2.2 then
               some (a0.2.2.2.2.2.2.2.2.2.2 != 0,())
              else
               some (false,())
            else
             bif !r1.1.2.2.2.2 then
              some (a0.2.2.2.2.2.2.2.2.2.2 != 0,())
             else
              some (false,())
          else
           bif !r1.1.2.2.2.1 then
            chk (decide (a0.2.2.2.2.2.1.length+a0.2.2.2.2.2.2.2.1.length≤maxLen)) <|
            bif !((a0.2.2.2.2.2.1++a0.2.2.2.2.2.2.2.1)==[]) then
             some (true,())
            else
             bif !r1.1.2.2.2.2 then
              some (a0.2.2.2.2.2.2.2.2.2.2 != 0,())
             else
              some (false,())
           else
            bif !r1.1.2.2.2.2 then
             some (a0.2.2.2.2.2.2.2.2.2.2 != 0,())
            else
             some (false,())
       else
        bif !r1.1.2.1 then
         bif !((a0.2.2.2.2.2.2.2.2.1.1==0)&&((a0.2.2.2.2.2.2.2.2.1.2==0)&&true)) then
          some (true,())
         else
          bif !r1.1.2.2.1 then
           bif a0.2.2.2.2.2.2.2.2.2.1 != 0 then
            some (true,())
           else
            bif !r1.1.2.2.2.1 then
             chk (decide (a0.2.2.2.2.2.1.length+a0.2.2.2.2.2.2.2.1.length≤maxLen)) <|
             bif !((a0.2.2.2.2.2.1++a0.2.2.2.2.2.2.2.1)==[]) then
              some (true,())
             else
              bif !r1.1.2.2.2.2 then
               some (a0.2.2.2.2.2.2.2.2.2.2 != 0,())
              else
               some (false,())
            else
             bif !r1.1.2.2.2.2 then
              some (a0.2.2.2.2.2.2.2.2.2.2 != 0,())
             else
              some (false,())
          else
           bif !r1.1.2.2.2.1 then
            chk (decide (a0.2.2.2.2.2.1.length+a0.2.2.2.2.2.2.2.1.length≤maxLen)) <|
            bif !((a0.2.2.2.2.2.1++a0.2.2.2.2.2.2.2.1)==[]) then
             some (true,())
            else
             bif !r1.1.2.2.2.2 then
              some (a0.2.2.2.2.2.2.2.2.2.2 != 0,())
             else
              some (false,())
           else
            bif !r1.1.2.2.2.2 then
             some (a0.2.2.2.2.2.2.2.2.2.2 != 0,())
            else
             some (false,())
        else
         bif !r1.1.2.2.1 then
          bif a0.2.2.2.2.2.2.2.2.2.1 != 0 then
           some (true,())
          else
           bif !r1.1.2.2.2.1 then
            chk (decide (a0.2.2.2.2.2.1.length+a0.2.2.2.2.2.2.2.1.length≤maxLen)) <|
            bif !((a0.2.2.2.2.2.1++a0.2.2.2.2.2.2.2.1)==[]) then
             some (true,())
            else
             bif !r1.1.2.2.2.2 then
              some (a0.2.2.2.2.2.2.2.2.2.2 != 0,())
             else
              some (false,())
           else
            bif !r1.1.2.2.2.2 then
             some (a0.2.2.2.2.2.2.2.2.2.2 != 0,())
            else
             some (false,())
         else
          bif !r1.1.2.2.2.1 then
           chk (decide (a0.2.2.2.2.2.1.length+a0.2.2.2.2.2.2.2.1.length≤maxLen)) <|
           bif !((a0.2.2.2.2.2.1++a0.2.2.2.2.2.2.2.1)==[]) then
            some (true,())
           else
            bif !r1.1.2.2.2.2 then
             some (a0.2.2.2.2.2.2.2.2.2.2 != 0,())
            else
             some (false,())
          else
           bif !r1.1.2.2.2.2 then
            some (a0.2.2.2.2.2.2.2.2.2.2 != 0,())
           else
            some (false,())) fun v13=>
      bif v13.1 then
       some (3,())
      else
       some (0,())
abbrev rq:Type:=Int×Int×(List Int)×Unit
abbrev rj:Type:=((Int×Unit) ⊕ Unit)
def xI (x1:rq) (again:rq→Option rj):Option rj:=
 bif decide (x1.2.1<x1.1) then
  chk (decide (0≤x1.2.1)&&decide (x1.2.1<(x1.2.2.1.length:Int))) <|
  Option.bind (x1.2.2.1[x1.2.1.toNat]?) fun y2=>
  bif y2 != 0 then
   some (Sum.inl (y2,()))
  else
   again (x1.1,w64 (x1.2.1+1),x1.2.2.1,())
 else
  some (Sum.inr ())
def sD (a0:aa) (a1:aa):Option (Int×Unit):=
 aL (β:=(Int×Unit)) (γ:=Unit) (
  iter (X:=rq) (β:=rj) (Int.natAbs ((List.length [(w64 (a0.1 - a1.1)),(w64 (a0.2.1 - a1.2.1)),(w64 (a0.2.2.1 - a1.2.2.1))]:Int))+(Int.natAbs (0:Int)+(List.length ([(w64 (a0.1 - a1.1)),(w64 (a0.2.1 - a1.2.1)),(w64 (a0.2.2.1 - a1.2.2.1))]:List Int)+2))) ((List.length [(w64 (a0.1 - a1.1)),(w64 (a0.2.1 - a1.2.1)),(w64 (a0.2.2.1 - a1.2.2.1))]:Int),0,[(w64 (a0.1 - a1.1)),(w64 (a0.2.1 - a1.2.1)),(w64 (a0.2.2.1 - a1.2.2.1))],()) (xI)) fun _=>
 some (0,())
abbrev sE:Type:=Int×Int×(List aa)×Int×Int×Unit
abbrev xK:Type:=((Int×Unit) ⊕ (Int×Unit))
def xJ (x1:sE) (again:sE→Option xK):Option xK:=
 match x1 with
 | (A,B,C,D,E,_)=>
 bif decide (E<D) then
  Option.bind (idx C E) fun y2=>
  bif y2.2.1==A then
   again (A,y2.2.2.1,C,D,w64 (E+1),())
  else
   again (A,B,C,D,w64 (E+1),())
 else
  some (Sum.inr (B,()))
def Ax (a0:List aa) (a1:Int):Option (Int×Unit):=
 aL (β:=(Int×Unit)) (γ:=(Int×Unit)) (
  iter (X:=sE) (β:=xK) (Int.natAbs a1+(Int.natAbs (0:Int)+(List.length a0+(Int.natAbs ((List.length a0:Int))+(Int.natAbs (0:Int)+2))))) (a1,0,a0,(List.length a0:Int),0,()) (xJ)) fun v3=>
 some (v3.1,())
abbrev pP:Type:=(List aa)×(List aa)×Int×Int×Unit
abbrev pO:Type:=((Int×Unit) ⊕ Unit)
def lJ (x1:pP) (again:pP→Option pO):Option pO:=
 match x1 with
 | (A,B,C,D,_)=>
 bif decide (D<C) then
  Option.bind (idx B D) fun y2=>
  Option.bind (yQ y2.1) fun r3=>
  bif !r3.1 then
   some (Sum.inl (1,()))
  else
   Option.bind (
    bif y2.2.1 != 1 then
     some (y2.2.1 != 2,())
    else
     some (false,())) fun v4=>
   bif v4.1 then
    some (Sum.inl (4,()))
   else
    Option.bind (jm y2.2.2.1 1 2000) fun r5=>
    bif !r5.1 then
     some (Sum.inl (1,()))
    else
     Option.bind (jm y2.2.2.2.1 1 11) fun r6=>
     bif !r6.1 then
      some (Sum.inl (4,()))
     else
      Option.bind (zx y2.2.2.2.1) fun r7=>
      bif !(r7.1==(y2.2.1==1)) then
       some (Sum.inl (4,()))
      else
       Option.bind (jm y2.2.2.2.2.1 1 99999) fun r8=>
       bif !r8.1 then
        some (Sum.inl (1,()))
       else
        Option.bind (tu y2) fun r9=>
        bif r9.1 != 0 then
         some (Sum.inl (r9.1,()))
        else
         Option.bind (
          bif decide (D>0) then
           Option.bind (idx A (w64 (D - 1))) fun y10=>
           Option.bind (sD y2 y10) fun r11=>
           some (decide (r11.1≤0),())
          else
           some (false,())) fun v12=>
         bif v12.1 then
          some (Sum.inl (8,()))
         else
          chk (decide (0≤(0:Int))&&decide ((0:Int)≤D)&&decide (D≤(A.length:Int))) <|
          Option.bind (Ax (List.drop 0 (List.take (Int.toNat D) A)) y2.2.1) fun r13=>
          bif y2.2.2.1 != (w64 (r13.1+1)) then
           some (Sum.inl (9,()))
          else
           again (A,B,C,w64 (D+1),())
 else
  some (Sum.inr ())
def qp (a0:List aa):Option (Int×Unit):=
 bif decide (((List.length a0:Int))>2000) then
  some (2,())
 else
  aL (β:=(Int×Unit)) (γ:=Unit) (
   iter (X:=pP) (β:=pO) (List.length a0+(List.length a0+(Int.natAbs ((List.length a0:Int))+(Int.natAbs (0:Int)+2)))) (a0,a0,(List.length a0:Int),0,()) (lJ)) fun _=>
  some (0,())
end
end Go.Md
