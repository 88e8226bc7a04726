/-
  The plain models of the functions that the law reaches, third part. No condition.
-/
import Derived.Test.YtokceoajcccdiaaGreatDoorYn
import Derived.Test.YtokceoajcccdiaaGreatDoorYd
import Derived.Lib.Atoi
import Derived.Lib.IndexBytes
namespace Go.Md
open Go.Dn
def cF (s:List UInt8) (c:Int):Option (Int×Unit):=some (Lib.indexByte s c.toNat.toUInt8,())
def aA (c:UInt8):List UInt8->List (List UInt8)
 | []=>[[]]
 | b::r=>bif b==c then []::aA c r else (match aA c r with
  | h::t=>(b::h)::t
  | []=>[[b]])
def strings_Split (s sep:List UInt8):Option (List (List UInt8)×Unit):=match sep with
 | [c]=>bif decide (s.length<4294967281) then some (aA c s,()) else none
 | _=>none
def NV (b:UInt8):Bool:=decide (48<=b.toNat)&&decide (b.toNat<=57)
def nW (s:List UInt8) (most:Int):Option (Int×Bool×Unit):=
 bif decide (most<(s.length:Int)) then some (0,false,())
 else bif decide (s.length<=18) then (bif !(!(s==[])&&s.all NV)||(decide (1<s.length)&&s.head? ==some 48) then some (0,false,()) else (Lib.atoi s).bind fun n=>some (n,true,())) else none
noncomputable section
abbrev Jl:Type:=Int×Int×Int
abbrev x5:Ty:=(.st (.pair .bool (.pair .bool (.pair .bool (.pair .bool .bool)))))
abbrev oz:Type:=Bool×Bool×Bool×Bool×Bool
abbrev LF:Ty:=(.st (.pair .bool (.pair .bool (.pair .bool (.pair .bool (.pair .bool .bool))))))
abbrev Kc:Type:=Bool×Bool×Bool×Bool×Bool×Bool
abbrev Nr:Type:=Int×(List UInt8)×ah×(List UInt8)×ah×Int
abbrev aH:Ty:=(.st (.pair tI (.pair tI (.pair tI (.pair tI (.pair tI (.pair .str (.pair bA (.pair .str (.pair bA (.pair tI tI)))))))))))
abbrev aa:Type:=Int×Int×Int×Int×Int×(List UInt8)×ah×(List UInt8)×ah×Int×Int
abbrev xh:Type:=(List UInt8)×(List UInt8)×(List UInt8)×Int×Int×(List Nr)
abbrev Kb:Type:=Int×(List UInt8)×(List UInt8)×Int×Int×Int×Int×ah×Int×Int×Jl
abbrev oy:Type:=Int×DT
def mQ (a0:Int):Option (Bool×Unit):=
 bif a0==5 then
  some (true,())
 else
  bif a0==6 then
   some (true,())
  else
   bif a0==7 then
    some (true,())
   else
    some (a0==9,())
def bp (a0:Int):Option (Kc×Unit):=
 bif a0==1 then
  some ((true,true,true,true,true,false),())
 else
  bif a0==3 then
   some ((false,false,false,false,true,false),())
  else
   bif a0==4 then
    some ((false,false,false,true,false,false),())
   else
    bif a0==5 then
     bif a0==5 then
      some ((false,false,false,false,false,true),())
     else
      bif a0==7 then
       some ((false,true,false,false,true,false),())
      else
       some ((false,true,false,false,false,false),())
    else
     bif a0==6 then
      bif a0==6 then
       some ((false,false,false,false,false,true),())
      else
       bif a0==7 then
        some ((false,true,false,false,true,false),())
       else
        some ((false,true,false,false,false,false),())
     else
      bif a0==8 then
       some ((false,false,false,false,false,true),())
      else
       bif a0==7 then
        some ((false,true,false,false,true,false),())
       else
        some ((false,true,false,false,false,false),())
def mR (a0:aa):Option (Int×Unit):=
 Option.bind (bp a0.2.2.2.1) fun r1=>
 aF (β:=(Int×Unit)) (γ:=(Int×Int×Int×Int×Int×(List UInt8)×Int×Int×(List UInt8)×Int×Int×Int×Int×Bool×Bool×Bool×Bool×Bool×Bool×Unit)) (
  bif r1.1.2.1 then
   Option.bind (jh a0.2.2.2.2.2.2.1 (a0.2.2.2.1==2)) fun r2=>
   bif r2.1 != 0 then
    some (Sum.inl (r2.1,()))
   else
    some (Sum.inr (a0.1,a0.2.1,a0.2.2.1,a0.2.2.2.1,a0.2.2.2.2.1,a0.2.2.2.2.2.1,a0.2.2.2.2.2.2.1.1,a0.2.2.2.2.2.2.1.2,a0.2.2.2.2.2.2.2.1,a0.2.2.2.2.2.2.2.2.1.1,a0.2.2.2.2.2.2.2.2.1.2,a0.2.2.2.2.2.2.2.2.2.1,a0.2.2.2.2.2.2.2.2.2.2,r1.1.1,r1.1.2.1,r1.1.2.2.1,r1.1.2.2.2.1,r1.1.2.2.2.2.1,r1.1.2.2.2.2.2,()))
  else
   some (Sum.inr (a0.1,a0.2.1,a0.2.2.1,a0.2.2.2.1,a0.2.2.2.2.1,a0.2.2.2.2.2.1,a0.2.2.2.2.2.2.1.1,a0.2.2.2.2.2.2.1.2,a0.2.2.2.2.2.2.2.1,a0.2.2.2.2.2.2.2.2.1.1,a0.2.2.2.2.2.2.2.2.1.2,a0.2.2.2.2.2.2.2.2.2.1,a0.2.2.2.2.2.2.2.2.2.2,r1.1.1,r1.1.2.1,r1.1.2.2.1,r1.1.2.2.2.1,r1.1.2.2.2.2.1,r1.1.2.2.2.2.2,()))) fun v3=>
 aF (β:=(Int×Unit)) (γ:=(Int×Int×Int×Int×Int×(List UInt8)×Int×Int×(List UInt8)×Int×Int×Int×Int×Bool×Bool×Bool×Bool×Bool×Bool×Unit)) (
  bif v3.2.2.2.2.2.2.2.2.2.2.2.2.2.2.2.2.1 then
   Option.bind (lH (v3.2.2.2.2.2.2.2.2.2.1,v3.2.2.2.2.2.2.2.2.2.2.1)) fun r4=>
   bif r4.1 != 0 then
    some (Sum.inl (r4.1,()))
   else
    some (Sum.inr (v3.1,v3.2.1,v3.2.2.1,v3.2.2.2.1,v3.2.2.2.2.1,v3.2.2.2.2.2.1,v3.2.2.2.2.2.2.1,v3.2.2.2.2.2.2.2.1,v3.2.2.2.2.2.2.2.2.1,v3.2.2.2.2.2.2.2.2.2.1,v3.2.2.2.2.2.2.2.2.2.2.1,v3.2.2.2.2.2.2.2.2.2.2.2.1,v3.2.2.2.2.2.2.2.2.2.2.2.2.1,v3.2.2.2.2.2.2.2.2.2.2.2.2.2.1,v3.2.2.2.2.2.2.2.2.2.2.2.2.2.2.1,v3.2.2.2.2.2.2.2.2.2.2.2.2.2.2.2.1,v3.2.2.2.2.2.2.2.2.2.2.2.2.2.2.2.2.1,v3.2.2.2.2.2.2.2.2.2.2.2.2.2.2.2.2.2.1,v3.2.2.2.2.2.2.2.2.2.2.2.2.2.2.2.2.2.2.1,()))
  else
   some (Sum.inr (v3.1,v3.2.1,v3.2.2.1,v3.2.2.2.1,v3.2.2.2.2.1,v3.2.2.2.2.2.1,v3.2.2.2.2.2.2.1,v3.2.2.2.2.2.2.2.1,v3.2.2.2.2.2.2.2.2.1,v3.2.2.2.2.2.2.2.2.2.1,v3.2.2.2.2.2.2.2.2.2.2.1,v3.2.2.2.2.2.2.2.2.2.2.2.1,v3.2.2.2.2.2.2.2.2.2.2.2.2.1,v3.2.2.2.2.2.2.2.2.2.2.2.2.2.1,v3.2.2.2.2.2.2.2.2.2.2.2.2.2.2.1,v3.2.2.2.2.2.2.2.2.2.2.2.2.2.2.2.1,v3.2.2.2.2.2.2.2.2.2.2.2.2.2.2.2.2.1,v3.2.2.2.2.2.2.2.2.2.2.2.2.2.2.2.2.2.1,v3.2.2.2.2.2.2.2.2.2.2.2.2.2.2.2.2.2.2.1,()))) fun v5=>
 Option.bind (
  bif v5.2.2.2.2.2.2.2.2.2.2.2.2.2.2.2.2.2.1 then
   Option.bind (qu v5.2.2.2.2.2.2.2.2.2.2.2.1) fun r6=>
   some (!r6.1,())
  else
   some (false,())) fun v7=>
 bif v7.1 then
  some (1,())
 else
  Option.bind (
   bif v5.2.2.2.2.2.2.2.2.2.2.2.2.2.1 then
    Option.bind (gK v5.2.2.2.2.2.1) fun r8=>
    bif !r8.1 then
     some (true,())
    else
     bif v5.2.2.2.2.2.2.2.2.2.2.2.2.2.2.2.1 then
      Option.bind (gK v5.2.2.2.2.2.2.2.2.1) fun r9=>
      some (!r9.1,())
     else
      some (false,())
   else
    bif v5.2.2.2.2.2.2.2.2.2.2.2.2.2.2.2.1 then
     Option.bind (gK v5.2.2.2.2.2.2.2.2.1) fun r10=>
     some (!r10.1,())
    else
     some (false,())) fun v11=>
  bif v11.1 then
   some (5,())
  else
   Option.bind (
    bif v5.2.2.2.2.2.2.2.2.2.2.2.2.2.2.2.2.2.2.1 then
     Option.bind (eN v5.2.2.2.2.2.2.2.2.2.2.2.2.1 1 2000) fun r12=>
     some (r12.1,())
    else
     some (false,())) fun v13=>
   bif v13.1 then
    some (1,())
   else
    Option.bind (
     bif !v5.2.2.2.2.2.2.2.2.2.2.2.2.2.1 then
      bif !(v5.2.2.2.2.2.1==[]) then
       some (true,())
      else
       bif !v5.2.2.2.2.2.2.2.2.2.2.2.2.2.2.1 then
        bif !((v5.2.2.2.2.2.2.1==0)&&((v5.2.2.2.2.2.2.2.1==0)&&true)) then
         some (true,())
        else
         bif !v5.2.2.2.2.2.2.2.2.2.2.2.2.2.2.2.1 then
          bif !(v5.2.2.2.2.2.2.2.2.1==[]) then
           some (true,())
          else
           bif !v5.2.2.2.2.2.2.2.2.2.2.2.2.2.2.2.2.1 then
            bif !((v5.2.2.2.2.2.2.2.2.2.1==0)&&((v5.2.2.2.2.2.2.2.2.2.2.1==0)&&true)) then
             some (true,())
            else
             bif !v5.2.2.2.2.2.2.2.2.2.2.2.2.2.2.2.2.2.1 then
              bif v5.2.2.2.2.2.2.2.2.2.2.2.1 != 0 then
               some (true,())
              else
               bif !v5.2.2.2.2.2.2.2.2.2.2.2.2.2.2.2.2.2.2.1 then
                some (v5.2.2.2.2.2.2.2.2.2.2.2.2.1 != 0,())
               else
                some (false,())
             else
              bif !v5.2.2.2.2.2.2.2.2.2.2.2.2.2.2.2.2.2.2.1 then
               some (v5.2.2.2.2.2.2.2.2.2.2.2.2.1 != 0,())
              else
               some (false,())
           else
            bif !v5.2.2.2.2.2.2.2.2.2.2.2.2.2.2.2.2.2.1 then
             bif v5.2.2.2.2.2.2.2.2.2.2.2.1 != 0 then
              some (true,())
             else
              bif !v5.2.2.2.2.2.2.2.2.2.2.2.2.2.2.2.2.2.2.1 then
               some (v5.2.2.2.2.2.2.2.2.2.2.2.2.1 != 0,())
              else
               some (false,())
            else
             bif !v5.2.2.2.2.2.2.2.2.2.2.2.2.2.2.2.2.2.2.1 then
              some (v5.2.2.2.2.2.2.2.2.2.2.2.2.1 != 0,())
             else
              some (false,())
         else
          bif !v5.2.2.2.2.2.2.2.2.2.2.2.2.2.2.2.2.1 then
           bif !((v5.2.2.2.2.2.2.2.2.2.1==0)&&((v5.2.2.2.2.2.2.2.2.2.2.1==0)&&true)) then
            some (true,())
           else
            bif !v5.2.2.2.2.2.2.2.2.2.2.2.2.2.2.2.2.2.1 then
             bif v5.2.2.2.2.2.2.2.2.2.2.2.1 != 0 then
              some (true,())
             else
              bif !v5.2.2.2.2.2.2.2.2.2.2.2.2.2.2.2.2.2.2.1 then
               some (v5.2.2.2.2.2.2.2.2.2.2.2.2.1 != 0,())
              else
               some (false,())
            else
             bif !v5.2.2.2.2.2.2.2.2.2.2.2.2.2.2.2.2.2.2.1 then
              some (v5.2.2.2.2.2.2.2.2.2.2.2.2.1 != 0,())
             else
              some (false,())
          else
           bif !v5.2.2.2.2.2.2.2.2.2.2.2.2.2.2.2.2.2.1 then
            bif v5.2.2.2.2.2.2.2.2.2.2.2.1 != 0 then
             some (true,())
            else
             bif !v5.2.2.2.2.2.2.2.2.2.2.2.2.2.2.2.2.2.2.1 then
              some (v5.2.2.2.2.2.2.2.2.2.2.2.2.1 != 0,())
             else
              some (false,())
           else
            bif !v5.2.2.2.2.2.2.2.2.2.2.2.2.2.2.2.2.2.2.1 then
             some (v5.2.2.2.2.2.2.2.2.2.2.2.2.1 != 0,())
            else
             some (false,())
       else
        bif !v5.2.2.2.2.2.2.2.2.2.2.2.2.2.2.2.1 then
         bif !(v5.2.2.2.2.2.2.2.2.1==[]) then
          some (true,())
         else
          bif !v5.2.2.2.2.2.2.2.2.2.2.2.2.2.2.2.2.1 then
           bif !((v5.2.2.2.2.2.2.2.2.2.1==0)&&((v5.2.2.2.2.2.2.2.2.2.2.1==0)&&true)) then
            some (true,())
           else
            bif !v5.2.2.2.2.2.2.2.2.2.2.2.2.2.2.2.2.2.1 then
             bif v5.2.2.2.2.2.2.2.2.2.2.2.1 != 0 then
              some (true,())
             else
              bif !v5.2.2.2.2.2.2.2.2.2.2.2.2.2.2.2.2.2.2.1 then
               some (v5.2.2.2.2.2.2.2.2.2.2.2.2.1 != 0,())
              else
               some (false,())
            else
             bif !v5.2.2.2.2.2.2.2.2.2.2.2.2.2.2.2.2.2.2.1 then
              some (v5.2.2.2.2.2.2.2.2.2.2.2.2.1 != 0,())
             else
              some (false,())
          else
           bif !v5.2.2.2.2.2.2.2.2.2.2.2.2.2.2.2.2.2.1 then
            bif v5.2.2.2.2.2.2.2.2.2.2.2.1 != 0 then
             some (true,())
            else
             bif !v5.2.2.2.2.2.2.2.2.2.2.2.2.2.2.2.2.2.2.1 then
              some (v5.2.2.2.2.2.2.2.2.2.2.2.2.1 != 0,())
             else
              some (false,())
           else
            bif !v5.2.2.2.2.2.2.2.2.2.2.2.2.2.2.2.2.2.2.1 then
             some (v5.2.2.2.2.2.2.2.2.2.2.2.2.1 != 0,())
            else
             some (false,())
        else
         bif !v5.2.2.2.2.2.2.2.2.2.2.2.2.2.2.2.2.1 then
          bif !((v5.2.2.2.2.2.2.2.2.2.1==0)&&((v5.2.2.2.2.2.2.2.2.2.2.1==0)&&true)) then
           some (true,())
          else
           bif !v5.2.2.2.2.2.2.2.2.2.2.2.2.2.2.2.2.2.1 then
            bif v5.2.2.2.2.2.2.2.2.2.2.2.1 != 0 then
             some (true,())
            else
             bif !v5.2.2.2.2.2.2.2.2.2.2.2.2.2.2.2.2.2.2.1 then
              some (v5.2.2.2.2.2.2.2.2.2.2.2.2.1 != 0,())
             else
              some (false,())
           else
            bif !v5.2.2.2.2.2.2.2.2.2.2.2.2.2.2.2.2.2.2.1 then
             some (v5.2.2.2.2.2.2.2.2.2.2.2.2.1 != 0,())
            else
             some (false,())
         else
          bif !v5.2.2.2.2.2.2.2.2.2.2.2.2.2.2.2.2.2.1 then
           bif v5.2.2.2.2.2.2.2.2.2.2.2.1 != 0 then
            some (true,())
           else
            bif !v5.2.2.2.2.2.2.2.2.2.2.2.2.2.2.2.2.2.2.1 then
             some (v5.2.2.2.2.2.2.2.2.2.2.2.2.1 != 0,())
            else
             some (false,())
          else
           bif !v5.2.2.2.2.2.2.2.2.2.2.2.2.2.2.2.2.2.2.1 then
            some (v5.2.2.2.2.2.2.2.2.2.2.2.2.1 != 0,())
           else
            some (false,())
     else
      bif !v5.2.2.2.2.2.2.2.2.2.2.2.2.2.2.1 then
       bif !((v5.2.2.2.2.2.2.1==0)&&((v5.2.2.2.2.2.2.2.1==0)&&true)) then
        some (true,())
       else
        bif !v5.2.2.2.2.2.2.2.2.2.2.2.2.2.2.2.1 then
         bif !(v5.2.2.2.2.2.2.2.2.1==[]) then
          some (true,())
         else
          bif !v5.2.2.2.2.2.2.2.2.2.2.2.2.2.2.2.2.1 then
           bif !((v5.2.2.2.2.2.2.2.2.2.1==0)&&((v5.2.2.2.2.2.2.2.2.2.2.1==0)&&true)) then
            some (true,())
           else
            bif !v5.2.2.2.2.2.2.2.2.2.2.2.2.2.2.2.2.2.1 then
             bif v5.2.2.2.2.2.2.2.2.2.2.2.1 != 0 then
              some (true,())
             else
              bif !v5.2.2.2.2.2.2.2.2.2.2.2.2.2.2.2.2.2.2.1 then
               some (v5.2.2.2.2.2.2.2.2.2.2.2.2.1 != 0,())
              else
               some (false,())
            else
             bif !v5.2.2.2.2.2.2.2.2.2.2.2.2.2.2.2.2.2.2.1 then
              some (v5.2.2.2.2.2.2.2.2.2.2.2.2.1 != 0,())
             else
              some (false,())
          else
           bif !v5.2.2.2.2.2.2.2.2.2.2.2.2.2.2.2.2.2.1 then
            bif v5.2.2.2.2.2.2.2.2.2.2.2.1 != 0 then
             some (true,())
            else
             bif !v5.2.2.2.2.2.2.2.2.2.2.2.2.2.2.2.2.2.2.1 then
              some (v5.2.2.2.2.2.2.2.2.2.2.2.2.1 != 0,())
             else
              some (false,())
           else
            bif !v5.2.2.2.2.2.2.2.2.2.2.2.2.2.2.2.2.2.2.1 then
             some (v5.2.2.2.2.2.2.2.2.2.2.2.2.1 != 0,())
            else
             some (false,())
        else
         bif !v5.2.2.2.2.2.2.2.2.2.2.2.2.2.2.2.2.1 then
          bif !((v5.2.2.2.2.2.2.2.2.2.1==0)&&((v5.2.2.2.2.2.2.2.2.2.2.1==0)&&true)) then
           some (true,())
          else
           bif !v5.2.2.2.2.2.2.2.2.2.2.2.2.2.2.2.2.2.1 then
            bif v5.2.2.2.2.2.2.2.2.2.2.2.1 != 0 then
             some (true,())
            else
             bif !v5.2.2.2.2.2.2.2.2.2.2.2.2.2.2.2.2.2.2.1 then
              some (v5.2.2.2.2.2.2.2.2.2.2.2.2.1 != 0,())
             else
              some (false,())
           else
            bif !v5.2.2.2.2.2.2.2.2.2.2.2.2.2.2.2.2.2.2.1 then
             some (v5.2.2.2.2.2.2.2.2.2.2.2.2.1 != 0,())
            else
             some (false,())
         else
          bif !v5.2.2.2.2.2.2.2.2.2.2.2.2.2.2.2.2.2.1 then
           bif v5.2.2.2.2.2.2.2.2.2.2.2.1 != 0 then
            some (true,())
           else
            bif !v5.2.2.2.2.2.2.2.2.2.2.2.2.2.2.2.2.2.2.1 then
             some (v5.2.2.2.2.2.2.2.2.2.2.2.2.1 != 0,())
            else
             some (false,())
          else
           bif !v5.2.2.2.2.2.2.2.2.2.2.2.2.2.2.2.2.2.2.1 then
            some (v5.2.2.2.2.2.2.2.2.2.2.2.2.1 != 0,())
           else
            some (false,())
      else
       bif !v5.2.2.2.2.2.2.2.2.2.2.2.2.2.2.2.1 then
        bif !(v5.2.2.2.2.2.2.2.2.1==[]) then
         some (true,())
        else
         bif !v5.2.2.2.2.2.2.2.2.2.2.2.2.2.2.2.2.1 then
          bif !((v5.2.2.2.2.2.2.2.2.2.1==0)&&((v5.2.2.2.2.2.2.2.2.2.2.1==0)&&true)) then
           some (true,())
          else
           bif !v5.2.2.2.2.2.2.2.2.2.2.2.2.2.2.2.2.2.1 then
            bif v5.2.2.2.2.2.2.2.2.2.2.2.1 != 0 then
             some (true,())
            else
             bif !v5.2.2.2.2.2.2.2.2.2.2.2.2.2.2.2.2.2.2.1 then
              some (v5.2.2.2.2.2.2.2.2.2.2.2.2.1 != 0,())
             else
              some (false,())
           else
            bif !v5.2.2.2.2.2.2.2.2.2.2.2.2.2.2.2.2.2.2.1 then
             some (v5.2.2.2.2.2.2.2.2.2.2.2.2.1 != 0,())
            else
             some (false,())
         else
          bif !v5.2.2.2.2.2.2.2.2.2.2.2.2.2.2.2.2.2.1 then
           bif v5.2.2.2.2.2.2.2.2.2.2.2.1 != 0 then
            some (true,())
           else
            bif !v5.2.2.2.2.2.2.2.2.2.2.2.2.2.2.2.2.2.2.1 then
             some (v5.2.2.2.2.2.2.2.2.2.2.2.2.1 != 0,())
            else
             some (false,())
          else
           bif !v5.2.2.2.2.2.2.2.2.2.2.2.2.2.2.2.2.2.2.1 then
            some (v5.2.2.2.2.2.2.2.2.2.2.2.2.1 != 0,())
           else
            some (false,())
       else
        bif !v5.2.2.2.2.2.2.2.2.2.2.2.2.2.2.2.2.1 then
         bif !((v5.2.2.2.2.2.2.2.2.2.1==0)&&((v5.2.2.2.2.2.2.2.2.2.2.1==0)&&true)) then
          some (true,())
         else
          bif !v5.2.2.2.2.2.2.2.2.2.2.2.2.2.2.2.2.2.1 then
           bif v5.2.2.2.2.2.2.2.2.2.2.2.1 != 0 then
            some (true,())
           else
            bif !v5.2.2.2.2.2.2.2.2.2.2.2.2.2.2.2.2.2.2.1 then
             some (v5.2.2.2.2.2.2.2.2.2.2.2.2.1 != 0,())
            else
             some (false,())
          else
           bif !v5.2.2.2.2.2.2.2.2.2.2.2.2.2.2.2.2.2.2.1 then
            some (v5.2.2.2.2.2.2.2.2.2.2.2.2.1 != 0,())
           else
            some (false,())
        else
         bif !v5.2.2.2.2.2.2.2.2.2.2.2.2.2.2.2.2.2.1 then
          bif v5.2.2.2.2.2.2.2.2.2.2.2.1 != 0 then
           some (true,())
          else
           bif !v5.2.2.2.2.2.2.2.2.2.2.2.2.2.2.2.2.2.2.1 then
            some (v5.2.2.2.2.2.2.2.2.2.2.2.2.1 != 0,())
           else
            some (false,())
         else
          bif !v5.2.2.2.2.2.2.2.2.2.2.2.2.2.2.2.2.2.2.1 then
           some (v5.2.2.2.2.2.2.2.2.2.2.2.2.1 != 0,())
          else
           some (false,())) fun v14=>
    bif v14.1 then
     some (3,())
    else
     some (0,())
def mP (a0:aa):Option (Int×Unit):=
 Option.bind (qu a0.1) fun r1=>
 bif !r1.1 then
  some (1,())
 else
  Option.bind (eN a0.2.1 1 2) fun r2=>
  bif r2.1 then
   some (4,())
  else
   Option.bind (eN a0.2.2.1 1 2000) fun r3=>
   bif r3.1 then
    some (1,())
   else
    Option.bind (eN a0.2.2.2.1 1 11) fun r4=>
    bif r4.1 then
     some (4,())
    else
     Option.bind (mQ a0.2.2.2.1) fun r5=>
     bif !(r5.1==(a0.2.1==2)) then
      some (4,())
     else
      Option.bind (eN a0.2.2.2.2.1 1 99999) fun r6=>
      bif r6.1 then
       some (1,())
      else
       Option.bind (mR a0) fun r7=>
       some (r7.1,())
abbrev ig:Type:=Int×Int×(List Int)×Unit
abbrev ic:Type:=((Int×Unit) ⊕ Unit)
def kK (x1:ig) (again:ig->Option ic):Option ic:=
 bif decide (x1.2.1<x1.1) then
  chk (decide (0<=x1.2.1)&&decide (x1.2.1<(x1.2.2.1.length:Int))) <|
  Option.bind (x1.2.2.1[x1.2.1.toNat]?) fun y2=>
  bif y2 != 0 then
   some (Sum.inl (y2,()))
  else
   again (x1.1,w64 (x1.2.1+1),x1.2.2.1,())
 else
  some (Sum.inr ())
def gV (a0:aa) (a1:aa):Option (Int×Unit):=
 aF (β:=(Int×Unit)) (γ:=Unit) (
  iter (X:=ig) (β:=ic) (Int.natAbs ((List.length [(w64 (a0.1 - a1.1)),(w64 (a0.2.1 - a1.2.1)),(w64 (a0.2.2.1 - a1.2.2.1))]:Int))+(Int.natAbs (0:Int)+(List.length ([(w64 (a0.1 - a1.1)),(w64 (a0.2.1 - a1.2.1)),(w64 (a0.2.2.1 - a1.2.2.1))]:List Int)+2))) ((List.length [(w64 (a0.1 - a1.1)),(w64 (a0.2.1 - a1.2.1)),(w64 (a0.2.2.1 - a1.2.2.1))]:Int),0,[(w64 (a0.1 - a1.1)),(w64 (a0.2.1 - a1.2.1)),(w64 (a0.2.2.1 - a1.2.2.1))],()) (kK)) fun _=>
 some (0,())
abbrev gD:Type:=(List aa)×(List aa)×Int×Int×Int×Int×Int×Unit
abbrev ff:Type:=((Int×Unit) ⊕ Unit)
def gC (x1:gD) (again:gD->Option ff):Option ff:=
 bif decide (x1.2.2.2.1<x1.2.2.1) then
  Option.bind (idx x1.2.1 x1.2.2.2.1) fun y2=>
  Option.bind (mP y2) fun r3=>
  bif r3.1 != 0 then
   some (Sum.inl (r3.1,()))
  else
   Option.bind (
    bif decide (x1.2.2.2.1>0) then
     Option.bind (idx x1.1 (w64 (x1.2.2.2.1 - 1))) fun y4=>
     Option.bind (gV y4 y2) fun r5=>
     some (decide (r5.1>=0),())
    else
     some (false,())) fun v6=>
   bif v6.1 then
    some (Sum.inl (8,()))
   else
    bif y2.2.1==0 then
     bif y2.2.2.1 != (w64 (x1.2.2.2.2.1+1)) then
      some (Sum.inl (9,()))
     else
      bif y2.2.1==0 then
       again (x1.1,x1.2.1,x1.2.2.1,w64 (x1.2.2.2.1+1),y2.2.2.1,x1.2.2.2.2.2.1,x1.2.2.2.2.2.2.1,())
      else
       bif y2.2.1==1 then
        again (x1.1,x1.2.1,x1.2.2.1,w64 (x1.2.2.2.1+1),x1.2.2.2.2.1,y2.2.2.1,x1.2.2.2.2.2.2.1,())
       else
        bif y2.2.1==2 then
         again (x1.1,x1.2.1,x1.2.2.1,w64 (x1.2.2.2.1+1),x1.2.2.2.2.1,x1.2.2.2.2.2.1,y2.2.2.1,())
        else
         none
    else
     bif y2.2.1==1 then
      bif y2.2.2.1 != (w64 (x1.2.2.2.2.2.1+1)) then
       some (Sum.inl (9,()))
      else
       bif y2.2.1==0 then
        again (x1.1,x1.2.1,x1.2.2.1,w64 (x1.2.2.2.1+1),y2.2.2.1,x1.2.2.2.2.2.1,x1.2.2.2.2.2.2.1,())
       else
        bif y2.2.1==1 then
         again (x1.1,x1.2.1,x1.2.2.1,w64 (x1.2.2.2.1+1),x1.2.2.2.2.1,y2.2.2.1,x1.2.2.2.2.2.2.1,())
        else
         bif y2.2.1==2 then
          again (x1.1,x1.2.1,x1.2.2.1,w64 (x1.2.2.2.1+1),x1.2.2.2.2.1,x1.2.2.2.2.2.1,y2.2.2.1,())
         else
          none
     else
      bif y2.2.1==2 then
       bif y2.2.2.1 != (w64 (x1.2.2.2.2.2.2.1+1)) then
        some (Sum.inl (9,()))
       else
        bif y2.2.1==0 then
         again (x1.1,x1.2.1,x1.2.2.1,w64 (x1.2.2.2.1+1),y2.2.2.1,x1.2.2.2.2.2.1,x1.2.2.2.2.2.2.1,())
        else
         bif y2.2.1==1 then
          again (x1.1,x1.2.1,x1.2.2.1,w64 (x1.2.2.2.1+1),x1.2.2.2.2.1,y2.2.2.1,x1.2.2.2.2.2.2.1,())
         else
          bif y2.2.1==2 then
           again (x1.1,x1.2.1,x1.2.2.1,w64 (x1.2.2.2.1+1),x1.2.2.2.2.1,x1.2.2.2.2.2.1,y2.2.2.1,())
          else
           none
      else
       none
 else
  some (Sum.inr ())
def eH (a0:List aa):Option (Int×Unit):=
 bif decide (((List.length a0:Int))>2000) then
  some (2,())
 else
  aF (β:=(Int×Unit)) (γ:=Unit) (
   iter (X:=gD) (β:=ff) (List.length a0+(List.length a0+(Int.natAbs ((List.length a0:Int))+(Int.natAbs (0:Int)+(Int.natAbs (0:Int)+(Int.natAbs (0:Int)+(Int.natAbs (0:Int)+2))))))) (a0,a0,(List.length a0:Int),0,0,0,0,()) (gC)) fun _=>
  some (0,())
def fX (a0:List UInt8) (a1:List UInt8):Option (Bool×Unit):=
 bif decide (((List.length a0:Int))>=((List.length a1:Int))) then
  chk (decide (0<=(w64 (((List.length a0:Int)) - ((List.length a1:Int)))))&&decide ((w64 (((List.length a0:Int)) - ((List.length a1:Int))))<=((List.length a0:Int)))&&decide (((List.length a0:Int))<=(List.length a0:Int))) <|
  some ((List.drop (Int.toNat (w64 (((List.length a0:Int)) - ((List.length a1:Int))))) (List.take (Int.toNat ((List.length a0:Int))) a0))==a1,())
 else
  some (false,())
def fV (a0:List UInt8) (a1:List UInt8):Option ((List UInt8)×Bool×Unit):=
 Option.bind (fX a0 a1) fun r1=>
 bif !r1.1 then
  some (a0,false,())
 else
  chk (decide (0<=(0:Int))&&decide ((0:Int)<=(w64 (((List.length a0:Int)) - ((List.length a1:Int)))))&&decide ((w64 (((List.length a0:Int)) - ((List.length a1:Int))))<=(List.length a0:Int))) <|
  some (List.drop 0 (List.take (Int.toNat (w64 (((List.length a0:Int)) - ((List.length a1:Int))))) a0),true,())
def kr (a0:List UInt8) (a1:List UInt8):Option ((List UInt8)×Bool×Unit):=
 Option.bind (fV a0 a1) fun r1=>
 some (r1.1,r1.2.1,())
def wW (a0:List UInt8):Option ((List (List UInt8))×Bool×Unit):=
 bif a0==[] then
  some ([],true,())
 else
  Option.bind (kr a0 [10]) fun r1=>
  Option.bind (strings_Split r1.1 [10]) fun r2=>
  some (r2.1,r1.2.1,())
abbrev ni:Type:=Int×Int×(List (List UInt8))×Unit
abbrev vN:Type:=(((List (List UInt8))×Bool×Unit) ⊕ ((List (List UInt8))×Unit))
def qR (x1:ni) (again:ni->Option vN):Option vN:=
 bif decide (x1.2.1<x1.1) then
  chk (decide (0<=x1.2.1)&&decide (x1.2.1<(x1.2.2.1.length:Int))) <|
  Option.bind (x1.2.2.1[x1.2.1.toNat]?) fun y2=>
  bif y2==[] then
   some (Sum.inl ([],false,()))
  else
   again (x1.1,w64 (x1.2.1+1),x1.2.2.1,())
 else
  some (Sum.inr (x1.2.2.1,()))
def wX (a0:List UInt8):Option ((List (List UInt8))×Bool×Unit):=
 Option.bind (strings_Split a0 [32]) fun r1=>
 aF (β:=((List (List UInt8))×Bool×Unit)) (γ:=((List (List UInt8))×Unit)) (
  iter (X:=ni) (β:=vN) (Int.natAbs ((r1.1.length:Int))+(Int.natAbs (0:Int)+(r1.1.length+2))) ((r1.1.length:Int),0,r1.1,()) (qR)) fun v4=>
 some (v4.1,true,())
def eI (a0:(List (List UInt8))×Bool×Unit):Option ((List UInt8)×((List (List UInt8))×Bool×Unit)×Unit):=
 bif ((a0.1.length:Int))==0 then
  some ([],(a0.1,true,()),())
 else
  Option.bind (idx a0.1 0) fun y1=>
  chk (decide (0<=(1:Int))&&decide ((1:Int)<=((a0.1.length:Int)))&&decide (((a0.1.length:Int))<=(a0.1.length:Int))) <|
  some (y1,(List.drop 1 (List.take (Int.toNat ((a0.1.length:Int))) a0.1),a0.2.1,()),())
def dN (a0:(List (List UInt8))×Bool×Unit):Option (Int×((List (List UInt8))×Bool×Unit)×Unit):=
 Option.bind (eI (a0.1,a0.2.1,())) fun r1=>
 Option.bind (nW r1.1 16) fun r2=>
 bif r1.2.1.2.1 then
  some (r2.1,(r1.2.1.1,true,()),())
 else
  some (r2.1,(r1.2.1.1, !r2.2.1,()),())
def eP:Option ((List (List UInt8))×Unit):=
 some ([[],[98,117,121,101,114],[115,101,108,108,101,114]],())
def iy (a0:(List (List UInt8))×Bool×Unit) (a1:List (List UInt8)):Option (Int×((List (List UInt8))×Bool×Unit)×Unit):=
 Option.bind (eI (a0.1,a0.2.1,())) fun r1=>
 Option.bind (eg a1 r1.1) fun r2=>
 bif r1.2.1.2.1 then
  some (r2.1,(r1.2.1.1,true,()),())
 else
  some (r2.1,(r1.2.1.1,decide (r2.1<1),()),())
def dL:Option ((List (List UInt8))×Unit):=
 some ([[],[97,100,100],[113,117,97,110,116,105,116,121],[100,117,101],[112,114,105,99,101],[121,101,115],[110,111],[111,102,102,101,114],[116,97,107,101],[115,104,105,112],[114,101,99,101,105,118,101],[114,101,116,117,114,110]],())
def fW (a0:List UInt8) (a1:List UInt8):Option (Bool×Unit):=
 bif decide (((List.length a0:Int))>=((List.length a1:Int))) then
  chk (decide (0<=(0:Int))&&decide ((0:Int)<=((List.length a1:Int)))&&decide (((List.length a1:Int))<=(List.length a0:Int))) <|
  some ((List.drop 0 (List.take (Int.toNat ((List.length a1:Int))) a0))==a1,())
 else
  some (false,())
def fU (a0:List UInt8) (a1:List UInt8):Option ((List UInt8)×Bool×Unit):=
 Option.bind (fW a0 a1) fun r1=>
 bif !r1.1 then
  some (a0,false,())
 else
  chk (decide (0<=((List.length a1:Int)))&&decide (((List.length a1:Int))<=((List.length a0:Int)))&&decide (((List.length a0:Int))<=(List.length a0:Int))) <|
  some (List.drop (Int.toNat ((List.length a1:Int))) (List.take (Int.toNat ((List.length a0:Int))) a0),true,())
def iC (a0:List UInt8) (a1:List UInt8):Option ((List UInt8)×Bool×Unit):=
 Option.bind (fU a0 a1) fun r1=>
 some (r1.1,r1.2.1,())
def fB (a0:List UInt8) (a1:List UInt8):Option (Int×Unit):=
 bif ((List.length a1:Int))==0 then
  some (0,())
 else
  bif a1==a0 then
   some (0,())
  else
   bif ((List.length a1:Int))==1 then
    Option.bind (fP a1 0) fun c1=>
    Option.bind (cF a0 (c1.toNat:Int)) fun r2=>
    some (r2.1,())
   else
    bif decide (((List.length a1:Int))>=((List.length a0:Int))) then
     some ((-1),())
    else
     none
def iT (a0:List UInt8) (a1:List UInt8):Option ((List UInt8)×(List UInt8)×Bool×Unit):=
 Option.bind (fB a0 a1) fun r1=>
 bif decide (r1.1>=0) then
  chk (decide (0<=(0:Int))&&decide ((0:Int)<=r1.1)&&decide (r1.1<=(List.length a0:Int))) <|
  chk (decide (0<=(w64 (r1.1+((List.length a1:Int)))))&&decide ((w64 (r1.1+((List.length a1:Int))))<=((List.length a0:Int)))&&decide (((List.length a0:Int))<=(List.length a0:Int))) <|
  some (List.drop 0 (List.take (Int.toNat r1.1) a0),List.drop (Int.toNat (w64 (r1.1+((List.length a1:Int))))) (List.take (Int.toNat ((List.length a0:Int))) a0),true,())
 else
  some (a0,[],false,())
def oZ (a0:List UInt8) (a1:List UInt8):Option ((List UInt8)×(List UInt8)×Bool×Unit):=
 Option.bind (iT a0 a1) fun r1=>
 some (r1.1,r1.2.1,r1.2.2.1,())
def nO (a0:List UInt8):Option (Bool×Unit):=
 Option.bind (
  Option.bind (kG a0) fun r1=>
  bif r1.1 then
   bif ((List.length a0:Int))==1 then
    some (true,())
   else
    Option.bind (fP a0 0) fun c2=>
    some ((c2.toNat:Int) != 48,())
  else
   some (false,())) fun v3=>
 some (v3.1,())
abbrev kE:Type:=Bool×(List UInt8)×(List UInt8)×Int×Int×Int×Int×Bool×(List Int)×Unit
abbrev rX:Type:=((ah×Int×Unit) ⊕ (Bool×(List UInt8)×Int×Int×Bool×(List Int)×Unit))
def nQ (x1:kE) (again:kE->Option rX):Option rX:=
 bif decide (x1.2.2.2.2.1<x1.2.2.2.1) then
  Option.bind (qg 10) fun r2=>
  Option.bind (jR (x1.2.2.2.2.2.2.2.1,x1.2.2.2.2.2.2.2.2.1) r2.1) fun r3=>
  chk (decide (x1.2.1.length+x1.2.2.1.length<=maxLen)) <|
  Option.bind (fP (x1.2.1++x1.2.2.1) x1.2.2.2.2.1) fun c4=>
  Option.bind (qg (w64 (wu8 ((c4.toNat:Int) - 48)))) fun r5=>
  Option.bind (kU r3.1 r5.1) fun r6=>
  again (x1.1,x1.2.1,x1.2.2.1,x1.2.2.2.1,w64 (x1.2.2.2.2.1+1),x1.2.2.2.2.2.1,x1.2.2.2.2.2.2.1,r6.1.1,r6.1.2,())
 else
  some (Sum.inr (x1.1,x1.2.2.1,x1.2.2.2.2.2.1,x1.2.2.2.2.2.2.1,x1.2.2.2.2.2.2.2.1,x1.2.2.2.2.2.2.2.2.1,()))
def sS (a0:Bool) (a1:List UInt8) (a2:List UInt8):Option (ah×Int×Unit):=
 Option.bind (qg 0) fun r1=>
 chk (decide (List.length a1+List.length a2<=maxLen)) <|
 aF (β:=(ah×Int×Unit)) (γ:=(Bool×(List UInt8)×Int×Int×Bool×(List Int)×Unit)) (
  iter (X:=kE) (β:=rX) (List.length a1+(List.length a2+(Int.natAbs ((List.length (a1++a2):Int))+(Int.natAbs (0:Int)+(Int.natAbs (0:Int)+(Int.natAbs (0:Int)+(r1.1.2.length+2))))))) (a0,a1,a2,(List.length (a1++a2):Int),0,0,0,r1.1.1,r1.1.2,()) (nQ)) fun v8=>
 bif v8.1 then
  Option.bind (kV (v8.2.2.2.2.1,v8.2.2.2.2.2.1)) fun r9=>
  bif r9.1==0 then
   some ((0,0),10,())
  else
   Option.bind (jQ (v8.2.2.2.2.1,v8.2.2.2.2.2.1)) fun r10=>
   Option.bind (mj r10.1 ((v8.2.1.length:Int))) fun r11=>
   some (r11.1,r11.2.1,())
 else
  Option.bind (mj (v8.2.2.2.2.1,v8.2.2.2.2.2.1) ((v8.2.1.length:Int))) fun r12=>
  some (r12.1,r12.2.1,())
def mJ (a0:List UInt8):Option (ah×Int×Unit):=
 Option.bind (iC a0 [45]) fun r1=>
 Option.bind (oZ r1.1 [46]) fun r2=>
 Option.bind (
  bif decide (((List.length a0:Int))>40) then
   some (true,())
  else
   Option.bind (nO r2.1) fun r3=>
   bif !r3.1 then
    some (true,())
   else
    bif r2.2.2.1 then
     Option.bind (kG r2.2.1) fun r4=>
     bif !r4.1 then
      some (true,())
     else
      some (decide (((r2.2.1.length:Int))>9),())
    else
     some (false,())) fun v5=>
 bif v5.1 then
  some ((0,0),10,())
 else
  Option.bind (sS r1.2.1 r2.1 r2.2.1) fun r6=>
  some (r6.1,r6.2.1,())
def gE (a0:(List (List UInt8))×Bool×Unit):Option (ah×((List (List UInt8))×Bool×Unit)×Unit):=
 Option.bind (eI (a0.1,a0.2.1,())) fun r1=>
 Option.bind (mJ r1.1) fun r2=>
 bif r1.2.1.2.1 then
  some (r2.1,(r1.2.1.1,true,()),())
 else
  some (r2.1,(r1.2.1.1,r2.2.1 != 0,()),())
def aQ (a0:List UInt8):Option (aa×Bool×Unit):=
 Option.bind (wX a0) fun r1=>
 bif !r1.2.1 then
  some ((0,0,0,0,0,[],(0,0),[],(0,0),0,0),false,())
 else
  Option.bind (dN (r1.1,false,())) fun r2=>
  Option.bind (eP) fun r3=>
  Option.bind (iy (r2.2.1.1,r2.2.1.2.1,()) r3.1) fun r4=>
  Option.bind (dN (r4.2.1.1,r4.2.1.2.1,())) fun r5=>
  Option.bind (dL) fun r6=>
  Option.bind (iy (r5.2.1.1,r5.2.1.2.1,()) r6.1) fun r7=>
  Option.bind (dN (r7.2.1.1,r7.2.1.2.1,())) fun r8=>
  Option.bind (bp r7.1) fun r9=>
  aF (β:=(aa×Bool×Unit)) (γ:=(Int×Int×Int×Int×Int×(List UInt8)×Int×Int×(List UInt8)×Int×Int×Int×Int×Int×Int×Int×Int×Int×(List UInt8)×Int×Int×(List UInt8)×Int×Int×Int×Int×Bool×Bool×Bool×Bool×Bool×Bool×(List (List UInt8))×Bool×Unit)) (
   bif r9.1.1 then
    Option.bind (eI (r8.2.1.1,r8.2.1.2.1,())) fun r10=>
    some (Sum.inr (0,0,0,0,0,[],0,0,[],0,0,0,0,r2.1,r4.1,r5.1,r7.1,r8.1,r10.1,0,0,[],0,0,0,0,r9.1.1,r9.1.2.1,r9.1.2.2.1,r9.1.2.2.2.1,r9.1.2.2.2.2.1,r9.1.2.2.2.2.2,r10.2.1.1,r10.2.1.2.1,()))
   else
    some (Sum.inr (0,0,0,0,0,[],0,0,[],0,0,0,0,r2.1,r4.1,r5.1,r7.1,r8.1,[],0,0,[],0,0,0,0,r9.1.1,r9.1.2.1,r9.1.2.2.1,r9.1.2.2.2.1,r9.1.2.2.2.2.1,r9.1.2.2.2.2.2,r8.2.1.1,r8.2.1.2.1,()))) fun v11=>
  aF (β:=(aa×Bool×Unit)) (γ:=(Int×Int×Int×Int×Int×(List UInt8)×Int×Int×(List UInt8)×Int×Int×Int×Int×Int×Int×Int×Int×Int×(List UInt8)×Int×Int×(List UInt8)×Int×Int×Int×Int×Bool×Bool×Bool×Bool×Bool×Bool×(List (List UInt8))×Bool×Unit)) (
   bif v11.2.2.2.2.2.2.2.2.2.2.2.2.2.2.2.2.2.2.2.2.2.2.2.2.2.2.2.1 then
    Option.bind (gE (v11.2.2.2.2.2.2.2.2.2.2.2.2.2.2.2.2.2.2.2.2.2.2.2.2.2.2.2.2.2.2.2.2.1,v11.2.2.2.2.2.2.2.2.2.2.2.2.2.2.2.2.2.2.2.2.2.2.2.2.2.2.2.2.2.2.2.2.2.1,())) fun r12=>
    some (Sum.inr (v11.1,v11.2.1,v11.2.2.1,v11.2.2.2.1,v11.2.2.2.2.1,v11.2.2.2.2.2.1,v11.2.2.2.2.2.2.1,v11.2.2.2.2.2.2.2.1,v11.2.2.2.2.2.2.2.2.1,v11.2.2.2.2.2.2.2.2.2.1,v11.2.2.2.2.2.2.2.2.2.2.1,v11.2.2.2.2.2.2.2.2.2.2.2.1,v11.2.2.2.2.2.2.2.2.2.2.2.2.1,v11.2.2.2.2.2.2.2.2.2.2.2.2.2.1,v11.2.2.2.2.2.2.2.2.2.2.2.2.2.2.1,v11.2.2.2.2.2.2.2.2.2.2.2.2.2.2.2.1,v11.2.2.2.2.2.2.2.2.2.2.2.2.2.2.2.2.1,v11.2.2.2.2.2.2.2.2.2.2.2.2.2.2.2.2.2.1,v11.2.2.2.2.2.2.2.2.2.2.2.2.2.2.2.2.2.2.1,r12.1.1,r12.1.2,v11.2.2.2.2.2.2.2.2.2.2.2.2.2.2.2.2.2.2.2.2.2.1,v11.2.2.2.2.2.2.2.2.2.2.2.2.2.2.2.2.2.2.2.2.2.2.1,v11.2.2.2.2.2.2.2.2.2.2.2.2.2.2.2.2.2.2.2.2.2.2.2.1,v11.2.2.2.2.2.2.2.2.2.2.2.2.2.2.2.2.2.2.2.2.2.2.2.2.1,v11.2.2.2.2.2.2.2.2.2.2.2.2.2.2.2.2.2.2.2.2.2.2.2.2.2.1,v11.2.2.2.2.2.2.2.2.2.2.2.2.2.2.2.2.2.2.2.2.2.2.2.2.2.2.1,v11.2.2.2.2.2.2.2.2.2.2.2.2.2.2.2.2.2.2.2.2.2.2.2.2.2.2.2.1,v11.2.2.2.2.2.2.2.2.2.2.2.2.2.2.2.2.2.2.2.2.2.2.2.2.2.2.2.2.1,v11.2.2.2.2.2.2.2.2.2.2.2.2.2.2.2.2.2.2.2.2.2.2.2.2.2.2.2.2.2.1,v11.2.2.2.2.2.2.2.2.2.2.2.2.2.2.2.2.2.2.2.2.2.2.2.2.2.2.2.2.2.2.1,v11.2.2.2.2.2.2.2.2.2.2.2.2.2.2.2.2.2.2.2.2.2.2.2.2.2.2.2.2.2.2.2.1,r12.2.1.1,r12.2.1.2.1,()))
   else
    some (Sum.inr (v11.1,v11.2.1,v11.2.2.1,v11.2.2.2.1,v11.2.2.2.2.1,v11.2.2.2.2.2.1,v11.2.2.2.2.2.2.1,v11.2.2.2.2.2.2.2.1,v11.2.2.2.2.2.2.2.2.1,v11.2.2.2.2.2.2.2.2.2.1,v11.2.2.2.2.2.2.2.2.2.2.1,v11.2.2.2.2.2.2.2.2.2.2.2.1,v11.2.2.2.2.2.2.2.2.2.2.2.2.1,v11.2.2.2.2.2.2.2.2.2.2.2.2.2.1,v11.2.2.2.2.2.2.2.2.2.2.2.2.2.2.1,v11.2.2.2.2.2.2.2.2.2.2.2.2.2.2.2.1,v11.2.2.2.2.2.2.2.2.2.2.2.2.2.2.2.2.1,v11.2.2.2.2.2.2.2.2.2.2.2.2.2.2.2.2.2.1,v11.2.2.2.2.2.2.2.2.2.2.2.2.2.2.2.2.2.2.1,v11.2.2.2.2.2.2.2.2.2.2.2.2.2.2.2.2.2.2.2.1,v11.2.2.2.2.2.2.2.2.2.2.2.2.2.2.2.2.2.2.2.2.1,v11.2.2.2.2.2.2.2.2.2.2.2.2.2.2.2.2.2.2.2.2.2.1,v11.2.2.2.2.2.2.2.2.2.2.2.2.2.2.2.2.2.2.2.2.2.2.1,v11.2.2.2.2.2.2.2.2.2.2.2.2.2.2.2.2.2.2.2.2.2.2.2.1,v11.2.2.2.2.2.2.2.2.2.2.2.2.2.2.2.2.2.2.2.2.2.2.2.2.1,v11.2.2.2.2.2.2.2.2.2.2.2.2.2.2.2.2.2.2.2.2.2.2.2.2.2.1,v11.2.2.2.2.2.2.2.2.2.2.2.2.2.2.2.2.2.2.2.2.2.2.2.2.2.2.1,v11.2.2.2.2.2.2.2.2.2.2.2.2.2.2.2.2.2.2.2.2.2.2.2.2.2.2.2.1,v11.2.2.2.2.2.2.2.2.2.2.2.2.2.2.2.2.2.2.2.2.2.2.2.2.2.2.2.2.1,v11.2.2.2.2.2.2.2.2.2.2.2.2.2.2.2.2.2.2.2.2.2.2.2.2.2.2.2.2.2.1,v11.2.2.2.2.2.2.2.2.2.2.2.2.2.2.2.2.2.2.2.2.2.2.2.2.2.2.2.2.2.2.1,v11.2.2.2.2.2.2.2.2.2.2.2.2.2.2.2.2.2.2.2.2.2.2.2.2.2.2.2.2.2.2.2.1,v11.2.2.2.2.2.2.2.2.2.2.2.2.2.2.2.2.2.2.2.2.2.2.2.2.2.2.2.2.2.2.2.2.1,v11.2.2.2.2.2.2.2.2.2.2.2.2.2.2.2.2.2.2.2.2.2.2.2.2.2.2.2.2.2.2.2.2.2.1,()))) fun v13=>
  aF (β:=(aa×Bool×Unit)) (γ:=(Int×Int×Int×Int×Int×(List UInt8)×Int×Int×(List UInt8)×Int×Int×Int×Int×Int×Int×Int×Int×Int×(List UInt8)×Int×Int×(List UInt8)×Int×Int×Int×Int×Bool×Bool×Bool×Bool×Bool×Bool×(List (List UInt8))×Bool×Unit)) (
   bif v13.2.2.2.2.2.2.2.2.2.2.2.2.2.2.2.2.2.2.2.2.2.2.2.2.2.2.2.2.1 then
    Option.bind (eI (v13.2.2.2.2.2.2.2.2.2.2.2.2.2.2.2.2.2.2.2.2.2.2.2.2.2.2.2.2.2.2.2.2.1,v13.2.2.2.2.2.2.2.2.2.2.2.2.2.2.2.2.2.2.2.2.2.2.2.2.2.2.2.2.2.2.2.2.2.1,())) fun r14=>
    some (Sum.inr (v13.1,v13.2.1,v13.2.2.1,v13.2.2.2.1,v13.2.2.2.2.1,v13.2.2.2.2.2.1,v13.2.2.2.2.2.2.1,v13.2.2.2.2.2.2.2.1,v13.2.2.2.2.2.2.2.2.1,v13.2.2.2.2.2.2.2.2.2.1,v13.2.2.2.2.2.2.2.2.2.2.1,v13.2.2.2.2.2.2.2.2.2.2.2.1,v13.2.2.2.2.2.2.2.2.2.2.2.2.1,v13.2.2.2.2.2.2.2.2.2.2.2.2.2.1,v13.2.2.2.2.2.2.2.2.2.2.2.2.2.2.1,v13.2.2.2.2.2.2.2.2.2.2.2.2.2.2.2.1,v13.2.2.2.2.2.2.2.2.2.2.2.2.2.2.2.2.1,v13.2.2.2.2.2.2.2.2.2.2.2.2.2.2.2.2.2.1,v13.2.2.2.2.2.2.2.2.2.2.2.2.2.2.2.2.2.2.1,v13.2.2.2.2.2.2.2.2.2.2.2.2.2.2.2.2.2.2.2.1,v13.2.2.2.2.2.2.2.2.2.2.2.2.2.2.2.2.2.2.2.2.1,r14.1,v13.2.2.2.2.2.2.2.2.2.2.2.2.2.2.2.2.2.2.2.2.2.2.1,v13.2.2.2.2.2.2.2.2.2.2.2.2.2.2.2.2.2.2.2.2.2.2.2.1,v13.2.2.2.2.2.2.2.2.2.2.2.2.2.2.2.2.2.2.2.2.2.2.2.2.1,v13.2.2.2.2.2.2.2.2.2.2.2.2.2.2.2.2.2.2.2.2.2.2.2.2.2.1,v13.2.2.2.2.2.2.2.2.2.2.2.2.2.2.2.2.2.2.2.2.2.2.2.2.2.2.1,v13.2.2.2.2.2.2.2.2.2.2.2.2.2.2.2.2.2.2.2.2.2.2.2.2.2.2.2.1,v13.2.2.2.2.2.2.2.2.2.2.2.2.2.2.2.2.2.2.2.2.2.2.2.2.2.2.2.2.1,v13.2.2.2.2.2.2.2.2.2.2.2.2.2.2.2.2.2.2.2.2.2.2.2.2.2.2.2.2.2.1,v13.2.2.2.2.2.2.2.2.2.2.2.2.2.2.2.2.2.2.2.2.2.2.2.2.2.2.2.2.2.2.1,v13.2.2.2.2.2.2.2.2.2.2.2.2.2.2.2.2.2.2.2.2.2.2.2.2.2.2.2.2.2.2.2.1,r14.2.1.1,r14.2.1.2.1,()))
   else
    some (Sum.inr (v13.1,v13.2.1,v13.2.2.1,v13.2.2.2.1,v13.2.2.2.2.1,v13.2.2.2.2.2.1,v13.2.2.2.2.2.2.1,v13.2.2.2.2.2.2.2.1,v13.2.2.2.2.2.2.2.2.1,v13.2.2.2.2.2.2.2.2.2.1,v13.2.2.2.2.2.2.2.2.2.2.1,v13.2.2.2.2.2.2.2.2.2.2.2.1,v13.2.2.2.2.2.2.2.2.2.2.2.2.1,v13.2.2.2.2.2.2.2.2.2.2.2.2.2.1,v13.2.2.2.2.2.2.2.2.2.2.2.2.2.2.1,v13.2.2.2.2.2.2.2.2.2.2.2.2.2.2.2.1,v13.2.2.2.2.2.2.2.2.2.2.2.2.2.2.2.2.1,v13.2.2.2.2.2.2.2.2.2.2.2.2.2.2.2.2.2.1,v13.2.2.2.2.2.2.2.2.2.2.2.2.2.2.2.2.2.2.1,v13.2.2.2.2.2.2.2.2.2.2.2.2.2.2.2.2.2.2.2.1,v13.2.2.2.2.2.2.2.2.2.2.2.2.2.2.2.2.2.2.2.2.1,v13.2.2.2.2.2.2.2.2.2.2.2.2.2.2.2.2.2.2.2.2.2.1,v13.2.2.2.2.2.2.2.2.2.2.2.2.2.2.2.2.2.2.2.2.2.2.1,v13.2.2.2.2.2.2.2.2.2.2.2.2.2.2.2.2.2.2.2.2.2.2.2.1,v13.2.2.2.2.2.2.2.2.2.2.2.2.2.2.2.2.2.2.2.2.2.2.2.2.1,v13.2.2.2.2.2.2.2.2.2.2.2.2.2.2.2.2.2.2.2.2.2.2.2.2.2.1,v13.2.2.2.2.2.2.2.2.2.2.2.2.2.2.2.2.2.2.2.2.2.2.2.2.2.2.1,v13.2.2.2.2.2.2.2.2.2.2.2.2.2.2.2.2.2.2.2.2.2.2.2.2.2.2.2.1,v13.2.2.2.2.2.2.2.2.2.2.2.2.2.2.2.2.2.2.2.2.2.2.2.2.2.2.2.2.1,v13.2.2.2.2.2.2.2.2.2.2.2.2.2.2.2.2.2.2.2.2.2.2.2.2.2.2.2.2.2.1,v13.2.2.2.2.2.2.2.2.2.2.2.2.2.2.2.2.2.2.2.2.2.2.2.2.2.2.2.2.2.2.1,v13.2.2.2.2.2.2.2.2.2.2.2.2.2.2.2.2.2.2.2.2.2.2.2.2.2.2.2.2.2.2.2.1,v13.2.2.2.2.2.2.2.2.2.2.2.2.2.2.2.2.2.2.2.2.2.2.2.2.2.2.2.2.2.2.2.2.1,v13.2.2.2.2.2.2.2.2.2.2.2.2.2.2.2.2.2.2.2.2.2.2.2.2.2.2.2.2.2.2.2.2.2.1,()))) fun v15=>
  aF (β:=(aa×Bool×Unit)) (γ:=(Int×Int×Int×Int×Int×(List UInt8)×Int×Int×(List UInt8)×Int×Int×Int×Int×Int×Int×Int×Int×Int×(List UInt8)×Int×Int×(List UInt8)×Int×Int×Int×Int×Bool×Bool×Bool×Bool×Bool×Bool×(List (List UInt8))×Bool×Unit)) (
   bif v15.2.2.2.2.2.2.2.2.2.2.2.2.2.2.2.2.2.2.2.2.2.2.2.2.2.2.2.2.2.1 then
    Option.bind (gE (v15.2.2.2.2.2.2.2.2.2.2.2.2.2.2.2.2.2.2.2.2.2.2.2.2.2.2.2.2.2.2.2.2.1,v15.2.2.2.2.2.2.2.2.2.2.2.2.2.2.2.2.2.2.2.2.2.2.2.2.2.2.2.2.2.2.2.2.2.1,())) fun r16=>
    some (Sum.inr (v15.1,v15.2.1,v15.2.2.1,v15.2.2.2.1,v15.2.2.2.2.1,v15.2.2.2.2.2.1,v15.2.2.2.2.2.2.1,v15.2.2.2.2.2.2.2.1,v15.2.2.2.2.2.2.2.2.1,v15.2.2.2.2.2.2.2.2.2.1,v15.2.2.2.2.2.2.2.2.2.2.1,v15.2.2.2.2.2.2.2.2.2.2.2.1,v15.2.2.2.2.2.2.2.2.2.2.2.2.1,v15.2.2.2.2.2.2.2.2.2.2.2.2.2.1,v15.2.2.2.2.2.2.2.2.2.2.2.2.2.2.1,v15.2.2.2.2.2.2.2.2.2.2.2.2.2.2.2.1,v15.2.2.2.2.2.2.2.2.2.2.2.2.2.2.2.2.1,v15.2.2.2.2.2.2.2.2.2.2.2.2.2.2.2.2.2.1,v15.2.2.2.2.2.2.2.2.2.2.2.2.2.2.2.2.2.2.1,v15.2.2.2.2.2.2.2.2.2.2.2.2.2.2.2.2.2.2.2.1,v15.2.2.2.2.2.2.2.2.2.2.2.2.2.2.2.2.2.2.2.2.1,v15.2.2.2.2.2.2.2.2.2.2.2.2.2.2.2.2.2.2.2.2.2.1,r16.1.1,r16.1.2,v15.2.2.2.2.2.2.2.2.2.2.2.2.2.2.2.2.2.2.2.2.2.2.2.2.1,v15.2.2.2.2.2.2.2.2.2.2.2.2.2.2.2.2.2.2.2.2.2.2.2.2.2.1,v15.2.2.2.2.2.2.2.2.2.2.2.2.2.2.2.2.2.2.2.2.2.2.2.2.2.2.1,v15.2.2.2.2.2.2.2.2.2.2.2.2.2.2.2.2.2.2.2.2.2.2.2.2.2.2.2.1,v15.2.2.2.2.2.2.2.2.2.2.2.2.2.2.2.2.2.2.2.2.2.2.2.2.2.2.2.2.1,v15.2.2.2.2.2.2.2.2.2.2.2.2.2.2.2.2.2.2.2.2.2.2.2.2.2.2.2.2.2.1,v15.2.2.2.2.2.2.2.2.2.2.2.2.2.2.2.2.2.2.2.2.2.2.2.2.2.2.2.2.2.2.1,v15.2.2.2.2.2.2.2.2.2.2.2.2.2.2.2.2.2.2.2.2.2.2.2.2.2.2.2.2.2.2.2.1,r16.2.1.1,r16.2.1.2.1,()))
   else
    some (Sum.inr (v15.1,v15.2.1,v15.2.2.1,v15.2.2.2.1,v15.2.2.2.2.1,v15.2.2.2.2.2.1,v15.2.2.2.2.2.2.1,v15.2.2.2.2.2.2.2.1,v15.2.2.2.2.2.2.2.2.1,v15.2.2.2.2.2.2.2.2.2.1,v15.2.2.2.2.2.2.2.2.2.2.1,v15.2.2.2.2.2.2.2.2.2.2.2.1,v15.2.2.2.2.2.2.2.2.2.2.2.2.1,v15.2.2.2.2.2.2.2.2.2.2.2.2.2.1,v15.2.2.2.2.2.2.2.2.2.2.2.2.2.2.1,v15.2.2.2.2.2.2.2.2.2.2.2.2.2.2.2.1,v15.2.2.2.2.2.2.2.2.2.2.2.2.2.2.2.2.1,v15.2.2.2.2.2.2.2.2.2.2.2.2.2.2.2.2.2.1,v15.2.2.2.2.2.2.2.2.2.2.2.2.2.2.2.2.2.2.1,v15.2.2.2.2.2.2.2.2.2.2.2.2.2.2.2.2.2.2.2.1,v15.2.2.2.2.2.2.2.2.2.2.2.2.2.2.2.2.2.2.2.2.1,v15.2.2.2.2.2.2.2.2.2.2.2.2.2.2.2.2.2.2.2.2.2.1,v15.2.2.2.2.2.2.2.2.2.2.2.2.2.2.2.2.2.2.2.2.2.2.1,v15.2.2.2.2.2.2.2.2.2.2.2.2.2.2.2.2.2.2.2.2.2.2.2.1,v15.2.2.2.2.2.2.2.2.2.2.2.2.2.2.2.2.2.2.2.2.2.2.2.2.1,v15.2.2.2.2.2.2.2.2.2.2.2.2.2.2.2.2.2.2.2.2.2.2.2.2.2.1,v15.2.2.2.2.2.2.2.2.2.2.2.2.2.2.2.2.2.2.2.2.2.2.2.2.2.2.1,v15.2.2.2.2.2.2.2.2.2.2.2.2.2.2.2.2.2.2.2.2.2.2.2.2.2.2.2.1,v15.2.2.2.2.2.2.2.2.2.2.2.2.2.2.2.2.2.2.2.2.2.2.2.2.2.2.2.2.1,v15.2.2.2.2.2.2.2.2.2.2.2.2.2.2.2.2.2.2.2.2.2.2.2.2.2.2.2.2.2.1,v15.2.2.2.2.2.2.2.2.2.2.2.2.2.2.2.2.2.2.2.2.2.2.2.2.2.2.2.2.2.2.1,v15.2.2.2.2.2.2.2.2.2.2.2.2.2.2.2.2.2.2.2.2.2.2.2.2.2.2.2.2.2.2.2.1,v15.2.2.2.2.2.2.2.2.2.2.2.2.2.2.2.2.2.2.2.2.2.2.2.2.2.2.2.2.2.2.2.2.1,v15.2.2.2.2.2.2.2.2.2.2.2.2.2.2.2.2.2.2.2.2.2.2.2.2.2.2.2.2.2.2.2.2.2.1,()))) fun v17=>
  aF (β:=(aa×Bool×Unit)) (γ:=(Int×Int×Int×Int×Int×(List UInt8)×Int×Int×(List UInt8)×Int×Int×Int×Int×Int×Int×Int×Int×Int×(List UInt8)×Int×Int×(List UInt8)×Int×Int×Int×Int×Bool×Bool×Bool×Bool×Bool×Bool×(List (List UInt8))×Bool×Unit)) (
   bif v17.2.2.2.2.2.2.2.2.2.2.2.2.2.2.2.2.2.2.2.2.2.2.2.2.2.2.2.2.2.2.1 then
    Option.bind (dN (v17.2.2.2.2.2.2.2.2.2.2.2.2.2.2.2.2.2.2.2.2.2.2.2.2.2.2.2.2.2.2.2.2.1,v17.2.2.2.2.2.2.2.2.2.2.2.2.2.2.2.2.2.2.2.2.2.2.2.2.2.2.2.2.2.2.2.2.2.1,())) fun r18=>
    some (Sum.inr (v17.1,v17.2.1,v17.2.2.1,v17.2.2.2.1,v17.2.2.2.2.1,v17.2.2.2.2.2.1,v17.2.2.2.2.2.2.1,v17.2.2.2.2.2.2.2.1,v17.2.2.2.2.2.2.2.2.1,v17.2.2.2.2.2.2.2.2.2.1,v17.2.2.2.2.2.2.2.2.2.2.1,v17.2.2.2.2.2.2.2.2.2.2.2.1,v17.2.2.2.2.2.2.2.2.2.2.2.2.1,v17.2.2.2.2.2.2.2.2.2.2.2.2.2.1,v17.2.2.2.2.2.2.2.2.2.2.2.2.2.2.1,v17.2.2.2.2.2.2.2.2.2.2.2.2.2.2.2.1,v17.2.2.2.2.2.2.2.2.2.2.2.2.2.2.2.2.1,v17.2.2.2.2.2.2.2.2.2.2.2.2.2.2.2.2.2.1,v17.2.2.2.2.2.2.2.2.2.2.2.2.2.2.2.2.2.2.1,v17.2.2.2.2.2.2.2.2.2.2.2.2.2.2.2.2.2.2.2.1,v17.2.2.2.2.2.2.2.2.2.2.2.2.2.2.2.2.2.2.2.2.1,v17.2.2.2.2.2.2.2.2.2.2.2.2.2.2.2.2.2.2.2.2.2.1,v17.2.2.2.2.2.2.2.2.2.2.2.2.2.2.2.2.2.2.2.2.2.2.1,v17.2.2.2.2.2.2.2.2.2.2.2.2.2.2.2.2.2.2.2.2.2.2.2.1,r18.1,v17.2.2.2.2.2.2.2.2.2.2.2.2.2.2.2.2.2.2.2.2.2.2.2.2.2.1,v17.2.2.2.2.2.2.2.2.2.2.2.2.2.2.2.2.2.2.2.2.2.2.2.2.2.2.1,v17.2.2.2.2.2.2.2.2.2.2.2.2.2.2.2.2.2.2.2.2.2.2.2.2.2.2.2.1,v17.2.2.2.2.2.2.2.2.2.2.2.2.2.2.2.2.2.2.2.2.2.2.2.2.2.2.2.2.1,v17.2.2.2.2.2.2.2.2.2.2.2.2.2.2.2.2.2.2.2.2.2.2.2.2.2.2.2.2.2.1,v17.2.2.2.2.2.2.2.2.2.2.2.2.2.2.2.2.2.2.2.2.2.2.2.2.2.2.2.2.2.2.1,v17.2.2.2.2.2.2.2.2.2.2.2.2.2.2.2.2.2.2.2.2.2.2.2.2.2.2.2.2.2.2.2.1,r18.2.1.1,r18.2.1.2.1,()))
   else
    some (Sum.inr (v17.1,v17.2.1,v17.2.2.1,v17.2.2.2.1,v17.2.2.2.2.1,v17.2.2.2.2.2.1,v17.2.2.2.2.2.2.1,v17.2.2.2.2.2.2.2.1,v17.2.2.2.2.2.2.2.2.1,v17.2.2.2.2.2.2.2.2.2.1,v17.2.2.2.2.2.2.2.2.2.2.1,v17.2.2.2.2.2.2.2.2.2.2.2.1,v17.2.2.2.2.2.2.2.2.2.2.2.2.1,v17.2.2.2.2.2.2.2.2.2.2.2.2.2.1,v17.2.2.2.2.2.2.2.2.2.2.2.2.2.2.1,v17.2.2.2.2.2.2.2.2.2.2.2.2.2.2.2.1,v17.2.2.2.2.2.2.2.2.2.2.2.2.2.2.2.2.1,v17.2.2.2.2.2.2.2.2.2.2.2.2.2.2.2.2.2.1,v17.2.2.2.2.2.2.2.2.2.2.2.2.2.2.2.2.2.2.1,v17.2.2.2.2.2.2.2.2.2.2.2.2.2.2.2.2.2.2.2.1,v17.2.2.2.2.2.2.2.2.2.2.2.2.2.2.2.2.2.2.2.2.1,v17.2.2.2.2.2.2.2.2.2.2.2.2.2.2.2.2.2.2.2.2.2.1,v17.2.2.2.2.2.2.2.2.2.2.2.2.2.2.2.2.2.2.2.2.2.2.1,v17.2.2.2.2.2.2.2.2.2.2.2.2.2.2.2.2.2.2.2.2.2.2.2.1,v17.2.2.2.2.2.2.2.2.2.2.2.2.2.2.2.2.2.2.2.2.2.2.2.2.1,v17.2.2.2.2.2.2.2.2.2.2.2.2.2.2.2.2.2.2.2.2.2.2.2.2.2.1,v17.2.2.2.2.2.2.2.2.2.2.2.2.2.2.2.2.2.2.2.2.2.2.2.2.2.2.1,v17.2.2.2.2.2.2.2.2.2.2.2.2.2.2.2.2.2.2.2.2.2.2.2.2.2.2.2.1,v17.2.2.2.2.2.2.2.2.2.2.2.2.2.2.2.2.2.2.2.2.2.2.2.2.2.2.2.2.1,v17.2.2.2.2.2.2.2.2.2.2.2.2.2.2.2.2.2.2.2.2.2.2.2.2.2.2.2.2.2.1,v17.2.2.2.2.2.2.2.2.2.2.2.2.2.2.2.2.2.2.2.2.2.2.2.2.2.2.2.2.2.2.1,v17.2.2.2.2.2.2.2.2.2.2.2.2.2.2.2.2.2.2.2.2.2.2.2.2.2.2.2.2.2.2.2.1,v17.2.2.2.2.2.2.2.2.2.2.2.2.2.2.2.2.2.2.2.2.2.2.2.2.2.2.2.2.2.2.2.2.1,v17.2.2.2.2.2.2.2.2.2.2.2.2.2.2.2.2.2.2.2.2.2.2.2.2.2.2.2.2.2.2.2.2.2.1,()))) fun v19=>
  aF (β:=(aa×Bool×Unit)) (γ:=(Int×Int×Int×Int×Int×(List UInt8)×Int×Int×(List UInt8)×Int×Int×Int×Int×Int×Int×Int×Int×Int×(List UInt8)×Int×Int×(List UInt8)×Int×Int×Int×Int×(List (List UInt8))×Bool×Unit)) (
   bif v19.2.2.2.2.2.2.2.2.2.2.2.2.2.2.2.2.2.2.2.2.2.2.2.2.2.2.2.2.2.2.2.1 then
    Option.bind (dN (v19.2.2.2.2.2.2.2.2.2.2.2.2.2.2.2.2.2.2.2.2.2.2.2.2.2.2.2.2.2.2.2.2.1,v19.2.2.2.2.2.2.2.2.2.2.2.2.2.2.2.2.2.2.2.2.2.2.2.2.2.2.2.2.2.2.2.2.2.1,())) fun r20=>
    some (Sum.inr (v19.1,v19.2.1,v19.2.2.1,v19.2.2.2.1,v19.2.2.2.2.1,v19.2.2.2.2.2.1,v19.2.2.2.2.2.2.1,v19.2.2.2.2.2.2.2.1,v19.2.2.2.2.2.2.2.2.1,v19.2.2.2.2.2.2.2.2.2.1,v19.2.2.2.2.2.2.2.2.2.2.1,v19.2.2.2.2.2.2.2.2.2.2.2.1,v19.2.2.2.2.2.2.2.2.2.2.2.2.1,v19.2.2.2.2.2.2.2.2.2.2.2.2.2.1,v19.2.2.2.2.2.2.2.2.2.2.2.2.2.2.1,v19.2.2.2.2.2.2.2.2.2.2.2.2.2.2.2.1,v19.2.2.2.2.2.2.2.2.2.2.2.2.2.2.2.2.1,v19.2.2.2.2.2.2.2.2.2.2.2.2.2.2.2.2.2.1,v19.2.2.2.2.2.2.2.2.2.2.2.2.2.2.2.2.2.2.1,v19.2.2.2.2.2.2.2.2.2.2.2.2.2.2.2.2.2.2.2.1,v19.2.2.2.2.2.2.2.2.2.2.2.2.2.2.2.2.2.2.2.2.1,v19.2.2.2.2.2.2.2.2.2.2.2.2.2.2.2.2.2.2.2.2.2.1,v19.2.2.2.2.2.2.2.2.2.2.2.2.2.2.2.2.2.2.2.2.2.2.1,v19.2.2.2.2.2.2.2.2.2.2.2.2.2.2.2.2.2.2.2.2.2.2.2.1,v19.2.2.2.2.2.2.2.2.2.2.2.2.2.2.2.2.2.2.2.2.2.2.2.2.1,r20.1,r20.2.1.1,r20.2.1.2.1,()))
   else
    some (Sum.inr (v19.1,v19.2.1,v19.2.2.1,v19.2.2.2.1,v19.2.2.2.2.1,v19.2.2.2.2.2.1,v19.2.2.2.2.2.2.1,v19.2.2.2.2.2.2.2.1,v19.2.2.2.2.2.2.2.2.1,v19.2.2.2.2.2.2.2.2.2.1,v19.2.2.2.2.2.2.2.2.2.2.1,v19.2.2.2.2.2.2.2.2.2.2.2.1,v19.2.2.2.2.2.2.2.2.2.2.2.2.1,v19.2.2.2.2.2.2.2.2.2.2.2.2.2.1,v19.2.2.2.2.2.2.2.2.2.2.2.2.2.2.1,v19.2.2.2.2.2.2.2.2.2.2.2.2.2.2.2.1,v19.2.2.2.2.2.2.2.2.2.2.2.2.2.2.2.2.1,v19.2.2.2.2.2.2.2.2.2.2.2.2.2.2.2.2.2.1,v19.2.2.2.2.2.2.2.2.2.2.2.2.2.2.2.2.2.2.1,v19.2.2.2.2.2.2.2.2.2.2.2.2.2.2.2.2.2.2.2.1,v19.2.2.2.2.2.2.2.2.2.2.2.2.2.2.2.2.2.2.2.2.1,v19.2.2.2.2.2.2.2.2.2.2.2.2.2.2.2.2.2.2.2.2.2.1,v19.2.2.2.2.2.2.2.2.2.2.2.2.2.2.2.2.2.2.2.2.2.2.1,v19.2.2.2.2.2.2.2.2.2.2.2.2.2.2.2.2.2.2.2.2.2.2.2.1,v19.2.2.2.2.2.2.2.2.2.2.2.2.2.2.2.2.2.2.2.2.2.2.2.2.1,v19.2.2.2.2.2.2.2.2.2.2.2.2.2.2.2.2.2.2.2.2.2.2.2.2.2.1,v19.2.2.2.2.2.2.2.2.2.2.2.2.2.2.2.2.2.2.2.2.2.2.2.2.2.2.2.2.2.2.2.2.1,v19.2.2.2.2.2.2.2.2.2.2.2.2.2.2.2.2.2.2.2.2.2.2.2.2.2.2.2.2.2.2.2.2.2.1,()))) fun v21=>
  bif !v21.2.2.2.2.2.2.2.2.2.2.2.2.2.2.2.2.2.2.2.2.2.2.2.2.2.2.2.1 then
   some ((v21.2.2.2.2.2.2.2.2.2.2.2.2.2.1,v21.2.2.2.2.2.2.2.2.2.2.2.2.2.2.1,v21.2.2.2.2.2.2.2.2.2.2.2.2.2.2.2.1,v21.2.2.2.2.2.2.2.2.2.2.2.2.2.2.2.2.1,v21.2.2.2.2.2.2.2.2.2.2.2.2.2.2.2.2.2.1,v21.2.2.2.2.2.2.2.2.2.2.2.2.2.2.2.2.2.2.1,(v21.2.2.2.2.2.2.2.2.2.2.2.2.2.2.2.2.2.2.2.1,v21.2.2.2.2.2.2.2.2.2.2.2.2.2.2.2.2.2.2.2.2.1),v21.2.2.2.2.2.2.2.2.2.2.2.2.2.2.2.2.2.2.2.2.2.1,(v21.2.2.2.2.2.2.2.2.2.2.2.2.2.2.2.2.2.2.2.2.2.2.1,v21.2.2.2.2.2.2.2.2.2.2.2.2.2.2.2.2.2.2.2.2.2.2.2.1),v21.2.2.2.2.2.2.2.2.2.2.2.2.2.2.2.2.2.2.2.2.2.2.2.2.1,v21.2.2.2.2.2.2.2.2.2.2.2.2.2.2.2.2.2.2.2.2.2.2.2.2.2.1),((v21.2.2.2.2.2.2.2.2.2.2.2.2.2.2.2.2.2.2.2.2.2.2.2.2.2.2.1.length:Int))==0,())
  else
   some ((v21.2.2.2.2.2.2.2.2.2.2.2.2.2.1,v21.2.2.2.2.2.2.2.2.2.2.2.2.2.2.1,v21.2.2.2.2.2.2.2.2.2.2.2.2.2.2.2.1,v21.2.2.2.2.2.2.2.2.2.2.2.2.2.2.2.2.1,v21.2.2.2.2.2.2.2.2.2.2.2.2.2.2.2.2.2.1,v21.2.2.2.2.2.2.2.2.2.2.2.2.2.2.2.2.2.2.1,(v21.2.2.2.2.2.2.2.2.2.2.2.2.2.2.2.2.2.2.2.1,v21.2.2.2.2.2.2.2.2.2.2.2.2.2.2.2.2.2.2.2.2.1),v21.2.2.2.2.2.2.2.2.2.2.2.2.2.2.2.2.2.2.2.2.2.1,(v21.2.2.2.2.2.2.2.2.2.2.2.2.2.2.2.2.2.2.2.2.2.2.1,v21.2.2.2.2.2.2.2.2.2.2.2.2.2.2.2.2.2.2.2.2.2.2.2.1),v21.2.2.2.2.2.2.2.2.2.2.2.2.2.2.2.2.2.2.2.2.2.2.2.2.1,v21.2.2.2.2.2.2.2.2.2.2.2.2.2.2.2.2.2.2.2.2.2.2.2.2.2.1),false,())
abbrev l8:Type:=(List (List UInt8))×Bool×(List aa)×(List (List UInt8))×Int×Int×Unit
abbrev uA:Type:=(((List aa)×Int×Int×Unit) ⊕ ((List aa)×Unit))
def pn (x1:l8) (again:l8->Option uA):Option uA:=
 bif decide (x1.2.2.2.2.2.1<x1.2.2.2.2.1) then
  Option.bind (idx x1.2.2.2.1 x1.2.2.2.2.2.1) fun y2=>
  Option.bind (aQ y2) fun r3=>
  Option.bind (
   bif !r3.2.1 then
    some (true,())
   else
    bif !x1.2.1 then
     some (x1.2.2.2.2.2.1==(w64 (((x1.1.length:Int)) - 1)),())
    else
     some (false,())) fun v4=>
  bif v4.1 then
   some (Sum.inl ([],w64 (x1.2.2.2.2.2.1+1),10,()))
  else
   chk (decide (((x1.2.2.1.length)+1)*120<=140737488355328)&&decide ((x1.2.2.1.length)+1<=maxLen)) <|
   again (x1.1,x1.2.1,x1.2.2.1++[r3.1],x1.2.2.2.1,x1.2.2.2.2.1,w64 (x1.2.2.2.2.2.1+1),())
 else
  some (Sum.inr (x1.2.2.1,()))
def qY (a0:List UInt8):Option ((List aa)×Int×Int×Unit):=
 bif decide (((List.length a0:Int))>200000) then
  some ([],0,2,())
 else
  Option.bind (wW a0) fun r1=>
  aF (β:=((List aa)×Int×Int×Unit)) (γ:=((List aa)×Unit)) (
   iter (X:=l8) (β:=uA) (r1.1.length+(List.length ([]:List aa)+(r1.1.length+(Int.natAbs ((r1.1.length:Int))+(Int.natAbs (0:Int)+2))))) (r1.1,r1.2.1,[],r1.1,(r1.1.length:Int),0,()) (pn)) fun v6=>
  Option.bind (eH v6.1) fun r7=>
  bif r7.1 != 0 then
   some ([],0,r7.1,())
  else
   some (v6.1,0,0,())
def EX:Option (Bool×Unit):=
 Option.bind (qY [53,32,98,117,121,101,114,32,49,32,100,117,101,32,50,32,55,10]) fun r1=>
 Option.bind (
  bif r1.2.2.1==0 then
   bif r1.2.1==0 then
    bif ((r1.1.length:Int))==1 then
     chk (decide (0<=(0:Int))&&decide ((0:Int)<(r1.1.length:Int))) <|
     Option.bind (r1.1[0]?) fun y2=>
     some (y2.2.2.2.2.2.2.2.2.2.1==7,())
    else
     some (false,())
   else
    some (false,())
  else
   some (false,())) fun v3=>
 some (v3.1,())
abbrev eK:Type:=(List aa)×(List aa)×Int×Int×Unit
abbrev gm:Type:=((Bool×Unit) ⊕ Unit)
def gk (x1:eK) (again:eK->Option gm):Option gm:=
 bif decide (x1.2.2.2.1<x1.2.2.1) then
  Option.bind (idx x1.1 x1.2.2.2.1) fun y2=>
  Option.bind (idx x1.2.1 x1.2.2.2.1) fun y3=>
  bif !((y2.1==y3.1)&&((y2.2.1==y3.2.1)&&((y2.2.2.1==y3.2.2.1)&&((y2.2.2.2.1==y3.2.2.2.1)&&((y2.2.2.2.2.1==y3.2.2.2.2.1)&&((y2.2.2.2.2.2.1==y3.2.2.2.2.2.1)&&(((y2.2.2.2.2.2.2.1.1==y3.2.2.2.2.2.2.1.1)&&((y2.2.2.2.2.2.2.1.2==y3.2.2.2.2.2.2.1.2)&&true))&&((y2.2.2.2.2.2.2.2.1==y3.2.2.2.2.2.2.2.1)&&(((y2.2.2.2.2.2.2.2.2.1.1==y3.2.2.2.2.2.2.2.2.1.1)&&((y2.2.2.2.2.2.2.2.2.1.2==y3.2.2.2.2.2.2.2.2.1.2)&&true))&&((y2.2.2.2.2.2.2.2.2.2.1==y3.2.2.2.2.2.2.2.2.2.1)&&((y2.2.2.2.2.2.2.2.2.2.2==y3.2.2.2.2.2.2.2.2.2.2)&&true))))))))))) then
   some (Sum.inl (false,()))
  else
   again (x1.1,x1.2.1,x1.2.2.1,w64 (x1.2.2.2.1+1),())
 else
  some (Sum.inr ())
def ij (a0:List aa) (a1:List aa):Option (Bool×Unit):=
 bif ((List.length a0:Int)) != ((List.length a1:Int)) then
  some (false,())
 else
  aF (β:=(Bool×Unit)) (γ:=Unit) (
   iter (X:=eK) (β:=gm) (List.length a0+(List.length a1+(Int.natAbs ((List.length a0:Int))+(Int.natAbs (0:Int)+2)))) (a0,a1,(List.length a0:Int),0,()) (gk)) fun _=>
  some (true,())
def ld (a0:Int) (a1:Int) (a2:Int):Option (Bool×Unit):=
 Option.bind (
  bif decide (a1<=a0) then
   some (decide (a0<=a2),())
  else
   some (false,())) fun v1=>
 some (v1.1,())
def tw (a0:Int):Option (Bool×Unit):=
 Option.bind (ld a0 1 4) fun r1=>
 bif r1.1 then
  some (true,())
 else
  bif a0==8 then
   some (true,())
  else
   bif a0==10 then
    some (true,())
   else
    some (a0==11,())
def cA (a0:Int):Option (oz×Unit):=
 bif a0==1 then
  some ((true,true,true,true,false),())
 else
  aF (β:=(oz×Unit)) (γ:=(Int×Bool×Bool×Bool×Bool×Bool×Bool×Unit)) (
   bif a0==2 then
    some (Sum.inr (a0,a0==2,false,false,false,false,false,()))
   else
    bif a0==9 then
     some (Sum.inr (a0,a0==9,false,false,false,false,false,()))
    else
     bif a0==10 then
      some (Sum.inr (a0,a0==10,false,false,false,false,false,()))
     else
      some (Sum.inr (a0,a0==11,false,false,false,false,false,()))) fun v1=>
  bif v1.2.1 then
   some ((true,false,false,false,false),())
  else
   bif v1.1==3 then
    some ((false,false,true,false,false),())
   else
    bif v1.1==4 then
     some ((false,true,false,false,false),())
    else
     bif v1.1==7 then
      some ((true,false,true,false,false),())
     else
      some ((false,false,false,false,true),())
def sI (a0:Int):Option (ah×Unit):=
 some ((a0,0),())
def Cz (a0:ah) (a1:ah):Option (Int×Unit):=
 Option.bind (Ag a0 9) fun r1=>
 Option.bind (Ag a1 9) fun r2=>
 Option.bind (Cw r1.1 r2.1) fun r3=>
 some (r3.1,())
def lN (a0:ah) (a1:Bool):Option (Int×Unit):=
 Option.bind (
  Option.bind (gh a0) fun r1=>
  bif r1.1 != 0 then
   some (true,())
  else
   bif decide (a0.1<0) then
    some (true,())
   else
    bif a0.1==0 then
     bif !a1 then
      some (true,())
     else
      Option.bind (sI 1000000000) fun r2=>
      Option.bind (Cz a0 r2.1) fun r3=>
      bif decide (r3.1>0) then
       some (true,())
      else
       some (decide (a0.2>3),())
    else
     Option.bind (sI 1000000000) fun r4=>
     Option.bind (Cz a0 r4.1) fun r5=>
     bif decide (r5.1>0) then
      some (true,())
     else
      some (decide (a0.2>3),())) fun v6=>
 bif v6.1 then
  some (1,())
 else
  some (0,())
def pJ (a0:ah):Option (Int×Unit):=
 Option.bind (gh a0) fun r1=>
 bif r1.1 != 0 then
  some (1,())
 else
  bif decide (a0.1<0) then
   some (1,())
  else
   Option.bind (sI 1000000000) fun r2=>
   Option.bind (Cz a0 r2.1) fun r3=>
   bif decide (r3.1>0) then
    some (1,())
   else
    bif decide (a0.2>4) then
     some (1,())
    else
     some (0,())
def oe (a0:aa):Option (Int×Unit):=
 Option.bind (cA a0.2.2.2.1) fun r1=>
 Option.bind (
  bif r1.1.1 then
   Option.bind (lN a0.2.2.2.2.2.2.1 (a0.2.2.2.1==2)) fun r2=>
   some (r2.1 != 0,())
  else
   some (false,())) fun v3=>
 bif v3.1 then
  some (1,())
 else
  Option.bind (
   bif r1.1.2.1 then
    Option.bind (pJ a0.2.2.2.2.2.2.2.2.1) fun r4=>
    some (r4.1 != 0,())
   else
    some (false,())) fun v5=>
  bif v5.1 then
   some (1,())
  else
   Option.bind (
    bif r1.1.2.2.1 then
     Option.bind (vR a0.2.2.2.2.2.2.2.2.2.1) fun r6=>
     some (!r6.1,())
    else
     some (false,())) fun v7=>
   bif v7.1 then
    some (1,())
   else
    Option.bind (
     bif r1.1.2.2.2.1 then
      Option.bind (tY a0.2.2.2.2.2.1) fun r8=>
      bif !r8.1 then
       some (true,())
      else
       Option.bind (tY a0.2.2.2.2.2.2.2.1) fun r9=>
       some (!r9.1,())
     else
      some (false,())) fun v10=>
    bif v10.1 then
     some (5,())
    else
     Option.bind (
      bif r1.1.2.2.2.2 then
       Option.bind (ld a0.2.2.2.2.2.2.2.2.2.2 1 2000) fun r11=>
       some (!r11.1,())
      else
       some (false,())) fun v12=>
     bif v12.1 then
      some (1,())
     else
      Option.bind (
       bif !r1.1.1 then
        bif !((a0.2.2.2.2.2.2.1.1==0)&&((a0.2.2.2.2.2.2.1.2==0)&&true)) then
         some (true,())
        else
         bif !r1.1.2.1 then
          bif !((a0.2.2.2.2.2.2.2.2.1.1==0)&&((a0.2.2.2.2.2.2.2.2.1.2==0)&&true)) then
           some (true,())
          else
           bif !r1.1.2.2.1 then
            bif a0.2.2.2.2.2.2.2.2.2.1 != 0 then
             some (true,())
            else
             bif !r1.1.2.2.2.1 then
              chk (decide (a0.2.2.2.2.2.1.length+a0.2.2.2.2.2.2.2.1.length<=maxLen)) <|
              bif !((a0.2.2.2.2.2.1++a0.2.2.2.2.2.2.2.1)==[]) then
               some (true,())
              else
               bif !r1.1.2.2.2.2 then
                some (a0.2.2.2.2.2.2.2.2.2.2 != 0,())
               else
                some (false,())
             else
              bif !r1.1.2.2.2.2 then
               some (a0.2.2.2.2.2.2.2.2.2.2 != 0,())
              else
               some (false,())
           else
            bif !r1.1.2.2.2.1 then
             chk (decide (a0.2.2.2.2.2.1.length+a0.2.2.2.2.2.2.2.1.length<=maxLen)) <|
             bif !((a0.2.2.2.2.2.1++a0.2.2.2.2.2.2.2.1)==[]) then
              some (true,())
             else
              bif !r1.1.2.2.2.2 then
               some (a0.2.2.2.2.2.2.2.2.2.2 != 0,())
              else
               some (false,())
            else
             bif !r1.1.2.2.2.2 then
              some (a0.2.2.2.2.2.2.2.2.2.2 != 0,())
             else
              some (false,())
         else
          bif !r1.1.2.2.1 then
           bif a0.2.2.2.2.2.2.2.2.2.1 != 0 then
            some (true,())
           else
            bif !r1.1.2.2.2.1 then
             chk (decide (a0.2.2.2.2.2.1.length+a0.2.2.2.2.2.2.2.1.length<=maxLen)) <|
             bif !((a0.2.2.2.2.2.1++a0.2.2.2.2.2.2.2.1)==[]) then
              some (true,())
             else
              bif !r1.1.2.2.2.2 then
               some (a0.2.2.2.2.2.2.2.2.2.2 != 0,())
              else
               some (false,())
            else
             bif !r1.1.2.2.2.2 then
              some (a0.2.2.2.2.2.2.2.2.2.2 != 0,())
             else
              some (false,())
          else
           bif !r1.1.2.2.2.1 then
            chk (decide (a0.2.2.2.2.2.1.length+a0.2.2.2.2.2.2.2.1.length<=maxLen)) <|
            bif !((a0.2.2.2.2.2.1++a0.2.2.2.2.2.2.2.1)==[]) then
             some (true,())
            else
             bif !r1.1.2.2.2.2 then
              some (a0.2.2.2.2.2.2.2.2.2.2 != 0,())
             else
              some (false,())
           else
            bif !r1.1.2.2.2.2 then
             some (a0.2.2.2.2.2.2.2.2.2.2 != 0,())
            else
             some (false,())
       else
        bif !r1.1.2.1 then
         bif !((a0.2.2.2.2.2.2.2.2.1.1==0)&&((a0.2.2.2.2.2.2.2.2.1.2==0)&&true)) then
          some (true,())
         else
          bif !r1.1.2.2.1 then
           bif a0.2.2.2.2.2.2.2.2.2.1 != 0 then
            some (true,())
           else
            bif !r1.1.2.2.2.1 then
             chk (decide (a0.2.2.2.2.2.1.length+a0.2.2.2.2.2.2.2.1.length<=maxLen)) <|
             bif !((a0.2.2.2.2.2.1++a0.2.2.2.2.2.2.2.1)==[]) then
              some (true,())
             else
              bif !r1.1.2.2.2.2 then
               some (a0.2.2.2.2.2.2.2.2.2.2 != 0,())
              else
               some (false,())
            else
             bif !r1.1.2.2.2.2 then
              some (a0.2.2.2.2.2.2.2.2.2.2 != 0,())
             else
              some (false,())
          else
           bif !r1.1.2.2.2.1 then
            chk (decide (a0.2.2.2.2.2.1.length+a0.2.2.2.2.2.2.2.1.length<=maxLen)) <|
            bif !((a0.2.2.2.2.2.1++a0.2.2.2.2.2.2.2.1)==[]) then
             some (true,())
            else
             bif !r1.1.2.2.2.2 then
              some (a0.2.2.2.2.2.2.2.2.2.2 != 0,())
             else
              some (false,())
           else
            bif !r1.1.2.2.2.2 then
             some (a0.2.2.2.2.2.2.2.2.2.2 != 0,())
            else
             some (false,())
        else
         bif !r1.1.2.2.1 then
          bif a0.2.2.2.2.2.2.2.2.2.1 != 0 then
           some (true,())
          else
           bif !r1.1.2.2.2.1 then
            chk (decide (a0.2.2.2.2.2.1.length+a0.2.2.2.2.2.2.2.1.length<=maxLen)) <|
            bif !((a0.2.2.2.2.2.1++a0.2.2.2.2.2.2.2.1)==[]) then
             some (true,())
            else
             bif !r1.1.2.2.2.2 then
              some (a0.2.2.2.2.2.2.2.2.2.2 != 0,())
             else
              some (false,())
           else
            bif !r1.1.2.2.2.2 then
             some (a0.2.2.2.2.2.2.2.2.2.2 != 0,())
            else
             some (false,())
         else
          bif !r1.1.2.2.2.1 then
           chk (decide (a0.2.2.2.2.2.1.length+a0.2.2.2.2.2.2.2.1.length<=maxLen)) <|
           bif !((a0.2.2.2.2.2.1++a0.2.2.2.2.2.2.2.1)==[]) then
            some (true,())
           else
            bif !r1.1.2.2.2.2 then
             some (a0.2.2.2.2.2.2.2.2.2.2 != 0,())
            else
             some (false,())
          else
           bif !r1.1.2.2.2.2 then
            some (a0.2.2.2.2.2.2.2.2.2.2 != 0,())
           else
            some (false,())) fun v13=>
      bif v13.1 then
       some (3,())
      else
       some (0,())
abbrev mT:Type:=Int×Int×(List Int)×Unit
abbrev mS:Type:=((Int×Unit) ⊕ Unit)
def ru (x1:mT) (again:mT->Option mS):Option mS:=
 bif decide (x1.2.1<x1.1) then
  chk (decide (0<=x1.2.1)&&decide (x1.2.1<(x1.2.2.1.length:Int))) <|
  Option.bind (x1.2.2.1[x1.2.1.toNat]?) fun y2=>
  bif y2 != 0 then
   some (Sum.inl (y2,()))
  else
   again (x1.1,w64 (x1.2.1+1),x1.2.2.1,())
 else
  some (Sum.inr ())
def nu (a0:aa) (a1:aa):Option (Int×Unit):=
 aF (β:=(Int×Unit)) (γ:=Unit) (
  iter (X:=mT) (β:=mS) (Int.natAbs ((List.length [(w64 (a0.1 - a1.1)),(w64 (a0.2.1 - a1.2.1)),(w64 (a0.2.2.1 - a1.2.2.1))]:Int))+(Int.natAbs (0:Int)+(List.length ([(w64 (a0.1 - a1.1)),(w64 (a0.2.1 - a1.2.1)),(w64 (a0.2.2.1 - a1.2.2.1))]:List Int)+2))) ((List.length [(w64 (a0.1 - a1.1)),(w64 (a0.2.1 - a1.2.1)),(w64 (a0.2.2.1 - a1.2.2.1))]:Int),0,[(w64 (a0.1 - a1.1)),(w64 (a0.2.1 - a1.2.1)),(w64 (a0.2.2.1 - a1.2.2.1))],()) (ru)) fun _=>
 some (0,())
abbrev nv:Type:=Int×Int×(List aa)×Int×Int×Unit
abbrev rz:Type:=((Int×Unit) ⊕ (Int×Unit))
def ry (x1:nv) (again:nv->Option rz):Option rz:=
 bif decide (x1.2.2.2.2.1<x1.2.2.2.1) then
  Option.bind (idx x1.2.2.1 x1.2.2.2.2.1) fun y2=>
  bif y2.2.1==x1.1 then
   again (x1.1,y2.2.2.1,x1.2.2.1,x1.2.2.2.1,w64 (x1.2.2.2.2.1+1),())
  else
   again (x1.1,x1.2.1,x1.2.2.1,x1.2.2.2.1,w64 (x1.2.2.2.2.1+1),())
 else
  some (Sum.inr (x1.2.1,()))
def w5 (a0:List aa) (a1:Int):Option (Int×Unit):=
 aF (β:=(Int×Unit)) (γ:=(Int×Unit)) (
  iter (X:=nv) (β:=rz) (Int.natAbs a1+(Int.natAbs (0:Int)+(List.length a0+(Int.natAbs ((List.length a0:Int))+(Int.natAbs (0:Int)+2))))) (a1,0,a0,(List.length a0:Int),0,()) (ry)) fun v3=>
 some (v3.1,())
abbrev lM:Type:=(List aa)×(List aa)×Int×Int×Unit
abbrev lK:Type:=((Int×Unit) ⊕ Unit)
def iZ (x1:lM) (again:lM->Option lK):Option lK:=
 bif decide (x1.2.2.2.1<x1.2.2.1) then
  Option.bind (idx x1.2.1 x1.2.2.2.1) fun y2=>
  Option.bind (vR y2.1) fun r3=>
  bif !r3.1 then
   some (Sum.inl (1,()))
  else
   Option.bind (
    bif y2.2.1 != 1 then
     some (y2.2.1 != 2,())
    else
     some (false,())) fun v4=>
   bif v4.1 then
    some (Sum.inl (4,()))
   else
    Option.bind (ld y2.2.2.1 1 2000) fun r5=>
    bif !r5.1 then
     some (Sum.inl (1,()))
    else
     Option.bind (ld y2.2.2.2.1 1 11) fun r6=>
     bif !r6.1 then
      some (Sum.inl (4,()))
     else
      Option.bind (tw y2.2.2.2.1) fun r7=>
      bif !(r7.1==(y2.2.1==1)) then
       some (Sum.inl (4,()))
      else
       Option.bind (ld y2.2.2.2.2.1 1 99999) fun r8=>
       bif !r8.1 then
        some (Sum.inl (1,()))
       else
        Option.bind (oe y2) fun r9=>
        bif r9.1 != 0 then
         some (Sum.inl (r9.1,()))
        else
         Option.bind (
          bif decide (x1.2.2.2.1>0) then
           Option.bind (idx x1.1 (w64 (x1.2.2.2.1 - 1))) fun y10=>
           Option.bind (nu y2 y10) fun r11=>
           some (decide (r11.1<=0),())
          else
           some (false,())) fun v12=>
         bif v12.1 then
          some (Sum.inl (8,()))
         else
          chk (decide (0<=(0:Int))&&decide ((0:Int)<=x1.2.2.2.1)&&decide (x1.2.2.2.1<=(x1.1.length:Int))) <|
          Option.bind (w5 (List.drop 0 (List.take (Int.toNat x1.2.2.2.1) x1.1)) y2.2.1) fun r13=>
          bif y2.2.2.1 != (w64 (r13.1+1)) then
           some (Sum.inl (9,()))
          else
           again (x1.1,x1.2.1,x1.2.2.1,w64 (x1.2.2.2.1+1),())
 else
  some (Sum.inr ())
def pI (a0:List aa):Option (Int×Unit):=
 bif decide (((List.length a0:Int))>2000) then
  some (2,())
 else
  aF (β:=(Int×Unit)) (γ:=Unit) (
   iter (X:=lM) (β:=lK) (List.length a0+(List.length a0+(Int.natAbs ((List.length a0:Int))+(Int.natAbs (0:Int)+2)))) (a0,a0,(List.length a0:Int),0,()) (iZ)) fun _=>
  some (0,())
end
end Go.Md
set_option linter.all false
namespace Go.Md
open Go.Dn
noncomputable section
abbrev nw:Type:=(List UInt8)×Int×Int×Int×Unit
abbrev vY:Type:=((Int×Bool×Unit) ⊕ (Int×Unit))
def rA (x1:nw) (again:nw->Option vY):Option vY:=
 bif decide (x1.2.2.2.1<x1.2.2.1) then
  Option.bind (fP x1.1 x1.2.2.2.1) fun c2=>
  bif decide ((c2.toNat:Int)<48) then
   some (Sum.inl (0,false,()))
  else
   Option.bind (fP x1.1 x1.2.2.2.1) fun c3=>
   bif decide ((c3.toNat:Int)>57) then
    some (Sum.inl (0,false,()))
   else
    Option.bind (fP x1.1 x1.2.2.2.1) fun c4=>
    let n5:Int:=w64 ((w64 (10*x1.2.1))+(w64 (wu8 ((c4.toNat:Int) - 48))))
    again (x1.1,n5,x1.2.2.1,w64 (x1.2.2.2.1+1),())
 else
  some (Sum.inr (x1.2.1,()))
def CA (a0:List UInt8):Option (Int×Bool×Unit):=
 Option.bind (
  bif a0==[] then
   some (true,())
  else
   bif decide (((List.length a0:Int))>16) then
    some (true,())
   else
    bif decide (((List.length a0:Int))>1) then
     Option.bind (fP a0 0) fun c1=>
     some ((c1.toNat:Int)==48,())
    else
     some (false,())) fun v2=>
 bif v2.1 then
  some (0,false,())
 else
  aF (β:=(Int×Bool×Unit)) (γ:=(Int×Unit)) (
   iter (X:=nw) (β:=vY) (List.length a0+(Int.natAbs (0:Int)+(Int.natAbs ((List.length a0:Int))+(Int.natAbs (0:Int)+2)))) (a0,0,(List.length a0:Int),0,()) (rA)) fun v8=>
  some (v8.1,true,())
def eV (a0:Bool×Unit) (a1:List UInt8):Option (Int×(Bool×Unit)×Unit):=
 Option.bind (CA a1) fun r1=>
 bif a0.1 then
  some (r1.1,(r1.2.1,()),())
 else
  some (r1.1,(false,()),())
abbrev kP:Type:=(List UInt8)×Int×Int×Int×Unit
abbrev sH:Type:=((Int×Bool×Unit) ⊕ (Int×Unit))
def oc (x1:kP) (again:kP->Option sH):Option sH:=
 bif decide (x1.2.2.2.1<x1.2.2.1) then
  Option.bind (fP x1.1 x1.2.2.2.1) fun c2=>
  let n3:Int:=w64 ((w64 (10*x1.2.1))+(w64 (wu8 ((c2.toNat:Int) - 48))))
  bif decide (n3>1000000000000000) then
   some (Sum.inl (0,false,()))
  else
   again (x1.1,n3,x1.2.2.1,w64 (x1.2.2.2.1+1),())
 else
  some (Sum.inr (x1.2.1,()))
def xP (a0:List UInt8):Option (Int×Bool×Unit):=
 aF (β:=(Int×Bool×Unit)) (γ:=(Int×Unit)) (
  iter (X:=kP) (β:=sH) (List.length a0+(Int.natAbs (0:Int)+(Int.natAbs ((List.length a0:Int))+(Int.natAbs (0:Int)+2)))) (a0,0,(List.length a0:Int),0,()) (oc)) fun v4=>
 some (v4.1,true,())
def xN (a0:List UInt8):Option (ah×Int×Unit):=
 bif decide (((List.length a0:Int))>40) then
  some ((0,0),10,())
 else
  Option.bind (iC a0 [45]) fun r1=>
  Option.bind (oZ r1.1 [46]) fun r2=>
  Option.bind (
   Option.bind (iK r2.1) fun r3=>
   bif !r3.1 then
    some (true,())
   else
    bif decide (((r2.1.length:Int))>1) then
     Option.bind (fP r2.1 0) fun c4=>
     bif (c4.toNat:Int)==48 then
      some (true,())
     else
      bif r2.2.2.1 then
       Option.bind (iK r2.2.1) fun r5=>
       bif !r5.1 then
        some (true,())
       else
        some (decide (((r2.2.1.length:Int))>9),())
      else
       some (decide (((r2.2.1.length:Int))>9),())
    else
     bif r2.2.2.1 then
      Option.bind (iK r2.2.1) fun r6=>
      bif !r6.1 then
       some (true,())
      else
       some (decide (((r2.2.1.length:Int))>9),())
     else
      some (decide (((r2.2.1.length:Int))>9),())) fun v7=>
  bif v7.1 then
   some ((0,0),10,())
  else
   Option.bind (
    bif r1.2.1 then
     chk (decide (r2.1.length+r2.2.1.length<=maxLen)) <|
     Option.bind (dJ (r2.1++r2.2.1) [48]) fun r8=>
     some (r8.1==[],())
    else
     some (false,())) fun v9=>
   bif v9.1 then
    some ((0,0),10,())
   else
    chk (decide (r2.1.length+r2.2.1.length<=maxLen)) <|
    Option.bind (xP (r2.1++r2.2.1)) fun r10=>
    bif !r10.2.1 then
     some ((0,0),1,())
    else
     bif r1.2.1 then
      some ((w64 (0 - r10.1),(r2.2.1.length:Int)),0,())
     else
      some ((r10.1,(r2.2.1.length:Int)),0,())
def gj (a0:Bool×Unit) (a1:List UInt8):Option (ah×(Bool×Unit)×Unit):=
 Option.bind (xN a1) fun r1=>
 bif a0.1 then
  some (r1.1,(r1.2.1==0,()),())
 else
  some (r1.1,(false,()),())
def aX (a0:List UInt8):Option (aa×Bool×Unit):=
 Option.bind (strings_Split a0 [32]) fun r1=>
 Option.bind (
  bif decide (((r1.1.length:Int))<6) then
   some (true,())
  else
   chk (decide (0<=(1:Int))&&decide ((1:Int)<(r1.1.length:Int))) <|
   Option.bind (r1.1[1]?) fun y2=>
   bif !(y2==[98,117,121,101,114]) then
    chk (decide (0<=(1:Int))&&decide ((1:Int)<(r1.1.length:Int))) <|
    Option.bind (r1.1[1]?) fun y3=>
    bif !(y3==[115,101,108,108,101,114]) then
     some (true,())
    else
     Option.bind (fq r1.1 []) fun r4=>
     some (r4.1,())
   else
    Option.bind (fq r1.1 []) fun r5=>
    some (r5.1,())) fun v6=>
 bif v6.1 then
  some ((0,0,0,0,0,[],(0,0),[],(0,0),0,0),false,())
 else
  chk (decide (0<=(0:Int))&&decide ((0:Int)<(r1.1.length:Int))) <|
  Option.bind (r1.1[0]?) fun y7=>
  chk (decide (0<=(2:Int))&&decide ((2:Int)<(r1.1.length:Int))) <|
  Option.bind (r1.1[2]?) fun y8=>
  chk (decide (0<=(3:Int))&&decide ((3:Int)<(r1.1.length:Int))) <|
  Option.bind (r1.1[3]?) fun y9=>
  chk (decide (0<=(4:Int))&&decide ((4:Int)<(r1.1.length:Int))) <|
  Option.bind (r1.1[4]?) fun y10=>
  Option.bind (eV (true,()) y7) fun r11=>
  Option.bind (eV (r11.2.1.1,()) y8) fun r12=>
  Option.bind (strings_Split [97,100,100,32,113,117,97,110,116,105,116,121,32,100,117,101,32,112,114,105,99,101,32,121,101,115,32,110,111,32,111,102,102,101,114,32,116,97,107,101,32,115,104,105,112,32,114,101,99,101,105,118,101,32,114,101,116,117,114,110] [32]) fun r13=>
  Option.bind (eg r13.1 y9) fun r14=>
  Option.bind (eV (r12.2.1.1,()) y10) fun r15=>
  chk (decide (0<=(1:Int))&&decide ((1:Int)<(r1.1.length:Int))) <|
  Option.bind (r1.1[1]?) fun y16=>
  aF (β:=(aa×Bool×Unit)) (γ:=(Int×Int×Int×Int×Int×(List UInt8)×Int×Int×(List UInt8)×Int×Int×Int×Int×Bool×Int×Int×Int×Int×Int×(List UInt8)×Int×Int×(List UInt8)×Int×Int×Int×Int×(List (List UInt8))×Unit)) (
   bif y16==[115,101,108,108,101,114] then
    some (Sum.inr (0,0,0,0,0,[],0,0,[],0,0,0,0,r15.2.1.1,r11.1,2,r12.1,w64 (r14.1+1),r15.1,[],0,0,[],0,0,0,0,r1.1,()))
   else
    some (Sum.inr (0,0,0,0,0,[],0,0,[],0,0,0,0,r15.2.1.1,r11.1,1,r12.1,w64 (r14.1+1),r15.1,[],0,0,[],0,0,0,0,r1.1,()))) fun v17=>
  bif v17.2.2.2.2.2.2.2.2.2.2.2.2.2.2.2.2.2.1==0 then
   some ((0,0,0,0,0,[],(0,0),[],(0,0),0,0),false,())
  else
   Option.bind (cA v17.2.2.2.2.2.2.2.2.2.2.2.2.2.2.2.2.2.1) fun r18=>
   chk (decide (0<=(5:Int))&&decide ((5:Int)<=((v17.2.2.2.2.2.2.2.2.2.2.2.2.2.2.2.2.2.2.2.2.2.2.2.2.2.2.2.1.length:Int)))&&decide (((v17.2.2.2.2.2.2.2.2.2.2.2.2.2.2.2.2.2.2.2.2.2.2.2.2.2.2.2.1.length:Int))<=(v17.2.2.2.2.2.2.2.2.2.2.2.2.2.2.2.2.2.2.2.2.2.2.2.2.2.2.2.1.length:Int))) <|
   Option.bind (
    bif r18.1.2.2.2.1 then
     some (((List.length (List.drop 5 (List.take (Int.toNat ((v17.2.2.2.2.2.2.2.2.2.2.2.2.2.2.2.2.2.2.2.2.2.2.2.2.2.2.2.1.length:Int))) v17.2.2.2.2.2.2.2.2.2.2.2.2.2.2.2.2.2.2.2.2.2.2.2.2.2.2.2.1)):Int))==5,())
    else
     some (false,())) fun v19=>
   bif v19.1 then
    Option.bind (idx (List.drop 5 (List.take (Int.toNat ((v17.2.2.2.2.2.2.2.2.2.2.2.2.2.2.2.2.2.2.2.2.2.2.2.2.2.2.2.1.length:Int))) v17.2.2.2.2.2.2.2.2.2.2.2.2.2.2.2.2.2.2.2.2.2.2.2.2.2.2.2.1)) 0) fun y20=>
    Option.bind (idx (List.drop 5 (List.take (Int.toNat ((v17.2.2.2.2.2.2.2.2.2.2.2.2.2.2.2.2.2.2.2.2.2.2.2.2.2.2.2.1.length:Int))) v17.2.2.2.2.2.2.2.2.2.2.2.2.2.2.2.2.2.2.2.2.2.2.2.2.2.2.2.1)) 1) fun y21=>
    Option.bind (idx (List.drop 5 (List.take (Int.toNat ((v17.2.2.2.2.2.2.2.2.2.2.2.2.2.2.2.2.2.2.2.2.2.2.2.2.2.2.2.1.length:Int))) v17.2.2.2.2.2.2.2.2.2.2.2.2.2.2.2.2.2.2.2.2.2.2.2.2.2.2.2.1)) 2) fun y22=>
    Option.bind (idx (List.drop 5 (List.take (Int.toNat ((v17.2.2.2.2.2.2.2.2.2.2.2.2.2.2.2.2.2.2.2.2.2.2.2.2.2.2.2.1.length:Int))) v17.2.2.2.2.2.2.2.2.2.2.2.2.2.2.2.2.2.2.2.2.2.2.2.2.2.2.2.1)) 3) fun y23=>
    Option.bind (idx (List.drop 5 (List.take (Int.toNat ((v17.2.2.2.2.2.2.2.2.2.2.2.2.2.2.2.2.2.2.2.2.2.2.2.2.2.2.2.1.length:Int))) v17.2.2.2.2.2.2.2.2.2.2.2.2.2.2.2.2.2.2.2.2.2.2.2.2.2.2.2.1)) 4) fun y24=>
    Option.bind (gj (v17.2.2.2.2.2.2.2.2.2.2.2.2.2.1,()) y21) fun r25=>
    Option.bind (gj (r25.2.1.1,()) y23) fun r26=>
    Option.bind (eV (r26.2.1.1,()) y24) fun r27=>
    some ((v17.2.2.2.2.2.2.2.2.2.2.2.2.2.2.1,v17.2.2.2.2.2.2.2.2.2.2.2.2.2.2.2.1,v17.2.2.2.2.2.2.2.2.2.2.2.2.2.2.2.2.1,v17.2.2.2.2.2.2.2.2.2.2.2.2.2.2.2.2.2.1,v17.2.2.2.2.2.2.2.2.2.2.2.2.2.2.2.2.2.2.1,y20,r25.1,y22,r26.1,r27.1,v17.2.2.2.2.2.2.2.2.2.2.2.2.2.2.2.2.2.2.2.2.2.2.2.2.2.2.1),r27.2.1.1,())
   else
    bif r18.1.2.2.2.1 then
     some ((v17.2.2.2.2.2.2.2.2.2.2.2.2.2.2.1,v17.2.2.2.2.2.2.2.2.2.2.2.2.2.2.2.1,v17.2.2.2.2.2.2.2.2.2.2.2.2.2.2.2.2.1,v17.2.2.2.2.2.2.2.2.2.2.2.2.2.2.2.2.2.1,v17.2.2.2.2.2.2.2.2.2.2.2.2.2.2.2.2.2.2.1,v17.2.2.2.2.2.2.2.2.2.2.2.2.2.2.2.2.2.2.2.1,(v17.2.2.2.2.2.2.2.2.2.2.2.2.2.2.2.2.2.2.2.2.1,v17.2.2.2.2.2.2.2.2.2.2.2.2.2.2.2.2.2.2.2.2.2.1),v17.2.2.2.2.2.2.2.2.2.2.2.2.2.2.2.2.2.2.2.2.2.2.1,(v17.2.2.2.2.2.2.2.2.2.2.2.2.2.2.2.2.2.2.2.2.2.2.2.1,v17.2.2.2.2.2.2.2.2.2.2.2.2.2.2.2.2.2.2.2.2.2.2.2.2.1),v17.2.2.2.2.2.2.2.2.2.2.2.2.2.2.2.2.2.2.2.2.2.2.2.2.2.1,v17.2.2.2.2.2.2.2.2.2.2.2.2.2.2.2.2.2.2.2.2.2.2.2.2.2.2.1),false,())
    else
     Option.bind (
      bif r18.1.1 then
       bif r18.1.2.2.1 then
        some (((List.length (List.drop 5 (List.take (Int.toNat ((v17.2.2.2.2.2.2.2.2.2.2.2.2.2.2.2.2.2.2.2.2.2.2.2.2.2.2.2.1.length:Int))) v17.2.2.2.2.2.2.2.2.2.2.2.2.2.2.2.2.2.2.2.2.2.2.2.2.2.2.2.1)):Int))==2,())
       else
        some (false,())
      else
       some (false,())) fun v28=>
     bif v28.1 then
      Option.bind (idx (List.drop 5 (List.take (Int.toNat ((v17.2.2.2.2.2.2.2.2.2.2.2.2.2.2.2.2.2.2.2.2.2.2.2.2.2.2.2.1.length:Int))) v17.2.2.2.2.2.2.2.2.2.2.2.2.2.2.2.2.2.2.2.2.2.2.2.2.2.2.2.1)) 0) fun y29=>
      Option.bind (idx (List.drop 5 (List.take (Int.toNat ((v17.2.2.2.2.2.2.2.2.2.2.2.2.2.2.2.2.2.2.2.2.2.2.2.2.2.2.2.1.length:Int))) v17.2.2.2.2.2.2.2.2.2.2.2.2.2.2.2.2.2.2.2.2.2.2.2.2.2.2.2.1)) 1) fun y30=>
      Option.bind (gj (v17.2.2.2.2.2.2.2.2.2.2.2.2.2.1,()) y29) fun r31=>
      Option.bind (eV (r31.2.1.1,()) y30) fun r32=>
      some ((v17.2.2.2.2.2.2.2.2.2.2.2.2.2.2.1,v17.2.2.2.2.2.2.2.2.2.2.2.2.2.2.2.1,v17.2.2.2.2.2.2.2.2.2.2.2.2.2.2.2.2.1,v17.2.2.2.2.2.2.2.2.2.2.2.2.2.2.2.2.2.1,v17.2.2.2.2.2.2.2.2.2.2.2.2.2.2.2.2.2.2.1,v17.2.2.2.2.2.2.2.2.2.2.2.2.2.2.2.2.2.2.2.1,r31.1,v17.2.2.2.2.2.2.2.2.2.2.2.2.2.2.2.2.2.2.2.2.2.2.1,(v17.2.2.2.2.2.2.2.2.2.2.2.2.2.2.2.2.2.2.2.2.2.2.2.1,v17.2.2.2.2.2.2.2.2.2.2.2.2.2.2.2.2.2.2.2.2.2.2.2.2.1),r32.1,v17.2.2.2.2.2.2.2.2.2.2.2.2.2.2.2.2.2.2.2.2.2.2.2.2.2.2.1),r32.2.1.1,())
     else
      Option.bind (
       bif ((List.length (List.drop 5 (List.take (Int.toNat ((v17.2.2.2.2.2.2.2.2.2.2.2.2.2.2.2.2.2.2.2.2.2.2.2.2.2.2.2.1.length:Int))) v17.2.2.2.2.2.2.2.2.2.2.2.2.2.2.2.2.2.2.2.2.2.2.2.2.2.2.2.1)):Int)) != 1 then
        some (true,())
       else
        bif r18.1.1 then
         some (r18.1.2.2.1,())
        else
         some (false,())) fun v33=>
      bif v33.1 then
       some ((v17.2.2.2.2.2.2.2.2.2.2.2.2.2.2.1,v17.2.2.2.2.2.2.2.2.2.2.2.2.2.2.2.1,v17.2.2.2.2.2.2.2.2.2.2.2.2.2.2.2.2.1,v17.2.2.2.2.2.2.2.2.2.2.2.2.2.2.2.2.2.1,v17.2.2.2.2.2.2.2.2.2.2.2.2.2.2.2.2.2.2.1,v17.2.2.2.2.2.2.2.2.2.2.2.2.2.2.2.2.2.2.2.1,(v17.2.2.2.2.2.2.2.2.2.2.2.2.2.2.2.2.2.2.2.2.1,v17.2.2.2.2.2.2.2.2.2.2.2.2.2.2.2.2.2.2.2.2.2.1),v17.2.2.2.2.2.2.2.2.2.2.2.2.2.2.2.2.2.2.2.2.2.2.1,(v17.2.2.2.2.2.2.2.2.2.2.2.2.2.2.2.2.2.2.2.2.2.2.2.1,v17.2.2.2.2.2.2.2.2.2.2.2.2.2.2.2.2.2.2.2.2.2.2.2.2.1),v17.2.2.2.2.2.2.2.2.2.2.2.2.2.2.2.2.2.2.2.2.2.2.2.2.2.1,v17.2.2.2.2.2.2.2.2.2.2.2.2.2.2.2.2.2.2.2.2.2.2.2.2.2.2.1),false,())
      else
       bif r18.1.1 then
        Option.bind (idx (List.drop 5 (List.take (Int.toNat ((v17.2.2.2.2.2.2.2.2.2.2.2.2.2.2.2.2.2.2.2.2.2.2.2.2.2.2.2.1.length:Int))) v17.2.2.2.2.2.2.2.2.2.2.2.2.2.2.2.2.2.2.2.2.2.2.2.2.2.2.2.1)) 0) fun y34=>
        Option.bind (gj (v17.2.2.2.2.2.2.2.2.2.2.2.2.2.1,()) y34) fun r35=>
        some ((v17.2.2.2.2.2.2.2.2.2.2.2.2.2.2.1,v17.2.2.2.2.2.2.2.2.2.2.2.2.2.2.2.1,v17.2.2.2.2.2.2.2.2.2.2.2.2.2.2.2.2.1,v17.2.2.2.2.2.2.2.2.2.2.2.2.2.2.2.2.2.1,v17.2.2.2.2.2.2.2.2.2.2.2.2.2.2.2.2.2.2.1,v17.2.2.2.2.2.2.2.2.2.2.2.2.2.2.2.2.2.2.2.1,r35.1,v17.2.2.2.2.2.2.2.2.2.2.2.2.2.2.2.2.2.2.2.2.2.2.1,(v17.2.2.2.2.2.2.2.2.2.2.2.2.2.2.2.2.2.2.2.2.2.2.2.1,v17.2.2.2.2.2.2.2.2.2.2.2.2.2.2.2.2.2.2.2.2.2.2.2.2.1),v17.2.2.2.2.2.2.2.2.2.2.2.2.2.2.2.2.2.2.2.2.2.2.2.2.2.1,v17.2.2.2.2.2.2.2.2.2.2.2.2.2.2.2.2.2.2.2.2.2.2.2.2.2.2.1),r35.2.1.1,())
       else
        bif r18.1.2.1 then
         Option.bind (idx (List.drop 5 (List.take (Int.toNat ((v17.2.2.2.2.2.2.2.2.2.2.2.2.2.2.2.2.2.2.2.2.2.2.2.2.2.2.2.1.length:Int))) v17.2.2.2.2.2.2.2.2.2.2.2.2.2.2.2.2.2.2.2.2.2.2.2.2.2.2.2.1)) 0) fun y36=>
         Option.bind (gj (v17.2.2.2.2.2.2.2.2.2.2.2.2.2.1,()) y36) fun r37=>
         some ((v17.2.2.2.2.2.2.2.2.2.2.2.2.2.2.1,v17.2.2.2.2.2.2.2.2.2.2.2.2.2.2.2.1,v17.2.2.2.2.2.2.2.2.2.2.2.2.2.2.2.2.1,v17.2.2.2.2.2.2.2.2.2.2.2.2.2.2.2.2.2.1,v17.2.2.2.2.2.2.2.2.2.2.2.2.2.2.2.2.2.2.1,v17.2.2.2.2.2.2.2.2.2.2.2.2.2.2.2.2.2.2.2.1,(v17.2.2.2.2.2.2.2.2.2.2.2.2.2.2.2.2.2.2.2.2.1,v17.2.2.2.2.2.2.2.2.2.2.2.2.2.2.2.2.2.2.2.2.2.1),v17.2.2.2.2.2.2.2.2.2.2.2.2.2.2.2.2.2.2.2.2.2.2.1,r37.1,v17.2.2.2.2.2.2.2.2.2.2.2.2.2.2.2.2.2.2.2.2.2.2.2.2.2.1,v17.2.2.2.2.2.2.2.2.2.2.2.2.2.2.2.2.2.2.2.2.2.2.2.2.2.2.1),r37.2.1.1,())
        else
         bif r18.1.2.2.1 then
          Option.bind (idx (List.drop 5 (List.take (Int.toNat ((v17.2.2.2.2.2.2.2.2.2.2.2.2.2.2.2.2.2.2.2.2.2.2.2.2.2.2.2.1.length:Int))) v17.2.2.2.2.2.2.2.2.2.2.2.2.2.2.2.2.2.2.2.2.2.2.2.2.2.2.2.1)) 0) fun y38=>
          Option.bind (eV (v17.2.2.2.2.2.2.2.2.2.2.2.2.2.1,()) y38) fun r39=>
          some ((v17.2.2.2.2.2.2.2.2.2.2.2.2.2.2.1,v17.2.2.2.2.2.2.2.2.2.2.2.2.2.2.2.1,v17.2.2.2.2.2.2.2.2.2.2.2.2.2.2.2.2.1,v17.2.2.2.2.2.2.2.2.2.2.2.2.2.2.2.2.2.1,v17.2.2.2.2.2.2.2.2.2.2.2.2.2.2.2.2.2.2.1,v17.2.2.2.2.2.2.2.2.2.2.2.2.2.2.2.2.2.2.2.1,(v17.2.2.2.2.2.2.2.2.2.2.2.2.2.2.2.2.2.2.2.2.1,v17.2.2.2.2.2.2.2.2.2.2.2.2.2.2.2.2.2.2.2.2.2.1),v17.2.2.2.2.2.2.2.2.2.2.2.2.2.2.2.2.2.2.2.2.2.2.1,(v17.2.2.2.2.2.2.2.2.2.2.2.2.2.2.2.2.2.2.2.2.2.2.2.1,v17.2.2.2.2.2.2.2.2.2.2.2.2.2.2.2.2.2.2.2.2.2.2.2.2.1),r39.1,v17.2.2.2.2.2.2.2.2.2.2.2.2.2.2.2.2.2.2.2.2.2.2.2.2.2.2.1),r39.2.1.1,())
         else
          Option.bind (idx (List.drop 5 (List.take (Int.toNat ((v17.2.2.2.2.2.2.2.2.2.2.2.2.2.2.2.2.2.2.2.2.2.2.2.2.2.2.2.1.length:Int))) v17.2.2.2.2.2.2.2.2.2.2.2.2.2.2.2.2.2.2.2.2.2.2.2.2.2.2.2.1)) 0) fun y40=>
          Option.bind (eV (v17.2.2.2.2.2.2.2.2.2.2.2.2.2.1,()) y40) fun r41=>
          some ((v17.2.2.2.2.2.2.2.2.2.2.2.2.2.2.1,v17.2.2.2.2.2.2.2.2.2.2.2.2.2.2.2.1,v17.2.2.2.2.2.2.2.2.2.2.2.2.2.2.2.2.1,v17.2.2.2.2.2.2.2.2.2.2.2.2.2.2.2.2.2.1,v17.2.2.2.2.2.2.2.2.2.2.2.2.2.2.2.2.2.2.1,v17.2.2.2.2.2.2.2.2.2.2.2.2.2.2.2.2.2.2.2.1,(v17.2.2.2.2.2.2.2.2.2.2.2.2.2.2.2.2.2.2.2.2.1,v17.2.2.2.2.2.2.2.2.2.2.2.2.2.2.2.2.2.2.2.2.2.1),v17.2.2.2.2.2.2.2.2.2.2.2.2.2.2.2.2.2.2.2.2.2.2.1,(v17.2.2.2.2.2.2.2.2.2.2.2.2.2.2.2.2.2.2.2.2.2.2.2.1,v17.2.2.2.2.2.2.2.2.2.2.2.2.2.2.2.2.2.2.2.2.2.2.2.2.1),v17.2.2.2.2.2.2.2.2.2.2.2.2.2.2.2.2.2.2.2.2.2.2.2.2.2.1,r41.1),r41.2.1.1,())
end
end Go.Md
