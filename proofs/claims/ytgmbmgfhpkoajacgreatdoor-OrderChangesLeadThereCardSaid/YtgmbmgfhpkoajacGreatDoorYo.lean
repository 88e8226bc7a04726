/-
  The plain models of the functions that the law reaches, third part. No condition.
-/
import Derived.Test.YtgmbmgfhpkoajacGreatDoorYn
import Derived.Test.YtgmbmgfhpkoajacGreatDoorYd
import Derived.Lib.Atoi
import Derived.Lib.IndexBytes
namespace Go.Md
open Go.Dn
def eo (s:List UInt8) (c:Int):Option (Int×Unit):=some (Lib.indexByte s c.toNat.toUInt8,())
def iS (c:UInt8):List UInt8->List (List UInt8)
 | []=>[[]]
 | b::r=>bif b==c then []::iS c r else (match iS c r with
  | h::t=>(b::h)::t
  | []=>[[b]])
def strings_Split (s sep:List UInt8):Option (List (List UInt8)×Unit):=match sep with
 | [c]=>bif decide (s.length<4294967281) then some (iS c s,()) else none
 | _=>none
def R3 (b:UInt8):Bool:=decide (48<=b.toNat)&&decide (b.toNat<=57)
def wO (s:List UInt8) (most:Int):Option (Int×Bool×Unit):=
 bif decide (most<(s.length:Int)) then some (0,false,())
 else bif decide (s.length<=18) then (bif !(!(s==[])&&s.all R3)||(decide (1<s.length)&&s.head? ==some 48) then some (0,false,()) else (Lib.atoi s).bind fun n=>some (n,true,())) else none
noncomputable section
abbrev KU:Ty:=(.st (.pair tI (.pair tI tI)))
abbrev Kg:Type:=Int×Int×Int
abbrev MB:Ty:=(.st (.pair .bool (.pair .bool (.pair .bool (.pair .bool (.pair .bool .bool))))))
abbrev Lg:Type:=Bool×Bool×Bool×Bool×Bool×Bool
abbrev aT:Ty:=(.st (.pair tI (.pair .str (.pair aA (.pair .str (.pair aA tI))))))
abbrev ai:Type:=Int×(List UInt8)×ah×(List UInt8)×ah×Int
abbrev ax:Ty:=(.st (.pair tI (.pair tI (.pair tI (.pair tI (.pair tI (.pair .str (.pair aA (.pair .str (.pair aA (.pair tI tI)))))))))))
abbrev aa:Type:=Int×Int×Int×Int×Int×(List UInt8)×ah×(List UInt8)×ah×Int×Int
abbrev aY:Ty:=(.st (.pair .str (.pair .str (.pair .str (.pair tI (.pair tI (.slice aT)))))))
abbrev aj:Type:=(List UInt8)×(List UInt8)×(List UInt8)×Int×Int×(List ai)
abbrev bG:Ty:=(.st (.pair tI (.pair .str (.pair .str (.pair tI (.pair tI (.pair tI (.pair tI (.pair aA (.pair tI (.pair tI KU)))))))))))
abbrev aF:Type:=Int×(List UInt8)×(List UInt8)×Int×Int×Int×Int×ah×Int×Int×Kg
abbrev cN:Ty:=(.st (.pair tI Fg))
abbrev az:Type:=Int×zb
def ou (a0:aj) (a1:Int):Option (Int×Unit):=
 Option.bind (idx a0.2.2.2.2.2 a1) fun y1=>
 Option.bind (dB y1.1 1 99999) fun r2=>
 bif r2.1 then
  some (1,())
 else
  Option.bind (
   bif decide (a1>0) then
    Option.bind (idx a0.2.2.2.2.2 (w64 (a1 - 1))) fun y3=>
    some (decide (y1.1<=y3.1),())
   else
    some (false,())) fun v4=>
  bif v4.1 then
   some (8,())
  else
   Option.bind (eU y1.2.1) fun r5=>
   bif !r5.1 then
    some (5,())
   else
    Option.bind (gO y1.2.2.1 false) fun r6=>
    bif r6.1 != 0 then
     some (r6.1,())
    else
     Option.bind (eU y1.2.2.2.1) fun r7=>
     bif !r7.1 then
      some (5,())
     else
      Option.bind (jD y1.2.2.2.2.1) fun r8=>
      bif r8.1 != 0 then
       some (r8.1,())
      else
       Option.bind (dB y1.2.2.2.2.2 a0.2.2.2.1 3652059) fun r9=>
       bif r9.1 then
        some (1,())
       else
        some (0,())
abbrev jf:Type:=Int×Int×(List UInt8)×(List UInt8)×(List UInt8)×Int×Int×(List ai)×Unit
abbrev je:Type:=((Int×Unit) ⊕ Unit)
def jd (x1:jf) (again:jf->Option je):Option je:=
 bif decide (x1.2.1<x1.1) then
  Option.bind (ou (x1.2.2.1,x1.2.2.2.1,x1.2.2.2.2.1,x1.2.2.2.2.2.1,x1.2.2.2.2.2.2.1,x1.2.2.2.2.2.2.2.1) x1.2.1) fun r2=>
  bif r2.1 != 0 then
   some (Sum.inl (r2.1,()))
  else
   again (x1.1,w64 (x1.2.1+1),x1.2.2.1,x1.2.2.2.1,x1.2.2.2.2.1,x1.2.2.2.2.2.1,x1.2.2.2.2.2.2.1,x1.2.2.2.2.2.2.2.1,())
 else
  some (Sum.inr ())
def cV (a0:aj):Option (Int×Unit):=
 Option.bind (eU a0.1) fun r1=>
 bif !r1.1 then
  some (5,())
 else
  Option.bind (eU a0.2.1) fun r2=>
  bif !r2.1 then
   some (5,())
  else
   Option.bind (eU a0.2.2.1) fun r3=>
   bif !r3.1 then
    some (5,())
   else
    bif a0.2.1==a0.2.2.1 then
     some (12,())
    else
     Option.bind (kO a0.2.2.2.1) fun r4=>
     bif !r4.1 then
      some (1,())
     else
      Option.bind (dB a0.2.2.2.2.1 0 1000) fun r5=>
      bif r5.1 then
       some (1,())
      else
       bif ((a0.2.2.2.2.2.length:Int))==0 then
        some (9,())
       else
        bif decide (((a0.2.2.2.2.2.length:Int))>500) then
         some (2,())
        else
         aI (β:=(Int×Unit)) (γ:=Unit) (
          iter (X:=jf) (β:=je) (Int.natAbs ((a0.2.2.2.2.2.length:Int))+(Int.natAbs (0:Int)+(a0.1.length+(a0.2.1.length+(a0.2.2.1.length+(a0.2.2.2.1.natAbs+(a0.2.2.2.2.1.natAbs+(a0.2.2.2.2.2.length+2)))))))) ((a0.2.2.2.2.2.length:Int),0,a0.1,a0.2.1,a0.2.2.1,a0.2.2.2.1,a0.2.2.2.2.1,a0.2.2.2.2.2,()) (jd)) fun _=>
         some (0,())
def kQ (a0:Int):Option (Bool×Unit):=
 bif a0==5 then
  some (true,())
 else
  bif a0==6 then
   some (true,())
  else
   bif a0==7 then
    some (true,())
   else
    some (a0==9,())
def oU (a0:Int):Option (Lg×Unit):=
 bif a0==1 then
  some ((true,true,true,true,true,false),())
 else
  bif a0==3 then
   some ((false,false,false,false,true,false),())
  else
   bif a0==4 then
    some ((false,false,false,true,false,false),())
   else
    bif a0==5 then
     bif a0==5 then
      some ((false,false,false,false,false,true),())
     else
      bif a0==7 then
       some ((false,true,false,false,true,false),())
      else
       some ((false,true,false,false,false,false),())
    else
     bif a0==6 then
      bif a0==6 then
       some ((false,false,false,false,false,true),())
      else
       bif a0==7 then
        some ((false,true,false,false,true,false),())
       else
        some ((false,true,false,false,false,false),())
     else
      bif a0==8 then
       some ((false,false,false,false,false,true),())
      else
       bif a0==7 then
        some ((false,true,false,false,true,false),())
       else
        some ((false,true,false,false,false,false),())
def ov (a0:aa):Option (Int×Unit):=
 Option.bind (oU a0.2.2.2.1) fun r1=>
 aI (β:=(Int×Unit)) (γ:=(Int×Int×Int×Int×Int×(List UInt8)×Int×Int×(List UInt8)×Int×Int×Int×Int×Bool×Bool×Bool×Bool×Bool×Bool×Unit)) (
  bif r1.1.2.1 then
   Option.bind (gO a0.2.2.2.2.2.2.1 (a0.2.2.2.1==2)) fun r2=>
   bif r2.1 != 0 then
    some (Sum.inl (r2.1,()))
   else
    some (Sum.inr (a0.1,a0.2.1,a0.2.2.1,a0.2.2.2.1,a0.2.2.2.2.1,a0.2.2.2.2.2.1,a0.2.2.2.2.2.2.1.1,a0.2.2.2.2.2.2.1.2,a0.2.2.2.2.2.2.2.1,a0.2.2.2.2.2.2.2.2.1.1,a0.2.2.2.2.2.2.2.2.1.2,a0.2.2.2.2.2.2.2.2.2.1,a0.2.2.2.2.2.2.2.2.2.2,r1.1.1,r1.1.2.1,r1.1.2.2.1,r1.1.2.2.2.1,r1.1.2.2.2.2.1,r1.1.2.2.2.2.2,()))
  else
   some (Sum.inr (a0.1,a0.2.1,a0.2.2.1,a0.2.2.2.1,a0.2.2.2.2.1,a0.2.2.2.2.2.1,a0.2.2.2.2.2.2.1.1,a0.2.2.2.2.2.2.1.2,a0.2.2.2.2.2.2.2.1,a0.2.2.2.2.2.2.2.2.1.1,a0.2.2.2.2.2.2.2.2.1.2,a0.2.2.2.2.2.2.2.2.2.1,a0.2.2.2.2.2.2.2.2.2.2,r1.1.1,r1.1.2.1,r1.1.2.2.1,r1.1.2.2.2.1,r1.1.2.2.2.2.1,r1.1.2.2.2.2.2,()))) fun v3=>
 aI (β:=(Int×Unit)) (γ:=(Int×Int×Int×Int×Int×(List UInt8)×Int×Int×(List UInt8)×Int×Int×Int×Int×Bool×Bool×Bool×Bool×Bool×Bool×Unit)) (
  bif v3.2.2.2.2.2.2.2.2.2.2.2.2.2.2.2.2.1 then
   Option.bind (jD (v3.2.2.2.2.2.2.2.2.2.1,v3.2.2.2.2.2.2.2.2.2.2.1)) fun r4=>
   bif r4.1 != 0 then
    some (Sum.inl (r4.1,()))
   else
    some (Sum.inr (v3.1,v3.2.1,v3.2.2.1,v3.2.2.2.1,v3.2.2.2.2.1,v3.2.2.2.2.2.1,v3.2.2.2.2.2.2.1,v3.2.2.2.2.2.2.2.1,v3.2.2.2.2.2.2.2.2.1,v3.2.2.2.2.2.2.2.2.2.1,v3.2.2.2.2.2.2.2.2.2.2.1,v3.2.2.2.2.2.2.2.2.2.2.2.1,v3.2.2.2.2.2.2.2.2.2.2.2.2.1,v3.2.2.2.2.2.2.2.2.2.2.2.2.2.1,v3.2.2.2.2.2.2.2.2.2.2.2.2.2.2.1,v3.2.2.2.2.2.2.2.2.2.2.2.2.2.2.2.1,v3.2.2.2.2.2.2.2.2.2.2.2.2.2.2.2.2.1,v3.2.2.2.2.2.2.2.2.2.2.2.2.2.2.2.2.2.1,v3.2.2.2.2.2.2.2.2.2.2.2.2.2.2.2.2.2.2.1,()))
  else
   some (Sum.inr (v3.1,v3.2.1,v3.2.2.1,v3.2.2.2.1,v3.2.2.2.2.1,v3.2.2.2.2.2.1,v3.2.2.2.2.2.2.1,v3.2.2.2.2.2.2.2.1,v3.2.2.2.2.2.2.2.2.1,v3.2.2.2.2.2.2.2.2.2.1,v3.2.2.2.2.2.2.2.2.2.2.1,v3.2.2.2.2.2.2.2.2.2.2.2.1,v3.2.2.2.2.2.2.2.2.2.2.2.2.1,v3.2.2.2.2.2.2.2.2.2.2.2.2.2.1,v3.2.2.2.2.2.2.2.2.2.2.2.2.2.2.1,v3.2.2.2.2.2.2.2.2.2.2.2.2.2.2.2.1,v3.2.2.2.2.2.2.2.2.2.2.2.2.2.2.2.2.1,v3.2.2.2.2.2.2.2.2.2.2.2.2.2.2.2.2.2.1,v3.2.2.2.2.2.2.2.2.2.2.2.2.2.2.2.2.2.2.1,()))) fun v5=>
 Option.bind (
  bif v5.2.2.2.2.2.2.2.2.2.2.2.2.2.2.2.2.2.1 then
   Option.bind (kO v5.2.2.2.2.2.2.2.2.2.2.2.1) fun r6=>
   some (!r6.1,())
  else
   some (false,())) fun v7=>
 bif v7.1 then
  some (1,())
 else
  Option.bind (
   bif v5.2.2.2.2.2.2.2.2.2.2.2.2.2.1 then
    Option.bind (eU v5.2.2.2.2.2.1) fun r8=>
    bif !r8.1 then
     some (true,())
    else
     bif v5.2.2.2.2.2.2.2.2.2.2.2.2.2.2.2.1 then
      Option.bind (eU v5.2.2.2.2.2.2.2.2.1) fun r9=>
      some (!r9.1,())
     else
      some (false,())
   else
    bif v5.2.2.2.2.2.2.2.2.2.2.2.2.2.2.2.1 then
     Option.bind (eU v5.2.2.2.2.2.2.2.2.1) fun r10=>
     some (!r10.1,())
    else
     some (false,())) fun v11=>
  bif v11.1 then
   some (5,())
  else
   Option.bind (
    bif v5.2.2.2.2.2.2.2.2.2.2.2.2.2.2.2.2.2.2.1 then
     Option.bind (dB v5.2.2.2.2.2.2.2.2.2.2.2.2.1 1 2000) fun r12=>
     some (r12.1,())
    else
     some (false,())) fun v13=>
   bif v13.1 then
    some (1,())
   else
    Option.bind (
     bif !v5.2.2.2.2.2.2.2.2.2.2.2.2.2.1 then
      bif !(v5.2.2.2.2.2.1==[]) then
       some (true,())
      else
       bif !v5.2.2.2.2.2.2.2.2.2.2.2.2.2.2.1 then
        bif !((v5.2.2.2.2.2.2.1==0)&&((v5.2.2.2.2.2.2.2.1==0)&&true)) then
         some (true,())
        else
         bif !v5.2.2.2.2.2.2.2.2.2.2.2.2.2.2.2.1 then
          bif !(v5.2.2.2.2.2.2.2.2.1==[]) then
           some (true,())
          else
           bif !v5.2.2.2.2.2.2.2.2.2.2.2.2.2.2.2.2.1 then
            bif !((v5.2.2.2.2.2.2.2.2.2.1==0)&&((v5.2.2.2.2.2.2.2.2.2.2.1==0)&&true)) then
             some (true,())
            else
             bif !v5.2.2.2.2.2.2.2.2.2.2.2.2.2.2.2.2.2.1 then
              bif v5.2.2.2.2.2.2.2.2.2.2.2.1 != 0 then
               some (true,())
              else
               bif !v5.2.2.2.2.2.2.2.2.2.2.2.2.2.2.2.2.2.2.1 then
                some (v5.2.2.2.2.2.2.2.2.2.2.2.2.1 != 0,())
               else
                some (false,())
             else
              bif !v5.2.2.2.2.2.2.2.2.2.2.2.2.2.2.2.2.2.2.1 then
               some (v5.2.2.2.2.2.2.2.2.2.2.2.2.1 != 0,())
              else
               some (false,())
           else
            bif !v5.2.2.2.2.2.2.2.2.2.2.2.2.2.2.2.2.2.1 then
             bif v5.2.2.2.2.2.2.2.2.2.2.2.1 != 0 then
              some (true,())
             else
              bif !v5.2.2.2.2.2.2.2.2.2.2.2.2.2.2.2.2.2.2.1 then
               some (v5.2.2.2.2.2.2.2.2.2.2.2.2.1 != 0,())
              else
               some (false,())
            else
             bif !v5.2.2.2.2.2.2.2.2.2.2.2.2.2.2.2.2.2.2.1 then
              some (v5.2.2.2.2.2.2.2.2.2.2.2.2.1 != 0,())
             else
              some (false,())
         else
          bif !v5.2.2.2.2.2.2.2.2.2.2.2.2.2.2.2.2.1 then
           bif !((v5.2.2.2.2.2.2.2.2.2.1==0)&&((v5.2.2.2.2.2.2.2.2.2.2.1==0)&&true)) then
            some (true,())
           else
            bif !v5.2.2.2.2.2.2.2.2.2.2.2.2.2.2.2.2.2.1 then
             bif v5.2.2.2.2.2.2.2.2.2.2.2.1 != 0 then
              some (true,())
             else
              bif !v5.2.2.2.2.2.2.2.2.2.2.2.2.2.2.2.2.2.2.1 then
               some (v5.2.2.2.2.2.2.2.2.2.2.2.2.1 != 0,())
              else
               some (false,())
            else
             bif !v5.2.2.2.2.2.2.2.2.2.2.2.2.2.2.2.2.2.2.1 then
              some (v5.2.2.2.2.2.2.2.2.2.2.2.2.1 != 0,())
             else
              some (false,())
          else
           bif !v5.2.2.2.2.2.2.2.2.2.2.2.2.2.2.2.2.2.1 then
            bif v5.2.2.2.2.2.2.2.2.2.2.2.1 != 0 then
             some (true,())
            else
             bif !v5.2.2.2.2.2.2.2.2.2.2.2.2.2.2.2.2.2.2.1 then
              some (v5.2.2.2.2.2.2.2.2.2.2.2.2.1 != 0,())
             else
              some (false,())
           else
            bif !v5.2.2.2.2.2.2.2.2.2.2.2.2.2.2.2.2.2.2.1 then
             some (v5.2.2.2.2.2.2.2.2.2.2.2.2.1 != 0,())
            else
             some (false,())
       else
        bif !v5.2.2.2.2.2.2.2.2.2.2.2.2.2.2.2.1 then
         bif !(v5.2.2.2.2.2.2.2.2.1==[]) then
          some (true,())
         else
          bif !v5.2.2.2.2.2.2.2.2.2.2.2.2.2.2.2.2.1 then
           bif !((v5.2.2.2.2.2.2.2.2.2.1==0)&&((v5.2.2.2.2.2.2.2.2.2.2.1==0)&&true)) then
            some (true,())
           else
            bif !v5.2.2.2.2.2.2.2.2.2.2.2.2.2.2.2.2.2.1 then
             bif v5.2.2.2.2.2.2.2.2.2.2.2.1 != 0 then
              some (true,())
             else
              bif !v5.2.2.2.2.2.2.2.2.2.2.2.2.2.2.2.2.2.2.1 then
               some (v5.2.2.2.2.2.2.2.2.2.2.2.2.1 != 0,())
              else
               some (false,())
            else
             bif !v5.2.2.2.2.2.2.2.2.2.2.2.2.2.2.2.2.2.2.1 then
              some (v5.2.2.2.2.2.2.2.2.2.2.2.2.1 != 0,())
             else
              some (false,())
          else
           bif !v5.2.2.2.2.2.2.2.2.2.2.2.2.2.2.2.2.2.1 then
            bif v5.2.2.2.2.2.2.2.2.2.2.2.1 != 0 then
             some (true,())
            else
             bif !v5.2.2.2.2.2.2.2.2.2.2.2.2.2.2.2.2.2.2.1 then
              some (v5.2.2.2.2.2.2.2.2.2.2.2.2.1 != 0,())
             else
              some (false,())
           else
            bif !v5.2.2.2.2.2.2.2.2.2.2.2.2.2.2.2.2.2.2.1 then
             some (v5.2.2.2.2.2.2.2.2.2.2.2.2.1 != 0,())
            else
             some (false,())
        else
         bif !v5.2.2.2.2.2.2.2.2.2.2.2.2.2.2.2.2.1 then
          bif !((v5.2.2.2.2.2.2.2.2.2.1==0)&&((v5.2.2.2.2.2.2.2.2.2.2.1==0)&&true)) then
           some (true,())
          else
           bif !v5.2.2.2.2.2.2.2.2.2.2.2.2.2.2.2.2.2.1 then
            bif v5.2.2.2.2.2.2.2.2.2.2.2.1 != 0 then
             some (true,())
            else
             bif !v5.2.2.2.2.2.2.2.2.2.2.2.2.2.2.2.2.2.2.1 then
              some (v5.2.2.2.2.2.2.2.2.2.2.2.2.1 != 0,())
             else
              some (false,())
           else
            bif !v5.2.2.2.2.2.2.2.2.2.2.2.2.2.2.2.2.2.2.1 then
             some (v5.2.2.2.2.2.2.2.2.2.2.2.2.1 != 0,())
            else
             some (false,())
         else
          bif !v5.2.2.2.2.2.2.2.2.2.2.2.2.2.2.2.2.2.1 then
           bif v5.2.2.2.2.2.2.2.2.2.2.2.1 != 0 then
            some (true,())
           else
            bif !v5.2.2.2.2.2.2.2.2.2.2.2.2.2.2.2.2.2.2.1 then
             some (v5.2.2.2.2.2.2.2.2.2.2.2.2.1 != 0,())
            else
             some (false,())
          else
           bif !v5.2.2.2.2.2.2.2.2.2.2.2.2.2.2.2.2.2.2.1 then
            some (v5.2.2.2.2.2.2.2.2.2.2.2.2.1 != 0,())
           else
            some (false,())
     else
      bif !v5.2.2.2.2.2.2.2.2.2.2.2.2.2.2.1 then
       bif !((v5.2.2.2.2.2.2.1==0)&&((v5.2.2.2.2.2.2.2.1==0)&&true)) then
        some (true,())
       else
        bif !v5.2.2.2.2.2.2.2.2.2.2.2.2.2.2.2.1 then
         bif !(v5.2.2.2.2.2.2.2.2.1==[]) then
          some (true,())
         else
          bif !v5.2.2.2.2.2.2.2.2.2.2.2.2.2.2.2.2.1 then
           bif !((v5.2.2.2.2.2.2.2.2.2.1==0)&&((v5.2.2.2.2.2.2.2.2.2.2.1==0)&&true)) then
            some (true,())
           else
            bif !v5.2.2.2.2.2.2.2.2.2.2.2.2.2.2.2.2.2.1 then
             bif v5.2.2.2.2.2.2.2.2.2.2.2.1 != 0 then
              some (true,())
             else
              bif !v5.2.2.2.2.2.2.2.2.2.2.2.2.2.2.2.2.2.2.1 then
               some (v5.2.2.2.2.2.2.2.2.2.2.2.2.1 != 0,())
              else
               some (false,())
            else
             bif !v5.2.2.2.2.2.2.2.2.2.2.2.2.2.2.2.2.2.2.1 then
              some (v5.2.2.2.2.2.2.2.2.2.2.2.2.1 != 0,())
             else
              some (false,())
          else
           bif !v5.2.2.2.2.2.2.2.2.2.2.2.2.2.2.2.2.2.1 then
            bif v5.2.2.2.2.2.2.2.2.2.2.2.1 != 0 then
             some (true,())
            else
             bif !v5.2.2.2.2.2.2.2.2.2.2.2.2.2.2.2.2.2.2.1 then
              some (v5.2.2.2.2.2.2.2.2.2.2.2.2.1 != 0,())
             else
              some (false,())
           else
            bif !v5.2.2.2.2.2.2.2.2.2.2.2.2.2.2.2.2.2.2.1 then
             some (v5.2.2.2.2.2.2.2.2.2.2.2.2.1 != 0,())
            else
             some (false,())
        else
         bif !v5.2.2.2.2.2.2.2.2.2.2.2.2.2.2.2.2.1 then
          bif !((v5.2.2.2.2.2.2.2.2.2.1==0)&&((v5.2.2.2.2.2.2.2.2.2.2.1==0)&&true)) then
           some (true,())
          else
           bif !v5.2.2.2.2.2.2.2.2.2.2.2.2.2.2.2.2.2.1 then
            bif v5.2.2.2.2.2.2.2.2.2.2.2.1 != 0 then
             some (true,())
            else
             bif !v5.2.2.2.2.2.2.2.2.2.2.2.2.2.2.2.2.2.2.1 then
              some (v5.2.2.2.2.2.2.2.2.2.2.2.2.1 != 0,())
             else
              some (false,())
           else
            bif !v5.2.2.2.2.2.2.2.2.2.2.2.2.2.2.2.2.2.2.1 then
             some (v5.2.2.2.2.2.2.2.2.2.2.2.2.1 != 0,())
            else
             some (false,())
         else
          bif !v5.2.2.2.2.2.2.2.2.2.2.2.2.2.2.2.2.2.1 then
           bif v5.2.2.2.2.2.2.2.2.2.2.2.1 != 0 then
            some (true,())
           else
            bif !v5.2.2.2.2.2.2.2.2.2.2.2.2.2.2.2.2.2.2.1 then
             some (v5.2.2.2.2.2.2.2.2.2.2.2.2.1 != 0,())
            else
             some (false,())
          else
           bif !v5.2.2.2.2.2.2.2.2.2.2.2.2.2.2.2.2.2.2.1 then
            some (v5.2.2.2.2.2.2.2.2.2.2.2.2.1 != 0,())
           else
            some (false,())
      else
       bif !v5.2.2.2.2.2.2.2.2.2.2.2.2.2.2.2.1 then
        bif !(v5.2.2.2.2.2.2.2.2.1==[]) then
         some (true,())
        else
         bif !v5.2.2.2.2.2.2.2.2.2.2.2.2.2.2.2.2.1 then
          bif !((v5.2.2.2.2.2.2.2.2.2.1==0)&&((v5.2.2.2.2.2.2.2.2.2.2.1==0)&&true)) then
           some (true,())
          else
           bif !v5.2.2.2.2.2.2.2.2.2.2.2.2.2.2.2.2.2.1 then
            bif v5.2.2.2.2.2.2.2.2.2.2.2.1 != 0 then
             some (true,())
            else
             bif !v5.2.2.2.2.2.2.2.2.2.2.2.2.2.2.2.2.2.2.1 then
              some (v5.2.2.2.2.2.2.2.2.2.2.2.2.1 != 0,())
             else
              some (false,())
           else
            bif !v5.2.2.2.2.2.2.2.2.2.2.2.2.2.2.2.2.2.2.1 then
             some (v5.2.2.2.2.2.2.2.2.2.2.2.2.1 != 0,())
            else
             some (false,())
         else
          bif !v5.2.2.2.2.2.2.2.2.2.2.2.2.2.2.2.2.2.1 then
           bif v5.2.2.2.2.2.2.2.2.2.2.2.1 != 0 then
            some (true,())
           else
            bif !v5.2.2.2.2.2.2.2.2.2.2.2.2.2.2.2.2.2.2.1 then
             some (v5.2.2.2.2.2.2.2.2.2.2.2.2.1 != 0,())
            else
             some (false,())
          else
           bif !v5.2.2.2.2.2.2.2.2.2.2.2.2.2.2.2.2.2.2.1 then
            some (v5.2.2.2.2.2.2.2.2.2.2.2.2.1 != 0,())
           else
            some (false,())
       else
        bif !v5.2.2.2.2.2.2.2.2.2.2.2.2.2.2.2.2.1 then
         bif !((v5.2.2.2.2.2.2.2.2.2.1==0)&&((v5.2.2.2.2.2.2.2.2.2.2.1==0)&&true)) then
          some (true,())
         else
          bif !v5.2.2.2.2.2.2.2.2.2.2.2.2.2.2.2.2.2.1 then
           bif v5.2.2.2.2.2.2.2.2.2.2.2.1 != 0 then
            some (true,())
           else
            bif !v5.2.2.2.2.2.2.2.2.2.2.2.2.2.2.2.2.2.2.1 then
             some (v5.2.2.2.2.2.2.2.2.2.2.2.2.1 != 0,())
            else
             some (false,())
          else
           bif !v5.2.2.2.2.2.2.2.2.2.2.2.2.2.2.2.2.2.2.1 then
            some (v5.2.2.2.2.2.2.2.2.2.2.2.2.1 != 0,())
           else
            some (false,())
        else
         bif !v5.2.2.2.2.2.2.2.2.2.2.2.2.2.2.2.2.2.1 then
          bif v5.2.2.2.2.2.2.2.2.2.2.2.1 != 0 then
           some (true,())
          else
           bif !v5.2.2.2.2.2.2.2.2.2.2.2.2.2.2.2.2.2.2.1 then
            some (v5.2.2.2.2.2.2.2.2.2.2.2.2.1 != 0,())
           else
            some (false,())
         else
          bif !v5.2.2.2.2.2.2.2.2.2.2.2.2.2.2.2.2.2.2.1 then
           some (v5.2.2.2.2.2.2.2.2.2.2.2.2.1 != 0,())
          else
           some (false,())) fun v14=>
    bif v14.1 then
     some (3,())
    else
     some (0,())
def ot (a0:aa):Option (Int×Unit):=
 Option.bind (kO a0.1) fun r1=>
 bif !r1.1 then
  some (1,())
 else
  Option.bind (dB a0.2.1 1 2) fun r2=>
  bif r2.1 then
   some (4,())
  else
   Option.bind (dB a0.2.2.1 1 2000) fun r3=>
   bif r3.1 then
    some (1,())
   else
    Option.bind (dB a0.2.2.2.1 1 11) fun r4=>
    bif r4.1 then
     some (4,())
    else
     Option.bind (kQ a0.2.2.2.1) fun r5=>
     bif !(r5.1==(a0.2.1==2)) then
      some (4,())
     else
      Option.bind (dB a0.2.2.2.2.1 1 99999) fun r6=>
      bif r6.1 then
       some (1,())
      else
       Option.bind (ov a0) fun r7=>
       some (r7.1,())
abbrev iH:Type:=Int×Int×(List Int)×Unit
abbrev iG:Type:=((Int×Unit) ⊕ Unit)
def me (x1:iH) (again:iH->Option iG):Option iG:=
 bif decide (x1.2.1<x1.1) then
  chk (decide (0<=x1.2.1)&&decide (x1.2.1<(x1.2.2.1.length:Int))) <|
  Option.bind (x1.2.2.1[x1.2.1.toNat]?) fun y2=>
  bif y2 != 0 then
   some (Sum.inl (y2,()))
  else
   again (x1.1,w64 (x1.2.1+1),x1.2.2.1,())
 else
  some (Sum.inr ())
def iw (a0:aa) (a1:aa):Option (Int×Unit):=
 aI (β:=(Int×Unit)) (γ:=Unit) (
  iter (X:=iH) (β:=iG) (Int.natAbs ((List.length [(w64 (a0.1 - a1.1)),(w64 (a0.2.1 - a1.2.1)),(w64 (a0.2.2.1 - a1.2.2.1))]:Int))+(Int.natAbs (0:Int)+(List.length ([(w64 (a0.1 - a1.1)),(w64 (a0.2.1 - a1.2.1)),(w64 (a0.2.2.1 - a1.2.2.1))]:List Int)+2))) ((List.length [(w64 (a0.1 - a1.1)),(w64 (a0.2.1 - a1.2.1)),(w64 (a0.2.2.1 - a1.2.2.1))]:Int),0,[(w64 (a0.1 - a1.1)),(w64 (a0.2.1 - a1.2.1)),(w64 (a0.2.2.1 - a1.2.2.1))],()) (me)) fun _=>
 some (0,())
abbrev gJ:Type:=(List aa)×(List aa)×Int×Int×Int×Int×Int×Unit
abbrev fo:Type:=((Int×Unit) ⊕ Unit)
def gI (x1:gJ) (again:gJ->Option fo):Option fo:=
 bif decide (x1.2.2.2.1<x1.2.2.1) then
  Option.bind (idx x1.2.1 x1.2.2.2.1) fun y2=>
  Option.bind (ot y2) fun r3=>
  bif r3.1 != 0 then
   some (Sum.inl (r3.1,()))
  else
   Option.bind (
    bif decide (x1.2.2.2.1>0) then
     Option.bind (idx x1.1 (w64 (x1.2.2.2.1 - 1))) fun y4=>
     Option.bind (iw y4 y2) fun r5=>
     some (decide (r5.1>=0),())
    else
     some (false,())) fun v6=>
   bif v6.1 then
    some (Sum.inl (8,()))
   else
    bif y2.2.1==0 then
     bif y2.2.2.1 != (w64 (x1.2.2.2.2.1+1)) then
      some (Sum.inl (9,()))
     else
      bif y2.2.1==0 then
       again (x1.1,x1.2.1,x1.2.2.1,w64 (x1.2.2.2.1+1),y2.2.2.1,x1.2.2.2.2.2.1,x1.2.2.2.2.2.2.1,())
      else
       bif y2.2.1==1 then
        again (x1.1,x1.2.1,x1.2.2.1,w64 (x1.2.2.2.1+1),x1.2.2.2.2.1,y2.2.2.1,x1.2.2.2.2.2.2.1,())
       else
        bif y2.2.1==2 then
         again (x1.1,x1.2.1,x1.2.2.1,w64 (x1.2.2.2.1+1),x1.2.2.2.2.1,x1.2.2.2.2.2.1,y2.2.2.1,())
        else
         none
    else
     bif y2.2.1==1 then
      bif y2.2.2.1 != (w64 (x1.2.2.2.2.2.1+1)) then
       some (Sum.inl (9,()))
      else
       bif y2.2.1==0 then
        again (x1.1,x1.2.1,x1.2.2.1,w64 (x1.2.2.2.1+1),y2.2.2.1,x1.2.2.2.2.2.1,x1.2.2.2.2.2.2.1,())
       else
        bif y2.2.1==1 then
         again (x1.1,x1.2.1,x1.2.2.1,w64 (x1.2.2.2.1+1),x1.2.2.2.2.1,y2.2.2.1,x1.2.2.2.2.2.2.1,())
        else
         bif y2.2.1==2 then
          again (x1.1,x1.2.1,x1.2.2.1,w64 (x1.2.2.2.1+1),x1.2.2.2.2.1,x1.2.2.2.2.2.1,y2.2.2.1,())
         else
          none
     else
      bif y2.2.1==2 then
       bif y2.2.2.1 != (w64 (x1.2.2.2.2.2.2.1+1)) then
        some (Sum.inl (9,()))
       else
        bif y2.2.1==0 then
         again (x1.1,x1.2.1,x1.2.2.1,w64 (x1.2.2.2.1+1),y2.2.2.1,x1.2.2.2.2.2.1,x1.2.2.2.2.2.2.1,())
        else
         bif y2.2.1==1 then
          again (x1.1,x1.2.1,x1.2.2.1,w64 (x1.2.2.2.1+1),x1.2.2.2.2.1,y2.2.2.1,x1.2.2.2.2.2.2.1,())
         else
          bif y2.2.1==2 then
           again (x1.1,x1.2.1,x1.2.2.1,w64 (x1.2.2.2.1+1),x1.2.2.2.2.1,x1.2.2.2.2.2.1,y2.2.2.1,())
          else
           none
      else
       none
 else
  some (Sum.inr ())
def cU (a0:List aa):Option (Int×Unit):=
 bif decide (((List.length a0:Int))>2000) then
  some (2,())
 else
  aI (β:=(Int×Unit)) (γ:=Unit) (
   iter (X:=gJ) (β:=fo) (List.length a0+(List.length a0+(Int.natAbs ((List.length a0:Int))+(Int.natAbs (0:Int)+(Int.natAbs (0:Int)+(Int.natAbs (0:Int)+(Int.natAbs (0:Int)+2))))))) (a0,a0,(List.length a0:Int),0,0,0,0,()) (gI)) fun _=>
  some (0,())
def nA (a0:aj) (a1:List aa):Option (Int×Unit):=
 Option.bind (cV a0) fun r1=>
 bif r1.1 != 0 then
  some (r1.1,())
 else
  Option.bind (cU a1) fun r2=>
  some (r2.1,())
def fD (a0:ah):Option (Int×Unit):=
 Option.bind (uS (w64 (3 - a0.2))) fun r1=>
 some (w64 (a0.1*r1.1),())
abbrev jh:Type:=(List ai)×Int×Int×(List UInt8)×(List UInt8)×(List UInt8)×Int×Int×(List ai)×(List aa)×(List ah)×(List az)×Int×(List (Int×(Option Nat)))×(List aF)×Unit
abbrev mT:Type:=(((aj×(List aa)×(List (Int×(Option Nat)))×(List ah)×(List az)×Int×Unit)×(List aF)×Unit) ⊕ ((List UInt8)×(List UInt8)×(List UInt8)×Int×Int×(List ai)×(List aa)×(List ah)×(List az)×Int×(List (Int×(Option Nat)))×(List aF)×Unit))
def jg (x1:jh) (again:jh->Option mT):Option mT:=
 bif decide (x1.2.2.1<x1.2.1) then
  Option.bind (idx x1.1 x1.2.2.1) fun y2=>
  Option.bind (fD y2.2.2.1) fun r3=>
  again (x1.1,x1.2.1,w64 (x1.2.2.1+1),x1.2.2.2.1,x1.2.2.2.2.1,x1.2.2.2.2.2.1,x1.2.2.2.2.2.2.1,x1.2.2.2.2.2.2.2.1,x1.2.2.2.2.2.2.2.2.1,x1.2.2.2.2.2.2.2.2.2.1,x1.2.2.2.2.2.2.2.2.2.2.1,x1.2.2.2.2.2.2.2.2.2.2.2.1,x1.2.2.2.2.2.2.2.2.2.2.2.2.1,jB (k:=tI) (v:= .hnd) x1.2.2.2.2.2.2.2.2.2.2.2.2.2.1 y2.1 (some (x1.2.2.2.2.2.2.2.2.2.2.2.2.2.2.1.length)),x1.2.2.2.2.2.2.2.2.2.2.2.2.2.2.1++[(y2.1,y2.2.1,y2.2.2.2.1,r3.1,0,0,0,y2.2.2.2.2.1,y2.2.2.2.2.2,(-1),0,0,0)],())
 else
  some (Sum.inr (x1.2.2.2.1,x1.2.2.2.2.1,x1.2.2.2.2.2.1,x1.2.2.2.2.2.2.1,x1.2.2.2.2.2.2.2.1,x1.2.2.2.2.2.2.2.2.1,x1.2.2.2.2.2.2.2.2.2.1,x1.2.2.2.2.2.2.2.2.2.2.1,x1.2.2.2.2.2.2.2.2.2.2.2.1,x1.2.2.2.2.2.2.2.2.2.2.2.2.1,x1.2.2.2.2.2.2.2.2.2.2.2.2.2.1,x1.2.2.2.2.2.2.2.2.2.2.2.2.2.2.1,()))
def gz (a0:aj) (a1:List aa) (a2:List aF):Option ((aj×(List aa)×(List (Int×(Option Nat)))×(List ah)×(List az)×Int×Unit)×(List aF)×Unit):=
 aI (β:=((aj×(List aa)×(List (Int×(Option Nat)))×(List ah)×(List az)×Int×Unit)×(List aF)×Unit)) (γ:=((List UInt8)×(List UInt8)×(List UInt8)×Int×Int×(List ai)×(List aa)×(List ah)×(List az)×Int×(List (Int×(Option Nat)))×(List aF)×Unit)) (
  iter (X:=jh) (β:=mT) (a0.2.2.2.2.2.length+(Int.natAbs ((a0.2.2.2.2.2.length:Int))+(Int.natAbs (0:Int)+(a0.1.length+(a0.2.1.length+(a0.2.2.1.length+(a0.2.2.2.1.natAbs+(a0.2.2.2.2.1.natAbs+(a0.2.2.2.2.2.length+(List.length a1+(List.length ([]:List ah)+(List.length ([]:List az)+(Int.natAbs (0:Int)+(List.length ([]:List (Int×(Option Nat)))+(List.length a2+2))))))))))))))) (a0.2.2.2.2.2,(a0.2.2.2.2.2.length:Int),0,a0.1,a0.2.1,a0.2.2.1,a0.2.2.2.1,a0.2.2.2.2.1,a0.2.2.2.2.2,a1,[],[],0,[],a2,()) (jg)) fun v4=>
 some (((v4.1,v4.2.1,v4.2.2.1,v4.2.2.2.1,v4.2.2.2.2.1,v4.2.2.2.2.2.1),v4.2.2.2.2.2.2.1,v4.2.2.2.2.2.2.2.2.2.2.1,v4.2.2.2.2.2.2.2.1,v4.2.2.2.2.2.2.2.2.1,v4.2.2.2.2.2.2.2.2.2.1,()),v4.2.2.2.2.2.2.2.2.2.2.2.1,())
def kP (a0:aj×(List aa)×(List (Int×(Option Nat)))×(List ah)×(List az)×Int×Unit) (a1:Int) (a2:List aF):Option (Int×(aj×(List aa)×(List (Int×(Option Nat)))×(List ah)×(List az)×Int×Unit)×(List aF)×Unit):=
 Option.bind (idx a0.2.1 a1) fun y1=>
 bif !(Option.isNone (Option.getD (α:=Option Nat) (dL (k:=tI) (v:= .hnd) a0.2.2.1 y1.2.2.2.2.1) none)) then
  some (7,(a0.1,a0.2.1,a0.2.2.1,a0.2.2.2.1,a0.2.2.2.2.1,a0.2.2.2.2.2.1,()),a2,())
 else
  bif decide (((a0.2.2.1.length:Int))>=500) then
   some (16,(a0.1,a0.2.1,a0.2.2.1,a0.2.2.2.1,a0.2.2.2.2.1,a0.2.2.2.2.2.1,()),a2,())
  else
   bif decide (y1.2.2.2.2.2.2.2.2.2.1<a0.1.2.2.2.1) then
    some (1,(a0.1,a0.2.1,a0.2.2.1,a0.2.2.2.1,a0.2.2.2.2.1,a0.2.2.2.2.2.1,()),a2,())
   else
    some (0,(a0.1,a0.2.1,jB (k:=tI) (v:= .hnd) a0.2.2.1 y1.2.2.2.2.1 (some (List.length a2)),a0.2.2.2.1,a0.2.2.2.2.1,a0.2.2.2.2.2.1,()),a2++[(y1.2.2.2.2.1,y1.2.2.2.2.2.1,y1.2.2.2.2.2.2.2.1,0,0,0,0,y1.2.2.2.2.2.2.2.2.1,y1.2.2.2.2.2.2.2.2.2.1,a1,0,0,0)],())
def jS (a0:aj×(List aa)×(List (Int×(Option Nat)))×(List ah)×(List az)×Int×Unit) (a1:Option Nat) (a2:Int) (a3:List aF):Option (Int×(aj×(List aa)×(List (Int×(Option Nat)))×(List ah)×(List az)×Int×Unit)×(List aF)×Unit):=
 Option.bind (idx a0.2.1 a2) fun y1=>
 Option.bind (
  bif y1.2.2.2.1==3 then
   some (decide (y1.2.2.2.2.2.2.2.2.2.1<a0.1.2.2.2.1),())
  else
   some (false,())) fun v2=>
 bif v2.1 then
  some (1,(a0.1,a0.2.1,a0.2.2.1,a0.2.2.2.1,a0.2.2.2.2.1,a0.2.2.2.2.2.1,()),a3,())
 else
  Option.bind (a1) fun h3=>
  Option.bind (a3[h3]?) fun y4=>
  bif decide (y4.2.2.2.2.2.2.2.2.2.1>=0) then
   some (11,(a0.1,a0.2.1,a0.2.2.1,a0.2.2.2.1,a0.2.2.2.2.1,a0.2.2.2.2.2.1,()),a3,())
  else
   Option.bind (a1) fun h5=>
   Option.bind (a3[h5]?) fun y6=>
   some (0,(a0.1,a0.2.1,a0.2.2.1,a0.2.2.2.1,a0.2.2.2.2.1,a0.2.2.2.2.2.1,()),List.set a3 h5 (y6.1,y6.2.1,y6.2.2.1,y6.2.2.2.1,y6.2.2.2.2.1,y6.2.2.2.2.2.1,y6.2.2.2.2.2.2.1,y6.2.2.2.2.2.2.2.1,y6.2.2.2.2.2.2.2.2.1,a2,y6.2.2.2.2.2.2.2.2.2.2),())
def iI (a0:aj×(List aa)×(List (Int×(Option Nat)))×(List ah)×(List az)×Int×Unit) (a1:Option Nat) (a2:aa) (a3:List aF):Option (Int×(aj×(List aa)×(List (Int×(Option Nat)))×(List ah)×(List az)×Int×Unit)×(List aF)×Unit):=
 Option.bind (a1) fun h1=>
 Option.bind (a3[h1]?) fun y2=>
 bif decide (y2.2.2.2.2.2.2.2.2.2.1<0) then
  some (5,(a0.1,a0.2.1,a0.2.2.1,a0.2.2.2.1,a0.2.2.2.2.1,a0.2.2.2.2.2.1,()),a3,())
 else
  Option.bind (a1) fun h3=>
  Option.bind (a3[h3]?) fun y4=>
  Option.bind (idx a0.2.1 y4.2.2.2.2.2.2.2.2.2.1) fun y5=>
  bif y5.2.2.1 != a2.2.2.2.2.2.2.2.2.2.2 then
   some (5,(a0.1,a0.2.1,a0.2.2.1,a0.2.2.2.1,a0.2.2.2.2.1,a0.2.2.2.2.2.1,()),a3,())
  else
   Option.bind (a1) fun h6=>
   Option.bind (a3[h6]?) fun y7=>
   Option.bind (idx a0.2.1 y7.2.2.2.2.2.2.2.2.2.1) fun y8=>
   bif a2.2.2.2.1==5 then
    bif y8.2.2.2.1==2 then
     Option.bind (fD y8.2.2.2.2.2.2.1) fun r9=>
     Option.bind (a1) fun h10=>
     Option.bind (a3[h10]?) fun y11=>
     Option.bind (a1) fun h12=>
     Option.bind (a3[h12]?) fun y13=>
     bif decide (r9.1<(w64 (y11.2.2.2.2.1 - y13.2.2.2.2.2.2.1))) then
      some (12,(a0.1,a0.2.1,a0.2.2.1,a0.2.2.2.1,a0.2.2.2.2.1,a0.2.2.2.2.2.1,()),a3,())
     else
      Option.bind (fD y8.2.2.2.2.2.2.1) fun r14=>
      Option.bind (a1) fun h15=>
      Option.bind (a3[h15]?) fun y16=>
      Option.bind (a1) fun h17=>
      Option.bind ((List.set a3 h15 (y16.1,y16.2.1,y16.2.2.1,r14.1,y16.2.2.2.2))[h17]?) fun y18=>
      some (0,(a0.1,a0.2.1,a0.2.2.1,a0.2.2.2.1,a0.2.2.2.2.1,a0.2.2.2.2.2.1,()),List.set (List.set a3 h15 (y16.1,y16.2.1,y16.2.2.1,r14.1,y16.2.2.2.2)) h17 (y18.1,y18.2.1,y18.2.2.1,y18.2.2.2.1,y18.2.2.2.2.1,y18.2.2.2.2.2.1,y18.2.2.2.2.2.2.1,y18.2.2.2.2.2.2.2.1,y18.2.2.2.2.2.2.2.2.1,(-1),y18.2.2.2.2.2.2.2.2.2.2),())
    else
     bif y8.2.2.2.1==1 then
      Option.bind (fD y8.2.2.2.2.2.2.1) fun r19=>
      Option.bind (a1) fun h20=>
      Option.bind (a3[h20]?) fun y21=>
      Option.bind (a1) fun h22=>
      Option.bind ((List.set a3 h20 (y21.1,y21.2.1,y21.2.2.1,r19.1,y21.2.2.2.2))[h22]?) fun y23=>
      some (0,(a0.1,a0.2.1,a0.2.2.1,a0.2.2.2.1,a0.2.2.2.2.1,a0.2.2.2.2.2.1,()),List.set (List.set a3 h20 (y21.1,y21.2.1,y21.2.2.1,r19.1,y21.2.2.2.2)) h22 (y23.1,y23.2.1,y23.2.2.1,y23.2.2.2.1,y23.2.2.2.2.1,y23.2.2.2.2.2.1,y23.2.2.2.2.2.2.1,y23.2.2.2.2.2.2.2.1,y23.2.2.2.2.2.2.2.2.1,(-1),y23.2.2.2.2.2.2.2.2.2.2),())
     else
      bif y8.2.2.2.1==3 then
       Option.bind (a1) fun h24=>
       Option.bind (a3[h24]?) fun y25=>
       Option.bind (a1) fun h26=>
       Option.bind ((List.set a3 h24 (y25.1,y25.2.1,y25.2.2.1,y25.2.2.2.1,y25.2.2.2.2.1,y25.2.2.2.2.2.1,y25.2.2.2.2.2.2.1,y25.2.2.2.2.2.2.2.1,y8.2.2.2.2.2.2.2.2.2.1,y25.2.2.2.2.2.2.2.2.2))[h26]?) fun y27=>
       some (0,(a0.1,a0.2.1,a0.2.2.1,a0.2.2.2.1,a0.2.2.2.2.1,a0.2.2.2.2.2.1,()),List.set (List.set a3 h24 (y25.1,y25.2.1,y25.2.2.1,y25.2.2.2.1,y25.2.2.2.2.1,y25.2.2.2.2.2.1,y25.2.2.2.2.2.2.1,y25.2.2.2.2.2.2.2.1,y8.2.2.2.2.2.2.2.2.2.1,y25.2.2.2.2.2.2.2.2.2)) h26 (y27.1,y27.2.1,y27.2.2.1,y27.2.2.2.1,y27.2.2.2.2.1,y27.2.2.2.2.2.1,y27.2.2.2.2.2.2.1,y27.2.2.2.2.2.2.2.1,y27.2.2.2.2.2.2.2.2.1,(-1),y27.2.2.2.2.2.2.2.2.2.2),())
      else
       Option.bind (a1) fun h28=>
       Option.bind (a3[h28]?) fun y29=>
       Option.bind (a1) fun h30=>
       Option.bind ((List.set a3 h28 (y29.1,y29.2.1,y29.2.2.1,y29.2.2.2.1,y29.2.2.2.2.1,y29.2.2.2.2.2.1,y29.2.2.2.2.2.2.1,y8.2.2.2.2.2.2.2.2.1,y29.2.2.2.2.2.2.2.2))[h30]?) fun y31=>
       some (0,(a0.1,a0.2.1,a0.2.2.1,a0.2.2.2.1,a0.2.2.2.2.1,a0.2.2.2.2.2.1,()),List.set (List.set a3 h28 (y29.1,y29.2.1,y29.2.2.1,y29.2.2.2.1,y29.2.2.2.2.1,y29.2.2.2.2.2.1,y29.2.2.2.2.2.2.1,y8.2.2.2.2.2.2.2.2.1,y29.2.2.2.2.2.2.2.2)) h30 (y31.1,y31.2.1,y31.2.2.1,y31.2.2.2.1,y31.2.2.2.2.1,y31.2.2.2.2.2.1,y31.2.2.2.2.2.2.1,y31.2.2.2.2.2.2.2.1,y31.2.2.2.2.2.2.2.2.1,(-1),y31.2.2.2.2.2.2.2.2.2.2),())
   else
    Option.bind (a1) fun h32=>
    Option.bind (a3[h32]?) fun y33=>
    some (0,(a0.1,a0.2.1,a0.2.2.1,a0.2.2.2.1,a0.2.2.2.2.1,a0.2.2.2.2.2.1,()),List.set a3 h32 (y33.1,y33.2.1,y33.2.2.1,y33.2.2.2.1,y33.2.2.2.2.1,y33.2.2.2.2.2.1,y33.2.2.2.2.2.2.1,y33.2.2.2.2.2.2.2.1,y33.2.2.2.2.2.2.2.2.1,(-1),y33.2.2.2.2.2.2.2.2.2.2),())
def iM (a0:Option Nat) (a1:List aF):Option (Int×Unit):=
 Option.bind (a0) fun h1=>
 Option.bind (a1[h1]?) fun y2=>
 Option.bind (a0) fun h3=>
 Option.bind (a1[h3]?) fun y4=>
 Option.bind (a0) fun h5=>
 Option.bind (a1[h5]?) fun y6=>
 some (if (w64 ((w64 (y2.2.2.2.1 - y4.2.2.2.2.1))+y6.2.2.2.2.2.2.1))>0 then (w64 ((w64 (y2.2.2.2.1 - y4.2.2.2.2.1))+y6.2.2.2.2.2.2.1)) else 0,())
def ig (a0:aj×(List aa)×(List (Int×(Option Nat)))×(List ah)×(List az)×Int×Unit) (a1:Option Nat) (a2:aa) (a3:List aF):Option (Int×(aj×(List aa)×(List (Int×(Option Nat)))×(List ah)×(List az)×Int×Unit)×(List aF)×Unit):=
 bif decide (a2.2.2.2.2.2.2.2.2.2.1<a0.1.2.2.2.1) then
  some (1,(a0.1,a0.2.1,a0.2.2.1,a0.2.2.2.1,a0.2.2.2.2.1,a0.2.2.2.2.2.1,()),a3,())
 else
  Option.bind (a1) fun h1=>
  Option.bind (a3[h1]?) fun y2=>
  bif decide (y2.2.2.2.2.2.2.2.2.2.1>=0) then
   some (11,(a0.1,a0.2.1,a0.2.2.1,a0.2.2.2.1,a0.2.2.2.2.1,a0.2.2.2.2.2.1,()),a3,())
  else
   Option.bind (iM a1 a3) fun r3=>
   bif r3.1==0 then
    some (11,(a0.1,a0.2.1,a0.2.2.1,a0.2.2.2.1,a0.2.2.2.2.1,a0.2.2.2.2.2.1,()),a3,())
   else
    Option.bind (fD a2.2.2.2.2.2.2.1) fun r4=>
    Option.bind (iM a1 a3) fun r5=>
    bif decide (r4.1>r5.1) then
     some (12,(a0.1,a0.2.1,a0.2.2.1,a0.2.2.2.1,a0.2.2.2.2.1,a0.2.2.2.2.2.1,()),a3,())
    else
     some (0,(a0.1,a0.2.1,a0.2.2.1,a0.2.2.2.1,a0.2.2.2.2.1,a0.2.2.2.2.2.1,()),a3,())
def jR (a0:aj×(List aa)×(List (Int×(Option Nat)))×(List ah)×(List az)×Int×Unit) (a1:Option Nat) (a2:aa) (a3:List aF):Option (Int×(aj×(List aa)×(List (Int×(Option Nat)))×(List ah)×(List az)×Int×Unit)×(List aF)×Unit):=
 Option.bind (a1) fun h1=>
 Option.bind (a3[h1]?) fun y2=>
 bif decide (y2.2.2.2.2.2.2.2.2.2.1>=0) then
  some (11,(a0.1,a0.2.1,a0.2.2.1,a0.2.2.2.1,a0.2.2.2.2.1,a0.2.2.2.2.2.1,()),a3,())
 else
  Option.bind (a1) fun h3=>
  Option.bind (a3[h3]?) fun y4=>
  bif y4.2.2.2.2.2.2.2.2.2.2.1==0 then
   some (5,(a0.1,a0.2.1,a0.2.2.1,a0.2.2.2.1,a0.2.2.2.2.1,a0.2.2.2.2.2.1,()),a3,())
  else
   Option.bind (a1) fun h5=>
   Option.bind (a3[h5]?) fun y6=>
   bif y6.2.2.2.2.2.2.2.2.2.2.1 != a2.2.2.2.2.2.2.2.2.2.2 then
    some (5,(a0.1,a0.2.1,a0.2.2.1,a0.2.2.2.1,a0.2.2.2.2.1,a0.2.2.2.2.2.1,()),a3,())
   else
    Option.bind (a1) fun h7=>
    Option.bind (a3[h7]?) fun y8=>
    Option.bind (a1) fun h9=>
    Option.bind (a3[h9]?) fun y10=>
    Option.bind (a1) fun h11=>
    Option.bind (a3[h11]?) fun y12=>
    Option.bind (a1) fun h13=>
    Option.bind (a3[h13]?) fun y14=>
    Option.bind (a1) fun h15=>
    Option.bind (a3[h15]?) fun y16=>
    Option.bind (a1) fun h17=>
    Option.bind ((List.set a3 h15 (y16.1,y16.2.1,y16.2.2.1,w64 ((w64 (y8.2.2.2.2.1 - y10.2.2.2.2.2.2.1))+y12.2.2.2.2.2.2.2.2.2.2.2.1),y16.2.2.2.2))[h17]?) fun y18=>
    Option.bind (a1) fun h19=>
    Option.bind ((List.set (List.set a3 h15 (y16.1,y16.2.1,y16.2.2.1,w64 ((w64 (y8.2.2.2.2.1 - y10.2.2.2.2.2.2.1))+y12.2.2.2.2.2.2.2.2.2.2.2.1),y16.2.2.2.2)) h17 (y18.1,y18.2.1,y18.2.2.1,y18.2.2.2.1,y18.2.2.2.2.1,y18.2.2.2.2.2.1,y18.2.2.2.2.2.2.1,y18.2.2.2.2.2.2.2.1,y14.2.2.2.2.2.2.2.2.2.2.2.2,y18.2.2.2.2.2.2.2.2.2))[h19]?) fun y20=>
    some (0,(a0.1,a0.2.1,a0.2.2.1,a0.2.2.2.1,a0.2.2.2.2.1,a0.2.2.2.2.2.1,()),List.set (List.set (List.set a3 h15 (y16.1,y16.2.1,y16.2.2.1,w64 ((w64 (y8.2.2.2.2.1 - y10.2.2.2.2.2.2.1))+y12.2.2.2.2.2.2.2.2.2.2.2.1),y16.2.2.2.2)) h17 (y18.1,y18.2.1,y18.2.2.1,y18.2.2.2.1,y18.2.2.2.2.1,y18.2.2.2.2.2.1,y18.2.2.2.2.2.2.1,y18.2.2.2.2.2.2.2.1,y14.2.2.2.2.2.2.2.2.2.2.2.2,y18.2.2.2.2.2.2.2.2.2)) h19 (y20.1,y20.2.1,y20.2.2.1,y20.2.2.2.1,y20.2.2.2.2.1,y20.2.2.2.2.2.1,y20.2.2.2.2.2.2.1,y20.2.2.2.2.2.2.2.1,y20.2.2.2.2.2.2.2.2.1,y20.2.2.2.2.2.2.2.2.2.1,0,0,0),())
def jQ (a0:aj×(List aa)×(List (Int×(Option Nat)))×(List ah)×(List az)×Int×Unit) (a1:Option Nat) (a2:aa) (a3:List aF):Option (Int×(aj×(List aa)×(List (Int×(Option Nat)))×(List ah)×(List az)×Int×Unit)×(List aF)×Unit):=
 Option.bind (fD a2.2.2.2.2.2.2.1) fun r1=>
 bif a2.2.2.2.1==9 then
  Option.bind (a1) fun h2=>
  Option.bind (a3[h2]?) fun y3=>
  Option.bind (a1) fun h4=>
  Option.bind (a3[h4]?) fun y5=>
  Option.bind (a1) fun h6=>
  Option.bind (a3[h6]?) fun y7=>
  Option.bind (a1) fun h8=>
  Option.bind (a3[h8]?) fun y9=>
  let n10:Int:=w64 (y7.2.2.2.1+(w64 (Int.tdiv (w64 (y9.2.2.2.1*a0.1.2.2.2.2.1)) 1000)))
  bif decide ((w64 ((w64 (y3.2.2.2.2.1 - y5.2.2.2.2.2.2.1))+r1.1))>n10) then
   some (12,(a0.1,a0.2.1,a0.2.2.1,a0.2.2.2.1,a0.2.2.2.2.1,a0.2.2.2.2.2.1,()),a3,())
  else
   Option.bind (a1) fun h11=>
   Option.bind (a3[h11]?) fun y12=>
   bif decide ((w64 (y12.2.2.2.2.1+r1.1))>1000000000000000) then
    some (16,(a0.1,a0.2.1,a0.2.2.1,a0.2.2.2.1,a0.2.2.2.2.1,a0.2.2.2.2.2.1,()),a3,())
   else
    Option.bind (a1) fun h13=>
    Option.bind (a3[h13]?) fun y14=>
    Option.bind (a1) fun h15=>
    Option.bind (a3[h15]?) fun y16=>
    some (0,(a0.1,a0.2.1,a0.2.2.1,a0.2.2.2.1,a0.2.2.2.2.1,a0.2.2.2.2.2.1,()),List.set a3 h15 (y16.1,y16.2.1,y16.2.2.1,y16.2.2.2.1,w64 (y14.2.2.2.2.1+r1.1),y16.2.2.2.2.2),())
 else
  bif a2.2.2.2.1==10 then
   Option.bind (a1) fun h17=>
   Option.bind (a3[h17]?) fun y18=>
   Option.bind (a1) fun h19=>
   Option.bind (a3[h19]?) fun y20=>
   bif decide ((w64 (y18.2.2.2.2.2.1+r1.1))>y20.2.2.2.2.1) then
    some (12,(a0.1,a0.2.1,a0.2.2.1,a0.2.2.2.1,a0.2.2.2.2.1,a0.2.2.2.2.2.1,()),a3,())
   else
    Option.bind (a1) fun h21=>
    Option.bind (a3[h21]?) fun y22=>
    Option.bind (a1) fun h23=>
    Option.bind (a3[h23]?) fun y24=>
    some (0,(a0.1,a0.2.1,a0.2.2.1,a0.2.2.2.1,a0.2.2.2.2.1,a0.2.2.2.2.2.1,()),List.set a3 h23 (y24.1,y24.2.1,y24.2.2.1,y24.2.2.2.1,y24.2.2.2.2.1,w64 (y22.2.2.2.2.2.1+r1.1),y24.2.2.2.2.2.2),())
  else
   Option.bind (a1) fun h25=>
   Option.bind (a3[h25]?) fun y26=>
   Option.bind (a1) fun h27=>
   Option.bind (a3[h27]?) fun y28=>
   bif decide ((w64 (y26.2.2.2.2.2.2.1+r1.1))>y28.2.2.2.2.2.1) then
    some (12,(a0.1,a0.2.1,a0.2.2.1,a0.2.2.2.1,a0.2.2.2.2.1,a0.2.2.2.2.2.1,()),a3,())
   else
    Option.bind (a1) fun h29=>
    Option.bind (a3[h29]?) fun y30=>
    Option.bind (a1) fun h31=>
    Option.bind (a3[h31]?) fun y32=>
    some (0,(a0.1,a0.2.1,a0.2.2.1,a0.2.2.2.1,a0.2.2.2.2.1,a0.2.2.2.2.2.1,()),List.set a3 h31 (y32.1,y32.2.1,y32.2.2.1,y32.2.2.2.1,y32.2.2.2.2.1,y32.2.2.2.2.2.1,w64 (y30.2.2.2.2.2.2.1+r1.1),y32.2.2.2.2.2.2.2),())
def aJ (a0:aj×(List aa)×(List (Int×(Option Nat)))×(List ah)×(List az)×Int×Unit) (a1:Int) (a2:List aF):Option (Int×(aj×(List aa)×(List (Int×(Option Nat)))×(List ah)×(List az)×Int×Unit)×(List aF)×Unit):=
 Option.bind (idx a0.2.1 a1) fun y1=>
 bif y1.2.2.2.1==1 then
  Option.bind (kP (a0.1,a0.2.1,a0.2.2.1,a0.2.2.2.1,a0.2.2.2.2.1,a0.2.2.2.2.2.1,()) a1 a2) fun r2=>
  some (r2.1,(r2.2.1.1,r2.2.1.2.1,r2.2.1.2.2.1,r2.2.1.2.2.2.1,r2.2.1.2.2.2.2.1,r2.2.1.2.2.2.2.2.1,()),r2.2.2.1,())
 else
  bif Option.isNone (Option.getD (α:=Option Nat) (dL (k:=tI) (v:= .hnd) a0.2.2.1 y1.2.2.2.2.1) none) then
   some (9,(a0.1,a0.2.1,a0.2.2.1,a0.2.2.2.1,a0.2.2.2.2.1,a0.2.2.2.2.2.1,()),a2,())
  else
   aI (β:=(Int×(aj×(List aa)×(List (Int×(Option Nat)))×(List ah)×(List az)×Int×Unit)×(List aF)×Unit)) (γ:=(Int×(Option Nat)×Int×Bool×Int×Int×Int×Int×Int×(List UInt8)×Int×Int×(List UInt8)×Int×Int×Int×Int×(List UInt8)×(List UInt8)×(List UInt8)×Int×Int×(List ai)×(List aa)×Int×(List ah)×(List az)×(List (Int×(Option Nat)))×(List aF)×Unit)) (
    bif y1.2.2.2.1==2 then
     some (Sum.inr (a1,Option.getD (α:=Option Nat) (dL (k:=tI) (v:= .hnd) a0.2.2.1 y1.2.2.2.2.1) none,y1.2.2.2.1,y1.2.2.2.1==2,y1.1,y1.2.1,y1.2.2.1,y1.2.2.2.1,y1.2.2.2.2.1,y1.2.2.2.2.2.1,y1.2.2.2.2.2.2.1.1,y1.2.2.2.2.2.2.1.2,y1.2.2.2.2.2.2.2.1,y1.2.2.2.2.2.2.2.2.1.1,y1.2.2.2.2.2.2.2.2.1.2,y1.2.2.2.2.2.2.2.2.2.1,y1.2.2.2.2.2.2.2.2.2.2,a0.1.1,a0.1.2.1,a0.1.2.2.1,a0.1.2.2.2.1,a0.1.2.2.2.2.1,a0.1.2.2.2.2.2,a0.2.1,a0.2.2.2.2.2.1,a0.2.2.2.1,a0.2.2.2.2.1,a0.2.2.1,a2,()))
    else
     bif y1.2.2.2.1==3 then
      some (Sum.inr (a1,Option.getD (α:=Option Nat) (dL (k:=tI) (v:= .hnd) a0.2.2.1 y1.2.2.2.2.1) none,y1.2.2.2.1,y1.2.2.2.1==3,y1.1,y1.2.1,y1.2.2.1,y1.2.2.2.1,y1.2.2.2.2.1,y1.2.2.2.2.2.1,y1.2.2.2.2.2.2.1.1,y1.2.2.2.2.2.2.1.2,y1.2.2.2.2.2.2.2.1,y1.2.2.2.2.2.2.2.2.1.1,y1.2.2.2.2.2.2.2.2.1.2,y1.2.2.2.2.2.2.2.2.2.1,y1.2.2.2.2.2.2.2.2.2.2,a0.1.1,a0.1.2.1,a0.1.2.2.1,a0.1.2.2.2.1,a0.1.2.2.2.2.1,a0.1.2.2.2.2.2,a0.2.1,a0.2.2.2.2.2.1,a0.2.2.2.1,a0.2.2.2.2.1,a0.2.2.1,a2,()))
     else
      some (Sum.inr (a1,Option.getD (α:=Option Nat) (dL (k:=tI) (v:= .hnd) a0.2.2.1 y1.2.2.2.2.1) none,y1.2.2.2.1,y1.2.2.2.1==4,y1.1,y1.2.1,y1.2.2.1,y1.2.2.2.1,y1.2.2.2.2.1,y1.2.2.2.2.2.1,y1.2.2.2.2.2.2.1.1,y1.2.2.2.2.2.2.1.2,y1.2.2.2.2.2.2.2.1,y1.2.2.2.2.2.2.2.2.1.1,y1.2.2.2.2.2.2.2.2.1.2,y1.2.2.2.2.2.2.2.2.2.1,y1.2.2.2.2.2.2.2.2.2.2,a0.1.1,a0.1.2.1,a0.1.2.2.1,a0.1.2.2.2.1,a0.1.2.2.2.2.1,a0.1.2.2.2.2.2,a0.2.1,a0.2.2.2.2.2.1,a0.2.2.2.1,a0.2.2.2.2.1,a0.2.2.1,a2,()))) fun v3=>
   bif v3.2.2.2.1 then
    Option.bind (jS ((v3.2.2.2.2.2.2.2.2.2.2.2.2.2.2.2.2.2.1,v3.2.2.2.2.2.2.2.2.2.2.2.2.2.2.2.2.2.2.1,v3.2.2.2.2.2.2.2.2.2.2.2.2.2.2.2.2.2.2.2.1,v3.2.2.2.2.2.2.2.2.2.2.2.2.2.2.2.2.2.2.2.2.1,v3.2.2.2.2.2.2.2.2.2.2.2.2.2.2.2.2.2.2.2.2.2.1,v3.2.2.2.2.2.2.2.2.2.2.2.2.2.2.2.2.2.2.2.2.2.2.1),v3.2.2.2.2.2.2.2.2.2.2.2.2.2.2.2.2.2.2.2.2.2.2.2.1,v3.2.2.2.2.2.2.2.2.2.2.2.2.2.2.2.2.2.2.2.2.2.2.2.2.2.2.2.1,v3.2.2.2.2.2.2.2.2.2.2.2.2.2.2.2.2.2.2.2.2.2.2.2.2.2.1,v3.2.2.2.2.2.2.2.2.2.2.2.2.2.2.2.2.2.2.2.2.2.2.2.2.2.2.1,v3.2.2.2.2.2.2.2.2.2.2.2.2.2.2.2.2.2.2.2.2.2.2.2.2.1,()) v3.2.1 v3.1 v3.2.2.2.2.2.2.2.2.2.2.2.2.2.2.2.2.2.2.2.2.2.2.2.2.2.2.2.2.1) fun r4=>
    some (r4.1,(r4.2.1.1,r4.2.1.2.1,r4.2.1.2.2.1,r4.2.1.2.2.2.1,r4.2.1.2.2.2.2.1,r4.2.1.2.2.2.2.2.1,()),r4.2.2.1,())
   else
    aI (β:=(Int×(aj×(List aa)×(List (Int×(Option Nat)))×(List ah)×(List az)×Int×Unit)×(List aF)×Unit)) (γ:=((Option Nat)×Int×Bool×Int×Int×Int×Int×Int×(List UInt8)×Int×Int×(List UInt8)×Int×Int×Int×Int×(List UInt8)×(List UInt8)×(List UInt8)×Int×Int×(List ai)×(List aa)×Int×(List ah)×(List az)×(List (Int×(Option Nat)))×(List aF)×Unit)) (
     bif v3.2.2.1==5 then
      some (Sum.inr (v3.2.1,v3.2.2.1,v3.2.2.1==5,v3.2.2.2.2.1,v3.2.2.2.2.2.1,v3.2.2.2.2.2.2.1,v3.2.2.2.2.2.2.2.1,v3.2.2.2.2.2.2.2.2.1,v3.2.2.2.2.2.2.2.2.2.1,v3.2.2.2.2.2.2.2.2.2.2.1,v3.2.2.2.2.2.2.2.2.2.2.2.1,v3.2.2.2.2.2.2.2.2.2.2.2.2.1,v3.2.2.2.2.2.2.2.2.2.2.2.2.2.1,v3.2.2.2.2.2.2.2.2.2.2.2.2.2.2.1,v3.2.2.2.2.2.2.2.2.2.2.2.2.2.2.2.1,v3.2.2.2.2.2.2.2.2.2.2.2.2.2.2.2.2.1,v3.2.2.2.2.2.2.2.2.2.2.2.2.2.2.2.2.2.1,v3.2.2.2.2.2.2.2.2.2.2.2.2.2.2.2.2.2.2.1,v3.2.2.2.2.2.2.2.2.2.2.2.2.2.2.2.2.2.2.2.1,v3.2.2.2.2.2.2.2.2.2.2.2.2.2.2.2.2.2.2.2.2.1,v3.2.2.2.2.2.2.2.2.2.2.2.2.2.2.2.2.2.2.2.2.2.1,v3.2.2.2.2.2.2.2.2.2.2.2.2.2.2.2.2.2.2.2.2.2.2.1,v3.2.2.2.2.2.2.2.2.2.2.2.2.2.2.2.2.2.2.2.2.2.2.2.1,v3.2.2.2.2.2.2.2.2.2.2.2.2.2.2.2.2.2.2.2.2.2.2.2.2.1,v3.2.2.2.2.2.2.2.2.2.2.2.2.2.2.2.2.2.2.2.2.2.2.2.2.2.1,v3.2.2.2.2.2.2.2.2.2.2.2.2.2.2.2.2.2.2.2.2.2.2.2.2.2.2.1,v3.2.2.2.2.2.2.2.2.2.2.2.2.2.2.2.2.2.2.2.2.2.2.2.2.2.2.2.1,v3.2.2.2.2.2.2.2.2.2.2.2.2.2.2.2.2.2.2.2.2.2.2.2.2.2.2.2.2.1,()))
     else
      some (Sum.inr (v3.2.1,v3.2.2.1,v3.2.2.1==6,v3.2.2.2.2.1,v3.2.2.2.2.2.1,v3.2.2.2.2.2.2.1,v3.2.2.2.2.2.2.2.1,v3.2.2.2.2.2.2.2.2.1,v3.2.2.2.2.2.2.2.2.2.1,v3.2.2.2.2.2.2.2.2.2.2.1,v3.2.2.2.2.2.2.2.2.2.2.2.1,v3.2.2.2.2.2.2.2.2.2.2.2.2.1,v3.2.2.2.2.2.2.2.2.2.2.2.2.2.1,v3.2.2.2.2.2.2.2.2.2.2.2.2.2.2.1,v3.2.2.2.2.2.2.2.2.2.2.2.2.2.2.2.1,v3.2.2.2.2.2.2.2.2.2.2.2.2.2.2.2.2.1,v3.2.2.2.2.2.2.2.2.2.2.2.2.2.2.2.2.2.1,v3.2.2.2.2.2.2.2.2.2.2.2.2.2.2.2.2.2.2.1,v3.2.2.2.2.2.2.2.2.2.2.2.2.2.2.2.2.2.2.2.1,v3.2.2.2.2.2.2.2.2.2.2.2.2.2.2.2.2.2.2.2.2.1,v3.2.2.2.2.2.2.2.2.2.2.2.2.2.2.2.2.2.2.2.2.2.1,v3.2.2.2.2.2.2.2.2.2.2.2.2.2.2.2.2.2.2.2.2.2.2.1,v3.2.2.2.2.2.2.2.2.2.2.2.2.2.2.2.2.2.2.2.2.2.2.2.1,v3.2.2.2.2.2.2.2.2.2.2.2.2.2.2.2.2.2.2.2.2.2.2.2.2.1,v3.2.2.2.2.2.2.2.2.2.2.2.2.2.2.2.2.2.2.2.2.2.2.2.2.2.1,v3.2.2.2.2.2.2.2.2.2.2.2.2.2.2.2.2.2.2.2.2.2.2.2.2.2.2.1,v3.2.2.2.2.2.2.2.2.2.2.2.2.2.2.2.2.2.2.2.2.2.2.2.2.2.2.2.1,v3.2.2.2.2.2.2.2.2.2.2.2.2.2.2.2.2.2.2.2.2.2.2.2.2.2.2.2.2.1,()))) fun v5=>
    aI (β:=(Int×(aj×(List aa)×(List (Int×(Option Nat)))×(List ah)×(List az)×Int×Unit)×(List aF)×Unit)) (γ:=((Option Nat)×Int×Int×Int×Int×Int×Int×(List UInt8)×Int×Int×(List UInt8)×Int×Int×Int×Int×(List UInt8)×(List UInt8)×(List UInt8)×Int×Int×(List ai)×(List aa)×(List (Int×(Option Nat)))×(List ah)×(List az)×Int×(List aF)×Unit)) (
     bif v5.2.2.1 then
      Option.bind (iI ((v5.2.2.2.2.2.2.2.2.2.2.2.2.2.2.2.2.1,v5.2.2.2.2.2.2.2.2.2.2.2.2.2.2.2.2.2.1,v5.2.2.2.2.2.2.2.2.2.2.2.2.2.2.2.2.2.2.1,v5.2.2.2.2.2.2.2.2.2.2.2.2.2.2.2.2.2.2.2.1,v5.2.2.2.2.2.2.2.2.2.2.2.2.2.2.2.2.2.2.2.2.1,v5.2.2.2.2.2.2.2.2.2.2.2.2.2.2.2.2.2.2.2.2.2.1),v5.2.2.2.2.2.2.2.2.2.2.2.2.2.2.2.2.2.2.2.2.2.2.1,v5.2.2.2.2.2.2.2.2.2.2.2.2.2.2.2.2.2.2.2.2.2.2.2.2.2.2.1,v5.2.2.2.2.2.2.2.2.2.2.2.2.2.2.2.2.2.2.2.2.2.2.2.2.1,v5.2.2.2.2.2.2.2.2.2.2.2.2.2.2.2.2.2.2.2.2.2.2.2.2.2.1,v5.2.2.2.2.2.2.2.2.2.2.2.2.2.2.2.2.2.2.2.2.2.2.2.1,()) v5.1 (v5.2.2.2.1,v5.2.2.2.2.1,v5.2.2.2.2.2.1,v5.2.2.2.2.2.2.1,v5.2.2.2.2.2.2.2.1,v5.2.2.2.2.2.2.2.2.1,(v5.2.2.2.2.2.2.2.2.2.1,v5.2.2.2.2.2.2.2.2.2.2.1),v5.2.2.2.2.2.2.2.2.2.2.2.1,(v5.2.2.2.2.2.2.2.2.2.2.2.2.1,v5.2.2.2.2.2.2.2.2.2.2.2.2.2.1),v5.2.2.2.2.2.2.2.2.2.2.2.2.2.2.1,v5.2.2.2.2.2.2.2.2.2.2.2.2.2.2.2.1) v5.2.2.2.2.2.2.2.2.2.2.2.2.2.2.2.2.2.2.2.2.2.2.2.2.2.2.2.1) fun r6=>
      some (Sum.inr (v5.1,r6.1,v5.2.2.2.1,v5.2.2.2.2.1,v5.2.2.2.2.2.1,v5.2.2.2.2.2.2.1,v5.2.2.2.2.2.2.2.1,v5.2.2.2.2.2.2.2.2.1,v5.2.2.2.2.2.2.2.2.2.1,v5.2.2.2.2.2.2.2.2.2.2.1,v5.2.2.2.2.2.2.2.2.2.2.2.1,v5.2.2.2.2.2.2.2.2.2.2.2.2.1,v5.2.2.2.2.2.2.2.2.2.2.2.2.2.1,v5.2.2.2.2.2.2.2.2.2.2.2.2.2.2.1,v5.2.2.2.2.2.2.2.2.2.2.2.2.2.2.2.1,r6.2.1.1.1,r6.2.1.1.2.1,r6.2.1.1.2.2.1,r6.2.1.1.2.2.2.1,r6.2.1.1.2.2.2.2.1,r6.2.1.1.2.2.2.2.2,r6.2.1.2.1,r6.2.1.2.2.1,r6.2.1.2.2.2.1,r6.2.1.2.2.2.2.1,r6.2.1.2.2.2.2.2.1,r6.2.2.1,()))
     else
      bif v5.2.1==7 then
       Option.bind (ig ((v5.2.2.2.2.2.2.2.2.2.2.2.2.2.2.2.2.1,v5.2.2.2.2.2.2.2.2.2.2.2.2.2.2.2.2.2.1,v5.2.2.2.2.2.2.2.2.2.2.2.2.2.2.2.2.2.2.1,v5.2.2.2.2.2.2.2.2.2.2.2.2.2.2.2.2.2.2.2.1,v5.2.2.2.2.2.2.2.2.2.2.2.2.2.2.2.2.2.2.2.2.1,v5.2.2.2.2.2.2.2.2.2.2.2.2.2.2.2.2.2.2.2.2.2.1),v5.2.2.2.2.2.2.2.2.2.2.2.2.2.2.2.2.2.2.2.2.2.2.1,v5.2.2.2.2.2.2.2.2.2.2.2.2.2.2.2.2.2.2.2.2.2.2.2.2.2.2.1,v5.2.2.2.2.2.2.2.2.2.2.2.2.2.2.2.2.2.2.2.2.2.2.2.2.1,v5.2.2.2.2.2.2.2.2.2.2.2.2.2.2.2.2.2.2.2.2.2.2.2.2.2.1,v5.2.2.2.2.2.2.2.2.2.2.2.2.2.2.2.2.2.2.2.2.2.2.2.1,()) v5.1 (v5.2.2.2.1,v5.2.2.2.2.1,v5.2.2.2.2.2.1,v5.2.2.2.2.2.2.1,v5.2.2.2.2.2.2.2.1,v5.2.2.2.2.2.2.2.2.1,(v5.2.2.2.2.2.2.2.2.2.1,v5.2.2.2.2.2.2.2.2.2.2.1),v5.2.2.2.2.2.2.2.2.2.2.2.1,(v5.2.2.2.2.2.2.2.2.2.2.2.2.1,v5.2.2.2.2.2.2.2.2.2.2.2.2.2.1),v5.2.2.2.2.2.2.2.2.2.2.2.2.2.2.1,v5.2.2.2.2.2.2.2.2.2.2.2.2.2.2.2.1) v5.2.2.2.2.2.2.2.2.2.2.2.2.2.2.2.2.2.2.2.2.2.2.2.2.2.2.2.1) fun r7=>
       some (Sum.inr (v5.1,r7.1,v5.2.2.2.1,v5.2.2.2.2.1,v5.2.2.2.2.2.1,v5.2.2.2.2.2.2.1,v5.2.2.2.2.2.2.2.1,v5.2.2.2.2.2.2.2.2.1,v5.2.2.2.2.2.2.2.2.2.1,v5.2.2.2.2.2.2.2.2.2.2.1,v5.2.2.2.2.2.2.2.2.2.2.2.1,v5.2.2.2.2.2.2.2.2.2.2.2.2.1,v5.2.2.2.2.2.2.2.2.2.2.2.2.2.1,v5.2.2.2.2.2.2.2.2.2.2.2.2.2.2.1,v5.2.2.2.2.2.2.2.2.2.2.2.2.2.2.2.1,r7.2.1.1.1,r7.2.1.1.2.1,r7.2.1.1.2.2.1,r7.2.1.1.2.2.2.1,r7.2.1.1.2.2.2.2.1,r7.2.1.1.2.2.2.2.2,r7.2.1.2.1,r7.2.1.2.2.1,r7.2.1.2.2.2.1,r7.2.1.2.2.2.2.1,r7.2.1.2.2.2.2.2.1,r7.2.2.1,()))
      else
       bif v5.2.1==8 then
        Option.bind (jR ((v5.2.2.2.2.2.2.2.2.2.2.2.2.2.2.2.2.1,v5.2.2.2.2.2.2.2.2.2.2.2.2.2.2.2.2.2.1,v5.2.2.2.2.2.2.2.2.2.2.2.2.2.2.2.2.2.2.1,v5.2.2.2.2.2.2.2.2.2.2.2.2.2.2.2.2.2.2.2.1,v5.2.2.2.2.2.2.2.2.2.2.2.2.2.2.2.2.2.2.2.2.1,v5.2.2.2.2.2.2.2.2.2.2.2.2.2.2.2.2.2.2.2.2.2.1),v5.2.2.2.2.2.2.2.2.2.2.2.2.2.2.2.2.2.2.2.2.2.2.1,v5.2.2.2.2.2.2.2.2.2.2.2.2.2.2.2.2.2.2.2.2.2.2.2.2.2.2.1,v5.2.2.2.2.2.2.2.2.2.2.2.2.2.2.2.2.2.2.2.2.2.2.2.2.1,v5.2.2.2.2.2.2.2.2.2.2.2.2.2.2.2.2.2.2.2.2.2.2.2.2.2.1,v5.2.2.2.2.2.2.2.2.2.2.2.2.2.2.2.2.2.2.2.2.2.2.2.1,()) v5.1 (v5.2.2.2.1,v5.2.2.2.2.1,v5.2.2.2.2.2.1,v5.2.2.2.2.2.2.1,v5.2.2.2.2.2.2.2.1,v5.2.2.2.2.2.2.2.2.1,(v5.2.2.2.2.2.2.2.2.2.1,v5.2.2.2.2.2.2.2.2.2.2.1),v5.2.2.2.2.2.2.2.2.2.2.2.1,(v5.2.2.2.2.2.2.2.2.2.2.2.2.1,v5.2.2.2.2.2.2.2.2.2.2.2.2.2.1),v5.2.2.2.2.2.2.2.2.2.2.2.2.2.2.1,v5.2.2.2.2.2.2.2.2.2.2.2.2.2.2.2.1) v5.2.2.2.2.2.2.2.2.2.2.2.2.2.2.2.2.2.2.2.2.2.2.2.2.2.2.2.1) fun r8=>
        some (Sum.inl (r8.1,(r8.2.1.1,r8.2.1.2.1,r8.2.1.2.2.1,r8.2.1.2.2.2.1,r8.2.1.2.2.2.2.1,r8.2.1.2.2.2.2.2.1,()),r8.2.2.1,()))
       else
        Option.bind (jQ ((v5.2.2.2.2.2.2.2.2.2.2.2.2.2.2.2.2.1,v5.2.2.2.2.2.2.2.2.2.2.2.2.2.2.2.2.2.1,v5.2.2.2.2.2.2.2.2.2.2.2.2.2.2.2.2.2.2.1,v5.2.2.2.2.2.2.2.2.2.2.2.2.2.2.2.2.2.2.2.1,v5.2.2.2.2.2.2.2.2.2.2.2.2.2.2.2.2.2.2.2.2.1,v5.2.2.2.2.2.2.2.2.2.2.2.2.2.2.2.2.2.2.2.2.2.1),v5.2.2.2.2.2.2.2.2.2.2.2.2.2.2.2.2.2.2.2.2.2.2.1,v5.2.2.2.2.2.2.2.2.2.2.2.2.2.2.2.2.2.2.2.2.2.2.2.2.2.2.1,v5.2.2.2.2.2.2.2.2.2.2.2.2.2.2.2.2.2.2.2.2.2.2.2.2.1,v5.2.2.2.2.2.2.2.2.2.2.2.2.2.2.2.2.2.2.2.2.2.2.2.2.2.1,v5.2.2.2.2.2.2.2.2.2.2.2.2.2.2.2.2.2.2.2.2.2.2.2.1,()) v5.1 (v5.2.2.2.1,v5.2.2.2.2.1,v5.2.2.2.2.2.1,v5.2.2.2.2.2.2.1,v5.2.2.2.2.2.2.2.1,v5.2.2.2.2.2.2.2.2.1,(v5.2.2.2.2.2.2.2.2.2.1,v5.2.2.2.2.2.2.2.2.2.2.1),v5.2.2.2.2.2.2.2.2.2.2.2.1,(v5.2.2.2.2.2.2.2.2.2.2.2.2.1,v5.2.2.2.2.2.2.2.2.2.2.2.2.2.1),v5.2.2.2.2.2.2.2.2.2.2.2.2.2.2.1,v5.2.2.2.2.2.2.2.2.2.2.2.2.2.2.2.1) v5.2.2.2.2.2.2.2.2.2.2.2.2.2.2.2.2.2.2.2.2.2.2.2.2.2.2.2.1) fun r9=>
        some (Sum.inr (v5.1,r9.1,v5.2.2.2.1,v5.2.2.2.2.1,v5.2.2.2.2.2.1,v5.2.2.2.2.2.2.1,v5.2.2.2.2.2.2.2.1,v5.2.2.2.2.2.2.2.2.1,v5.2.2.2.2.2.2.2.2.2.1,v5.2.2.2.2.2.2.2.2.2.2.1,v5.2.2.2.2.2.2.2.2.2.2.2.1,v5.2.2.2.2.2.2.2.2.2.2.2.2.1,v5.2.2.2.2.2.2.2.2.2.2.2.2.2.1,v5.2.2.2.2.2.2.2.2.2.2.2.2.2.2.1,v5.2.2.2.2.2.2.2.2.2.2.2.2.2.2.2.1,r9.2.1.1.1,r9.2.1.1.2.1,r9.2.1.1.2.2.1,r9.2.1.1.2.2.2.1,r9.2.1.1.2.2.2.2.1,r9.2.1.1.2.2.2.2.2,r9.2.1.2.1,r9.2.1.2.2.1,r9.2.1.2.2.2.1,r9.2.1.2.2.2.2.1,r9.2.1.2.2.2.2.2.1,r9.2.2.1,()))) fun v10=>
    Option.bind (
     bif v10.2.1==0 then
      Option.bind (kQ v10.2.2.2.2.2.1) fun r11=>
      some (r11.1,())
     else
      some (false,())) fun v12=>
    bif v12.1 then
     Option.bind (v10.1) fun h13=>
     Option.bind (v10.2.2.2.2.2.2.2.2.2.2.2.2.2.2.2.2.2.2.2.2.2.2.2.2.2.2.1[h13]?) fun y14=>
     bif v10.2.2.2.2.2.1==7 then
      Option.bind (fD (v10.2.2.2.2.2.2.2.2.1,v10.2.2.2.2.2.2.2.2.2.1)) fun r15=>
      Option.bind (v10.1) fun h16=>
      Option.bind ((List.set v10.2.2.2.2.2.2.2.2.2.2.2.2.2.2.2.2.2.2.2.2.2.2.2.2.2.2.1 h13 (y14.1,y14.2.1,y14.2.2.1,y14.2.2.2.1,y14.2.2.2.2.1,y14.2.2.2.2.2.1,y14.2.2.2.2.2.2.1,y14.2.2.2.2.2.2.2.1,y14.2.2.2.2.2.2.2.2.1,y14.2.2.2.2.2.2.2.2.2.1,0,0,0))[h16]?) fun y17=>
      some (v10.2.1,((v10.2.2.2.2.2.2.2.2.2.2.2.2.2.2.2.1,v10.2.2.2.2.2.2.2.2.2.2.2.2.2.2.2.2.1,v10.2.2.2.2.2.2.2.2.2.2.2.2.2.2.2.2.2.1,v10.2.2.2.2.2.2.2.2.2.2.2.2.2.2.2.2.2.2.1,v10.2.2.2.2.2.2.2.2.2.2.2.2.2.2.2.2.2.2.2.1,v10.2.2.2.2.2.2.2.2.2.2.2.2.2.2.2.2.2.2.2.2.1),v10.2.2.2.2.2.2.2.2.2.2.2.2.2.2.2.2.2.2.2.2.2.1,v10.2.2.2.2.2.2.2.2.2.2.2.2.2.2.2.2.2.2.2.2.2.2.1,v10.2.2.2.2.2.2.2.2.2.2.2.2.2.2.2.2.2.2.2.2.2.2.2.1,v10.2.2.2.2.2.2.2.2.2.2.2.2.2.2.2.2.2.2.2.2.2.2.2.2.1,v10.2.2.2.2.2.2.2.2.2.2.2.2.2.2.2.2.2.2.2.2.2.2.2.2.2.1,()),List.set (List.set v10.2.2.2.2.2.2.2.2.2.2.2.2.2.2.2.2.2.2.2.2.2.2.2.2.2.2.1 h13 (y14.1,y14.2.1,y14.2.2.1,y14.2.2.2.1,y14.2.2.2.2.1,y14.2.2.2.2.2.1,y14.2.2.2.2.2.2.1,y14.2.2.2.2.2.2.2.1,y14.2.2.2.2.2.2.2.2.1,y14.2.2.2.2.2.2.2.2.2.1,0,0,0)) h16 (y17.1,y17.2.1,y17.2.2.1,y17.2.2.2.1,y17.2.2.2.2.1,y17.2.2.2.2.2.1,y17.2.2.2.2.2.2.1,y17.2.2.2.2.2.2.2.1,y17.2.2.2.2.2.2.2.2.1,y17.2.2.2.2.2.2.2.2.2.1,v10.2.2.2.2.1,r15.1,v10.2.2.2.2.2.2.2.2.2.2.2.2.2.1),())
     else
      some (v10.2.1,((v10.2.2.2.2.2.2.2.2.2.2.2.2.2.2.2.1,v10.2.2.2.2.2.2.2.2.2.2.2.2.2.2.2.2.1,v10.2.2.2.2.2.2.2.2.2.2.2.2.2.2.2.2.2.1,v10.2.2.2.2.2.2.2.2.2.2.2.2.2.2.2.2.2.2.1,v10.2.2.2.2.2.2.2.2.2.2.2.2.2.2.2.2.2.2.2.1,v10.2.2.2.2.2.2.2.2.2.2.2.2.2.2.2.2.2.2.2.2.1),v10.2.2.2.2.2.2.2.2.2.2.2.2.2.2.2.2.2.2.2.2.2.1,v10.2.2.2.2.2.2.2.2.2.2.2.2.2.2.2.2.2.2.2.2.2.2.1,v10.2.2.2.2.2.2.2.2.2.2.2.2.2.2.2.2.2.2.2.2.2.2.2.1,v10.2.2.2.2.2.2.2.2.2.2.2.2.2.2.2.2.2.2.2.2.2.2.2.2.1,v10.2.2.2.2.2.2.2.2.2.2.2.2.2.2.2.2.2.2.2.2.2.2.2.2.2.1,()),List.set v10.2.2.2.2.2.2.2.2.2.2.2.2.2.2.2.2.2.2.2.2.2.2.2.2.2.2.1 h13 (y14.1,y14.2.1,y14.2.2.1,y14.2.2.2.1,y14.2.2.2.2.1,y14.2.2.2.2.2.1,y14.2.2.2.2.2.2.1,y14.2.2.2.2.2.2.2.1,y14.2.2.2.2.2.2.2.2.1,y14.2.2.2.2.2.2.2.2.2.1,0,0,0),())
    else
     some (v10.2.1,((v10.2.2.2.2.2.2.2.2.2.2.2.2.2.2.2.1,v10.2.2.2.2.2.2.2.2.2.2.2.2.2.2.2.2.1,v10.2.2.2.2.2.2.2.2.2.2.2.2.2.2.2.2.2.1,v10.2.2.2.2.2.2.2.2.2.2.2.2.2.2.2.2.2.2.1,v10.2.2.2.2.2.2.2.2.2.2.2.2.2.2.2.2.2.2.2.1,v10.2.2.2.2.2.2.2.2.2.2.2.2.2.2.2.2.2.2.2.2.1),v10.2.2.2.2.2.2.2.2.2.2.2.2.2.2.2.2.2.2.2.2.2.1,v10.2.2.2.2.2.2.2.2.2.2.2.2.2.2.2.2.2.2.2.2.2.2.1,v10.2.2.2.2.2.2.2.2.2.2.2.2.2.2.2.2.2.2.2.2.2.2.2.1,v10.2.2.2.2.2.2.2.2.2.2.2.2.2.2.2.2.2.2.2.2.2.2.2.2.1,v10.2.2.2.2.2.2.2.2.2.2.2.2.2.2.2.2.2.2.2.2.2.2.2.2.2.1,()),v10.2.2.2.2.2.2.2.2.2.2.2.2.2.2.2.2.2.2.2.2.2.2.2.2.2.2.1,())
def kR (a0:Int):Option (ah×Unit):=
 Option.bind (pM a0) fun r1=>
 Option.bind (qP r1.1 3) fun r2=>
 some (r2.1,())
abbrev oa:Type:=Int×Int×Int×Int×Unit
abbrev nZ:Type:=((ah×Unit) ⊕ (Int×Int×Int×Int×Unit))
def nY (x1:oa) (again:oa->Option nZ):Option nZ:=
 Option.bind (
  bif decide (x1.2.1>0) then
   some ((Int.tmod x1.1 10)==0,())
  else
   some (false,())) fun v2=>
 bif v2.1 then
  again (w64 (Int.tdiv x1.1 10),w64 (x1.2.1 - 1),x1.2.2.1,x1.2.2.2.1,())
 else
  some (Sum.inr (x1.1,x1.2.1,x1.2.2.1,x1.2.2.2.1,()))
def lY (a0:ah):Option (ah×Unit):=
 aI (β:=(ah×Unit)) (γ:=(Int×Int×Int×Int×Unit)) (
  iter (X:=oa) (β:=nZ) (a0.1.natAbs+(a0.2.natAbs+(Int.natAbs (0:Int)+(Int.natAbs (0:Int)+2)))) (a0.1,a0.2,0,0,()) (nY)) fun v3=>
 some ((v3.1,v3.2.1),())
def gT (a0:Option Nat) (a1:List aF):Option (zb×Unit):=
 Option.bind (a0) fun h1=>
 Option.bind (a1[h1]?) fun y2=>
 Option.bind (a0) fun h3=>
 Option.bind (a1[h3]?) fun y4=>
 Option.bind (a0) fun h5=>
 Option.bind (a1[h5]?) fun y6=>
 Option.bind (a0) fun h7=>
 Option.bind (a1[h7]?) fun y8=>
 Option.bind (kR y8.2.2.2.1) fun r9=>
 Option.bind (a0) fun h10=>
 Option.bind (a1[h10]?) fun y11=>
 Option.bind (lY y11.2.2.2.2.2.2.2.1) fun r12=>
 Option.bind (a0) fun h13=>
 Option.bind (a1[h13]?) fun y14=>
 Option.bind (a0) fun h15=>
 Option.bind (a1[h15]?) fun y16=>
 Option.bind (kR y16.2.2.2.2.1) fun r17=>
 Option.bind (a0) fun h18=>
 Option.bind (a1[h18]?) fun y19=>
 Option.bind (kR y19.2.2.2.2.2.1) fun r20=>
 Option.bind (a0) fun h21=>
 Option.bind (a1[h21]?) fun y22=>
 Option.bind (kR y22.2.2.2.2.2.2.1) fun r23=>
 Option.bind (iM a0 a1) fun r24=>
 Option.bind (kR r24.1) fun r25=>
 some ((y2.1,y4.2.1,y6.2.2.1,r9.1,r12.1,y14.2.2.2.2.2.2.2.2.1,r17.1,r20.1,r23.1,r25.1),())
abbrev iK:Type:=Int×(List aa)×Int×Int×(List UInt8)×(List UInt8)×(List UInt8)×Int×Int×(List ai)×(List aa)×(List (Int×(Option Nat)))×(List ah)×(List az)×Int×(List aF)×Unit
abbrev iJ:Type:=(((aj×(List aa)×(List (Int×(Option Nat)))×(List ah)×(List az)×Int×Unit)×(List aF)×Unit) ⊕ ((List UInt8)×(List UInt8)×(List UInt8)×Int×Int×(List ai)×(List aa)×(List (Int×(Option Nat)))×(List ah)×(List az)×Int×(List aF)×Unit))
def fU (x1:iK) (again:iK->Option iJ):Option iJ:=
 bif decide (x1.2.2.2.1<x1.2.2.1) then
  Option.bind (idx x1.2.1 x1.2.2.2.1) fun y2=>
  bif decide (y2.1>x1.1) then
   some (Sum.inr (x1.2.2.2.2.1,x1.2.2.2.2.2.1,x1.2.2.2.2.2.2.1,x1.2.2.2.2.2.2.2.1,x1.2.2.2.2.2.2.2.2.1,x1.2.2.2.2.2.2.2.2.2.1,x1.2.2.2.2.2.2.2.2.2.2.1,x1.2.2.2.2.2.2.2.2.2.2.2.1,x1.2.2.2.2.2.2.2.2.2.2.2.2.1,x1.2.2.2.2.2.2.2.2.2.2.2.2.2.1,x1.2.2.2.2.2.2.2.2.2.2.2.2.2.2.1,x1.2.2.2.2.2.2.2.2.2.2.2.2.2.2.2.1,()))
  else
   Option.bind (aJ ((x1.2.2.2.2.1,x1.2.2.2.2.2.1,x1.2.2.2.2.2.2.1,x1.2.2.2.2.2.2.2.1,x1.2.2.2.2.2.2.2.2.1,x1.2.2.2.2.2.2.2.2.2.1),x1.2.2.2.2.2.2.2.2.2.2.1,x1.2.2.2.2.2.2.2.2.2.2.2.1,x1.2.2.2.2.2.2.2.2.2.2.2.2.1,x1.2.2.2.2.2.2.2.2.2.2.2.2.2.1,x1.2.2.2.2.2.2.2.2.2.2.2.2.2.2.1,()) x1.2.2.2.1 x1.2.2.2.2.2.2.2.2.2.2.2.2.2.2.2.1) fun r3=>
   bif r3.1 != 0 then
    chk (decide (((r3.2.1.2.2.2.1.length)+1)*16<=140737488355328)&&decide ((r3.2.1.2.2.2.1.length)+1<=maxLen)) <|
    again (x1.1,x1.2.1,x1.2.2.1,w64 (x1.2.2.2.1+1),r3.2.1.1.1,r3.2.1.1.2.1,r3.2.1.1.2.2.1,r3.2.1.1.2.2.2.1,r3.2.1.1.2.2.2.2.1,r3.2.1.1.2.2.2.2.2,r3.2.1.2.1,r3.2.1.2.2.1,r3.2.1.2.2.2.1++[(x1.2.2.2.1,r3.1)],r3.2.1.2.2.2.2.1,r3.2.1.2.2.2.2.2.1,r3.2.2.1,())
   else
    bif y2.2.2.2.2.1==r3.2.1.2.2.2.2.2.1 then
     Option.bind (gT (Option.getD (α:=Option Nat) (dL (k:=tI) (v:= .hnd) r3.2.1.2.2.1 y2.2.2.2.2.1) none) r3.2.2.1) fun r4=>
     chk (decide (((r3.2.1.2.2.2.2.1.length)+1)*152<=140737488355328)&&decide ((r3.2.1.2.2.2.2.1.length)+1<=maxLen)) <|
     again (x1.1,x1.2.1,x1.2.2.1,w64 (x1.2.2.2.1+1),r3.2.1.1.1,r3.2.1.1.2.1,r3.2.1.1.2.2.1,r3.2.1.1.2.2.2.1,r3.2.1.1.2.2.2.2.1,r3.2.1.1.2.2.2.2.2,r3.2.1.2.1,r3.2.1.2.2.1,r3.2.1.2.2.2.1,r3.2.1.2.2.2.2.1++[(x1.2.2.2.1,r4.1)],r3.2.1.2.2.2.2.2.1,r3.2.2.1,())
    else
     again (x1.1,x1.2.1,x1.2.2.1,w64 (x1.2.2.2.1+1),r3.2.1.1.1,r3.2.1.1.2.1,r3.2.1.1.2.2.1,r3.2.1.1.2.2.2.1,r3.2.1.1.2.2.2.2.1,r3.2.1.1.2.2.2.2.2,r3.2.1.2.1,r3.2.1.2.2.1,r3.2.1.2.2.2.1,r3.2.1.2.2.2.2.1,r3.2.1.2.2.2.2.2.1,r3.2.2.1,())
 else
  some (Sum.inr (x1.2.2.2.2.1,x1.2.2.2.2.2.1,x1.2.2.2.2.2.2.1,x1.2.2.2.2.2.2.2.1,x1.2.2.2.2.2.2.2.2.1,x1.2.2.2.2.2.2.2.2.2.1,x1.2.2.2.2.2.2.2.2.2.2.1,x1.2.2.2.2.2.2.2.2.2.2.2.1,x1.2.2.2.2.2.2.2.2.2.2.2.2.1,x1.2.2.2.2.2.2.2.2.2.2.2.2.2.1,x1.2.2.2.2.2.2.2.2.2.2.2.2.2.2.1,x1.2.2.2.2.2.2.2.2.2.2.2.2.2.2.2.1,()))
def fT (a0:aj×(List aa)×(List (Int×(Option Nat)))×(List ah)×(List az)×Int×Unit) (a1:Int) (a2:List aF):Option ((aj×(List aa)×(List (Int×(Option Nat)))×(List ah)×(List az)×Int×Unit)×(List aF)×Unit):=
 aI (β:=((aj×(List aa)×(List (Int×(Option Nat)))×(List ah)×(List az)×Int×Unit)×(List aF)×Unit)) (γ:=((List UInt8)×(List UInt8)×(List UInt8)×Int×Int×(List ai)×(List aa)×(List (Int×(Option Nat)))×(List ah)×(List az)×Int×(List aF)×Unit)) (
  iter (X:=iK) (β:=iJ) (Int.natAbs a1+(a0.2.1.length+(Int.natAbs ((a0.2.1.length:Int))+(Int.natAbs (0:Int)+(a0.1.1.length+(a0.1.2.1.length+(a0.1.2.2.1.length+(a0.1.2.2.2.1.natAbs+(a0.1.2.2.2.2.1.natAbs+(a0.1.2.2.2.2.2.length+(a0.2.1.length+(a0.2.2.1.length+(a0.2.2.2.1.length+(a0.2.2.2.2.1.length+(a0.2.2.2.2.2.1.natAbs+(List.length a2+2)))))))))))))))) (a1,a0.2.1,(a0.2.1.length:Int),0,a0.1.1,a0.1.2.1,a0.1.2.2.1,a0.1.2.2.2.1,a0.1.2.2.2.2.1,a0.1.2.2.2.2.2,a0.2.1,a0.2.2.1,a0.2.2.2.1,a0.2.2.2.2.1,a0.2.2.2.2.2.1,a2,()) (fU)) fun v5=>
 some (((v5.1,v5.2.1,v5.2.2.1,v5.2.2.2.1,v5.2.2.2.2.1,v5.2.2.2.2.2.1),v5.2.2.2.2.2.2.1,v5.2.2.2.2.2.2.2.1,v5.2.2.2.2.2.2.2.2.1,v5.2.2.2.2.2.2.2.2.2.1,v5.2.2.2.2.2.2.2.2.2.2.1,()),v5.2.2.2.2.2.2.2.2.2.2.2.1,())
def kL (a0:List UInt8) (a1:List UInt8):Option (Bool×Unit):=
 bif decide (((List.length a0:Int))>=((List.length a1:Int))) then
  chk (decide (0<=(w64 (((List.length a0:Int)) - ((List.length a1:Int)))))&&decide ((w64 (((List.length a0:Int)) - ((List.length a1:Int))))<=((List.length a0:Int)))&&decide (((List.length a0:Int))<=(List.length a0:Int))) <|
  some ((List.drop (Int.toNat (w64 (((List.length a0:Int)) - ((List.length a1:Int))))) (List.take (Int.toNat ((List.length a0:Int))) a0))==a1,())
 else
  some (false,())
def kJ (a0:List UInt8) (a1:List UInt8):Option ((List UInt8)×Bool×Unit):=
 Option.bind (kL a0 a1) fun r1=>
 bif !r1.1 then
  some (a0,false,())
 else
  chk (decide (0<=(0:Int))&&decide ((0:Int)<=(w64 (((List.length a0:Int)) - ((List.length a1:Int)))))&&decide ((w64 (((List.length a0:Int)) - ((List.length a1:Int))))<=(List.length a0:Int))) <|
  some (List.drop 0 (List.take (Int.toNat (w64 (((List.length a0:Int)) - ((List.length a1:Int))))) a0),true,())
def wF (a0:List UInt8) (a1:List UInt8):Option ((List UInt8)×Bool×Unit):=
 Option.bind (kJ a0 a1) fun r1=>
 some (r1.1,r1.2.1,())
def JD (a0:List UInt8):Option ((List (List UInt8))×Bool×Unit):=
 bif a0==[] then
  some ([],true,())
 else
  Option.bind (wF a0 [10]) fun r1=>
  Option.bind (strings_Split r1.1 [10]) fun r2=>
  some (r2.1,r1.2.1,())
abbrev xR:Type:=Int×Int×(List (List UInt8))×Unit
abbrev xQ:Type:=(((List (List UInt8))×Bool×Unit) ⊕ ((List (List UInt8))×Unit))
def L3 (x1:xR) (again:xR->Option xQ):Option xQ:=
 bif decide (x1.2.1<x1.1) then
  chk (decide (0<=x1.2.1)&&decide (x1.2.1<(x1.2.2.1.length:Int))) <|
  Option.bind (x1.2.2.1[x1.2.1.toNat]?) fun y2=>
  bif y2==[] then
   some (Sum.inl ([],false,()))
  else
   again (x1.1,w64 (x1.2.1+1),x1.2.2.1,())
 else
  some (Sum.inr (x1.2.2.1,()))
def JE (a0:List UInt8):Option ((List (List UInt8))×Bool×Unit):=
 Option.bind (strings_Split a0 [32]) fun r1=>
 aI (β:=((List (List UInt8))×Bool×Unit)) (γ:=((List (List UInt8))×Unit)) (
  iter (X:=xR) (β:=xQ) (Int.natAbs ((r1.1.length:Int))+(Int.natAbs (0:Int)+(r1.1.length+2))) ((r1.1.length:Int),0,r1.1,()) (L3)) fun v4=>
 some (v4.1,true,())
def gU (a0:(List (List UInt8))×Bool×Unit):Option ((List UInt8)×((List (List UInt8))×Bool×Unit)×Unit):=
 bif ((a0.1.length:Int))==0 then
  some ([],(a0.1,true,()),())
 else
  Option.bind (idx a0.1 0) fun y1=>
  chk (decide (0<=(1:Int))&&decide ((1:Int)<=((a0.1.length:Int)))&&decide (((a0.1.length:Int))<=(a0.1.length:Int))) <|
  some (y1,(List.drop 1 (List.take (Int.toNat ((a0.1.length:Int))) a0.1),a0.2.1,()),())
def fV (a0:(List (List UInt8))×Bool×Unit):Option (Int×((List (List UInt8))×Bool×Unit)×Unit):=
 Option.bind (gU (a0.1,a0.2.1,())) fun r1=>
 Option.bind (wO r1.1 16) fun r2=>
 bif r1.2.1.2.1 then
  some (r2.1,(r1.2.1.1,true,()),())
 else
  some (r2.1,(r1.2.1.1, !r2.2.1,()),())
def B2:Option ((List (List UInt8))×Unit):=
 some ([[],[98,117,121,101,114],[115,101,108,108,101,114]],())
def qm (a0:(List (List UInt8))×Bool×Unit) (a1:List (List UInt8)):Option (Int×((List (List UInt8))×Bool×Unit)×Unit):=
 Option.bind (gU (a0.1,a0.2.1,())) fun r1=>
 Option.bind (tW a1 r1.1) fun r2=>
 bif r1.2.1.2.1 then
  some (r2.1,(r1.2.1.1,true,()),())
 else
  some (r2.1,(r1.2.1.1,decide (r2.1<1),()),())
def yK:Option ((List (List UInt8))×Unit):=
 some ([[],[97,100,100],[113,117,97,110,116,105,116,121],[100,117,101],[112,114,105,99,101],[121,101,115],[110,111],[111,102,102,101,114],[116,97,107,101],[115,104,105,112],[114,101,99,101,105,118,101],[114,101,116,117,114,110]],())
def kK (a0:List UInt8) (a1:List UInt8):Option (Bool×Unit):=
 bif decide (((List.length a0:Int))>=((List.length a1:Int))) then
  chk (decide (0<=(0:Int))&&decide ((0:Int)<=((List.length a1:Int)))&&decide (((List.length a1:Int))<=(List.length a0:Int))) <|
  some ((List.drop 0 (List.take (Int.toNat ((List.length a1:Int))) a0))==a1,())
 else
  some (false,())
def kI (a0:List UInt8) (a1:List UInt8):Option ((List UInt8)×Bool×Unit):=
 Option.bind (kK a0 a1) fun r1=>
 bif !r1.1 then
  some (a0,false,())
 else
  chk (decide (0<=((List.length a1:Int)))&&decide (((List.length a1:Int))<=((List.length a0:Int)))&&decide (((List.length a0:Int))<=(List.length a0:Int))) <|
  some (List.drop (Int.toNat ((List.length a1:Int))) (List.take (Int.toNat ((List.length a0:Int))) a0),true,())
def wE (a0:List UInt8) (a1:List UInt8):Option ((List UInt8)×Bool×Unit):=
 Option.bind (kI a0 a1) fun r1=>
 some (r1.1,r1.2.1,())
def nu (a0:List UInt8) (a1:List UInt8):Option (Int×Unit):=
 bif ((List.length a1:Int))==0 then
  some (0,())
 else
  bif a1==a0 then
   some (0,())
  else
   bif ((List.length a1:Int))==1 then
    Option.bind (uC a1 0) fun c1=>
    Option.bind (eo a0 (c1.toNat:Int)) fun r2=>
    some (r2.1,())
   else
    bif decide (((List.length a1:Int))>=((List.length a0:Int))) then
     some ((-1),())
    else
     none
def oL (a0:List UInt8) (a1:List UInt8):Option ((List UInt8)×(List UInt8)×Bool×Unit):=
 Option.bind (nu a0 a1) fun r1=>
 bif decide (r1.1>=0) then
  chk (decide (0<=(0:Int))&&decide ((0:Int)<=r1.1)&&decide (r1.1<=(List.length a0:Int))) <|
  chk (decide (0<=(w64 (r1.1+((List.length a1:Int)))))&&decide ((w64 (r1.1+((List.length a1:Int))))<=((List.length a0:Int)))&&decide (((List.length a0:Int))<=(List.length a0:Int))) <|
  some (List.drop 0 (List.take (Int.toNat r1.1) a0),List.drop (Int.toNat (w64 (r1.1+((List.length a1:Int))))) (List.take (Int.toNat ((List.length a0:Int))) a0),true,())
 else
  some (a0,[],false,())
def Ff (a0:List UInt8) (a1:List UInt8):Option ((List UInt8)×(List UInt8)×Bool×Unit):=
 Option.bind (oL a0 a1) fun r1=>
 some (r1.1,r1.2.1,r1.2.2.1,())
def zU (a0:List UInt8):Option (Bool×Unit):=
 Option.bind (
  Option.bind (l8 a0) fun r1=>
  bif r1.1 then
   bif ((List.length a0:Int))==1 then
    some (true,())
   else
    Option.bind (uC a0 0) fun c2=>
    some ((c2.toNat:Int) != 48,())
  else
   some (false,())) fun v3=>
 some (v3.1,())
abbrev tZ:Type:=Bool×(List UInt8)×(List UInt8)×Int×Int×Int×Int×Bool×(List Int)×Unit
abbrev tY:Type:=((ah×Int×Unit) ⊕ (Bool×(List UInt8)×Int×Int×Bool×(List Int)×Unit))
def Ir (x1:tZ) (again:tZ->Option tY):Option tY:=
 bif decide (x1.2.2.2.2.1<x1.2.2.2.1) then
  Option.bind (pM 10) fun r2=>
  Option.bind (yZ (x1.2.2.2.2.2.2.2.1,x1.2.2.2.2.2.2.2.2.1) r2.1) fun r3=>
  chk (decide (x1.2.1.length+x1.2.2.1.length<=maxLen)) <|
  Option.bind (uC (x1.2.1++x1.2.2.1) x1.2.2.2.2.1) fun c4=>
  Option.bind (pM (w64 (wu8 ((c4.toNat:Int) - 48)))) fun r5=>
  Option.bind (AN r3.1 r5.1) fun r6=>
  again (x1.1,x1.2.1,x1.2.2.1,x1.2.2.2.1,w64 (x1.2.2.2.2.1+1),x1.2.2.2.2.2.1,x1.2.2.2.2.2.2.1,r6.1.1,r6.1.2,())
 else
  some (Sum.inr (x1.1,x1.2.2.1,x1.2.2.2.2.2.1,x1.2.2.2.2.2.2.1,x1.2.2.2.2.2.2.2.1,x1.2.2.2.2.2.2.2.2.1,()))
def EE (a0:Bool) (a1:List UInt8) (a2:List UInt8):Option (ah×Int×Unit):=
 Option.bind (pM 0) fun r1=>
 chk (decide (List.length a1+List.length a2<=maxLen)) <|
 aI (β:=(ah×Int×Unit)) (γ:=(Bool×(List UInt8)×Int×Int×Bool×(List Int)×Unit)) (
  iter (X:=tZ) (β:=tY) (List.length a1+(List.length a2+(Int.natAbs ((List.length (a1++a2):Int))+(Int.natAbs (0:Int)+(Int.natAbs (0:Int)+(Int.natAbs (0:Int)+(r1.1.2.length+2))))))) (a0,a1,a2,(List.length (a1++a2):Int),0,0,0,r1.1.1,r1.1.2,()) (Ir)) fun v8=>
 bif v8.1 then
  Option.bind (gX (v8.2.2.2.2.1,v8.2.2.2.2.2.1)) fun r9=>
  bif r9.1==0 then
   some ((0,0),10,())
  else
   Option.bind (lf (v8.2.2.2.2.1,v8.2.2.2.2.2.1)) fun r10=>
   Option.bind (lp r10.1 ((v8.2.1.length:Int))) fun r11=>
   some (r11.1,r11.2.1,())
 else
  Option.bind (lp (v8.2.2.2.2.1,v8.2.2.2.2.2.1) ((v8.2.1.length:Int))) fun r12=>
  some (r12.1,r12.2.1,())
def yw (a0:List UInt8):Option (ah×Int×Unit):=
 Option.bind (wE a0 [45]) fun r1=>
 Option.bind (Ff r1.1 [46]) fun r2=>
 Option.bind (
  bif decide (((List.length a0:Int))>40) then
   some (true,())
  else
   Option.bind (zU r2.1) fun r3=>
   bif !r3.1 then
    some (true,())
   else
    bif r2.2.2.1 then
     Option.bind (l8 r2.2.1) fun r4=>
     bif !r4.1 then
      some (true,())
     else
      some (decide (((r2.2.1.length:Int))>9),())
    else
     some (false,())) fun v5=>
 bif v5.1 then
  some ((0,0),10,())
 else
  Option.bind (EE r1.2.1 r2.1 r2.2.1) fun r6=>
  some (r6.1,r6.2.1,())
def nT (a0:(List (List UInt8))×Bool×Unit):Option (ah×((List (List UInt8))×Bool×Unit)×Unit):=
 Option.bind (gU (a0.1,a0.2.1,())) fun r1=>
 Option.bind (yw r1.1) fun r2=>
 bif r1.2.1.2.1 then
  some (r2.1,(r1.2.1.1,true,()),())
 else
  some (r2.1,(r1.2.1.1,r2.2.1 != 0,()),())
def Ay (a0:List UInt8):Option (aa×Bool×Unit):=
 Option.bind (JE a0) fun r1=>
 bif !r1.2.1 then
  some ((0,0,0,0,0,[],(0,0),[],(0,0),0,0),false,())
 else
  Option.bind (fV (r1.1,false,())) fun r2=>
  Option.bind (B2) fun r3=>
  Option.bind (qm (r2.2.1.1,r2.2.1.2.1,()) r3.1) fun r4=>
  Option.bind (fV (r4.2.1.1,r4.2.1.2.1,())) fun r5=>
  Option.bind (yK) fun r6=>
  Option.bind (qm (r5.2.1.1,r5.2.1.2.1,()) r6.1) fun r7=>
  Option.bind (fV (r7.2.1.1,r7.2.1.2.1,())) fun r8=>
  Option.bind (oU r7.1) fun r9=>
  aI (β:=(aa×Bool×Unit)) (γ:=(Int×Int×Int×Int×Int×(List UInt8)×Int×Int×(List UInt8)×Int×Int×Int×Int×Int×Int×Int×Int×Int×(List UInt8)×Int×Int×(List UInt8)×Int×Int×Int×Int×Bool×Bool×Bool×Bool×Bool×Bool×(List (List UInt8))×Bool×Unit)) (
   bif r9.1.1 then
    Option.bind (gU (r8.2.1.1,r8.2.1.2.1,())) fun r10=>
    some (Sum.inr (0,0,0,0,0,[],0,0,[],0,0,0,0,r2.1,r4.1,r5.1,r7.1,r8.1,r10.1,0,0,[],0,0,0,0,r9.1.1,r9.1.2.1,r9.1.2.2.1,r9.1.2.2.2.1,r9.1.2.2.2.2.1,r9.1.2.2.2.2.2,r10.2.1.1,r10.2.1.2.1,()))
   else
    some (Sum.inr (0,0,0,0,0,[],0,0,[],0,0,0,0,r2.1,r4.1,r5.1,r7.1,r8.1,[],0,0,[],0,0,0,0,r9.1.1,r9.1.2.1,r9.1.2.2.1,r9.1.2.2.2.1,r9.1.2.2.2.2.1,r9.1.2.2.2.2.2,r8.2.1.1,r8.2.1.2.1,()))) fun v11=>
  aI (β:=(aa×Bool×Unit)) (γ:=(Int×Int×Int×Int×Int×(List UInt8)×Int×Int×(List UInt8)×Int×Int×Int×Int×Int×Int×Int×Int×Int×(List UInt8)×Int×Int×(List UInt8)×Int×Int×Int×Int×Bool×Bool×Bool×Bool×Bool×Bool×(List (List UInt8))×Bool×Unit)) (
   bif v11.2.2.2.2.2.2.2.2.2.2.2.2.2.2.2.2.2.2.2.2.2.2.2.2.2.2.2.1 then
    Option.bind (nT (v11.2.2.2.2.2.2.2.2.2.2.2.2.2.2.2.2.2.2.2.2.2.2.2.2.2.2.2.2.2.2.2.2.1,v11.2.2.2.2.2.2.2.2.2.2.2.2.2.2.2.2.2.2.2.2.2.2.2.2.2.2.2.2.2.2.2.2.2.1,())) fun r12=>
    some (Sum.inr (v11.1,v11.2.1,v11.2.2.1,v11.2.2.2.1,v11.2.2.2.2.1,v11.2.2.2.2.2.1,v11.2.2.2.2.2.2.1,v11.2.2.2.2.2.2.2.1,v11.2.2.2.2.2.2.2.2.1,v11.2.2.2.2.2.2.2.2.2.1,v11.2.2.2.2.2.2.2.2.2.2.1,v11.2.2.2.2.2.2.2.2.2.2.2.1,v11.2.2.2.2.2.2.2.2.2.2.2.2.1,v11.2.2.2.2.2.2.2.2.2.2.2.2.2.1,v11.2.2.2.2.2.2.2.2.2.2.2.2.2.2.1,v11.2.2.2.2.2.2.2.2.2.2.2.2.2.2.2.1,v11.2.2.2.2.2.2.2.2.2.2.2.2.2.2.2.2.1,v11.2.2.2.2.2.2.2.2.2.2.2.2.2.2.2.2.2.1,v11.2.2.2.2.2.2.2.2.2.2.2.2.2.2.2.2.2.2.1,r12.1.1,r12.1.2,v11.2.2.2.2.2.2.2.2.2.2.2.2.2.2.2.2.2.2.2.2.2.1,v11.2.2.2.2.2.2.2.2.2.2.2.2.2.2.2.2.2.2.2.2.2.2.1,v11.2.2.2.2.2.2.2.2.2.2.2.2.2.2.2.2.2.2.2.2.2.2.2.1,v11.2.2.2.2.2.2.2.2.2.2.2.2.2.2.2.2.2.2.2.2.2.2.2.2.1,v11.2.2.2.2.2.2.2.2.2.2.2.2.2.2.2.2.2.2.2.2.2.2.2.2.2.1,v11.2.2.2.2.2.2.2.2.2.2.2.2.2.2.2.2.2.2.2.2.2.2.2.2.2.2.1,v11.2.2.2.2.2.2.2.2.2.2.2.2.2.2.2.2.2.2.2.2.2.2.2.2.2.2.2.1,v11.2.2.2.2.2.2.2.2.2.2.2.2.2.2.2.2.2.2.2.2.2.2.2.2.2.2.2.2.1,v11.2.2.2.2.2.2.2.2.2.2.2.2.2.2.2.2.2.2.2.2.2.2.2.2.2.2.2.2.2.1,v11.2.2.2.2.2.2.2.2.2.2.2.2.2.2.2.2.2.2.2.2.2.2.2.2.2.2.2.2.2.2.1,v11.2.2.2.2.2.2.2.2.2.2.2.2.2.2.2.2.2.2.2.2.2.2.2.2.2.2.2.2.2.2.2.1,r12.2.1.1,r12.2.1.2.1,()))
   else
    some (Sum.inr (v11.1,v11.2.1,v11.2.2.1,v11.2.2.2.1,v11.2.2.2.2.1,v11.2.2.2.2.2.1,v11.2.2.2.2.2.2.1,v11.2.2.2.2.2.2.2.1,v11.2.2.2.2.2.2.2.2.1,v11.2.2.2.2.2.2.2.2.2.1,v11.2.2.2.2.2.2.2.2.2.2.1,v11.2.2.2.2.2.2.2.2.2.2.2.1,v11.2.2.2.2.2.2.2.2.2.2.2.2.1,v11.2.2.2.2.2.2.2.2.2.2.2.2.2.1,v11.2.2.2.2.2.2.2.2.2.2.2.2.2.2.1,v11.2.2.2.2.2.2.2.2.2.2.2.2.2.2.2.1,v11.2.2.2.2.2.2.2.2.2.2.2.2.2.2.2.2.1,v11.2.2.2.2.2.2.2.2.2.2.2.2.2.2.2.2.2.1,v11.2.2.2.2.2.2.2.2.2.2.2.2.2.2.2.2.2.2.1,v11.2.2.2.2.2.2.2.2.2.2.2.2.2.2.2.2.2.2.2.1,v11.2.2.2.2.2.2.2.2.2.2.2.2.2.2.2.2.2.2.2.2.1,v11.2.2.2.2.2.2.2.2.2.2.2.2.2.2.2.2.2.2.2.2.2.1,v11.2.2.2.2.2.2.2.2.2.2.2.2.2.2.2.2.2.2.2.2.2.2.1,v11.2.2.2.2.2.2.2.2.2.2.2.2.2.2.2.2.2.2.2.2.2.2.2.1,v11.2.2.2.2.2.2.2.2.2.2.2.2.2.2.2.2.2.2.2.2.2.2.2.2.1,v11.2.2.2.2.2.2.2.2.2.2.2.2.2.2.2.2.2.2.2.2.2.2.2.2.2.1,v11.2.2.2.2.2.2.2.2.2.2.2.2.2.2.2.2.2.2.2.2.2.2.2.2.2.2.1,v11.2.2.2.2.2.2.2.2.2.2.2.2.2.2.2.2.2.2.2.2.2.2.2.2.2.2.2.1,v11.2.2.2.2.2.2.2.2.2.2.2.2.2.2.2.2.2.2.2.2.2.2.2.2.2.2.2.2.1,v11.2.2.2.2.2.2.2.2.2.2.2.2.2.2.2.2.2.2.2.2.2.2.2.2.2.2.2.2.2.1,v11.2.2.2.2.2.2.2.2.2.2.2.2.2.2.2.2.2.2.2.2.2.2.2.2.2.2.2.2.2.2.1,v11.2.2.2.2.2.2.2.2.2.2.2.2.2.2.2.2.2.2.2.2.2.2.2.2.2.2.2.2.2.2.2.1,v11.2.2.2.2.2.2.2.2.2.2.2.2.2.2.2.2.2.2.2.2.2.2.2.2.2.2.2.2.2.2.2.2.1,v11.2.2.2.2.2.2.2.2.2.2.2.2.2.2.2.2.2.2.2.2.2.2.2.2.2.2.2.2.2.2.2.2.2.1,()))) fun v13=>
  aI (β:=(aa×Bool×Unit)) (γ:=(Int×Int×Int×Int×Int×(List UInt8)×Int×Int×(List UInt8)×Int×Int×Int×Int×Int×Int×Int×Int×Int×(List UInt8)×Int×Int×(List UInt8)×Int×Int×Int×Int×Bool×Bool×Bool×Bool×Bool×Bool×(List (List UInt8))×Bool×Unit)) (
   bif v13.2.2.2.2.2.2.2.2.2.2.2.2.2.2.2.2.2.2.2.2.2.2.2.2.2.2.2.2.1 then
    Option.bind (gU (v13.2.2.2.2.2.2.2.2.2.2.2.2.2.2.2.2.2.2.2.2.2.2.2.2.2.2.2.2.2.2.2.2.1,v13.2.2.2.2.2.2.2.2.2.2.2.2.2.2.2.2.2.2.2.2.2.2.2.2.2.2.2.2.2.2.2.2.2.1,())) fun r14=>
    some (Sum.inr (v13.1,v13.2.1,v13.2.2.1,v13.2.2.2.1,v13.2.2.2.2.1,v13.2.2.2.2.2.1,v13.2.2.2.2.2.2.1,v13.2.2.2.2.2.2.2.1,v13.2.2.2.2.2.2.2.2.1,v13.2.2.2.2.2.2.2.2.2.1,v13.2.2.2.2.2.2.2.2.2.2.1,v13.2.2.2.2.2.2.2.2.2.2.2.1,v13.2.2.2.2.2.2.2.2.2.2.2.2.1,v13.2.2.2.2.2.2.2.2.2.2.2.2.2.1,v13.2.2.2.2.2.2.2.2.2.2.2.2.2.2.1,v13.2.2.2.2.2.2.2.2.2.2.2.2.2.2.2.1,v13.2.2.2.2.2.2.2.2.2.2.2.2.2.2.2.2.1,v13.2.2.2.2.2.2.2.2.2.2.2.2.2.2.2.2.2.1,v13.2.2.2.2.2.2.2.2.2.2.2.2.2.2.2.2.2.2.1,v13.2.2.2.2.2.2.2.2.2.2.2.2.2.2.2.2.2.2.2.1,v13.2.2.2.2.2.2.2.2.2.2.2.2.2.2.2.2.2.2.2.2.1,r14.1,v13.2.2.2.2.2.2.2.2.2.2.2.2.2.2.2.2.2.2.2.2.2.2.1,v13.2.2.2.2.2.2.2.2.2.2.2.2.2.2.2.2.2.2.2.2.2.2.2.1,v13.2.2.2.2.2.2.2.2.2.2.2.2.2.2.2.2.2.2.2.2.2.2.2.2.1,v13.2.2.2.2.2.2.2.2.2.2.2.2.2.2.2.2.2.2.2.2.2.2.2.2.2.1,v13.2.2.2.2.2.2.2.2.2.2.2.2.2.2.2.2.2.2.2.2.2.2.2.2.2.2.1,v13.2.2.2.2.2.2.2.2.2.2.2.2.2.2.2.2.2.2.2.2.2.2.2.2.2.2.2.1,v13.2.2.2.2.2.2.2.2.2.2.2.2.2.2.2.2.2.2.2.2.2.2.2.2.2.2.2.2.1,v13.2.2.2.2.2.2.2.2.2.2.2.2.2.2.2.2.2.2.2.2.2.2.2.2.2.2.2.2.2.1,v13.2.2.2.2.2.2.2.2.2.2.2.2.2.2.2.2.2.2.2.2.2.2.2.2.2.2.2.2.2.2.1,v13.2.2.2.2.2.2.2.2.2.2.2.2.2.2.2.2.2.2.2.2.2.2.2.2.2.2.2.2.2.2.2.1,r14.2.1.1,r14.2.1.2.1,()))
   else
    some (Sum.inr (v13.1,v13.2.1,v13.2.2.1,v13.2.2.2.1,v13.2.2.2.2.1,v13.2.2.2.2.2.1,v13.2.2.2.2.2.2.1,v13.2.2.2.2.2.2.2.1,v13.2.2.2.2.2.2.2.2.1,v13.2.2.2.2.2.2.2.2.2.1,v13.2.2.2.2.2.2.2.2.2.2.1,v13.2.2.2.2.2.2.2.2.2.2.2.1,v13.2.2.2.2.2.2.2.2.2.2.2.2.1,v13.2.2.2.2.2.2.2.2.2.2.2.2.2.1,v13.2.2.2.2.2.2.2.2.2.2.2.2.2.2.1,v13.2.2.2.2.2.2.2.2.2.2.2.2.2.2.2.1,v13.2.2.2.2.2.2.2.2.2.2.2.2.2.2.2.2.1,v13.2.2.2.2.2.2.2.2.2.2.2.2.2.2.2.2.2.1,v13.2.2.2.2.2.2.2.2.2.2.2.2.2.2.2.2.2.2.1,v13.2.2.2.2.2.2.2.2.2.2.2.2.2.2.2.2.2.2.2.1,v13.2.2.2.2.2.2.2.2.2.2.2.2.2.2.2.2.2.2.2.2.1,v13.2.2.2.2.2.2.2.2.2.2.2.2.2.2.2.2.2.2.2.2.2.1,v13.2.2.2.2.2.2.2.2.2.2.2.2.2.2.2.2.2.2.2.2.2.2.1,v13.2.2.2.2.2.2.2.2.2.2.2.2.2.2.2.2.2.2.2.2.2.2.2.1,v13.2.2.2.2.2.2.2.2.2.2.2.2.2.2.2.2.2.2.2.2.2.2.2.2.1,v13.2.2.2.2.2.2.2.2.2.2.2.2.2.2.2.2.2.2.2.2.2.2.2.2.2.1,v13.2.2.2.2.2.2.2.2.2.2.2.2.2.2.2.2.2.2.2.2.2.2.2.2.2.2.1,v13.2.2.2.2.2.2.2.2.2.2.2.2.2.2.2.2.2.2.2.2.2.2.2.2.2.2.2.1,v13.2.2.2.2.2.2.2.2.2.2.2.2.2.2.2.2.2.2.2.2.2.2.2.2.2.2.2.2.1,v13.2.2.2.2.2.2.2.2.2.2.2.2.2.2.2.2.2.2.2.2.2.2.2.2.2.2.2.2.2.1,v13.2.2.2.2.2.2.2.2.2.2.2.2.2.2.2.2.2.2.2.2.2.2.2.2.2.2.2.2.2.2.1,v13.2.2.2.2.2.2.2.2.2.2.2.2.2.2.2.2.2.2.2.2.2.2.2.2.2.2.2.2.2.2.2.1,v13.2.2.2.2.2.2.2.2.2.2.2.2.2.2.2.2.2.2.2.2.2.2.2.2.2.2.2.2.2.2.2.2.1,v13.2.2.2.2.2.2.2.2.2.2.2.2.2.2.2.2.2.2.2.2.2.2.2.2.2.2.2.2.2.2.2.2.2.1,()))) fun v15=>
  aI (β:=(aa×Bool×Unit)) (γ:=(Int×Int×Int×Int×Int×(List UInt8)×Int×Int×(List UInt8)×Int×Int×Int×Int×Int×Int×Int×Int×Int×(List UInt8)×Int×Int×(List UInt8)×Int×Int×Int×Int×Bool×Bool×Bool×Bool×Bool×Bool×(List (List UInt8))×Bool×Unit)) (
   bif v15.2.2.2.2.2.2.2.2.2.2.2.2.2.2.2.2.2.2.2.2.2.2.2.2.2.2.2.2.2.1 then
    Option.bind (nT (v15.2.2.2.2.2.2.2.2.2.2.2.2.2.2.2.2.2.2.2.2.2.2.2.2.2.2.2.2.2.2.2.2.1,v15.2.2.2.2.2.2.2.2.2.2.2.2.2.2.2.2.2.2.2.2.2.2.2.2.2.2.2.2.2.2.2.2.2.1,())) fun r16=>
    some (Sum.inr (v15.1,v15.2.1,v15.2.2.1,v15.2.2.2.1,v15.2.2.2.2.1,v15.2.2.2.2.2.1,v15.2.2.2.2.2.2.1,v15.2.2.2.2.2.2.2.1,v15.2.2.2.2.2.2.2.2.1,v15.2.2.2.2.2.2.2.2.2.1,v15.2.2.2.2.2.2.2.2.2.2.1,v15.2.2.2.2.2.2.2.2.2.2.2.1,v15.2.2.2.2.2.2.2.2.2.2.2.2.1,v15.2.2.2.2.2.2.2.2.2.2.2.2.2.1,v15.2.2.2.2.2.2.2.2.2.2.2.2.2.2.1,v15.2.2.2.2.2.2.2.2.2.2.2.2.2.2.2.1,v15.2.2.2.2.2.2.2.2.2.2.2.2.2.2.2.2.1,v15.2.2.2.2.2.2.2.2.2.2.2.2.2.2.2.2.2.1,v15.2.2.2.2.2.2.2.2.2.2.2.2.2.2.2.2.2.2.1,v15.2.2.2.2.2.2.2.2.2.2.2.2.2.2.2.2.2.2.2.1,v15.2.2.2.2.2.2.2.2.2.2.2.2.2.2.2.2.2.2.2.2.1,v15.2.2.2.2.2.2.2.2.2.2.2.2.2.2.2.2.2.2.2.2.2.1,r16.1.1,r16.1.2,v15.2.2.2.2.2.2.2.2.2.2.2.2.2.2.2.2.2.2.2.2.2.2.2.2.1,v15.2.2.2.2.2.2.2.2.2.2.2.2.2.2.2.2.2.2.2.2.2.2.2.2.2.1,v15.2.2.2.2.2.2.2.2.2.2.2.2.2.2.2.2.2.2.2.2.2.2.2.2.2.2.1,v15.2.2.2.2.2.2.2.2.2.2.2.2.2.2.2.2.2.2.2.2.2.2.2.2.2.2.2.1,v15.2.2.2.2.2.2.2.2.2.2.2.2.2.2.2.2.2.2.2.2.2.2.2.2.2.2.2.2.1,v15.2.2.2.2.2.2.2.2.2.2.2.2.2.2.2.2.2.2.2.2.2.2.2.2.2.2.2.2.2.1,v15.2.2.2.2.2.2.2.2.2.2.2.2.2.2.2.2.2.2.2.2.2.2.2.2.2.2.2.2.2.2.1,v15.2.2.2.2.2.2.2.2.2.2.2.2.2.2.2.2.2.2.2.2.2.2.2.2.2.2.2.2.2.2.2.1,r16.2.1.1,r16.2.1.2.1,()))
   else
    some (Sum.inr (v15.1,v15.2.1,v15.2.2.1,v15.2.2.2.1,v15.2.2.2.2.1,v15.2.2.2.2.2.1,v15.2.2.2.2.2.2.1,v15.2.2.2.2.2.2.2.1,v15.2.2.2.2.2.2.2.2.1,v15.2.2.2.2.2.2.2.2.2.1,v15.2.2.2.2.2.2.2.2.2.2.1,v15.2.2.2.2.2.2.2.2.2.2.2.1,v15.2.2.2.2.2.2.2.2.2.2.2.2.1,v15.2.2.2.2.2.2.2.2.2.2.2.2.2.1,v15.2.2.2.2.2.2.2.2.2.2.2.2.2.2.1,v15.2.2.2.2.2.2.2.2.2.2.2.2.2.2.2.1,v15.2.2.2.2.2.2.2.2.2.2.2.2.2.2.2.2.1,v15.2.2.2.2.2.2.2.2.2.2.2.2.2.2.2.2.2.1,v15.2.2.2.2.2.2.2.2.2.2.2.2.2.2.2.2.2.2.1,v15.2.2.2.2.2.2.2.2.2.2.2.2.2.2.2.2.2.2.2.1,v15.2.2.2.2.2.2.2.2.2.2.2.2.2.2.2.2.2.2.2.2.1,v15.2.2.2.2.2.2.2.2.2.2.2.2.2.2.2.2.2.2.2.2.2.1,v15.2.2.2.2.2.2.2.2.2.2.2.2.2.2.2.2.2.2.2.2.2.2.1,v15.2.2.2.2.2.2.2.2.2.2.2.2.2.2.2.2.2.2.2.2.2.2.2.1,v15.2.2.2.2.2.2.2.2.2.2.2.2.2.2.2.2.2.2.2.2.2.2.2.2.1,v15.2.2.2.2.2.2.2.2.2.2.2.2.2.2.2.2.2.2.2.2.2.2.2.2.2.1,v15.2.2.2.2.2.2.2.2.2.2.2.2.2.2.2.2.2.2.2.2.2.2.2.2.2.2.1,v15.2.2.2.2.2.2.2.2.2.2.2.2.2.2.2.2.2.2.2.2.2.2.2.2.2.2.2.1,v15.2.2.2.2.2.2.2.2.2.2.2.2.2.2.2.2.2.2.2.2.2.2.2.2.2.2.2.2.1,v15.2.2.2.2.2.2.2.2.2.2.2.2.2.2.2.2.2.2.2.2.2.2.2.2.2.2.2.2.2.1,v15.2.2.2.2.2.2.2.2.2.2.2.2.2.2.2.2.2.2.2.2.2.2.2.2.2.2.2.2.2.2.1,v15.2.2.2.2.2.2.2.2.2.2.2.2.2.2.2.2.2.2.2.2.2.2.2.2.2.2.2.2.2.2.2.1,v15.2.2.2.2.2.2.2.2.2.2.2.2.2.2.2.2.2.2.2.2.2.2.2.2.2.2.2.2.2.2.2.2.1,v15.2.2.2.2.2.2.2.2.2.2.2.2.2.2.2.2.2.2.2.2.2.2.2.2.2.2.2.2.2.2.2.2.2.1,()))) fun v17=>
  aI (β:=(aa×Bool×Unit)) (γ:=(Int×Int×Int×Int×Int×(List UInt8)×Int×Int×(List UInt8)×Int×Int×Int×Int×Int×Int×Int×Int×Int×(List UInt8)×Int×Int×(List UInt8)×Int×Int×Int×Int×Bool×Bool×Bool×Bool×Bool×Bool×(List (List UInt8))×Bool×Unit)) (
   bif v17.2.2.2.2.2.2.2.2.2.2.2.2.2.2.2.2.2.2.2.2.2.2.2.2.2.2.2.2.2.2.1 then
    Option.bind (fV (v17.2.2.2.2.2.2.2.2.2.2.2.2.2.2.2.2.2.2.2.2.2.2.2.2.2.2.2.2.2.2.2.2.1,v17.2.2.2.2.2.2.2.2.2.2.2.2.2.2.2.2.2.2.2.2.2.2.2.2.2.2.2.2.2.2.2.2.2.1,())) fun r18=>
    some (Sum.inr (v17.1,v17.2.1,v17.2.2.1,v17.2.2.2.1,v17.2.2.2.2.1,v17.2.2.2.2.2.1,v17.2.2.2.2.2.2.1,v17.2.2.2.2.2.2.2.1,v17.2.2.2.2.2.2.2.2.1,v17.2.2.2.2.2.2.2.2.2.1,v17.2.2.2.2.2.2.2.2.2.2.1,v17.2.2.2.2.2.2.2.2.2.2.2.1,v17.2.2.2.2.2.2.2.2.2.2.2.2.1,v17.2.2.2.2.2.2.2.2.2.2.2.2.2.1,v17.2.2.2.2.2.2.2.2.2.2.2.2.2.2.1,v17.2.2.2.2.2.2.2.2.2.2.2.2.2.2.2.1,v17.2.2.2.2.2.2.2.2.2.2.2.2.2.2.2.2.1,v17.2.2.2.2.2.2.2.2.2.2.2.2.2.2.2.2.2.1,v17.2.2.2.2.2.2.2.2.2.2.2.2.2.2.2.2.2.2.1,v17.2.2.2.2.2.2.2.2.2.2.2.2.2.2.2.2.2.2.2.1,v17.2.2.2.2.2.2.2.2.2.2.2.2.2.2.2.2.2.2.2.2.1,v17.2.2.2.2.2.2.2.2.2.2.2.2.2.2.2.2.2.2.2.2.2.1,v17.2.2.2.2.2.2.2.2.2.2.2.2.2.2.2.2.2.2.2.2.2.2.1,v17.2.2.2.2.2.2.2.2.2.2.2.2.2.2.2.2.2.2.2.2.2.2.2.1,r18.1,v17.2.2.2.2.2.2.2.2.2.2.2.2.2.2.2.2.2.2.2.2.2.2.2.2.2.1,v17.2.2.2.2.2.2.2.2.2.2.2.2.2.2.2.2.2.2.2.2.2.2.2.2.2.2.1,v17.2.2.2.2.2.2.2.2.2.2.2.2.2.2.2.2.2.2.2.2.2.2.2.2.2.2.2.1,v17.2.2.2.2.2.2.2.2.2.2.2.2.2.2.2.2.2.2.2.2.2.2.2.2.2.2.2.2.1,v17.2.2.2.2.2.2.2.2.2.2.2.2.2.2.2.2.2.2.2.2.2.2.2.2.2.2.2.2.2.1,v17.2.2.2.2.2.2.2.2.2.2.2.2.2.2.2.2.2.2.2.2.2.2.2.2.2.2.2.2.2.2.1,v17.2.2.2.2.2.2.2.2.2.2.2.2.2.2.2.2.2.2.2.2.2.2.2.2.2.2.2.2.2.2.2.1,r18.2.1.1,r18.2.1.2.1,()))
   else
    some (Sum.inr (v17.1,v17.2.1,v17.2.2.1,v17.2.2.2.1,v17.2.2.2.2.1,v17.2.2.2.2.2.1,v17.2.2.2.2.2.2.1,v17.2.2.2.2.2.2.2.1,v17.2.2.2.2.2.2.2.2.1,v17.2.2.2.2.2.2.2.2.2.1,v17.2.2.2.2.2.2.2.2.2.2.1,v17.2.2.2.2.2.2.2.2.2.2.2.1,v17.2.2.2.2.2.2.2.2.2.2.2.2.1,v17.2.2.2.2.2.2.2.2.2.2.2.2.2.1,v17.2.2.2.2.2.2.2.2.2.2.2.2.2.2.1,v17.2.2.2.2.2.2.2.2.2.2.2.2.2.2.2.1,v17.2.2.2.2.2.2.2.2.2.2.2.2.2.2.2.2.1,v17.2.2.2.2.2.2.2.2.2.2.2.2.2.2.2.2.2.1,v17.2.2.2.2.2.2.2.2.2.2.2.2.2.2.2.2.2.2.1,v17.2.2.2.2.2.2.2.2.2.2.2.2.2.2.2.2.2.2.2.1,v17.2.2.2.2.2.2.2.2.2.2.2.2.2.2.2.2.2.2.2.2.1,v17.2.2.2.2.2.2.2.2.2.2.2.2.2.2.2.2.2.2.2.2.2.1,v17.2.2.2.2.2.2.2.2.2.2.2.2.2.2.2.2.2.2.2.2.2.2.1,v17.2.2.2.2.2.2.2.2.2.2.2.2.2.2.2.2.2.2.2.2.2.2.2.1,v17.2.2.2.2.2.2.2.2.2.2.2.2.2.2.2.2.2.2.2.2.2.2.2.2.1,v17.2.2.2.2.2.2.2.2.2.2.2.2.2.2.2.2.2.2.2.2.2.2.2.2.2.1,v17.2.2.2.2.2.2.2.2.2.2.2.2.2.2.2.2.2.2.2.2.2.2.2.2.2.2.1,v17.2.2.2.2.2.2.2.2.2.2.2.2.2.2.2.2.2.2.2.2.2.2.2.2.2.2.2.1,v17.2.2.2.2.2.2.2.2.2.2.2.2.2.2.2.2.2.2.2.2.2.2.2.2.2.2.2.2.1,v17.2.2.2.2.2.2.2.2.2.2.2.2.2.2.2.2.2.2.2.2.2.2.2.2.2.2.2.2.2.1,v17.2.2.2.2.2.2.2.2.2.2.2.2.2.2.2.2.2.2.2.2.2.2.2.2.2.2.2.2.2.2.1,v17.2.2.2.2.2.2.2.2.2.2.2.2.2.2.2.2.2.2.2.2.2.2.2.2.2.2.2.2.2.2.2.1,v17.2.2.2.2.2.2.2.2.2.2.2.2.2.2.2.2.2.2.2.2.2.2.2.2.2.2.2.2.2.2.2.2.1,v17.2.2.2.2.2.2.2.2.2.2.2.2.2.2.2.2.2.2.2.2.2.2.2.2.2.2.2.2.2.2.2.2.2.1,()))) fun v19=>
  aI (β:=(aa×Bool×Unit)) (γ:=(Int×Int×Int×Int×Int×(List UInt8)×Int×Int×(List UInt8)×Int×Int×Int×Int×Int×Int×Int×Int×Int×(List UInt8)×Int×Int×(List UInt8)×Int×Int×Int×Int×(List (List UInt8))×Bool×Unit)) (
   bif v19.2.2.2.2.2.2.2.2.2.2.2.2.2.2.2.2.2.2.2.2.2.2.2.2.2.2.2.2.2.2.2.1 then
    Option.bind (fV (v19.2.2.2.2.2.2.2.2.2.2.2.2.2.2.2.2.2.2.2.2.2.2.2.2.2.2.2.2.2.2.2.2.1,v19.2.2.2.2.2.2.2.2.2.2.2.2.2.2.2.2.2.2.2.2.2.2.2.2.2.2.2.2.2.2.2.2.2.1,())) fun r20=>
    some (Sum.inr (v19.1,v19.2.1,v19.2.2.1,v19.2.2.2.1,v19.2.2.2.2.1,v19.2.2.2.2.2.1,v19.2.2.2.2.2.2.1,v19.2.2.2.2.2.2.2.1,v19.2.2.2.2.2.2.2.2.1,v19.2.2.2.2.2.2.2.2.2.1,v19.2.2.2.2.2.2.2.2.2.2.1,v19.2.2.2.2.2.2.2.2.2.2.2.1,v19.2.2.2.2.2.2.2.2.2.2.2.2.1,v19.2.2.2.2.2.2.2.2.2.2.2.2.2.1,v19.2.2.2.2.2.2.2.2.2.2.2.2.2.2.1,v19.2.2.2.2.2.2.2.2.2.2.2.2.2.2.2.1,v19.2.2.2.2.2.2.2.2.2.2.2.2.2.2.2.2.1,v19.2.2.2.2.2.2.2.2.2.2.2.2.2.2.2.2.2.1,v19.2.2.2.2.2.2.2.2.2.2.2.2.2.2.2.2.2.2.1,v19.2.2.2.2.2.2.2.2.2.2.2.2.2.2.2.2.2.2.2.1,v19.2.2.2.2.2.2.2.2.2.2.2.2.2.2.2.2.2.2.2.2.1,v19.2.2.2.2.2.2.2.2.2.2.2.2.2.2.2.2.2.2.2.2.2.1,v19.2.2.2.2.2.2.2.2.2.2.2.2.2.2.2.2.2.2.2.2.2.2.1,v19.2.2.2.2.2.2.2.2.2.2.2.2.2.2.2.2.2.2.2.2.2.2.2.1,v19.2.2.2.2.2.2.2.2.2.2.2.2.2.2.2.2.2.2.2.2.2.2.2.2.1,r20.1,r20.2.1.1,r20.2.1.2.1,()))
   else
    some (Sum.inr (v19.1,v19.2.1,v19.2.2.1,v19.2.2.2.1,v19.2.2.2.2.1,v19.2.2.2.2.2.1,v19.2.2.2.2.2.2.1,v19.2.2.2.2.2.2.2.1,v19.2.2.2.2.2.2.2.2.1,v19.2.2.2.2.2.2.2.2.2.1,v19.2.2.2.2.2.2.2.2.2.2.1,v19.2.2.2.2.2.2.2.2.2.2.2.1,v19.2.2.2.2.2.2.2.2.2.2.2.2.1,v19.2.2.2.2.2.2.2.2.2.2.2.2.2.1,v19.2.2.2.2.2.2.2.2.2.2.2.2.2.2.1,v19.2.2.2.2.2.2.2.2.2.2.2.2.2.2.2.1,v19.2.2.2.2.2.2.2.2.2.2.2.2.2.2.2.2.1,v19.2.2.2.2.2.2.2.2.2.2.2.2.2.2.2.2.2.1,v19.2.2.2.2.2.2.2.2.2.2.2.2.2.2.2.2.2.2.1,v19.2.2.2.2.2.2.2.2.2.2.2.2.2.2.2.2.2.2.2.1,v19.2.2.2.2.2.2.2.2.2.2.2.2.2.2.2.2.2.2.2.2.1,v19.2.2.2.2.2.2.2.2.2.2.2.2.2.2.2.2.2.2.2.2.2.1,v19.2.2.2.2.2.2.2.2.2.2.2.2.2.2.2.2.2.2.2.2.2.2.1,v19.2.2.2.2.2.2.2.2.2.2.2.2.2.2.2.2.2.2.2.2.2.2.2.1,v19.2.2.2.2.2.2.2.2.2.2.2.2.2.2.2.2.2.2.2.2.2.2.2.2.1,v19.2.2.2.2.2.2.2.2.2.2.2.2.2.2.2.2.2.2.2.2.2.2.2.2.2.1,v19.2.2.2.2.2.2.2.2.2.2.2.2.2.2.2.2.2.2.2.2.2.2.2.2.2.2.2.2.2.2.2.2.1,v19.2.2.2.2.2.2.2.2.2.2.2.2.2.2.2.2.2.2.2.2.2.2.2.2.2.2.2.2.2.2.2.2.2.1,()))) fun v21=>
  bif !v21.2.2.2.2.2.2.2.2.2.2.2.2.2.2.2.2.2.2.2.2.2.2.2.2.2.2.2.1 then
   some ((v21.2.2.2.2.2.2.2.2.2.2.2.2.2.1,v21.2.2.2.2.2.2.2.2.2.2.2.2.2.2.1,v21.2.2.2.2.2.2.2.2.2.2.2.2.2.2.2.1,v21.2.2.2.2.2.2.2.2.2.2.2.2.2.2.2.2.1,v21.2.2.2.2.2.2.2.2.2.2.2.2.2.2.2.2.2.1,v21.2.2.2.2.2.2.2.2.2.2.2.2.2.2.2.2.2.2.1,(v21.2.2.2.2.2.2.2.2.2.2.2.2.2.2.2.2.2.2.2.1,v21.2.2.2.2.2.2.2.2.2.2.2.2.2.2.2.2.2.2.2.2.1),v21.2.2.2.2.2.2.2.2.2.2.2.2.2.2.2.2.2.2.2.2.2.1,(v21.2.2.2.2.2.2.2.2.2.2.2.2.2.2.2.2.2.2.2.2.2.2.1,v21.2.2.2.2.2.2.2.2.2.2.2.2.2.2.2.2.2.2.2.2.2.2.2.1),v21.2.2.2.2.2.2.2.2.2.2.2.2.2.2.2.2.2.2.2.2.2.2.2.2.1,v21.2.2.2.2.2.2.2.2.2.2.2.2.2.2.2.2.2.2.2.2.2.2.2.2.2.1),((v21.2.2.2.2.2.2.2.2.2.2.2.2.2.2.2.2.2.2.2.2.2.2.2.2.2.2.1.length:Int))==0,())
  else
   some ((v21.2.2.2.2.2.2.2.2.2.2.2.2.2.1,v21.2.2.2.2.2.2.2.2.2.2.2.2.2.2.1,v21.2.2.2.2.2.2.2.2.2.2.2.2.2.2.2.1,v21.2.2.2.2.2.2.2.2.2.2.2.2.2.2.2.2.1,v21.2.2.2.2.2.2.2.2.2.2.2.2.2.2.2.2.2.1,v21.2.2.2.2.2.2.2.2.2.2.2.2.2.2.2.2.2.2.1,(v21.2.2.2.2.2.2.2.2.2.2.2.2.2.2.2.2.2.2.2.1,v21.2.2.2.2.2.2.2.2.2.2.2.2.2.2.2.2.2.2.2.2.1),v21.2.2.2.2.2.2.2.2.2.2.2.2.2.2.2.2.2.2.2.2.2.1,(v21.2.2.2.2.2.2.2.2.2.2.2.2.2.2.2.2.2.2.2.2.2.2.1,v21.2.2.2.2.2.2.2.2.2.2.2.2.2.2.2.2.2.2.2.2.2.2.2.1),v21.2.2.2.2.2.2.2.2.2.2.2.2.2.2.2.2.2.2.2.2.2.2.2.2.1,v21.2.2.2.2.2.2.2.2.2.2.2.2.2.2.2.2.2.2.2.2.2.2.2.2.2.1),false,())
abbrev vZ:Type:=(List (List UInt8))×Bool×(List aa)×(List (List UInt8))×Int×Int×Unit
abbrev vY:Type:=(((List aa)×Int×Int×Unit) ⊕ ((List aa)×Unit))
def KL (x1:vZ) (again:vZ->Option vY):Option vY:=
 bif decide (x1.2.2.2.2.2.1<x1.2.2.2.2.1) then
  Option.bind (idx x1.2.2.2.1 x1.2.2.2.2.2.1) fun y2=>
  Option.bind (Ay y2) fun r3=>
  Option.bind (
   bif !r3.2.1 then
    some (true,())
   else
    bif !x1.2.1 then
     some (x1.2.2.2.2.2.1==(w64 (((x1.1.length:Int)) - 1)),())
    else
     some (false,())) fun v4=>
  bif v4.1 then
   some (Sum.inl ([],w64 (x1.2.2.2.2.2.1+1),10,()))
  else
   chk (decide (((x1.2.2.1.length)+1)*120<=140737488355328)&&decide ((x1.2.2.1.length)+1<=maxLen)) <|
   again (x1.1,x1.2.1,x1.2.2.1++[r3.1],x1.2.2.2.1,x1.2.2.2.2.1,w64 (x1.2.2.2.2.2.1+1),())
 else
  some (Sum.inr (x1.2.2.1,()))
def HC (a0:List UInt8):Option ((List aa)×Int×Int×Unit):=
 bif decide (((List.length a0:Int))>200000) then
  some ([],0,2,())
 else
  Option.bind (JD a0) fun r1=>
  aI (β:=((List aa)×Int×Int×Unit)) (γ:=((List aa)×Unit)) (
   iter (X:=vZ) (β:=vY) (r1.1.length+(List.length ([]:List aa)+(r1.1.length+(Int.natAbs ((r1.1.length:Int))+(Int.natAbs (0:Int)+2))))) (r1.1,r1.2.1,[],r1.1,(r1.1.length:Int),0,()) (KL)) fun v6=>
  Option.bind (cU v6.1) fun r7=>
  bif r7.1 != 0 then
   some ([],0,r7.1,())
  else
   some (v6.1,0,0,())
def rJ:Option (Bool×Unit):=
 Option.bind (HC [53,32,98,117,121,101,114,32,49,32,100,117,101,32,50,32,55,10]) fun r1=>
 Option.bind (
  bif r1.2.2.1==0 then
   bif r1.2.1==0 then
    bif ((r1.1.length:Int))==1 then
     chk (decide (0<=(0:Int))&&decide ((0:Int)<(r1.1.length:Int))) <|
     Option.bind (r1.1[0]?) fun y2=>
     some (y2.2.2.2.2.2.2.2.2.2.1==7,())
    else
     some (false,())
   else
    some (false,())
  else
   some (false,())) fun v3=>
 some (v3.1,())
def Bv (a0:aj) (a1:List aa) (a2:Int) (a3:List aF):Option ((aj×(List aa)×(List (Int×(Option Nat)))×(List ah)×(List az)×Int×Unit)×Int×(List aF)×Unit):=
 Option.bind (nA a0 a1) fun r1=>
 bif r1.1 != 0 then
  none
 else
  Option.bind (kO a2) fun r2=>
  bif !r2.1 then
   none
  else
   Option.bind (gz a0 a1 a3) fun r3=>
   Option.bind (fT (r3.1.1,r3.1.2.1,r3.1.2.2.1,r3.1.2.2.2.1,r3.1.2.2.2.2.1,r3.1.2.2.2.2.2.1,()) a2 r3.2.1) fun r4=>
   some ((r4.1.1,r4.1.2.1,r4.1.2.2.1,r4.1.2.2.2.1,r4.1.2.2.2.2.1,r4.1.2.2.2.2.2.1,()),0,r4.2.1,())
def wP (a0:aj) (a1:List aa) (a2:Int) (a3:List aF):Option ((Option Nat)×Int×(List aF)×Unit):=
 Option.bind (nA a0 a1) fun r1=>
 bif r1.1 != 0 then
  some (none,r1.1,a3,())
 else
  Option.bind (kO a2) fun r2=>
  bif !r2.1 then
   some (none,1,a3,())
  else
   Option.bind (gz a0 a1 a3) fun r3=>
   Option.bind (fT (r3.1.1,r3.1.2.1,r3.1.2.2.1,r3.1.2.2.2.1,r3.1.2.2.2.2.1,r3.1.2.2.2.2.2.1,()) a2 r3.2.1) fun _=>
   none
def vH (a0:ah) (a1:ah):Option (Int×Unit):=
 Option.bind (wR a0 9) fun r1=>
 Option.bind (wR a1 9) fun r2=>
 Option.bind (DB r1.1 r2.1) fun r3=>
 some (r3.1,())
end
end Go.Md
