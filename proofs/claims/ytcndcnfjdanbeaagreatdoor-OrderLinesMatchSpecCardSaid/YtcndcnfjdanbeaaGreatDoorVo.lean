/-
  The plain models of the functions that the law reaches, third part. No condition.
-/
import Derived.Test.YtcndcnfjdanbeaaGreatDoorVn
import Derived.Test.YtcndcnfjdanbeaaGreatDoorVd
import Derived.Lib.Atoi
import Derived.Lib.IndexBytes
set_option linter.all false
namespace Go.Md
open Go.Dn
def eX (s:List UInt8) (c:Int):Option (Int×Unit):=some (Lib.indexByte s c.toNat.toUInt8,())
def lz (c:UInt8):List UInt8→List (List UInt8)
 | []=>[[]]
 | b::r=>bif b==c then []::lz c r else (match lz c r with
  | h::t=>(b::h)::t
  | []=>[[b]])
def strings_Split (s sep:List UInt8):Option (List (List UInt8)×Unit):=match sep with
 | [c]=>bif decide (s.length<4294967281) then some (lz c s,()) else none
 | _=>none
def aaW (b:UInt8):Bool:=decide (48≤b.toNat)&&decide (b.toNat≤57)
def Dw (s:List UInt8) (most:Int):Option (Int×Bool×Unit):=
 bif decide (most<(s.length:Int)) then some (0,false,())
 else bif decide (s.length≤18) then (bif !(!(s==[])&&s.all aaW)||(decide (1<s.length)&&s.head? ==some 48) then some (0,false,()) else (Lib.atoi s).bind fun n=>some (n,true,())) else none
def Zg (a b:Int×Int×Int×Int×Int×(List UInt8)×(Int×Int)×(List UInt8)×(Int×Int)×Int×Int):Int:=
 bif !(a.1 - b.1==0) then a.1 - b.1 else bif !(a.2.1 - b.2.1==0) then a.2.1 - b.2.1 else a.2.2.1 - b.2.2.1
noncomputable section
abbrev UD:Ty:=(.st (.pair tI (.pair tI tI)))
abbrev TP:Type:=Int×Int×Int
abbrev HE:Ty:=(.st (.pair .bool (.pair .bool (.pair .bool (.pair .bool .bool)))))
abbrev vQ:Type:=Bool×Bool×Bool×Bool×Bool
abbrev Wf:Ty:=(.st (.pair .bool (.pair .bool (.pair .bool (.pair .bool (.pair .bool .bool))))))
abbrev UU:Type:=Bool×Bool×Bool×Bool×Bool×Bool
abbrev fm:Ty:=(.st (.pair tI (.pair .str (.pair an (.pair .str (.pair an tI))))))
abbrev aK:Type:=Int×(List UInt8)×aa×(List UInt8)×aa×Int
abbrev aD:Ty:=(.st (.pair tI (.pair tI (.pair tI (.pair tI (.pair tI (.pair .str (.pair an (.pair .str (.pair an (.pair tI tI)))))))))))
abbrev ah:Type:=Int×Int×Int×Int×Int×(List UInt8)×aa×(List UInt8)×aa×Int×Int
abbrev bh:Ty:=(.st (.pair .str (.pair .str (.pair .str (.pair tI (.pair tI (.slice fm)))))))
abbrev ai:Type:=(List UInt8)×(List UInt8)×(List UInt8)×Int×Int×(List aK)
abbrev aV:Ty:=(.st (.pair tI (.pair .str (.pair .str (.pair tI (.pair tI (.pair tI (.pair tI (.pair an (.pair tI (.pair tI UD)))))))))))
abbrev aG:Type:=Int×(List UInt8)×(List UInt8)×Int×Int×Int×Int×aa×Int×Int×TP
abbrev bZ:Ty:=(.st (.pair tI b8))
abbrev ay:Type:=Int×bf
def sZ (a0:ai) (a1:Int):Option (Int×Unit):=
 Option.bind (idx a0.2.2.2.2.2 a1) fun y1=>
 Option.bind (cX y1.1 1 99999) fun r2=>
 bif r2.1 then
  some (1,())
 else
  Option.bind (
   bif decide (a1>0) then
    Option.bind (idx a0.2.2.2.2.2 (w64 (a1 - 1))) fun y3=>
    some (decide (y1.1≤y3.1),())
   else
    some (false,())) fun v4=>
  bif v4.1 then
   some (8,())
  else
   Option.bind (eY y1.2.1) fun r5=>
   bif !r5.1 then
    some (5,())
   else
    Option.bind (jt y1.2.2.1 false) fun r6=>
    bif r6.1 != 0 then
     some (r6.1,())
    else
     Option.bind (eY y1.2.2.2.1) fun r7=>
     bif !r7.1 then
      some (5,())
     else
      Option.bind (mL y1.2.2.2.2.1) fun r8=>
      bif r8.1 != 0 then
       some (r8.1,())
      else
       Option.bind (cX y1.2.2.2.2.2 a0.2.2.2.1 3652059) fun r9=>
       bif r9.1 then
        some (1,())
       else
        some (0,())
abbrev lT:Type:=Int×Int×(List UInt8)×(List UInt8)×(List UInt8)×Int×Int×(List aK)×Unit
abbrev lS:Type:=((Int×Unit) ⊕ Unit)
def lR (x1:lT) (again:lT→Option lS):Option lS:=
 match x1 with
 | (A,B,C,D,E,F,G,H,_)=>
 bif decide (B<A) then
  Option.bind (sZ (C,D,E,F,G,H) B) fun r2=>
  bif r2.1 != 0 then
   some (Sum.inl (r2.1,()))
  else
   again (A,w64 (B+1),C,D,E,F,G,H,())
 else
  some (Sum.inr ())
def qO (a0:ai):Option (Int×Unit):=
 Option.bind (eY a0.1) fun r1=>
 bif !r1.1 then
  some (5,())
 else
  Option.bind (eY a0.2.1) fun r2=>
  bif !r2.1 then
   some (5,())
  else
   Option.bind (eY a0.2.2.1) fun r3=>
   bif !r3.1 then
    some (5,())
   else
    bif a0.2.1==a0.2.2.1 then
     some (12,())
    else
     Option.bind (ou a0.2.2.2.1) fun r4=>
     bif !r4.1 then
      some (1,())
     else
      Option.bind (cX a0.2.2.2.2.1 0 1000) fun r5=>
      bif r5.1 then
       some (1,())
      else
       bif ((a0.2.2.2.2.2.length:Int))==0 then
        some (9,())
       else
        bif decide (((a0.2.2.2.2.2.length:Int))>500) then
         some (2,())
        else
         aJ (β:=(Int×Unit)) (γ:=Unit) (
          iter (X:=lT) (β:=lS) (Int.natAbs ((a0.2.2.2.2.2.length:Int))+(Int.natAbs (0:Int)+(a0.1.length+(a0.2.1.length+(a0.2.2.1.length+(a0.2.2.2.1.natAbs+(a0.2.2.2.2.1.natAbs+(a0.2.2.2.2.2.length+2)))))))) ((a0.2.2.2.2.2.length:Int),0,a0.1,a0.2.1,a0.2.2.1,a0.2.2.2.1,a0.2.2.2.2.1,a0.2.2.2.2.2,()) (lR)) fun _=>
         some (0,())
def oA (a0:Int):Option (Bool×Unit):=
 bif a0==5 then
  some (true,())
 else
  bif a0==6 then
   some (true,())
  else
   bif a0==7 then
    some (true,())
   else
    some (a0==9,())
def uc (a0:Int):Option (UU×Unit):=
 bif a0==1 then
  some ((true,true,true,true,true,false),())
 else
  bif a0==3 then
   some ((false,false,false,false,true,false),())
  else
   bif a0==4 then
    some ((false,false,false,true,false,false),())
   else
    bif a0==5 then
     bif a0==5 then
      some ((false,false,false,false,false,true),())
     else
      bif a0==7 then
       some ((false,true,false,false,true,false),())
      else
       some ((false,true,false,false,false,false),())
    else
     bif a0==6 then
      bif a0==6 then
       some ((false,false,false,false,false,true),())
      else
       bif a0==7 then
        some ((false,true,false,false,true,false),())
       else
        some ((false,true,false,false,false,false),())
     else
      bif a0==8 then
       some ((false,false,false,false,false,true),())
      else
       bif a0==7 then
        some ((false,true,false,false,true,false),())
       else
        some ((false,true,false,false,false,false),())
def s4 (a0:ah):Option (Int×Unit):=
 Option.bind (uc a0.2.2.2.1) fun r1=>
 aJ (β:=(Int×Unit)) (γ:=(Int×Int×Int×Int×Int×(List UInt8)×Int×Int×(List UInt8)×Int×Int×Int×Int×Bool×Bool×Bool×Bool×Bool×Bool×Unit)) (
  bif r1.1.2.1 then
   Option.bind (jt a0.2.2.2.2.2.2.1 (a0.2.2.2.1==2)) fun r2=>
   bif r2.1 != 0 then
    some (Sum.inl (r2.1,()))
   else
    some (Sum.inr (a0.1,a0.2.1,a0.2.2.1,a0.2.2.2.1,a0.2.2.2.2.1,a0.2.2.2.2.2.1,a0.2.2.2.2.2.2.1.1,a0.2.2.2.2.2.2.1.2,a0.2.2.2.2.2.2.2.1,a0.2.2.2.2.2.2.2.2.1.1,a0.2.2.2.2.2.2.2.2.1.2,a0.2.2.2.2.2.2.2.2.2.1,a0.2.2.2.2.2.2.2.2.2.2,r1.1.1,r1.1.2.1,r1.1.2.2.1,r1.1.2.2.2.1,r1.1.2.2.2.2.1,r1.1.2.2.2.2.2,()))
  else
   some (Sum.inr (a0.1,a0.2.1,a0.2.2.1,a0.2.2.2.1,a0.2.2.2.2.1,a0.2.2.2.2.2.1,a0.2.2.2.2.2.2.1.1,a0.2.2.2.2.2.2.1.2,a0.2.2.2.2.2.2.2.1,a0.2.2.2.2.2.2.2.2.1.1,a0.2.2.2.2.2.2.2.2.1.2,a0.2.2.2.2.2.2.2.2.2.1,a0.2.2.2.2.2.2.2.2.2.2,r1.1.1,r1.1.2.1,r1.1.2.2.1,r1.1.2.2.2.1,r1.1.2.2.2.2.1,r1.1.2.2.2.2.2,()))) fun v3=>
 aJ (β:=(Int×Unit)) (γ:=(Int×Int×Int×Int×Int×(List UInt8)×Int×Int×(List UInt8)×Int×Int×Int×Int×Bool×Bool×Bool×Bool×Bool×Bool×Unit)) (
  bif v3.2.2.2.2.2.2.2.2.2.2.2.2.2.2.2.2.1 then
   Option.bind (mL (v3.2.2.2.2.2.2.2.2.2.1,v3.2.2.2.2.2.2.2.2.2.2.1)) fun r4=>
   bif r4.1 != 0 then
    some (Sum.inl (r4.1,()))
   else
    some (Sum.inr (v3.1,v3.2.1,v3.2.2.1,v3.2.2.2.1,v3.2.2.2.2.1,v3.2.2.2.2.2.1,v3.2.2.2.2.2.2.1,v3.2.2.2.2.2.2.2.1,v3.2.2.2.2.2.2.2.2.1,v3.2.2.2.2.2.2.2.2.2.1,v3.2.2.2.2.2.2.2.2.2.2.1,v3.2.2.2.2.2.2.2.2.2.2.2.1,v3.2.2.2.2.2.2.2.2.2.2.2.2.1,v3.2.2.2.2.2.2.2.2.2.2.2.2.2.1,v3.2.2.2.2.2.2.2.2.2.2.2.2.2.2.1,v3.2.2.2.2.2.2.2.2.2.2.2.2.2.2.2.1,v3.2.2.2.2.2.2.2.2.2.2.2.2.2.2.2.2.1,v3.2.2.2.2.2.2.2.2.2.2.2.2.2.2.2.2.2.1,v3.2.2.2.2.2.2.2.2.2.2.2.2.2.2.2.2.2.2.1,()))
  else
   some (Sum.inr (v3.1,v3.2.1,v3.2.2.1,v3.2.2.2.1,v3.2.2.2.2.1,v3.2.2.2.2.2.1,v3.2.2.2.2.2.2.1,v3.2.2.2.2.2.2.2.1,v3.2.2.2.2.2.2.2.2.1,v3.2.2.2.2.2.2.2.2.2.1,v3.2.2.2.2.2.2.2.2.2.2.1,v3.2.2.2.2.2.2.2.2.2.2.2.1,v3.2.2.2.2.2.2.2.2.2.2.2.2.1,v3.2.2.2.2.2.2.2.2.2.2.2.2.2.1,v3.2.2.2.2.2.2.2.2.2.2.2.2.2.2.1,v3.2.2.2.2.2.2.2.2.2.2.2.2.2.2.2.1,v3.2.2.2.2.2.2.2.2.2.2.2.2.2.2.2.2.1,v3.2.2.2.2.2.2.2.2.2.2.2.2.2.2.2.2.2.1,v3.2.2.2.2.2.2.2.2.2.2.2.2.2.2.2.2.2.2.1,()))) fun v5=>
 Option.bind (
  bif v5.2.2.2.2.2.2.2.2.2.2.2.2.2.2.2.2.2.1 then
   Option.bind (ou v5.2.2.2.2.2.2.2.2.2.2.2.1) fun r6=>
   some (!r6.1,())
  else
   some (false,())) fun v7=>
 bif v7.1 then
  some (1,())
 else
  Option.bind (
   bif v5.2.2.2.2.2.2.2.2.2.2.2.2.2.1 then
    Option.bind (eY v5.2.2.2.2.2.1) fun r8=>
    bif !r8.1 then
     some (true,())
    else
     bif v5.2.2.2.2.2.2.2.2.2.2.2.2.2.2.2.1 then
      Option.bind (eY v5.2.2.2.2.2.2.2.2.1) fun r9=>
      some (!r9.1,())
     else
      some (false,())
   else
    bif v5.2.2.2.2.2.2.2.2.2.2.2.2.2.2.2.1 then
     Option.bind (eY v5.2.2.2.2.2.2.2.2.1) fun r10=>
     some (!r10.1,())
    else
     some (false,())) fun v11=>
  bif v11.1 then
   some (5,())
  else
   Option.bind (
    bif v5.2.2.2.2.2.2.2.2.2.2.2.2.2.2.2.2.2.2.1 then
     Option.bind (cX v5.2.2.2.2.2.2.2.2.2.2.2.2.1 1 2000) fun r12=>
     some (r12.1,())
    else
     some (false,())) fun v13=>
   bif v13.1 then
    some (1,())
   else
    Option.bind (
     bif !v5.2.2.2.2.2.2.2.2.2.2.2.2.2.1 then
      bif !(v5.2.2.2.2.2.1==[]) then
       some (true,())
      else
       bif !v5.2.2.2.2.2.2.2.2.2.2.2.2.2.2.1 then
        bif !((v5.2.2.2.2.2.2.1==0)&&((v5.2.2.2.2.2.2.2.1==0)&&true)) then
         some (true,())
        else
         bif !v5.2.2.2.2.2.2.2.2.2.2.2.2.2.2.2.1 then
          bif !(v5.2.2.2.2.2.2.2.2.1==[]) then
           some (true,())
          else
           bif !v5.2.2.2.2.2.2.2.2.2.2.2.2.2.2.2.2.1 then
            bif !((v5.2.2.2.2.2.2.2.2.2.1==0)&&((v5.2.2.2.2.2.2.2.2.2.2.1==0)&&true)) then
             some (true,())
            else
             bif !v5.2.2.2.2.2.2.2.2.2.2.2.2.2.2.2.2.2.1 then
              bif v5.2.2.2.2.2.2.2.2.2.2.2.1 != 0 then
               some (true,())
              else
               bif !v5.2.2.2.2.2.2.2.2.2.2.2.2.2.2.2.2.2.2.1 then
                some (v5.2.2.2.2.2.2.2.2.2.2.2.2.1 != 0,())
               else
                some (false,())
             else
              bif !v5.2.2.2.2.2.2.2.2.2.2.2.2.2.2.2.2.2.2.1 then
               some (v5.2.2.2.2.2.2.2.2.2.2.2.2.1 != 0,())
              else
               some (false,())
           else
            bif !v5.2.2.2.2.2.2.2.2.2.2.2.2.2.2.2.2.2.1 then
             bif v5.2.2.2.2.2.2.2.2.2.2.2.1 != 0 then
              some (true,())
             else
              bif !v5.2.2.2.2.2.2.2.2.2.2.2.2.2.2.2.2.2.2.1 then
               some (v5.2.2.2.2.2.2.2.2.2.2.2.2.1 != 0,())
              else
               some (false,())
            else
             bif !v5.2.2.2.2.2.2.2.2.2.2.2.2.2.2.2.2.2.2.1 then
              some (v5.2.2.2.2.2.2.2.2.2.2.2.2.1 != 0,())
             else
              some (false,())
         else
          bif !v5.2.2.2.2.2.2.2.2.2.2.2.2.2.2.2.2.1 then
           bif !((v5.2.2.2.2.2.2.2.2.2.1==0)&&((v5.2.2.2.2.2.2.2.2.2.2.1==0)&&true)) then
            some (true,())
           else
            bif !v5.2.2.2.2.2.2.2.2.2.2.2.2.2.2.2.2.2.1 then
             bif v5.2.2.2.2.2.2.2.2.2.2.2.1 != 0 then
              some (true,())
             else
              bif !v5.2.2.2.2.2.2.2.2.2.2.2.2.2.2.2.2.2.2.1 then
               some (v5.2.2.2.2.2.2.2.2.2.2.2.2.1 != 0,())
              else
               some (false,())
            else
             bif !v5.2.2.2.2.2.2.2.2.2.2.2.2.2.2.2.2.2.2.1 then
              some (v5.2.2.2.2.2.2.2.2.2.2.2.2.1 != 0,())
             else
              some (false,())
          else
           bif !v5.2.2.2.2.2.2.2.2.2.2.2.2.2.2.2.2.2.1 then
            bif v5.2.2.2.2.2.2.2.2.2.2.2.1 != 0 then
             some (true,())
            else
             bif !v5.2.2.2.2.2.2.2.2.2.2.2.2.2.2.2.2.2.2.1 then
              some (v5.2.2.2.2.2.2.2.2.2.2.2.2.1 != 0,())
             else
              some (false,())
           else
            bif !v5.2.2.2.2.2.2.2.2.2.2.2.2.2.2.2.2.2.2.1 then
             some (v5.2.2.2.2.2.2.2.2.2.2.2.2.1 != 0,())
            else
             some (false,())
       else
        bif !v5.2.2.2.2.2.2.2.2.2.2.2.2.2.2.2.1 then
         bif !(v5.2.2.2.2.2.2.2.2.1==[]) then
          some (true,())
         else
          bif !v5.2.2.2.2.2.2.2.2.2.2.2.2.2.2.2.2.1 then
           bif !((v5.2.2.2.2.2.2.2.2.2.1==0)&&((v5.2.2.2.2.2.2.2.2.2.2.1==0)&&true)) then
            some (true,())
           else
            bif !v5.2.2.2.2.2.2.2.2.2.2.2.2.2.2.2.2.2.1 then
             bif v5.2.2.2.2.2.2.2.2.2.2.2.1 != 0 then
              some (true,())
             else
              bif !v5.2.2.2.2.2.2.2.2.2.2.2.2.2.2.2.2.2.2.1 then
               some (v5.2.2.2.2.2.2.2.2.2.2.2.2.1 != 0,())
              else
               some (false,())
            else
             bif !v5.2.2.2.2.2.2.2.2.2.2.2.2.2.2.2.2.2.2.1 then
              some (v5.2.2.2.2.2.2.2.2.2.2.2.2.1 != 0,())
             else
              some (false,())
          else
           bif !v5.2.2.2.2.2.2.2.2.2.2.2.2.2.2.2.2.2.1 then
            bif v5.2.2.2.2.2.2.2.2.2.2.2.1 != 0 then
             some (true,())
            else
             bif !v5.2.2.2.2.2.2.2.2.2.2.2.2.2.2.2.2.2.2.1 then
              some (v5.2.2.2.2.2.2.2.2.2.2.2.2.1 != 0,())
             else
              some (false,())
           else
            bif !v5.2.2.2.2.2.2.2.2.2.2.2.2.2.2.2.2.2.2.1 then
             some (v5.2.2.2.2.2.2.2.2.2.2.2.2.1 != 0,())
            else
             some (false,())
        else
         bif !v5.2.2.2.2.2.2.2.2.2.2.2.2.2.2.2.2.1 then
          bif !((v5.2.2.2.2.2.2.2.2.2.1==0)&&((v5.2.2.2.2.2.2.2.2.2.2.1==0)&&true)) then
           some (true,())
          else
           bif !v5.2.2.2.2.2.2.2.2.2.2.2.2.2.2.2.2.2.1 then
            bif v5.2.2.2.2.2.2.2.2.2.2.2.1 != 0 then
             some (true,())
            else
             bif !v5.2.2.2.2.2.2.2.2.2.2.2.2.2.2.2.2.2.2.1 then
              some (v5.2.2.2.2.2.2.2.2.2.2.2.2.1 != 0,())
             else
              some (false,())
           else
            bif !v5.2.2.2.2.2.2.2.2.2.2.2.2.2.2.2.2.2.2.1 then
             some (v5.2.2.2.2.2.2.2.2.2.2.2.2.1 != 0,())
            else
             some (false,())
         else
          bif !v5.2.2.2.2.2.2.2.2.2.2.2.2.2.2.2.2.2.1 then
           bif v5.2.2.2.2.2.2.2.2.2.2.2.1 != 0 then
            some (true,())
           else
            bif !v5.2.2.2.2.2.2.2.2.2.2.2.2.2.2.2.2.2.2.1 then
             some (v5.2.2.2.2.2.2.2.2.2.2.2.2.1 != 0,())
            else
             some (false,())
          else
           bif !v5.2.2.2.2.2.2.2.2.2.2.2.2.2.2.2.2.2.2.1 then
            some (v5.2.2.2.2.2.2.2.2.2.2.2.2.1 != 0,())
           else
            some (false,())
     else
      bif !v5.2.2.2.2.2.2.2.2.2.2.2.2.2.2.1 then
       bif !((v5.2.2.2.2.2.2.1==0)&&((v5.2.2.2.2.2.2.2.1==0)&&true)) then
        some (true,())
       else
        bif !v5.2.2.2.2.2.2.2.2.2.2.2.2.2.2.2.1 then
         bif !(v5.2.2.2.2.2.2.2.2.1==[]) then
          some (true,())
         else
          bif !v5.2.2.2.2.2.2.2.2.2.2.2.2.2.2.2.2.1 then
           bif !((v5.2.2.2.2.2.2.2.2.2.1==0)&&((v5.2.2.2.2.2.2.2.2.2.2.1==0)&&true)) then
            some (true,())
           else
            bif !v5.2.2.2.2.2.2.2.2.2.2.2.2.2.2.2.2.2.1 then
             bif v5.2.2.2.2.2.2.2.2.2.2.2.1 != 0 then
              some (true,())
             else
              bif !v5.2.2.2.2.2.2.2.2.2.2.2.2.2.2.2.2.2.2.1 then
               some (v5.2.2.2.2.2.2.2.2.2.2.2.2.1 != 0,())
              else
               some (false,())
            else
             bif !v5.2.2.2.2.2.2.2.2.2.2.2.2.2.2.2.2.2.2.1 then
              some (v5.2.2.2.2.2.2.2.2.2.2.2.2.1 != 0,())
             else
              some (false,())
          else
           bif !v5.2.2.2.2.2.2.2.2.2.2.2.2.2.2.2.2.2.1 then
            bif v5.2.2.2.2.2.2.2.2.2.2.2.1 != 0 then
             some (true,())
            else
             bif !v5.2.2.2.2.2.2.2.2.2.2.2.2.2.2.2.2.2.2.1 then
              some (v5.2.2.2.2.2.2.2.2.2.2.2.2.1 != 0,())
             else
              some (false,())
           else
            bif !v5.2.2.2.2.2.2.2.2.2.2.2.2.2.2.2.2.2.2.1 then
             some (v5.2.2.2.2.2.2.2.2.2.2.2.2.1 != 0,())
            else
             some (false,())
        else
         bif !v5.2.2.2.2.2.2.2.2.2.2.2.2.2.2.2.2.1 then
          bif !((v5.2.2.2.2.2.2.2.2.2.1==0)&&((v5.2.2.2.2.2.2.2.2.2.2.1==0)&&true)) then
           some (true,())
          else
           bif !v5.2.2.2.2.2.2.2.2.2.2.2.2.2.2.2.2.2.1 then
            bif v5.2.2.2.2.2.2.2.2.2.2.2.1 != 0 then
             some (true,())
            else
             bif !v5.2.2.2.2.2.2.2.2.2.2.2.2.2.2.2.2.2.2.1 then
              some (v5.2.2.2.2.2.2.2.2.2.2.2.2.1 != 0,())
             else
              some (false,())
           else
            bif !v5.2.2.2.2.2.2.2.2.2.2.2.2.2.2.2.2.2.2.1 then
             some (v5.2.2.2.2.2.2.2.2.2.2.2.2.1 != 0,())
            else
             some (false,())
         else
          bif !v5.2.2.2.2.2.2.2.2.2.2.2.2.2.2.2.2.2.1 then
           bif v5.2.2.2.2.2.2.2.2.2.2.2.1 != 0 then
            some (true,())
           else
            bif !v5.2.2.2.2.2.2.2.2.2.2.2.2.2.2.2.2.2.2.1 then
             some (v5.2.2.2.2.2.2.2.2.2.2.2.2.1 != 0,())
            else
             some (false,())
          else
           bif !v5.2.2.2.2.2.2.2.2.2.2.2.2.2.2.2.2.2.2.1 then
            some (v5.2.2.2.2.2.2.2.2.2.2.2.2.1 != 0,())
           else
            some (false,())
      else
       bif !v5.2.2.2.2.2.2.2.2.2.2.2.2.2.2.2.1 then
        bif !(v5.2.2.2.2.2.2.2.2.1==[]) then
         some (true,())
        else
         bif !v5.2.2.2.2.2.2.2.2.2.2.2.2.2.2.2.2.1 then
          bif !((v5.2.2.2.2.2.2.2.2.2.1==0)&&((v5.2.2.2.2.2.2.2.2.2.2.1==0)&&true)) then
           some (true,())
          else
           bif !v5.2.2.2.2.2.2.2.2.2.2.2.2.2.2.2.2.2.1 then
            bif v5.2.2.2.2.2.2.2.2.2.2.2.1 != 0 then
             some (true,())
            else
             bif !v5.2.2.2.2.2.2.2.2.2.2.2.2.2.2.2.2.2.2.1 then
              some (v5.2.2.2.2.2.2.2.2.2.2.2.2.1 != 0,())
             else
              some (false,())
           else
            bif !v5.2.2.2.2.2.2.2.2.2.2.2.2.2.2.2.2.2.2.1 then
             some (v5.2.2.2.2.2.2.2.2.2.2.2.2.1 != 0,())
            else
             some (false,())
         else
          bif !v5.2.2.2.2.2.2.2.2.2.2.2.2.2.2.2.2.2.1 then
           bif v5.2.2.2.2.2.2.2.2.2.2.2.1 != 0 then
            some (true,())
           else
            bif !v5.2.2.2.2.2.2.2.2.2.2.2.2.2.2.2.2.2.2.1 then
             some (v5.2.2.2.2.2.2.2.2.2.2.2.2.1 != 0,())
            else
             some (false,())
          else
           bif !v5.2.2.2.2.2.2.2.2.2.2.2.2.2.2.2.2.2.2.1 then
            some (v5.2.2.2.2.2.2.2.2.2.2.2.2.1 != 0,())
           else
            some (false,())
       else
        bif !v5.2.2.2.2.2.2.2.2.2.2.2.2.2.2.2.2.1 then
         bif !((v5.2.2.2.2.2.2.2.2.2.1==0)&&((v5.2.2.2.2.2.2.2.2.2.2.1==0)&&true)) then
          some (true,())
         else
          bif !v5.2.2.2.2.2.2.2.2.2.2.2.2.2.2.2.2.2.1 then
           bif v5.2.2.2.2.2.2.2.2.2.2.2.1 != 0 then
            some (true,())
           else
            bif !v5.2.2.2.2.2.2.2.2.2.2.2.2.2.2.2.2.2.2.1 then
             some (v5.2.2.2.2.2.2.2.2.2.2.2.2.1 != 0,())
            else
             some (false,())
          else
           bif !v5.2.2.2.2.2.2.2.2.2.2.2.2.2.2.2.2.2.2.1 then
            some (v5.2.2.2.2.2.2.2.2.2.2.2.2.1 != 0,())
           else
            some (false,())
        else
         bif !v5.2.2.2.2.2.2.2.2.2.2.2.2.2.2.2.2.2.1 then
          bif v5.2.2.2.2.2.2.2.2.2.2.2.1 != 0 then
           some (true,())
          else
           bif !v5.2.2.2.2.2.2.2.2.2.2.2.2.2.2.2.2.2.2.1 then
            some (v5.2.2.2.2.2.2.2.2.2.2.2.2.1 != 0,())
           else
            some (false,())
         else
          bif !v5.2.2.2.2.2.2.2.2.2.2.2.2.2.2.2.2.2.2.1 then
           some (v5.2.2.2.2.2.2.2.2.2.2.2.2.1 != 0,())
          else
           some (false,())) fun v14=>
    bif v14.1 then
     some (3,())
    else
     some (0,())
def sY (a0:ah):Option (Int×Unit):=
 Option.bind (ou a0.1) fun r1=>
 bif !r1.1 then
  some (1,())
 else
  Option.bind (cX a0.2.1 1 2) fun r2=>
  bif r2.1 then
   some (4,())
  else
   Option.bind (cX a0.2.2.1 1 2000) fun r3=>
   bif r3.1 then
    some (1,())
   else
    Option.bind (cX a0.2.2.2.1 1 11) fun r4=>
    bif r4.1 then
     some (4,())
    else
     Option.bind (oA a0.2.2.2.1) fun r5=>
     bif !(r5.1==(a0.2.1==2)) then
      some (4,())
     else
      Option.bind (cX a0.2.2.2.2.1 1 99999) fun r6=>
      bif r6.1 then
       some (1,())
      else
       Option.bind (s4 a0) fun r7=>
       some (r7.1,())
abbrev kN:Type:=Int×Int×(List Int)×Unit
abbrev kM:Type:=((Int×Unit) ⊕ Unit)
def p6 (x1:kN) (again:kN→Option kM):Option kM:=
 bif decide (x1.2.1<x1.1) then
  chk (decide (0≤x1.2.1)&&decide (x1.2.1<(x1.2.2.1.length:Int))) <|
  Option.bind (x1.2.2.1[x1.2.1.toNat]?) fun y2=>
  bif y2 != 0 then
   some (Sum.inl (y2,()))
  else
   again (x1.1,w64 (x1.2.1+1),x1.2.2.1,())
 else
  some (Sum.inr ())
def jX (a0:ah) (a1:ah):Option (Int×Unit):=
 aJ (β:=(Int×Unit)) (γ:=Unit) (
  iter (X:=kN) (β:=kM) (Int.natAbs ((List.length [(w64 (a0.1 - a1.1)),(w64 (a0.2.1 - a1.2.1)),(w64 (a0.2.2.1 - a1.2.2.1))]:Int))+(Int.natAbs (0:Int)+(List.length ([(w64 (a0.1 - a1.1)),(w64 (a0.2.1 - a1.2.1)),(w64 (a0.2.2.1 - a1.2.2.1))]:List Int)+2))) ((List.length [(w64 (a0.1 - a1.1)),(w64 (a0.2.1 - a1.2.1)),(w64 (a0.2.2.1 - a1.2.2.1))]:Int),0,[(w64 (a0.1 - a1.1)),(w64 (a0.2.1 - a1.2.1)),(w64 (a0.2.2.1 - a1.2.2.1))],()) (p6)) fun _=>
 some (0,())
abbrev jr:Type:=(List ah)×(List ah)×Int×Int×Int×Int×Int×Unit
abbrev gu:Type:=((Int×Unit) ⊕ Unit)
def jq (x1:jr) (again:jr→Option gu):Option gu:=
 match x1 with
 | (A,B,C,D,E,F,G,_)=>
 bif decide (D<C) then
  Option.bind (idx B D) fun y2=>
  Option.bind (sY y2) fun r3=>
  bif r3.1 != 0 then
   some (Sum.inl (r3.1,()))
  else
   Option.bind (
    bif decide (D>0) then
     Option.bind (idx A (w64 (D - 1))) fun y4=>
     Option.bind (jX y4 y2) fun r5=>
     some (decide (r5.1≥0),())
    else
     some (false,())) fun v6=>
   bif v6.1 then
    some (Sum.inl (8,()))
   else
    bif y2.2.1==0 then
     bif y2.2.2.1 != (w64 (E+1)) then
      some (Sum.inl (9,()))
     else
      bif y2.2.1==0 then
       again (A,B,C,w64 (D+1),y2.2.2.1,F,G,())
      else
       bif y2.2.1==1 then
        again (A,B,C,w64 (D+1),E,y2.2.2.1,G,())
       else
        bif y2.2.1==2 then
         again (A,B,C,w64 (D+1),E,F,y2.2.2.1,())
        else
         none
    else
     bif y2.2.1==1 then
      bif y2.2.2.1 != (w64 (F+1)) then
       some (Sum.inl (9,()))
      else
       bif y2.2.1==0 then
        again (A,B,C,w64 (D+1),y2.2.2.1,F,G,())
       else
        bif y2.2.1==1 then
         again (A,B,C,w64 (D+1),E,y2.2.2.1,G,())
        else
         bif y2.2.1==2 then
          again (A,B,C,w64 (D+1),E,F,y2.2.2.1,())
         else
          none
     else
      bif y2.2.1==2 then
       bif y2.2.2.1 != (w64 (G+1)) then
        some (Sum.inl (9,()))
       else
        bif y2.2.1==0 then
         again (A,B,C,w64 (D+1),y2.2.2.1,F,G,())
        else
         bif y2.2.1==1 then
          again (A,B,C,w64 (D+1),E,y2.2.2.1,G,())
         else
          bif y2.2.1==2 then
           again (A,B,C,w64 (D+1),E,F,y2.2.2.1,())
          else
           none
      else
       none
 else
  some (Sum.inr ())
def mJ (a0:List ah):Option (Int×Unit):=
 bif decide (((List.length a0:Int))>2000) then
  some (2,())
 else
  aJ (β:=(Int×Unit)) (γ:=Unit) (
   iter (X:=jr) (β:=gu) (List.length a0+(List.length a0+(Int.natAbs ((List.length a0:Int))+(Int.natAbs (0:Int)+(Int.natAbs (0:Int)+(Int.natAbs (0:Int)+(Int.natAbs (0:Int)+2))))))) (a0,a0,(List.length a0:Int),0,0,0,0,()) (jq)) fun _=>
  some (0,())
def rK (a0:ai) (a1:List ah):Option (Int×Unit):=
 Option.bind (qO a0) fun r1=>
 bif r1.1 != 0 then
  some (r1.1,())
 else
  Option.bind (mJ a1) fun r2=>
  some (r2.1,())
def gB (a0:aa):Option (Int×Unit):=
 Option.bind (Bp (w64 (3 - a0.2))) fun r1=>
 some (w64 (a0.1*r1.1),())
abbrev lV:Type:=(List aK)×Int×Int×(List UInt8)×(List UInt8)×(List UInt8)×Int×Int×(List aK)×(List ah)×(List aa)×(List ay)×Int×(List (Int×(Option Nat)))×(List aG)×Unit
abbrev qS:Type:=(((ai×(List ah)×(List (Int×(Option Nat)))×(List aa)×(List ay)×Int×Unit)×(List aG)×Unit) ⊕ ((List UInt8)×(List UInt8)×(List UInt8)×Int×Int×(List aK)×(List ah)×(List aa)×(List ay)×Int×(List (Int×(Option Nat)))×(List aG)×Unit))
def lU (x1:lV) (again:lV→Option qS):Option qS:=
 match x1 with
 | (A,B,C,D,E,F,G,H,I,J,K,L,M,N,O,_)=>
 bif decide (C<B) then
  Option.bind (idx A C) fun y2=>
  Option.bind (gB y2.2.2.1) fun r3=>
  again (A,B,w64 (C+1),D,E,F,G,H,I,J,K,L,M,AU (k:=tI) (v:= .hnd) N y2.1 (some (O.length)),O++[(y2.1,y2.2.1,y2.2.2.2.1,r3.1,0,0,0,y2.2.2.2.2.1,y2.2.2.2.2.2,(-1),0,0,0)],())
 else
  some (Sum.inr (D,E,F,G,H,I,J,K,L,M,N,O,()))
def jb (a0:ai) (a1:List ah) (a2:List aG):Option ((ai×(List ah)×(List (Int×(Option Nat)))×(List aa)×(List ay)×Int×Unit)×(List aG)×Unit):=
 aJ (β:=((ai×(List ah)×(List (Int×(Option Nat)))×(List aa)×(List ay)×Int×Unit)×(List aG)×Unit)) (γ:=((List UInt8)×(List UInt8)×(List UInt8)×Int×Int×(List aK)×(List ah)×(List aa)×(List ay)×Int×(List (Int×(Option Nat)))×(List aG)×Unit)) (
  iter (X:=lV) (β:=qS) (a0.2.2.2.2.2.length+(Int.natAbs ((a0.2.2.2.2.2.length:Int))+(Int.natAbs (0:Int)+(a0.1.length+(a0.2.1.length+(a0.2.2.1.length+(a0.2.2.2.1.natAbs+(a0.2.2.2.2.1.natAbs+(a0.2.2.2.2.2.length+(List.length a1+(List.length ([]:List aa)+(List.length ([]:List ay)+(Int.natAbs (0:Int)+(List.length ([]:List (Int×(Option Nat)))+(List.length a2+2))))))))))))))) (a0.2.2.2.2.2,(a0.2.2.2.2.2.length:Int),0,a0.1,a0.2.1,a0.2.2.1,a0.2.2.2.1,a0.2.2.2.2.1,a0.2.2.2.2.2,a1,[],[],0,[],a2,()) (lU)) fun v4=>
 some (((v4.1,v4.2.1,v4.2.2.1,v4.2.2.2.1,v4.2.2.2.2.1,v4.2.2.2.2.2.1),v4.2.2.2.2.2.2.1,v4.2.2.2.2.2.2.2.2.2.2.1,v4.2.2.2.2.2.2.2.1,v4.2.2.2.2.2.2.2.2.1,v4.2.2.2.2.2.2.2.2.2.1,()),v4.2.2.2.2.2.2.2.2.2.2.2.1,())
def oz (a0:ai×(List ah)×(List (Int×(Option Nat)))×(List aa)×(List ay)×Int×Unit) (a1:Int) (a2:List aG):Option (Int×(ai×(List ah)×(List (Int×(Option Nat)))×(List aa)×(List ay)×Int×Unit)×(List aG)×Unit):=
 Option.bind (idx a0.2.1 a1) fun y1=>
 bif !(Option.isNone (Option.getD (α:=Option Nat) (mG (k:=tI) (v:= .hnd) a0.2.2.1 y1.2.2.2.2.1) none)) then
  some (7,(a0.1,a0.2.1,a0.2.2.1,a0.2.2.2.1,a0.2.2.2.2.1,a0.2.2.2.2.2.1,()),a2,())
 else
  bif decide (((a0.2.2.1.length:Int))≥500) then
   some (16,(a0.1,a0.2.1,a0.2.2.1,a0.2.2.2.1,a0.2.2.2.2.1,a0.2.2.2.2.2.1,()),a2,())
  else
   bif decide (y1.2.2.2.2.2.2.2.2.2.1<a0.1.2.2.2.1) then
    some (1,(a0.1,a0.2.1,a0.2.2.1,a0.2.2.2.1,a0.2.2.2.2.1,a0.2.2.2.2.2.1,()),a2,())
   else
    some (0,(a0.1,a0.2.1,AU (k:=tI) (v:= .hnd) a0.2.2.1 y1.2.2.2.2.1 (some (List.length a2)),a0.2.2.2.1,a0.2.2.2.2.1,a0.2.2.2.2.2.1,()),a2++[(y1.2.2.2.2.1,y1.2.2.2.2.2.1,y1.2.2.2.2.2.2.2.1,0,0,0,0,y1.2.2.2.2.2.2.2.2.1,y1.2.2.2.2.2.2.2.2.2.1,a1,0,0,0)],())
def nC (a0:ai×(List ah)×(List (Int×(Option Nat)))×(List aa)×(List ay)×Int×Unit) (a1:Option Nat) (a2:Int) (a3:List aG):Option (Int×(ai×(List ah)×(List (Int×(Option Nat)))×(List aa)×(List ay)×Int×Unit)×(List aG)×Unit):=
 Option.bind (idx a0.2.1 a2) fun y1=>
 Option.bind (
  bif y1.2.2.2.1==3 then
   some (decide (y1.2.2.2.2.2.2.2.2.2.1<a0.1.2.2.2.1),())
  else
   some (false,())) fun v2=>
 bif v2.1 then
  some (1,(a0.1,a0.2.1,a0.2.2.1,a0.2.2.2.1,a0.2.2.2.2.1,a0.2.2.2.2.2.1,()),a3,())
 else
  Option.bind (a1) fun h3=>
  Option.bind (a3[h3]?) fun y4=>
  bif decide (y4.2.2.2.2.2.2.2.2.2.1≥0) then
   some (11,(a0.1,a0.2.1,a0.2.2.1,a0.2.2.2.1,a0.2.2.2.2.1,a0.2.2.2.2.2.1,()),a3,())
  else
   Option.bind (a1) fun h5=>
   Option.bind (a3[h5]?) fun y6=>
   some (0,(a0.1,a0.2.1,a0.2.2.1,a0.2.2.2.1,a0.2.2.2.2.1,a0.2.2.2.2.2.1,()),List.set a3 h5 (y6.1,y6.2.1,y6.2.2.1,y6.2.2.2.1,y6.2.2.2.2.1,y6.2.2.2.2.2.1,y6.2.2.2.2.2.2.1,y6.2.2.2.2.2.2.2.1,y6.2.2.2.2.2.2.2.2.1,a2,y6.2.2.2.2.2.2.2.2.2.2),())
def kO (a0:ai×(List ah)×(List (Int×(Option Nat)))×(List aa)×(List ay)×Int×Unit) (a1:Option Nat) (a2:ah) (a3:List aG):Option (Int×(ai×(List ah)×(List (Int×(Option Nat)))×(List aa)×(List ay)×Int×Unit)×(List aG)×Unit):=
 Option.bind (a1) fun h1=>
 Option.bind (a3[h1]?) fun y2=>
 bif decide (y2.2.2.2.2.2.2.2.2.2.1<0) then
  some (5,(a0.1,a0.2.1,a0.2.2.1,a0.2.2.2.1,a0.2.2.2.2.1,a0.2.2.2.2.2.1,()),a3,())
 else
  Option.bind (a1) fun h3=>
  Option.bind (a3[h3]?) fun y4=>
  Option.bind (idx a0.2.1 y4.2.2.2.2.2.2.2.2.2.1) fun y5=>
  bif y5.2.2.1 != a2.2.2.2.2.2.2.2.2.2.2 then
   some (5,(a0.1,a0.2.1,a0.2.2.1,a0.2.2.2.1,a0.2.2.2.2.1,a0.2.2.2.2.2.1,()),a3,())
  else
   Option.bind (a1) fun h6=>
   Option.bind (a3[h6]?) fun y7=>
   Option.bind (idx a0.2.1 y7.2.2.2.2.2.2.2.2.2.1) fun y8=>
   bif a2.2.2.2.1==5 then
    bif y8.2.2.2.1==2 then
     Option.bind (gB y8.2.2.2.2.2.2.1) fun r9=>
     Option.bind (a1) fun h10=>
     Option.bind (a3[h10]?) fun y11=>
     Option.bind (a1) fun h12=>
     Option.bind (a3[h12]?) fun y13=>
     bif decide (r9.1<(w64 (y11.2.2.2.2.1 - y13.2.2.2.2.2.2.1))) then
      some (12,(a0.1,a0.2.1,a0.2.2.1,a0.2.2.2.1,a0.2.2.2.2.1,a0.2.2.2.2.2.1,()),a3,())
     else
      Option.bind (gB y8.2.2.2.2.2.2.1) fun r14=>
      Option.bind (a1) fun h15=>
      Option.bind (a3[h15]?) fun y16=>
      Option.bind (a1) fun h17=>
      Option.bind ((List.set a3 h15 (y16.1,y16.2.1,y16.2.2.1,r14.1,y16.2.2.2.2))[h17]?) fun y18=>
      some (0,(a0.1,a0.2.1,a0.2.2.1,a0.2.2.2.1,a0.2.2.2.2.1,a0.2.2.2.2.2.1,()),List.set (List.set a3 h15 (y16.1,y16.2.1,y16.2.2.1,r14.1,y16.2.2.2.2)) h17 (y18.1,y18.2.1,y18.2.2.1,y18.2.2.2.1,y18.2.2.2.2.1,y18.2.2.2.2.2.1,y18.2.2.2.2.2.2.1,y18.2.2.2.2.2.2.2.1,y18.2.2.2.2.2.2.2.2.1,(-1),y18.2.2.2.2.2.2.2.2.2.2),())
    else
     bif y8.2.2.2.1==1 then
      Option.bind (gB y8.2.2.2.2.2.2.1) fun r19=>
      Option.bind (a1) fun h20=>
      Option.bind (a3[h20]?) fun y21=>
      Option.bind (a1) fun h22=>
      Option.bind ((List.set a3 h20 (y21.1,y21.2.1,y21.2.2.1,r19.1,y21.2.2.2.2))[h22]?) fun y23=>
      some (0,(a0.1,a0.2.1,a0.2.2.1,a0.2.2.2.1,a0.2.2.2.2.1,a0.2.2.2.2.2.1,()),List.set (List.set a3 h20 (y21.1,y21.2.1,y21.2.2.1,r19.1,y21.2.2.2.2)) h22 (y23.1,y23.2.1,y23.2.2.1,y23.2.2.2.1,y23.2.2.2.2.1,y23.2.2.2.2.2.1,y23.2.2.2.2.2.2.1,y23.2.2.2.2.2.2.2.1,y23.2.2.2.2.2.2.2.2.1,(-1),y23.2.2.2.2.2.2.2.2.2.2),())
     else
      bif y8.2.2.2.1==3 then
       Option.bind (a1) fun h24=>
       Option.bind (a3[h24]?) fun y25=>
       Option.bind (a1) fun h26=>
       Option.bind ((List.set a3 h24 (y25.1,y25.2.1,y25.2.2.1,y25.2.2.2.1,y25.2.2.2.2.1,y25.2.2.2.2.2.1,y25.2.2.2.2.2.2.1,y25.2.2.2.2.2.2.2.1,y8.2.2.2.2.2.2.2.2.2.1,y25.2.2.2.2.2.2.2.2.2))[h26]?) fun y27=>
       some (0,(a0.1,a0.2.1,a0.2.2.1,a0.2.2.2.1,a0.2.2.2.2.1,a0.2.2.2.2.2.1,()),List.set (List.set a3 h24 (y25.1,y25.2.1,y25.2.2.1,y25.2.2.2.1,y25.2.2.2.2.1,y25.2.2.2.2.2.1,y25.2.2.2.2.2.2.1,y25.2.2.2.2.2.2.2.1,y8.2.2.2.2.2.2.2.2.2.1,y25.2.2.2.2.2.2.2.2.2)) h26 (y27.1,y27.2.1,y27.2.2.1,y27.2.2.2.1,y27.2.2.2.2.1,y27.2.2.2.2.2.1,y27.2.2.2.2.2.2.1,y27.2.2.2.2.2.2.2.1,y27.2.2.2.2.2.2.2.2.1,(-1),y27.2.2.2.2.2.2.2.2.2.2),())
      else
       Option.bind (a1) fun h28=>
       Option.bind (a3[h28]?) fun y29=>
       Option.bind (a1) fun h30=>
       Option.bind ((List.set a3 h28 (y29.1,y29.2.1,y29.2.2.1,y29.2.2.2.1,y29.2.2.2.2.1,y29.2.2.2.2.2.1,y29.2.2.2.2.2.2.1,y8.2.2.2.2.2.2.2.2.1,y29.2.2.2.2.2.2.2.2))[h30]?) fun y31=>
       some (0,(a0.1,a0.2.1,a0.2.2.1,a0.2.2.2.1,a0.2.2.2.2.1,a0.2.2.2.2.2.1,()),List.set (List.set a3 h28 (y29.1,y29.2.1,y29.2.2.1,y29.2.2.2.1,y29.2.2.2.2.1,y29.2.2.2.2.2.1,y29.2.2.2.2.2.2.1,y8.2.2.2.2.2.2.2.2.1,y29.2.2.2.2.2.2.2.2)) h30 (y31.1,y31.2.1,y31.2.2.1,y31.2.2.2.1,y31.2.2.2.2.1,y31.2.2.2.2.2.1,y31.2.2.2.2.2.2.1,y31.2.2.2.2.2.2.2.1,y31.2.2.2.2.2.2.2.2.1,(-1),y31.2.2.2.2.2.2.2.2.2.2),())
   else
    Option.bind (a1) fun h32=>
    Option.bind (a3[h32]?) fun y33=>
    some (0,(a0.1,a0.2.1,a0.2.2.1,a0.2.2.2.1,a0.2.2.2.2.1,a0.2.2.2.2.2.1,()),List.set a3 h32 (y33.1,y33.2.1,y33.2.2.1,y33.2.2.2.1,y33.2.2.2.2.1,y33.2.2.2.2.2.1,y33.2.2.2.2.2.2.1,y33.2.2.2.2.2.2.2.1,y33.2.2.2.2.2.2.2.2.1,(-1),y33.2.2.2.2.2.2.2.2.2.2),())
def iS (a0:Option Nat) (a1:List aG):Option (Int×Unit):=
 Option.bind (a0) fun h1=>
 Option.bind (a1[h1]?) fun y2=>
 Option.bind (a0) fun h3=>
 Option.bind (a1[h3]?) fun y4=>
 Option.bind (a0) fun h5=>
 Option.bind (a1[h5]?) fun y6=>
 some (if (w64 ((w64 (y2.2.2.2.1 - y4.2.2.2.2.1))+y6.2.2.2.2.2.2.1))>0 then (w64 ((w64 (y2.2.2.2.1 - y4.2.2.2.2.1))+y6.2.2.2.2.2.2.1)) else 0,())
def jN (a0:ai×(List ah)×(List (Int×(Option Nat)))×(List aa)×(List ay)×Int×Unit) (a1:Option Nat) (a2:ah) (a3:List aG):Option (Int×(ai×(List ah)×(List (Int×(Option Nat)))×(List aa)×(List ay)×Int×Unit)×(List aG)×Unit):=
 bif decide (a2.2.2.2.2.2.2.2.2.2.1<a0.1.2.2.2.1) then
  some (1,(a0.1,a0.2.1,a0.2.2.1,a0.2.2.2.1,a0.2.2.2.2.1,a0.2.2.2.2.2.1,()),a3,())
 else
  Option.bind (a1) fun h1=>
  Option.bind (a3[h1]?) fun y2=>
  bif decide (y2.2.2.2.2.2.2.2.2.2.1≥0) then
   some (11,(a0.1,a0.2.1,a0.2.2.1,a0.2.2.2.1,a0.2.2.2.2.1,a0.2.2.2.2.2.1,()),a3,())
  else
   Option.bind (iS a1 a3) fun r3=>
   bif r3.1==0 then
    some (11,(a0.1,a0.2.1,a0.2.2.1,a0.2.2.2.1,a0.2.2.2.2.1,a0.2.2.2.2.2.1,()),a3,())
   else
    Option.bind (gB a2.2.2.2.2.2.2.1) fun r4=>
    Option.bind (iS a1 a3) fun r5=>
    bif decide (r4.1>r5.1) then
     some (12,(a0.1,a0.2.1,a0.2.2.1,a0.2.2.2.1,a0.2.2.2.2.1,a0.2.2.2.2.2.1,()),a3,())
    else
     some (0,(a0.1,a0.2.1,a0.2.2.1,a0.2.2.2.1,a0.2.2.2.2.1,a0.2.2.2.2.2.1,()),a3,())
def nB (a0:ai×(List ah)×(List (Int×(Option Nat)))×(List aa)×(List ay)×Int×Unit) (a1:Option Nat) (a2:ah) (a3:List aG):Option (Int×(ai×(List ah)×(List (Int×(Option Nat)))×(List aa)×(List ay)×Int×Unit)×(List aG)×Unit):=
 Option.bind (a1) fun h1=>
 Option.bind (a3[h1]?) fun y2=>
 bif decide (y2.2.2.2.2.2.2.2.2.2.1≥0) then
  some (11,(a0.1,a0.2.1,a0.2.2.1,a0.2.2.2.1,a0.2.2.2.2.1,a0.2.2.2.2.2.1,()),a3,())
 else
  Option.bind (a1) fun h3=>
  Option.bind (a3[h3]?) fun y4=>
  bif y4.2.2.2.2.2.2.2.2.2.2.1==0 then
   some (5,(a0.1,a0.2.1,a0.2.2.1,a0.2.2.2.1,a0.2.2.2.2.1,a0.2.2.2.2.2.1,()),a3,())
  else
   Option.bind (a1) fun h5=>
   Option.bind (a3[h5]?) fun y6=>
   bif y6.2.2.2.2.2.2.2.2.2.2.1 != a2.2.2.2.2.2.2.2.2.2.2 then
    some (5,(a0.1,a0.2.1,a0.2.2.1,a0.2.2.2.1,a0.2.2.2.2.1,a0.2.2.2.2.2.1,()),a3,())
   else
    Option.bind (a1) fun h7=>
    Option.bind (a3[h7]?) fun y8=>
    Option.bind (a1) fun h9=>
    Option.bind (a3[h9]?) fun y10=>
    Option.bind (a1) fun h11=>
    Option.bind (a3[h11]?) fun y12=>
    Option.bind (a1) fun h13=>
    Option.bind (a3[h13]?) fun y14=>
    Option.bind (a1) fun h15=>
    Option.bind (a3[h15]?) fun y16=>
    Option.bind (a1) fun h17=>
    Option.bind ((List.set a3 h15 (y16.1,y16.2.1,y16.2.2.1,w64 ((w64 (y8.2.2.2.2.1 - y10.2.2.2.2.2.2.1))+y12.2.2.2.2.2.2.2.2.2.2.2.1),y16.2.2.2.2))[h17]?) fun y18=>
    Option.bind (a1) fun h19=>
    Option.bind ((List.set (List.set a3 h15 (y16.1,y16.2.1,y16.2.2.1,w64 ((w64 (y8.2.2.2.2.1 - y10.2.2.2.2.2.2.1))+y12.2.2.2.2.2.2.2.2.2.2.2.1),y16.2.2.2.2)) h17 (y18.1,y18.2.1,y18.2.2.1,y18.2.2.2.1,y18.2.2.2.2.1,y18.2.2.2.2.2.1,y18.2.2.2.2.2.2.1,y18.2.2.2.2.2.2.2.1,y14.2.2.2.2.2.2.2.2.2.2.2.2,y18.2.2.2.2.2.2.2.2.2))[h19]?) fun y20=>
    some (0,(a0.1,a0.2.1,a0.2.2.1,a0.2.2.2.1,a0.2.2.2.2.1,a0.2.2.2.2.2.1,()),List.set (List.set (List.set a3 h15 (y16.1,y16.2.1,y16.2.2.1,w64 ((w64 (y8.2.2.2.2.1 - y10.2.2.2.2.2.2.1))+y12.2.2.2.2.2.2.2.2.2.2.2.1),y16.2.2.2.2)) h17 (y18.1,y18.2.1,y18.2.2.1,y18.2.2.2.1,y18.2.2.2.2.1,y18.2.2.2.2.2.1,y18.2.2.2.2.2.2.1,y18.2.2.2.2.2.2.2.1,y14.2.2.2.2.2.2.2.2.2.2.2.2,y18.2.2.2.2.2.2.2.2.2)) h19 (y20.1,y20.2.1,y20.2.2.1,y20.2.2.2.1,y20.2.2.2.2.1,y20.2.2.2.2.2.1,y20.2.2.2.2.2.2.1,y20.2.2.2.2.2.2.2.1,y20.2.2.2.2.2.2.2.2.1,y20.2.2.2.2.2.2.2.2.2.1,0,0,0),())
def nA (a0:ai×(List ah)×(List (Int×(Option Nat)))×(List aa)×(List ay)×Int×Unit) (a1:Option Nat) (a2:ah) (a3:List aG):Option (Int×(ai×(List ah)×(List (Int×(Option Nat)))×(List aa)×(List ay)×Int×Unit)×(List aG)×Unit):=
 Option.bind (gB a2.2.2.2.2.2.2.1) fun r1=>
 bif a2.2.2.2.1==9 then
  Option.bind (a1) fun h2=>
  Option.bind (a3[h2]?) fun y3=>
  Option.bind (a1) fun h4=>
  Option.bind (a3[h4]?) fun y5=>
  Option.bind (a1) fun h6=>
  Option.bind (a3[h6]?) fun y7=>
  Option.bind (a1) fun h8=>
  Option.bind (a3[h8]?) fun y9=>
  let n10:Int:=w64 (y7.2.2.2.1+(w64 (Int.tdiv (w64 (y9.2.2.2.1*a0.1.2.2.2.2.1)) 1000)))
  bif decide ((w64 ((w64 (y3.2.2.2.2.1 - y5.2.2.2.2.2.2.1))+r1.1))>n10) then
   some (12,(a0.1,a0.2.1,a0.2.2.1,a0.2.2.2.1,a0.2.2.2.2.1,a0.2.2.2.2.2.1,()),a3,())
  else
   Option.bind (a1) fun h11=>
   Option.bind (a3[h11]?) fun y12=>
   bif decide ((w64 (y12.2.2.2.2.1+r1.1))>1000000000000000) then
    some (16,(a0.1,a0.2.1,a0.2.2.1,a0.2.2.2.1,a0.2.2.2.2.1,a0.2.2.2.2.2.1,()),a3,())
   else
    Option.bind (a1) fun h13=>
    Option.bind (a3[h13]?) fun y14=>
    Option.bind (a1) fun h15=>
    Option.bind (a3[h15]?) fun y16=>
    some (0,(a0.1,a0.2.1,a0.2.2.1,a0.2.2.2.1,a0.2.2.2.2.1,a0.2.2.2.2.2.1,()),List.set a3 h15 (y16.1,y16.2.1,y16.2.2.1,y16.2.2.2.1,w64 (y14.2.2.2.2.1+r1.1),y16.2.2.2.2.2),())
 else
  bif a2.2.2.2.1==10 then
   Option.bind (a1) fun h17=>
   Option.bind (a3[h17]?) fun y18=>
   Option.bind (a1) fun h19=>
   Option.bind (a3[h19]?) fun y20=>
   bif decide ((w64 (y18.2.2.2.2.2.1+r1.1))>y20.2.2.2.2.1) then
    some (12,(a0.1,a0.2.1,a0.2.2.1,a0.2.2.2.1,a0.2.2.2.2.1,a0.2.2.2.2.2.1,()),a3,())
   else
    Option.bind (a1) fun h21=>
    Option.bind (a3[h21]?) fun y22=>
    Option.bind (a1) fun h23=>
    Option.bind (a3[h23]?) fun y24=>
    some (0,(a0.1,a0.2.1,a0.2.2.1,a0.2.2.2.1,a0.2.2.2.2.1,a0.2.2.2.2.2.1,()),List.set a3 h23 (y24.1,y24.2.1,y24.2.2.1,y24.2.2.2.1,y24.2.2.2.2.1,w64 (y22.2.2.2.2.2.1+r1.1),y24.2.2.2.2.2.2),())
  else
   Option.bind (a1) fun h25=>
   Option.bind (a3[h25]?) fun y26=>
   Option.bind (a1) fun h27=>
   Option.bind (a3[h27]?) fun y28=>
   bif decide ((w64 (y26.2.2.2.2.2.2.1+r1.1))>y28.2.2.2.2.2.1) then
    some (12,(a0.1,a0.2.1,a0.2.2.1,a0.2.2.2.1,a0.2.2.2.2.1,a0.2.2.2.2.2.1,()),a3,())
   else
    Option.bind (a1) fun h29=>
    Option.bind (a3[h29]?) fun y30=>
    Option.bind (a1) fun h31=>
    Option.bind (a3[h31]?) fun y32=>
    some (0,(a0.1,a0.2.1,a0.2.2.1,a0.2.2.2.1,a0.2.2.2.2.1,a0.2.2.2.2.2.1,()),List.set a3 h31 (y32.1,y32.2.1,y32.2.2.1,y32.2.2.2.1,y32.2.2.2.2.1,y32.2.2.2.2.2.1,w64 (y30.2.2.2.2.2.2.1+r1.1),y32.2.2.2.2.2.2.2),())
def aQ (a0:ai×(List ah)×(List (Int×(Option Nat)))×(List aa)×(List ay)×Int×Unit) (a1:Int) (a2:List aG):Option (Int×(ai×(List ah)×(List (Int×(Option Nat)))×(List aa)×(List ay)×Int×Unit)×(List aG)×Unit):=
 Option.bind (idx a0.2.1 a1) fun y1=>
 bif y1.2.2.2.1==1 then
  Option.bind (oz (a0.1,a0.2.1,a0.2.2.1,a0.2.2.2.1,a0.2.2.2.2.1,a0.2.2.2.2.2.1,()) a1 a2) fun r2=>
  some (r2.1,(r2.2.1.1,r2.2.1.2.1,r2.2.1.2.2.1,r2.2.1.2.2.2.1,r2.2.1.2.2.2.2.1,r2.2.1.2.2.2.2.2.1,()),r2.2.2.1,())
 else
  bif Option.isNone (Option.getD (α:=Option Nat) (mG (k:=tI) (v:= .hnd) a0.2.2.1 y1.2.2.2.2.1) none) then
   some (9,(a0.1,a0.2.1,a0.2.2.1,a0.2.2.2.1,a0.2.2.2.2.1,a0.2.2.2.2.2.1,()),a2,())
  else
   aJ (β:=(Int×(ai×(List ah)×(List (Int×(Option Nat)))×(List aa)×(List ay)×Int×Unit)×(List aG)×Unit)) (γ:=(Int×(Option Nat)×Int×Bool×Int×Int×Int×Int×Int×(List UInt8)×Int×Int×(List UInt8)×Int×Int×Int×Int×(List UInt8)×(List UInt8)×(List UInt8)×Int×Int×(List aK)×(List ah)×Int×(List aa)×(List ay)×(List (Int×(Option Nat)))×(List aG)×Unit)) (
    bif y1.2.2.2.1==2 then
     some (Sum.inr (a1,Option.getD (α:=Option Nat) (mG (k:=tI) (v:= .hnd) a0.2.2.1 y1.2.2.2.2.1) none,y1.2.2.2.1,y1.2.2.2.1==2,y1.1,y1.2.1,y1.2.2.1,y1.2.2.2.1,y1.2.2.2.2.1,y1.2.2.2.2.2.1,y1.2.2.2.2.2.2.1.1,y1.2.2.2.2.2.2.1.2,y1.2.2.2.2.2.2.2.1,y1.2.2.2.2.2.2.2.2.1.1,y1.2.2.2.2.2.2.2.2.1.2,y1.2.2.2.2.2.2.2.2.2.1,y1.2.2.2.2.2.2.2.2.2.2,a0.1.1,a0.1.2.1,a0.1.2.2.1,a0.1.2.2.2.1,a0.1.2.2.2.2.1,a0.1.2.2.2.2.2,a0.2.1,a0.2.2.2.2.2.1,a0.2.2.2.1,a0.2.2.2.2.1,a0.2.2.1,a2,()))
    else
     bif y1.2.2.2.1==3 then
      some (Sum.inr (a1,Option.getD (α:=Option Nat) (mG (k:=tI) (v:= .hnd) a0.2.2.1 y1.2.2.2.2.1) none,y1.2.2.2.1,y1.2.2.2.1==3,y1.1,y1.2.1,y1.2.2.1,y1.2.2.2.1,y1.2.2.2.2.1,y1.2.2.2.2.2.1,y1.2.2.2.2.2.2.1.1,y1.2.2.2.2.2.2.1.2,y1.2.2.2.2.2.2.2.1,y1.2.2.2.2.2.2.2.2.1.1,y1.2.2.2.2.2.2.2.2.1.2,y1.2.2.2.2.2.2.2.2.2.1,y1.2.2.2.2.2.2.2.2.2.2,a0.1.1,a0.1.2.1,a0.1.2.2.1,a0.1.2.2.2.1,a0.1.2.2.2.2.1,a0.1.2.2.2.2.2,a0.2.1,a0.2.2.2.2.2.1,a0.2.2.2.1,a0.2.2.2.2.1,a0.2.2.1,a2,()))
     else
      some (Sum.inr (a1,Option.getD (α:=Option Nat) (mG (k:=tI) (v:= .hnd) a0.2.2.1 y1.2.2.2.2.1) none,y1.2.2.2.1,y1.2.2.2.1==4,y1.1,y1.2.1,y1.2.2.1,y1.2.2.2.1,y1.2.2.2.2.1,y1.2.2.2.2.2.1,y1.2.2.2.2.2.2.1.1,y1.2.2.2.2.2.2.1.2,y1.2.2.2.2.2.2.2.1,y1.2.2.2.2.2.2.2.2.1.1,y1.2.2.2.2.2.2.2.2.1.2,y1.2.2.2.2.2.2.2.2.2.1,y1.2.2.2.2.2.2.2.2.2.2,a0.1.1,a0.1.2.1,a0.1.2.2.1,a0.1.2.2.2.1,a0.1.2.2.2.2.1,a0.1.2.2.2.2.2,a0.2.1,a0.2.2.2.2.2.1,a0.2.2.2.1,a0.2.2.2.2.1,a0.2.2.1,a2,()))) fun v3=>
   bif v3.2.2.2.1 then
    Option.bind (nC ((v3.2.2.2.2.2.2.2.2.2.2.2.2.2.2.2.2.2.1,v3.2.2.2.2.2.2.2.2.2.2.2.2.2.2.2.2.2.2.1,v3.2.2.2.2.2.2.2.2.2.2.2.2.2.2.2.2.2.2.2.1,v3.2.2.2.2.2.2.2.2.2.2.2.2.2.2.2.2.2.2.2.2.1,v3.2.2.2.2.2.2.2.2.2.2.2.2.2.2.2.2.2.2.2.2.2.1,v3.2.2.2.2.2.2.2.2.2.2.2.2.2.2.2.2.2.2.2.2.2.2.1),v3.2.2.2.2.2.2.2.2.2.2.2.2.2.2.2.2.2.2.2.2.2.2.2.1,v3.2.2.2.2.2.2.2.2.2.2.2.2.2.2.2.2.2.2.2.2.2.2.2.2.2.2.2.1,v3.2.2.2.2.2.2.2.2.2.2.2.2.2.2.2.2.2.2.2.2.2.2.2.2.2.1,v3.2.2.2.2.2.2.2.2.2.2.2.2.2.2.2.2.2.2.2.2.2.2.2.2.2.2.1,v3.2.2.2.2.2.2.2.2.2.2.2.2.2.2.2.2.2.2.2.2.2.2.2.2.1,()) v3.2.1 v3.1 v3.2.2.2.2.2.2.2.2.2.2.2.2.2.2.2.2.2.2.2.2.2.2.2.2.2.2.2.2.1) fun r4=>
    some (r4.1,(r4.2.1.1,r4.2.1.2.1,r4.2.1.2.2.1,r4.2.1.2.2.2.1,r4.2.1.2.2.2.2.1,r4.2.1.2.2.2.2.2.1,()),r4.2.2.1,())
   else
    aJ (β:=(Int×(ai×(List ah)×(List (Int×(Option Nat)))×(List aa)×(List ay)×Int×Unit)×(List aG)×Unit)) (γ:=((Option Nat)×Int×Bool×Int×Int×Int×Int×Int×(List UInt8)×Int×Int×(List UInt8)×Int×Int×Int×Int×(List UInt8)×(List UInt8)×(List UInt8)×Int×Int×(List aK)×(List ah)×Int×(List aa)×(List ay)×(List (Int×(Option Nat)))×(List aG)×Unit)) (
     bif v3.2.2.1==5 then
      some (Sum.inr (v3.2.1,v3.2.2.1,v3.2.2.1==5,v3.2.2.2.2.1,v3.2.2.2.2.2.1,v3.2.2.2.2.2.2.1,v3.2.2.2.2.2.2.2.1,v3.2.2.2.2.2.2.2.2.1,v3.2.2.2.2.2.2.2.2.2.1,v3.2.2.2.2.2.2.2.2.2.2.1,v3.2.2.2.2.2.2.2.2.2.2.2.1,v3.2.2.2.2.2.2.2.2.2.2.2.2.1,v3.2.2.2.2.2.2.2.2.2.2.2.2.2.1,v3.2.2.2.2.2.2.2.2.2.2.2.2.2.2.1,v3.2.2.2.2.2.2.2.2.2.2.2.2.2.2.2.1,v3.2.2.2.2.2.2.2.2.2.2.2.2.2.2.2.2.1,v3.2.2.2.2.2.2.2.2.2.2.2.2.2.2.2.2.2.1,v3.2.2.2.2.2.2.2.2.2.2.2.2.2.2.2.2.2.2.1,v3.2.2.2.2.2.2.2.2.2.2.2.2.2.2.2.2.2.2.2.1,v3.2.2.2.2.2.2.2.2.2.2.2.2.2.2.2.2.2.2.2.2.1,v3.2.2.2.2.2.2.2.2.2.2.2.2.2.2.2.2.2.2.2.2.2.1,v3.2.2.2.2.2.2.2.2.2.2.2.2.2.2.2.2.2.2.2.2.2.2.1,v3.2.2.2.2.2.2.2.2.2.2.2.2.2.2.2.2.2.2.2.2.2.2.2.1,v3.2.2.2.2.2.2.2.2.2.2.2.2.2.2.2.2.2.2.2.2.2.2.2.2.1,v3.2.2.2.2.2.2.2.2.2.2.2.2.2.2.2.2.2.2.2.2.2.2.2.2.2.1,v3.2.2.2.2.2.2.2.2.2.2.2.2.2.2.2.2.2.2.2.2.2.2.2.2.2.2.1,v3.2.2.2.2.2.2.2.2.2.2.2.2.2.2.2.2.2.2.2.2.2.2.2.2.2.2.2.1,v3.2.2.2.2.2.2.2.2.2.2.2.2.2.2.2.2.2.2.2.2.2.2.2.2.2.2.2.2.1,()))
     else
      some (Sum.inr (v3.2.1,v3.2.2.1,v3.2.2.1==6,v3.2.2.2.2.1,v3.2.2.2.2.2.1,v3.2.2.2.2.2.2.1,v3.2.2.2.2.2.2.2.1,v3.2.2.2.2.2.2.2.2.1,v3.2.2.2.2.2.2.2.2.2.1,v3.2.2.2.2.2.2.2.2.2.2.1,v3.2.2.2.2.2.2.2.2.2.2.2.1,v3.2.2.2.2.2.2.2.2.2.2.2.2.1,v3.2.2.2.2.2.2.2.2.2.2.2.2.2.1,v3.2.2.2.2.2.2.2.2.2.2.2.2.2.2.1,v3.2.2.2.2.2.2.2.2.2.2.2.2.2.2.2.1,v3.2.2.2.2.2.2.2.2.2.2.2.2.2.2.2.2.1,v3.2.2.2.2.2.2.2.2.2.2.2.2.2.2.2.2.2.1,v3.2.2.2.2.2.2.2.2.2.2.2.2.2.2.2.2.2.2.1,v3.2.2.2.2.2.2.2.2.2.2.2.2.2.2.2.2.2.2.2.1,v3.2.2.2.2.2.2.2.2.2.2.2.2.2.2.2.2.2.2.2.2.1,v3.2.2.2.2.2.2.2.2.2.2.2.2.2.2.2.2.2.2.2.2.2.1,v3.2.2.2.2.2.2.2.2.2.2.2.2.2.2.2.2.2.2.2.2.2.2.1,v3.2.2.2.2.2.2.2.2.2.2.2.2.2.2.2.2.2.2.2.2.2.2.2.1,v3.2.2.2.2.2.2.2.2.2.2.2.2.2.2.2.2.2.2.2.2.2.2.2.2.1,v3.2.2.2.2.2.2.2.2.2.2.2.2.2.2.2.2.2.2.2.2.2.2.2.2.2.1,v3.2.2.2.2.2.2.2.2.2.2.2.2.2.2.2.2.2.2.2.2.2.2.2.2.2.2.1,v3.2.2.2.2.2.2.2.2.2.2.2.2.2.2.2.2.2.2.2.2.2.2.2.2.2.2.2.1,v3.2.2.2.2.2.2.2.2.2.2.2.2.2.2.2.2.2.2.2.2.2.2.2.2.2.2.2.2.1,()))) fun v5=>
    aJ (β:=(Int×(ai×(List ah)×(List (Int×(Option Nat)))×(List aa)×(List ay)×Int×Unit)×(List aG)×Unit)) (γ:=((Option Nat)×Int×Int×Int×Int×Int×Int×(List UInt8)×Int×Int×(List UInt8)×Int×Int×Int×Int×(List UInt8)×(List UInt8)×(List UInt8)×Int×Int×(List aK)×(List ah)×(List (Int×(Option Nat)))×(List aa)×(List ay)×Int×(List aG)×Unit)) (
     bif v5.2.2.1 then
      Option.bind (kO ((v5.2.2.2.2.2.2.2.2.2.2.2.2.2.2.2.2.1,v5.2.2.2.2.2.2.2.2.2.2.2.2.2.2.2.2.2.1,v5.2.2.2.2.2.2.2.2.2.2.2.2.2.2.2.2.2.2.1,v5.2.2.2.2.2.2.2.2.2.2.2.2.2.2.2.2.2.2.2.1,v5.2.2.2.2.2.2.2.2.2.2.2.2.2.2.2.2.2.2.2.2.1,v5.2.2.2.2.2.2.2.2.2.2.2.2.2.2.2.2.2.2.2.2.2.1),v5.2.2.2.2.2.2.2.2.2.2.2.2.2.2.2.2.2.2.2.2.2.2.1,v5.2.2.2.2.2.2.2.2.2.2.2.2.2.2.2.2.2.2.2.2.2.2.2.2.2.2.1,v5.2.2.2.2.2.2.2.2.2.2.2.2.2.2.2.2.2.2.2.2.2.2.2.2.1,v5.2.2.2.2.2.2.2.2.2.2.2.2.2.2.2.2.2.2.2.2.2.2.2.2.2.1,v5.2.2.2.2.2.2.2.2.2.2.2.2.2.2.2.2.2.2.2.2.2.2.2.1,()) v5.1 (v5.2.2.2.1,v5.2.2.2.2.1,v5.2.2.2.2.2.1,v5.2.2.2.2.2.2.1,v5.2.2.2.2.2.2.2.1,v5.2.2.2.2.2.2.2.2.1,(v5.2.2.2.2.2.2.2.2.2.1,v5.2.2.2.2.2.2.2.2.2.2.1),v5.2.2.2.2.2.2.2.2.2.2.2.1,(v5.2.2.2.2.2.2.2.2.2.2.2.2.1,v5.2.2.2.2.2.2.2.2.2.2.2.2.2.1),v5.2.2.2.2.2.2.2.2.2.2.2.2.2.2.1,v5.2.2.2.2.2.2.2.2.2.2.2.2.2.2.2.1) v5.2.2.2.2.2.2.2.2.2.2.2.2.2.2.2.2.2.2.2.2.2.2.2.2.2.2.2.1) fun r6=>
      some (Sum.inr (v5.1,r6.1,v5.2.2.2.1,v5.2.2.2.2.1,v5.2.2.2.2.2.1,v5.2.2.2.2.2.2.1,v5.2.2.2.2.2.2.2.1,v5.2.2.2.2.2.2.2.2.1,v5.2.2.2.2.2.2.2.2.2.1,v5.2.2.2.2.2.2.2.2.2.2.1,v5.2.2.2.2.2.2.2.2.2.2.2.1,v5.2.2.2.2.2.2.2.2.2.2.2.2.1,v5.2.2.2.2.2.2.2.2.2.2.2.2.2.1,v5.2.2.2.2.2.2.2.2.2.2.2.2.2.2.1,v5.2.2.2.2.2.2.2.2.2.2.2.2.2.2.2.1,r6.2.1.1.1,r6.2.1.1.2.1,r6.2.1.1.2.2.1,r6.2.1.1.2.2.2.1,r6.2.1.1.2.2.2.2.1,r6.2.1.1.2.2.2.2.2,r6.2.1.2.1,r6.2.1.2.2.1,r6.2.1.2.2.2.1,r6.2.1.2.2.2.2.1,r6.2.1.2.2.2.2.2.1,r6.2.2.1,()))
     else
      bif v5.2.1==7 then
       Option.bind (jN ((v5.2.2.2.2.2.2.2.2.2.2.2.2.2.2.2.2.1,v5.2.2.2.2.2.2.2.2.2.2.2.2.2.2.2.2.2.1,v5.2.2.2.2.2.2.2.2.2.2.2.2.2.2.2.2.2.2.1,v5.2.2.2.2.2.2.2.2.2.2.2.2.2.2.2.2.2.2.2.1,v5.2.2.2.2.2.2.2.2.2.2.2.2.2.2.2.2.2.2.2.2.1,v5.2.2.2.2.2.2.2.2.2.2.2.2.2.2.2.2.2.2.2.2.2.1),v5.2.2.2.2.2.2.2.2.2.2.2.2.2.2.2.2.2.2.2.2.2.2.1,v5.2.2.2.2.2.2.2.2.2.2.2.2.2.2.2.2.2.2.2.2.2.2.2.2.2.2.1,v5.2.2.2.2.2.2.2.2.2.2.2.2.2.2.2.2.2.2.2.2.2.2.2.2.1,v5.2.2.2.2.2.2.2.2.2.2.2.2.2.2.2.2.2.2.2.2.2.2.2.2.2.1,v5.2.2.2.2.2.2.2.2.2.2.2.2.2.2.2.2.2.2.2.2.2.2.2.1,()) v5.1 (v5.2.2.2.1,v5.2.2.2.2.1,v5.2.2.2.2.2.1,v5.2.2.2.2.2.2.1,v5.2.2.2.2.2.2.2.1,v5.2.2.2.2.2.2.2.2.1,(v5.2.2.2.2.2.2.2.2.2.1,v5.2.2.2.2.2.2.2.2.2.2.1),v5.2.2.2.2.2.2.2.2.2.2.2.1,(v5.2.2.2.2.2.2.2.2.2.2.2.2.1,v5.2.2.2.2.2.2.2.2.2.2.2.2.2.1),v5.2.2.2.2.2.2.2.2.2.2.2.2.2.2.1,v5.2.2.2.2.2.2.2.2.2.2.2.2.2.2.2.1) v5.2.2.2.2.2.2.2.2.2.2.2.2.2.2.2.2.2.2.2.2.2.2.2.2.2.2.2.1) fun r7=>
       some (Sum.inr (v5.1,r7.1,v5.2.2.2.1,v5.2.2.2.2.1,v5.2.2.2.2.2.1,v5.2.2.2.2.2.2.1,v5.2.2.2.2.2.2.2.1,v5.2.2.2.2.2.2.2.2.1,v5.2.2.2.2.2.2.2.2.2.1,v5.2.2.2.2.2.2.2.2.2.2.1,v5.2.2.2.2.2.2.2.2.2.2.2.1,v5.2.2.2.2.2.2.2.2.2.2.2.2.1,v5.2.2.2.2.2.2.2.2.2.2.2.2.2.1,v5.2.2.2.2.2.2.2.2.2.2.2.2.2.2.1,v5.2.2.2.2.2.2.2.2.2.2.2.2.2.2.2.1,r7.2.1.1.1,r7.2.1.1.2.1,r7.2.1.1.2.2.1,r7.2.1.1.2.2.2.1,r7.2.1.1.2.2.2.2.1,r7.2.1.1.2.2.2.2.2,r7.2.1.2.1,r7.2.1.2.2.1,r7.2.1.2.2.2.1,r7.2.1.2.2.2.2.1,r7.2.1.2.2.2.2.2.1,r7.2.2.1,()))
      else
       bif v5.2.1==8 then
        Option.bind (nB ((v5.2.2.2.2.2.2.2.2.2.2.2.2.2.2.2.2.1,v5.2.2.2.2.2.2.2.2.2.2.2.2.2.2.2.2.2.1,v5.2.2.2.2.2.2.2.2.2.2.2.2.2.2.2.2.2.2.1,v5.2.2.2.2.2.2.2.2.2.2.2.2.2.2.2.2.2.2.2.1,v5.2.2.2.2.2.2.2.2.2.2.2.2.2.2.2.2.2.2.2.2.1,v5.2.2.2.2.2.2.2.2.2.2.2.2.2.2.2.2.2.2.2.2.2.1),v5.2.2.2.2.2.2.2.2.2.2.2.2.2.2.2.2.2.2.2.2.2.2.1,v5.2.2.2.2.2.2.2.2.2.2.2.2.2.2.2.2.2.2.2.2.2.2.2.2.2.2.1,v5.2.2.2.2.2.2.2.2.2.2.2.2.2.2.2.2.2.2.2.2.2.2.2.2.1,v5.2.2.2.2.2.2.2.2.2.2.2.2.2.2.2.2.2.2.2.2.2.2.2.2.2.1,v5.2.2.2.2.2.2.2.2.2.2.2.2.2.2.2.2.2.2.2.2.2.2.2.1,()) v5.1 (v5.2.2.2.1,v5.2.2.2.2.1,v5.2.2.2.2.2.1,v5.2.2.2.2.2.2.1,v5.2.2.2.2.2.2.2.1,v5.2.2.2.2.2.2.2.2.1,(v5.2.2.2.2.2.2.2.2.2.1,v5.2.2.2.2.2.2.2.2.2.2.1),v5.2.2.2.2.2.2.2.2.2.2.2.1,(v5.2.2.2.2.2.2.2.2.2.2.2.2.1,v5.2.2.2.2.2.2.2.2.2.2.2.2.2.1),v5.2.2.2.2.2.2.2.2.2.2.2.2.2.2.1,v5.2.2.2.2.2.2.2.2.2.2.2.2.2.2.2.1) v5.2.2.2.2.2.2.2.2.2.2.2.2.2.2.2.2.2.2.2.2.2.2.2.2.2.2.2.1) fun r8=>
        some (Sum.inl (r8.1,(r8.2.1.1,r8.2.1.2.1,r8.2.1.2.2.1,r8.2.1.2.2.2.1,r8.2.1.2.2.2.2.1,r8.2.1.2.2.2.2.2.1,()),r8.2.2.1,()))
       else
        Option.bind (nA ((v5.2.2.2.2.2.2.2.2.2.2.2.2.2.2.2.2.1,v5.2.2.2.2.2.2.2.2.2.2.2.2.2.2.2.2.2.1,v5.2.2.2.2.2.2.2.2.2.2.2.2.2.2.2.2.2.2.1,v5.2.2.2.2.2.2.2.2.2.2.2.2.2.2.2.2.2.2.2.1,v5.2.2.2.2.2.2.2.2.2.2.2.2.2.2.2.2.2.2.2.2.1,v5.2.2.2.2.2.2.2.2.2.2.2.2.2.2.2.2.2.2.2.2.2.1),v5.2.2.2.2.2.2.2.2.2.2.2.2.2.2.2.2.2.2.2.2.2.2.1,v5.2.2.2.2.2.2.2.2.2.2.2.2.2.2.2.2.2.2.2.2.2.2.2.2.2.2.1,v5.2.2.2.2.2.2.2.2.2.2.2.2.2.2.2.2.2.2.2.2.2.2.2.2.1,v5.2.2.2.2.2.2.2.2.2.2.2.2.2.2.2.2.2.2.2.2.2.2.2.2.2.1,v5.2.2.2.2.2.2.2.2.2.2.2.2.2.2.2.2.2.2.2.2.2.2.2.1,()) v5.1 (v5.2.2.2.1,v5.2.2.2.2.1,v5.2.2.2.2.2.1,v5.2.2.2.2.2.2.1,v5.2.2.2.2.2.2.2.1,v5.2.2.2.2.2.2.2.2.1,(v5.2.2.2.2.2.2.2.2.2.1,v5.2.2.2.2.2.2.2.2.2.2.1),v5.2.2.2.2.2.2.2.2.2.2.2.1,(v5.2.2.2.2.2.2.2.2.2.2.2.2.1,v5.2.2.2.2.2.2.2.2.2.2.2.2.2.1),v5.2.2.2.2.2.2.2.2.2.2.2.2.2.2.1,v5.2.2.2.2.2.2.2.2.2.2.2.2.2.2.2.1) v5.2.2.2.2.2.2.2.2.2.2.2.2.2.2.2.2.2.2.2.2.2.2.2.2.2.2.2.1) fun r9=>
        some (Sum.inr (v5.1,r9.1,v5.2.2.2.1,v5.2.2.2.2.1,v5.2.2.2.2.2.1,v5.2.2.2.2.2.2.1,v5.2.2.2.2.2.2.2.1,v5.2.2.2.2.2.2.2.2.1,v5.2.2.2.2.2.2.2.2.2.1,v5.2.2.2.2.2.2.2.2.2.2.1,v5.2.2.2.2.2.2.2.2.2.2.2.1,v5.2.2.2.2.2.2.2.2.2.2.2.2.1,v5.2.2.2.2.2.2.2.2.2.2.2.2.2.1,v5.2.2.2.2.2.2.2.2.2.2.2.2.2.2.1,v5.2.2.2.2.2.2.2.2.2.2.2.2.2.2.2.1,r9.2.1.1.1,r9.2.1.1.2.1,r9.2.1.1.2.2.1,r9.2.1.1.2.2.2.1,r9.2.1.1.2.2.2.2.1,r9.2.1.1.2.2.2.2.2,r9.2.1.2.1,r9.2.1.2.2.1,r9.2.1.2.2.2.1,r9.2.1.2.2.2.2.1,r9.2.1.2.2.2.2.2.1,r9.2.2.1,()))) fun v10=>
    Option.bind (
     bif v10.2.1==0 then
      Option.bind (oA v10.2.2.2.2.2.1) fun r11=>
      some (r11.1,())
     else
      some (false,())) fun v12=>
    bif v12.1 then
     Option.bind (v10.1) fun h13=>
     Option.bind (v10.2.2.2.2.2.2.2.2.2.2.2.2.2.2.2.2.2.2.2.2.2.2.2.2.2.2.1[h13]?) fun y14=>
     bif v10.2.2.2.2.2.1==7 then
      Option.bind (gB (v10.2.2.2.2.2.2.2.2.1,v10.2.2.2.2.2.2.2.2.2.1)) fun r15=>
      Option.bind (v10.1) fun h16=>
      Option.bind ((List.set v10.2.2.2.2.2.2.2.2.2.2.2.2.2.2.2.2.2.2.2.2.2.2.2.2.2.2.1 h13 (y14.1,y14.2.1,y14.2.2.1,y14.2.2.2.1,y14.2.2.2.2.1,y14.2.2.2.2.2.1,y14.2.2.2.2.2.2.1,y14.2.2.2.2.2.2.2.1,y14.2.2.2.2.2.2.2.2.1,y14.2.2.2.2.2.2.2.2.2.1,0,0,0))[h16]?) fun y17=>
      some (v10.2.1,((v10.2.2.2.2.2.2.2.2.2.2.2.2.2.2.2.1,v10.2.2.2.2.2.2.2.2.2.2.2.2.2.2.2.2.1,v10.2.2.2.2.2.2.2.2.2.2.2.2.2.2.2.2.2.1,v10.2.2.2.2.2.2.2.2.2.2.2.2.2.2.2.2.2.2.1,v10.2.2.2.2.2.2.2.2.2.2.2.2.2.2.2.2.2.2.2.1,v10.2.2.2.2.2.2.2.2.2.2.2.2.2.2.2.2.2.2.2.2.1),v10.2.2.2.2.2.2.2.2.2.2.2.2.2.2.2.2.2.2.2.2.2.1,v10.2.2.2.2.2.2.2.2.2.2.2.2.2.2.2.2.2.2.2.2.2.2.1,v10.2.2.2.2.2.2.2.2.2.2.2.2.2.2.2.2.2.2.2.2.2.2.2.1,v10.2.2.2.2.2.2.2.2.2.2.2.2.2.2.2.2.2.2.2.2.2.2.2.2.1,v10.2.2.2.2.2.2.2.2.2.2.2.2.2.2.2.2.2.2.2.2.2.2.2.2.2.1,()),List.set (List.set v10.2.2.2.2.2.2.2.2.2.2.2.2.2.2.2.2.2.2.2.2.2.2.2.2.2.2.1 h13 (y14.1,y14.2.1,y14.2.2.1,y14.2.2.2.1,y14.2.2.2.2.1,y14.2.2.2.2.2.1,y14.2.2.2.2.2.2.1,y14.2.2.2.2.2.2.2.1,y14.2.2.2.2.2.2.2.2.1,y14.2.2.2.2.2.2.2.2.2.1,0,0,0)) h16 (y17.1,y17.2.1,y17.2.2.1,y17.2.2.2.1,y17.2.2.2.2.1,y17.2.2.2.2.2.1,y17.2.2.2.2.2.2.1,y17.2.2.2.2.2.2.2.1,y17.2.2.2.2.2.2.2.2.1,y17.2.2.2.2.2.2.2.2.2.1,v10.2.2.2.2.1,r15.1,v10.2.2.2.2.2.2.2.2.2.2.2.2.2.1),())
     else
      some (v10.2.1,((v10.2.2.2.2.2.2.2.2.2.2.2.2.2.2.2.1,v10.2.2.2.2.2.2.2.2.2.2.2.2.2.2.2.2.1,v10.2.2.2.2.2.2.2.2.2.2.2.2.2.2.2.2.2.1,v10.2.2.2.2.2.2.2.2.2.2.2.2.2.2.2.2.2.2.1,v10.2.2.2.2.2.2.2.2.2.2.2.2.2.2.2.2.2.2.2.1,v10.2.2.2.2.2.2.2.2.2.2.2.2.2.2.2.2.2.2.2.2.1),v10.2.2.2.2.2.2.2.2.2.2.2.2.2.2.2.2.2.2.2.2.2.1,v10.2.2.2.2.2.2.2.2.2.2.2.2.2.2.2.2.2.2.2.2.2.2.1,v10.2.2.2.2.2.2.2.2.2.2.2.2.2.2.2.2.2.2.2.2.2.2.2.1,v10.2.2.2.2.2.2.2.2.2.2.2.2.2.2.2.2.2.2.2.2.2.2.2.2.1,v10.2.2.2.2.2.2.2.2.2.2.2.2.2.2.2.2.2.2.2.2.2.2.2.2.2.1,()),List.set v10.2.2.2.2.2.2.2.2.2.2.2.2.2.2.2.2.2.2.2.2.2.2.2.2.2.2.1 h13 (y14.1,y14.2.1,y14.2.2.1,y14.2.2.2.1,y14.2.2.2.2.1,y14.2.2.2.2.2.1,y14.2.2.2.2.2.2.1,y14.2.2.2.2.2.2.2.1,y14.2.2.2.2.2.2.2.2.1,y14.2.2.2.2.2.2.2.2.2.1,0,0,0),())
    else
     some (v10.2.1,((v10.2.2.2.2.2.2.2.2.2.2.2.2.2.2.2.1,v10.2.2.2.2.2.2.2.2.2.2.2.2.2.2.2.2.1,v10.2.2.2.2.2.2.2.2.2.2.2.2.2.2.2.2.2.1,v10.2.2.2.2.2.2.2.2.2.2.2.2.2.2.2.2.2.2.1,v10.2.2.2.2.2.2.2.2.2.2.2.2.2.2.2.2.2.2.2.1,v10.2.2.2.2.2.2.2.2.2.2.2.2.2.2.2.2.2.2.2.2.1),v10.2.2.2.2.2.2.2.2.2.2.2.2.2.2.2.2.2.2.2.2.2.1,v10.2.2.2.2.2.2.2.2.2.2.2.2.2.2.2.2.2.2.2.2.2.2.1,v10.2.2.2.2.2.2.2.2.2.2.2.2.2.2.2.2.2.2.2.2.2.2.2.1,v10.2.2.2.2.2.2.2.2.2.2.2.2.2.2.2.2.2.2.2.2.2.2.2.2.1,v10.2.2.2.2.2.2.2.2.2.2.2.2.2.2.2.2.2.2.2.2.2.2.2.2.2.1,()),v10.2.2.2.2.2.2.2.2.2.2.2.2.2.2.2.2.2.2.2.2.2.2.2.2.2.2.1,())
def oB (a0:Int):Option (aa×Unit):=
 Option.bind (ja a0) fun r1=>
 Option.bind (xb r1.1 3) fun r2=>
 some (r2.1,())
abbrev sP:Type:=Int×Int×Int×Int×Unit
abbrev sO:Type:=((aa×Unit) ⊕ (Int×Int×Int×Int×Unit))
def sN (x1:sP) (again:sP→Option sO):Option sO:=
 Option.bind (
  bif decide (x1.2.1>0) then
   some ((Int.tmod x1.1 10)==0,())
  else
   some (false,())) fun v2=>
 bif v2.1 then
  again (w64 (Int.tdiv x1.1 10),w64 (x1.2.1 - 1),x1.2.2.1,x1.2.2.2.1,())
 else
  some (Sum.inr (x1.1,x1.2.1,x1.2.2.1,x1.2.2.2.1,()))
def tr (a0:aa):Option (aa×Unit):=
 aJ (β:=(aa×Unit)) (γ:=(Int×Int×Int×Int×Unit)) (
  iter (X:=sP) (β:=sO) (a0.1.natAbs+(a0.2.natAbs+(Int.natAbs (0:Int)+(Int.natAbs (0:Int)+2)))) (a0.1,a0.2,0,0,()) (sN)) fun v3=>
 some ((v3.1,v3.2.1),())
def fI (a0:Option Nat) (a1:List aG):Option (bf×Unit):=
 Option.bind (a0) fun h1=>
 Option.bind (a1[h1]?) fun y2=>
 Option.bind (a0) fun h3=>
 Option.bind (a1[h3]?) fun y4=>
 Option.bind (a0) fun h5=>
 Option.bind (a1[h5]?) fun y6=>
 Option.bind (a0) fun h7=>
 Option.bind (a1[h7]?) fun y8=>
 Option.bind (oB y8.2.2.2.1) fun r9=>
 Option.bind (a0) fun h10=>
 Option.bind (a1[h10]?) fun y11=>
 Option.bind (tr y11.2.2.2.2.2.2.2.1) fun r12=>
 Option.bind (a0) fun h13=>
 Option.bind (a1[h13]?) fun y14=>
 Option.bind (a0) fun h15=>
 Option.bind (a1[h15]?) fun y16=>
 Option.bind (oB y16.2.2.2.2.1) fun r17=>
 Option.bind (a0) fun h18=>
 Option.bind (a1[h18]?) fun y19=>
 Option.bind (oB y19.2.2.2.2.2.1) fun r20=>
 Option.bind (a0) fun h21=>
 Option.bind (a1[h21]?) fun y22=>
 Option.bind (oB y22.2.2.2.2.2.2.1) fun r23=>
 Option.bind (iS a0 a1) fun r24=>
 Option.bind (oB r24.1) fun r25=>
 some ((y2.1,y4.2.1,y6.2.2.1,r9.1,r12.1,y14.2.2.2.2.2.2.2.2.1,r17.1,r20.1,r23.1,r25.1),())
abbrev kQ:Type:=Int×(List ah)×Int×Int×(List UInt8)×(List UInt8)×(List UInt8)×Int×Int×(List aK)×(List ah)×(List (Int×(Option Nat)))×(List aa)×(List ay)×Int×(List aG)×Unit
abbrev kP:Type:=(((ai×(List ah)×(List (Int×(Option Nat)))×(List aa)×(List ay)×Int×Unit)×(List aG)×Unit) ⊕ ((List UInt8)×(List UInt8)×(List UInt8)×Int×Int×(List aK)×(List ah)×(List (Int×(Option Nat)))×(List aa)×(List ay)×Int×(List aG)×Unit))
def ia (x1:kQ) (again:kQ→Option kP):Option kP:=
 match x1 with
 | (A,B,C,D,E,F,G,H,I,J,K,L,M,N,O,P,_)=>
 bif decide (D<C) then
  Option.bind (idx B D) fun y2=>
  bif decide (y2.1>A) then
   some (Sum.inr (E,F,G,H,I,J,K,L,M,N,O,P,()))
  else
   Option.bind (aQ ((E,F,G,H,I,J),K,L,M,N,O,()) D P) fun r3=>
   bif r3.1 != 0 then
    chk (decide (((r3.2.1.2.2.2.1.length)+1)*16≤140737488355328)&&decide ((r3.2.1.2.2.2.1.length)+1≤maxLen)) <|
    again (A,B,C,w64 (D+1),r3.2.1.1.1,r3.2.1.1.2.1,r3.2.1.1.2.2.1,r3.2.1.1.2.2.2.1,r3.2.1.1.2.2.2.2.1,r3.2.1.1.2.2.2.2.2,r3.2.1.2.1,r3.2.1.2.2.1,r3.2.1.2.2.2.1++[(D,r3.1)],r3.2.1.2.2.2.2.1,r3.2.1.2.2.2.2.2.1,r3.2.2.1,())
   else
    bif y2.2.2.2.2.1==r3.2.1.2.2.2.2.2.1 then
     Option.bind (fI (Option.getD (α:=Option Nat) (mG (k:=tI) (v:= .hnd) r3.2.1.2.2.1 y2.2.2.2.2.1) none) r3.2.2.1) fun r4=>
     chk (decide (((r3.2.1.2.2.2.2.1.length)+1)*152≤140737488355328)&&decide ((r3.2.1.2.2.2.2.1.length)+1≤maxLen)) <|
     again (A,B,C,w64 (D+1),r3.2.1.1.1,r3.2.1.1.2.1,r3.2.1.1.2.2.1,r3.2.1.1.2.2.2.1,r3.2.1.1.2.2.2.2.1,r3.2.1.1.2.2.2.2.2,r3.2.1.2.1,r3.2.1.2.2.1,r3.2.1.2.2.2.1,r3.2.1.2.2.2.2.1++[(D,r4.1)],r3.2.1.2.2.2.2.2.1,r3.2.2.1,())
    else
     again (A,B,C,w64 (D+1),r3.2.1.1.1,r3.2.1.1.2.1,r3.2.1.1.2.2.1,r3.2.1.1.2.2.2.1,r3.2.1.1.2.2.2.2.1,r3.2.1.1.2.2.2.2.2,r3.2.1.2.1,r3.2.1.2.2.1,r3.2.1.2.2.2.1,r3.2.1.2.2.2.2.1,r3.2.1.2.2.2.2.2.1,r3.2.2.1,())
 else
  some (Sum.inr (E,F,G,H,I,J,K,L,M,N,O,P,()))
def gZ (a0:ai×(List ah)×(List (Int×(Option Nat)))×(List aa)×(List ay)×Int×Unit) (a1:Int) (a2:List aG):Option ((ai×(List ah)×(List (Int×(Option Nat)))×(List aa)×(List ay)×Int×Unit)×(List aG)×Unit):=
 aJ (β:=((ai×(List ah)×(List (Int×(Option Nat)))×(List aa)×(List ay)×Int×Unit)×(List aG)×Unit)) (γ:=((List UInt8)×(List UInt8)×(List UInt8)×Int×Int×(List aK)×(List ah)×(List (Int×(Option Nat)))×(List aa)×(List ay)×Int×(List aG)×Unit)) (
  iter (X:=kQ) (β:=kP) (Int.natAbs a1+(a0.2.1.length+(Int.natAbs ((a0.2.1.length:Int))+(Int.natAbs (0:Int)+(a0.1.1.length+(a0.1.2.1.length+(a0.1.2.2.1.length+(a0.1.2.2.2.1.natAbs+(a0.1.2.2.2.2.1.natAbs+(a0.1.2.2.2.2.2.length+(a0.2.1.length+(a0.2.2.1.length+(a0.2.2.2.1.length+(a0.2.2.2.2.1.length+(a0.2.2.2.2.2.1.natAbs+(List.length a2+2)))))))))))))))) (a1,a0.2.1,(a0.2.1.length:Int),0,a0.1.1,a0.1.2.1,a0.1.2.2.1,a0.1.2.2.2.1,a0.1.2.2.2.2.1,a0.1.2.2.2.2.2,a0.2.1,a0.2.2.1,a0.2.2.2.1,a0.2.2.2.2.1,a0.2.2.2.2.2.1,a2,()) (ia)) fun v5=>
 some (((v5.1,v5.2.1,v5.2.2.1,v5.2.2.2.1,v5.2.2.2.2.1,v5.2.2.2.2.2.1),v5.2.2.2.2.2.2.1,v5.2.2.2.2.2.2.2.1,v5.2.2.2.2.2.2.2.2.1,v5.2.2.2.2.2.2.2.2.2.1,v5.2.2.2.2.2.2.2.2.2.2.1,()),v5.2.2.2.2.2.2.2.2.2.2.2.1,())
def ot (a0:List UInt8) (a1:List UInt8):Option (Bool×Unit):=
 bif decide (((List.length a0:Int))≥((List.length a1:Int))) then
  chk (decide (0≤(w64 (((List.length a0:Int)) - ((List.length a1:Int)))))&&decide ((w64 (((List.length a0:Int)) - ((List.length a1:Int))))≤((List.length a0:Int)))&&decide (((List.length a0:Int))≤(List.length a0:Int))) <|
  some ((List.drop (Int.toNat (w64 (((List.length a0:Int)) - ((List.length a1:Int))))) (List.take (Int.toNat ((List.length a0:Int))) a0))==a1,())
 else
  some (false,())
def om (a0:List UInt8) (a1:List UInt8):Option ((List UInt8)×Bool×Unit):=
 Option.bind (ot a0 a1) fun r1=>
 bif !r1.1 then
  some (a0,false,())
 else
  chk (decide (0≤(0:Int))&&decide ((0:Int)≤(w64 (((List.length a0:Int)) - ((List.length a1:Int)))))&&decide ((w64 (((List.length a0:Int)) - ((List.length a1:Int))))≤(List.length a0:Int))) <|
  some (List.drop 0 (List.take (Int.toNat (w64 (((List.length a0:Int)) - ((List.length a1:Int))))) a0),true,())
def Dh (a0:List UInt8) (a1:List UInt8):Option ((List UInt8)×Bool×Unit):=
 Option.bind (om a0 a1) fun r1=>
 some (r1.1,r1.2.1,())
def Tm (a0:List UInt8):Option ((List (List UInt8))×Bool×Unit):=
 bif a0==[] then
  some ([],true,())
 else
  Option.bind (Dh a0 [10]) fun r1=>
  Option.bind (strings_Split r1.1 [10]) fun r2=>
  some (r2.1,r1.2.1,())
abbrev EL:Type:=Int×Int×(List (List UInt8))×Unit
abbrev EK:Type:=(((List (List UInt8))×Bool×Unit) ⊕ ((List (List UInt8))×Unit))
def VL (x1:EL) (again:EL→Option EK):Option EK:=
 match x1 with
 | (A,B,C,_)=>
 bif decide (B<A) then
  chk (decide (0≤B)&&decide (B<(C.length:Int))) <|
  Option.bind (C[B.toNat]?) fun y2=>
  bif y2==[] then
   some (Sum.inl ([],false,()))
  else
   again (A,w64 (B+1),C,())
 else
  some (Sum.inr (C,()))
def Tn (a0:List UInt8):Option ((List (List UInt8))×Bool×Unit):=
 Option.bind (strings_Split a0 [32]) fun r1=>
 aJ (β:=((List (List UInt8))×Bool×Unit)) (γ:=((List (List UInt8))×Unit)) (
  iter (X:=EL) (β:=EK) (Int.natAbs ((r1.1.length:Int))+(Int.natAbs (0:Int)+(r1.1.length+2))) ((r1.1.length:Int),0,r1.1,()) (VL)) fun v4=>
 some (v4.1,true,())
def jC (a0:(List (List UInt8))×Bool×Unit):Option ((List UInt8)×((List (List UInt8))×Bool×Unit)×Unit):=
 bif ((a0.1.length:Int))==0 then
  some ([],(a0.1,true,()),())
 else
  Option.bind (idx a0.1 0) fun y1=>
  chk (decide (0≤(1:Int))&&decide ((1:Int)≤((a0.1.length:Int)))&&decide (((a0.1.length:Int))≤(a0.1.length:Int))) <|
  some (y1,(List.drop 1 (List.take (Int.toNat ((a0.1.length:Int))) a0.1),a0.2.1,()),())
def ic (a0:(List (List UInt8))×Bool×Unit):Option (Int×((List (List UInt8))×Bool×Unit)×Unit):=
 Option.bind (jC (a0.1,a0.2.1,())) fun r1=>
 Option.bind (Dw r1.1 16) fun r2=>
 bif r1.2.1.2.1 then
  some (r2.1,(r1.2.1.1,true,()),())
 else
  some (r2.1,(r1.2.1.1, !r2.2.1,()),())
def KP:Option ((List (List UInt8))×Unit):=
 some ([[],[98,117,121,101,114],[115,101,108,108,101,114]],())
def vO (a0:(List (List UInt8))×Bool×Unit) (a1:List (List UInt8)):Option (Int×((List (List UInt8))×Bool×Unit)×Unit):=
 Option.bind (jC (a0.1,a0.2.1,())) fun r1=>
 Option.bind (AD a1 r1.1) fun r2=>
 bif r1.2.1.2.1 then
  some (r2.1,(r1.2.1.1,true,()),())
 else
  some (r2.1,(r1.2.1.1,decide (r2.1<1),()),())
def Gv:Option ((List (List UInt8))×Unit):=
 some ([[],[97,100,100],[113,117,97,110,116,105,116,121],[100,117,101],[112,114,105,99,101],[121,101,115],[110,111],[111,102,102,101,114],[116,97,107,101],[115,104,105,112],[114,101,99,101,105,118,101],[114,101,116,117,114,110]],())
def oo (a0:List UInt8) (a1:List UInt8):Option (Bool×Unit):=
 bif decide (((List.length a0:Int))≥((List.length a1:Int))) then
  chk (decide (0≤(0:Int))&&decide ((0:Int)≤((List.length a1:Int)))&&decide (((List.length a1:Int))≤(List.length a0:Int))) <|
  some ((List.drop 0 (List.take (Int.toNat ((List.length a1:Int))) a0))==a1,())
 else
  some (false,())
def og (a0:List UInt8) (a1:List UInt8):Option ((List UInt8)×Bool×Unit):=
 Option.bind (oo a0 a1) fun r1=>
 bif !r1.1 then
  some (a0,false,())
 else
  chk (decide (0≤((List.length a1:Int)))&&decide (((List.length a1:Int))≤((List.length a0:Int)))&&decide (((List.length a0:Int))≤(List.length a0:Int))) <|
  some (List.drop (Int.toNat ((List.length a1:Int))) (List.take (Int.toNat ((List.length a0:Int))) a0),true,())
def Df (a0:List UInt8) (a1:List UInt8):Option ((List UInt8)×Bool×Unit):=
 Option.bind (og a0 a1) fun r1=>
 some (r1.1,r1.2.1,())
def rH (a0:List UInt8) (a1:List UInt8):Option (Int×Unit):=
 bif ((List.length a1:Int))==0 then
  some (0,())
 else
  bif a1==a0 then
   some (0,())
  else
   bif ((List.length a1:Int))==1 then
    Option.bind (uy a1 0) fun c1=>
    Option.bind (eX a0 (c1.toNat:Int)) fun r2=>
    some (r2.1,())
   else
    bif decide (((List.length a1:Int))≥((List.length a0:Int))) then
     some ((-1),())
    else
     none
def tO (a0:List UInt8) (a1:List UInt8):Option ((List UInt8)×(List UInt8)×Bool×Unit):=
 Option.bind (rH a0 a1) fun r1=>
 bif decide (r1.1≥0) then
  chk (decide (0≤(0:Int))&&decide ((0:Int)≤r1.1)&&decide (r1.1≤(List.length a0:Int))) <|
  chk (decide (0≤(w64 (r1.1+((List.length a1:Int)))))&&decide ((w64 (r1.1+((List.length a1:Int))))≤((List.length a0:Int)))&&decide (((List.length a0:Int))≤(List.length a0:Int))) <|
  some (List.drop 0 (List.take (Int.toNat r1.1) a0),List.drop (Int.toNat (w64 (r1.1+((List.length a1:Int))))) (List.take (Int.toNat ((List.length a0:Int))) a0),true,())
 else
  some (a0,[],false,())
def OK (a0:List UInt8) (a1:List UInt8):Option ((List UInt8)×(List UInt8)×Bool×Unit):=
 Option.bind (tO a0 a1) fun r1=>
 some (r1.1,r1.2.1,r1.2.2.1,())
def HH (a0:List UInt8):Option (Bool×Unit):=
 Option.bind (
  Option.bind (pT a0) fun r1=>
  bif r1.1 then
   bif ((List.length a0:Int))==1 then
    some (true,())
   else
    Option.bind (uy a0 0) fun c2=>
    some ((c2.toNat:Int) != 48,())
  else
   some (false,())) fun v3=>
 some (v3.1,())
abbrev AJ:Type:=Bool×(List UInt8)×(List UInt8)×Int×Int×Int×Int×Bool×(List Int)×Unit
abbrev AI:Type:=((aa×Int×Unit) ⊕ (Bool×(List UInt8)×Int×Int×Bool×(List Int)×Unit))
def RE (x1:AJ) (again:AJ→Option AI):Option AI:=
 match x1 with
 | (A,B,C,D,E,F,G,H,I,_)=>
 bif decide (E<D) then
  Option.bind (ja 10) fun r2=>
  Option.bind (iZ (H,I) r2.1) fun r3=>
  chk (decide (B.length+C.length≤maxLen)) <|
  Option.bind (uy (B++C) E) fun c4=>
  Option.bind (ja (w64 (wu8 ((c4.toNat:Int) - 48)))) fun r5=>
  Option.bind (qs r3.1 r5.1) fun r6=>
  again (A,B,C,D,w64 (E+1),F,G,r6.1.1,r6.1.2,())
 else
  some (Sum.inr (A,C,F,G,H,I,()))
def NT (a0:Bool) (a1:List UInt8) (a2:List UInt8):Option (aa×Int×Unit):=
 Option.bind (ja 0) fun r1=>
 chk (decide (List.length a1+List.length a2≤maxLen)) <|
 aJ (β:=(aa×Int×Unit)) (γ:=(Bool×(List UInt8)×Int×Int×Bool×(List Int)×Unit)) (
  iter (X:=AJ) (β:=AI) (List.length a1+(List.length a2+(Int.natAbs ((List.length (a1++a2):Int))+(Int.natAbs (0:Int)+(Int.natAbs (0:Int)+(Int.natAbs (0:Int)+(r1.1.2.length+2))))))) (a0,a1,a2,(List.length (a1++a2):Int),0,0,0,r1.1.1,r1.1.2,()) (RE)) fun v8=>
 bif v8.1 then
  Option.bind (fX (v8.2.2.2.2.1,v8.2.2.2.2.2.1)) fun r9=>
  bif r9.1==0 then
   some ((0,0),10,())
  else
   Option.bind (kY (v8.2.2.2.2.1,v8.2.2.2.2.2.1)) fun r10=>
   Option.bind (iF r10.1 ((v8.2.1.length:Int))) fun r11=>
   some (r11.1,r11.2.1,())
 else
  Option.bind (iF (v8.2.2.2.2.1,v8.2.2.2.2.2.1) ((v8.2.1.length:Int))) fun r12=>
  some (r12.1,r12.2.1,())
def FH (a0:List UInt8):Option (aa×Int×Unit):=
 Option.bind (Df a0 [45]) fun r1=>
 Option.bind (OK r1.1 [46]) fun r2=>
 Option.bind (
  bif decide (((List.length a0:Int))>40) then
   some (true,())
  else
   Option.bind (HH r2.1) fun r3=>
   bif !r3.1 then
    some (true,())
   else
    bif r2.2.2.1 then
     Option.bind (pT r2.2.1) fun r4=>
     bif !r4.1 then
      some (true,())
     else
      some (decide (((r2.2.1.length:Int))>9),())
    else
     some (false,())) fun v5=>
 bif v5.1 then
  some ((0,0),10,())
 else
  Option.bind (NT r1.2.1 r2.1 r2.2.1) fun r6=>
  some (r6.1,r6.2.1,())
def sJ (a0:(List (List UInt8))×Bool×Unit):Option (aa×((List (List UInt8))×Bool×Unit)×Unit):=
 Option.bind (jC (a0.1,a0.2.1,())) fun r1=>
 Option.bind (FH r1.1) fun r2=>
 bif r1.2.1.2.1 then
  some (r2.1,(r1.2.1.1,true,()),())
 else
  some (r2.1,(r1.2.1.1,r2.2.1 != 0,()),())
def IS (a0:List UInt8):Option (ah×Bool×Unit):=
 Option.bind (Tn a0) fun r1=>
 bif !r1.2.1 then
  some ((0,0,0,0,0,[],(0,0),[],(0,0),0,0),false,())
 else
  Option.bind (ic (r1.1,false,())) fun r2=>
  Option.bind (KP) fun r3=>
  Option.bind (vO (r2.2.1.1,r2.2.1.2.1,()) r3.1) fun r4=>
  Option.bind (ic (r4.2.1.1,r4.2.1.2.1,())) fun r5=>
  Option.bind (Gv) fun r6=>
  Option.bind (vO (r5.2.1.1,r5.2.1.2.1,()) r6.1) fun r7=>
  Option.bind (ic (r7.2.1.1,r7.2.1.2.1,())) fun r8=>
  Option.bind (uc r7.1) fun r9=>
  aJ (β:=(ah×Bool×Unit)) (γ:=(Int×Int×Int×Int×Int×(List UInt8)×Int×Int×(List UInt8)×Int×Int×Int×Int×Int×Int×Int×Int×Int×(List UInt8)×Int×Int×(List UInt8)×Int×Int×Int×Int×Bool×Bool×Bool×Bool×Bool×Bool×(List (List UInt8))×Bool×Unit)) (
   bif r9.1.1 then
    Option.bind (jC (r8.2.1.1,r8.2.1.2.1,())) fun r10=>
    some (Sum.inr (0,0,0,0,0,[],0,0,[],0,0,0,0,r2.1,r4.1,r5.1,r7.1,r8.1,r10.1,0,0,[],0,0,0,0,r9.1.1,r9.1.2.1,r9.1.2.2.1,r9.1.2.2.2.1,r9.1.2.2.2.2.1,r9.1.2.2.2.2.2,r10.2.1.1,r10.2.1.2.1,()))
   else
    some (Sum.inr (0,0,0,0,0,[],0,0,[],0,0,0,0,r2.1,r4.1,r5.1,r7.1,r8.1,[],0,0,[],0,0,0,0,r9.1.1,r9.1.2.1,r9.1.2.2.1,r9.1.2.2.2.1,r9.1.2.2.2.2.1,r9.1.2.2.2.2.2,r8.2.1.1,r8.2.1.2.1,()))) fun v11=>
  aJ (β:=(ah×Bool×Unit)) (γ:=(Int×Int×Int×Int×Int×(List UInt8)×Int×Int×(List UInt8)×Int×Int×Int×Int×Int×Int×Int×Int×Int×(List UInt8)×Int×Int×(List UInt8)×Int×Int×Int×Int×Bool×Bool×Bool×Bool×Bool×Bool×(List (List UInt8))×Bool×Unit)) (
   bif v11.2.2.2.2.2.2.2.2.2.2.2.2.2.2.2.2.2.2.2.2.2.2.2.2.2.2.2.1 then
    Option.bind (sJ (v11.2.2.2.2.2.2.2.2.2.2.2.2.2.2.2.2.2.2.2.2.2.2.2.2.2.2.2.2.2.2.2.2.1,v11.2.2.2.2.2.2.2.2.2.2.2.2.2.2.2.2.2.2.2.2.2.2.2.2.2.2.2.2.2.2.2.2.2.1,())) fun r12=>
    some (Sum.inr (v11.1,v11.2.1,v11.2.2.1,v11.2.2.2.1,v11.2.2.2.2.1,v11.2.2.2.2.2.1,v11.2.2.2.2.2.2.1,v11.2.2.2.2.2.2.2.1,v11.2.2.2.2.2.2.2.2.1,v11.2.2.2.2.2.2.2.2.2.1,v11.2.2.2.2.2.2.2.2.2.2.1,v11.2.2.2.2.2.2.2.2.2.2.2.1,v11.2.2.2.2.2.2.2.2.2.2.2.2.1,v11.2.2.2.2.2.2.2.2.2.2.2.2.2.1,v11.2.2.2.2.2.2.2.2.2.2.2.2.2.2.1,v11.2.2.2.2.2.2.2.2.2.2.2.2.2.2.2.1,v11.2.2.2.2.2.2.2.2.2.2.2.2.2.2.2.2.1,v11.2.2.2.2.2.2.2.2.2.2.2.2.2.2.2.2.2.1,v11.2.2.2.2.2.2.2.2.2.2.2.2.2.2.2.2.2.2.1,r12.1.1,r12.1.2,v11.2.2.2.2.2.2.2.2.2.2.2.2.2.2.2.2.2.2.2.2.2.1,v11.2.2.2.2.2.2.2.2.2.2.2.2.2.2.2.2.2.2.2.2.2.2.1,v11.2.2.2.2.2.2.2.2.2.2.2.2.2.2.2.2.2.2.2.2.2.2.2.1,v11.2.2.2.2.2.2.2.2.2.2.2.2.2.2.2.2.2.2.2.2.2.2.2.2.1,v11.2.2.2.2.2.2.2.2.2.2.2.2.2.2.2.2.2.2.2.2.2.2.2.2.2.1,v11.2.2.2.2.2.2.2.2.2.2.2.2.2.2.2.2.2.2.2.2.2.2.2.2.2.2.1,v11.2.2.2.2.2.2.2.2.2.2.2.2.2.2.2.2.2.2.2.2.2.2.2.2.2.2.2.1,v11.2.2.2.2.2.2.2.2.2.2.2.2.2.2.2.2.2.2.2.2.2.2.2.2.2.2.2.2.1,v11.2.2.2.2.2.2.2.2.2.2.2.2.2.2.2.2.2.2.2.2.2.2.2.2.2.2.2.2.2.1,v11.2.2.2.2.2.2.2.2.2.2.2.2.2.2.2.2.2.2.2.2.2.2.2.2.2.2.2.2.2.2.1,v11.2.2.2.2.2.2.2.2.2.2.2.2.2.2.2.2.2.2.2.2.2.2.2.2.2.2.2.2.2.2.2.1,r12.2.1.1,r12.2.1.2.1,()))
   else
    some (Sum.inr (v11.1,v11.2.1,v11.2.2.1,v11.2.2.2.1,v11.2.2.2.2.1,v11.2.2.2.2.2.1,v11.2.2.2.2.2.2.1,v11.2.2.2.2.2.2.2.1,v11.2.2.2.2.2.2.2.2.1,v11.2.2.2.2.2.2.2.2.2.1,v11.2.2.2.2.2.2.2.2.2.2.1,v11.2.2.2.2.2.2.2.2.2.2.2.1,v11.2.2.2.2.2.2.2.2.2.2.2.2.1,v11.2.2.2.2.2.2.2.2.2.2.2.2.2.1,v11.2.2.2.2.2.2.2.2.2.2.2.2.2.2.1,v11.2.2.2.2.2.2.2.2.2.2.2.2.2.2.2.1,v11.2.2.2.2.2.2.2.2.2.2.2.2.2.2.2.2.1,v11.2.2.2.2.2.2.2.2.2.2.2.2.2.2.2.2.2.1,v11.2.2.2.2.2.2.2.2.2.2.2.2.2.2.2.2.2.2.1,v11.2.2.2.2.2.2.2.2.2.2.2.2.2.2.2.2.2.2.2.1,v11.2.2.2.2.2.2.2.2.2.2.2.2.2.2.2.2.2.2.2.2.1,v11.2.2.2.2.2.2.2.2.2.2.2.2.2.2.2.2.2.2.2.2.2.1,v11.2.2.2.2.2.2.2.2.2.2.2.2.2.2.2.2.2.2.2.2.2.2.1,v11.2.2.2.2.2.2.2.2.2.2.2.2.2.2.2.2.2.2.2.2.2.2.2.1,v11.2.2.2.2.2.2.2.2.2.2.2.2.2.2.2.2.2.2.2.2.2.2.2.2.1,v11.2.2.2.2.2.2.2.2.2.2.2.2.2.2.2.2.2.2.2.2.2.2.2.2.2.1,v11.2.2.2.2.2.2.2.2.2.2.2.2.2.2.2.2.2.2.2.2.2.2.2.2.2.2.1,v11.2.2.2.2.2.2.2.2.2.2.2.2.2.2.2.2.2.2.2.2.2.2.2.2.2.2.2.1,v11.2.2.2.2.2.2.2.2.2.2.2.2.2.2.2.2.2.2.2.2.2.2.2.2.2.2.2.2.1,v11.2.2.2.2.2.2.2.2.2.2.2.2.2.2.2.2.2.2.2.2.2.2.2.2.2.2.2.2.2.1,v11.2.2.2.2.2.2.2.2.2.2.2.2.2.2.2.2.2.2.2.2.2.2.2.2.2.2.2.2.2.2.1,v11.2.2.2.2.2.2.2.2.2.2.2.2.2.2.2.2.2.2.2.2.2.2.2.2.2.2.2.2.2.2.2.1,v11.2.2.2.2.2.2.2.2.2.2.2.2.2.2.2.2.2.2.2.2.2.2.2.2.2.2.2.2.2.2.2.2.1,v11.2.2.2.2.2.2.2.2.2.2.2.2.2.2.2.2.2.2.2.2.2.2.2.2.2.2.2.2.2.2.2.2.2.1,()))) fun v13=>
  aJ (β:=(ah×Bool×Unit)) (γ:=(Int×Int×Int×Int×Int×(List UInt8)×Int×Int×(List UInt8)×Int×Int×Int×Int×Int×Int×Int×Int×Int×(List UInt8)×Int×Int×(List UInt8)×Int×Int×Int×Int×Bool×Bool×Bool×Bool×Bool×Bool×(List (List UInt8))×Bool×Unit)) (
   bif v13.2.2.2.2.2.2.2.2.2.2.2.2.2.2.2.2.2.2.2.2.2.2.2.2.2.2.2.2.1 then
    Option.bind (jC (v13.2.2.2.2.2.2.2.2.2.2.2.2.2.2.2.2.2.2.2.2.2.2.2.2.2.2.2.2.2.2.2.2.1,v13.2.2.2.2.2.2.2.2.2.2.2.2.2.2.2.2.2.2.2.2.2.2.2.2.2.2.2.2.2.2.2.2.2.1,())) fun r14=>
    some (Sum.inr (v13.1,v13.2.1,v13.2.2.1,v13.2.2.2.1,v13.2.2.2.2.1,v13.2.2.2.2.2.1,v13.2.2.2.2.2.2.1,v13.2.2.2.2.2.2.2.1,v13.2.2.2.2.2.2.2.2.1,v13.2.2.2.2.2.2.2.2.2.1,v13.2.2.2.2.2.2.2.2.2.2.1,v13.2.2.2.2.2.2.2.2.2.2.2.1,v13.2.2.2.2.2.2.2.2.2.2.2.2.1,v13.2.2.2.2.2.2.2.2.2.2.2.2.2.1,v13.2.2.2.2.2.2.2.2.2.2.2.2.2.2.1,v13.2.2.2.2.2.2.2.2.2.2.2.2.2.2.2.1,v13.2.2.2.2.2.2.2.2.2.2.2.2.2.2.2.2.1,v13.2.2.2.2.2.2.2.2.2.2.2.2.2.2.2.2.2.1,v13.2.2.2.2.2.2.2.2.2.2.2.2.2.2.2.2.2.2.1,v13.2.2.2.2.2.2.2.2.2.2.2.2.2.2.2.2.2.2.2.1,v13.2.2.2.2.2.2.2.2.2.2.2.2.2.2.2.2.2.2.2.2.1,r14.1,v13.2.2.2.2.2.2.2.2.2.2.2.2.2.2.2.2.2.2.2.2.2.2.1,v13.2.2.2.2.2.2.2.2.2.2.2.2.2.2.2.2.2.2.2.2.2.2.2.1,v13.2.2.2.2.2.2.2.2.2.2.2.2.2.2.2.2.2.2.2.2.2.2.2.2.1,v13.2.2.2.2.2.2.2.2.2.2.2.2.2.2.2.2.2.2.2.2.2.2.2.2.2.1,v13.2.2.2.2.2.2.2.2.2.2.2.2.2.2.2.2.2.2.2.2.2.2.2.2.2.2.1,v13.2.2.2.2.2.2.2.2.2.2.2.2.2.2.2.2.2.2.2.2.2.2.2.2.2.2.2.1,v13.2.2.2.2.2.2.2.2.2.2.2.2.2.2.2.2.2.2.2.2.2.2.2.2.2.2.2.2.1,v13.2.2.2.2.2.2.2.2.2.2.2.2.2.2.2.2.2.2.2.2.2.2.2.2.2.2.2.2.2.1,v13.2.2.2.2.2.2.2.2.2.2.2.2.2.2.2.2.2.2.2.2.2.2.2.2.2.2.2.2.2.2.1,v13.2.2.2.2.2.2.2.2.2.2.2.2.2.2.2.2.2.2.2.2.2.2.2.2.2.2.2.2.2.2.2.1,r14.2.1.1,r14.2.1.2.1,()))
   else
    some (Sum.inr (v13.1,v13.2.1,v13.2.2.1,v13.2.2.2.1,v13.2.2.2.2.1,v13.2.2.2.2.2.1,v13.2.2.2.2.2.2.1,v13.2.2.2.2.2.2.2.1,v13.2.2.2.2.2.2.2.2.1,v13.2.2.2.2.2.2.2.2.2.1,v13.2.2.2.2.2.2.2.2.2.2.1,v13.2.2.2.2.2.2.2.2.2.2.2.1,v13.2.2.2.2.2.2.2.2.2.2.2.2.1,v13.2.2.2.2.2.2.2.2.2.2.2.2.2.1,v13.2.2.2.2.2.2.2.2.2.2.2.2.2.2.1,v13.2.2.2.2.2.2.2.2.2.2.2.2.2.2.2.1,v13.2.2.2.2.2.2.2.2.2.2.2.2.2.2.2.2.1,v13.2.2.2.2.2.2.2.2.2.2.2.2.2.2.2.2.2.1,v13.2.2.2.2.2.2.2.2.2.2.2.2.2.2.2.2.2.2.1,v13.2.2.2.2.2.2.2.2.2.2.2.2.2.2.2.2.2.2.2.1,v13.2.2.2.2.2.2.2.2.2.2.2.2.2.2.2.2.2.2.2.2.1,v13.2.2.2.2.2.2.2.2.2.2.2.2.2.2.2.2.2.2.2.2.2.1,v13.2.2.2.2.2.2.2.2.2.2.2.2.2.2.2.2.2.2.2.2.2.2.1,v13.2.2.2.2.2.2.2.2.2.2.2.2.2.2.2.2.2.2.2.2.2.2.2.1,v13.2.2.2.2.2.2.2.2.2.2.2.2.2.2.2.2.2.2.2.2.2.2.2.2.1,v13.2.2.2.2.2.2.2.2.2.2.2.2.2.2.2.2.2.2.2.2.2.2.2.2.2.1,v13.2.2.2.2.2.2.2.2.2.2.2.2.2.2.2.2.2.2.2.2.2.2.2.2.2.2.1,v13.2.2.2.2.2.2.2.2.2.2.2.2.2.2.2.2.2.2.2.2.2.2.2.2.2.2.2.1,v13.2.2.2.2.2.2.2.2.2.2.2.2.2.2.2.2.2.2.2.2.2.2.2.2.2.2.2.2.1,v13.2.2.2.2.2.2.2.2.2.2.2.2.2.2.2.2.2.2.2.2.2.2.2.2.2.2.2.2.2.1,v13.2.2.2.2.2.2.2.2.2.2.2.2.2.2.2.2.2.2.2.2.2.2.2.2.2.2.2.2.2.2.1,v13.2.2.2.2.2.2.2.2.2.2.2.2.2.2.2.2.2.2.2.2.2.2.2.2.2.2.2.2.2.2.2.1,v13.2.2.2.2.2.2.2.2.2.2.2.2.2.2.2.2.2.2.2.2.2.2.2.2.2.2.2.2.2.2.2.2.1,v13.2.2.2.2.2.2.2.2.2.2.2.2.2.2.2.2.2.2.2.2.2.2.2.2.2.2.2.2.2.2.2.2.2.1,()))) fun v15=>
  aJ (β:=(ah×Bool×Unit)) (γ:=(Int×Int×Int×Int×Int×(List UInt8)×Int×Int×(List UInt8)×Int×Int×Int×Int×Int×Int×Int×Int×Int×(List UInt8)×Int×Int×(List UInt8)×Int×Int×Int×Int×Bool×Bool×Bool×Bool×Bool×Bool×(List (List UInt8))×Bool×Unit)) (
   bif v15.2.2.2.2.2.2.2.2.2.2.2.2.2.2.2.2.2.2.2.2.2.2.2.2.2.2.2.2.2.1 then
    Option.bind (sJ (v15.2.2.2.2.2.2.2.2.2.2.2.2.2.2.2.2.2.2.2.2.2.2.2.2.2.2.2.2.2.2.2.2.1,v15.2.2.2.2.2.2.2.2.2.2.2.2.2.2.2.2.2.2.2.2.2.2.2.2.2.2.2.2.2.2.2.2.2.1,())) fun r16=>
    some (Sum.inr (v15.1,v15.2.1,v15.2.2.1,v15.2.2.2.1,v15.2.2.2.2.1,v15.2.2.2.2.2.1,v15.2.2.2.2.2.2.1,v15.2.2.2.2.2.2.2.1,v15.2.2.2.2.2.2.2.2.1,v15.2.2.2.2.2.2.2.2.2.1,v15.2.2.2.2.2.2.2.2.2.2.1,v15.2.2.2.2.2.2.2.2.2.2.2.1,v15.2.2.2.2.2.2.2.2.2.2.2.2.1,v15.2.2.2.2.2.2.2.2.2.2.2.2.2.1,v15.2.2.2.2.2.2.2.2.2.2.2.2.2.2.1,v15.2.2.2.2.2.2.2.2.2.2.2.2.2.2.2.1,v15.2.2.2.2.2.2.2.2.2.2.2.2.2.2.2.2.1,v15.2.2.2.2.2.2.2.2.2.2.2.2.2.2.2.2.2.1,v15.2.2.2.2.2.2.2.2.2.2.2.2.2.2.2.2.2.2.1,v15.2.2.2.2.2.2.2.2.2.2.2.2.2.2.2.2.2.2.2.1,v15.2.2.2.2.2.2.2.2.2.2.2.2.2.2.2.2.2.2.2.2.1,v15.2.2.2.2.2.2.2.2.2.2.2.2.2.2.2.2.2.2.2.2.2.1,r16.1.1,r16.1.2,v15.2.2.2.2.2.2.2.2.2.2.2.2.2.2.2.2.2.2.2.2.2.2.2.2.1,v15.2.2.2.2.2.2.2.2.2.2.2.2.2.2.2.2.2.2.2.2.2.2.2.2.2.1,v15.2.2.2.2.2.2.2.2.2.2.2.2.2.2.2.2.2.2.2.2.2.2.2.2.2.2.1,v15.2.2.2.2.2.2.2.2.2.2.2.2.2.2.2.2.2.2.2.2.2.2.2.2.2.2.2.1,v15.2.2.2.2.2.2.2.2.2.2.2.2.2.2.2.2.2.2.2.2.2.2.2.2.2.2.2.2.1,v15.2.2.2.2.2.2.2.2.2.2.2.2.2.2.2.2.2.2.2.2.2.2.2.2.2.2.2.2.2.1,v15.2.2.2.2.2.2.2.2.2.2.2.2.2.2.2.2.2.2.2.2.2.2.2.2.2.2.2.2.2.2.1,v15.2.2.2.2.2.2.2.2.2.2.2.2.2.2.2.2.2.2.2.2.2.2.2.2.2.2.2.2.2.2.2.1,r16.2.1.1,r16.2.1.2.1,()))
   else
    some (Sum.inr (v15.1,v15.2.1,v15.2.2.1,v15.2.2.2.1,v15.2.2.2.2.1,v15.2.2.2.2.2.1,v15.2.2.2.2.2.2.1,v15.2.2.2.2.2.2.2.1,v15.2.2.2.2.2.2.2.2.1,v15.2.2.2.2.2.2.2.2.2.1,v15.2.2.2.2.2.2.2.2.2.2.1,v15.2.2.2.2.2.2.2.2.2.2.2.1,v15.2.2.2.2.2.2.2.2.2.2.2.2.1,v15.2.2.2.2.2.2.2.2.2.2.2.2.2.1,v15.2.2.2.2.2.2.2.2.2.2.2.2.2.2.1,v15.2.2.2.2.2.2.2.2.2.2.2.2.2.2.2.1,v15.2.2.2.2.2.2.2.2.2.2.2.2.2.2.2.2.1,v15.2.2.2.2.2.2.2.2.2.2.2.2.2.2.2.2.2.1,v15.2.2.2.2.2.2.2.2.2.2.2.2.2.2.2.2.2.2.1,v15.2.2.2.2.2.2.2.2.2.2.2.2.2.2.2.2.2.2.2.1,v15.2.2.2.2.2.2.2.2.2.2.2.2.2.2.2.2.2.2.2.2.1,v15.2.2.2.2.2.2.2.2.2.2.2.2.2.2.2.2.2.2.2.2.2.1,v15.2.2.2.2.2.2.2.2.2.2.2.2.2.2.2.2.2.2.2.2.2.2.1,v15.2.2.2.2.2.2.2.2.2.2.2.2.2.2.2.2.2.2.2.2.2.2.2.1,v15.2.2.2.2.2.2.2.2.2.2.2.2.2.2.2.2.2.2.2.2.2.2.2.2.1,v15.2.2.2.2.2.2.2.2.2.2.2.2.2.2.2.2.2.2.2.2.2.2.2.2.2.1,v15.2.2.2.2.2.2.2.2.2.2.2.2.2.2.2.2.2.2.2.2.2.2.2.2.2.2.1,v15.2.2.2.2.2.2.2.2.2.2.2.2.2.2.2.2.2.2.2.2.2.2.2.2.2.2.2.1,v15.2.2.2.2.2.2.2.2.2.2.2.2.2.2.2.2.2.2.2.2.2.2.2.2.2.2.2.2.1,v15.2.2.2.2.2.2.2.2.2.2.2.2.2.2.2.2.2.2.2.2.2.2.2.2.2.2.2.2.2.1,v15.2.2.2.2.2.2.2.2.2.2.2.2.2.2.2.2.2.2.2.2.2.2.2.2.2.2.2.2.2.2.1,v15.2.2.2.2.2.2.2.2.2.2.2.2.2.2.2.2.2.2.2.2.2.2.2.2.2.2.2.2.2.2.2.1,v15.2.2.2.2.2.2.2.2.2.2.2.2.2.2.2.2.2.2.2.2.2.2.2.2.2.2.2.2.2.2.2.2.1,v15.2.2.2.2.2.2.2.2.2.2.2.2.2.2.2.2.2.2.2.2.2.2.2.2.2.2.2.2.2.2.2.2.2.1,()))) fun v17=>
  aJ (β:=(ah×Bool×Unit)) (γ:=(Int×Int×Int×Int×Int×(List UInt8)×Int×Int×(List UInt8)×Int×Int×Int×Int×Int×Int×Int×Int×Int×(List UInt8)×Int×Int×(List UInt8)×Int×Int×Int×Int×Bool×Bool×Bool×Bool×Bool×Bool×(List (List UInt8))×Bool×Unit)) (
   bif v17.2.2.2.2.2.2.2.2.2.2.2.2.2.2.2.2.2.2.2.2.2.2.2.2.2.2.2.2.2.2.1 then
    Option.bind (ic (v17.2.2.2.2.2.2.2.2.2.2.2.2.2.2.2.2.2.2.2.2.2.2.2.2.2.2.2.2.2.2.2.2.1,v17.2.2.2.2.2.2.2.2.2.2.2.2.2.2.2.2.2.2.2.2.2.2.2.2.2.2.2.2.2.2.2.2.2.1,())) fun r18=>
    some (Sum.inr (v17.1,v17.2.1,v17.2.2.1,v17.2.2.2.1,v17.2.2.2.2.1,v17.2.2.2.2.2.1,v17.2.2.2.2.2.2.1,v17.2.2.2.2.2.2.2.1,v17.2.2.2.2.2.2.2.2.1,v17.2.2.2.2.2.2.2.2.2.1,v17.2.2.2.2.2.2.2.2.2.2.1,v17.2.2.2.2.2.2.2.2.2.2.2.1,v17.2.2.2.2.2.2.2.2.2.2.2.2.1,v17.2.2.2.2.2.2.2.2.2.2.2.2.2.1,v17.2.2.2.2.2.2.2.2.2.2.2.2.2.2.1,v17.2.2.2.2.2.2.2.2.2.2.2.2.2.2.2.1,v17.2.2.2.2.2.2.2.2.2.2.2.2.2.2.2.2.1,v17.2.2.2.2.2.2.2.2.2.2.2.2.2.2.2.2.2.1,v17.2.2.2.2.2.2.2.2.2.2.2.2.2.2.2.2.2.2.1,v17.2.2.2.2.2.2.2.2.2.2.2.2.2.2.2.2.2.2.2.1,v17.2.2.2.2.2.2.2.2.2.2.2.2.2.2.2.2.2.2.2.2.1,v17.2.2.2.2.2.2.2.2.2.2.2.2.2.2.2.2.2.2.2.2.2.1,v17.2.2.2.2.2.2.2.2.2.2.2.2.2.2.2.2.2.2.2.2.2.2.1,v17.2.2.2.2.2.2.2.2.2.2.2.2.2.2.2.2.2.2.2.2.2.2.2.1,r18.1,v17.2.2.2.2.2.2.2.2.2.2.2.2.2.2.2.2.2.2.2.2.2.2.2.2.2.1,v17.2.2.2.2.2.2.2.2.2.2.2.2.2.2.2.2.2.2.2.2.2.2.2.2.2.2.1,v17.2.2.2.2.2.2.2.2.2.2.2.2.2.2.2.2.2.2.2.2.2.2.2.2.2.2.2.1,v17.2.2.2.2.2.2.2.2.2.2.2.2.2.2.2.2.2.2.2.2.2.2.2.2.2.2.2.2.1,v17.2.2.2.2.2.2.2.2.2.2.2.2.2.2.2.2.2.2.2.2.2.2.2.2.2.2.2.2.2.1,v17.2.2.2.2.2.2.2.2.2.2.2.2.2.2.2.2.2.2.2.2.2.2.2.2.2.2.2.2.2.2.1,v17.2.2.2.2.2.2.2.2.2.2.2.2.2.2.2.2.2.2.2.2.2.2.2.2.2.2.2.2.2.2.2.1,r18.2.1.1,r18.2.1.2.1,()))
   else
    some (Sum.inr (v17.1,v17.2.1,v17.2.2.1,v17.2.2.2.1,v17.2.2.2.2.1,v17.2.2.2.2.2.1,v17.2.2.2.2.2.2.1,v17.2.2.2.2.2.2.2.1,v17.2.2.2.2.2.2.2.2.1,v17.2.2.2.2.2.2.2.2.2.1,v17.2.2.2.2.2.2.2.2.2.2.1,v17.2.2.2.2.2.2.2.2.2.2.2.1,v17.2.2.2.2.2.2.2.2.2.2.2.2.1,v17.2.2.2.2.2.2.2.2.2.2.2.2.2.1,v17.2.2.2.2.2.2.2.2.2.2.2.2.2.2.1,v17.2.2.2.2.2.2.2.2.2.2.2.2.2.2.2.1,v17.2.2.2.2.2.2.2.2.2.2.2.2.2.2.2.2.1,v17.2.2.2.2.2.2.2.2.2.2.2.2.2.2.2.2.2.1,v17.2.2.2.2.2.2.2.2.2.2.2.2.2.2.2.2.2.2.1,v17.2.2.2.2.2.2.2.2.2.2.2.2.2.2.2.2.2.2.2.1,v17.2.2.2.2.2.2.2.2.2.2.2.2.2.2.2.2.2.2.2.2.1,v17.2.2.2.2.2.2.2.2.2.2.2.2.2.2.2.2.2.2.2.2.2.1,v17.2.2.2.2.2.2.2.2.2.2.2.2.2.2.2.2.2.2.2.2.2.2.1,v17.2.2.2.2.2.2.2.2.2.2.2.2.2.2.2.2.2.2.2.2.2.2.2.1,v17.2.2.2.2.2.2.2.2.2.2.2.2.2.2.2.2.2.2.2.2.2.2.2.2.1,v17.2.2.2.2.2.2.2.2.2.2.2.2.2.2.2.2.2.2.2.2.2.2.2.2.2.1,v17.2.2.2.2.2.2.2.2.2.2.2.2.2.2.2.2.2.2.2.2.2.2.2.2.2.2.1,v17.2.2.2.2.2.2.2.2.2.2.2.2.2.2.2.2.2.2.2.2.2.2.2.2.2.2.2.1,v17.2.2.2.2.2.2.2.2.2.2.2.2.2.2.2.2.2.2.2.2.2.2.2.2.2.2.2.2.1,v17.2.2.2.2.2.2.2.2.2.2.2.2.2.2.2.2.2.2.2.2.2.2.2.2.2.2.2.2.2.1,v17.2.2.2.2.2.2.2.2.2.2.2.2.2.2.2.2.2.2.2.2.2.2.2.2.2.2.2.2.2.2.1,v17.2.2.2.2.2.2.2.2.2.2.2.2.2.2.2.2.2.2.2.2.2.2.2.2.2.2.2.2.2.2.2.1,v17.2.2.2.2.2.2.2.2.2.2.2.2.2.2.2.2.2.2.2.2.2.2.2.2.2.2.2.2.2.2.2.2.1,v17.2.2.2.2.2.2.2.2.2.2.2.2.2.2.2.2.2.2.2.2.2.2.2.2.2.2.2.2.2.2.2.2.2.1,()))) fun v19=>
  aJ (β:=(ah×Bool×Unit)) (γ:=(Int×Int×Int×Int×Int×(List UInt8)×Int×Int×(List UInt8)×Int×Int×Int×Int×Int×Int×Int×Int×Int×(List UInt8)×Int×Int×(List UInt8)×Int×Int×Int×Int×(List (List UInt8))×Bool×Unit)) (
   bif v19.2.2.2.2.2.2.2.2.2.2.2.2.2.2.2.2.2.2.2.2.2.2.2.2.2.2.2.2.2.2.2.1 then
    Option.bind (ic (v19.2.2.2.2.2.2.2.2.2.2.2.2.2.2.2.2.2.2.2.2.2.2.2.2.2.2.2.2.2.2.2.2.1,v19.2.2.2.2.2.2.2.2.2.2.2.2.2.2.2.2.2.2.2.2.2.2.2.2.2.2.2.2.2.2.2.2.2.1,())) fun r20=>
    some (Sum.inr (v19.1,v19.2.1,v19.2.2.1,v19.2.2.2.1,v19.2.2.2.2.1,v19.2.2.2.2.2.1,v19.2.2.2.2.2.2.1,v19.2.2.2.2.2.2.2.1,v19.2.2.2.2.2.2.2.2.1,v19.2.2.2.2.2.2.2.2.2.1,v19.2.2.2.2.2.2.2.2.2.2.1,v19.2.2.2.2.2.2.2.2.2.2.2.1,v19.2.2.2.2.2.2.2.2.2.2.2.2.1,v19.2.2.2.2.2.2.2.2.2.2.2.2.2.1,v19.2.2.2.2.2.2.2.2.2.2.2.2.2.2.1,v19.2.2.2.2.2.2.2.2.2.2.2.2.2.2.2.1,v19.2.2.2.2.2.2.2.2.2.2.2.2.2.2.2.2.1,v19.2.2.2.2.2.2.2.2.2.2.2.2.2.2.2.2.2.1,v19.2.2.2.2.2.2.2.2.2.2.2.2.2.2.2.2.2.2.1,v19.2.2.2.2.2.2.2.2.2.2.2.2.2.2.2.2.2.2.2.1,v19.2.2.2.2.2.2.2.2.2.2.2.2.2.2.2.2.2.2.2.2.1,v19.2.2.2.2.2.2.2.2.2.2.2.2.2.2.2.2.2.2.2.2.2.1,v19.2.2.2.2.2.2.2.2.2.2.2.2.2.2.2.2.2.2.2.2.2.2.1,v19.2.2.2.2.2.2.2.2.2.2.2.2.2.2.2.2.2.2.2.2.2.2.2.1,v19.2.2.2.2.2.2.2.2.2.2.2.2.2.2.2.2.2.2.2.2.2.2.2.2.1,r20.1,r20.2.1.1,r20.2.1.2.1,()))
   else
    some (Sum.inr (v19.1,v19.2.1,v19.2.2.1,v19.2.2.2.1,v19.2.2.2.2.1,v19.2.2.2.2.2.1,v19.2.2.2.2.2.2.1,v19.2.2.2.2.2.2.2.1,v19.2.2.2.2.2.2.2.2.1,v19.2.2.2.2.2.2.2.2.2.1,v19.2.2.2.2.2.2.2.2.2.2.1,v19.2.2.2.2.2.2.2.2.2.2.2.1,v19.2.2.2.2.2.2.2.2.2.2.2.2.1,v19.2.2.2.2.2.2.2.2.2.2.2.2.2.1,v19.2.2.2.2.2.2.2.2.2.2.2.2.2.2.1,v19.2.2.2.2.2.2.2.2.2.2.2.2.2.2.2.1,v19.2.2.2.2.2.2.2.2.2.2.2.2.2.2.2.2.1,v19.2.2.2.2.2.2.2.2.2.2.2.2.2.2.2.2.2.1,v19.2.2.2.2.2.2.2.2.2.2.2.2.2.2.2.2.2.2.1,v19.2.2.2.2.2.2.2.2.2.2.2.2.2.2.2.2.2.2.2.1,v19.2.2.2.2.2.2.2.2.2.2.2.2.2.2.2.2.2.2.2.2.1,v19.2.2.2.2.2.2.2.2.2.2.2.2.2.2.2.2.2.2.2.2.2.1,v19.2.2.2.2.2.2.2.2.2.2.2.2.2.2.2.2.2.2.2.2.2.2.1,v19.2.2.2.2.2.2.2.2.2.2.2.2.2.2.2.2.2.2.2.2.2.2.2.1,v19.2.2.2.2.2.2.2.2.2.2.2.2.2.2.2.2.2.2.2.2.2.2.2.2.1,v19.2.2.2.2.2.2.2.2.2.2.2.2.2.2.2.2.2.2.2.2.2.2.2.2.2.1,v19.2.2.2.2.2.2.2.2.2.2.2.2.2.2.2.2.2.2.2.2.2.2.2.2.2.2.2.2.2.2.2.2.1,v19.2.2.2.2.2.2.2.2.2.2.2.2.2.2.2.2.2.2.2.2.2.2.2.2.2.2.2.2.2.2.2.2.2.1,()))) fun v21=>
  bif !v21.2.2.2.2.2.2.2.2.2.2.2.2.2.2.2.2.2.2.2.2.2.2.2.2.2.2.2.1 then
   some ((v21.2.2.2.2.2.2.2.2.2.2.2.2.2.1,v21.2.2.2.2.2.2.2.2.2.2.2.2.2.2.1,v21.2.2.2.2.2.2.2.2.2.2.2.2.2.2.2.1,v21.2.2.2.2.2.2.2.2.2.2.2.2.2.2.2.2.1,v21.2.2.2.2.2.2.2.2.2.2.2.2.2.2.2.2.2.1,v21.2.2.2.2.2.2.2.2.2.2.2.2.2.2.2.2.2.2.1,(v21.2.2.2.2.2.2.2.2.2.2.2.2.2.2.2.2.2.2.2.1,v21.2.2.2.2.2.2.2.2.2.2.2.2.2.2.2.2.2.2.2.2.1),v21.2.2.2.2.2.2.2.2.2.2.2.2.2.2.2.2.2.2.2.2.2.1,(v21.2.2.2.2.2.2.2.2.2.2.2.2.2.2.2.2.2.2.2.2.2.2.1,v21.2.2.2.2.2.2.2.2.2.2.2.2.2.2.2.2.2.2.2.2.2.2.2.1),v21.2.2.2.2.2.2.2.2.2.2.2.2.2.2.2.2.2.2.2.2.2.2.2.2.1,v21.2.2.2.2.2.2.2.2.2.2.2.2.2.2.2.2.2.2.2.2.2.2.2.2.2.1),((v21.2.2.2.2.2.2.2.2.2.2.2.2.2.2.2.2.2.2.2.2.2.2.2.2.2.2.1.length:Int))==0,())
  else
   some ((v21.2.2.2.2.2.2.2.2.2.2.2.2.2.1,v21.2.2.2.2.2.2.2.2.2.2.2.2.2.2.1,v21.2.2.2.2.2.2.2.2.2.2.2.2.2.2.2.1,v21.2.2.2.2.2.2.2.2.2.2.2.2.2.2.2.2.1,v21.2.2.2.2.2.2.2.2.2.2.2.2.2.2.2.2.2.1,v21.2.2.2.2.2.2.2.2.2.2.2.2.2.2.2.2.2.2.1,(v21.2.2.2.2.2.2.2.2.2.2.2.2.2.2.2.2.2.2.2.1,v21.2.2.2.2.2.2.2.2.2.2.2.2.2.2.2.2.2.2.2.2.1),v21.2.2.2.2.2.2.2.2.2.2.2.2.2.2.2.2.2.2.2.2.2.1,(v21.2.2.2.2.2.2.2.2.2.2.2.2.2.2.2.2.2.2.2.2.2.2.1,v21.2.2.2.2.2.2.2.2.2.2.2.2.2.2.2.2.2.2.2.2.2.2.2.1),v21.2.2.2.2.2.2.2.2.2.2.2.2.2.2.2.2.2.2.2.2.2.2.2.2.1,v21.2.2.2.2.2.2.2.2.2.2.2.2.2.2.2.2.2.2.2.2.2.2.2.2.2.1),false,())
abbrev CN:Type:=(List (List UInt8))×Bool×(List ah)×(List (List UInt8))×Int×Int×Unit
abbrev CM:Type:=(((List ah)×Int×Int×Unit) ⊕ ((List ah)×Unit))
def Us (x1:CN) (again:CN→Option CM):Option CM:=
 match x1 with
 | (A,B,C,D,E,F,_)=>
 bif decide (F<E) then
  Option.bind (idx D F) fun y2=>
  Option.bind (IS y2) fun r3=>
  Option.bind (
   bif !r3.2.1 then
    some (true,())
   else
    bif !B then
     some (F==(w64 (((A.length:Int)) - 1)),())
    else
     some (false,())) fun v4=>
  bif v4.1 then
   some (Sum.inl ([],w64 (F+1),10,()))
  else
   chk (decide (((C.length)+1)*120≤140737488355328)&&decide ((C.length)+1≤maxLen)) <|
   again (A,B,C++[r3.1],D,E,w64 (F+1),())
 else
  some (Sum.inr (C,()))
def Q7 (a0:List UInt8):Option ((List ah)×Int×Int×Unit):=
 bif decide (((List.length a0:Int))>200000) then
  some ([],0,2,())
 else
  Option.bind (Tm a0) fun r1=>
  aJ (β:=((List ah)×Int×Int×Unit)) (γ:=((List ah)×Unit)) (
   iter (X:=CN) (β:=CM) (r1.1.length+(List.length ([]:List ah)+(r1.1.length+(Int.natAbs ((r1.1.length:Int))+(Int.natAbs (0:Int)+2))))) (r1.1,r1.2.1,[],r1.1,(r1.1.length:Int),0,()) (Us)) fun v6=>
  Option.bind (mJ v6.1) fun r7=>
  bif r7.1 != 0 then
   some ([],0,r7.1,())
  else
   some (v6.1,0,0,())
def Pn:Option (Bool×Unit):=
 Option.bind (Q7 [53,32,98,117,121,101,114,32,49,32,100,117,101,32,50,32,55,10]) fun r1=>
 Option.bind (
  bif r1.2.2.1==0 then
   bif r1.2.1==0 then
    bif ((r1.1.length:Int))==1 then
     chk (decide (0≤(0:Int))&&decide ((0:Int)<(r1.1.length:Int))) <|
     Option.bind (r1.1[0]?) fun y2=>
     some (y2.2.2.2.2.2.2.2.2.2.1==7,())
    else
     some (false,())
   else
    some (false,())
  else
   some (false,())) fun v3=>
 some (v3.1,())
def xX (a0:ai) (a1:List ah) (a2:Int) (a3:List aG):Option ((ai×(List ah)×(List (Int×(Option Nat)))×(List aa)×(List ay)×Int×Unit)×Int×(List aG)×Unit):=
 Option.bind (rK a0 a1) fun r1=>
 bif r1.1 != 0 then
  none
 else
  Option.bind (ou a2) fun r2=>
  bif !r2.1 then
   none
  else
   Option.bind (jb a0 a1 a3) fun r3=>
   Option.bind (gZ (r3.1.1,r3.1.2.1,r3.1.2.2.1,r3.1.2.2.2.1,r3.1.2.2.2.2.1,r3.1.2.2.2.2.2.1,()) a2 r3.2.1) fun r4=>
   some ((r4.1.1,r4.1.2.1,r4.1.2.2.1,r4.1.2.2.2.1,r4.1.2.2.2.2.1,r4.1.2.2.2.2.2.1,()),0,r4.2.1,())
def qR (a0:ai) (a1:List ah) (a2:Int) (a3:List aG):Option ((Option Nat)×Int×(List aG)×Unit):=
 Option.bind (rK a0 a1) fun r1=>
 bif r1.1 != 0 then
  some (none,r1.1,a3,())
 else
  Option.bind (ou a2) fun r2=>
  bif !r2.1 then
   some (none,1,a3,())
  else
   Option.bind (jb a0 a1 a3) fun r3=>
   Option.bind (gZ (r3.1.1,r3.1.2.1,r3.1.2.2.1,r3.1.2.2.2.1,r3.1.2.2.2.2.1,r3.1.2.2.2.2.2.1,()) a2 r3.2.1) fun _=>
   none
def iP (a0:ai) (a1:List ah) (a2:Int) (a3:Int):Option (bf×Bool×Int×Unit):=
 JU (qR a0 a1 a3 []) (fun r1=>
  bif r1.2.1 != 0 then
   some ((0,[],[],(0,0),(0,0),0,(0,0),(0,0),(0,0),0,0),false,r1.2.1,())
  else
   Option.bind (cX a2 1 99999) fun r2=>
   bif r2.1 then
    some ((0,[],[],(0,0),(0,0),0,(0,0),(0,0),(0,0),0,0),false,1,())
   else
    Option.bind (r1.1) fun h3=>
    Option.bind (r1.2.2.1[h3]?) fun _=>
    none) (
  Option.bind (xX a0 a1 a3 []) fun r5=>
  bif r5.2.1 != 0 then
   some ((0,[],[],(0,0),(0,0),0,(0,0),(0,0),(0,0),0,0),false,r5.2.1,())
  else
   Option.bind (cX a2 1 99999) fun r6=>
   bif r6.1 then
    some ((0,[],[],(0,0),(0,0),0,(0,0),(0,0),(0,0),0,0),false,1,())
   else
    bif Option.isNone (Option.getD (α:=Option Nat) (mG (k:=tI) (v:= .hnd) r5.1.2.2.1 a2) none) then
     some ((0,[],[],(0,0),(0,0),0,(0,0),(0,0),(0,0),0,0),false,0,())
    else
     Option.bind (fI (Option.getD (α:=Option Nat) (mG (k:=tI) (v:= .hnd) r5.1.2.2.1 a2) none) r5.2.2.1) fun r7=>
     some (r7.1,true,0,()))
def je (a0:Int) (a1:Int) (a2:Int):Option (Bool×Unit):=
 Option.bind (
  bif decide (a1≤a0) then
   some (decide (a0≤a2),())
  else
   some (false,())) fun v1=>
 some (v1.1,())
def BD (a0:Int):Option (Bool×Unit):=
 Option.bind (je a0 1 4) fun r1=>
 bif r1.1 then
  some (true,())
 else
  bif a0==8 then
   some (true,())
  else
   bif a0==10 then
    some (true,())
   else
    some (a0==11,())
def GH (a0:Int):Option (vQ×Unit):=
 bif a0==1 then
  some ((true,true,true,true,false),())
 else
  aJ (β:=(vQ×Unit)) (γ:=(Int×Bool×Bool×Bool×Bool×Bool×Bool×Unit)) (
   bif a0==2 then
    some (Sum.inr (a0,a0==2,false,false,false,false,false,()))
   else
    bif a0==9 then
     some (Sum.inr (a0,a0==9,false,false,false,false,false,()))
    else
     bif a0==10 then
      some (Sum.inr (a0,a0==10,false,false,false,false,false,()))
     else
      some (Sum.inr (a0,a0==11,false,false,false,false,false,()))) fun v1=>
  bif v1.2.1 then
   some ((true,false,false,false,false),())
  else
   bif v1.1==3 then
    some ((false,false,true,false,false),())
   else
    bif v1.1==4 then
     some ((false,true,false,false,false),())
    else
     bif v1.1==7 then
      some ((true,false,true,false,false),())
     else
      some ((false,false,false,false,true),())
def A3 (a0:Int):Option (aa×Unit):=
 some ((a0,0),())
def ur (a0:aa) (a1:aa):Option (Int×Unit):=
 Option.bind (xB a0 9) fun r1=>
 Option.bind (xB a1 9) fun r2=>
 Option.bind (IV r1.1 r2.1) fun r3=>
 some (r3.1,())
def mQ (a0:aa) (a1:Bool):Option (Int×Unit):=
 Option.bind (
  Option.bind (eZ a0) fun r1=>
  bif r1.1 != 0 then
   some (true,())
  else
   bif decide (a0.1<0) then
    some (true,())
   else
    bif a0.1==0 then
     bif !a1 then
      some (true,())
     else
      Option.bind (A3 1000000000) fun r2=>
      Option.bind (ur a0 r2.1) fun r3=>
      bif decide (r3.1>0) then
       some (true,())
      else
       some (decide (a0.2>3),())
    else
     Option.bind (A3 1000000000) fun r4=>
     Option.bind (ur a0 r4.1) fun r5=>
     bif decide (r5.1>0) then
      some (true,())
     else
      some (decide (a0.2>3),())) fun v6=>
 bif v6.1 then
  some (1,())
 else
  some (0,())
def rS (a0:aa):Option (Int×Unit):=
 Option.bind (eZ a0) fun r1=>
 bif r1.1 != 0 then
  some (1,())
 else
  bif decide (a0.1<0) then
   some (1,())
  else
   Option.bind (A3 1000000000) fun r2=>
   Option.bind (ur a0 r2.1) fun r3=>
   bif decide (r3.1>0) then
    some (1,())
   else
    bif decide (a0.2>4) then
     some (1,())
    else
     some (0,())
def vm (a0:ah):Option (Int×Unit):=
 Option.bind (GH a0.2.2.2.1) fun r1=>
 Option.bind (
  bif r1.1.1 then
   Option.bind (mQ a0.2.2.2.2.2.2.1 (a0.2.2.2.1==2)) fun r2=>
   some (r2.1 != 0,())
  else
   some (false,())) fun v3=>
 bif v3.1 then
  some (1,())
 else
  Option.bind (
   bif r1.1.2.1 then
    Option.bind (rS a0.2.2.2.2.2.2.2.2.1) fun r4=>
    some (r4.1 != 0,())
   else
    some (false,())) fun v5=>
  bif v5.1 then
   some (1,())
  else
   Option.bind (
    bif r1.1.2.2.1 then
     Option.bind (um a0.2.2.2.2.2.2.2.2.2.1) fun r6=>
     some (!r6.1,())
    else
     some (false,())) fun v7=>
   bif v7.1 then
    some (1,())
   else
    Option.bind (
     bif r1.1.2.2.2.1 then
      Option.bind (mg a0.2.2.2.2.2.1) fun r8=>
      bif !r8.1 then
       some (true,())
      else
       Option.bind (mg a0.2.2.2.2.2.2.2.1) fun r9=>
       some (!r9.1,())
     else
      some (false,())) fun v10=>
    bif v10.1 then
     some (5,())
    else
     Option.bind (
      bif r1.1.2.2.2.2 then
       Option.bind (je a0.2.2.2.2.2.2.2.2.2.2 1 2000) fun r11=>
       some (!r11.1,())
      else
       some (false,())) fun v12=>
     bif v12.1 then
      some (1,())
     else
      Option.bind (
       bif !r1.1.1 then
        bif !((a0.2.2.2.2.2.2.1.1==0)&&((a0.2.2.2.2.2.2.1.2==0)&&true)) then
         some (true,())
        else
         bif !r1.1.2.1 then
          bif !((a0.2.2.2.2.2.2.2.2.1.1==0)&&((a0.2.2.2.2.2.2.2.2.1.2==0)&&true)) then
           some (true,())
          else
           bif !r1.1.2.2.1 then
            bif a0.2.2.2.2.2.2.2.2.2.1 != 0 then
             some (true,())
            else
             bif !r1.1.2.2.2.1 then
              chk (decide (a0.2.2.2.2.2.1.length+a0.2.2.2.2.2.2.2.1.length≤maxLen)) <|
              bif !((a0.2.2.2.2.2.1++a0.2.2.2.2.2.2.2.1)==[]) then
               some (true,())
              else
               bif !r1.1.2.2.2.2 then
                some (a0.2.2.2.2.2.2.2.2.2.2 != 0,())
               else
                some (false,())
             else
              bif !r1.1.2.2.2.2 then
               some (a0.2.2.2.2.2.2.2.2.2.2 != 0,())
              else
               some (false,())
           else
            bif !r1.1.2.2.2.1 then
             chk (decide (a0.2.2.2.2.2.1.length+a0.2.2.2.2.2.2.2.1.length≤maxLen)) <|
             bif !((a0.2.2.2.2.2.1++a0.2.2.2.2.2.2.2.1)==[]) then
              some (true,())
             else
              bif !r1.1.2.2.2.2 then
               some (a0.2.2.2.2.2.2.2.2.2.2 != 0,())
              else
               some (false,())
            else
             bif !r1.1.2.2.2.2 then
              some (a0.2.2.2.2.2.2.2.2.2.2 != 0,())
             else
              some (false,())
         else
          bif !r1.1.2.2.1 then
           bif a0.2.2.2.2.2.2.2.2.2.1 != 0 then
            some (true,())
           else
            bif !r1.1.2.2.2.1 then
             chk (decide (a0.2.2.2.2.2.1.length+a0.2.2.2.2.2.2.2.1.length≤maxLen)) <|
             bif !((a0.2.2.2.2.2.1++a0.2.2.2.2.2.2.2.1)==[]) then
              some (true,())
             else
              bif !r1.1.2.2.2.2 then
               some (a0.2.2.2.2.2.2.2.2.2.2 != 0,())
              else
               some (false,())
            else
             bif !r1.1.2.2.2.2 then
              some (a0.2.2.2.2.2.2.2.2.2.2 != 0,())
             else
              some (false,())
          else
           bif !r1.1.2.2.2.1 then
            chk (decide (a0.2.2.2.2.2.1.length+a0.2.2.2.2.2.2.2.1.length≤maxLen)) <|
            bif !((a0.2.2.2.2.2.1++a0.2.2.2.2.2.2.2.1)==[]) then
             some (true,())
            else
             bif !r1.1.2.2.2.2 then
              some (a0.2.2.2.2.2.2.2.2.2.2 != 0,())
             else
              some (false,())
           else
            bif !r1.1.2.2.2.2 then
             some (a0.2.2.2.2.2.2.2.2.2.2 != 0,())
            else
             some (false,())
       else
        bif !r1.1.2.1 then
         bif !((a0.2.2.2.2.2.2.2.2.1.1==0)&&((a0.2.2.2.2.2.2.2.2.1.2==0)&&true)) then
          some (true,())
         else
          bif !r1.1.2.2.1 then
           bif a0.2.2.2.2.2.2.2.2.2.1 != 0 then
            some (true,())
           else
            bif !r1.1.2.2.2.1 then
             chk (decide (a0.2.2.2.2.2.1.length+a0.2.2.2.2.2.2.2.1.length≤maxLen)) <|
             bif !((a0.2.2.2.2.2.1++a0.2.2.2.2.2.2.2.1)==[]) then
              some (true,())
             else
              bif !r1.1.2.2.2.2 then
               some (a0.2.2.2.2.2.2.2.2.2.2 != 0,())
              else
               some (false,())
            else
             bif !r1.1.2.2.2.2 then
              some (a0.2.2.2.2.2.2.2.2.2.2 != 0,())
             else
              some (false,())
          else
           bif !r1.1.2.2.2.1 then
            chk (decide (a0.2.2.2.2.2.1.length+a0.2.2.2.2.2.2.2.1.length≤maxLen)) <|
            bif !((a0.2.2.2.2.2.1++a0.2.2.2.2.2.2.2.1)==[]) then
             some (true,())
            else
             bif !r1.1.2.2.2.2 then
              some (a0.2.2.2.2.2.2.2.2.2.2 != 0,())
             else
              some (false,())
           else
            bif !r1.1.2.2.2.2 then
             some (a0.2.2.2.2.2.2.2.2.2.2 != 0,())
            else
             some (false,())
        else
         bif !r1.1.2.2.1 then
          bif a0.2.2.2.2.2.2.2.2.2.1 != 0 then
           some (true,())
          else
           bif !r1.1.2.2.2.1 then
            chk (decide (a0.2.2.2.2.2.1.length+a0.2.2.2.2.2.2.2.1.length≤maxLen)) <|
            bif !((a0.2.2.2.2.2.1++a0.2.2.2.2.2.2.2.1)==[]) then
             some (true,())
            else
             bif !r1.1.2.2.2.2 then
              some (a0.2.2.2.2.2.2.2.2.2.2 != 0,())
             else
              some (false,())
           else
            bif !r1.1.2.2.2.2 then
             some (a0.2.2.2.2.2.2.2.2.2.2 != 0,())
            else
             some (false,())
         else
          bif !r1.1.2.2.2.1 then
           chk (decide (a0.2.2.2.2.2.1.length+a0.2.2.2.2.2.2.2.1.length≤maxLen)) <|
           bif !((a0.2.2.2.2.2.1++a0.2.2.2.2.2.2.2.1)==[]) then
            some (true,())
           else
            bif !r1.1.2.2.2.2 then
             some (a0.2.2.2.2.2.2.2.2.2.2 != 0,())
            else
             some (false,())
          else
           bif !r1.1.2.2.2.2 then
            some (a0.2.2.2.2.2.2.2.2.2.2 != 0,())
           else
            some (false,())) fun v13=>
      bif v13.1 then
       some (3,())
      else
       some (0,())
abbrev s7:Type:=Int×Int×(List Int)×Unit
abbrev s6:Type:=((Int×Unit) ⊕ Unit)
def zV (x1:s7) (again:s7→Option s6):Option s6:=
 bif decide (x1.2.1<x1.1) then
  chk (decide (0≤x1.2.1)&&decide (x1.2.1<(x1.2.2.1.length:Int))) <|
  Option.bind (x1.2.2.1[x1.2.1.toNat]?) fun y2=>
  bif y2 != 0 then
   some (Sum.inl (y2,()))
  else
   again (x1.1,w64 (x1.2.1+1),x1.2.2.1,())
 else
  some (Sum.inr ())
def uv (a0:ah) (a1:ah):Option (Int×Unit):=
 aJ (β:=(Int×Unit)) (γ:=Unit) (
  iter (X:=s7) (β:=s6) (Int.natAbs ((List.length [(w64 (a0.1 - a1.1)),(w64 (a0.2.1 - a1.2.1)),(w64 (a0.2.2.1 - a1.2.2.1))]:Int))+(Int.natAbs (0:Int)+(List.length ([(w64 (a0.1 - a1.1)),(w64 (a0.2.1 - a1.2.1)),(w64 (a0.2.2.1 - a1.2.2.1))]:List Int)+2))) ((List.length [(w64 (a0.1 - a1.1)),(w64 (a0.2.1 - a1.2.1)),(w64 (a0.2.2.1 - a1.2.2.1))]:Int),0,[(w64 (a0.1 - a1.1)),(w64 (a0.2.1 - a1.2.1)),(w64 (a0.2.2.1 - a1.2.2.1))],()) (zV)) fun _=>
 some (0,())
abbrev uw:Type:=Int×Int×(List ah)×Int×Int×Unit
abbrev zX:Type:=((Int×Unit) ⊕ (Int×Unit))
def zW (x1:uw) (again:uw→Option zX):Option zX:=
 match x1 with
 | (A,B,C,D,E,_)=>
 bif decide (E<D) then
  Option.bind (idx C E) fun y2=>
  bif y2.2.1==A then
   again (A,y2.2.2.1,C,D,w64 (E+1),())
  else
   again (A,B,C,D,w64 (E+1),())
 else
  some (Sum.inr (B,()))
def GA (a0:List ah) (a1:Int):Option (Int×Unit):=
 aJ (β:=(Int×Unit)) (γ:=(Int×Unit)) (
  iter (X:=uw) (β:=zX) (Int.natAbs a1+(Int.natAbs (0:Int)+(List.length a0+(Int.natAbs ((List.length a0:Int))+(Int.natAbs (0:Int)+2))))) (a1,0,a0,(List.length a0:Int),0,()) (zW)) fun v3=>
 some (v3.1,())
abbrev qW:Type:=(List ah)×(List ah)×Int×Int×Unit
abbrev qV:Type:=((Int×Unit) ⊕ Unit)
def mP (x1:qW) (again:qW→Option qV):Option qV:=
 match x1 with
 | (A,B,C,D,_)=>
 bif decide (D<C) then
  Option.bind (idx B D) fun y2=>
  Option.bind (um y2.1) fun r3=>
  bif !r3.1 then
   some (Sum.inl (1,()))
  else
   Option.bind (
    bif y2.2.1 != 1 then
     some (y2.2.1 != 2,())
    else
     some (false,())) fun v4=>
   bif v4.1 then
    some (Sum.inl (4,()))
   else
    Option.bind (je y2.2.2.1 1 2000) fun r5=>
    bif !r5.1 then
     some (Sum.inl (1,()))
    else
     Option.bind (je y2.2.2.2.1 1 11) fun r6=>
     bif !r6.1 then
      some (Sum.inl (4,()))
     else
      Option.bind (BD y2.2.2.2.1) fun r7=>
      bif !(r7.1==(y2.2.1==1)) then
       some (Sum.inl (4,()))
      else
       Option.bind (je y2.2.2.2.2.1 1 99999) fun r8=>
       bif !r8.1 then
        some (Sum.inl (1,()))
       else
        Option.bind (vm y2) fun r9=>
        bif r9.1 != 0 then
         some (Sum.inl (r9.1,()))
        else
         Option.bind (
          bif decide (D>0) then
           Option.bind (idx A (w64 (D - 1))) fun y10=>
           Option.bind (uv y2 y10) fun r11=>
           some (decide (r11.1≤0),())
          else
           some (false,())) fun v12=>
         bif v12.1 then
          some (Sum.inl (8,()))
         else
          chk (decide (0≤(0:Int))&&decide ((0:Int)≤D)&&decide (D≤(A.length:Int))) <|
          Option.bind (GA (List.drop 0 (List.take (Int.toNat D) A)) y2.2.1) fun r13=>
          bif y2.2.2.1 != (w64 (r13.1+1)) then
           some (Sum.inl (9,()))
          else
           again (A,B,C,w64 (D+1),())
 else
  some (Sum.inr ())
def xJ (a0:List ah):Option (Int×Unit):=
 bif decide (((List.length a0:Int))>2000) then
  some (2,())
 else
  aJ (β:=(Int×Unit)) (γ:=Unit) (
   iter (X:=qW) (β:=qV) (List.length a0+(List.length a0+(Int.natAbs ((List.length a0:Int))+(Int.natAbs (0:Int)+2)))) (a0,a0,(List.length a0:Int),0,()) (mP)) fun _=>
  some (0,())
end
end Go.Md
