/-
  The plain models of the functions that the law reaches, second part. No condition.
-/
import Derived.Test.YtalfglakknbjkaaGreatDoorHm
import Derived.Lib.Bytealg
import Derived.Test.YtalfglakknbjkaaGreatDoorHd
set_option linter.all false
namespace Go.Md
open Go.Dn
def strings_Compare (a b:List UInt8):Option (Int×Unit):=some (Lib.compareBytes a b,())
abbrev fX:Ty:=(.st (.pair .str aQ))
abbrev aD:Type:=(List UInt8)×ak
abbrev gv:Ty:=(.st (.pair .bool (.pair aQ .str)))
abbrev ay:Type:=Bool×ak×(List UInt8)
abbrev iS:Ty:=(.st (.pair tI (.pair tI (.pair .str (.pair aQ (.pair .str (.pair aQ (.pair tI (.pair (.slice gv) .str)))))))))
abbrev av:Type:=Int×Int×(List UInt8)×ak×(List UInt8)×ak×Int×(List ay)×(List UInt8)
abbrev bT:Ty:=(.st (.pair .str (.pair .str (.pair tI (.pair tI (.pair tI (.pair .bool (.pair (.slice fX) (.pair (.slice iS) (.slice gv))))))))))
abbrev ai:Type:=(List UInt8)×(List UInt8)×Int×Int×Int×Bool×(List aD)×(List av)×(List ay)
abbrev bh:Ty:=(.st (.pair .str (.pair aQ aQ)))
abbrev aF:Type:=(List UInt8)×ak×ak
abbrev zf:Ty:=(.st (.pair aQ (.pair aQ (.pair aQ (.pair aQ aQ)))))
abbrev eg:Type:=ak×ak×ak×ak×ak
abbrev cK:Ty:=(.st (.pair tI aj))
abbrev aC:Type:=Int×aa
abbrev bZ:Ty:=(.st (.pair bT (.pair (.slice aj) (.pair (.slice aj) (.pair (.slice aj) (.pair (.slice cK) (.pair (.slice aj) (.pair (.slice .bool) (.slice aj)))))))))
abbrev bw:Type:=ai×(List aa)×(List aa)×(List aa)×(List aC)×(List aa)×(List Bool)×(List aa)
abbrev aU:Ty:=(.st (.pair tI (.pair tI aj)))
abbrev ah:Type:=Int×Int×aa
def DA (a0:Int):Option (Bool×Unit):=
 Option.bind (cu a0 1 6) fun r1=>
 some (!r1.1,())
abbrev pY:Type:=(List aD)×(List aD)×Int×Int×Unit
abbrev uH:Type:=((Int×Unit) ⊕ Unit)
def p5 (x1:pY) (again:pY→Option uH):Option uH:=
 match x1 with
 | (A,B,C,D,_)=>
 bif decide (D<C) then
  Option.bind (idx B D) fun y2=>
  Option.bind (gH y2.1) fun r3=>
  bif !r3.1 then
   some (Sum.inl (5,()))
  else
   bif decide (D>0) then
    Option.bind (idx A (w64 (D - 1))) fun y4=>
    bif Op.bytesLess y2.1 y4.1||y2.1==y4.1 then
     some (Sum.inl (8,()))
    else
     Option.bind (bU y2.2) fun r5=>
     bif r5.1 != 0 then
      some (Sum.inl (r5.1,()))
     else
      bif decide (y2.2.1<0) then
       some (Sum.inl (1,()))
      else
       Option.bind (fD y2.2 100) fun r6=>
       bif !r6.1 then
        some (Sum.inl (1,()))
       else
        again (A,B,C,w64 (D+1),())
   else
    Option.bind (bU y2.2) fun r7=>
    bif r7.1 != 0 then
     some (Sum.inl (r7.1,()))
    else
     bif decide (y2.2.1<0) then
      some (Sum.inl (1,()))
     else
      Option.bind (fD y2.2 100) fun r8=>
      bif !r8.1 then
       some (Sum.inl (1,()))
      else
       again (A,B,C,w64 (D+1),())
 else
  some (Sum.inr ())
def nt (a0:List aD):Option (Int×Unit):=
 bif ((List.length a0:Int))==0 then
  some (9,())
 else
  bif decide (((List.length a0:Int))>20) then
   some (2,())
  else
   aP (β:=(Int×Unit)) (γ:=Unit) (
    iter (X:=pY) (β:=uH) (List.length a0+(List.length a0+(Int.natAbs ((List.length a0:Int))+(Int.natAbs (0:Int)+2)))) (a0,a0,(List.length a0:Int),0,()) (p5)) fun _=>
   some (0,())
abbrev AK:Type:=Int×Int×Int×Unit
abbrev AJ:Type:=((Int×Unit) ⊕ (Int×Unit))
def NU (x1:AK) (again:AK→Option AJ):Option AJ:=
 bif decide (x1.2.2.1<x1.2.1) then
  again (w64 (x1.1*10),x1.2.1,w64 (x1.2.2.1+1),())
 else
  some (Sum.inr (x1.1,()))
def Fx (a0:Int):Option (Int×Unit):=
 aP (β:=(Int×Unit)) (γ:=(Int×Unit)) (
  iter (X:=AK) (β:=AJ) (Int.natAbs (1:Int)+(Int.natAbs a0+(Int.natAbs (0:Int)+2))) (1,a0,0,()) (NU)) fun v2=>
 some (v2.1,())
def DL (a0:ak) (a1:Int) (a2:Int):Option (Bool×Unit):=
 bif decide (a0.2≤a1) then
  bif decide (a0.1≥0) then
   Option.bind (Fx a0.2) fun r1=>
   some (decide (a0.1≤(w64 (a2*r1.1))),())
  else
   some (false,())
 else
  some (false,())
def oN (a0:ak):Option (Int×Unit):=
 Option.bind (bU a0) fun r1=>
 bif r1.1 != 0 then
  some (r1.1,())
 else
  Option.bind (DL a0 4 1000000000) fun r2=>
  bif !r2.1 then
   some (1,())
  else
   some (0,())
def Ct (a0:aD) (a1:List UInt8):Option (Int×Unit):=
 Option.bind (strings_Compare a0.1 a1) fun r1=>
 some (r1.1,())
abbrev cl:Type:=(List aD)×(List UInt8)×Unit×Int×Int×Int×Unit
abbrev gh:Type:=((Int×Bool×Unit) ⊕ ((List aD)×(List UInt8)×Unit×Int×Int×Unit))
def gd (x1:cl) (again:cl→Option gh):Option gh:=
 match x1 with
 | (A,B,C,D,E,F,_)=>
 bif decide (E<F) then
  let n2:Int:=w64 (Int.fdiv (bP (w64 (E+F))) (2 ^ 1))
  Option.bind (idx A n2) fun y3=>
  Option.bind (Ct y3 B) fun r4=>
  bif decide (r4.1<0) then
   again (A,B,C,D,w64 (n2+1),F,())
  else
   again (A,B,C,D,E,n2,())
 else
  some (Sum.inr (A,B,C,D,E,()))
def dM (a0:List aD) (a1:List UInt8) (a2:Unit):Option (Int×Bool×Unit):=
 aP (β:=(Int×Bool×Unit)) (γ:=((List aD)×(List UInt8)×Unit×Int×Int×Unit)) (
  iter (X:=cl) (β:=gh) (List.length a0+(List.length a1+(Int.natAbs ((List.length a0:Int))+(Int.natAbs (0:Int)+(Int.natAbs ((List.length a0:Int))+2))))) (a0,a1,a2,(List.length a0:Int),0,(List.length a0:Int),()) (gd)) fun v5=>
 bif decide (v5.2.2.2.2.1<v5.2.2.2.1) then
  Option.bind (idx v5.1 v5.2.2.2.2.1) fun y6=>
  Option.bind (Ct y6 v5.2.1) fun r7=>
  some (v5.2.2.2.2.1,r7.1==0,())
 else
  some (v5.2.2.2.2.1,false,())
def qk (a0:List aD) (a1:List UInt8):Option (Int×Bool×Unit):=
 Option.bind (dM a0 a1 ()) fun r1=>
 some (r1.1,r1.2.1,())
def jO (a0:ai) (a1:List UInt8):Option (Bool×Unit):=
 Option.bind (qk a0.2.2.2.2.2.2.1 a1) fun r1=>
 some (r1.2.1,())
abbrev oV:Type:=Bool×(List ay)×Int×Int×(List UInt8)×(List UInt8)×Int×Int×Int×Bool×(List aD)×(List av)×(List ay)×Unit
abbrev tM:Type:=((Int×Unit) ⊕ Unit)
def oX (x1:oV) (again:oV→Option tM):Option tM:=
 match x1 with
 | (A,B,C,D,E,F,G,H,I,J,K,L,M,_)=>
 bif decide (D<C) then
  Option.bind (idx B D) fun y2=>
  Option.bind (bU y2.2.1) fun r3=>
  bif r3.1 != 0 then
   some (Sum.inl (r3.1,()))
  else
   bif y2.2.1.1==0 then
    some (Sum.inl (13,()))
   else
    bif y2.1 then
     Option.bind (fD y2.2.1 100) fun r4=>
     aP (β:=((Int×Unit) ⊕ Unit)) (γ:=(Bool×(List ay)×Int×Int×Bool×(List UInt8)×(List UInt8)×Int×Int×Int×Bool×(List aD)×(List av)×(List ay)×Bool×Int×Int×(List UInt8)×Unit)) (
      bif !r4.1 then
       some (Sum.inr (A,B,C,D, !r4.1,E,F,G,H,I,J,K,L,M,y2.1,y2.2.1.1,y2.2.1.2,y2.2.2,()))
      else
       bif !y2.1 then
        Option.bind (fD y2.2.1 1000000000) fun r5=>
        bif !r5.1 then
         some (Sum.inr (A,B,C,D,true,E,F,G,H,I,J,K,L,M,y2.1,y2.2.1.1,y2.2.1.2,y2.2.2,()))
        else
         some (Sum.inr (A,B,C,D,decide (y2.2.1.2>H),E,F,G,H,I,J,K,L,M,y2.1,y2.2.1.1,y2.2.1.2,y2.2.2,()))
       else
        some (Sum.inr (A,B,C,D,false,E,F,G,H,I,J,K,L,M,y2.1,y2.2.1.1,y2.2.1.2,y2.2.2,()))) fun v6=>
     bif v6.2.2.2.2.1 then
      some (Sum.inl (1,()))
     else
      bif v6.1 then
       bif !(v6.2.2.2.2.2.2.2.2.2.2.2.2.2.2.2.2.2.1==[]) then
        some (Sum.inl (3,()))
       else
        bif !v6.1 then
         bif !(v6.2.2.2.2.2.2.2.2.2.2.2.2.2.2.2.2.2.1==[]) then
          Option.bind (jO (v6.2.2.2.2.2.1,v6.2.2.2.2.2.2.1,v6.2.2.2.2.2.2.2.1,v6.2.2.2.2.2.2.2.2.1,v6.2.2.2.2.2.2.2.2.2.1,v6.2.2.2.2.2.2.2.2.2.2.1,v6.2.2.2.2.2.2.2.2.2.2.2.1,v6.2.2.2.2.2.2.2.2.2.2.2.2.1,v6.2.2.2.2.2.2.2.2.2.2.2.2.2.1) v6.2.2.2.2.2.2.2.2.2.2.2.2.2.2.2.2.2.1) fun r7=>
          bif !r7.1 then
           some (Sum.inl (5,()))
          else
           again (v6.1,v6.2.1,v6.2.2.1,w64 (v6.2.2.2.1+1),v6.2.2.2.2.2.1,v6.2.2.2.2.2.2.1,v6.2.2.2.2.2.2.2.1,v6.2.2.2.2.2.2.2.2.1,v6.2.2.2.2.2.2.2.2.2.1,v6.2.2.2.2.2.2.2.2.2.2.1,v6.2.2.2.2.2.2.2.2.2.2.2.1,v6.2.2.2.2.2.2.2.2.2.2.2.2.1,v6.2.2.2.2.2.2.2.2.2.2.2.2.2.1,())
         else
          again (v6.1,v6.2.1,v6.2.2.1,w64 (v6.2.2.2.1+1),v6.2.2.2.2.2.1,v6.2.2.2.2.2.2.1,v6.2.2.2.2.2.2.2.1,v6.2.2.2.2.2.2.2.2.1,v6.2.2.2.2.2.2.2.2.2.1,v6.2.2.2.2.2.2.2.2.2.2.1,v6.2.2.2.2.2.2.2.2.2.2.2.1,v6.2.2.2.2.2.2.2.2.2.2.2.2.1,v6.2.2.2.2.2.2.2.2.2.2.2.2.2.1,())
        else
         again (v6.1,v6.2.1,v6.2.2.1,w64 (v6.2.2.2.1+1),v6.2.2.2.2.2.1,v6.2.2.2.2.2.2.1,v6.2.2.2.2.2.2.2.1,v6.2.2.2.2.2.2.2.2.1,v6.2.2.2.2.2.2.2.2.2.1,v6.2.2.2.2.2.2.2.2.2.2.1,v6.2.2.2.2.2.2.2.2.2.2.2.1,v6.2.2.2.2.2.2.2.2.2.2.2.2.1,v6.2.2.2.2.2.2.2.2.2.2.2.2.2.1,())
      else
       bif !v6.1 then
        bif !(v6.2.2.2.2.2.2.2.2.2.2.2.2.2.2.2.2.2.1==[]) then
         Option.bind (jO (v6.2.2.2.2.2.1,v6.2.2.2.2.2.2.1,v6.2.2.2.2.2.2.2.1,v6.2.2.2.2.2.2.2.2.1,v6.2.2.2.2.2.2.2.2.2.1,v6.2.2.2.2.2.2.2.2.2.2.1,v6.2.2.2.2.2.2.2.2.2.2.2.1,v6.2.2.2.2.2.2.2.2.2.2.2.2.1,v6.2.2.2.2.2.2.2.2.2.2.2.2.2.1) v6.2.2.2.2.2.2.2.2.2.2.2.2.2.2.2.2.2.1) fun r8=>
         bif !r8.1 then
          some (Sum.inl (5,()))
         else
          again (v6.1,v6.2.1,v6.2.2.1,w64 (v6.2.2.2.1+1),v6.2.2.2.2.2.1,v6.2.2.2.2.2.2.1,v6.2.2.2.2.2.2.2.1,v6.2.2.2.2.2.2.2.2.1,v6.2.2.2.2.2.2.2.2.2.1,v6.2.2.2.2.2.2.2.2.2.2.1,v6.2.2.2.2.2.2.2.2.2.2.2.1,v6.2.2.2.2.2.2.2.2.2.2.2.2.1,v6.2.2.2.2.2.2.2.2.2.2.2.2.2.1,())
        else
         again (v6.1,v6.2.1,v6.2.2.1,w64 (v6.2.2.2.1+1),v6.2.2.2.2.2.1,v6.2.2.2.2.2.2.1,v6.2.2.2.2.2.2.2.1,v6.2.2.2.2.2.2.2.2.1,v6.2.2.2.2.2.2.2.2.2.1,v6.2.2.2.2.2.2.2.2.2.2.1,v6.2.2.2.2.2.2.2.2.2.2.2.1,v6.2.2.2.2.2.2.2.2.2.2.2.2.1,v6.2.2.2.2.2.2.2.2.2.2.2.2.2.1,())
       else
        again (v6.1,v6.2.1,v6.2.2.1,w64 (v6.2.2.2.1+1),v6.2.2.2.2.2.1,v6.2.2.2.2.2.2.1,v6.2.2.2.2.2.2.2.1,v6.2.2.2.2.2.2.2.2.1,v6.2.2.2.2.2.2.2.2.2.1,v6.2.2.2.2.2.2.2.2.2.2.1,v6.2.2.2.2.2.2.2.2.2.2.2.1,v6.2.2.2.2.2.2.2.2.2.2.2.2.1,v6.2.2.2.2.2.2.2.2.2.2.2.2.2.1,())
    else
     aP (β:=((Int×Unit) ⊕ Unit)) (γ:=(Bool×(List ay)×Int×Int×Bool×(List UInt8)×(List UInt8)×Int×Int×Int×Bool×(List aD)×(List av)×(List ay)×Bool×Int×Int×(List UInt8)×Unit)) (
      bif !y2.1 then
       Option.bind (fD y2.2.1 1000000000) fun r9=>
       bif !r9.1 then
        some (Sum.inr (A,B,C,D,true,E,F,G,H,I,J,K,L,M,y2.1,y2.2.1.1,y2.2.1.2,y2.2.2,()))
       else
        some (Sum.inr (A,B,C,D,decide (y2.2.1.2>H),E,F,G,H,I,J,K,L,M,y2.1,y2.2.1.1,y2.2.1.2,y2.2.2,()))
      else
       some (Sum.inr (A,B,C,D,false,E,F,G,H,I,J,K,L,M,y2.1,y2.2.1.1,y2.2.1.2,y2.2.2,()))) fun v10=>
     bif v10.2.2.2.2.1 then
      some (Sum.inl (1,()))
     else
      bif v10.1 then
       bif !(v10.2.2.2.2.2.2.2.2.2.2.2.2.2.2.2.2.2.1==[]) then
        some (Sum.inl (3,()))
       else
        bif !v10.1 then
         bif !(v10.2.2.2.2.2.2.2.2.2.2.2.2.2.2.2.2.2.1==[]) then
          Option.bind (jO (v10.2.2.2.2.2.1,v10.2.2.2.2.2.2.1,v10.2.2.2.2.2.2.2.1,v10.2.2.2.2.2.2.2.2.1,v10.2.2.2.2.2.2.2.2.2.1,v10.2.2.2.2.2.2.2.2.2.2.1,v10.2.2.2.2.2.2.2.2.2.2.2.1,v10.2.2.2.2.2.2.2.2.2.2.2.2.1,v10.2.2.2.2.2.2.2.2.2.2.2.2.2.1) v10.2.2.2.2.2.2.2.2.2.2.2.2.2.2.2.2.2.1) fun r11=>
          bif !r11.1 then
           some (Sum.inl (5,()))
          else
           again (v10.1,v10.2.1,v10.2.2.1,w64 (v10.2.2.2.1+1),v10.2.2.2.2.2.1,v10.2.2.2.2.2.2.1,v10.2.2.2.2.2.2.2.1,v10.2.2.2.2.2.2.2.2.1,v10.2.2.2.2.2.2.2.2.2.1,v10.2.2.2.2.2.2.2.2.2.2.1,v10.2.2.2.2.2.2.2.2.2.2.2.1,v10.2.2.2.2.2.2.2.2.2.2.2.2.1,v10.2.2.2.2.2.2.2.2.2.2.2.2.2.1,())
         else
          again (v10.1,v10.2.1,v10.2.2.1,w64 (v10.2.2.2.1+1),v10.2.2.2.2.2.1,v10.2.2.2.2.2.2.1,v10.2.2.2.2.2.2.2.1,v10.2.2.2.2.2.2.2.2.1,v10.2.2.2.2.2.2.2.2.2.1,v10.2.2.2.2.2.2.2.2.2.2.1,v10.2.2.2.2.2.2.2.2.2.2.2.1,v10.2.2.2.2.2.2.2.2.2.2.2.2.1,v10.2.2.2.2.2.2.2.2.2.2.2.2.2.1,())
        else
         again (v10.1,v10.2.1,v10.2.2.1,w64 (v10.2.2.2.1+1),v10.2.2.2.2.2.1,v10.2.2.2.2.2.2.1,v10.2.2.2.2.2.2.2.1,v10.2.2.2.2.2.2.2.2.1,v10.2.2.2.2.2.2.2.2.2.1,v10.2.2.2.2.2.2.2.2.2.2.1,v10.2.2.2.2.2.2.2.2.2.2.2.1,v10.2.2.2.2.2.2.2.2.2.2.2.2.1,v10.2.2.2.2.2.2.2.2.2.2.2.2.2.1,())
      else
       bif !v10.1 then
        bif !(v10.2.2.2.2.2.2.2.2.2.2.2.2.2.2.2.2.2.1==[]) then
         Option.bind (jO (v10.2.2.2.2.2.1,v10.2.2.2.2.2.2.1,v10.2.2.2.2.2.2.2.1,v10.2.2.2.2.2.2.2.2.1,v10.2.2.2.2.2.2.2.2.2.1,v10.2.2.2.2.2.2.2.2.2.2.1,v10.2.2.2.2.2.2.2.2.2.2.2.1,v10.2.2.2.2.2.2.2.2.2.2.2.2.1,v10.2.2.2.2.2.2.2.2.2.2.2.2.2.1) v10.2.2.2.2.2.2.2.2.2.2.2.2.2.2.2.2.2.1) fun r12=>
         bif !r12.1 then
          some (Sum.inl (5,()))
         else
          again (v10.1,v10.2.1,v10.2.2.1,w64 (v10.2.2.2.1+1),v10.2.2.2.2.2.1,v10.2.2.2.2.2.2.1,v10.2.2.2.2.2.2.2.1,v10.2.2.2.2.2.2.2.2.1,v10.2.2.2.2.2.2.2.2.2.1,v10.2.2.2.2.2.2.2.2.2.2.1,v10.2.2.2.2.2.2.2.2.2.2.2.1,v10.2.2.2.2.2.2.2.2.2.2.2.2.1,v10.2.2.2.2.2.2.2.2.2.2.2.2.2.1,())
        else
         again (v10.1,v10.2.1,v10.2.2.1,w64 (v10.2.2.2.1+1),v10.2.2.2.2.2.1,v10.2.2.2.2.2.2.1,v10.2.2.2.2.2.2.2.1,v10.2.2.2.2.2.2.2.2.1,v10.2.2.2.2.2.2.2.2.2.1,v10.2.2.2.2.2.2.2.2.2.2.1,v10.2.2.2.2.2.2.2.2.2.2.2.1,v10.2.2.2.2.2.2.2.2.2.2.2.2.1,v10.2.2.2.2.2.2.2.2.2.2.2.2.2.1,())
       else
        again (v10.1,v10.2.1,v10.2.2.1,w64 (v10.2.2.2.1+1),v10.2.2.2.2.2.1,v10.2.2.2.2.2.2.1,v10.2.2.2.2.2.2.2.1,v10.2.2.2.2.2.2.2.2.1,v10.2.2.2.2.2.2.2.2.2.1,v10.2.2.2.2.2.2.2.2.2.2.1,v10.2.2.2.2.2.2.2.2.2.2.2.1,v10.2.2.2.2.2.2.2.2.2.2.2.2.1,v10.2.2.2.2.2.2.2.2.2.2.2.2.2.1,())
 else
  some (Sum.inr ())
def jW (a0:ai) (a1:List ay) (a2:Bool):Option (Int×Unit):=
 bif decide (((List.length a1:Int))>20) then
  some (2,())
 else
  aP (β:=(Int×Unit)) (γ:=Unit) (
   iter (X:=oV) (β:=tM) (List.length a1+(Int.natAbs ((List.length a1:Int))+(Int.natAbs (0:Int)+(a0.1.length+(a0.2.1.length+(a0.2.2.1.natAbs+(a0.2.2.2.1.natAbs+(a0.2.2.2.2.1.natAbs+(a0.2.2.2.2.2.2.1.length+(a0.2.2.2.2.2.2.2.1.length+(a0.2.2.2.2.2.2.2.2.length+2))))))))))) (a2,a1,(List.length a1:Int),0,a0.1,a0.2.1,a0.2.2.1,a0.2.2.2.1,a0.2.2.2.2.1,a0.2.2.2.2.2.1,a0.2.2.2.2.2.2.1,a0.2.2.2.2.2.2.2.1,a0.2.2.2.2.2.2.2.2,()) (oX)) fun _=>
  some (0,())
def rE (a0:ai) (a1:Int):Option (Int×Unit):=
 Option.bind (idx a0.2.2.2.2.2.2.2.1 a1) fun y1=>
 Option.bind (cu y1.1 1 99999) fun r2=>
 bif r2.1 then
  some (1,())
 else
  bif decide (a1>0) then
   Option.bind (idx a0.2.2.2.2.2.2.2.1 (w64 (a1 - 1))) fun y3=>
   bif decide (y1.1≤y3.1) then
    some (8,())
   else
    Option.bind (cu y1.2.1 1 99999) fun r4=>
    bif r4.1 then
     some (1,())
    else
     Option.bind (gH y1.2.2.1) fun r5=>
     bif !r5.1 then
      some (5,())
     else
      Option.bind (bU y1.2.2.2.1) fun r6=>
      bif r6.1 != 0 then
       some (r6.1,())
      else
       bif decide (y1.2.2.2.1.2>3) then
        some (1,())
       else
        Option.bind (fD y1.2.2.2.1 1000000000) fun r7=>
        bif !r7.1 then
         some (1,())
        else
         bif y1.2.2.2.1.1==0 then
          some (13,())
         else
          Option.bind (gH y1.2.2.2.2.1) fun r8=>
          bif !r8.1 then
           some (5,())
          else
           Option.bind (oN y1.2.2.2.2.2.1) fun r9=>
           bif r9.1 != 0 then
            some (r9.1,())
           else
            Option.bind (cu y1.2.2.2.2.2.2.1 1 100000) fun r10=>
            bif r10.1 then
             some (1,())
            else
             Option.bind (jW a0 y1.2.2.2.2.2.2.2.1 true) fun r11=>
             bif r11.1 != 0 then
              some (r11.1,())
             else
              Option.bind (jO a0 y1.2.2.2.2.2.2.2.2) fun r12=>
              bif !r12.1 then
               some (5,())
              else
               some (0,())
  else
   Option.bind (cu y1.2.1 1 99999) fun r13=>
   bif r13.1 then
    some (1,())
   else
    Option.bind (gH y1.2.2.1) fun r14=>
    bif !r14.1 then
     some (5,())
    else
     Option.bind (bU y1.2.2.2.1) fun r15=>
     bif r15.1 != 0 then
      some (r15.1,())
     else
      bif decide (y1.2.2.2.1.2>3) then
       some (1,())
      else
       Option.bind (fD y1.2.2.2.1 1000000000) fun r16=>
       bif !r16.1 then
        some (1,())
       else
        bif y1.2.2.2.1.1==0 then
         some (13,())
        else
         Option.bind (gH y1.2.2.2.2.1) fun r17=>
         bif !r17.1 then
          some (5,())
         else
          Option.bind (oN y1.2.2.2.2.2.1) fun r18=>
          bif r18.1 != 0 then
           some (r18.1,())
          else
           Option.bind (cu y1.2.2.2.2.2.2.1 1 100000) fun r19=>
           bif r19.1 then
            some (1,())
           else
            Option.bind (jW a0 y1.2.2.2.2.2.2.2.1 true) fun r20=>
            bif r20.1 != 0 then
             some (r20.1,())
            else
             Option.bind (jO a0 y1.2.2.2.2.2.2.2.2) fun r21=>
             bif !r21.1 then
              some (5,())
             else
              some (0,())
abbrev rM:Type:=Int×Int×(List UInt8)×(List UInt8)×Int×Int×Int×Bool×(List aD)×(List av)×(List ay)×Unit
abbrev rf:Type:=((Int×Unit) ⊕ ((List UInt8)×(List UInt8)×Int×Int×Int×Bool×(List aD)×(List av)×(List ay)×Unit))
def nv (x1:rM) (again:rM→Option rf):Option rf:=
 match x1 with
 | (A,B,C,D,E,F,G,H,I,J,K,_)=>
 bif decide (B<A) then
  Option.bind (rE (C,D,E,F,G,H,I,J,K) B) fun r2=>
  bif r2.1 != 0 then
   some (Sum.inl (r2.1,()))
  else
   again (A,w64 (B+1),C,D,E,F,G,H,I,J,K,())
 else
  some (Sum.inr (C,D,E,F,G,H,I,J,K,()))
def qK (a0:ai):Option (Int×Unit):=
 Option.bind (gH a0.1) fun r1=>
 bif !r1.1 then
  some (5,())
 else
  Option.bind (gH a0.2.1) fun r2=>
  bif !r2.1 then
   some (5,())
  else
   Option.bind (yT a0.2.2.1) fun r3=>
   bif !r3.1 then
    some (1,())
   else
    Option.bind (cu a0.2.2.2.1 0 4) fun r4=>
    bif r4.1 then
     some (1,())
    else
     Option.bind (DA a0.2.2.2.2.1) fun r5=>
     bif !r5.1 then
      some (4,())
     else
      Option.bind (nt a0.2.2.2.2.2.2.1) fun r6=>
      bif r6.1 != 0 then
       some (r6.1,())
      else
       bif ((a0.2.2.2.2.2.2.2.1.length:Int))==0 then
        some (9,())
       else
        bif decide (((a0.2.2.2.2.2.2.2.1.length:Int))>500) then
         some (2,())
        else
         aP (β:=(Int×Unit)) (γ:=((List UInt8)×(List UInt8)×Int×Int×Int×Bool×(List aD)×(List av)×(List ay)×Unit)) (
          iter (X:=rM) (β:=rf) (Int.natAbs ((a0.2.2.2.2.2.2.2.1.length:Int))+(Int.natAbs (0:Int)+(a0.1.length+(a0.2.1.length+(a0.2.2.1.natAbs+(a0.2.2.2.1.natAbs+(a0.2.2.2.2.1.natAbs+(a0.2.2.2.2.2.2.1.length+(a0.2.2.2.2.2.2.2.1.length+(a0.2.2.2.2.2.2.2.2.length+2)))))))))) ((a0.2.2.2.2.2.2.2.1.length:Int),0,a0.1,a0.2.1,a0.2.2.1,a0.2.2.2.1,a0.2.2.2.2.1,a0.2.2.2.2.2.1,a0.2.2.2.2.2.2.1,a0.2.2.2.2.2.2.2.1,a0.2.2.2.2.2.2.2.2,()) (nv)) fun v9=>
         Option.bind (jW (v9.1,v9.2.1,v9.2.2.1,v9.2.2.2.1,v9.2.2.2.2.1,v9.2.2.2.2.2.1,v9.2.2.2.2.2.2.1,v9.2.2.2.2.2.2.2.1,v9.2.2.2.2.2.2.2.2.1) v9.2.2.2.2.2.2.2.2.1 false) fun r10=>
         some (r10.1,())
abbrev nh:Type:=Int×Int×Int×(List Int)×Int×Int×(List Int)×Int×Int×Bool×(List Int)×Bool×(List Int)×Bool×(List Int)×(List Int)×Unit
abbrev vu:Type:=(((aa×Unit) ⊕ (Bool×(List Int)×Bool×(List Int)×Bool×(List Int)×(List Int)×Unit)) ⊕ (Int×Int×(List Int)×Int×Int×Bool×(List Int)×Bool×(List Int)×Bool×(List Int)×(List Int)×Unit))
def qg (x1:nh) (again:nh→Option vu):Option vu:=
 match x1 with
 | (A,B,C,D,E,F,G,H,I,J,K,L,M,N,O,P,_)=>
 bif decide (I<H) then
  Option.bind (idx G I) fun y2=>
  chk (decide (0≤(w64 (A+I)))&&decide ((w64 (A+I))<(P.length:Int))) <|
  Option.bind (P[(w64 (A+I)).toNat]?) fun y3=>
  let n4:Int:=bP ((bP y3)+(bP ((bP B)*(bP y2))))
  chk (decide (0≤(w64 (A+I)))&&decide ((w64 (A+I))<(P.length:Int))) <|
  Option.bind (P[(w64 (A+I)).toNat]?) fun _=>
  again (A,B,Int.fdiv (bP (C+n4)) (2 ^ 32),D,E,F,G,H,w64 (I+1),J,K,L,M,N,O,List.set P (w64 (A+I)).toNat (mN (bP (C+n4))),())
 else
  some (Sum.inr (A,C,D,E,F,J,K,L,M,N,O,P,()))
abbrev nj:Type:=(List Int)×Int×Int×Bool×(List Int)×Bool×(List Int)×Bool×(List Int)×(List Int)×Unit
abbrev uP:Type:=((aa×Unit) ⊕ (Bool×(List Int)×Bool×(List Int)×Bool×(List Int)×(List Int)×Unit))
def qc (x1:nj) (again:nj→Option uP):Option uP:=
 match x1 with
 | (A,B,C,D,E,F,G,H,I,J,_)=>
 bif decide (C<B) then
  Option.bind (idx A C) fun y2=>
  aP (β:=((aa×Unit) ⊕ (Bool×(List Int)×Bool×(List Int)×Bool×(List Int)×(List Int)×Unit))) (γ:=(Int×Int×(List Int)×Int×Int×Bool×(List Int)×Bool×(List Int)×Bool×(List Int)×(List Int)×Unit)) (
   iter (X:=nh) (β:=vu) (C.natAbs+(Int.natAbs y2+(Int.natAbs (0:Int)+(A.length+(B.natAbs+(C.natAbs+(G.length+(Int.natAbs ((G.length:Int))+(Int.natAbs (0:Int)+(E.length+(G.length+(I.length+(J.length+2))))))))))))) (C,y2,0,A,B,C,G,(G.length:Int),0,D,E,F,G,H,I,J,()) (qg)) fun v3=>
  chk (decide (0≤(w64 (v3.1+((v3.2.2.2.2.2.2.2.2.1.length:Int)))))&&decide ((w64 (v3.1+((v3.2.2.2.2.2.2.2.2.1.length:Int))))<(v3.2.2.2.2.2.2.2.2.2.2.2.1.length:Int))) <|
  Option.bind (v3.2.2.2.2.2.2.2.2.2.2.2.1[(w64 (v3.1+((v3.2.2.2.2.2.2.2.2.1.length:Int)))).toNat]?) fun _=>
  again (v3.2.2.1,v3.2.2.2.1,w64 (v3.2.2.2.2.1+1),v3.2.2.2.2.2.1,v3.2.2.2.2.2.2.1,v3.2.2.2.2.2.2.2.1,v3.2.2.2.2.2.2.2.2.1,v3.2.2.2.2.2.2.2.2.2.1,v3.2.2.2.2.2.2.2.2.2.2.1,List.set v3.2.2.2.2.2.2.2.2.2.2.2.1 (w64 (v3.1+((v3.2.2.2.2.2.2.2.2.1.length:Int)))).toNat (mN v3.2.1),())
 else
  some (Sum.inr (D,E,F,G,H,I,J,()))
def fe (a0:aa) (a1:aa):Option (aa×Unit):=
 chk (decide (0≤(w64 (((a0.2.length:Int))+((a1.2.length:Int)))))&&decide ((w64 (((a0.2.length:Int))+((a1.2.length:Int))))≤(w64 (((a0.2.length:Int))+((a1.2.length:Int)))))&&decide ((4:Int)*(w64 (((a0.2.length:Int))+((a1.2.length:Int))))≤281474976710656)&&decide ((w64 (((a0.2.length:Int))+((a1.2.length:Int))))≤9223372036854775807)) <|
 aP (β:=(aa×Unit)) (γ:=(Bool×(List Int)×Bool×(List Int)×Bool×(List Int)×(List Int)×Unit)) (
  iter (X:=nj) (β:=uP) (a0.2.length+(Int.natAbs ((a0.2.length:Int))+(Int.natAbs (0:Int)+(a0.2.length+(a1.2.length+(List.length ([]:List Int)+(List.length ((List.replicate (Int.toNat (w64 (((a0.2.length:Int))+((a1.2.length:Int))))) 0):List Int)+2))))))) (a0.2,(a0.2.length:Int),0,a0.1,a0.2,a1.1,a1.2,false,[],List.replicate (Int.toNat (w64 (((a0.2.length:Int))+((a1.2.length:Int))))) 0,()) (qc)) fun v10=>
 Option.bind (iT (!(v10.1==v10.2.2.1)) v10.2.2.2.2.2.2.1) fun r11=>
 some (r11.1,())
abbrev rD:Type:=Int×Int×Bool×(List Int)×Bool×(List Int)×Unit
abbrev AE:Type:=((aa×Unit) ⊕ (Bool×(List Int)×Bool×(List Int)×Unit))
def vP (x1:rD) (again:rD→Option AE):Option AE:=
 match x1 with
 | (A,B,C,D,E,F,_)=>
 bif decide (B<A) then
  Option.bind (bC 10) fun r2=>
  Option.bind (fe (E,F) r2.1) fun r3=>
  again (A,w64 (B+1),C,D,r3.1.1,r3.1.2,())
 else
  some (Sum.inr (C,D,E,F,()))
def oe (a0:Int):Option (aa×Unit):=
 Option.bind (bC 1) fun r1=>
 aP (β:=(aa×Unit)) (γ:=(Bool×(List Int)×Bool×(List Int)×Unit)) (
  iter (X:=rD) (β:=AE) (Int.natAbs a0+(Int.natAbs (0:Int)+(List.length ([]:List Int)+(r1.1.2.length+2)))) (a0,0,false,[],r1.1.1,r1.1.2,()) (vP)) fun v5=>
 some ((v5.2.2.1,v5.2.2.2.1),())
abbrev AY:Type:=(List Int)×(List Int)×Int×(List Int)×Int×Int×Unit
abbrev AH:Type:=(((List Int)×Unit) ⊕ ((List Int)×Int×Unit))
def NH (x1:AY) (again:AY→Option AH):Option AH:=
 match x1 with
 | (A,B,C,D,E,F,_)=>
 bif decide (F<E) then
  Option.bind (idx D F) fun y2=>
  aP (β:=(((List Int)×Unit) ⊕ ((List Int)×Int×Unit))) (γ:=((List Int)×(List Int)×Int×(List Int)×Int×Int×Unit)) (
   bif decide (F<((A.length:Int))) then
    Option.bind (idx A F) fun y3=>
    let n4:Int:=bP ((bP (C+(bP y2)))+(bP y3))
    some (Sum.inr (A,B,n4,D,E,F,()))
   else
    some (Sum.inr (A,B,bP (C+(bP y2)),D,E,F,()))) fun v5=>
  chk (decide (((v5.2.1.length)+1)*4≤140737488355328)&&decide ((v5.2.1.length)+1≤maxLen)) <|
  again (v5.1,v5.2.1++[(mN v5.2.2.1)],Int.fdiv v5.2.2.1 (2 ^ 32),v5.2.2.2.1,v5.2.2.2.2.1,w64 (v5.2.2.2.2.2.1+1),())
 else
  some (Sum.inr (B,C,()))
def Fc (a0:List Int) (a1:List Int):Option ((List Int)×Unit):=
 aP (β:=((List Int)×Unit)) (γ:=((List Int)×(List Int)×Unit)) (
  bif decide (((List.length a0:Int))<((List.length a1:Int))) then
   some (Sum.inr (a1,a0,()))
  else
   some (Sum.inr (a0,a1,()))) fun v1=>
 chk (decide (0≤(0:Int))&&decide ((0:Int)≤(w64 (((v1.1.length:Int))+1)))&&decide ((4:Int)*(w64 (((v1.1.length:Int))+1))≤281474976710656)&&decide ((w64 (((v1.1.length:Int))+1))≤9223372036854775807)) <|
 aP (β:=((List Int)×Unit)) (γ:=((List Int)×Int×Unit)) (
  iter (X:=AY) (β:=AH) (v1.2.1.length+(List.length ([]:List Int)+(Int.natAbs (0:Int)+(v1.1.length+(Int.natAbs ((v1.1.length:Int))+(Int.natAbs (0:Int)+2)))))) (v1.2.1,[],0,v1.1,(v1.1.length:Int),0,()) (NH)) fun v7=>
 chk (decide (((v7.1.length)+1)*4≤140737488355328)&&decide ((v7.1.length)+1≤maxLen)) <|
 some (v7.1++[(mN v7.2.1)],())
def aX (a0:aa) (a1:aa):Option (aa×Unit):=
 bif a0.1==a1.1 then
  Option.bind (Fc a0.2 a1.2) fun r1=>
  Option.bind (iT a0.1 r1.1) fun r2=>
  some (r2.1,())
 else
  Option.bind (tu a0.2 a1.2) fun r3=>
  bif decide (r3.1≥0) then
   Option.bind (vF a0.2 a1.2) fun r4=>
   Option.bind (iT a0.1 r4.1) fun r5=>
   some (r5.1,())
  else
   Option.bind (vF a1.2 a0.2) fun r6=>
   Option.bind (iT a1.1 r6.1) fun r7=>
   some (r7.1,())
def vC (a0:aa) (a1:aa):Option (aa×Unit):=
 Option.bind (aA a1) fun r1=>
 Option.bind (aX a0 r1.1) fun r2=>
 some (r2.1,())
def kV (a0:aa) (a1:aa):Option (Int×Unit):=
 Option.bind (vC a0 a1) fun r1=>
 Option.bind (aB r1.1) fun r2=>
 some (r2.1,())
def fY (a0:aa):Option (Bool×Unit):=
 bif decide (((a0.2.length:Int))>0) then
  Option.bind (idx a0.2 0) fun y1=>
  some ((mN (((BitVec.ofInt (IntKind.bits .u32) y1 &&& BitVec.ofInt (IntKind.bits .u32) 1).toNat:Int)))==1,())
 else
  some (false,())
def rj (a0:aa) (a1:aa) (a2:Int):Option (aa×Unit):=
 Option.bind (rq a0 a1) fun r1=>
 Option.bind (aB r1.2.1) fun r2=>
 bif r2.1 != 0 then
  Option.bind (aX r1.2.1 r1.2.1) fun r3=>
  Option.bind (kV r3.1 a1) fun r4=>
  Option.bind (aB a0) fun r5=>
  bif a2==4 then
   Option.bind (bC 1) fun r6=>
   Option.bind (aX r1.1 r6.1) fun r7=>
   Option.bind (aB a0) fun r8=>
   bif decide (r8.1<0) then
    Option.bind (aA r7.1) fun r9=>
    some (r9.1,())
   else
    some (r7.1,())
  else
   bif a2==5 then
    bif decide (r5.1<0) then
     Option.bind (bC 1) fun r10=>
     Option.bind (aX r1.1 r10.1) fun r11=>
     Option.bind (aB a0) fun r12=>
     bif decide (r12.1<0) then
      Option.bind (aA r11.1) fun r13=>
      some (r13.1,())
     else
      some (r11.1,())
    else
     bif a2==6 then
      bif !(decide (r5.1<0)) then
       Option.bind (bC 1) fun r14=>
       Option.bind (aX r1.1 r14.1) fun r15=>
       Option.bind (aB a0) fun r16=>
       bif decide (r16.1<0) then
        Option.bind (aA r15.1) fun r17=>
        some (r17.1,())
       else
        some (r15.1,())
      else
       bif a2==1 then
        bif decide (r4.1≥0) then
         Option.bind (bC 1) fun r18=>
         Option.bind (aX r1.1 r18.1) fun r19=>
         Option.bind (aB a0) fun r20=>
         bif decide (r20.1<0) then
          Option.bind (aA r19.1) fun r21=>
          some (r21.1,())
         else
          some (r19.1,())
        else
         bif a2==2 then
          bif decide (r4.1>0) then
           Option.bind (bC 1) fun r22=>
           Option.bind (aX r1.1 r22.1) fun r23=>
           Option.bind (aB a0) fun r24=>
           bif decide (r24.1<0) then
            Option.bind (aA r23.1) fun r25=>
            some (r25.1,())
           else
            some (r23.1,())
          else
           bif r4.1==0 then
            Option.bind (fY r1.1) fun r26=>
            bif r26.1 then
             Option.bind (bC 1) fun r27=>
             Option.bind (aX r1.1 r27.1) fun r28=>
             Option.bind (aB a0) fun r29=>
             bif decide (r29.1<0) then
              Option.bind (aA r28.1) fun r30=>
              some (r30.1,())
             else
              some (r28.1,())
            else
             Option.bind (aB a0) fun r31=>
             bif decide (r31.1<0) then
              Option.bind (aA r1.1) fun r32=>
              some (r32.1,())
             else
              some (r1.1,())
           else
            Option.bind (aB a0) fun r33=>
            bif decide (r33.1<0) then
             Option.bind (aA r1.1) fun r34=>
             some (r34.1,())
            else
             some (r1.1,())
         else
          Option.bind (aB a0) fun r35=>
          bif decide (r35.1<0) then
           Option.bind (aA r1.1) fun r36=>
           some (r36.1,())
          else
           some (r1.1,())
       else
        bif a2==2 then
         bif decide (r4.1>0) then
          Option.bind (bC 1) fun r37=>
          Option.bind (aX r1.1 r37.1) fun r38=>
          Option.bind (aB a0) fun r39=>
          bif decide (r39.1<0) then
           Option.bind (aA r38.1) fun r40=>
           some (r40.1,())
          else
           some (r38.1,())
         else
          bif r4.1==0 then
           Option.bind (fY r1.1) fun r41=>
           bif r41.1 then
            Option.bind (bC 1) fun r42=>
            Option.bind (aX r1.1 r42.1) fun r43=>
            Option.bind (aB a0) fun r44=>
            bif decide (r44.1<0) then
             Option.bind (aA r43.1) fun r45=>
             some (r45.1,())
            else
             some (r43.1,())
           else
            Option.bind (aB a0) fun r46=>
            bif decide (r46.1<0) then
             Option.bind (aA r1.1) fun r47=>
             some (r47.1,())
            else
             some (r1.1,())
          else
           Option.bind (aB a0) fun r48=>
           bif decide (r48.1<0) then
            Option.bind (aA r1.1) fun r49=>
            some (r49.1,())
           else
            some (r1.1,())
        else
         Option.bind (aB a0) fun r50=>
         bif decide (r50.1<0) then
          Option.bind (aA r1.1) fun r51=>
          some (r51.1,())
         else
          some (r1.1,())
     else
      bif a2==1 then
       bif decide (r4.1≥0) then
        Option.bind (bC 1) fun r52=>
        Option.bind (aX r1.1 r52.1) fun r53=>
        Option.bind (aB a0) fun r54=>
        bif decide (r54.1<0) then
         Option.bind (aA r53.1) fun r55=>
         some (r55.1,())
        else
         some (r53.1,())
       else
        bif a2==2 then
         bif decide (r4.1>0) then
          Option.bind (bC 1) fun r56=>
          Option.bind (aX r1.1 r56.1) fun r57=>
          Option.bind (aB a0) fun r58=>
          bif decide (r58.1<0) then
           Option.bind (aA r57.1) fun r59=>
           some (r59.1,())
          else
           some (r57.1,())
         else
          bif r4.1==0 then
           Option.bind (fY r1.1) fun r60=>
           bif r60.1 then
            Option.bind (bC 1) fun r61=>
            Option.bind (aX r1.1 r61.1) fun r62=>
            Option.bind (aB a0) fun r63=>
            bif decide (r63.1<0) then
             Option.bind (aA r62.1) fun r64=>
             some (r64.1,())
            else
             some (r62.1,())
           else
            Option.bind (aB a0) fun r65=>
            bif decide (r65.1<0) then
             Option.bind (aA r1.1) fun r66=>
             some (r66.1,())
            else
             some (r1.1,())
          else
           Option.bind (aB a0) fun r67=>
           bif decide (r67.1<0) then
            Option.bind (aA r1.1) fun r68=>
            some (r68.1,())
           else
            some (r1.1,())
        else
         Option.bind (aB a0) fun r69=>
         bif decide (r69.1<0) then
          Option.bind (aA r1.1) fun r70=>
          some (r70.1,())
         else
          some (r1.1,())
      else
       bif a2==2 then
        bif decide (r4.1>0) then
         Option.bind (bC 1) fun r71=>
         Option.bind (aX r1.1 r71.1) fun r72=>
         Option.bind (aB a0) fun r73=>
         bif decide (r73.1<0) then
          Option.bind (aA r72.1) fun r74=>
          some (r74.1,())
         else
          some (r72.1,())
        else
         bif r4.1==0 then
          Option.bind (fY r1.1) fun r75=>
          bif r75.1 then
           Option.bind (bC 1) fun r76=>
           Option.bind (aX r1.1 r76.1) fun r77=>
           Option.bind (aB a0) fun r78=>
           bif decide (r78.1<0) then
            Option.bind (aA r77.1) fun r79=>
            some (r79.1,())
           else
            some (r77.1,())
          else
           Option.bind (aB a0) fun r80=>
           bif decide (r80.1<0) then
            Option.bind (aA r1.1) fun r81=>
            some (r81.1,())
           else
            some (r1.1,())
         else
          Option.bind (aB a0) fun r82=>
          bif decide (r82.1<0) then
           Option.bind (aA r1.1) fun r83=>
           some (r83.1,())
          else
           some (r1.1,())
       else
        Option.bind (aB a0) fun r84=>
        bif decide (r84.1<0) then
         Option.bind (aA r1.1) fun r85=>
         some (r85.1,())
        else
         some (r1.1,())
   else
    bif a2==6 then
     bif !(decide (r5.1<0)) then
      Option.bind (bC 1) fun r86=>
      Option.bind (aX r1.1 r86.1) fun r87=>
      Option.bind (aB a0) fun r88=>
      bif decide (r88.1<0) then
       Option.bind (aA r87.1) fun r89=>
       some (r89.1,())
      else
       some (r87.1,())
     else
      bif a2==1 then
       bif decide (r4.1≥0) then
        Option.bind (bC 1) fun r90=>
        Option.bind (aX r1.1 r90.1) fun r91=>
        Option.bind (aB a0) fun r92=>
        bif decide (r92.1<0) then
         Option.bind (aA r91.1) fun r93=>
         some (r93.1,())
        else
         some (r91.1,())
       else
        bif a2==2 then
         bif decide (r4.1>0) then
          Option.bind (bC 1) fun r94=>
          Option.bind (aX r1.1 r94.1) fun r95=>
          Option.bind (aB a0) fun r96=>
          bif decide (r96.1<0) then
           Option.bind (aA r95.1) fun r97=>
           some (r97.1,())
          else
           some (r95.1,())
         else
          bif r4.1==0 then
           Option.bind (fY r1.1) fun r98=>
           bif r98.1 then
            Option.bind (bC 1) fun r99=>
            Option.bind (aX r1.1 r99.1) fun r100=>
            Option.bind (aB a0) fun r101=>
            bif decide (r101.1<0) then
             Option.bind (aA r100.1) fun r102=>
             some (r102.1,())
            else
             some (r100.1,())
           else
            Option.bind (aB a0) fun r103=>
            bif decide (r103.1<0) then
             Option.bind (aA r1.1) fun r104=>
             some (r104.1,())
            else
             some (r1.1,())
          else
           Option.bind (aB a0) fun r105=>
           bif decide (r105.1<0) then
            Option.bind (aA r1.1) fun r106=>
            some (r106.1,())
           else
            some (r1.1,())
        else
         Option.bind (aB a0) fun r107=>
         bif decide (r107.1<0) then
          Option.bind (aA r1.1) fun r108=>
          some (r108.1,())
         else
          some (r1.1,())
      else
       bif a2==2 then
        bif decide (r4.1>0) then
         Option.bind (bC 1) fun r109=>
         Option.bind (aX r1.1 r109.1) fun r110=>
         Option.bind (aB a0) fun r111=>
         bif decide (r111.1<0) then
          Option.bind (aA r110.1) fun r112=>
          some (r112.1,())
         else
          some (r110.1,())
        else
         bif r4.1==0 then
          Option.bind (fY r1.1) fun r113=>
          bif r113.1 then
           Option.bind (bC 1) fun r114=>
           Option.bind (aX r1.1 r114.1) fun r115=>
           Option.bind (aB a0) fun r116=>
           bif decide (r116.1<0) then
            Option.bind (aA r115.1) fun r117=>
            some (r117.1,())
           else
            some (r115.1,())
          else
           Option.bind (aB a0) fun r118=>
           bif decide (r118.1<0) then
            Option.bind (aA r1.1) fun r119=>
            some (r119.1,())
           else
            some (r1.1,())
         else
          Option.bind (aB a0) fun r120=>
          bif decide (r120.1<0) then
           Option.bind (aA r1.1) fun r121=>
           some (r121.1,())
          else
           some (r1.1,())
       else
        Option.bind (aB a0) fun r122=>
        bif decide (r122.1<0) then
         Option.bind (aA r1.1) fun r123=>
         some (r123.1,())
        else
         some (r1.1,())
    else
     bif a2==1 then
      bif decide (r4.1≥0) then
       Option.bind (bC 1) fun r124=>
       Option.bind (aX r1.1 r124.1) fun r125=>
       Option.bind (aB a0) fun r126=>
       bif decide (r126.1<0) then
        Option.bind (aA r125.1) fun r127=>
        some (r127.1,())
       else
        some (r125.1,())
      else
       bif a2==2 then
        bif decide (r4.1>0) then
         Option.bind (bC 1) fun r128=>
         Option.bind (aX r1.1 r128.1) fun r129=>
         Option.bind (aB a0) fun r130=>
         bif decide (r130.1<0) then
          Option.bind (aA r129.1) fun r131=>
          some (r131.1,())
         else
          some (r129.1,())
        else
         bif r4.1==0 then
          Option.bind (fY r1.1) fun r132=>
          bif r132.1 then
           Option.bind (bC 1) fun r133=>
           Option.bind (aX r1.1 r133.1) fun r134=>
           Option.bind (aB a0) fun r135=>
           bif decide (r135.1<0) then
            Option.bind (aA r134.1) fun r136=>
            some (r136.1,())
           else
            some (r134.1,())
          else
           Option.bind (aB a0) fun r137=>
           bif decide (r137.1<0) then
            Option.bind (aA r1.1) fun r138=>
            some (r138.1,())
           else
            some (r1.1,())
         else
          Option.bind (aB a0) fun r139=>
          bif decide (r139.1<0) then
           Option.bind (aA r1.1) fun r140=>
           some (r140.1,())
          else
           some (r1.1,())
       else
        Option.bind (aB a0) fun r141=>
        bif decide (r141.1<0) then
         Option.bind (aA r1.1) fun r142=>
         some (r142.1,())
        else
         some (r1.1,())
     else
      bif a2==2 then
       bif decide (r4.1>0) then
        Option.bind (bC 1) fun r143=>
        Option.bind (aX r1.1 r143.1) fun r144=>
        Option.bind (aB a0) fun r145=>
        bif decide (r145.1<0) then
         Option.bind (aA r144.1) fun r146=>
         some (r146.1,())
        else
         some (r144.1,())
       else
        bif r4.1==0 then
         Option.bind (fY r1.1) fun r147=>
         bif r147.1 then
          Option.bind (bC 1) fun r148=>
          Option.bind (aX r1.1 r148.1) fun r149=>
          Option.bind (aB a0) fun r150=>
          bif decide (r150.1<0) then
           Option.bind (aA r149.1) fun r151=>
           some (r151.1,())
          else
           some (r149.1,())
         else
          Option.bind (aB a0) fun r152=>
          bif decide (r152.1<0) then
           Option.bind (aA r1.1) fun r153=>
           some (r153.1,())
          else
           some (r1.1,())
        else
         Option.bind (aB a0) fun r154=>
         bif decide (r154.1<0) then
          Option.bind (aA r1.1) fun r155=>
          some (r155.1,())
         else
          some (r1.1,())
      else
       Option.bind (aB a0) fun r156=>
       bif decide (r156.1<0) then
        Option.bind (aA r1.1) fun r157=>
        some (r157.1,())
       else
        some (r1.1,())
 else
  Option.bind (aB a0) fun r158=>
  bif decide (r158.1<0) then
   Option.bind (aA r1.1) fun r159=>
   some (r159.1,())
  else
   some (r1.1,())
def jr (a0:aa):Option (Bool×Unit):=
 Option.bind (nF a0 1000000000000000) fun r1=>
 some (r1.2.1,())
def Db (a0:ai) (a1:av):Option (aa×Bool×Unit):=
 Option.bind (bC a1.2.2.2.1.1) fun r1=>
 Option.bind (bC a1.2.2.2.2.2.1.1) fun r2=>
 Option.bind (fe r1.1 r2.1) fun r3=>
 Option.bind (oe a0.2.2.2.1) fun r4=>
 Option.bind (fe r3.1 r4.1) fun r5=>
 Option.bind (oe (w64 (a1.2.2.2.1.2+a1.2.2.2.2.2.1.2))) fun r6=>
 Option.bind (bC a1.2.2.2.2.2.2.1) fun r7=>
 Option.bind (fe r6.1 r7.1) fun r8=>
 Option.bind (rj r5.1 r8.1 a0.2.2.2.2.1) fun r9=>
 Option.bind (jr r9.1) fun r10=>
 some (r9.1,r10.1,())
def nH (a0:ak) (a1:Int):Option (aa×Unit):=
 Option.bind (bC a0.1) fun r1=>
 Option.bind (oe (w64 (a1 - a0.2))) fun r2=>
 Option.bind (fe r1.1 r2.1) fun r3=>
 some (r3.1,())
def pK (a0:ai) (a1:aa) (a2:ak):Option (aa×Unit):=
 Option.bind (bC a2.1) fun r1=>
 Option.bind (fe a1 r1.1) fun r2=>
 Option.bind (bC 100) fun r3=>
 Option.bind (oe a2.2) fun r4=>
 Option.bind (fe r3.1 r4.1) fun r5=>
 Option.bind (rj r2.1 r5.1 a0.2.2.2.2.1) fun r6=>
 some (r6.1,())
abbrev xG:Type:=Bool×(List ay)×Int×Int×(List UInt8)×(List UInt8)×Int×Int×Int×Bool×(List aD)×(List av)×(List ay)×Bool×(List Int)×Bool×(List Int)×Bool×(List Int)×Unit
abbrev FM:Type:=((aa×Bool×Unit) ⊕ (Bool×Bool×(List Int)×Bool×(List Int)×Unit))
def Bm (x1:xG) (again:xG→Option FM):Option FM:=
 match x1 with
 | (A,B,C,D,E,F,G,H,I,J,K,L,M,N,O,P,Q,R,S,_)=>
 bif decide (D<C) then
  Option.bind (idx B D) fun y2=>
  Option.bind (nH y2.2.1 (if y2.2.1.2>H then y2.2.1.2 else H)) fun r3=>
  aP (β:=((aa×Bool×Unit) ⊕ (Bool×Bool×(List Int)×Bool×(List Int)×Unit))) (γ:=(Bool×(List ay)×Int×Int×(List UInt8)×(List UInt8)×Int×Int×Int×Bool×(List aD)×(List av)×(List ay)×Bool×(List Int)×Bool×(List Int)×Bool×(List Int)×Bool×(List Int)×Unit)) (
   bif y2.1 then
    Option.bind (pK (E,F,G,H,I,J,K,L,M) (P,Q) y2.2.1) fun r4=>
    some (Sum.inr (A,B,C,D,E,F,G,H,I,J,K,L,M,N,O,P,Q,R,S,r4.1.1,r4.1.2,()))
   else
    some (Sum.inr (A,B,C,D,E,F,G,H,I,J,K,L,M,N,O,P,Q,R,S,r3.1.1,r3.1.2,()))) fun v5=>
  Option.bind (aX (v5.2.2.2.2.2.2.2.2.2.2.2.2.2.2.2.2.2.1,v5.2.2.2.2.2.2.2.2.2.2.2.2.2.2.2.2.2.2.1) (v5.2.2.2.2.2.2.2.2.2.2.2.2.2.2.2.2.2.2.2.1,v5.2.2.2.2.2.2.2.2.2.2.2.2.2.2.2.2.2.2.2.2.1)) fun r6=>
  bif v5.1 then
   Option.bind (jr (v5.2.2.2.2.2.2.2.2.2.2.2.2.2.2.2.2.2.2.2.1,v5.2.2.2.2.2.2.2.2.2.2.2.2.2.2.2.2.2.2.2.2.1)) fun r7=>
   bif r7.1 then
    Option.bind (jr r6.1) fun r8=>
    again (r8.1,v5.2.1,v5.2.2.1,w64 (v5.2.2.2.1+1),v5.2.2.2.2.1,v5.2.2.2.2.2.1,v5.2.2.2.2.2.2.1,v5.2.2.2.2.2.2.2.1,v5.2.2.2.2.2.2.2.2.1,v5.2.2.2.2.2.2.2.2.2.1,v5.2.2.2.2.2.2.2.2.2.2.1,v5.2.2.2.2.2.2.2.2.2.2.2.1,v5.2.2.2.2.2.2.2.2.2.2.2.2.1,v5.2.2.2.2.2.2.2.2.2.2.2.2.2.1,v5.2.2.2.2.2.2.2.2.2.2.2.2.2.2.1,v5.2.2.2.2.2.2.2.2.2.2.2.2.2.2.2.1,v5.2.2.2.2.2.2.2.2.2.2.2.2.2.2.2.2.1,r6.1.1,r6.1.2,())
   else
    again (false,v5.2.1,v5.2.2.1,w64 (v5.2.2.2.1+1),v5.2.2.2.2.1,v5.2.2.2.2.2.1,v5.2.2.2.2.2.2.1,v5.2.2.2.2.2.2.2.1,v5.2.2.2.2.2.2.2.2.1,v5.2.2.2.2.2.2.2.2.2.1,v5.2.2.2.2.2.2.2.2.2.2.1,v5.2.2.2.2.2.2.2.2.2.2.2.1,v5.2.2.2.2.2.2.2.2.2.2.2.2.1,v5.2.2.2.2.2.2.2.2.2.2.2.2.2.1,v5.2.2.2.2.2.2.2.2.2.2.2.2.2.2.1,v5.2.2.2.2.2.2.2.2.2.2.2.2.2.2.2.1,v5.2.2.2.2.2.2.2.2.2.2.2.2.2.2.2.2.1,r6.1.1,r6.1.2,())
  else
   again (false,v5.2.1,v5.2.2.1,w64 (v5.2.2.2.1+1),v5.2.2.2.2.1,v5.2.2.2.2.2.1,v5.2.2.2.2.2.2.1,v5.2.2.2.2.2.2.2.1,v5.2.2.2.2.2.2.2.2.1,v5.2.2.2.2.2.2.2.2.2.1,v5.2.2.2.2.2.2.2.2.2.2.1,v5.2.2.2.2.2.2.2.2.2.2.2.1,v5.2.2.2.2.2.2.2.2.2.2.2.2.1,v5.2.2.2.2.2.2.2.2.2.2.2.2.2.1,v5.2.2.2.2.2.2.2.2.2.2.2.2.2.2.1,v5.2.2.2.2.2.2.2.2.2.2.2.2.2.2.2.1,v5.2.2.2.2.2.2.2.2.2.2.2.2.2.2.2.2.1,r6.1.1,r6.1.2,())
 else
  some (Sum.inr (A,N,O,R,S,()))
def Hl (a0:ai) (a1:av):Option (aa×Bool×Unit):=
 Option.bind (Db a0 a1) fun r1=>
 aP (β:=(aa×Bool×Unit)) (γ:=(Bool×Bool×(List Int)×Bool×(List Int)×Unit)) (
  iter (X:=xG) (β:=FM) (a1.2.2.2.2.2.2.2.1.length+(Int.natAbs ((a1.2.2.2.2.2.2.2.1.length:Int))+(Int.natAbs (0:Int)+(a0.1.length+(a0.2.1.length+(a0.2.2.1.natAbs+(a0.2.2.2.1.natAbs+(a0.2.2.2.2.1.natAbs+(a0.2.2.2.2.2.2.1.length+(a0.2.2.2.2.2.2.2.1.length+(a0.2.2.2.2.2.2.2.2.length+(List.length ([]:List Int)+(r1.1.2.length+(r1.1.2.length+2)))))))))))))) (r1.2.1,a1.2.2.2.2.2.2.2.1,(a1.2.2.2.2.2.2.2.1.length:Int),0,a0.1,a0.2.1,a0.2.2.1,a0.2.2.2.1,a0.2.2.2.2.1,a0.2.2.2.2.2.1,a0.2.2.2.2.2.2.1,a0.2.2.2.2.2.2.2.1,a0.2.2.2.2.2.2.2.2,false,[],r1.1.1,r1.1.2,r1.1.1,r1.1.2,()) (Bm)) fun v10=>
 some ((v10.2.2.2.1,v10.2.2.2.2.1),v10.1,())
end Go.Md
namespace Go.Md
open Go.Dn
abbrev mE:Ty:=(.st (.pair tI (.pair .str (.pair aQ aQ))))
abbrev bN:Type:=Int×(List UInt8)×ak×ak
def sw (a0:aa):Option (Bool×Unit):=
 Option.bind (jr a0) fun r1=>
 some (!r1.1,())
def uY (a0:aa):Option (Bool×Unit):=
 Option.bind (jr a0) fun r1=>
 some (!r1.1,())
def ya (a0:aa):Option (Bool×Unit):=
 Option.bind (jr a0) fun r1=>
 some (!r1.1,())
def tQ (a0:aa):Option (Bool×Unit):=
 Option.bind (jr a0) fun r1=>
 some (!r1.1,())
abbrev fP:Type:=(List aa)×Unit×Int×Int×Unit
abbrev lu:Type:=((Int×Unit) ⊕ Unit)
def fQ (x1:fP) (again:fP→Option lu):Option lu:=
 match x1 with
 | (A,B,C,D,_)=>
 bif decide (D<C) then
  Option.bind (idx A D) fun y2=>
  Option.bind (sw y2) fun r3=>
  bif r3.1 then
   some (Sum.inl (D,()))
  else
   again (A,B,C,w64 (D+1),())
 else
  some (Sum.inr ())
def nD (a0:List aa) (a1:Unit):Option (Int×Unit):=
 aP (β:=(Int×Unit)) (γ:=Unit) (
  iter (X:=fP) (β:=lu) (List.length a0+(Int.natAbs ((List.length a0:Int))+(Int.natAbs (0:Int)+2))) (a0,a1,(List.length a0:Int),0,()) (fQ)) fun _=>
 some ((-1),())
abbrev eM:Type:=(List aa)×Unit×Int×Int×Unit
abbrev kH:Type:=((Int×Unit) ⊕ Unit)
def eF (x1:eM) (again:eM→Option kH):Option kH:=
 match x1 with
 | (A,B,C,D,_)=>
 bif decide (D<C) then
  Option.bind (idx A D) fun y2=>
  Option.bind (uY y2) fun r3=>
  bif r3.1 then
   some (Sum.inl (D,()))
  else
   again (A,B,C,w64 (D+1),())
 else
  some (Sum.inr ())
def mj (a0:List aa) (a1:Unit):Option (Int×Unit):=
 aP (β:=(Int×Unit)) (γ:=Unit) (
  iter (X:=eM) (β:=kH) (List.length a0+(Int.natAbs ((List.length a0:Int))+(Int.natAbs (0:Int)+2))) (a0,a1,(List.length a0:Int),0,()) (eF)) fun _=>
 some ((-1),())
abbrev eP:Type:=(List aa)×Unit×Int×Int×Unit
abbrev kI:Type:=((Int×Unit) ⊕ Unit)
def eV (x1:eP) (again:eP→Option kI):Option kI:=
 match x1 with
 | (A,B,C,D,_)=>
 bif decide (D<C) then
  Option.bind (idx A D) fun y2=>
  Option.bind (ya y2) fun r3=>
  bif r3.1 then
   some (Sum.inl (D,()))
  else
   again (A,B,C,w64 (D+1),())
 else
  some (Sum.inr ())
def l7 (a0:List aa) (a1:Unit):Option (Int×Unit):=
 aP (β:=(Int×Unit)) (γ:=Unit) (
  iter (X:=eP) (β:=kI) (List.length a0+(Int.natAbs ((List.length a0:Int))+(Int.natAbs (0:Int)+2))) (a0,a1,(List.length a0:Int),0,()) (eV)) fun _=>
 some ((-1),())
abbrev eL:Type:=(List aa)×Unit×Int×Int×Unit
abbrev kF:Type:=((Int×Unit) ⊕ Unit)
def eU (x1:eL) (again:eL→Option kF):Option kF:=
 match x1 with
 | (A,B,C,D,_)=>
 bif decide (D<C) then
  Option.bind (idx A D) fun y2=>
  Option.bind (tQ y2) fun r3=>
  bif r3.1 then
   some (Sum.inl (D,()))
  else
   again (A,B,C,w64 (D+1),())
 else
  some (Sum.inr ())
def mb (a0:List aa) (a1:Unit):Option (Int×Unit):=
 aP (β:=(Int×Unit)) (γ:=Unit) (
  iter (X:=eL) (β:=kF) (List.length a0+(Int.natAbs ((List.length a0:Int))+(Int.natAbs (0:Int)+2))) (a0,a1,(List.length a0:Int),0,()) (eU)) fun _=>
 some ((-1),())
def iC (a0:List aa) (a1:Unit):Option (Bool×Unit):=
 Option.bind (nD a0 a1) fun r1=>
 some (decide (r1.1≥0),())
def bO (a0:List aa) (a1:Unit):Option (Bool×Unit):=
 Option.bind (mj a0 a1) fun r1=>
 some (decide (r1.1≥0),())
def gL (a0:List aa) (a1:Unit):Option (Bool×Unit):=
 Option.bind (l7 a0 a1) fun r1=>
 some (decide (r1.1≥0),())
def gM (a0:List aa) (a1:Unit):Option (Bool×Unit):=
 Option.bind (mb a0 a1) fun r1=>
 some (decide (r1.1≥0),())
noncomputable def mH (a0:List aa):Option ((List aa)×Unit):=
 bif List.isEmpty a0 then
  both (
   some ([],())) (
   chk (decide ((0+(List.length a0))*32≤140737488355328)&&decide (0+(List.length a0)≤maxLen)) <|
   some (a0,()))
 else
  chk (decide ((0+(List.length a0))*32≤140737488355328)&&decide (0+(List.length a0)≤maxLen)) <|
  some (a0,())
abbrev ir:Type:=(List av)×Int×Int×(List UInt8)×(List UInt8)×Int×Int×Int×Bool×(List aD)×(List av)×(List ay)×(List aa)×(List aC)×(List aa)×(List Bool)×(List aa)×(List aa)×(List aa)×Unit
abbrev rG:Type:=((Int×(ai×(List aa)×(List aa)×(List aa)×(List aC)×(List aa)×(List Bool)×(List aa)×Unit)×Unit) ⊕ ((List UInt8)×(List UInt8)×Int×Int×Int×Bool×(List aD)×(List av)×(List ay)×(List aa)×(List aC)×(List aa)×(List Bool)×(List aa)×(List aa)×(List aa)×Unit))
noncomputable def ke (x1:ir) (again:ir→Option rG):Option rG:=
 match x1 with
 | (A,B,C,D,E,F,G,H,I,J,K,L,M,N,O,P,Q,R,S,_)=>
 bif decide (C<B) then
  Option.bind (idx A C) fun y2=>
  Option.bind (Hl (D,E,F,G,H,I,J,K,L) y2) fun r3=>
  bif !r3.2.1 then
   some (Sum.inl (1,((D,E,F,G,H,I,J,K,L),M,O,Q,N,R,P,S,()),()))
  else
   Option.bind (qk J y2.2.2.2.2.2.2.2.2) fun r4=>
   chk (decide (((M.length)+1)*32≤140737488355328)&&decide ((M.length)+1≤maxLen)) <|
   chk (decide (0≤r4.1)&&decide (r4.1<(O.length:Int))) <|
   Option.bind (O[r4.1.toNat]?) fun y5=>
   Option.bind (aX y5 r3.1) fun r6=>
   chk (decide (0≤r4.1)&&decide (r4.1<(O.length:Int))) <|
   Option.bind (O[r4.1.toNat]?) fun _=>
   chk (decide (((N.length)+1)*40≤140737488355328)&&decide ((N.length)+1≤maxLen)) <|
   chk (decide (0≤r4.1)&&decide (r4.1<(P.length:Int))) <|
   Option.bind (P[r4.1.toNat]?) fun _=>
   again (A,B,w64 (C+1),D,E,F,G,H,I,J,K,L,M++[r3.1],N++[(r4.1,r3.1)],List.set O r4.1.toNat r6.1,List.set P r4.1.toNat true,Q,R,S,())
 else
  some (Sum.inr (D,E,F,G,H,I,J,K,L,M,N,O,P,Q,R,S,()))
noncomputable def m6 (a0:ai×(List aa)×(List aa)×(List aa)×(List aC)×(List aa)×(List Bool)×(List aa)×Unit):Option (Int×(ai×(List aa)×(List aa)×(List aa)×(List aC)×(List aa)×(List Bool)×(List aa)×Unit)×Unit):=
 chk (decide (0≤((a0.1.2.2.2.2.2.2.1.length:Int)))&&decide (((a0.1.2.2.2.2.2.2.1.length:Int))≤((a0.1.2.2.2.2.2.2.1.length:Int)))&&decide ((32:Int)*((a0.1.2.2.2.2.2.2.1.length:Int))≤281474976710656)&&decide (((a0.1.2.2.2.2.2.2.1.length:Int))≤9223372036854775807)) <|
 chk (decide (0≤((a0.1.2.2.2.2.2.2.1.length:Int)))&&decide (((a0.1.2.2.2.2.2.2.1.length:Int))≤((a0.1.2.2.2.2.2.2.1.length:Int)))&&decide ((1:Int)*((a0.1.2.2.2.2.2.2.1.length:Int))≤281474976710656)&&decide (((a0.1.2.2.2.2.2.2.1.length:Int))≤9223372036854775807)) <|
 aP (β:=(Int×(ai×(List aa)×(List aa)×(List aa)×(List aC)×(List aa)×(List Bool)×(List aa)×Unit)×Unit)) (γ:=((List UInt8)×(List UInt8)×Int×Int×Int×Bool×(List aD)×(List av)×(List ay)×(List aa)×(List aC)×(List aa)×(List Bool)×(List aa)×(List aa)×(List aa)×Unit)) (
  iter (X:=ir) (β:=rG) (a0.1.2.2.2.2.2.2.2.1.length+(Int.natAbs ((a0.1.2.2.2.2.2.2.2.1.length:Int))+(Int.natAbs (0:Int)+(a0.1.1.length+(a0.1.2.1.length+(a0.1.2.2.1.natAbs+(a0.1.2.2.2.1.natAbs+(a0.1.2.2.2.2.1.natAbs+(a0.1.2.2.2.2.2.2.1.length+(a0.1.2.2.2.2.2.2.2.1.length+(a0.1.2.2.2.2.2.2.2.2.length+(a0.2.1.length+(a0.2.2.2.2.1.length+(List.length ((List.replicate (Int.toNat ((a0.1.2.2.2.2.2.2.1.length:Int))) (false,[]):List (aa)):List aa)+(List.length ((List.replicate (Int.toNat ((a0.1.2.2.2.2.2.2.1.length:Int))) false:List (Bool)):List Bool)+(a0.2.2.2.1.length+(a0.2.2.2.2.2.1.length+(a0.2.2.2.2.2.2.2.1.length+2)))))))))))))))))) (a0.1.2.2.2.2.2.2.2.1,(a0.1.2.2.2.2.2.2.2.1.length:Int),0,a0.1.1,a0.1.2.1,a0.1.2.2.1,a0.1.2.2.2.1,a0.1.2.2.2.2.1,a0.1.2.2.2.2.2.1,a0.1.2.2.2.2.2.2.1,a0.1.2.2.2.2.2.2.2.1,a0.1.2.2.2.2.2.2.2.2,a0.2.1,a0.2.2.2.2.1,(List.replicate (Int.toNat ((a0.1.2.2.2.2.2.2.1.length:Int))) (false,[]):List (aa)),(List.replicate (Int.toNat ((a0.1.2.2.2.2.2.2.1.length:Int))) false:List (Bool)),a0.2.2.2.1,a0.2.2.2.2.2.1,a0.2.2.2.2.2.2.2.1,()) (ke)) fun v9=>
 Option.bind (iC v9.2.2.2.2.2.2.2.2.2.2.2.1 ()) fun r10=>
 bif r10.1 then
  some (1,((v9.1,v9.2.1,v9.2.2.1,v9.2.2.2.1,v9.2.2.2.2.1,v9.2.2.2.2.2.1,v9.2.2.2.2.2.2.1,v9.2.2.2.2.2.2.2.1,v9.2.2.2.2.2.2.2.2.1),v9.2.2.2.2.2.2.2.2.2.1,v9.2.2.2.2.2.2.2.2.2.2.2.1,v9.2.2.2.2.2.2.2.2.2.2.2.2.2.1,v9.2.2.2.2.2.2.2.2.2.2.1,v9.2.2.2.2.2.2.2.2.2.2.2.2.2.2.1,v9.2.2.2.2.2.2.2.2.2.2.2.2.1,v9.2.2.2.2.2.2.2.2.2.2.2.2.2.2.2.1,()),())
 else
  Option.bind (mH v9.2.2.2.2.2.2.2.2.2.2.2.1) fun r11=>
  some (0,((v9.1,v9.2.1,v9.2.2.1,v9.2.2.2.1,v9.2.2.2.2.1,v9.2.2.2.2.2.1,v9.2.2.2.2.2.2.1,v9.2.2.2.2.2.2.2.1,v9.2.2.2.2.2.2.2.2.1),v9.2.2.2.2.2.2.2.2.2.1,v9.2.2.2.2.2.2.2.2.2.2.2.1,r11.1,v9.2.2.2.2.2.2.2.2.2.2.1,v9.2.2.2.2.2.2.2.2.2.2.2.2.2.2.1,v9.2.2.2.2.2.2.2.2.2.2.2.2.1,v9.2.2.2.2.2.2.2.2.2.2.2.2.2.2.2.1,()),())
def fM (a0:ai×(List aa)×(List aa)×(List aa)×(List aC)×(List aa)×(List Bool)×(List aa)×Unit) (a1:Int) (a2:aa):Option ((ai×(List aa)×(List aa)×(List aa)×(List aC)×(List aa)×(List Bool)×(List aa)×Unit)×Unit):=
 chk (decide (0≤a1)&&decide (a1<(a0.2.2.2.1.length:Int))) <|
 Option.bind (a0.2.2.2.1[a1.toNat]?) fun y1=>
 Option.bind (aX y1 a2) fun r2=>
 chk (decide (0≤a1)&&decide (a1<(a0.2.2.2.1.length:Int))) <|
 Option.bind (a0.2.2.2.1[a1.toNat]?) fun _=>
 chk (decide (((a0.2.2.2.2.1.length)+1)*40≤140737488355328)&&decide ((a0.2.2.2.2.1.length)+1≤maxLen)) <|
 some ((a0.1,a0.2.1,a0.2.2.1,List.set a0.2.2.2.1 a1.toNat r2.1,a0.2.2.2.2.1++[(a1,a2)],a0.2.2.2.2.2.1,a0.2.2.2.2.2.2.1,a0.2.2.2.2.2.2.2.1,()),())
def xN (a0:aa):Option (aa×Unit):=
 Option.bind (iT false a0.2) fun r1=>
 some (r1.1,())
def tU (a0:Int):Option (Bool×Unit):=
 some (decide (a0>1000000000),())
abbrev iY:Type:=(List Int)×Unit×Int×Int×Unit
abbrev pg:Type:=((Int×Unit) ⊕ Unit)
def iX (x1:iY) (again:iY→Option pg):Option pg:=
 match x1 with
 | (A,B,C,D,_)=>
 bif decide (D<C) then
  Option.bind (idx A D) fun y2=>
  Option.bind (tU y2) fun r3=>
  bif r3.1 then
   some (Sum.inl (D,()))
  else
   again (A,B,C,w64 (D+1),())
 else
  some (Sum.inr ())
def sE (a0:List Int) (a1:Unit):Option (Int×Unit):=
 aP (β:=(Int×Unit)) (γ:=Unit) (
  iter (X:=iY) (β:=pg) (List.length a0+(Int.natAbs ((List.length a0:Int))+(Int.natAbs (0:Int)+2))) (a0,a1,(List.length a0:Int),0,()) (iX)) fun _=>
 some ((-1),())
def jb (a0:List Int) (a1:Unit):Option (Bool×Unit):=
 Option.bind (sE a0 a1) fun r1=>
 some (decide (r1.1≥0),())
abbrev mD:Type:=Int×(List Int)×Int×Int×Unit
abbrev qj:Type:=((Int×Unit) ⊕ (Int×Unit))
def mF (x1:mD) (again:mD→Option qj):Option qj:=
 bif decide (x1.2.2.2.1<x1.2.2.1) then
  Option.bind (idx x1.2.1 x1.2.2.2.1) fun y2=>
  Option.bind (cu y2 0 1000000000) fun r3=>
  bif r3.1 then
   some (Sum.inl (1,()))
  else
   again (w64 (x1.1+y2),x1.2.1,x1.2.2.1,w64 (x1.2.2.2.1+1),())
 else
  some (Sum.inr (x1.1,()))
def oZ (a0:List Int):Option (Int×Unit):=
 bif ((List.length a0:Int))==0 then
  some (9,())
 else
  bif decide (((List.length a0:Int))>1000) then
   some (2,())
  else
   aP (β:=(Int×Unit)) (γ:=(Int×Unit)) (
    iter (X:=mD) (β:=qj) (Int.natAbs (0:Int)+(List.length a0+(Int.natAbs ((List.length a0:Int))+(Int.natAbs (0:Int)+2)))) (0,a0,(List.length a0:Int),0,()) (mF)) fun v4=>
   bif v4.1==0 then
    some (13,())
   else
    some (0,())
def kN (a0:ah) (a1:ah):Option (Int×Unit):=
 Option.bind (kV a1.2.2 a0.2.2) fun r1=>
 some (r1.1,())
abbrev cW:Type:=Int×Int×Unit×Int×Int×(List ah)×Unit
abbrev cZ:Type:=((((List ah)×Unit) ⊕ ((List ah)×Unit)) ⊕ (Int×Int×Unit×Int×(List ah)×Unit))
def cU (x1:cW) (again:cW→Option cZ):Option cZ:=
 match x1 with
 | (A,B,C,D,E,F,_)=>
 bif decide (E>A) then
  chk (decide (0≤E)&&decide (E<(F.length:Int))) <|
  Option.bind (F[E.toNat]?) fun y2=>
  chk (decide (0≤(w64 (E - 1)))&&decide ((w64 (E - 1))<(F.length:Int))) <|
  Option.bind (F[(w64 (E - 1)).toNat]?) fun y3=>
  Option.bind (kN y2 y3) fun r4=>
  bif decide (r4.1<0) then
   chk (decide (0≤(w64 (E - 1)))&&decide ((w64 (E - 1))<(F.length:Int))) <|
   Option.bind (F[(w64 (E - 1)).toNat]?) fun y5=>
   chk (decide (0≤E)&&decide (E<(F.length:Int))) <|
   Option.bind (F[E.toNat]?) fun y6=>
   chk (decide (0≤E)&&decide (E<(F.length:Int))) <|
   Option.bind (F[E.toNat]?) fun _=>
   chk (decide (0≤(w64 (E - 1)))&&decide ((w64 (E - 1))<(List.length (List.set F E.toNat y5):Int))) <|
   Option.bind ((List.set F E.toNat y5)[(w64 (E - 1)).toNat]?) fun _=>
   again (A,B,C,D,w64 (E - 1),List.set (List.set F E.toNat y5) (w64 (E - 1)).toNat y6,())
  else
   some (Sum.inr (A,B,C,D,F,()))
 else
  some (Sum.inr (A,B,C,D,F,()))
abbrev cV:Type:=Int×Int×Unit×Int×(List ah)×Unit
abbrev c8:Type:=(((List ah)×Unit) ⊕ ((List ah)×Unit))
def b7 (x1:cV) (again:cV→Option c8):Option c8:=
 match x1 with
 | (A,B,C,D,E,_)=>
 bif decide (D<B) then
  aP (β:=(((List ah)×Unit) ⊕ ((List ah)×Unit))) (γ:=(Int×Int×Unit×Int×(List ah)×Unit)) (
   iter (X:=cW) (β:=cZ) (A.natAbs+(B.natAbs+(D.natAbs+(D.natAbs+(E.length+2))))) (A,B,C,D,D,E,()) (cU)) fun v2=>
  again (v2.1,v2.2.1,v2.2.2.1,w64 (v2.2.2.2.1+1),v2.2.2.2.2.1,())
 else
  some (Sum.inr (E,()))
def cy (a0:List ah) (a1:Int) (a2:Int) (a3:Unit):Option ((List ah)×Unit):=
 aP (β:=((List ah)×Unit)) (γ:=((List ah)×Unit)) (
  iter (X:=cV) (β:=c8) (Int.natAbs a1+(Int.natAbs a2+(Int.natAbs (w64 (a1+1))+(List.length a0+2)))) (a1,a2,a3,w64 (a1+1),a0,()) (b7)) fun v11=>
 some (v11.1,())
abbrev dU:Type:=Int×Int×Int×Int×(List ah)×Unit
abbrev dO:Type:=(((List ah)×Unit) ⊕ ((List ah)×Unit))
def dV (x1:dU) (again:dU→Option dO):Option dO:=
 match x1 with
 | (A,B,C,D,E,_)=>
 bif decide (D<C) then
  chk (decide (0≤(w64 (B+D)))&&decide ((w64 (B+D))<(E.length:Int))) <|
  Option.bind (E[(w64 (B+D)).toNat]?) fun y2=>
  chk (decide (0≤(w64 (A+D)))&&decide ((w64 (A+D))<(E.length:Int))) <|
  Option.bind (E[(w64 (A+D)).toNat]?) fun y3=>
  chk (decide (0≤(w64 (A+D)))&&decide ((w64 (A+D))<(E.length:Int))) <|
  Option.bind (E[(w64 (A+D)).toNat]?) fun _=>
  chk (decide (0≤(w64 (B+D)))&&decide ((w64 (B+D))<(List.length (List.set E (w64 (A+D)).toNat y2):Int))) <|
  Option.bind ((List.set E (w64 (A+D)).toNat y2)[(w64 (B+D)).toNat]?) fun _=>
  again (A,B,C,w64 (D+1),List.set (List.set E (w64 (A+D)).toNat y2) (w64 (B+D)).toNat y3,())
 else
  some (Sum.inr (E,()))
def cn (a0:List ah) (a1:Int) (a2:Int) (a3:Int) (_a4:Unit):Option ((List ah)×Unit):=
 aP (β:=((List ah)×Unit)) (γ:=((List ah)×Unit)) (
  iter (X:=dU) (β:=dO) (Int.natAbs a1+(Int.natAbs a2+(Int.natAbs a3+(Int.natAbs (0:Int)+(List.length a0+2))))) (a1,a2,a3,0,a0,()) (dV)) fun v6=>
 some (v6.1,())
abbrev eZ:Type:=Int×Unit×Int×Int×(List ah)×Unit
abbrev fy:Type:=(((List ah)×Unit) ⊕ (Int×Unit×Int×(List ah)×Unit))
def fo (x1:eZ) (again:eZ→Option fy):Option fy:=
 match x1 with
 | (A,B,C,D,E,_)=>
 bif C != D then
  bif decide (C>D) then
   Option.bind (cn E (w64 (A - C)) A D B) fun r2=>
   again (A,B,w64 (C - D),D,r2.1,())
  else
   Option.bind (cn E (w64 (A - C)) (w64 ((w64 (A+D)) - C)) C B) fun r3=>
   again (A,B,C,w64 (D - C),r3.1,())
 else
  some (Sum.inr (A,B,C,E,()))
def gw (a0:List ah) (a1:Int) (a2:Int) (a3:Int) (a4:Unit):Option ((List ah)×Unit):=
 aP (β:=((List ah)×Unit)) (γ:=(Int×Unit×Int×(List ah)×Unit)) (
  iter (X:=eZ) (β:=fy) (Int.natAbs a2+(Int.natAbs (w64 (a2 - a1))+(Int.natAbs (w64 (a3 - a2))+(List.length a0+2)))) (a2,a4,w64 (a2 - a1),w64 (a3 - a2),a0,()) (fo)) fun v4=>
 Option.bind (cn v4.2.2.2.1 (w64 (v4.1 - v4.2.2.1)) v4.1 v4.2.2.1 v4.2.1) fun r5=>
 some (r5.1,())
abbrev ez:Type:=Int×Unit×Int×Int×(List ah)×Unit
abbrev eC:Type:=(((List ah)×Unit) ⊕ (Int×Int×(List ah)×Unit))
def cJ (x1:ez) (again:ez→Option eC):Option eC:=
 match x1 with
 | (A,B,C,D,E,_)=>
 bif decide (C<D) then
  let n2:Int:=w64 (Int.fdiv (bP (w64 (C+D))) (2 ^ 1))
  chk (decide (0≤n2)&&decide (n2<(E.length:Int))) <|
  Option.bind (E[n2.toNat]?) fun y3=>
  chk (decide (0≤A)&&decide (A<(E.length:Int))) <|
  Option.bind (E[A.toNat]?) fun y4=>
  Option.bind (kN y3 y4) fun r5=>
  bif decide (r5.1<0) then
   again (A,B,w64 (n2+1),D,E,())
  else
   again (A,B,C,n2,E,())
 else
  some (Sum.inr (A,C,E,()))
abbrev eo:Type:=Int×Int×(List ah)×Unit
abbrev eA:Type:=(((List ah)×Unit) ⊕ ((List ah)×Unit))
def er (x1:eo) (again:eo→Option eA):Option eA:=
 match x1 with
 | (A,B,C,_)=>
 bif decide (B<(w64 (A - 1))) then
  chk (decide (0≤(w64 (B+1)))&&decide ((w64 (B+1))<(C.length:Int))) <|
  Option.bind (C[(w64 (B+1)).toNat]?) fun y2=>
  chk (decide (0≤B)&&decide (B<(C.length:Int))) <|
  Option.bind (C[B.toNat]?) fun y3=>
  chk (decide (0≤B)&&decide (B<(C.length:Int))) <|
  Option.bind (C[B.toNat]?) fun _=>
  chk (decide (0≤(w64 (B+1)))&&decide ((w64 (B+1))<(List.length (List.set C B.toNat y2):Int))) <|
  Option.bind ((List.set C B.toNat y2)[(w64 (B+1)).toNat]?) fun _=>
  again (A,w64 (B+1),List.set (List.set C B.toNat y2) (w64 (B+1)).toNat y3,())
 else
  some (Sum.inr (C,()))
abbrev dW:Type:=Int×Unit×Int×Int×(List ah)×Unit
abbrev dR:Type:=(((List ah)×Unit) ⊕ (Int×Int×(List ah)×Unit))
def cE (x1:dW) (again:dW→Option dR):Option dR:=
 match x1 with
 | (A,B,C,D,E,_)=>
 bif decide (C<D) then
  let n2:Int:=w64 (Int.fdiv (bP (w64 (C+D))) (2 ^ 1))
  chk (decide (0≤A)&&decide (A<(E.length:Int))) <|
  Option.bind (E[A.toNat]?) fun y3=>
  chk (decide (0≤n2)&&decide (n2<(E.length:Int))) <|
  Option.bind (E[n2.toNat]?) fun y4=>
  Option.bind (kN y3 y4) fun r5=>
  bif !(decide (r5.1<0)) then
   again (A,B,w64 (n2+1),D,E,())
  else
   again (A,B,C,n2,E,())
 else
  some (Sum.inr (A,C,E,()))
abbrev dS:Type:=Int×Int×(List ah)×Unit
abbrev dQ:Type:=(((List ah)×Unit) ⊕ ((List ah)×Unit))
def dN (x1:dS) (again:dS→Option dQ):Option dQ:=
 match x1 with
 | (A,B,C,_)=>
 bif decide (B>A) then
  chk (decide (0≤(w64 (B - 1)))&&decide ((w64 (B - 1))<(C.length:Int))) <|
  Option.bind (C[(w64 (B - 1)).toNat]?) fun y2=>
  chk (decide (0≤B)&&decide (B<(C.length:Int))) <|
  Option.bind (C[B.toNat]?) fun y3=>
  chk (decide (0≤B)&&decide (B<(C.length:Int))) <|
  Option.bind (C[B.toNat]?) fun _=>
  chk (decide (0≤(w64 (B - 1)))&&decide ((w64 (B - 1))<(List.length (List.set C B.toNat y2):Int))) <|
  Option.bind ((List.set C B.toNat y2)[(w64 (B - 1)).toNat]?) fun _=>
  again (A,w64 (B - 1),List.set (List.set C B.toNat y2) (w64 (B - 1)).toNat y3,())
 else
  some (Sum.inr (C,()))
abbrev dL:Type:=Int×Int×Int×Unit×Int×Int×Int×Int×Int×(List ah)×Unit
abbrev dP:Type:=(((List ah)×Unit) ⊕ (Int×Int×Int×Unit×Int×Int×Int×(List ah)×Unit))
def cA (x1:dL) (again:dL→Option dP):Option dP:=
 match x1 with
 | (A,B,C,D,E,F,G,H,I,J,_)=>
 bif decide (G<H) then
  let n2:Int:=w64 (Int.fdiv (bP (w64 (G+H))) (2 ^ 1))
  chk (decide (0≤(w64 (I - n2)))&&decide ((w64 (I - n2))<(J.length:Int))) <|
  Option.bind (J[(w64 (I - n2)).toNat]?) fun y3=>
  chk (decide (0≤n2)&&decide (n2<(J.length:Int))) <|
  Option.bind (J[n2.toNat]?) fun y4=>
  Option.bind (kN y3 y4) fun r5=>
  bif !(decide (r5.1<0)) then
   again (A,B,C,D,E,F,w64 (n2+1),H,I,J,())
  else
   again (A,B,C,D,E,F,G,n2,I,J,())
 else
  some (Sum.inr (A,B,C,D,E,F,G,J,()))
def bR (self:((List ah)×Int×Int×Int×Unit×Unit)→Option ((List ah)×Unit)) (a0:List ah) (a1:Int) (a2:Int) (a3:Int) (a4:Unit):Option ((List ah)×Unit):=
 bif (w64 (a2 - a1))==1 then
  aP (β:=((List ah)×Unit)) (γ:=(Int×Int×(List ah)×Unit)) (
   iter (X:=ez) (β:=eC) (Int.natAbs a1+(Int.natAbs a2+(Int.natAbs a3+(List.length a0+2)))) (a1,a4,a2,a3,a0,()) (cJ)) fun v6=>
  aP (β:=((List ah)×Unit)) (γ:=((List ah)×Unit)) (
   iter (X:=eo) (β:=eA) (v6.2.1.natAbs+(v6.1.natAbs+(v6.2.2.1.length+2))) (v6.2.1,v6.1,v6.2.2.1,()) (er)) fun v12=>
  some (v12.1,())
 else
  bif (w64 (a3 - a2))==1 then
   aP (β:=((List ah)×Unit)) (γ:=(Int×Int×(List ah)×Unit)) (
    iter (X:=dW) (β:=dR) (Int.natAbs a2+(Int.natAbs a1+(Int.natAbs a2+(List.length a0+2)))) (a2,a4,a1,a2,a0,()) (cE)) fun v18=>
   aP (β:=((List ah)×Unit)) (γ:=((List ah)×Unit)) (
    iter (X:=dS) (β:=dQ) (v18.2.1.natAbs+(v18.1.natAbs+(v18.2.2.1.length+2))) (v18.2.1,v18.1,v18.2.2.1,()) (dN)) fun v24=>
   some (v24.1,())
  else
   let n25:Int:=w64 (Int.fdiv (bP (w64 (a1+a3))) (2 ^ 1))
   aP (β:=((List ah)×Unit)) (γ:=(Int×Int×Int×Unit×Int×Int×Int×Int×(List ah)×Unit)) (
    bif decide (a2>n25) then
     some (Sum.inr (a1,a2,a3,a4,n25,w64 (n25+a2),w64 ((w64 (n25+a2)) - a3),n25,a0,()))
    else
     some (Sum.inr (a1,a2,a3,a4,n25,w64 (n25+a2),a1,a2,a0,()))) fun v26=>
   aP (β:=((List ah)×Unit)) (γ:=(Int×Int×Int×Unit×Int×Int×Int×(List ah)×Unit)) (
    iter (X:=dL) (β:=dP) (v26.1.natAbs+(v26.2.1.natAbs+(v26.2.2.1.natAbs+(v26.2.2.2.2.1.natAbs+(v26.2.2.2.2.2.1.natAbs+(v26.2.2.2.2.2.2.1.natAbs+(v26.2.2.2.2.2.2.2.1.natAbs+(Int.natAbs (w64 (v26.2.2.2.2.2.1 - 1))+(v26.2.2.2.2.2.2.2.2.1.length+2))))))))) (v26.1,v26.2.1,v26.2.2.1,v26.2.2.2.1,v26.2.2.2.2.1,v26.2.2.2.2.2.1,v26.2.2.2.2.2.2.1,v26.2.2.2.2.2.2.2.1,w64 (v26.2.2.2.2.2.1 - 1),v26.2.2.2.2.2.2.2.2.1,()) (cA)) fun v32=>
   bif decide (v32.2.2.2.2.2.2.1<v32.2.1) then
    aP (β:=((List ah)×Unit)) (γ:=(Int×Int×Unit×Int×Int×Int×(List ah)×Unit)) (
     bif decide (v32.2.1<(w64 (v32.2.2.2.2.2.1 - v32.2.2.2.2.2.2.1))) then
      Option.bind (gw v32.2.2.2.2.2.2.2.1 v32.2.2.2.2.2.2.1 v32.2.1 (w64 (v32.2.2.2.2.2.1 - v32.2.2.2.2.2.2.1)) v32.2.2.2.1) fun r33=>
      some (Sum.inr (v32.1,v32.2.2.1,v32.2.2.2.1,v32.2.2.2.2.1,v32.2.2.2.2.2.2.1,w64 (v32.2.2.2.2.2.1 - v32.2.2.2.2.2.2.1),r33.1,()))
     else
      some (Sum.inr (v32.1,v32.2.2.1,v32.2.2.2.1,v32.2.2.2.2.1,v32.2.2.2.2.2.2.1,w64 (v32.2.2.2.2.2.1 - v32.2.2.2.2.2.2.1),v32.2.2.2.2.2.2.2.1,()))) fun v34=>
    bif decide (v34.1<v34.2.2.2.2.1) then
     aP (β:=((List ah)×Unit)) (γ:=(Int×Unit×Int×Int×(List ah)×Unit)) (
      bif decide (v34.2.2.2.2.1<v34.2.2.2.1) then
       Option.bind (self (v34.2.2.2.2.2.2.1,v34.1,v34.2.2.2.2.1,v34.2.2.2.1,v34.2.2.1,())) fun r35=>
       some (Sum.inr (v34.2.1,v34.2.2.1,v34.2.2.2.1,v34.2.2.2.2.2.1,r35.1,()))
      else
       some (Sum.inr (v34.2.1,v34.2.2.1,v34.2.2.2.1,v34.2.2.2.2.2.1,v34.2.2.2.2.2.2.1,()))) fun v36=>
     bif decide (v36.2.2.1<v36.2.2.2.1) then
      bif decide (v36.2.2.2.1<v36.1) then
       Option.bind (self (v36.2.2.2.2.1,v36.2.2.1,v36.2.2.2.1,v36.1,v36.2.1,())) fun r37=>
       some (r37.1,())
      else
       some (v36.2.2.2.2.1,())
     else
      some (v36.2.2.2.2.1,())
    else
     aP (β:=((List ah)×Unit)) (γ:=(Int×Unit×Int×Int×(List ah)×Unit)) (
      some (Sum.inr (v34.2.1,v34.2.2.1,v34.2.2.2.1,v34.2.2.2.2.2.1,v34.2.2.2.2.2.2.1,()))) fun v38=>
     bif decide (v38.2.2.1<v38.2.2.2.1) then
      bif decide (v38.2.2.2.1<v38.1) then
       Option.bind (self (v38.2.2.2.2.1,v38.2.2.1,v38.2.2.2.1,v38.1,v38.2.1,())) fun r39=>
       some (r39.1,())
      else
       some (v38.2.2.2.2.1,())
     else
      some (v38.2.2.2.2.1,())
   else
    aP (β:=((List ah)×Unit)) (γ:=(Int×Int×Unit×Int×Int×Int×(List ah)×Unit)) (
     some (Sum.inr (v32.1,v32.2.2.1,v32.2.2.2.1,v32.2.2.2.2.1,v32.2.2.2.2.2.2.1,w64 (v32.2.2.2.2.2.1 - v32.2.2.2.2.2.2.1),v32.2.2.2.2.2.2.2.1,()))) fun v40=>
    bif decide (v40.1<v40.2.2.2.2.1) then
     aP (β:=((List ah)×Unit)) (γ:=(Int×Unit×Int×Int×(List ah)×Unit)) (
      bif decide (v40.2.2.2.2.1<v40.2.2.2.1) then
       Option.bind (self (v40.2.2.2.2.2.2.1,v40.1,v40.2.2.2.2.1,v40.2.2.2.1,v40.2.2.1,())) fun r41=>
       some (Sum.inr (v40.2.1,v40.2.2.1,v40.2.2.2.1,v40.2.2.2.2.2.1,r41.1,()))
      else
       some (Sum.inr (v40.2.1,v40.2.2.1,v40.2.2.2.1,v40.2.2.2.2.2.1,v40.2.2.2.2.2.2.1,()))) fun v42=>
     bif decide (v42.2.2.1<v42.2.2.2.1) then
      bif decide (v42.2.2.2.1<v42.1) then
       Option.bind (self (v42.2.2.2.2.1,v42.2.2.1,v42.2.2.2.1,v42.1,v42.2.1,())) fun r43=>
       some (r43.1,())
      else
       some (v42.2.2.2.2.1,())
     else
      some (v42.2.2.2.2.1,())
    else
     aP (β:=((List ah)×Unit)) (γ:=(Int×Unit×Int×Int×(List ah)×Unit)) (
      some (Sum.inr (v40.2.1,v40.2.2.1,v40.2.2.2.1,v40.2.2.2.2.2.1,v40.2.2.2.2.2.2.1,()))) fun v44=>
     bif decide (v44.2.2.1<v44.2.2.2.1) then
      bif decide (v44.2.2.2.1<v44.1) then
       Option.bind (self (v44.2.2.2.2.1,v44.2.2.1,v44.2.2.2.1,v44.1,v44.2.1,())) fun r45=>
       some (r45.1,())
      else
       some (v44.2.2.2.2.1,())
     else
      some (v44.2.2.2.2.1,())
def gF (a0:List ah) (a1:Int) (a2:Int) (a3:Int) (_a4:Unit):Nat:=List.length a0+(Int.natAbs a1+(Int.natAbs a2+(Int.natAbs a3+2)))
def dc (a0:List ah) (a1:Int) (a2:Int) (a3:Int) (a4:Unit):Option ((List ah)×Unit):=
 AV (fun self x=>bR self x.1 x.2.1 x.2.2.1 x.2.2.2.1 x.2.2.2.2.1) (gF a0 a1 a2 a3 a4) (a0,a1,a2,a3,a4,())
abbrev fG:Type:=Int×Unit×Int×Int×Int×(List ah)×Unit
abbrev fB:Type:=(((List ah)×Unit) ⊕ (Int×Unit×Int×Int×(List ah)×Unit))
def fA (x1:fG) (again:fG→Option fB):Option fB:=
 match x1 with
 | (A,B,C,D,E,F,_)=>
 bif decide (E≤A) then
  Option.bind (cy F D E B) fun r2=>
  again (A,B,C,E,w64 (E+C),r2.1,())
 else
  some (Sum.inr (A,B,C,D,F,()))
abbrev fH:Type:=Int×Unit×Int×Int×Int×(List ah)×Unit
abbrev fh:Type:=((((List ah)×Unit) ⊕ ((List ah)×Unit)) ⊕ (Int×Unit×Int×Int×(List ah)×Unit))
def fI (x1:fH) (again:fH→Option fh):Option fh:=
 match x1 with
 | (A,B,C,D,E,F,_)=>
 bif decide (E≤A) then
  Option.bind (dc F D (w64 (D+C)) E B) fun r2=>
  again (A,B,C,E,w64 (E+(w64 (2*C))),r2.1,())
 else
  some (Sum.inr (A,B,C,D,F,()))
abbrev fm:Type:=Int×Unit×Int×(List ah)×Unit
abbrev fJ:Type:=(((List ah)×Unit) ⊕ ((List ah)×Unit))
def fF (x1:fm) (again:fm→Option fJ):Option fJ:=
 match x1 with
 | (A,B,C,D,_)=>
 bif decide (C<A) then
  aP (β:=(((List ah)×Unit) ⊕ ((List ah)×Unit))) (γ:=(Int×Unit×Int×Int×(List ah)×Unit)) (
   iter (X:=fH) (β:=fh) (A.natAbs+(C.natAbs+(Int.natAbs (0:Int)+(Int.natAbs (w64 (2*C))+(D.length+2))))) (A,B,C,0,w64 (2*C),D,()) (fI)) fun v2=>
  bif decide ((w64 (v2.2.2.2.1+v2.2.2.1))<v2.1) then
   Option.bind (dc v2.2.2.2.2.1 v2.2.2.2.1 (w64 (v2.2.2.2.1+v2.2.2.1)) v2.1 v2.2.1) fun r3=>
   again (v2.1,v2.2.1,w64 (v2.2.2.1*2),r3.1,())
  else
   again (v2.1,v2.2.1,w64 (v2.2.2.1*2),v2.2.2.2.2.1,())
 else
  some (Sum.inr (D,()))
def jL (a0:List ah) (a1:Int) (a2:Unit):Option ((List ah)×Unit):=
 aP (β:=((List ah)×Unit)) (γ:=(Int×Unit×Int×Int×(List ah)×Unit)) (
  iter (X:=fG) (β:=fB) (Int.natAbs a1+(Int.natAbs (20:Int)+(Int.natAbs (0:Int)+(Int.natAbs (20:Int)+(List.length a0+2))))) (a1,a2,20,0,20,a0,()) (fA)) fun v3=>
 Option.bind (cy v3.2.2.2.2.1 v3.2.2.2.1 v3.1 v3.2.1) fun r4=>
 aP (β:=((List ah)×Unit)) (γ:=((List ah)×Unit)) (
  iter (X:=fm) (β:=fJ) (v3.1.natAbs+(v3.2.2.1.natAbs+(r4.1.length+2))) (v3.1,v3.2.1,v3.2.2.1,r4.1,()) (fF)) fun v10=>
 some (v10.1,())
def dz (a0:List ah) (a1:Unit):Option ((List ah)×Unit):=
 Option.bind (jL a0 ((List.length a0:Int)) a1) fun r1=>
 some (r1.1,())
abbrev sA:Type:=(List Int)×Int×(List Int)×Int×Int×Int×Int×Unit
abbrev yg:Type:=(((List ak)×Int×Unit) ⊕ ((List Int)×Int×Int×Int×Unit))
def sQ (x1:sA) (again:sA→Option yg):Option yg:=
 match x1 with
 | (A,B,C,D,E,F,G,_)=>
 bif decide (E<D) then
  Option.bind (idx C E) fun y2=>
  again (A,w64 (B+y2),C,D,w64 (E+1),F,G,())
 else
  some (Sum.inr (A,B,F,G,()))
abbrev qH:Type:=Int×Int×Int×(List ah)×(List Int)×Int×Int×Int×Int×Unit
abbrev wG:Type:=(((List ak)×Int×Unit) ⊕ (Int×(List ah)×Int×Int×Unit))
def qF (x1:qH) (again:qH→Option wG):Option wG:=
 match x1 with
 | (A,B,C,D,E,F,G,H,I,_)=>
 bif decide (G<F) then
  Option.bind (idx E G) fun y2=>
  Option.bind (bC B) fun r3=>
  Option.bind (bC y2) fun r4=>
  Option.bind (fe r3.1 r4.1) fun r5=>
  Option.bind (bC A) fun r6=>
  Option.bind (rq r5.1 r6.1) fun r7=>
  Option.bind (nF r7.1 1000000000000000) fun r8=>
  chk (decide (((D.length)+1)*48≤140737488355328)&&decide ((D.length)+1≤maxLen)) <|
  again (A,B,w64 (C - r8.1),D++[(G,r8.1,r7.2.1)],E,F,w64 (G+1),H,I,())
 else
  some (Sum.inr (C,D,H,I,()))
abbrev qN:Type:=Int×(List ah)×Int×Int×Int×Int×(List ak)×Unit
abbrev wZ:Type:=(((List ak)×Int×Unit) ⊕ ((List ak)×Unit))
def qP (x1:qN) (again:qN→Option wZ):Option wZ:=
 match x1 with
 | (A,B,C,D,E,F,G,_)=>
 bif decide (D<C) then
  chk (decide (0≤D)&&decide (D<(B.length:Int))) <|
  Option.bind (B[D.toNat]?) fun y2=>
  aP (β:=(((List ak)×Int×Unit) ⊕ ((List ak)×Unit))) (γ:=(Int×(List ah)×Int×Int×Int×Int×Int×Int×Bool×(List Int)×(List ak)×Unit)) (
   bif decide (D<A) then
    some (Sum.inr (A,B,C,D,E,F,y2.1,w64 (y2.2.1+1),y2.2.2.1,y2.2.2.2,G,()))
   else
    some (Sum.inr (A,B,C,D,E,F,y2.1,y2.2.1,y2.2.2.1,y2.2.2.2,G,()))) fun v3=>
  aP (β:=(((List ak)×Int×Unit) ⊕ ((List ak)×Unit))) (γ:=(Int×(List ah)×Int×Int×Int×Int×Int×Int×Bool×(List Int)×(List ak)×Unit)) (
   bif decide (v3.2.2.2.2.1<0) then
    some (Sum.inr (v3.1,v3.2.1,v3.2.2.1,v3.2.2.2.1,v3.2.2.2.2.1,v3.2.2.2.2.2.1,v3.2.2.2.2.2.2.1,w64 (0 - v3.2.2.2.2.2.2.2.1),v3.2.2.2.2.2.2.2.2.1,v3.2.2.2.2.2.2.2.2.2.1,v3.2.2.2.2.2.2.2.2.2.2.1,()))
   else
    some (Sum.inr (v3.1,v3.2.1,v3.2.2.1,v3.2.2.2.1,v3.2.2.2.2.1,v3.2.2.2.2.2.1,v3.2.2.2.2.2.2.1,v3.2.2.2.2.2.2.2.1,v3.2.2.2.2.2.2.2.2.1,v3.2.2.2.2.2.2.2.2.2.1,v3.2.2.2.2.2.2.2.2.2.2.1,()))) fun v4=>
  chk (decide (0≤v4.2.2.2.2.2.2.1)&&decide (v4.2.2.2.2.2.2.1<(v4.2.2.2.2.2.2.2.2.2.2.1.length:Int))) <|
  Option.bind (v4.2.2.2.2.2.2.2.2.2.2.1[v4.2.2.2.2.2.2.1.toNat]?) fun _=>
  again (v4.1,v4.2.1,v4.2.2.1,w64 (v4.2.2.2.1+1),v4.2.2.2.2.1,v4.2.2.2.2.2.1,List.set v4.2.2.2.2.2.2.2.2.2.2.1 v4.2.2.2.2.2.2.1.toNat (v4.2.2.2.2.2.2.2.1,v4.2.2.2.2.2.1),())
 else
  some (Sum.inr (G,()))
def s9 (a0:ak) (a1:List Int):Option ((List ak)×Int×Unit):=
 Option.bind (bU a0) fun r1=>
 bif r1.1 != 0 then
  some ([],r1.1,())
 else
  Option.bind (oZ a1) fun r2=>
  bif r2.1 != 0 then
   some ([],r2.1,())
  else
   aP (β:=((List ak)×Int×Unit)) (γ:=((List Int)×Int×Int×Int×Unit)) (
    iter (X:=sA) (β:=yg) (List.length a1+(Int.natAbs (0:Int)+(List.length a1+(Int.natAbs ((List.length a1:Int))+(Int.natAbs (0:Int)+(a0.1.natAbs+(a0.2.natAbs+2))))))) (a1,0,a1,(List.length a1:Int),0,a0.1,a0.2,()) (sQ)) fun v5=>
   aP (β:=((List ak)×Int×Unit)) (γ:=(Int×(List ah)×Int×Int×Unit)) (
    iter (X:=qH) (β:=wG) (v5.2.1.natAbs+(Int.natAbs (if (w64 (0 - v5.2.2.1))>v5.2.2.1 then (w64 (0 - v5.2.2.1)) else v5.2.2.1)+(Int.natAbs (if (w64 (0 - v5.2.2.1))>v5.2.2.1 then (w64 (0 - v5.2.2.1)) else v5.2.2.1)+(List.length ([]:List ah)+(v5.1.length+(Int.natAbs ((v5.1.length:Int))+(Int.natAbs (0:Int)+(v5.2.2.1.natAbs+(v5.2.2.2.1.natAbs+2))))))))) (v5.2.1,if (w64 (0 - v5.2.2.1))>v5.2.2.1 then (w64 (0 - v5.2.2.1)) else v5.2.2.1,if (w64 (0 - v5.2.2.1))>v5.2.2.1 then (w64 (0 - v5.2.2.1)) else v5.2.2.1,[],v5.1,(v5.1.length:Int),0,v5.2.2.1,v5.2.2.2.1,()) (qF)) fun v14=>
   Option.bind (dz v14.2.1 ()) fun r15=>
   chk (decide (0≤((r15.1.length:Int)))&&decide (((r15.1.length:Int))≤((r15.1.length:Int)))&&decide ((16:Int)*((r15.1.length:Int))≤281474976710656)&&decide (((r15.1.length:Int))≤9223372036854775807)) <|
   aP (β:=((List ak)×Int×Unit)) (γ:=((List ak)×Unit)) (
    iter (X:=qN) (β:=wZ) (v14.1.natAbs+(r15.1.length+(Int.natAbs ((r15.1.length:Int))+(Int.natAbs (0:Int)+(v14.2.2.1.natAbs+(v14.2.2.2.1.natAbs+(List.length ((List.replicate (Int.toNat ((r15.1.length:Int))) (0,0):List (ak)):List ak)+2))))))) (v14.1,r15.1,(r15.1.length:Int),0,v14.2.2.1,v14.2.2.2.1,(List.replicate (Int.toNat ((r15.1.length:Int))) (0,0):List (ak)),()) (qP)) fun v21=>
   some (v21.1,0,())
abbrev kQ:Type:=(List Int)×Bool×(List aa)×Int×Int×Bool×(List Int)×(List UInt8)×(List UInt8)×Int×Int×Int×Bool×(List aD)×(List av)×(List ay)×(List aa)×(List aa)×(List aa)×(List aC)×(List aa)×(List Bool)×(List aa)×Unit
abbrev sr:Type:=((Int×(ai×(List aa)×(List aa)×(List aa)×(List aC)×(List aa)×(List Bool)×(List aa)×Unit)×Unit) ⊕ ((List Int)×Bool×Bool×(List Int)×(List UInt8)×(List UInt8)×Int×Int×Int×Bool×(List aD)×(List av)×(List ay)×(List aa)×(List aa)×(List aa)×(List aC)×(List aa)×(List Bool)×(List aa)×Unit))
def nZ (x1:kQ) (again:kQ→Option sr):Option sr:=
 match x1 with
 | (A,B,C,D,E,F,G,H,I,J,K,L,M,N,O,P,Q,R,S,T,U,V,W,_)=>
 bif decide (E<D) then
  Option.bind (idx C E) fun y2=>
  Option.bind (xN y2) fun r3=>
  Option.bind (nF r3.1 1000000000000000) fun r4=>
  chk (decide (((A.length)+1)*8≤140737488355328)&&decide ((A.length)+1≤maxLen)) <|
  bif B then
   again (A++[r4.1],true,C,D,w64 (E+1),F,G,H,I,J,K,L,M,N,O,P,Q,R,S,T,U,V,W,())
  else
   again (A++[r4.1],decide (r4.1>0),C,D,w64 (E+1),F,G,H,I,J,K,L,M,N,O,P,Q,R,S,T,U,V,W,())
 else
  some (Sum.inr (A,B,F,G,H,I,J,K,L,M,N,O,P,Q,R,S,T,U,V,W,()))
abbrev iu:Type:=(List ak)×Int×Int×(List UInt8)×(List UInt8)×Int×Int×Int×Bool×(List aD)×(List av)×(List ay)×(List aa)×(List aa)×(List aa)×(List aC)×(List aa)×(List Bool)×(List aa)×Unit
abbrev nu:Type:=((Int×(ai×(List aa)×(List aa)×(List aa)×(List aC)×(List aa)×(List Bool)×(List aa)×Unit)×Unit) ⊕ ((List UInt8)×(List UInt8)×Int×Int×Int×Bool×(List aD)×(List av)×(List ay)×(List aa)×(List aa)×(List aa)×(List aC)×(List aa)×(List Bool)×(List aa)×Unit))
def ku (x1:iu) (again:iu→Option nu):Option nu:=
 match x1 with
 | (A,B,C,D,E,F,G,H,I,J,K,L,M,N,O,P,Q,R,S,_)=>
 bif decide (C<B) then
  Option.bind (idx A C) fun y2=>
  bif y2.1 != 0 then
   Option.bind (bC y2.1) fun r3=>
   Option.bind (fM ((D,E,F,G,H,I,J,K,L),M,N,O,P,Q,R,S,()) C r3.1) fun r4=>
   chk (decide (0≤C)&&decide (C<(r4.1.2.2.2.2.2.2.1.length:Int))) <|
   Option.bind (r4.1.2.2.2.2.2.2.1[C.toNat]?) fun _=>
   again (A,B,w64 (C+1),r4.1.1.1,r4.1.1.2.1,r4.1.1.2.2.1,r4.1.1.2.2.2.1,r4.1.1.2.2.2.2.1,r4.1.1.2.2.2.2.2.1,r4.1.1.2.2.2.2.2.2.1,r4.1.1.2.2.2.2.2.2.2.1,r4.1.1.2.2.2.2.2.2.2.2,r4.1.2.1,r4.1.2.2.1,r4.1.2.2.2.1,r4.1.2.2.2.2.1,r4.1.2.2.2.2.2.1,List.set r4.1.2.2.2.2.2.2.1 C.toNat true,r4.1.2.2.2.2.2.2.2.1,())
  else
   again (A,B,w64 (C+1),D,E,F,G,H,I,J,K,L,M,N,O,P,Q,R,S,())
 else
  some (Sum.inr (D,E,F,G,H,I,J,K,L,M,N,O,P,Q,R,S,()))
def gQ (a0:ai×(List aa)×(List aa)×(List aa)×(List aC)×(List aa)×(List Bool)×(List aa)×Unit) (a1:aa):Option (Int×(ai×(List aa)×(List aa)×(List aa)×(List aC)×(List aa)×(List Bool)×(List aa)×Unit)×Unit):=
 aP (β:=(Int×(ai×(List aa)×(List aa)×(List aa)×(List aC)×(List aa)×(List Bool)×(List aa)×Unit)×Unit)) (γ:=((List Int)×Bool×Bool×(List Int)×(List UInt8)×(List UInt8)×Int×Int×Int×Bool×(List aD)×(List av)×(List ay)×(List aa)×(List aa)×(List aa)×(List aC)×(List aa)×(List Bool)×(List aa)×Unit)) (
  iter (X:=kQ) (β:=sr) (List.length ([]:List Int)+(a0.2.2.1.length+(Int.natAbs ((a0.2.2.1.length:Int))+(Int.natAbs (0:Int)+(a1.2.length+(a0.1.1.length+(a0.1.2.1.length+(a0.1.2.2.1.natAbs+(a0.1.2.2.2.1.natAbs+(a0.1.2.2.2.2.1.natAbs+(a0.1.2.2.2.2.2.2.1.length+(a0.1.2.2.2.2.2.2.2.1.length+(a0.1.2.2.2.2.2.2.2.2.length+(a0.2.2.1.length+(a0.2.1.length+(a0.2.2.2.1.length+(a0.2.2.2.2.1.length+(a0.2.2.2.2.2.1.length+(a0.2.2.2.2.2.2.1.length+(a0.2.2.2.2.2.2.2.1.length+2)))))))))))))))))))) ([],false,a0.2.2.1,(a0.2.2.1.length:Int),0,a1.1,a1.2,a0.1.1,a0.1.2.1,a0.1.2.2.1,a0.1.2.2.2.1,a0.1.2.2.2.2.1,a0.1.2.2.2.2.2.1,a0.1.2.2.2.2.2.2.1,a0.1.2.2.2.2.2.2.2.1,a0.1.2.2.2.2.2.2.2.2,a0.2.2.1,a0.2.1,a0.2.2.2.1,a0.2.2.2.2.1,a0.2.2.2.2.2.1,a0.2.2.2.2.2.2.1,a0.2.2.2.2.2.2.2.1,()) (nZ)) fun v5=>
 bif !v5.2.1 then
  Option.bind (fM ((v5.2.2.2.2.1,v5.2.2.2.2.2.1,v5.2.2.2.2.2.2.1,v5.2.2.2.2.2.2.2.1,v5.2.2.2.2.2.2.2.2.1,v5.2.2.2.2.2.2.2.2.2.1,v5.2.2.2.2.2.2.2.2.2.2.1,v5.2.2.2.2.2.2.2.2.2.2.2.1,v5.2.2.2.2.2.2.2.2.2.2.2.2.1),v5.2.2.2.2.2.2.2.2.2.2.2.2.2.2.1,v5.2.2.2.2.2.2.2.2.2.2.2.2.2.1,v5.2.2.2.2.2.2.2.2.2.2.2.2.2.2.2.1,v5.2.2.2.2.2.2.2.2.2.2.2.2.2.2.2.2.1,v5.2.2.2.2.2.2.2.2.2.2.2.2.2.2.2.2.2.1,v5.2.2.2.2.2.2.2.2.2.2.2.2.2.2.2.2.2.2.1,v5.2.2.2.2.2.2.2.2.2.2.2.2.2.2.2.2.2.2.2.1,()) 0 (v5.2.2.1,v5.2.2.2.1)) fun r6=>
  chk (decide (0≤(0:Int))&&decide ((0:Int)<(r6.1.2.2.2.2.2.2.1.length:Int))) <|
  Option.bind (r6.1.2.2.2.2.2.2.1[0]?) fun y7=>
  bif y7 then
   chk (decide (0≤(0:Int))&&decide ((0:Int)<(r6.1.2.2.2.2.2.2.1.length:Int))) <|
   Option.bind (r6.1.2.2.2.2.2.2.1[0]?) fun _=>
   some (0,(r6.1.1,r6.1.2.1,r6.1.2.2.1,r6.1.2.2.2.1,r6.1.2.2.2.2.1,r6.1.2.2.2.2.2.1,List.set r6.1.2.2.2.2.2.2.1 0 true,r6.1.2.2.2.2.2.2.2.1,()),())
  else
   Option.bind (aB (v5.2.2.1,v5.2.2.2.1)) fun r9=>
   chk (decide (0≤(0:Int))&&decide ((0:Int)<(r6.1.2.2.2.2.2.2.1.length:Int))) <|
   Option.bind (r6.1.2.2.2.2.2.2.1[0]?) fun _=>
   some (0,(r6.1.1,r6.1.2.1,r6.1.2.2.1,r6.1.2.2.2.1,r6.1.2.2.2.2.1,r6.1.2.2.2.2.2.1,List.set r6.1.2.2.2.2.2.2.1 0 (r9.1 != 0),r6.1.2.2.2.2.2.2.2.1,()),())
 else
  Option.bind (jb v5.1 ()) fun r11=>
  bif r11.1 then
   some (2,((v5.2.2.2.2.1,v5.2.2.2.2.2.1,v5.2.2.2.2.2.2.1,v5.2.2.2.2.2.2.2.1,v5.2.2.2.2.2.2.2.2.1,v5.2.2.2.2.2.2.2.2.2.1,v5.2.2.2.2.2.2.2.2.2.2.1,v5.2.2.2.2.2.2.2.2.2.2.2.1,v5.2.2.2.2.2.2.2.2.2.2.2.2.1),v5.2.2.2.2.2.2.2.2.2.2.2.2.2.2.1,v5.2.2.2.2.2.2.2.2.2.2.2.2.2.1,v5.2.2.2.2.2.2.2.2.2.2.2.2.2.2.2.1,v5.2.2.2.2.2.2.2.2.2.2.2.2.2.2.2.2.1,v5.2.2.2.2.2.2.2.2.2.2.2.2.2.2.2.2.2.1,v5.2.2.2.2.2.2.2.2.2.2.2.2.2.2.2.2.2.2.1,v5.2.2.2.2.2.2.2.2.2.2.2.2.2.2.2.2.2.2.2.1,()),())
  else
   Option.bind (qs (v5.2.2.1,v5.2.2.2.1) v5.2.2.2.2.2.2.2.1) fun r12=>
   Option.bind (s9 r12.1 v5.1) fun r13=>
   bif r13.2.1 != 0 then
    some (r13.2.1,((v5.2.2.2.2.1,v5.2.2.2.2.2.1,v5.2.2.2.2.2.2.1,v5.2.2.2.2.2.2.2.1,v5.2.2.2.2.2.2.2.2.1,v5.2.2.2.2.2.2.2.2.2.1,v5.2.2.2.2.2.2.2.2.2.2.1,v5.2.2.2.2.2.2.2.2.2.2.2.1,v5.2.2.2.2.2.2.2.2.2.2.2.2.1),v5.2.2.2.2.2.2.2.2.2.2.2.2.2.2.1,v5.2.2.2.2.2.2.2.2.2.2.2.2.2.1,v5.2.2.2.2.2.2.2.2.2.2.2.2.2.2.2.1,v5.2.2.2.2.2.2.2.2.2.2.2.2.2.2.2.2.1,v5.2.2.2.2.2.2.2.2.2.2.2.2.2.2.2.2.2.1,v5.2.2.2.2.2.2.2.2.2.2.2.2.2.2.2.2.2.2.1,v5.2.2.2.2.2.2.2.2.2.2.2.2.2.2.2.2.2.2.2.1,()),())
   else
    aP (β:=(Int×(ai×(List aa)×(List aa)×(List aa)×(List aC)×(List aa)×(List Bool)×(List aa)×Unit)×Unit)) (γ:=((List UInt8)×(List UInt8)×Int×Int×Int×Bool×(List aD)×(List av)×(List ay)×(List aa)×(List aa)×(List aa)×(List aC)×(List aa)×(List Bool)×(List aa)×Unit)) (
     iter (X:=iu) (β:=nu) (r13.1.length+(Int.natAbs ((r13.1.length:Int))+(Int.natAbs (0:Int)+(v5.2.2.2.2.1.length+(v5.2.2.2.2.2.1.length+(v5.2.2.2.2.2.2.1.natAbs+(v5.2.2.2.2.2.2.2.1.natAbs+(v5.2.2.2.2.2.2.2.2.1.natAbs+(v5.2.2.2.2.2.2.2.2.2.2.1.length+(v5.2.2.2.2.2.2.2.2.2.2.2.1.length+(v5.2.2.2.2.2.2.2.2.2.2.2.2.1.length+(v5.2.2.2.2.2.2.2.2.2.2.2.2.2.2.1.length+(v5.2.2.2.2.2.2.2.2.2.2.2.2.2.1.length+(v5.2.2.2.2.2.2.2.2.2.2.2.2.2.2.2.1.length+(v5.2.2.2.2.2.2.2.2.2.2.2.2.2.2.2.2.1.length+(v5.2.2.2.2.2.2.2.2.2.2.2.2.2.2.2.2.2.1.length+(v5.2.2.2.2.2.2.2.2.2.2.2.2.2.2.2.2.2.2.1.length+(v5.2.2.2.2.2.2.2.2.2.2.2.2.2.2.2.2.2.2.2.1.length+2)))))))))))))))))) (r13.1,(r13.1.length:Int),0,v5.2.2.2.2.1,v5.2.2.2.2.2.1,v5.2.2.2.2.2.2.1,v5.2.2.2.2.2.2.2.1,v5.2.2.2.2.2.2.2.2.1,v5.2.2.2.2.2.2.2.2.2.1,v5.2.2.2.2.2.2.2.2.2.2.1,v5.2.2.2.2.2.2.2.2.2.2.2.1,v5.2.2.2.2.2.2.2.2.2.2.2.2.1,v5.2.2.2.2.2.2.2.2.2.2.2.2.2.2.1,v5.2.2.2.2.2.2.2.2.2.2.2.2.2.1,v5.2.2.2.2.2.2.2.2.2.2.2.2.2.2.2.1,v5.2.2.2.2.2.2.2.2.2.2.2.2.2.2.2.2.1,v5.2.2.2.2.2.2.2.2.2.2.2.2.2.2.2.2.2.1,v5.2.2.2.2.2.2.2.2.2.2.2.2.2.2.2.2.2.2.1,v5.2.2.2.2.2.2.2.2.2.2.2.2.2.2.2.2.2.2.2.1,()) (ku)) fun v19=>
    some (0,((v19.1,v19.2.1,v19.2.2.1,v19.2.2.2.1,v19.2.2.2.2.1,v19.2.2.2.2.2.1,v19.2.2.2.2.2.2.1,v19.2.2.2.2.2.2.2.1,v19.2.2.2.2.2.2.2.2.1),v19.2.2.2.2.2.2.2.2.2.1,v19.2.2.2.2.2.2.2.2.2.2.1,v19.2.2.2.2.2.2.2.2.2.2.2.1,v19.2.2.2.2.2.2.2.2.2.2.2.2.1,v19.2.2.2.2.2.2.2.2.2.2.2.2.2.1,v19.2.2.2.2.2.2.2.2.2.2.2.2.2.2.1,v19.2.2.2.2.2.2.2.2.2.2.2.2.2.2.2.1,()),())
abbrev lM:Type:=Int×Bool×(List aa)×Int×Int×Bool×Int×Int×(List UInt8)×Bool×(List Int)×(List UInt8)×(List UInt8)×Int×Int×Int×Bool×(List aD)×(List av)×(List ay)×(List aa)×(List aa)×(List aa)×(List aC)×(List aa)×(List Bool)×(List aa)×Unit
abbrev tJ:Type:=(((Int×(ai×(List aa)×(List aa)×(List aa)×(List aC)×(List aa)×(List Bool)×(List aa)×Unit)×Unit) ⊕ (Int×Bool×Bool×Int×Int×(List UInt8)×Bool×(List Int)×(List UInt8)×(List UInt8)×Int×Int×Int×Bool×(List aD)×(List av)×(List ay)×(List aa)×(List aa)×(List aa)×(List aC)×(List aa)×(List Bool)×(List aa)×Unit)) ⊕ (Int×Bool×Bool×Int×Int×(List UInt8)×Bool×(List Int)×(List UInt8)×(List UInt8)×Int×Int×Int×Bool×(List aD)×(List av)×(List ay)×(List aa)×(List aa)×(List aa)×(List aC)×(List aa)×(List Bool)×(List aa)×Unit))
def oW (x1:lM) (again:lM→Option tJ):Option tJ:=
 match x1 with
 | (A,B,C,D,E,F,G,H,I,J,K,L,M,N,O,P,Q,R,S,T,U,V,W,X,Y,Z,A0,_)=>
 bif decide (E<D) then
  Option.bind (idx C E) fun y2=>
  Option.bind (aX (J,K) y2) fun r3=>
  again (A,B,C,D,w64 (E+1),F,G,H,I,r3.1.1,r3.1.2,L,M,N,O,P,Q,R,S,T,U,V,W,X,Y,Z,A0,())
 else
  some (Sum.inr (A,B,F,G,H,I,J,K,L,M,N,O,P,Q,R,S,T,U,V,W,X,Y,Z,A0,()))
def mm (a0:ai×(List aa)×(List aa)×(List aa)×(List aC)×(List aa)×(List Bool)×(List aa)×Unit) (a1:ay):Option (Int×(ai×(List aa)×(List aa)×(List aa)×(List aC)×(List aa)×(List Bool)×(List aa)×Unit)×Unit):=
 Option.bind (bC 0) fun r1=>
 Option.bind (qk a0.1.2.2.2.2.2.2.1 a1.2.2) fun r2=>
 aP (β:=(Int×(ai×(List aa)×(List aa)×(List aa)×(List aC)×(List aa)×(List Bool)×(List aa)×Unit)×Unit)) (γ:=(Int×Bool×Bool×Int×Int×(List UInt8)×Bool×(List Int)×(List UInt8)×(List UInt8)×Int×Int×Int×Bool×(List aD)×(List av)×(List ay)×(List aa)×(List aa)×(List aa)×(List aC)×(List aa)×(List Bool)×(List aa)×Unit)) (
  bif r2.2.1 then
   Option.bind (idx a0.2.2.1 r2.1) fun y3=>
   some (Sum.inr (r2.1,r2.2.1,a1.1,a1.2.1.1,a1.2.1.2,a1.2.2,y3.1,y3.2,a0.1.1,a0.1.2.1,a0.1.2.2.1,a0.1.2.2.2.1,a0.1.2.2.2.2.1,a0.1.2.2.2.2.2.1,a0.1.2.2.2.2.2.2.1,a0.1.2.2.2.2.2.2.2.1,a0.1.2.2.2.2.2.2.2.2,a0.2.2.1,a0.2.1,a0.2.2.2.1,a0.2.2.2.2.1,a0.2.2.2.2.2.1,a0.2.2.2.2.2.2.1,a0.2.2.2.2.2.2.2.1,()))
  else
   aP (β:=((Int×(ai×(List aa)×(List aa)×(List aa)×(List aC)×(List aa)×(List Bool)×(List aa)×Unit)×Unit) ⊕ (Int×Bool×Bool×Int×Int×(List UInt8)×Bool×(List Int)×(List UInt8)×(List UInt8)×Int×Int×Int×Bool×(List aD)×(List av)×(List ay)×(List aa)×(List aa)×(List aa)×(List aC)×(List aa)×(List Bool)×(List aa)×Unit))) (γ:=(Int×Bool×Bool×Int×Int×(List UInt8)×Bool×(List Int)×(List UInt8)×(List UInt8)×Int×Int×Int×Bool×(List aD)×(List av)×(List ay)×(List aa)×(List aa)×(List aa)×(List aC)×(List aa)×(List Bool)×(List aa)×Unit)) (
    iter (X:=lM) (β:=tJ) (r2.1.natAbs+(a0.2.2.1.length+(Int.natAbs ((a0.2.2.1.length:Int))+(Int.natAbs (0:Int)+(a1.2.1.1.natAbs+(a1.2.1.2.natAbs+(a1.2.2.length+(r1.1.2.length+(a0.1.1.length+(a0.1.2.1.length+(a0.1.2.2.1.natAbs+(a0.1.2.2.2.1.natAbs+(a0.1.2.2.2.2.1.natAbs+(a0.1.2.2.2.2.2.2.1.length+(a0.1.2.2.2.2.2.2.2.1.length+(a0.1.2.2.2.2.2.2.2.2.length+(a0.2.2.1.length+(a0.2.1.length+(a0.2.2.2.1.length+(a0.2.2.2.2.1.length+(a0.2.2.2.2.2.1.length+(a0.2.2.2.2.2.2.1.length+(a0.2.2.2.2.2.2.2.1.length+2))))))))))))))))))))))) (r2.1,r2.2.1,a0.2.2.1,(a0.2.2.1.length:Int),0,a1.1,a1.2.1.1,a1.2.1.2,a1.2.2,r1.1.1,r1.1.2,a0.1.1,a0.1.2.1,a0.1.2.2.1,a0.1.2.2.2.1,a0.1.2.2.2.2.1,a0.1.2.2.2.2.2.1,a0.1.2.2.2.2.2.2.1,a0.1.2.2.2.2.2.2.2.1,a0.1.2.2.2.2.2.2.2.2,a0.2.2.1,a0.2.1,a0.2.2.2.1,a0.2.2.2.2.1,a0.2.2.2.2.2.1,a0.2.2.2.2.2.2.1,a0.2.2.2.2.2.2.2.1,()) (oW)) fun v7=>
   some (Sum.inr (v7.1,v7.2.1,v7.2.2.1,v7.2.2.2.1,v7.2.2.2.2.1,v7.2.2.2.2.2.1,v7.2.2.2.2.2.2.1,v7.2.2.2.2.2.2.2.1,v7.2.2.2.2.2.2.2.2.1,v7.2.2.2.2.2.2.2.2.2.1,v7.2.2.2.2.2.2.2.2.2.2.1,v7.2.2.2.2.2.2.2.2.2.2.2.1,v7.2.2.2.2.2.2.2.2.2.2.2.2.1,v7.2.2.2.2.2.2.2.2.2.2.2.2.2.1,v7.2.2.2.2.2.2.2.2.2.2.2.2.2.2.1,v7.2.2.2.2.2.2.2.2.2.2.2.2.2.2.2.1,v7.2.2.2.2.2.2.2.2.2.2.2.2.2.2.2.2.1,v7.2.2.2.2.2.2.2.2.2.2.2.2.2.2.2.2.2.1,v7.2.2.2.2.2.2.2.2.2.2.2.2.2.2.2.2.2.2.1,v7.2.2.2.2.2.2.2.2.2.2.2.2.2.2.2.2.2.2.2.1,v7.2.2.2.2.2.2.2.2.2.2.2.2.2.2.2.2.2.2.2.2.1,v7.2.2.2.2.2.2.2.2.2.2.2.2.2.2.2.2.2.2.2.2.2.1,v7.2.2.2.2.2.2.2.2.2.2.2.2.2.2.2.2.2.2.2.2.2.2.1,v7.2.2.2.2.2.2.2.2.2.2.2.2.2.2.2.2.2.2.2.2.2.2.2.1,()))) fun v8=>
 Option.bind (nH (v8.2.2.2.1,v8.2.2.2.2.1) (if v8.2.2.2.2.1>v8.2.2.2.2.2.2.2.2.2.2.2.1 then v8.2.2.2.2.1 else v8.2.2.2.2.2.2.2.2.2.2.2.1)) fun r9=>
 aP (β:=(Int×(ai×(List aa)×(List aa)×(List aa)×(List aC)×(List aa)×(List Bool)×(List aa)×Unit)×Unit)) (γ:=(Int×Bool×Bool×(List Int)×(List UInt8)×(List UInt8)×Int×Int×Int×Bool×(List aD)×(List av)×(List ay)×(List aa)×(List aa)×(List aa)×(List aC)×(List aa)×(List Bool)×(List aa)×Unit)) (
  bif v8.2.2.1 then
   Option.bind (pK (v8.2.2.2.2.2.2.2.2.1,v8.2.2.2.2.2.2.2.2.2.1,v8.2.2.2.2.2.2.2.2.2.2.1,v8.2.2.2.2.2.2.2.2.2.2.2.1,v8.2.2.2.2.2.2.2.2.2.2.2.2.1,v8.2.2.2.2.2.2.2.2.2.2.2.2.2.1,v8.2.2.2.2.2.2.2.2.2.2.2.2.2.2.1,v8.2.2.2.2.2.2.2.2.2.2.2.2.2.2.2.1,v8.2.2.2.2.2.2.2.2.2.2.2.2.2.2.2.2.1) (v8.2.2.2.2.2.2.1,v8.2.2.2.2.2.2.2.1) (v8.2.2.2.1,v8.2.2.2.2.1)) fun r10=>
   some (Sum.inr (v8.1,v8.2.1,r10.1.1,r10.1.2,v8.2.2.2.2.2.2.2.2.1,v8.2.2.2.2.2.2.2.2.2.1,v8.2.2.2.2.2.2.2.2.2.2.1,v8.2.2.2.2.2.2.2.2.2.2.2.1,v8.2.2.2.2.2.2.2.2.2.2.2.2.1,v8.2.2.2.2.2.2.2.2.2.2.2.2.2.1,v8.2.2.2.2.2.2.2.2.2.2.2.2.2.2.1,v8.2.2.2.2.2.2.2.2.2.2.2.2.2.2.2.1,v8.2.2.2.2.2.2.2.2.2.2.2.2.2.2.2.2.1,v8.2.2.2.2.2.2.2.2.2.2.2.2.2.2.2.2.2.1,v8.2.2.2.2.2.2.2.2.2.2.2.2.2.2.2.2.2.2.1,v8.2.2.2.2.2.2.2.2.2.2.2.2.2.2.2.2.2.2.2.1,v8.2.2.2.2.2.2.2.2.2.2.2.2.2.2.2.2.2.2.2.2.1,v8.2.2.2.2.2.2.2.2.2.2.2.2.2.2.2.2.2.2.2.2.2.1,v8.2.2.2.2.2.2.2.2.2.2.2.2.2.2.2.2.2.2.2.2.2.2.1,v8.2.2.2.2.2.2.2.2.2.2.2.2.2.2.2.2.2.2.2.2.2.2.2.1,()))
  else
   some (Sum.inr (v8.1,v8.2.1,r9.1.1,r9.1.2,v8.2.2.2.2.2.2.2.2.1,v8.2.2.2.2.2.2.2.2.2.1,v8.2.2.2.2.2.2.2.2.2.2.1,v8.2.2.2.2.2.2.2.2.2.2.2.1,v8.2.2.2.2.2.2.2.2.2.2.2.2.1,v8.2.2.2.2.2.2.2.2.2.2.2.2.2.1,v8.2.2.2.2.2.2.2.2.2.2.2.2.2.2.1,v8.2.2.2.2.2.2.2.2.2.2.2.2.2.2.2.1,v8.2.2.2.2.2.2.2.2.2.2.2.2.2.2.2.2.1,v8.2.2.2.2.2.2.2.2.2.2.2.2.2.2.2.2.2.1,v8.2.2.2.2.2.2.2.2.2.2.2.2.2.2.2.2.2.2.1,v8.2.2.2.2.2.2.2.2.2.2.2.2.2.2.2.2.2.2.2.1,v8.2.2.2.2.2.2.2.2.2.2.2.2.2.2.2.2.2.2.2.2.1,v8.2.2.2.2.2.2.2.2.2.2.2.2.2.2.2.2.2.2.2.2.2.1,v8.2.2.2.2.2.2.2.2.2.2.2.2.2.2.2.2.2.2.2.2.2.2.1,v8.2.2.2.2.2.2.2.2.2.2.2.2.2.2.2.2.2.2.2.2.2.2.2.1,()))) fun v11=>
 Option.bind (jr (v11.2.2.1,v11.2.2.2.1)) fun r12=>
 bif !r12.1 then
  some (1,((v11.2.2.2.2.1,v11.2.2.2.2.2.1,v11.2.2.2.2.2.2.1,v11.2.2.2.2.2.2.2.1,v11.2.2.2.2.2.2.2.2.1,v11.2.2.2.2.2.2.2.2.2.1,v11.2.2.2.2.2.2.2.2.2.2.1,v11.2.2.2.2.2.2.2.2.2.2.2.1,v11.2.2.2.2.2.2.2.2.2.2.2.2.1),v11.2.2.2.2.2.2.2.2.2.2.2.2.2.2.1,v11.2.2.2.2.2.2.2.2.2.2.2.2.2.1,v11.2.2.2.2.2.2.2.2.2.2.2.2.2.2.2.1,v11.2.2.2.2.2.2.2.2.2.2.2.2.2.2.2.2.1,v11.2.2.2.2.2.2.2.2.2.2.2.2.2.2.2.2.2.1,v11.2.2.2.2.2.2.2.2.2.2.2.2.2.2.2.2.2.2.1,v11.2.2.2.2.2.2.2.2.2.2.2.2.2.2.2.2.2.2.2.1,()),())
 else
  chk (decide (((v11.2.2.2.2.2.2.2.2.2.2.2.2.2.2.2.2.2.1.length)+1)*32≤140737488355328)&&decide ((v11.2.2.2.2.2.2.2.2.2.2.2.2.2.2.2.2.2.1.length)+1≤maxLen)) <|
  bif v11.2.1 then
   Option.bind (fM ((v11.2.2.2.2.1,v11.2.2.2.2.2.1,v11.2.2.2.2.2.2.1,v11.2.2.2.2.2.2.2.1,v11.2.2.2.2.2.2.2.2.1,v11.2.2.2.2.2.2.2.2.2.1,v11.2.2.2.2.2.2.2.2.2.2.1,v11.2.2.2.2.2.2.2.2.2.2.2.1,v11.2.2.2.2.2.2.2.2.2.2.2.2.1),v11.2.2.2.2.2.2.2.2.2.2.2.2.2.2.1,v11.2.2.2.2.2.2.2.2.2.2.2.2.2.1,v11.2.2.2.2.2.2.2.2.2.2.2.2.2.2.2.1,v11.2.2.2.2.2.2.2.2.2.2.2.2.2.2.2.2.1,v11.2.2.2.2.2.2.2.2.2.2.2.2.2.2.2.2.2.1++[(v11.2.2.1,v11.2.2.2.1)],v11.2.2.2.2.2.2.2.2.2.2.2.2.2.2.2.2.2.2.1,v11.2.2.2.2.2.2.2.2.2.2.2.2.2.2.2.2.2.2.2.1,()) v11.1 (v11.2.2.1,v11.2.2.2.1)) fun r13=>
   chk (decide (0≤v11.1)&&decide (v11.1<(r13.1.2.2.2.2.2.2.1.length:Int))) <|
   Option.bind (r13.1.2.2.2.2.2.2.1[v11.1.toNat]?) fun _=>
   Option.bind (bO r13.1.2.2.2.1 ()) fun r15=>
   bif r15.1 then
    some (1,(r13.1.1,r13.1.2.1,r13.1.2.2.1,r13.1.2.2.2.1,r13.1.2.2.2.2.1,r13.1.2.2.2.2.2.1,List.set r13.1.2.2.2.2.2.2.1 v11.1.toNat true,r13.1.2.2.2.2.2.2.2.1,()),())
   else
    some (0,(r13.1.1,r13.1.2.1,r13.1.2.2.1,r13.1.2.2.2.1,r13.1.2.2.2.2.1,r13.1.2.2.2.2.2.1,List.set r13.1.2.2.2.2.2.2.1 v11.1.toNat true,r13.1.2.2.2.2.2.2.2.1,()),())
  else
   Option.bind (gQ ((v11.2.2.2.2.1,v11.2.2.2.2.2.1,v11.2.2.2.2.2.2.1,v11.2.2.2.2.2.2.2.1,v11.2.2.2.2.2.2.2.2.1,v11.2.2.2.2.2.2.2.2.2.1,v11.2.2.2.2.2.2.2.2.2.2.1,v11.2.2.2.2.2.2.2.2.2.2.2.1,v11.2.2.2.2.2.2.2.2.2.2.2.2.1),v11.2.2.2.2.2.2.2.2.2.2.2.2.2.2.1,v11.2.2.2.2.2.2.2.2.2.2.2.2.2.1,v11.2.2.2.2.2.2.2.2.2.2.2.2.2.2.2.1,v11.2.2.2.2.2.2.2.2.2.2.2.2.2.2.2.2.1,v11.2.2.2.2.2.2.2.2.2.2.2.2.2.2.2.2.2.1++[(v11.2.2.1,v11.2.2.2.1)],v11.2.2.2.2.2.2.2.2.2.2.2.2.2.2.2.2.2.2.1,v11.2.2.2.2.2.2.2.2.2.2.2.2.2.2.2.2.2.2.2.1,()) (v11.2.2.1,v11.2.2.2.1)) fun r16=>
   bif r16.1 != 0 then
    some (r16.1,(r16.2.1.1,r16.2.1.2.1,r16.2.1.2.2.1,r16.2.1.2.2.2.1,r16.2.1.2.2.2.2.1,r16.2.1.2.2.2.2.2.1,r16.2.1.2.2.2.2.2.2.1,r16.2.1.2.2.2.2.2.2.2.1,()),())
   else
    Option.bind (bO r16.2.1.2.2.2.1 ()) fun r17=>
    bif r17.1 then
     some (1,(r16.2.1.1,r16.2.1.2.1,r16.2.1.2.2.1,r16.2.1.2.2.2.1,r16.2.1.2.2.2.2.1,r16.2.1.2.2.2.2.2.1,r16.2.1.2.2.2.2.2.2.1,r16.2.1.2.2.2.2.2.2.2.1,()),())
    else
     some (0,(r16.2.1.1,r16.2.1.2.1,r16.2.1.2.2.1,r16.2.1.2.2.2.1,r16.2.1.2.2.2.2.1,r16.2.1.2.2.2.2.2.1,r16.2.1.2.2.2.2.2.2.1,r16.2.1.2.2.2.2.2.2.2.1,()),())
abbrev nP:Type:=(List aD)×Int×Int×(List UInt8)×(List UInt8)×Int×Int×Int×Bool×(List aD)×(List av)×(List ay)×(List aa)×(List aa)×(List aa)×(List aa)×(List aC)×(List aa)×(List Bool)×Unit
abbrev wL:Type:=((Int×(ai×(List aa)×(List aa)×(List aa)×(List aC)×(List aa)×(List Bool)×(List aa)×Unit)×Unit) ⊕ ((List UInt8)×(List UInt8)×Int×Int×Int×Bool×(List aD)×(List av)×(List ay)×(List aa)×(List aa)×(List aa)×(List aa)×(List aC)×(List aa)×(List Bool)×Unit))
def qO (x1:nP) (again:nP→Option wL):Option wL:=
 match x1 with
 | (A,B,C,D,E,F,G,H,I,J,K,L,M,N,O,P,Q,R,S,_)=>
 bif decide (C<B) then
  Option.bind (idx A C) fun y2=>
  bif !I then
   chk (decide (0≤C)&&decide (C<(P.length:Int))) <|
   Option.bind (P[C.toNat]?) fun y3=>
   Option.bind (pK (D,E,F,G,H,I,J,K,L) y3 y2.2) fun r4=>
   chk (decide (0≤C)&&decide (C<(N.length:Int))) <|
   Option.bind (N[C.toNat]?) fun _=>
   again (A,B,w64 (C+1),D,E,F,G,H,I,J,K,L,M,List.set N C.toNat r4.1,O,P,Q,R,S,())
  else
   again (A,B,w64 (C+1),D,E,F,G,H,I,J,K,L,M,N,O,P,Q,R,S,())
 else
  some (Sum.inr (D,E,F,G,H,I,J,K,L,M,N,O,P,Q,R,S,()))
abbrev nK:Type:=Int×Int×(List UInt8)×(List UInt8)×Int×Int×Int×Bool×(List aD)×(List av)×(List ay)×(List aa)×(List aa)×(List aa)×(List aa)×(List aC)×(List aa)×(List Bool)×Unit
abbrev wO:Type:=((Int×(ai×(List aa)×(List aa)×(List aa)×(List aC)×(List aa)×(List Bool)×(List aa)×Unit)×Unit) ⊕ ((List UInt8)×(List UInt8)×Int×Int×Int×Bool×(List aD)×(List av)×(List ay)×(List aa)×(List aa)×(List aa)×(List aa)×(List aC)×(List aa)×(List Bool)×Unit))
def qJ (x1:nK) (again:nK→Option wO):Option wO:=
 match x1 with
 | (A,B,C,D,E,F,G,H,I,J,K,L,M,N,O,P,Q,R,_)=>
 bif decide (B<A) then
  chk (decide (0≤B)&&decide (B<(P.length:Int))) <|
  Option.bind (P[B.toNat]?) fun y2=>
  bif H then
   chk (decide (0≤y2.1)&&decide (y2.1<(M.length:Int))) <|
   Option.bind (M[y2.1.toNat]?) fun y3=>
   Option.bind (idx I y2.1) fun y4=>
   Option.bind (pK (C,D,E,F,G,H,I,J,K) y2.2 y4.2) fun r5=>
   Option.bind (aX y3 r5.1) fun r6=>
   chk (decide (0≤y2.1)&&decide (y2.1<(M.length:Int))) <|
   Option.bind (M[y2.1.toNat]?) fun _=>
   again (A,w64 (B+1),C,D,E,F,G,H,I,J,K,L,List.set M y2.1.toNat r6.1,N,O,P,Q,R,())
  else
   again (A,w64 (B+1),C,D,E,F,G,H,I,J,K,L,M,N,O,P,Q,R,())
 else
  some (Sum.inr (C,D,E,F,G,H,I,J,K,L,M,N,O,P,Q,R,()))
def vX (a0:ai×(List aa)×(List aa)×(List aa)×(List aC)×(List aa)×(List Bool)×(List aa)×Unit):Option (Int×(ai×(List aa)×(List aa)×(List aa)×(List aC)×(List aa)×(List Bool)×(List aa)×Unit)×Unit):=
 chk (decide (0≤((a0.2.2.2.1.length:Int)))&&decide (((a0.2.2.2.1.length:Int))≤((a0.2.2.2.1.length:Int)))&&decide ((32:Int)*((a0.2.2.2.1.length:Int))≤281474976710656)&&decide (((a0.2.2.2.1.length:Int))≤9223372036854775807)) <|
 aP (β:=(Int×(ai×(List aa)×(List aa)×(List aa)×(List aC)×(List aa)×(List Bool)×(List aa)×Unit)×Unit)) (γ:=((List UInt8)×(List UInt8)×Int×Int×Int×Bool×(List aD)×(List av)×(List ay)×(List aa)×(List aa)×(List aa)×(List aa)×(List aC)×(List aa)×(List Bool)×Unit)) (
  iter (X:=nP) (β:=wL) (a0.1.2.2.2.2.2.2.1.length+(Int.natAbs ((a0.1.2.2.2.2.2.2.1.length:Int))+(Int.natAbs (0:Int)+(a0.1.1.length+(a0.1.2.1.length+(a0.1.2.2.1.natAbs+(a0.1.2.2.2.1.natAbs+(a0.1.2.2.2.2.1.natAbs+(a0.1.2.2.2.2.2.2.1.length+(a0.1.2.2.2.2.2.2.2.1.length+(a0.1.2.2.2.2.2.2.2.2.length+(a0.2.2.1.length+(List.length ((List.replicate (Int.toNat ((a0.2.2.2.1.length:Int))) (false,[]):List (aa)):List aa)+(a0.2.1.length+(a0.2.2.2.1.length+(a0.2.2.2.2.1.length+(a0.2.2.2.2.2.1.length+(a0.2.2.2.2.2.2.1.length+2)))))))))))))))))) (a0.1.2.2.2.2.2.2.1,(a0.1.2.2.2.2.2.2.1.length:Int),0,a0.1.1,a0.1.2.1,a0.1.2.2.1,a0.1.2.2.2.1,a0.1.2.2.2.2.1,a0.1.2.2.2.2.2.1,a0.1.2.2.2.2.2.2.1,a0.1.2.2.2.2.2.2.2.1,a0.1.2.2.2.2.2.2.2.2,a0.2.2.1,(List.replicate (Int.toNat ((a0.2.2.2.1.length:Int))) (false,[]):List (aa)),a0.2.1,a0.2.2.2.1,a0.2.2.2.2.1,a0.2.2.2.2.2.1,a0.2.2.2.2.2.2.1,()) (qO)) fun v6=>
 aP (β:=(Int×(ai×(List aa)×(List aa)×(List aa)×(List aC)×(List aa)×(List Bool)×(List aa)×Unit)×Unit)) (γ:=((List UInt8)×(List UInt8)×Int×Int×Int×Bool×(List aD)×(List av)×(List ay)×(List aa)×(List aa)×(List aa)×(List aa)×(List aC)×(List aa)×(List Bool)×Unit)) (
  iter (X:=nK) (β:=wO) (Int.natAbs ((v6.2.2.2.2.2.2.2.2.2.2.2.2.2.1.length:Int))+(Int.natAbs (0:Int)+(v6.1.length+(v6.2.1.length+(v6.2.2.1.natAbs+(v6.2.2.2.1.natAbs+(v6.2.2.2.2.1.natAbs+(v6.2.2.2.2.2.2.1.length+(v6.2.2.2.2.2.2.2.1.length+(v6.2.2.2.2.2.2.2.2.1.length+(v6.2.2.2.2.2.2.2.2.2.1.length+(v6.2.2.2.2.2.2.2.2.2.2.1.length+(v6.2.2.2.2.2.2.2.2.2.2.2.1.length+(v6.2.2.2.2.2.2.2.2.2.2.2.2.1.length+(v6.2.2.2.2.2.2.2.2.2.2.2.2.2.1.length+(v6.2.2.2.2.2.2.2.2.2.2.2.2.2.2.1.length+(v6.2.2.2.2.2.2.2.2.2.2.2.2.2.2.2.1.length+2))))))))))))))))) ((v6.2.2.2.2.2.2.2.2.2.2.2.2.2.1.length:Int),0,v6.1,v6.2.1,v6.2.2.1,v6.2.2.2.1,v6.2.2.2.2.1,v6.2.2.2.2.2.1,v6.2.2.2.2.2.2.1,v6.2.2.2.2.2.2.2.1,v6.2.2.2.2.2.2.2.2.1,v6.2.2.2.2.2.2.2.2.2.1,v6.2.2.2.2.2.2.2.2.2.2.1,v6.2.2.2.2.2.2.2.2.2.2.2.1,v6.2.2.2.2.2.2.2.2.2.2.2.2.1,v6.2.2.2.2.2.2.2.2.2.2.2.2.2.1,v6.2.2.2.2.2.2.2.2.2.2.2.2.2.2.1,v6.2.2.2.2.2.2.2.2.2.2.2.2.2.2.2.1,()) (qJ)) fun v14=>
 Option.bind (gL v14.2.2.2.2.2.2.2.2.2.2.1 ()) fun r15=>
 bif r15.1 then
  some (1,((v14.1,v14.2.1,v14.2.2.1,v14.2.2.2.1,v14.2.2.2.2.1,v14.2.2.2.2.2.1,v14.2.2.2.2.2.2.1,v14.2.2.2.2.2.2.2.1,v14.2.2.2.2.2.2.2.2.1),v14.2.2.2.2.2.2.2.2.2.2.2.1,v14.2.2.2.2.2.2.2.2.2.1,v14.2.2.2.2.2.2.2.2.2.2.2.2.1,v14.2.2.2.2.2.2.2.2.2.2.2.2.2.1,v14.2.2.2.2.2.2.2.2.2.2.2.2.2.2.1,v14.2.2.2.2.2.2.2.2.2.2.2.2.2.2.2.1,v14.2.2.2.2.2.2.2.2.2.2.1,()),())
 else
  some (0,((v14.1,v14.2.1,v14.2.2.1,v14.2.2.2.1,v14.2.2.2.2.1,v14.2.2.2.2.2.1,v14.2.2.2.2.2.2.1,v14.2.2.2.2.2.2.2.1,v14.2.2.2.2.2.2.2.2.1),v14.2.2.2.2.2.2.2.2.2.2.2.1,v14.2.2.2.2.2.2.2.2.2.1,v14.2.2.2.2.2.2.2.2.2.2.2.2.1,v14.2.2.2.2.2.2.2.2.2.2.2.2.2.1,v14.2.2.2.2.2.2.2.2.2.2.2.2.2.2.1,v14.2.2.2.2.2.2.2.2.2.2.2.2.2.2.2.1,v14.2.2.2.2.2.2.2.2.2.2.1,()),())
abbrev kY:Type:=(List ay)×Int×Int×(List UInt8)×(List UInt8)×Int×Int×Int×Bool×(List aD)×(List av)×(List ay)×(List aa)×(List aa)×(List aa)×(List aC)×(List aa)×(List Bool)×(List aa)×(List bw)×Unit
abbrev wR:Type:=(((Option Nat)×Int×(List bw)×Unit) ⊕ ((List UInt8)×(List UInt8)×Int×Int×Int×Bool×(List aD)×(List av)×(List ay)×(List aa)×(List aa)×(List aa)×(List aC)×(List aa)×(List Bool)×(List aa)×(List bw)×Unit))
noncomputable def nU (x1:kY) (again:kY→Option wR):Option wR:=
 match x1 with
 | (A,B,C,D,E,F,G,H,I,J,K,L,M,N,O,P,Q,R,S,T,_)=>
 bif decide (C<B) then
  Option.bind (idx A C) fun y2=>
  Option.bind (mm ((D,E,F,G,H,I,J,K,L),M,N,O,P,Q,R,S,()) y2) fun r3=>
  bif r3.1 != 0 then
   some (Sum.inl (none,r3.1,T,()))
  else
   again (A,B,w64 (C+1),r3.2.1.1.1,r3.2.1.1.2.1,r3.2.1.1.2.2.1,r3.2.1.1.2.2.2.1,r3.2.1.1.2.2.2.2.1,r3.2.1.1.2.2.2.2.2.1,r3.2.1.1.2.2.2.2.2.2.1,r3.2.1.1.2.2.2.2.2.2.2.1,r3.2.1.1.2.2.2.2.2.2.2.2,r3.2.1.2.1,r3.2.1.2.2.1,r3.2.1.2.2.2.1,r3.2.1.2.2.2.2.1,r3.2.1.2.2.2.2.2.1,r3.2.1.2.2.2.2.2.2.1,r3.2.1.2.2.2.2.2.2.2.1,T,())
 else
  some (Sum.inr (D,E,F,G,H,I,J,K,L,M,N,O,P,Q,R,S,T,()))
noncomputable def iR (a0:ai) (a1:List bw):Option ((Option Nat)×Int×(List bw)×Unit):=
 Option.bind (qK a0) fun r1=>
 bif r1.1 != 0 then
  some (none,r1.1,a1,())
 else
  Option.bind (m6 (a0,[],[],[],[],[],[],[],())) fun r2=>
  bif r2.1 != 0 then
   some (none,r2.1,a1,())
  else
   aP (β:=((Option Nat)×Int×(List bw)×Unit)) (γ:=((List UInt8)×(List UInt8)×Int×Int×Int×Bool×(List aD)×(List av)×(List ay)×(List aa)×(List aa)×(List aa)×(List aC)×(List aa)×(List Bool)×(List aa)×(List bw)×Unit)) (
    iter (X:=kY) (β:=wR) (a0.2.2.2.2.2.2.2.2.length+(Int.natAbs ((a0.2.2.2.2.2.2.2.2.length:Int))+(Int.natAbs (0:Int)+(r2.2.1.1.1.length+(r2.2.1.1.2.1.length+(r2.2.1.1.2.2.1.natAbs+(r2.2.1.1.2.2.2.1.natAbs+(r2.2.1.1.2.2.2.2.1.natAbs+(r2.2.1.1.2.2.2.2.2.2.1.length+(r2.2.1.1.2.2.2.2.2.2.2.1.length+(r2.2.1.1.2.2.2.2.2.2.2.2.length+(r2.2.1.2.1.length+(r2.2.1.2.2.1.length+(r2.2.1.2.2.2.1.length+(r2.2.1.2.2.2.2.1.length+(r2.2.1.2.2.2.2.2.1.length+(r2.2.1.2.2.2.2.2.2.1.length+(r2.2.1.2.2.2.2.2.2.2.1.length+(List.length a1+2))))))))))))))))))) (a0.2.2.2.2.2.2.2.2,(a0.2.2.2.2.2.2.2.2.length:Int),0,r2.2.1.1.1,r2.2.1.1.2.1,r2.2.1.1.2.2.1,r2.2.1.1.2.2.2.1,r2.2.1.1.2.2.2.2.1,r2.2.1.1.2.2.2.2.2.1,r2.2.1.1.2.2.2.2.2.2.1,r2.2.1.1.2.2.2.2.2.2.2.1,r2.2.1.1.2.2.2.2.2.2.2.2,r2.2.1.2.1,r2.2.1.2.2.1,r2.2.1.2.2.2.1,r2.2.1.2.2.2.2.1,r2.2.1.2.2.2.2.2.1,r2.2.1.2.2.2.2.2.2.1,r2.2.1.2.2.2.2.2.2.2.1,a1,()) (nU)) fun v6=>
   Option.bind (vX ((v6.1,v6.2.1,v6.2.2.1,v6.2.2.2.1,v6.2.2.2.2.1,v6.2.2.2.2.2.1,v6.2.2.2.2.2.2.1,v6.2.2.2.2.2.2.2.1,v6.2.2.2.2.2.2.2.2.1),v6.2.2.2.2.2.2.2.2.2.1,v6.2.2.2.2.2.2.2.2.2.2.1,v6.2.2.2.2.2.2.2.2.2.2.2.1,v6.2.2.2.2.2.2.2.2.2.2.2.2.1,v6.2.2.2.2.2.2.2.2.2.2.2.2.2.1,v6.2.2.2.2.2.2.2.2.2.2.2.2.2.2.1,v6.2.2.2.2.2.2.2.2.2.2.2.2.2.2.2.1,())) fun r7=>
   bif r7.1 != 0 then
    some (none,r7.1,v6.2.2.2.2.2.2.2.2.2.2.2.2.2.2.2.2.1,())
   else
    some (some (v6.2.2.2.2.2.2.2.2.2.2.2.2.2.2.2.2.1.length),0,v6.2.2.2.2.2.2.2.2.2.2.2.2.2.2.2.2.1++[(r7.2.1.1,r7.2.1.2.1,r7.2.1.2.2.1,r7.2.1.2.2.2.1,r7.2.1.2.2.2.2.1,r7.2.1.2.2.2.2.2.1,r7.2.1.2.2.2.2.2.2.1,r7.2.1.2.2.2.2.2.2.2.1)],())
abbrev xd:Type:=(List aa)×Int×Int×Bool×(List Int)×Bool×(List Int)×Unit
abbrev Fi:Type:=((aa×Unit) ⊕ (Bool×(List Int)×Bool×(List Int)×Unit))
def Bo (x1:xd) (again:xd→Option Fi):Option Fi:=
 match x1 with
 | (A,B,C,D,E,F,G,_)=>
 bif decide (C<B) then
  Option.bind (idx A C) fun y2=>
  Option.bind (aX (F,G) y2) fun r3=>
  again (A,B,w64 (C+1),D,E,r3.1.1,r3.1.2,())
 else
  some (Sum.inr (D,E,F,G,()))
def A7 (a0:List aa):Option (aa×Unit):=
 Option.bind (bC 0) fun r1=>
 aP (β:=(aa×Unit)) (γ:=(Bool×(List Int)×Bool×(List Int)×Unit)) (
  iter (X:=xd) (β:=Fi) (List.length a0+(Int.natAbs ((List.length a0:Int))+(Int.natAbs (0:Int)+(List.length ([]:List Int)+(r1.1.2.length+2))))) (a0,(List.length a0:Int),0,false,[],r1.1.1,r1.1.2,()) (Bo)) fun v5=>
 some ((v5.2.2.1,v5.2.2.2.1),())
def gu (a0:Option Nat) (a1:aa) (a2:List bw):Option (ak×Unit):=
 Option.bind (a0) fun h1=>
 Option.bind (a2[h1]?) fun y2=>
 Option.bind (qs a1 y2.1.2.2.2.1) fun r3=>
 some (r3.1,())
def kX (a0:Option Nat) (a1:List bw):Option (eg×Int×Unit):=
 Option.bind (a0) fun h1=>
 Option.bind (a1[h1]?) fun y2=>
 Option.bind (A7 y2.2.1) fun r3=>
 Option.bind (a0) fun h4=>
 Option.bind (a1[h4]?) fun y5=>
 Option.bind (A7 y5.2.2.2.2.2.1) fun r6=>
 Option.bind (a0) fun h7=>
 Option.bind (a1[h7]?) fun y8=>
 Option.bind (A7 y8.2.2.2.2.2.2.2) fun r9=>
 Option.bind (aX r3.1 r6.1) fun r10=>
 Option.bind (aX r10.1 r9.1) fun r11=>
 Option.bind (gM [r3.1,r6.1,r10.1,r9.1,r11.1] ()) fun r12=>
 bif r12.1 then
  some (((0,0),(0,0),(0,0),(0,0),0,0),1,())
 else
  Option.bind (gu a0 r3.1 a1) fun r13=>
  Option.bind (gu a0 r6.1 a1) fun r14=>
  Option.bind (gu a0 r10.1 a1) fun r15=>
  Option.bind (gu a0 r9.1 a1) fun r16=>
  Option.bind (gu a0 r11.1 a1) fun r17=>
  some ((r13.1,r14.1,r15.1,r16.1,r17.1),0,())
abbrev nc:Type:=(Option Nat)×(List aF)×(List aD)×Int×Int×(List bw)×Unit
abbrev vo:Type:=(((List aF)×Unit) ⊕ ((List aF)×(List bw)×Unit))
def pU (x1:nc) (again:nc→Option vo):Option vo:=
 match x1 with
 | (A,B,C,D,E,F,_)=>
 bif decide (E<D) then
  Option.bind (idx C E) fun y2=>
  Option.bind (A) fun h3=>
  Option.bind (F[h3]?) fun y4=>
  Option.bind (idx y4.2.2.2.2.2.2.1 E) fun y5=>
  bif y5 then
   Option.bind (A) fun h6=>
   Option.bind (F[h6]?) fun y7=>
   Option.bind (idx y7.2.2.2.1 E) fun y8=>
   Option.bind (gu A y8 F) fun r9=>
   Option.bind (A) fun h10=>
   Option.bind (F[h10]?) fun y11=>
   Option.bind (idx y11.2.2.2.2.2.2.2 E) fun y12=>
   Option.bind (gu A y12 F) fun r13=>
   chk (decide (((B.length)+1)*48≤140737488355328)&&decide ((B.length)+1≤maxLen)) <|
   again (A,B++[(y2.1,r9.1,r13.1)],C,D,w64 (E+1),F,())
  else
   again (A,B,C,D,w64 (E+1),F,())
 else
  some (Sum.inr (B,F,()))
def pR (a0:Option Nat) (a1:List bw):Option ((List aF)×Unit):=
 Option.bind (a0) fun h1=>
 Option.bind (a1[h1]?) fun y2=>
 aP (β:=((List aF)×Unit)) (γ:=((List aF)×(List bw)×Unit)) (
  iter (X:=nc) (β:=vo) (List.length ([]:List aF)+(y2.1.2.2.2.2.2.2.1.length+(Int.natAbs ((y2.1.2.2.2.2.2.2.1.length:Int))+(Int.natAbs (0:Int)+2)))) (a0,[],y2.1.2.2.2.2.2.2.1,(y2.1.2.2.2.2.2.2.1.length:Int),0,a1,()) (pU)) fun v16=>
 some (v16.1,())
noncomputable def C5 (a0:ai):Option ((List aF)×Int×Unit):=
 Option.bind (iR a0 []) fun r1=>
 bif r1.2.1 != 0 then
  some ([],r1.2.1,())
 else
  Option.bind (kX r1.1 r1.2.2.1) fun r2=>
  bif r2.2.1 != 0 then
   some ([],r2.2.1,())
  else
   Option.bind (pR r1.1 r1.2.2.1) fun r3=>
   some (r3.1,0,())
noncomputable def Bg (a0:ai):Option (eg×Int×Unit):=
 Option.bind (iR a0 []) fun r1=>
 bif r1.2.1 != 0 then
  some (((0,0),(0,0),(0,0),(0,0),0,0),r1.2.1,())
 else
  Option.bind (kX r1.1 r1.2.2.1) fun r2=>
  some (r2.1,r2.2.1,())
end Go.Md
namespace Go.Md
open Go.Dn
abbrev slices_Sort_string:=G8
abbrev slices_Compact_string:=HH
abbrev lz:Type:=(List ak)×Int×Int×Unit
abbrev lE:Type:=((Int×Unit) ⊕ Unit)
def iV (x1:lz) (again:lz→Option lE):Option lE:=
 bif decide (x1.2.2.1<x1.2.1) then
  Option.bind (idx x1.1 x1.2.2.1) fun y2=>
  Option.bind (bU y2) fun r3=>
  bif r3.1 != 0 then
   some (Sum.inl (r3.1,()))
  else
   again (x1.1,x1.2.1,w64 (x1.2.2.1+1),())
 else
  some (Sum.inr ())
def dG (a0:List ak):Option (Int×Unit):=
 aP (β:=(Int×Unit)) (γ:=Unit) (
  iter (X:=lz) (β:=lE) (List.length a0+(Int.natAbs ((List.length a0:Int))+(Int.natAbs (0:Int)+2))) (a0,(List.length a0:Int),0,()) (iV)) fun _=>
 some (0,())
abbrev lS:Type:=(List aF)×(List aF)×Int×Int×Unit
abbrev tN:Type:=((Int×Unit) ⊕ Unit)
def oU (x1:lS) (again:lS→Option tN):Option tN:=
 match x1 with
 | (A,B,C,D,_)=>
 bif decide (D<C) then
  Option.bind (idx B D) fun y2=>
  Option.bind (gH y2.1) fun r3=>
  bif !r3.1 then
   some (Sum.inl (5,()))
  else
   bif decide (D>0) then
    Option.bind (idx A (w64 (D - 1))) fun y4=>
    bif Op.bytesLess y2.1 y4.1||y2.1==y4.1 then
     some (Sum.inl (8,()))
    else
     Option.bind (dG [y2.2.1,y2.2.2]) fun r5=>
     bif r5.1 != 0 then
      some (Sum.inl (r5.1,()))
     else
      again (A,B,C,w64 (D+1),())
   else
    Option.bind (dG [y2.2.1,y2.2.2]) fun r6=>
    bif r6.1 != 0 then
     some (Sum.inl (r6.1,()))
    else
     again (A,B,C,w64 (D+1),())
 else
  some (Sum.inr ())
def mc (a0:eg) (a1:List aF):Option (Int×Unit):=
 Option.bind (dG [a0.1,a0.2.1,a0.2.2.1,a0.2.2.2.1,a0.2.2.2.2]) fun r1=>
 bif r1.1 != 0 then
  some (r1.1,())
 else
  bif decide (((List.length a1:Int))>20) then
   some (2,())
  else
   aP (β:=(Int×Unit)) (γ:=Unit) (
    iter (X:=lS) (β:=tN) (List.length a1+(List.length a1+(Int.natAbs ((List.length a1:Int))+(Int.natAbs (0:Int)+2)))) (a1,a1,(List.length a1:Int),0,()) (oU)) fun _=>
   some (0,())
def uO (a0:ak):Option (aa×Unit):=
 Option.bind (nH a0 9) fun r1=>
 some (r1.1,())
def ff (a0:List bN) (a1:Int) (a2:List UInt8) (a3:ak) (a4:ak):Option ((List bN)×Unit):=
 Option.bind (uO a3) fun r1=>
 Option.bind (uO a4) fun r2=>
 Option.bind (kV r1.1 r2.1) fun r3=>
 bif r3.1==0 then
  some (a0,())
 else
  chk (decide (((List.length a0)+1)*56≤140737488355328)&&decide ((List.length a0)+1≤maxLen)) <|
  some (a0++[(a1,a2,a3,a4)],())
abbrev qS:Type:=(Option Nat)×(List (List UInt8))×(List aF)×Int×Int×(List UInt8)×(List UInt8)×Int×Int×Int×Bool×(List aD)×(List av)×(List ay)×(List bN)×(List ((List UInt8)×aF))×(List ((List UInt8)×aF))×(List bw)×Unit
abbrev vW:Type:=(((List bN)×Int×Unit) ⊕ ((Option Nat)×(List (List UInt8))×(List UInt8)×(List UInt8)×Int×Int×Int×Bool×(List aD)×(List av)×(List ay)×(List bN)×(List ((List UInt8)×aF))×(List ((List UInt8)×aF))×(List bw)×Unit))
noncomputable def rH (x1:qS) (again:qS→Option vW):Option vW:=
 match x1 with
 | (A,B,C,D,E,F,G,H,I,J,K,L,M,N,O,P,Q,R,_)=>
 bif decide (E<D) then
  Option.bind (idx C E) fun y2=>
  chk (decide (((B.length)+1)*16≤140737488355328)&&decide ((B.length)+1≤maxLen)) <|
  again (A,B++[y2.1],C,D,w64 (E+1),F,G,H,I,J,K,L,M,N,O,tP (k:= .str) (v:=bh) P y2.1 y2,Q,R,())
 else
  some (Sum.inr (A,B,F,G,H,I,J,K,L,M,N,O,P,Q,R,()))
abbrev rO:Type:=(List (List UInt8))×Int×Int×(List UInt8)×(List UInt8)×Int×Int×Int×Bool×(List aD)×(List av)×(List ay)×(List bN)×(List aF)×(List ((List UInt8)×aF))×(List ((List UInt8)×aF))×(List bw)×Unit
abbrev vV:Type:=(((List bN)×Int×Unit) ⊕ ((List (List UInt8))×(List UInt8)×(List UInt8)×Int×Int×Int×Bool×(List aD)×(List av)×(List ay)×(List bN)×(List ((List UInt8)×aF))×(List ((List UInt8)×aF))×(List bw)×Unit))
noncomputable def ri (x1:rO) (again:rO→Option vV):Option vV:=
 match x1 with
 | (A,B,C,D,E,F,G,H,I,J,K,L,M,N,O,P,Q,_)=>
 bif decide (C<B) then
  chk (decide (0≤C)&&decide (C<(N.length:Int))) <|
  Option.bind (N[C.toNat]?) fun y2=>
  chk (decide (((A.length)+1)*16≤140737488355328)&&decide ((A.length)+1≤maxLen)) <|
  again (A++[y2.1],B,w64 (C+1),D,E,F,G,H,I,J,K,L,M,N,O,tP (k:= .str) (v:=bh) P y2.1 y2,Q,())
 else
  some (Sum.inr (A,D,E,F,G,H,I,J,K,L,M,O,P,Q,()))
abbrev rB:Type:=(List bN)×Int×Int×Int×Int×(List (List UInt8))×(List ((List UInt8)×aF))×(List ((List UInt8)×aF))×(List bw)×Unit
abbrev vI:Type:=(((List bN)×Int×Unit) ⊕ ((List bN)×(List bw)×Unit))
noncomputable def ot (x1:rB) (again:rB→Option vI):Option vI:=
 match x1 with
 | (A,B,C,D,E,F,G,H,I,_)=>
 bif decide (C<B) then
  chk (decide (0≤C)&&decide (C<(F.length:Int))) <|
  Option.bind (F[C.toNat]?) fun y2=>
  aP (β:=(((List bN)×Int×Unit) ⊕ ((List bN)×(List bw)×Unit))) (γ:=((List bN)×(List UInt8)×Int×Int×Int×Int×(List UInt8)×Int×Int×Int×Int×(List (List UInt8))×(List ((List UInt8)×aF))×(List ((List UInt8)×aF))×(List bw)×Unit)) (
   bif !(Option.isSome (kG (k:= .str) (v:=bh) H y2)) then
    some (Sum.inr (A,y2,B,C,D,E,(Option.getD (α:=aF) (kG (k:= .str) (v:=bh) H y2) ([],(0,0),0,0)).1,D,E,D,E,F,G,H,I,()))
   else
    some (Sum.inr (A,y2,B,C,D,E,(Option.getD (α:=aF) (kG (k:= .str) (v:=bh) H y2) ([],(0,0),0,0)).1,(Option.getD (α:=aF) (kG (k:= .str) (v:=bh) H y2) ([],(0,0),0,0)).2.1.1,(Option.getD (α:=aF) (kG (k:= .str) (v:=bh) H y2) ([],(0,0),0,0)).2.1.2,(Option.getD (α:=aF) (kG (k:= .str) (v:=bh) H y2) ([],(0,0),0,0)).2.2.1,(Option.getD (α:=aF) (kG (k:= .str) (v:=bh) H y2) ([],(0,0),0,0)).2.2.2,F,G,H,I,()))) fun v3=>
  Option.bind (ff v3.1 6 v3.2.1 (Option.getD (α:=aF) (kG (k:= .str) (v:=bh) v3.2.2.2.2.2.2.2.2.2.2.2.2.1 v3.2.1) ([],(0,0),0,0)).2.1 (v3.2.2.2.2.2.2.2.1,v3.2.2.2.2.2.2.2.2.1)) fun r4=>
  Option.bind (ff r4.1 4 v3.2.1 (Option.getD (α:=aF) (kG (k:= .str) (v:=bh) v3.2.2.2.2.2.2.2.2.2.2.2.2.1 v3.2.1) ([],(0,0),0,0)).2.2 (v3.2.2.2.2.2.2.2.2.2.1,v3.2.2.2.2.2.2.2.2.2.2.1)) fun r5=>
  again (r5.1,v3.2.2.1,w64 (v3.2.2.2.1+1),v3.2.2.2.2.1,v3.2.2.2.2.2.1,v3.2.2.2.2.2.2.2.2.2.2.2.1,v3.2.2.2.2.2.2.2.2.2.2.2.2.1,v3.2.2.2.2.2.2.2.2.2.2.2.2.2.1,v3.2.2.2.2.2.2.2.2.2.2.2.2.2.2.1,())
 else
  some (Sum.inr (A,I,()))
noncomputable def sU (a0:ai) (a1:eg) (a2:List aF):Option ((List bN)×Int×Unit):=
 Option.bind (iR a0 []) fun r1=>
 bif r1.2.1 != 0 then
  some ([],r1.2.1,())
 else
  Option.bind (kX r1.1 r1.2.2.1) fun r2=>
  bif r2.2.1 != 0 then
   some ([],r2.2.1,())
  else
   Option.bind (mc a1 a2) fun r3=>
   bif r3.1 != 0 then
    some ([],r3.1,())
   else
    Option.bind (ff [] 1 [] a1.1 r2.1.1) fun r4=>
    Option.bind (ff r4.1 2 [] a1.2.1 r2.1.2.1) fun r5=>
    Option.bind (ff r5.1 3 [] a1.2.2.1 r2.1.2.2.1) fun r6=>
    Option.bind (ff r6.1 4 [] a1.2.2.2.1 r2.1.2.2.2.1) fun r7=>
    Option.bind (ff r7.1 5 [] a1.2.2.2.2 r2.1.2.2.2.2) fun r8=>
    aP (β:=((List bN)×Int×Unit)) (γ:=((Option Nat)×(List (List UInt8))×(List UInt8)×(List UInt8)×Int×Int×Int×Bool×(List aD)×(List av)×(List ay)×(List bN)×(List ((List UInt8)×aF))×(List ((List UInt8)×aF))×(List bw)×Unit)) (
     iter (X:=qS) (β:=vW) (List.length ([]:List (List UInt8))+(List.length a2+(Int.natAbs ((List.length a2:Int))+(Int.natAbs (0:Int)+(a0.1.length+(a0.2.1.length+(a0.2.2.1.natAbs+(a0.2.2.2.1.natAbs+(a0.2.2.2.2.1.natAbs+(a0.2.2.2.2.2.2.1.length+(a0.2.2.2.2.2.2.2.1.length+(a0.2.2.2.2.2.2.2.2.length+(r8.1.length+(List.length ([]:List ((List UInt8)×aF))+(List.length ([]:List ((List UInt8)×aF))+(r1.2.2.1.length+2)))))))))))))))) (r1.1,[],a2,(List.length a2:Int),0,a0.1,a0.2.1,a0.2.2.1,a0.2.2.2.1,a0.2.2.2.2.1,a0.2.2.2.2.2.1,a0.2.2.2.2.2.2.1,a0.2.2.2.2.2.2.2.1,a0.2.2.2.2.2.2.2.2,r8.1,[],[],r1.2.2.1,()) (rH)) fun v11=>
    Option.bind (pR v11.1 v11.2.2.2.2.2.2.2.2.2.2.2.2.2.2.1) fun r12=>
    aP (β:=((List bN)×Int×Unit)) (γ:=((List (List UInt8))×(List UInt8)×(List UInt8)×Int×Int×Int×Bool×(List aD)×(List av)×(List ay)×(List bN)×(List ((List UInt8)×aF))×(List ((List UInt8)×aF))×(List bw)×Unit)) (
     iter (X:=rO) (β:=vV) (v11.2.1.length+(Int.natAbs ((r12.1.length:Int))+(Int.natAbs (0:Int)+(v11.2.2.1.length+(v11.2.2.2.1.length+(v11.2.2.2.2.1.natAbs+(v11.2.2.2.2.2.1.natAbs+(v11.2.2.2.2.2.2.1.natAbs+(v11.2.2.2.2.2.2.2.2.1.length+(v11.2.2.2.2.2.2.2.2.2.1.length+(v11.2.2.2.2.2.2.2.2.2.2.1.length+(v11.2.2.2.2.2.2.2.2.2.2.2.1.length+(r12.1.length+(v11.2.2.2.2.2.2.2.2.2.2.2.2.1.length+(v11.2.2.2.2.2.2.2.2.2.2.2.2.2.1.length+(v11.2.2.2.2.2.2.2.2.2.2.2.2.2.2.1.length+2)))))))))))))))) (v11.2.1,(r12.1.length:Int),0,v11.2.2.1,v11.2.2.2.1,v11.2.2.2.2.1,v11.2.2.2.2.2.1,v11.2.2.2.2.2.2.1,v11.2.2.2.2.2.2.2.1,v11.2.2.2.2.2.2.2.2.1,v11.2.2.2.2.2.2.2.2.2.1,v11.2.2.2.2.2.2.2.2.2.2.1,v11.2.2.2.2.2.2.2.2.2.2.2.1,r12.1,v11.2.2.2.2.2.2.2.2.2.2.2.2.1,v11.2.2.2.2.2.2.2.2.2.2.2.2.2.1,v11.2.2.2.2.2.2.2.2.2.2.2.2.2.2.1,()) (ri)) fun v15=>
    Option.bind (slices_Sort_string v15.1) fun r16=>
    Option.bind (slices_Compact_string r16.1) fun r17=>
    aP (β:=((List bN)×Int×Unit)) (γ:=((List bN)×(List bw)×Unit)) (
     iter (X:=rB) (β:=vI) (v15.2.2.2.2.2.2.2.2.2.2.1.length+(Int.natAbs ((r17.1.length:Int))+(Int.natAbs (0:Int)+(Int.natAbs (0:Int)+(v15.2.2.2.2.1.natAbs+(r17.1.length+(v15.2.2.2.2.2.2.2.2.2.2.2.1.length+(v15.2.2.2.2.2.2.2.2.2.2.2.2.1.length+(v15.2.2.2.2.2.2.2.2.2.2.2.2.2.1.length+2))))))))) (v15.2.2.2.2.2.2.2.2.2.2.1,(r17.1.length:Int),0,0,v15.2.2.2.2.1,r17.1,v15.2.2.2.2.2.2.2.2.2.2.2.1,v15.2.2.2.2.2.2.2.2.2.2.2.2.1,v15.2.2.2.2.2.2.2.2.2.2.2.2.2.1,()) (ot)) fun v23=>
    some (v23.1,0,())
def ER (a0:Int) (a1:Int):Option (Int×Unit):=
 chk (a1 != (0:Int)) <|
 bif decide ((Int.tmod a0 a1)<0) then
  some (w64 ((Int.tmod a0 a1)+a1),())
 else
  some (Int.tmod a0 a1,())
noncomputable def lD (a0:ai) (a1:Int):Option (Bool×Unit):=
 Option.bind (Bg a0) fun r1=>
 Option.bind (C5 a0) fun r2=>
 bif r1.2.1 != 0 then
  bif r1.2.1==r2.2.1 then
   Option.bind (BZ) fun r3=>
   some (r3.1,())
  else
   some (false,())
 else
  bif r2.2.1 != 0 then
   bif r1.2.1==r2.2.1 then
    Option.bind (BZ) fun r4=>
    some (r4.1,())
   else
    some (false,())
  else
   Option.bind (sU a0 r1.1 r2.1) fun r5=>
   bif r5.2.1 != 0 then
    some (false,())
   else
    bif ((r5.1.length:Int)) != 0 then
     some (false,())
    else
     Option.bind (BZ) fun r6=>
     bif !r6.1 then
      some (false,())
     else
      Option.bind (ER a1 5) fun r7=>
      Option.bind (sU a0 (r1.1.1,r1.1.2.1,r1.1.2.2.1,(w64 (r1.1.2.2.2.1.1+(w64 (1+r7.1))),r1.1.2.2.2.1.2),r1.1.2.2.2.2) r2.1) fun r8=>
      bif r8.2.1 != 0 then
       some (r8.2.1==1,())
      else
       bif ((r8.1.length:Int))==1 then
        chk (decide (0≤(0:Int))&&decide ((0:Int)<(r8.1.length:Int))) <|
        Option.bind (r8.1[0]?) fun y9=>
        some ((y9.1==4)&&((y9.2.1==[])&&(((y9.2.2.1.1==(w64 (r1.1.2.2.2.1.1+(w64 (1+r7.1)))))&&((y9.2.2.1.2==r1.1.2.2.2.1.2)&&true))&&(((y9.2.2.2.1==r1.1.2.2.2.1.1)&&((y9.2.2.2.2==r1.1.2.2.2.1.2)&&true))&&true))),())
       else
        some (false,())
end Go.Md
