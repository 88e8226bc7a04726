/-
  The plain models of the functions that the law reaches, second part. No condition.
-/
import Derived.Test.YtalfglakknbjkaaGreatDoorKm
import Derived.Lib.Bytealg
set_option linter.all false
namespace Go.Md
open Go.Dn
def strings_Compare (a b:List UInt8):Option (Int×Unit):=some (Lib.compareBytes a b,())
abbrev dS:Ty:=(.st (.pair .str aR))
abbrev aD:Type:=(List UInt8)×ak
abbrev cQ:Ty:=(.st (.pair .bool (.pair aR .str)))
abbrev av:Type:=Bool×ak×(List UInt8)
abbrev dX:Ty:=(.st (.pair tI (.pair tI (.pair .str (.pair aR (.pair .str (.pair aR (.pair tI (.pair (.slice cQ) .str)))))))))
abbrev au:Type:=Int×Int×(List UInt8)×ak×(List UInt8)×ak×Int×(List av)×(List UInt8)
abbrev bw:Ty:=(.st (.pair .str (.pair .str (.pair tI (.pair tI (.pair tI (.pair .bool (.pair (.slice dS) (.pair (.slice dX) (.slice cQ))))))))))
abbrev ah:Type:=(List UInt8)×(List UInt8)×Int×Int×Int×Bool×(List aD)×(List au)×(List av)
abbrev gU:Ty:=(.st (.pair .str (.pair aR aR)))
abbrev bQ:Type:=(List UInt8)×ak×ak
abbrev Iw:Ty:=(.st (.pair aR (.pair aR (.pair aR (.pair aR aR)))))
abbrev tJ:Type:=ak×ak×ak×ak×ak
abbrev cT:Ty:=(.st (.pair tI aq))
abbrev aO:Type:=Int×aa
abbrev gV:Ty:=(.st (.pair bw (.pair (.slice aq) (.pair (.slice aq) (.pair (.slice aq) (.pair (.slice cT) (.pair (.slice aq) (.pair (.slice .bool) (.slice aq)))))))))
abbrev cI:Type:=ah×(List aa)×(List aa)×(List aa)×(List aO)×(List aa)×(List Bool)×(List aa)
abbrev aZ:Ty:=(.st (.pair tI (.pair tI aq)))
abbrev aj:Type:=Int×Int×aa
def Iz (a0:Int):Option (Bool×Unit):=
 Option.bind (cE a0 1 6) fun r1=>
 some (!r1.1,())
abbrev rP:Type:=(List aD)×(List aD)×Int×Int×Unit
abbrev xK:Type:=((Int×Unit) ⊕ Unit)
def rM (x1:rP) (again:rP→Option xK):Option xK:=
 match x1 with
 | (A,B,C,D,_)=>
 bif decide (D<C) then
  Option.bind (idx B D) fun y2=>
  Option.bind (gP y2.1) fun r3=>
  bif !r3.1 then
   some (Sum.inl (5,()))
  else
   bif decide (D>0) then
    Option.bind (idx A (w64 (D - 1))) fun y4=>
    bif Op.bytesLess y2.1 y4.1||y2.1==y4.1 then
     some (Sum.inl (8,()))
    else
     Option.bind (b9 y2.2) fun r5=>
     bif r5.1 != 0 then
      some (Sum.inl (r5.1,()))
     else
      bif decide (y2.2.1<0) then
       some (Sum.inl (1,()))
      else
       Option.bind (fR y2.2 100) fun r6=>
       bif !r6.1 then
        some (Sum.inl (1,()))
       else
        again (A,B,C,w64 (D+1),())
   else
    Option.bind (b9 y2.2) fun r7=>
    bif r7.1 != 0 then
     some (Sum.inl (r7.1,()))
    else
     bif decide (y2.2.1<0) then
      some (Sum.inl (1,()))
     else
      Option.bind (fR y2.2 100) fun r8=>
      bif !r8.1 then
       some (Sum.inl (1,()))
      else
       again (A,B,C,w64 (D+1),())
 else
  some (Sum.inr ())
def n9 (a0:List aD):Option (Int×Unit):=
 bif ((List.length a0:Int))==0 then
  some (9,())
 else
  bif decide (((List.length a0:Int))>20) then
   some (2,())
  else
   aP (β:=(Int×Unit)) (γ:=Unit) (
    iter (X:=rP) (β:=xK) (List.length a0+(List.length a0+(Int.natAbs ((List.length a0:Int))+(Int.natAbs (0:Int)+2)))) (a0,a0,(List.length a0:Int),0,()) (rM)) fun _=>
   some (0,())
abbrev D4:Type:=Int×Int×Int×Unit
abbrev El:Type:=((Int×Unit) ⊕ (Int×Unit))
def Ur (x1:D4) (again:D4→Option El):Option El:=
 bif decide (x1.2.2.1<x1.2.1) then
  again (w64 (x1.1*10),x1.2.1,w64 (x1.2.2.1+1),())
 else
  some (Sum.inr (x1.1,()))
def KA (a0:Int):Option (Int×Unit):=
 aP (β:=(Int×Unit)) (γ:=(Int×Unit)) (
  iter (X:=D4) (β:=El) (Int.natAbs (1:Int)+(Int.natAbs a0+(Int.natAbs (0:Int)+2))) (1,a0,0,()) (Ur)) fun v2=>
 some (v2.1,())
def HU (a0:ak) (a1:Int) (a2:Int):Option (Bool×Unit):=
 bif decide (a0.2≤a1) then
  bif decide (a0.1≥0) then
   Option.bind (KA a0.2) fun r1=>
   some (decide (a0.1≤(w64 (a2*r1.1))),())
  else
   some (false,())
 else
  some (false,())
def pY (a0:ak):Option (Int×Unit):=
 Option.bind (b9 a0) fun r1=>
 bif r1.1 != 0 then
  some (r1.1,())
 else
  Option.bind (HU a0 4 1000000000) fun r2=>
  bif !r2.1 then
   some (1,())
  else
   some (0,())
def F6 (a0:aD) (a1:List UInt8):Option (Int×Unit):=
 Option.bind (strings_Compare a0.1 a1) fun r1=>
 some (r1.1,())
abbrev cr:Type:=(List aD)×(List UInt8)×Unit×Int×Int×Int×Unit
abbrev gD:Type:=((Int×Bool×Unit) ⊕ ((List aD)×(List UInt8)×Unit×Int×Int×Unit))
def gz (x1:cr) (again:cr→Option gD):Option gD:=
 match x1 with
 | (A,B,C,D,E,F,_)=>
 bif decide (E<F) then
  let n2:Int:=w64 (Int.fdiv (bV (w64 (E+F))) (2 ^ 1))
  Option.bind (idx A n2) fun y3=>
  Option.bind (F6 y3 B) fun r4=>
  bif decide (r4.1<0) then
   again (A,B,C,D,w64 (n2+1),F,())
  else
   again (A,B,C,D,E,n2,())
 else
  some (Sum.inr (A,B,C,D,E,()))
def ez (a0:List aD) (a1:List UInt8) (a2:Unit):Option (Int×Bool×Unit):=
 aP (β:=(Int×Bool×Unit)) (γ:=((List aD)×(List UInt8)×Unit×Int×Int×Unit)) (
  iter (X:=cr) (β:=gD) (List.length a0+(List.length a1+(Int.natAbs ((List.length a0:Int))+(Int.natAbs (0:Int)+(Int.natAbs ((List.length a0:Int))+2))))) (a0,a1,a2,(List.length a0:Int),0,(List.length a0:Int),()) (gz)) fun v5=>
 bif decide (v5.2.2.2.2.1<v5.2.2.2.1) then
  Option.bind (idx v5.1 v5.2.2.2.2.1) fun y6=>
  Option.bind (F6 y6 v5.2.1) fun r7=>
  some (v5.2.2.2.2.1,r7.1==0,())
 else
  some (v5.2.2.2.2.1,false,())
def sk (a0:List aD) (a1:List UInt8):Option (Int×Bool×Unit):=
 Option.bind (ez a0 a1 ()) fun r1=>
 some (r1.1,r1.2.1,())
def jT (a0:ah) (a1:List UInt8):Option (Bool×Unit):=
 Option.bind (sk a0.2.2.2.2.2.2.1 a1) fun r1=>
 some (r1.2.1,())
abbrev qB:Type:=Bool×(List av)×Int×Int×(List UInt8)×(List UInt8)×Int×Int×Int×Bool×(List aD)×(List au)×(List av)×Unit
abbrev vK:Type:=((Int×Unit) ⊕ Unit)
def qC (x1:qB) (again:qB→Option vK):Option vK:=
 match x1 with
 | (A,B,C,D,E,F,G,H,I,J,K,L,M,_)=>
 bif decide (D<C) then
  Option.bind (idx B D) fun y2=>
  Option.bind (b9 y2.2.1) fun r3=>
  bif r3.1 != 0 then
   some (Sum.inl (r3.1,()))
  else
   bif y2.2.1.1==0 then
    some (Sum.inl (13,()))
   else
    bif y2.1 then
     Option.bind (fR y2.2.1 100) fun r4=>
     aP (β:=((Int×Unit) ⊕ Unit)) (γ:=(Bool×(List av)×Int×Int×Bool×(List UInt8)×(List UInt8)×Int×Int×Int×Bool×(List aD)×(List au)×(List av)×Bool×Int×Int×(List UInt8)×Unit)) (
      bif !r4.1 then
       some (Sum.inr (A,B,C,D, !r4.1,E,F,G,H,I,J,K,L,M,y2.1,y2.2.1.1,y2.2.1.2,y2.2.2,()))
      else
       bif !y2.1 then
        Option.bind (fR y2.2.1 1000000000) fun r5=>
        bif !r5.1 then
         some (Sum.inr (A,B,C,D,true,E,F,G,H,I,J,K,L,M,y2.1,y2.2.1.1,y2.2.1.2,y2.2.2,()))
        else
         some (Sum.inr (A,B,C,D,decide (y2.2.1.2>H),E,F,G,H,I,J,K,L,M,y2.1,y2.2.1.1,y2.2.1.2,y2.2.2,()))
       else
        some (Sum.inr (A,B,C,D,false,E,F,G,H,I,J,K,L,M,y2.1,y2.2.1.1,y2.2.1.2,y2.2.2,()))) fun v6=>
     bif v6.2.2.2.2.1 then
      some (Sum.inl (1,()))
     else
      bif v6.1 then
       bif !(v6.2.2.2.2.2.2.2.2.2.2.2.2.2.2.2.2.2.1==[]) then
        some (Sum.inl (3,()))
       else
        bif !v6.1 then
         bif !(v6.2.2.2.2.2.2.2.2.2.2.2.2.2.2.2.2.2.1==[]) then
          Option.bind (jT (v6.2.2.2.2.2.1,v6.2.2.2.2.2.2.1,v6.2.2.2.2.2.2.2.1,v6.2.2.2.2.2.2.2.2.1,v6.2.2.2.2.2.2.2.2.2.1,v6.2.2.2.2.2.2.2.2.2.2.1,v6.2.2.2.2.2.2.2.2.2.2.2.1,v6.2.2.2.2.2.2.2.2.2.2.2.2.1,v6.2.2.2.2.2.2.2.2.2.2.2.2.2.1) v6.2.2.2.2.2.2.2.2.2.2.2.2.2.2.2.2.2.1) fun r7=>
          bif !r7.1 then
           some (Sum.inl (5,()))
          else
           again (v6.1,v6.2.1,v6.2.2.1,w64 (v6.2.2.2.1+1),v6.2.2.2.2.2.1,v6.2.2.2.2.2.2.1,v6.2.2.2.2.2.2.2.1,v6.2.2.2.2.2.2.2.2.1,v6.2.2.2.2.2.2.2.2.2.1,v6.2.2.2.2.2.2.2.2.2.2.1,v6.2.2.2.2.2.2.2.2.2.2.2.1,v6.2.2.2.2.2.2.2.2.2.2.2.2.1,v6.2.2.2.2.2.2.2.2.2.2.2.2.2.1,())
         else
          again (v6.1,v6.2.1,v6.2.2.1,w64 (v6.2.2.2.1+1),v6.2.2.2.2.2.1,v6.2.2.2.2.2.2.1,v6.2.2.2.2.2.2.2.1,v6.2.2.2.2.2.2.2.2.1,v6.2.2.2.2.2.2.2.2.2.1,v6.2.2.2.2.2.2.2.2.2.2.1,v6.2.2.2.2.2.2.2.2.2.2.2.1,v6.2.2.2.2.2.2.2.2.2.2.2.2.1,v6.2.2.2.2.2.2.2.2.2.2.2.2.2.1,())
        else
         again (v6.1,v6.2.1,v6.2.2.1,w64 (v6.2.2.2.1+1),v6.2.2.2.2.2.1,v6.2.2.2.2.2.2.1,v6.2.2.2.2.2.2.2.1,v6.2.2.2.2.2.2.2.2.1,v6.2.2.2.2.2.2.2.2.2.1,v6.2.2.2.2.2.2.2.2.2.2.1,v6.2.2.2.2.2.2.2.2.2.2.2.1,v6.2.2.2.2.2.2.2.2.2.2.2.2.1,v6.2.2.2.2.2.2.2.2.2.2.2.2.2.1,())
      else
       bif !v6.1 then
        bif !(v6.2.2.2.2.2.2.2.2.2.2.2.2.2.2.2.2.2.1==[]) then
         Option.bind (jT (v6.2.2.2.2.2.1,v6.2.2.2.2.2.2.1,v6.2.2.2.2.2.2.2.1,v6.2.2.2.2.2.2.2.2.1,v6.2.2.2.2.2.2.2.2.2.1,v6.2.2.2.2.2.2.2.2.2.2.1,v6.2.2.2.2.2.2.2.2.2.2.2.1,v6.2.2.2.2.2.2.2.2.2.2.2.2.1,v6.2.2.2.2.2.2.2.2.2.2.2.2.2.1) v6.2.2.2.2.2.2.2.2.2.2.2.2.2.2.2.2.2.1) fun r8=>
         bif !r8.1 then
          some (Sum.inl (5,()))
         else
          again (v6.1,v6.2.1,v6.2.2.1,w64 (v6.2.2.2.1+1),v6.2.2.2.2.2.1,v6.2.2.2.2.2.2.1,v6.2.2.2.2.2.2.2.1,v6.2.2.2.2.2.2.2.2.1,v6.2.2.2.2.2.2.2.2.2.1,v6.2.2.2.2.2.2.2.2.2.2.1,v6.2.2.2.2.2.2.2.2.2.2.2.1,v6.2.2.2.2.2.2.2.2.2.2.2.2.1,v6.2.2.2.2.2.2.2.2.2.2.2.2.2.1,())
        else
         again (v6.1,v6.2.1,v6.2.2.1,w64 (v6.2.2.2.1+1),v6.2.2.2.2.2.1,v6.2.2.2.2.2.2.1,v6.2.2.2.2.2.2.2.1,v6.2.2.2.2.2.2.2.2.1,v6.2.2.2.2.2.2.2.2.2.1,v6.2.2.2.2.2.2.2.2.2.2.1,v6.2.2.2.2.2.2.2.2.2.2.2.1,v6.2.2.2.2.2.2.2.2.2.2.2.2.1,v6.2.2.2.2.2.2.2.2.2.2.2.2.2.1,())
       else
        again (v6.1,v6.2.1,v6.2.2.1,w64 (v6.2.2.2.1+1),v6.2.2.2.2.2.1,v6.2.2.2.2.2.2.1,v6.2.2.2.2.2.2.2.1,v6.2.2.2.2.2.2.2.2.1,v6.2.2.2.2.2.2.2.2.2.1,v6.2.2.2.2.2.2.2.2.2.2.1,v6.2.2.2.2.2.2.2.2.2.2.2.1,v6.2.2.2.2.2.2.2.2.2.2.2.2.1,v6.2.2.2.2.2.2.2.2.2.2.2.2.2.1,())
    else
     aP (β:=((Int×Unit) ⊕ Unit)) (γ:=(Bool×(List av)×Int×Int×Bool×(List UInt8)×(List UInt8)×Int×Int×Int×Bool×(List aD)×(List au)×(List av)×Bool×Int×Int×(List UInt8)×Unit)) (
      bif !y2.1 then
       Option.bind (fR y2.2.1 1000000000) fun r9=>
       bif !r9.1 then
        some (Sum.inr (A,B,C,D,true,E,F,G,H,I,J,K,L,M,y2.1,y2.2.1.1,y2.2.1.2,y2.2.2,()))
       else
        some (Sum.inr (A,B,C,D,decide (y2.2.1.2>H),E,F,G,H,I,J,K,L,M,y2.1,y2.2.1.1,y2.2.1.2,y2.2.2,()))
      else
       some (Sum.inr (A,B,C,D,false,E,F,G,H,I,J,K,L,M,y2.1,y2.2.1.1,y2.2.1.2,y2.2.2,()))) fun v10=>
     bif v10.2.2.2.2.1 then
      some (Sum.inl (1,()))
     else
      bif v10.1 then
       bif !(v10.2.2.2.2.2.2.2.2.2.2.2.2.2.2.2.2.2.1==[]) then
        some (Sum.inl (3,()))
       else
        bif !v10.1 then
         bif !(v10.2.2.2.2.2.2.2.2.2.2.2.2.2.2.2.2.2.1==[]) then
          Option.bind (jT (v10.2.2.2.2.2.1,v10.2.2.2.2.2.2.1,v10.2.2.2.2.2.2.2.1,v10.2.2.2.2.2.2.2.2.1,v10.2.2.2.2.2.2.2.2.2.1,v10.2.2.2.2.2.2.2.2.2.2.1,v10.2.2.2.2.2.2.2.2.2.2.2.1,v10.2.2.2.2.2.2.2.2.2.2.2.2.1,v10.2.2.2.2.2.2.2.2.2.2.2.2.2.1) v10.2.2.2.2.2.2.2.2.2.2.2.2.2.2.2.2.2.1) fun r11=>
          bif !r11.1 then
           some (Sum.inl (5,()))
          else
           again (v10.1,v10.2.1,v10.2.2.1,w64 (v10.2.2.2.1+1),v10.2.2.2.2.2.1,v10.2.2.2.2.2.2.1,v10.2.2.2.2.2.2.2.1,v10.2.2.2.2.2.2.2.2.1,v10.2.2.2.2.2.2.2.2.2.1,v10.2.2.2.2.2.2.2.2.2.2.1,v10.2.2.2.2.2.2.2.2.2.2.2.1,v10.2.2.2.2.2.2.2.2.2.2.2.2.1,v10.2.2.2.2.2.2.2.2.2.2.2.2.2.1,())
         else
          again (v10.1,v10.2.1,v10.2.2.1,w64 (v10.2.2.2.1+1),v10.2.2.2.2.2.1,v10.2.2.2.2.2.2.1,v10.2.2.2.2.2.2.2.1,v10.2.2.2.2.2.2.2.2.1,v10.2.2.2.2.2.2.2.2.2.1,v10.2.2.2.2.2.2.2.2.2.2.1,v10.2.2.2.2.2.2.2.2.2.2.2.1,v10.2.2.2.2.2.2.2.2.2.2.2.2.1,v10.2.2.2.2.2.2.2.2.2.2.2.2.2.1,())
        else
         again (v10.1,v10.2.1,v10.2.2.1,w64 (v10.2.2.2.1+1),v10.2.2.2.2.2.1,v10.2.2.2.2.2.2.1,v10.2.2.2.2.2.2.2.1,v10.2.2.2.2.2.2.2.2.1,v10.2.2.2.2.2.2.2.2.2.1,v10.2.2.2.2.2.2.2.2.2.2.1,v10.2.2.2.2.2.2.2.2.2.2.2.1,v10.2.2.2.2.2.2.2.2.2.2.2.2.1,v10.2.2.2.2.2.2.2.2.2.2.2.2.2.1,())
      else
       bif !v10.1 then
        bif !(v10.2.2.2.2.2.2.2.2.2.2.2.2.2.2.2.2.2.1==[]) then
         Option.bind (jT (v10.2.2.2.2.2.1,v10.2.2.2.2.2.2.1,v10.2.2.2.2.2.2.2.1,v10.2.2.2.2.2.2.2.2.1,v10.2.2.2.2.2.2.2.2.2.1,v10.2.2.2.2.2.2.2.2.2.2.1,v10.2.2.2.2.2.2.2.2.2.2.2.1,v10.2.2.2.2.2.2.2.2.2.2.2.2.1,v10.2.2.2.2.2.2.2.2.2.2.2.2.2.1) v10.2.2.2.2.2.2.2.2.2.2.2.2.2.2.2.2.2.1) fun r12=>
         bif !r12.1 then
          some (Sum.inl (5,()))
         else
          again (v10.1,v10.2.1,v10.2.2.1,w64 (v10.2.2.2.1+1),v10.2.2.2.2.2.1,v10.2.2.2.2.2.2.1,v10.2.2.2.2.2.2.2.1,v10.2.2.2.2.2.2.2.2.1,v10.2.2.2.2.2.2.2.2.2.1,v10.2.2.2.2.2.2.2.2.2.2.1,v10.2.2.2.2.2.2.2.2.2.2.2.1,v10.2.2.2.2.2.2.2.2.2.2.2.2.1,v10.2.2.2.2.2.2.2.2.2.2.2.2.2.1,())
        else
         again (v10.1,v10.2.1,v10.2.2.1,w64 (v10.2.2.2.1+1),v10.2.2.2.2.2.1,v10.2.2.2.2.2.2.1,v10.2.2.2.2.2.2.2.1,v10.2.2.2.2.2.2.2.2.1,v10.2.2.2.2.2.2.2.2.2.1,v10.2.2.2.2.2.2.2.2.2.2.1,v10.2.2.2.2.2.2.2.2.2.2.2.1,v10.2.2.2.2.2.2.2.2.2.2.2.2.1,v10.2.2.2.2.2.2.2.2.2.2.2.2.2.1,())
       else
        again (v10.1,v10.2.1,v10.2.2.1,w64 (v10.2.2.2.1+1),v10.2.2.2.2.2.1,v10.2.2.2.2.2.2.1,v10.2.2.2.2.2.2.2.1,v10.2.2.2.2.2.2.2.2.1,v10.2.2.2.2.2.2.2.2.2.1,v10.2.2.2.2.2.2.2.2.2.2.1,v10.2.2.2.2.2.2.2.2.2.2.2.1,v10.2.2.2.2.2.2.2.2.2.2.2.2.1,v10.2.2.2.2.2.2.2.2.2.2.2.2.2.1,())
 else
  some (Sum.inr ())
def kG (a0:ah) (a1:List av) (a2:Bool):Option (Int×Unit):=
 bif decide (((List.length a1:Int))>20) then
  some (2,())
 else
  aP (β:=(Int×Unit)) (γ:=Unit) (
   iter (X:=qB) (β:=vK) (List.length a1+(Int.natAbs ((List.length a1:Int))+(Int.natAbs (0:Int)+(a0.1.length+(a0.2.1.length+(a0.2.2.1.natAbs+(a0.2.2.2.1.natAbs+(a0.2.2.2.2.1.natAbs+(a0.2.2.2.2.2.2.1.length+(a0.2.2.2.2.2.2.2.1.length+(a0.2.2.2.2.2.2.2.2.length+2))))))))))) (a2,a1,(List.length a1:Int),0,a0.1,a0.2.1,a0.2.2.1,a0.2.2.2.1,a0.2.2.2.2.1,a0.2.2.2.2.2.1,a0.2.2.2.2.2.2.1,a0.2.2.2.2.2.2.2.1,a0.2.2.2.2.2.2.2.2,()) (qC)) fun _=>
  some (0,())
def tg (a0:ah) (a1:Int):Option (Int×Unit):=
 Option.bind (idx a0.2.2.2.2.2.2.2.1 a1) fun y1=>
 Option.bind (cE y1.1 1 99999) fun r2=>
 bif r2.1 then
  some (1,())
 else
  bif decide (a1>0) then
   Option.bind (idx a0.2.2.2.2.2.2.2.1 (w64 (a1 - 1))) fun y3=>
   bif decide (y1.1≤y3.1) then
    some (8,())
   else
    Option.bind (cE y1.2.1 1 99999) fun r4=>
    bif r4.1 then
     some (1,())
    else
     Option.bind (gP y1.2.2.1) fun r5=>
     bif !r5.1 then
      some (5,())
     else
      Option.bind (b9 y1.2.2.2.1) fun r6=>
      bif r6.1 != 0 then
       some (r6.1,())
      else
       bif decide (y1.2.2.2.1.2>3) then
        some (1,())
       else
        Option.bind (fR y1.2.2.2.1 1000000000) fun r7=>
        bif !r7.1 then
         some (1,())
        else
         bif y1.2.2.2.1.1==0 then
          some (13,())
         else
          Option.bind (gP y1.2.2.2.2.1) fun r8=>
          bif !r8.1 then
           some (5,())
          else
           Option.bind (pY y1.2.2.2.2.2.1) fun r9=>
           bif r9.1 != 0 then
            some (r9.1,())
           else
            Option.bind (cE y1.2.2.2.2.2.2.1 1 100000) fun r10=>
            bif r10.1 then
             some (1,())
            else
             Option.bind (kG a0 y1.2.2.2.2.2.2.2.1 true) fun r11=>
             bif r11.1 != 0 then
              some (r11.1,())
             else
              Option.bind (jT a0 y1.2.2.2.2.2.2.2.2) fun r12=>
              bif !r12.1 then
               some (5,())
              else
               some (0,())
  else
   Option.bind (cE y1.2.1 1 99999) fun r13=>
   bif r13.1 then
    some (1,())
   else
    Option.bind (gP y1.2.2.1) fun r14=>
    bif !r14.1 then
     some (5,())
    else
     Option.bind (b9 y1.2.2.2.1) fun r15=>
     bif r15.1 != 0 then
      some (r15.1,())
     else
      bif decide (y1.2.2.2.1.2>3) then
       some (1,())
      else
       Option.bind (fR y1.2.2.2.1 1000000000) fun r16=>
       bif !r16.1 then
        some (1,())
       else
        bif y1.2.2.2.1.1==0 then
         some (13,())
        else
         Option.bind (gP y1.2.2.2.2.1) fun r17=>
         bif !r17.1 then
          some (5,())
         else
          Option.bind (pY y1.2.2.2.2.2.1) fun r18=>
          bif r18.1 != 0 then
           some (r18.1,())
          else
           Option.bind (cE y1.2.2.2.2.2.2.1 1 100000) fun r19=>
           bif r19.1 then
            some (1,())
           else
            Option.bind (kG a0 y1.2.2.2.2.2.2.2.1 true) fun r20=>
            bif r20.1 != 0 then
             some (r20.1,())
            else
             Option.bind (jT a0 y1.2.2.2.2.2.2.2.2) fun r21=>
             bif !r21.1 then
              some (5,())
             else
              some (0,())
abbrev tQ:Type:=Int×Int×(List UInt8)×(List UInt8)×Int×Int×Int×Bool×(List aD)×(List au)×(List av)×Unit
abbrev tu:Type:=((Int×Unit) ⊕ ((List UInt8)×(List UInt8)×Int×Int×Int×Bool×(List aD)×(List au)×(List av)×Unit))
def ot (x1:tQ) (again:tQ→Option tu):Option tu:=
 match x1 with
 | (A,B,C,D,E,F,G,H,I,J,K,_)=>
 bif decide (B<A) then
  Option.bind (tg (C,D,E,F,G,H,I,J,K) B) fun r2=>
  bif r2.1 != 0 then
   some (Sum.inl (r2.1,()))
  else
   again (A,w64 (B+1),C,D,E,F,G,H,I,J,K,())
 else
  some (Sum.inr (C,D,E,F,G,H,I,J,K,()))
def sE (a0:ah):Option (Int×Unit):=
 Option.bind (gP a0.1) fun r1=>
 bif !r1.1 then
  some (5,())
 else
  Option.bind (gP a0.2.1) fun r2=>
  bif !r2.1 then
   some (5,())
  else
   Option.bind (Bv a0.2.2.1) fun r3=>
   bif !r3.1 then
    some (1,())
   else
    Option.bind (cE a0.2.2.2.1 0 4) fun r4=>
    bif r4.1 then
     some (1,())
    else
     Option.bind (Iz a0.2.2.2.2.1) fun r5=>
     bif !r5.1 then
      some (4,())
     else
      Option.bind (n9 a0.2.2.2.2.2.2.1) fun r6=>
      bif r6.1 != 0 then
       some (r6.1,())
      else
       bif ((a0.2.2.2.2.2.2.2.1.length:Int))==0 then
        some (9,())
       else
        bif decide (((a0.2.2.2.2.2.2.2.1.length:Int))>500) then
         some (2,())
        else
         aP (β:=(Int×Unit)) (γ:=((List UInt8)×(List UInt8)×Int×Int×Int×Bool×(List aD)×(List au)×(List av)×Unit)) (
          iter (X:=tQ) (β:=tu) (Int.natAbs ((a0.2.2.2.2.2.2.2.1.length:Int))+(Int.natAbs (0:Int)+(a0.1.length+(a0.2.1.length+(a0.2.2.1.natAbs+(a0.2.2.2.1.natAbs+(a0.2.2.2.2.1.natAbs+(a0.2.2.2.2.2.2.1.length+(a0.2.2.2.2.2.2.2.1.length+(a0.2.2.2.2.2.2.2.2.length+2)))))))))) ((a0.2.2.2.2.2.2.2.1.length:Int),0,a0.1,a0.2.1,a0.2.2.1,a0.2.2.2.1,a0.2.2.2.2.1,a0.2.2.2.2.2.1,a0.2.2.2.2.2.2.1,a0.2.2.2.2.2.2.2.1,a0.2.2.2.2.2.2.2.2,()) (ot)) fun v9=>
         Option.bind (kG (v9.1,v9.2.1,v9.2.2.1,v9.2.2.2.1,v9.2.2.2.2.1,v9.2.2.2.2.2.1,v9.2.2.2.2.2.2.1,v9.2.2.2.2.2.2.2.1,v9.2.2.2.2.2.2.2.2.1) v9.2.2.2.2.2.2.2.2.1 false) fun r10=>
         some (r10.1,())
abbrev nE:Type:=Int×Int×Int×(List Int)×Int×Int×(List Int)×Int×Int×Bool×(List Int)×Bool×(List Int)×Bool×(List Int)×(List Int)×Unit
abbrev xV:Type:=(((aa×Unit) ⊕ (Bool×(List Int)×Bool×(List Int)×Bool×(List Int)×(List Int)×Unit)) ⊕ (Int×Int×(List Int)×Int×Int×Bool×(List Int)×Bool×(List Int)×Bool×(List Int)×(List Int)×Unit))
def ri (x1:nE) (again:nE→Option xV):Option xV:=
 match x1 with
 | (A,B,C,D,E,F,G,H,I,J,K,L,M,N,O,P,_)=>
 bif decide (I<H) then
  Option.bind (idx G I) fun y2=>
  chk (decide (0≤(w64 (A+I)))&&decide ((w64 (A+I))<(P.length:Int))) <|
  Option.bind (P[(w64 (A+I)).toNat]?) fun y3=>
  let n4:Int:=bV ((bV y3)+(bV ((bV B)*(bV y2))))
  chk (decide (0≤(w64 (A+I)))&&decide ((w64 (A+I))<(P.length:Int))) <|
  Option.bind (P[(w64 (A+I)).toNat]?) fun _=>
  again (A,B,Int.fdiv (bV (C+n4)) (2 ^ 32),D,E,F,G,H,w64 (I+1),J,K,L,M,N,O,List.set P (w64 (A+I)).toNat (nW (bV (C+n4))),())
 else
  some (Sum.inr (A,C,D,E,F,J,K,L,M,N,O,P,()))
abbrev nF:Type:=(List Int)×Int×Int×Bool×(List Int)×Bool×(List Int)×Bool×(List Int)×(List Int)×Unit
abbrev w7:Type:=((aa×Unit) ⊕ (Bool×(List Int)×Bool×(List Int)×Bool×(List Int)×(List Int)×Unit))
def rH (x1:nF) (again:nF→Option w7):Option w7:=
 match x1 with
 | (A,B,C,D,E,F,G,H,I,J,_)=>
 bif decide (C<B) then
  Option.bind (idx A C) fun y2=>
  aP (β:=((aa×Unit) ⊕ (Bool×(List Int)×Bool×(List Int)×Bool×(List Int)×(List Int)×Unit))) (γ:=(Int×Int×(List Int)×Int×Int×Bool×(List Int)×Bool×(List Int)×Bool×(List Int)×(List Int)×Unit)) (
   iter (X:=nE) (β:=xV) (C.natAbs+(Int.natAbs y2+(Int.natAbs (0:Int)+(A.length+(B.natAbs+(C.natAbs+(G.length+(Int.natAbs ((G.length:Int))+(Int.natAbs (0:Int)+(E.length+(G.length+(I.length+(J.length+2))))))))))))) (C,y2,0,A,B,C,G,(G.length:Int),0,D,E,F,G,H,I,J,()) (ri)) fun v3=>
  chk (decide (0≤(w64 (v3.1+((v3.2.2.2.2.2.2.2.2.1.length:Int)))))&&decide ((w64 (v3.1+((v3.2.2.2.2.2.2.2.2.1.length:Int))))<(v3.2.2.2.2.2.2.2.2.2.2.2.1.length:Int))) <|
  Option.bind (v3.2.2.2.2.2.2.2.2.2.2.2.1[(w64 (v3.1+((v3.2.2.2.2.2.2.2.2.1.length:Int)))).toNat]?) fun _=>
  again (v3.2.2.1,v3.2.2.2.1,w64 (v3.2.2.2.2.1+1),v3.2.2.2.2.2.1,v3.2.2.2.2.2.2.1,v3.2.2.2.2.2.2.2.1,v3.2.2.2.2.2.2.2.2.1,v3.2.2.2.2.2.2.2.2.2.1,v3.2.2.2.2.2.2.2.2.2.2.1,List.set v3.2.2.2.2.2.2.2.2.2.2.2.1 (w64 (v3.1+((v3.2.2.2.2.2.2.2.2.1.length:Int)))).toNat (nW v3.2.1),())
 else
  some (Sum.inr (D,E,F,G,H,I,J,()))
def fT (a0:aa) (a1:aa):Option (aa×Unit):=
 chk (decide (0≤(w64 (((a0.2.length:Int))+((a1.2.length:Int)))))&&decide ((w64 (((a0.2.length:Int))+((a1.2.length:Int))))≤(w64 (((a0.2.length:Int))+((a1.2.length:Int)))))&&decide ((4:Int)*(w64 (((a0.2.length:Int))+((a1.2.length:Int))))≤281474976710656)&&decide ((w64 (((a0.2.length:Int))+((a1.2.length:Int))))≤9223372036854775807)) <|
 aP (β:=(aa×Unit)) (γ:=(Bool×(List Int)×Bool×(List Int)×Bool×(List Int)×(List Int)×Unit)) (
  iter (X:=nF) (β:=w7) (a0.2.length+(Int.natAbs ((a0.2.length:Int))+(Int.natAbs (0:Int)+(a0.2.length+(a1.2.length+(List.length ([]:List Int)+(List.length ((List.replicate (Int.toNat (w64 (((a0.2.length:Int))+((a1.2.length:Int))))) 0):List Int)+2))))))) (a0.2,(a0.2.length:Int),0,a0.1,a0.2,a1.1,a1.2,false,[],List.replicate (Int.toNat (w64 (((a0.2.length:Int))+((a1.2.length:Int))))) 0,()) (rH)) fun v10=>
 Option.bind (ji (!(v10.1==v10.2.2.1)) v10.2.2.2.2.2.2.1) fun r11=>
 some (r11.1,())
abbrev s8:Type:=Int×Int×Bool×(List Int)×Bool×(List Int)×Unit
abbrev Ee:Type:=((aa×Unit) ⊕ (Bool×(List Int)×Bool×(List Int)×Unit))
def x9 (x1:s8) (again:s8→Option Ee):Option Ee:=
 match x1 with
 | (A,B,C,D,E,F,_)=>
 bif decide (B<A) then
  Option.bind (bH 10) fun r2=>
  Option.bind (fT (E,F) r2.1) fun r3=>
  again (A,w64 (B+1),C,D,r3.1.1,r3.1.2,())
 else
  some (Sum.inr (C,D,E,F,()))
def pI (a0:Int):Option (aa×Unit):=
 Option.bind (bH 1) fun r1=>
 aP (β:=(aa×Unit)) (γ:=(Bool×(List Int)×Bool×(List Int)×Unit)) (
  iter (X:=s8) (β:=Ee) (Int.natAbs a0+(Int.natAbs (0:Int)+(List.length ([]:List Int)+(r1.1.2.length+2)))) (a0,0,false,[],r1.1.1,r1.1.2,()) (x9)) fun v5=>
 some ((v5.2.2.1,v5.2.2.2.1),())
abbrev Ea:Type:=(List Int)×(List Int)×Int×(List Int)×Int×Int×Unit
abbrev DW:Type:=(((List Int)×Unit) ⊕ ((List Int)×Int×Unit))
def UH (x1:Ea) (again:Ea→Option DW):Option DW:=
 match x1 with
 | (A,B,C,D,E,F,_)=>
 bif decide (F<E) then
  Option.bind (idx D F) fun y2=>
  aP (β:=(((List Int)×Unit) ⊕ ((List Int)×Int×Unit))) (γ:=((List Int)×(List Int)×Int×(List Int)×Int×Int×Unit)) (
   bif decide (F<((A.length:Int))) then
    Option.bind (idx A F) fun y3=>
    let n4:Int:=bV ((bV (C+(bV y2)))+(bV y3))
    some (Sum.inr (A,B,n4,D,E,F,()))
   else
    some (Sum.inr (A,B,bV (C+(bV y2)),D,E,F,()))) fun v5=>
  chk (decide (((v5.2.1.length)+1)*4≤140737488355328)&&decide ((v5.2.1.length)+1≤maxLen)) <|
  again (v5.1,v5.2.1++[(nW v5.2.2.1)],Int.fdiv v5.2.2.1 (2 ^ 32),v5.2.2.2.1,v5.2.2.2.2.1,w64 (v5.2.2.2.2.2.1+1),())
 else
  some (Sum.inr (B,C,()))
def KG (a0:List Int) (a1:List Int):Option ((List Int)×Unit):=
 aP (β:=((List Int)×Unit)) (γ:=((List Int)×(List Int)×Unit)) (
  bif decide (((List.length a0:Int))<((List.length a1:Int))) then
   some (Sum.inr (a1,a0,()))
  else
   some (Sum.inr (a0,a1,()))) fun v1=>
 chk (decide (0≤(0:Int))&&decide ((0:Int)≤(w64 (((v1.1.length:Int))+1)))&&decide ((4:Int)*(w64 (((v1.1.length:Int))+1))≤281474976710656)&&decide ((w64 (((v1.1.length:Int))+1))≤9223372036854775807)) <|
 aP (β:=((List Int)×Unit)) (γ:=((List Int)×Int×Unit)) (
  iter (X:=Ea) (β:=DW) (v1.2.1.length+(List.length ([]:List Int)+(Int.natAbs (0:Int)+(v1.1.length+(Int.natAbs ((v1.1.length:Int))+(Int.natAbs (0:Int)+2)))))) (v1.2.1,[],0,v1.1,(v1.1.length:Int),0,()) (UH)) fun v7=>
 chk (decide (((v7.1.length)+1)*4≤140737488355328)&&decide ((v7.1.length)+1≤maxLen)) <|
 some (v7.1++[(nW v7.2.1)],())
def bg (a0:aa) (a1:aa):Option (aa×Unit):=
 bif a0.1==a1.1 then
  Option.bind (KG a0.2 a1.2) fun r1=>
  Option.bind (ji a0.1 r1.1) fun r2=>
  some (r2.1,())
 else
  Option.bind (vj a0.2 a1.2) fun r3=>
  bif decide (r3.1≥0) then
   Option.bind (yj a0.2 a1.2) fun r4=>
   Option.bind (ji a0.1 r4.1) fun r5=>
   some (r5.1,())
  else
   Option.bind (yj a1.2 a0.2) fun r6=>
   Option.bind (ji a1.1 r6.1) fun r7=>
   some (r7.1,())
def yA (a0:aa) (a1:aa):Option (aa×Unit):=
 Option.bind (aL a1) fun r1=>
 Option.bind (bg a0 r1.1) fun r2=>
 some (r2.1,())
def oX (a0:aa) (a1:aa):Option (Int×Unit):=
 Option.bind (yA a0 a1) fun r1=>
 Option.bind (aM r1.1) fun r2=>
 some (r2.1,())
def gv (a0:aa):Option (Bool×Unit):=
 bif decide (((a0.2.length:Int))>0) then
  Option.bind (idx a0.2 0) fun y1=>
  some ((nW (((BitVec.ofInt (IntKind.bits .u32) y1 &&& BitVec.ofInt (IntKind.bits .u32) 1).toNat:Int)))==1,())
 else
  some (false,())
def tE (a0:aa) (a1:aa) (a2:Int):Option (aa×Unit):=
 Option.bind (td a0 a1) fun r1=>
 Option.bind (aM r1.2.1) fun r2=>
 bif r2.1 != 0 then
  Option.bind (bg r1.2.1 r1.2.1) fun r3=>
  Option.bind (oX r3.1 a1) fun r4=>
  Option.bind (aM a0) fun r5=>
  bif a2==4 then
   Option.bind (bH 1) fun r6=>
   Option.bind (bg r1.1 r6.1) fun r7=>
   Option.bind (aM a0) fun r8=>
   bif decide (r8.1<0) then
    Option.bind (aL r7.1) fun r9=>
    some (r9.1,())
   else
    some (r7.1,())
  else
   bif a2==5 then
    bif decide (r5.1<0) then
     Option.bind (bH 1) fun r10=>
     Option.bind (bg r1.1 r10.1) fun r11=>
     Option.bind (aM a0) fun r12=>
     bif decide (r12.1<0) then
      Option.bind (aL r11.1) fun r13=>
      some (r13.1,())
     else
      some (r11.1,())
    else
     bif a2==6 then
      bif !(decide (r5.1<0)) then
       Option.bind (bH 1) fun r14=>
       Option.bind (bg r1.1 r14.1) fun r15=>
       Option.bind (aM a0) fun r16=>
       bif decide (r16.1<0) then
        Option.bind (aL r15.1) fun r17=>
        some (r17.1,())
       else
        some (r15.1,())
      else
       bif a2==1 then
        bif decide (r4.1≥0) then
         Option.bind (bH 1) fun r18=>
         Option.bind (bg r1.1 r18.1) fun r19=>
         Option.bind (aM a0) fun r20=>
         bif decide (r20.1<0) then
          Option.bind (aL r19.1) fun r21=>
          some (r21.1,())
         else
          some (r19.1,())
        else
         bif a2==2 then
          bif decide (r4.1>0) then
           Option.bind (bH 1) fun r22=>
           Option.bind (bg r1.1 r22.1) fun r23=>
           Option.bind (aM a0) fun r24=>
           bif decide (r24.1<0) then
            Option.bind (aL r23.1) fun r25=>
            some (r25.1,())
           else
            some (r23.1,())
          else
           bif r4.1==0 then
            Option.bind (gv r1.1) fun r26=>
            bif r26.1 then
             Option.bind (bH 1) fun r27=>
             Option.bind (bg r1.1 r27.1) fun r28=>
             Option.bind (aM a0) fun r29=>
             bif decide (r29.1<0) then
              Option.bind (aL r28.1) fun r30=>
              some (r30.1,())
             else
              some (r28.1,())
            else
             Option.bind (aM a0) fun r31=>
             bif decide (r31.1<0) then
              Option.bind (aL r1.1) fun r32=>
              some (r32.1,())
             else
              some (r1.1,())
           else
            Option.bind (aM a0) fun r33=>
            bif decide (r33.1<0) then
             Option.bind (aL r1.1) fun r34=>
             some (r34.1,())
            else
             some (r1.1,())
         else
          Option.bind (aM a0) fun r35=>
          bif decide (r35.1<0) then
           Option.bind (aL r1.1) fun r36=>
           some (r36.1,())
          else
           some (r1.1,())
       else
        bif a2==2 then
         bif decide (r4.1>0) then
          Option.bind (bH 1) fun r37=>
          Option.bind (bg r1.1 r37.1) fun r38=>
          Option.bind (aM a0) fun r39=>
          bif decide (r39.1<0) then
           Option.bind (aL r38.1) fun r40=>
           some (r40.1,())
          else
           some (r38.1,())
         else
          bif r4.1==0 then
           Option.bind (gv r1.1) fun r41=>
           bif r41.1 then
            Option.bind (bH 1) fun r42=>
            Option.bind (bg r1.1 r42.1) fun r43=>
            Option.bind (aM a0) fun r44=>
            bif decide (r44.1<0) then
             Option.bind (aL r43.1) fun r45=>
             some (r45.1,())
            else
             some (r43.1,())
           else
            Option.bind (aM a0) fun r46=>
            bif decide (r46.1<0) then
             Option.bind (aL r1.1) fun r47=>
             some (r47.1,())
            else
             some (r1.1,())
          else
           Option.bind (aM a0) fun r48=>
           bif decide (r48.1<0) then
            Option.bind (aL r1.1) fun r49=>
            some (r49.1,())
           else
            some (r1.1,())
        else
         Option.bind (aM a0) fun r50=>
         bif decide (r50.1<0) then
          Option.bind (aL r1.1) fun r51=>
          some (r51.1,())
         else
          some (r1.1,())
     else
      bif a2==1 then
       bif decide (r4.1≥0) then
        Option.bind (bH 1) fun r52=>
        Option.bind (bg r1.1 r52.1) fun r53=>
        Option.bind (aM a0) fun r54=>
        bif decide (r54.1<0) then
         Option.bind (aL r53.1) fun r55=>
         some (r55.1,())
        else
         some (r53.1,())
       else
        bif a2==2 then
         bif decide (r4.1>0) then
          Option.bind (bH 1) fun r56=>
          Option.bind (bg r1.1 r56.1) fun r57=>
          Option.bind (aM a0) fun r58=>
          bif decide (r58.1<0) then
           Option.bind (aL r57.1) fun r59=>
           some (r59.1,())
          else
           some (r57.1,())
         else
          bif r4.1==0 then
           Option.bind (gv r1.1) fun r60=>
           bif r60.1 then
            Option.bind (bH 1) fun r61=>
            Option.bind (bg r1.1 r61.1) fun r62=>
            Option.bind (aM a0) fun r63=>
            bif decide (r63.1<0) then
             Option.bind (aL r62.1) fun r64=>
             some (r64.1,())
            else
             some (r62.1,())
           else
            Option.bind (aM a0) fun r65=>
            bif decide (r65.1<0) then
             Option.bind (aL r1.1) fun r66=>
             some (r66.1,())
            else
             some (r1.1,())
          else
           Option.bind (aM a0) fun r67=>
           bif decide (r67.1<0) then
            Option.bind (aL r1.1) fun r68=>
            some (r68.1,())
           else
            some (r1.1,())
        else
         Option.bind (aM a0) fun r69=>
         bif decide (r69.1<0) then
          Option.bind (aL r1.1) fun r70=>
          some (r70.1,())
         else
          some (r1.1,())
      else
       bif a2==2 then
        bif decide (r4.1>0) then
         Option.bind (bH 1) fun r71=>
         Option.bind (bg r1.1 r71.1) fun r72=>
         Option.bind (aM a0) fun r73=>
         bif decide (r73.1<0) then
          Option.bind (aL r72.1) fun r74=>
          some (r74.1,())
         else
          some (r72.1,())
        else
         bif r4.1==0 then
          Option.bind (gv r1.1) fun r75=>
          bif r75.1 then
           Option.bind (bH 1) fun r76=>
           Option.bind (bg r1.1 r76.1) fun r77=>
           Option.bind (aM a0) fun r78=>
           bif decide (r78.1<0) then
            Option.bind (aL r77.1) fun r79=>
            some (r79.1,())
           else
            some (r77.1,())
          else
           Option.bind (aM a0) fun r80=>
           bif decide (r80.1<0) then
            Option.bind (aL r1.1) fun r81=>
            some (r81.1,())
           else
            some (r1.1,())
         else
          Option.bind (aM a0) fun r82=>
          bif decide (r82.1<0) then
           Option.bind (aL r1.1) fun r83=>
           some (r83.1,())
          else
           some (r1.1,())
       else
        Option.bind (aM a0) fun r84=>
        bif decide (r84.1<0) then
         Option.bind (aL r1.1) fun r85=>
         some (r85.1,())
        else
         some (r1.1,())
   else
    bif a2==6 then
     bif !(decide (r5.1<0)) then
      Option.bind (bH 1) fun r86=>
      Option.bind (bg r1.1 r86.1) fun r87=>
      Option.bind (aM a0) fun r88=>
      bif decide (r88.1<0) then
       Option.bind (aL r87.1) fun r89=>
       some (r89.1,())
      else
       some (r87.1,())
     else
      bif a2==1 then
       bif decide (r4.1≥0) then
        Option.bind (bH 1) fun r90=>
        Option.bind (bg r1.1 r90.1) fun r91=>
        Option.bind (aM a0) fun r92=>
        bif decide (r92.1<0) then
         Option.bind (aL r91.1) fun r93=>
         some (r93.1,())
        else
         some (r91.1,())
       else
        bif a2==2 then
         bif decide (r4.1>0) then
          Option.bind (bH 1) fun r94=>
          Option.bind (bg r1.1 r94.1) fun r95=>
          Option.bind (aM a0) fun r96=>
          bif decide (r96.1<0) then
           Option.bind (aL r95.1) fun r97=>
           some (r97.1,())
          else
           some (r95.1,())
         else
          bif r4.1==0 then
           Option.bind (gv r1.1) fun r98=>
           bif r98.1 then
            Option.bind (bH 1) fun r99=>
            Option.bind (bg r1.1 r99.1) fun r100=>
            Option.bind (aM a0) fun r101=>
            bif decide (r101.1<0) then
             Option.bind (aL r100.1) fun r102=>
             some (r102.1,())
            else
             some (r100.1,())
           else
            Option.bind (aM a0) fun r103=>
            bif decide (r103.1<0) then
             Option.bind (aL r1.1) fun r104=>
             some (r104.1,())
            else
             some (r1.1,())
          else
           Option.bind (aM a0) fun r105=>
           bif decide (r105.1<0) then
            Option.bind (aL r1.1) fun r106=>
            some (r106.1,())
           else
            some (r1.1,())
        else
         Option.bind (aM a0) fun r107=>
         bif decide (r107.1<0) then
          Option.bind (aL r1.1) fun r108=>
          some (r108.1,())
         else
          some (r1.1,())
      else
       bif a2==2 then
        bif decide (r4.1>0) then
         Option.bind (bH 1) fun r109=>
         Option.bind (bg r1.1 r109.1) fun r110=>
         Option.bind (aM a0) fun r111=>
         bif decide (r111.1<0) then
          Option.bind (aL r110.1) fun r112=>
          some (r112.1,())
         else
          some (r110.1,())
        else
         bif r4.1==0 then
          Option.bind (gv r1.1) fun r113=>
          bif r113.1 then
           Option.bind (bH 1) fun r114=>
           Option.bind (bg r1.1 r114.1) fun r115=>
           Option.bind (aM a0) fun r116=>
           bif decide (r116.1<0) then
            Option.bind (aL r115.1) fun r117=>
            some (r117.1,())
           else
            some (r115.1,())
          else
           Option.bind (aM a0) fun r118=>
           bif decide (r118.1<0) then
            Option.bind (aL r1.1) fun r119=>
            some (r119.1,())
           else
            some (r1.1,())
         else
          Option.bind (aM a0) fun r120=>
          bif decide (r120.1<0) then
           Option.bind (aL r1.1) fun r121=>
           some (r121.1,())
          else
           some (r1.1,())
       else
        Option.bind (aM a0) fun r122=>
        bif decide (r122.1<0) then
         Option.bind (aL r1.1) fun r123=>
         some (r123.1,())
        else
         some (r1.1,())
    else
     bif a2==1 then
      bif decide (r4.1≥0) then
       Option.bind (bH 1) fun r124=>
       Option.bind (bg r1.1 r124.1) fun r125=>
       Option.bind (aM a0) fun r126=>
       bif decide (r126.1<0) then
        Option.bind (aL r125.1) fun r127=>
        some (r127.1,())
       else
        some (r125.1,())
      else
       bif a2==2 then
        bif decide (r4.1>0) then
         Option.bind (bH 1) fun r128=>
         Option.bind (bg r1.1 r128.1) fun r129=>
         Option.bind (aM a0) fun r130=>
         bif decide (r130.1<0) then
          Option.bind (aL r129.1) fun r131=>
          some (r131.1,())
         else
          some (r129.1,())
        else
         bif r4.1==0 then
          Option.bind (gv r1.1) fun r132=>
          bif r132.1 then
           Option.bind (bH 1) fun r133=>
           Option.bind (bg r1.1 r133.1) fun r134=>
           Option.bind (aM a0) fun r135=>
           bif decide (r135.1<0) then
            Option.bind (aL r134.1) fun r136=>
            some (r136.1,())
           else
            some (r134.1,())
          else
           Option.bind (aM a0) fun r137=>
           bif decide (r137.1<0) then
            Option.bind (aL r1.1) fun r138=>
            some (r138.1,())
           else
            some (r1.1,())
         else
          Option.bind (aM a0) fun r139=>
          bif decide (r139.1<0) then
           Option.bind (aL r1.1) fun r140=>
           some (r140.1,())
          else
           some (r1.1,())
       else
        Option.bind (aM a0) fun r141=>
        bif decide (r141.1<0) then
         Option.bind (aL r1.1) fun r142=>
         some (r142.1,())
        else
         some (r1.1,())
     else
      bif a2==2 then
       bif decide (r4.1>0) then
        Option.bind (bH 1) fun r143=>
        Option.bind (bg r1.1 r143.1) fun r144=>
        Option.bind (aM a0) fun r145=>
        bif decide (r145.1<0) then
         Option.bind (aL r144.1) fun r146=>
         some (r146.1,())
        else
         some (r144.1,())
       else
        bif r4.1==0 then
         Option.bind (gv r1.1) fun r147=>
         bif r147.1 then
          Option.bind (bH 1) fun r148=>
          Option.bind (bg r1.1 r148.1) fun r149=>
          Option.bind (aM a0) fun r150=>
          bif decide (r150.1<0) then
           Option.bind (aL r149.1) fun r151=>
           some (r151.1,())
          else
           some (r149.1,())
         else
          Option.bind (aM a0) fun r152=>
          bif decide (r152.1<0) then
           Option.bind (aL r1.1) fun r153=>
           some (r153.1,())
          else
           some (r1.1,())
        else
         Option.bind (aM a0) fun r154=>
         bif decide (r154.1<0) then
          Option.bind (aL r1.1) fun r155=>
          some (r155.1,())
         else
          some (r1.1,())
      else
       Option.bind (aM a0) fun r156=>
       bif decide (r156.1<0) then
        Option.bind (aL r1.1) fun r157=>
        some (r157.1,())
       else
        some (r1.1,())
 else
  Option.bind (aM a0) fun r158=>
  bif decide (r158.1<0) then
   Option.bind (aL r1.1) fun r159=>
   some (r159.1,())
  else
   some (r1.1,())
def jK (a0:aa):Option (Bool×Unit):=
 Option.bind (oD a0 1000000000000000) fun r1=>
 some (r1.2.1,())
def Hj (a0:ah) (a1:au):Option (aa×Bool×Unit):=
 Option.bind (bH a1.2.2.2.1.1) fun r1=>
 Option.bind (bH a1.2.2.2.2.2.1.1) fun r2=>
 Option.bind (fT r1.1 r2.1) fun r3=>
 Option.bind (pI a0.2.2.2.1) fun r4=>
 Option.bind (fT r3.1 r4.1) fun r5=>
 Option.bind (pI (w64 (a1.2.2.2.1.2+a1.2.2.2.2.2.1.2))) fun r6=>
 Option.bind (bH a1.2.2.2.2.2.2.1) fun r7=>
 Option.bind (fT r6.1 r7.1) fun r8=>
 Option.bind (tE r5.1 r8.1 a0.2.2.2.2.1) fun r9=>
 Option.bind (jK r9.1) fun r10=>
 some (r9.1,r10.1,())
def qS (a0:ak) (a1:Int):Option (aa×Unit):=
 Option.bind (bH a0.1) fun r1=>
 Option.bind (pI (w64 (a1 - a0.2))) fun r2=>
 Option.bind (fT r1.1 r2.1) fun r3=>
 some (r3.1,())
def rG (a0:ah) (a1:aa) (a2:ak):Option (aa×Unit):=
 Option.bind (bH a2.1) fun r1=>
 Option.bind (fT a1 r1.1) fun r2=>
 Option.bind (bH 100) fun r3=>
 Option.bind (pI a2.2) fun r4=>
 Option.bind (fT r3.1 r4.1) fun r5=>
 Option.bind (tE r2.1 r5.1 a0.2.2.2.2.1) fun r6=>
 some (r6.1,())
abbrev zw:Type:=Bool×(List av)×Int×Int×(List UInt8)×(List UInt8)×Int×Int×Int×Bool×(List aD)×(List au)×(List av)×Bool×(List Int)×Bool×(List Int)×Bool×(List Int)×Unit
abbrev KN:Type:=((aa×Bool×Unit) ⊕ (Bool×Bool×(List Int)×Bool×(List Int)×Unit))
def EJ (x1:zw) (again:zw→Option KN):Option KN:=
 match x1 with
 | (A,B,C,D,E,F,G,H,I,J,K,L,M,N,O,P,Q,R,S,_)=>
 bif decide (D<C) then
  Option.bind (idx B D) fun y2=>
  Option.bind (qS y2.2.1 (if y2.2.1.2>H then y2.2.1.2 else H)) fun r3=>
  aP (β:=((aa×Bool×Unit) ⊕ (Bool×Bool×(List Int)×Bool×(List Int)×Unit))) (γ:=(Bool×(List av)×Int×Int×(List UInt8)×(List UInt8)×Int×Int×Int×Bool×(List aD)×(List au)×(List av)×Bool×(List Int)×Bool×(List Int)×Bool×(List Int)×Bool×(List Int)×Unit)) (
   bif y2.1 then
    Option.bind (rG (E,F,G,H,I,J,K,L,M) (P,Q) y2.2.1) fun r4=>
    some (Sum.inr (A,B,C,D,E,F,G,H,I,J,K,L,M,N,O,P,Q,R,S,r4.1.1,r4.1.2,()))
   else
    some (Sum.inr (A,B,C,D,E,F,G,H,I,J,K,L,M,N,O,P,Q,R,S,r3.1.1,r3.1.2,()))) fun v5=>
  Option.bind (bg (v5.2.2.2.2.2.2.2.2.2.2.2.2.2.2.2.2.2.1,v5.2.2.2.2.2.2.2.2.2.2.2.2.2.2.2.2.2.2.1) (v5.2.2.2.2.2.2.2.2.2.2.2.2.2.2.2.2.2.2.2.1,v5.2.2.2.2.2.2.2.2.2.2.2.2.2.2.2.2.2.2.2.2.1)) fun r6=>
  bif v5.1 then
   Option.bind (jK (v5.2.2.2.2.2.2.2.2.2.2.2.2.2.2.2.2.2.2.2.1,v5.2.2.2.2.2.2.2.2.2.2.2.2.2.2.2.2.2.2.2.2.1)) fun r7=>
   bif r7.1 then
    Option.bind (jK r6.1) fun r8=>
    again (r8.1,v5.2.1,v5.2.2.1,w64 (v5.2.2.2.1+1),v5.2.2.2.2.1,v5.2.2.2.2.2.1,v5.2.2.2.2.2.2.1,v5.2.2.2.2.2.2.2.1,v5.2.2.2.2.2.2.2.2.1,v5.2.2.2.2.2.2.2.2.2.1,v5.2.2.2.2.2.2.2.2.2.2.1,v5.2.2.2.2.2.2.2.2.2.2.2.1,v5.2.2.2.2.2.2.2.2.2.2.2.2.1,v5.2.2.2.2.2.2.2.2.2.2.2.2.2.1,v5.2.2.2.2.2.2.2.2.2.2.2.2.2.2.1,v5.2.2.2.2.2.2.2.2.2.2.2.2.2.2.2.1,v5.2.2.2.2.2.2.2.2.2.2.2.2.2.2.2.2.1,r6.1.1,r6.1.2,())
   else
    again (false,v5.2.1,v5.2.2.1,w64 (v5.2.2.2.1+1),v5.2.2.2.2.1,v5.2.2.2.2.2.1,v5.2.2.2.2.2.2.1,v5.2.2.2.2.2.2.2.1,v5.2.2.2.2.2.2.2.2.1,v5.2.2.2.2.2.2.2.2.2.1,v5.2.2.2.2.2.2.2.2.2.2.1,v5.2.2.2.2.2.2.2.2.2.2.2.1,v5.2.2.2.2.2.2.2.2.2.2.2.2.1,v5.2.2.2.2.2.2.2.2.2.2.2.2.2.1,v5.2.2.2.2.2.2.2.2.2.2.2.2.2.2.1,v5.2.2.2.2.2.2.2.2.2.2.2.2.2.2.2.1,v5.2.2.2.2.2.2.2.2.2.2.2.2.2.2.2.2.1,r6.1.1,r6.1.2,())
  else
   again (false,v5.2.1,v5.2.2.1,w64 (v5.2.2.2.1+1),v5.2.2.2.2.1,v5.2.2.2.2.2.1,v5.2.2.2.2.2.2.1,v5.2.2.2.2.2.2.2.1,v5.2.2.2.2.2.2.2.2.1,v5.2.2.2.2.2.2.2.2.2.1,v5.2.2.2.2.2.2.2.2.2.2.1,v5.2.2.2.2.2.2.2.2.2.2.2.1,v5.2.2.2.2.2.2.2.2.2.2.2.2.1,v5.2.2.2.2.2.2.2.2.2.2.2.2.2.1,v5.2.2.2.2.2.2.2.2.2.2.2.2.2.2.1,v5.2.2.2.2.2.2.2.2.2.2.2.2.2.2.2.1,v5.2.2.2.2.2.2.2.2.2.2.2.2.2.2.2.2.1,r6.1.1,r6.1.2,())
 else
  some (Sum.inr (A,N,O,R,S,()))
def Mj (a0:ah) (a1:au):Option (aa×Bool×Unit):=
 Option.bind (Hj a0 a1) fun r1=>
 aP (β:=(aa×Bool×Unit)) (γ:=(Bool×Bool×(List Int)×Bool×(List Int)×Unit)) (
  iter (X:=zw) (β:=KN) (a1.2.2.2.2.2.2.2.1.length+(Int.natAbs ((a1.2.2.2.2.2.2.2.1.length:Int))+(Int.natAbs (0:Int)+(a0.1.length+(a0.2.1.length+(a0.2.2.1.natAbs+(a0.2.2.2.1.natAbs+(a0.2.2.2.2.1.natAbs+(a0.2.2.2.2.2.2.1.length+(a0.2.2.2.2.2.2.2.1.length+(a0.2.2.2.2.2.2.2.2.length+(List.length ([]:List Int)+(r1.1.2.length+(r1.1.2.length+2)))))))))))))) (r1.2.1,a1.2.2.2.2.2.2.2.1,(a1.2.2.2.2.2.2.2.1.length:Int),0,a0.1,a0.2.1,a0.2.2.1,a0.2.2.2.1,a0.2.2.2.2.1,a0.2.2.2.2.2.1,a0.2.2.2.2.2.2.1,a0.2.2.2.2.2.2.2.1,a0.2.2.2.2.2.2.2.2,false,[],r1.1.1,r1.1.2,r1.1.1,r1.1.2,()) (EJ)) fun v10=>
 some ((v10.2.2.2.1,v10.2.2.2.2.1),v10.1,())
abbrev vg:Type:=(List UInt8)×(List aD)×Int×Int×Unit
abbrev GB:Type:=((Int×Unit) ⊕ Unit)
def Aj (x1:vg) (again:vg→Option GB):Option GB:=
 match x1 with
 | (A,B,C,D,_)=>
 bif decide (D<C) then
  Option.bind (idx B D) fun y2=>
  bif y2.1==A then
   some (Sum.inl (D,()))
  else
   again (A,B,C,w64 (D+1),())
 else
  some (Sum.inr ())
def fJ (a0:ah) (a1:List UInt8):Option (Int×Unit):=
 aP (β:=(Int×Unit)) (γ:=Unit) (
  iter (X:=vg) (β:=GB) (List.length a1+(a0.2.2.2.2.2.2.1.length+(Int.natAbs ((a0.2.2.2.2.2.2.1.length:Int))+(Int.natAbs (0:Int)+2)))) (a1,a0.2.2.2.2.2.2.1,(a0.2.2.2.2.2.2.1.length:Int),0,()) (Aj)) fun _=>
 some ((-1),())
abbrev q9:Type:=Bool×(List av)×Int×Int×(List UInt8)×(List UInt8)×Int×Int×Int×Bool×(List aD)×(List au)×(List av)×Unit
abbrev wO:Type:=((Int×Unit) ⊕ Unit)
def qZ (x1:q9) (again:q9→Option wO):Option wO:=
 match x1 with
 | (A,B,C,D,E,F,G,H,I,J,K,L,M,_)=>
 bif decide (D<C) then
  Option.bind (idx B D) fun y2=>
  Option.bind (lO y2.2.1) fun r3=>
  bif r3.1 != 0 then
   some (Sum.inl (1,()))
  else
   bif y2.2.1.1==0 then
    some (Sum.inl (13,()))
   else
    bif y2.1 then
     Option.bind (mZ y2.2.1 (-100) 100 9) fun r4=>
     bif !r4.1 then
      some (Sum.inl (1,()))
     else
      bif !y2.1 then
       Option.bind (mZ y2.2.1 (-1000000000) 1000000000 H) fun r5=>
       bif !r5.1 then
        some (Sum.inl (1,()))
       else
        bif A then
         bif !(y2.2.2==[]) then
          some (Sum.inl (3,()))
         else
          bif !A then
           bif !(y2.2.2==[]) then
            Option.bind (fJ (E,F,G,H,I,J,K,L,M) y2.2.2) fun r6=>
            bif decide (r6.1<0) then
             some (Sum.inl (5,()))
            else
             again (A,B,C,w64 (D+1),E,F,G,H,I,J,K,L,M,())
           else
            again (A,B,C,w64 (D+1),E,F,G,H,I,J,K,L,M,())
          else
           again (A,B,C,w64 (D+1),E,F,G,H,I,J,K,L,M,())
        else
         bif !A then
          bif !(y2.2.2==[]) then
           Option.bind (fJ (E,F,G,H,I,J,K,L,M) y2.2.2) fun r7=>
           bif decide (r7.1<0) then
            some (Sum.inl (5,()))
           else
            again (A,B,C,w64 (D+1),E,F,G,H,I,J,K,L,M,())
          else
           again (A,B,C,w64 (D+1),E,F,G,H,I,J,K,L,M,())
         else
          again (A,B,C,w64 (D+1),E,F,G,H,I,J,K,L,M,())
      else
       bif A then
        bif !(y2.2.2==[]) then
         some (Sum.inl (3,()))
        else
         bif !A then
          bif !(y2.2.2==[]) then
           Option.bind (fJ (E,F,G,H,I,J,K,L,M) y2.2.2) fun r8=>
           bif decide (r8.1<0) then
            some (Sum.inl (5,()))
           else
            again (A,B,C,w64 (D+1),E,F,G,H,I,J,K,L,M,())
          else
           again (A,B,C,w64 (D+1),E,F,G,H,I,J,K,L,M,())
         else
          again (A,B,C,w64 (D+1),E,F,G,H,I,J,K,L,M,())
       else
        bif !A then
         bif !(y2.2.2==[]) then
          Option.bind (fJ (E,F,G,H,I,J,K,L,M) y2.2.2) fun r9=>
          bif decide (r9.1<0) then
           some (Sum.inl (5,()))
          else
           again (A,B,C,w64 (D+1),E,F,G,H,I,J,K,L,M,())
         else
          again (A,B,C,w64 (D+1),E,F,G,H,I,J,K,L,M,())
        else
         again (A,B,C,w64 (D+1),E,F,G,H,I,J,K,L,M,())
    else
     bif !y2.1 then
      Option.bind (mZ y2.2.1 (-1000000000) 1000000000 H) fun r10=>
      bif !r10.1 then
       some (Sum.inl (1,()))
      else
       bif A then
        bif !(y2.2.2==[]) then
         some (Sum.inl (3,()))
        else
         bif !A then
          bif !(y2.2.2==[]) then
           Option.bind (fJ (E,F,G,H,I,J,K,L,M) y2.2.2) fun r11=>
           bif decide (r11.1<0) then
            some (Sum.inl (5,()))
           else
            again (A,B,C,w64 (D+1),E,F,G,H,I,J,K,L,M,())
          else
           again (A,B,C,w64 (D+1),E,F,G,H,I,J,K,L,M,())
         else
          again (A,B,C,w64 (D+1),E,F,G,H,I,J,K,L,M,())
       else
        bif !A then
         bif !(y2.2.2==[]) then
          Option.bind (fJ (E,F,G,H,I,J,K,L,M) y2.2.2) fun r12=>
          bif decide (r12.1<0) then
           some (Sum.inl (5,()))
          else
           again (A,B,C,w64 (D+1),E,F,G,H,I,J,K,L,M,())
         else
          again (A,B,C,w64 (D+1),E,F,G,H,I,J,K,L,M,())
        else
         again (A,B,C,w64 (D+1),E,F,G,H,I,J,K,L,M,())
     else
      bif A then
       bif !(y2.2.2==[]) then
        some (Sum.inl (3,()))
       else
        bif !A then
         bif !(y2.2.2==[]) then
          Option.bind (fJ (E,F,G,H,I,J,K,L,M) y2.2.2) fun r13=>
          bif decide (r13.1<0) then
           some (Sum.inl (5,()))
          else
           again (A,B,C,w64 (D+1),E,F,G,H,I,J,K,L,M,())
         else
          again (A,B,C,w64 (D+1),E,F,G,H,I,J,K,L,M,())
        else
         again (A,B,C,w64 (D+1),E,F,G,H,I,J,K,L,M,())
      else
       bif !A then
        bif !(y2.2.2==[]) then
         Option.bind (fJ (E,F,G,H,I,J,K,L,M) y2.2.2) fun r14=>
         bif decide (r14.1<0) then
          some (Sum.inl (5,()))
         else
          again (A,B,C,w64 (D+1),E,F,G,H,I,J,K,L,M,())
        else
         again (A,B,C,w64 (D+1),E,F,G,H,I,J,K,L,M,())
       else
        again (A,B,C,w64 (D+1),E,F,G,H,I,J,K,L,M,())
 else
  some (Sum.inr ())
def lP (a0:ah) (a1:List av) (a2:Bool):Option (Int×Unit):=
 bif decide (((List.length a1:Int))>20) then
  some (2,())
 else
  aP (β:=(Int×Unit)) (γ:=Unit) (
   iter (X:=q9) (β:=wO) (List.length a1+(Int.natAbs ((List.length a1:Int))+(Int.natAbs (0:Int)+(a0.1.length+(a0.2.1.length+(a0.2.2.1.natAbs+(a0.2.2.2.1.natAbs+(a0.2.2.2.2.1.natAbs+(a0.2.2.2.2.2.2.1.length+(a0.2.2.2.2.2.2.2.1.length+(a0.2.2.2.2.2.2.2.2.length+2))))))))))) (a2,a1,(List.length a1:Int),0,a0.1,a0.2.1,a0.2.2.1,a0.2.2.2.1,a0.2.2.2.2.1,a0.2.2.2.2.2.1,a0.2.2.2.2.2.2.1,a0.2.2.2.2.2.2.2.1,a0.2.2.2.2.2.2.2.2,()) (qZ)) fun _=>
  some (0,())
def vp (a0:ah) (a1:Int):Option (Int×Unit):=
 Option.bind (idx a0.2.2.2.2.2.2.2.1 a1) fun y1=>
 Option.bind (nu y1.1 1 99999) fun r2=>
 bif !r2.1 then
  some (1,())
 else
  bif decide (a1>0) then
   Option.bind (idx a0.2.2.2.2.2.2.2.1 (w64 (a1 - 1))) fun y3=>
   bif decide (y1.1≤y3.1) then
    some (8,())
   else
    Option.bind (nu y1.2.1 1 99999) fun r4=>
    bif !r4.1 then
     some (1,())
    else
     Option.bind (pH y1.2.2.1) fun r5=>
     bif !r5.1 then
      some (5,())
     else
      Option.bind (mZ y1.2.2.2.1 (-1000000000) 1000000000 3) fun r6=>
      bif !r6.1 then
       some (1,())
      else
       bif y1.2.2.2.1.1==0 then
        some (13,())
       else
        Option.bind (pH y1.2.2.2.2.1) fun r7=>
        bif !r7.1 then
         some (5,())
        else
         Option.bind (mZ y1.2.2.2.2.2.1 0 1000000000 4) fun r8=>
         bif !r8.1 then
          some (1,())
         else
          Option.bind (nu y1.2.2.2.2.2.2.1 1 100000) fun r9=>
          bif !r9.1 then
           some (1,())
          else
           Option.bind (lP a0 y1.2.2.2.2.2.2.2.1 true) fun r10=>
           bif r10.1 != 0 then
            some (r10.1,())
           else
            Option.bind (fJ a0 y1.2.2.2.2.2.2.2.2) fun r11=>
            bif decide (r11.1<0) then
             some (5,())
            else
             some (0,())
  else
   Option.bind (nu y1.2.1 1 99999) fun r12=>
   bif !r12.1 then
    some (1,())
   else
    Option.bind (pH y1.2.2.1) fun r13=>
    bif !r13.1 then
     some (5,())
    else
     Option.bind (mZ y1.2.2.2.1 (-1000000000) 1000000000 3) fun r14=>
     bif !r14.1 then
      some (1,())
     else
      bif y1.2.2.2.1.1==0 then
       some (13,())
      else
       Option.bind (pH y1.2.2.2.2.1) fun r15=>
       bif !r15.1 then
        some (5,())
       else
        Option.bind (mZ y1.2.2.2.2.2.1 0 1000000000 4) fun r16=>
        bif !r16.1 then
         some (1,())
        else
         Option.bind (nu y1.2.2.2.2.2.2.1 1 100000) fun r17=>
         bif !r17.1 then
          some (1,())
         else
          Option.bind (lP a0 y1.2.2.2.2.2.2.2.1 true) fun r18=>
          bif r18.1 != 0 then
           some (r18.1,())
          else
           Option.bind (fJ a0 y1.2.2.2.2.2.2.2.2) fun r19=>
           bif decide (r19.1<0) then
            some (5,())
           else
            some (0,())
abbrev uy:Type:=(List aD)×Int×Int×(List UInt8)×(List UInt8)×Int×Int×Int×Bool×(List aD)×(List au)×(List av)×Unit
abbrev ux:Type:=((Int×Unit) ⊕ ((List UInt8)×(List UInt8)×Int×Int×Int×Bool×(List aD)×(List au)×(List av)×Unit))
def o4 (x1:uy) (again:uy→Option ux):Option ux:=
 match x1 with
 | (A,B,C,D,E,F,G,H,I,J,K,L,_)=>
 bif decide (C<B) then
  Option.bind (idx A C) fun y2=>
  Option.bind (pH y2.1) fun r3=>
  bif !r3.1 then
   some (Sum.inl (5,()))
  else
   bif decide (C>0) then
    Option.bind (idx J (w64 (C - 1))) fun y4=>
    bif Op.bytesLess y2.1 y4.1||y2.1==y4.1 then
     some (Sum.inl (8,()))
    else
     Option.bind (mZ y2.2 0 100 9) fun r5=>
     bif !r5.1 then
      some (Sum.inl (1,()))
     else
      again (A,B,w64 (C+1),D,E,F,G,H,I,J,K,L,())
   else
    Option.bind (mZ y2.2 0 100 9) fun r6=>
    bif !r6.1 then
     some (Sum.inl (1,()))
    else
     again (A,B,w64 (C+1),D,E,F,G,H,I,J,K,L,())
 else
  some (Sum.inr (D,E,F,G,H,I,J,K,L,()))
abbrev uk:Type:=Int×Int×(List UInt8)×(List UInt8)×Int×Int×Int×Bool×(List aD)×(List au)×(List av)×Unit
abbrev uG:Type:=((Int×Unit) ⊕ ((List UInt8)×(List UInt8)×Int×Int×Int×Bool×(List aD)×(List au)×(List av)×Unit))
def o8 (x1:uk) (again:uk→Option uG):Option uG:=
 match x1 with
 | (A,B,C,D,E,F,G,H,I,J,K,_)=>
 bif decide (B<A) then
  Option.bind (vp (C,D,E,F,G,H,I,J,K) B) fun r2=>
  bif r2.1 != 0 then
   some (Sum.inl (r2.1,()))
  else
   again (A,w64 (B+1),C,D,E,F,G,H,I,J,K,())
 else
  some (Sum.inr (C,D,E,F,G,H,I,J,K,()))
def p8 (a0:ah):Option (Int×Unit):=
 Option.bind (pH a0.1) fun r1=>
 bif !r1.1 then
  some (5,())
 else
  Option.bind (pH a0.2.1) fun r2=>
  bif !r2.1 then
   some (5,())
  else
   Option.bind (Ms a0.2.2.1) fun r3=>
   bif !r3.1 then
    some (1,())
   else
    Option.bind (nu a0.2.2.2.1 0 4) fun r4=>
    bif !r4.1 then
     some (1,())
    else
     Option.bind (nu a0.2.2.2.2.1 1 6) fun r5=>
     bif !r5.1 then
      some (4,())
     else
      bif ((a0.2.2.2.2.2.2.1.length:Int))==0 then
       some (9,())
      else
       bif decide (((a0.2.2.2.2.2.2.1.length:Int))>20) then
        some (2,())
       else
        aP (β:=(Int×Unit)) (γ:=((List UInt8)×(List UInt8)×Int×Int×Int×Bool×(List aD)×(List au)×(List av)×Unit)) (
         iter (X:=uy) (β:=ux) (a0.2.2.2.2.2.2.1.length+(Int.natAbs ((a0.2.2.2.2.2.2.1.length:Int))+(Int.natAbs (0:Int)+(a0.1.length+(a0.2.1.length+(a0.2.2.1.natAbs+(a0.2.2.2.1.natAbs+(a0.2.2.2.2.1.natAbs+(a0.2.2.2.2.2.2.1.length+(a0.2.2.2.2.2.2.2.1.length+(a0.2.2.2.2.2.2.2.2.length+2))))))))))) (a0.2.2.2.2.2.2.1,(a0.2.2.2.2.2.2.1.length:Int),0,a0.1,a0.2.1,a0.2.2.1,a0.2.2.2.1,a0.2.2.2.2.1,a0.2.2.2.2.2.1,a0.2.2.2.2.2.2.1,a0.2.2.2.2.2.2.2.1,a0.2.2.2.2.2.2.2.2,()) (o4)) fun v12=>
        bif ((v12.2.2.2.2.2.2.2.1.length:Int))==0 then
         some (9,())
        else
         bif decide (((v12.2.2.2.2.2.2.2.1.length:Int))>500) then
          some (2,())
         else
          aP (β:=(Int×Unit)) (γ:=((List UInt8)×(List UInt8)×Int×Int×Int×Bool×(List aD)×(List au)×(List av)×Unit)) (
           iter (X:=uk) (β:=uG) (Int.natAbs ((v12.2.2.2.2.2.2.2.1.length:Int))+(Int.natAbs (0:Int)+(v12.1.length+(v12.2.1.length+(v12.2.2.1.natAbs+(v12.2.2.2.1.natAbs+(v12.2.2.2.2.1.natAbs+(v12.2.2.2.2.2.2.1.length+(v12.2.2.2.2.2.2.2.1.length+(v12.2.2.2.2.2.2.2.2.1.length+2)))))))))) ((v12.2.2.2.2.2.2.2.1.length:Int),0,v12.1,v12.2.1,v12.2.2.1,v12.2.2.2.1,v12.2.2.2.2.1,v12.2.2.2.2.2.1,v12.2.2.2.2.2.2.1,v12.2.2.2.2.2.2.2.1,v12.2.2.2.2.2.2.2.2.1,()) (o8)) fun v15=>
          Option.bind (lP (v15.1,v15.2.1,v15.2.2.1,v15.2.2.2.1,v15.2.2.2.2.1,v15.2.2.2.2.2.1,v15.2.2.2.2.2.2.1,v15.2.2.2.2.2.2.2.1,v15.2.2.2.2.2.2.2.2.1) v15.2.2.2.2.2.2.2.2.1 false) fun r16=>
          some (r16.1,())
abbrev Dc:Type:=Int×Int×Bool×(List Int)×Bool×(List Int)×Bool×(List Int)×Unit
abbrev Mk:Type:=((ay×Int×Unit) ⊕ (Int×Bool×(List Int)×Bool×(List Int)×Unit))
def Hy (x1:Dc) (again:Dc→Option Mk):Option Mk:=
 match x1 with
 | (A,B,C,D,E,F,G,H,_)=>
 bif decide (B≥0) then
  Option.bind (idx D B) fun y2=>
  let n3:Int:=w64 (Int.tdiv (w64 ((w64 (A*1000000))+y2)) 2)
  let n4:Int:=Int.tmod (w64 ((w64 (A*1000000))+y2)) 2
  chk (decide (0≤B)&&decide (B<(H.length:Int))) <|
  Option.bind (H[B.toNat]?) fun _=>
  again (n4,w64 (B - 1),C,D,E,F,G,List.set H B.toNat n3,())
 else
  some (Sum.inr (A,E,F,G,H,()))
def Ql (a0:ay):Option (ay×Int×Unit):=
 chk (decide (0≤((a0.2.length:Int)))&&decide (((a0.2.length:Int))≤((a0.2.length:Int)))&&decide ((8:Int)*((a0.2.length:Int))≤281474976710656)&&decide (((a0.2.length:Int))≤9223372036854775807)) <|
 aP (β:=(ay×Int×Unit)) (γ:=(Int×Bool×(List Int)×Bool×(List Int)×Unit)) (
  iter (X:=Dc) (β:=Mk) (Int.natAbs (0:Int)+(Int.natAbs (w64 (((a0.2.length:Int)) - 1))+(a0.2.length+(List.length ([]:List Int)+(List.length ((List.replicate (Int.toNat ((a0.2.length:Int))) 0):List Int)+2))))) (0,w64 (((a0.2.length:Int)) - 1),a0.1,a0.2,false,[],false,List.replicate (Int.toNat ((a0.2.length:Int))) 0,()) (Hy)) fun v6=>
 Option.bind (oZ (v6.2.2.2.1,v6.2.2.2.2.1)) fun r7=>
 some (r7.1,v6.1,())
abbrev xb:Type:=(List Int)×Bool×(List Int)×Bool×(List Int)×Bool×(List Int)×Bool×(List Int)×Unit
abbrev I1:Type:=((ay×ay×Unit) ⊕ ((List Int)×Bool×(List Int)×Bool×(List Int)×Bool×(List Int)×Unit))
def n6 (x1:xb) (again:xb→Option I1):Option I1:=
 match x1 with
 | (A,B,C,D,E,F,G,H,I,_)=>
 Option.bind (Bm (H,I)) fun r2=>
 bif decide (r2.1>0) then
  Option.bind (Ql (H,I)) fun r3=>
  chk (decide (((A.length)+1)*8≤140737488355328)&&decide ((A.length)+1≤maxLen)) <|
  again (A++[r3.2.1],B,C,D,E,F,G,r3.1.1,r3.1.2,())
 else
  some (Sum.inr (A,B,C,D,E,F,G,()))
abbrev vz:Type:=(List Int)×Int×Bool×(List Int)×Bool×(List Int)×Bool×(List Int)×Bool×(List Int)×Bool×(List Int)×Bool×(List Int)×Unit
abbrev F4:Type:=((ay×ay×Unit) ⊕ (Bool×(List Int)×Bool×(List Int)×Bool×(List Int)×Bool×(List Int)×Unit))
def Ap (x1:vz) (again:vz→Option F4):Option F4:=
 match x1 with
 | (A,B,C,D,E,F,G,H,I,J,K,L,M,N,_)=>
 bif decide (B≥0) then
  Option.bind (gO (I,J) (M,N)) fun r2=>
  Option.bind (gO (K,L) (M,N)) fun r3=>
  chk (decide (0≤B)&&decide (B<(A.length:Int))) <|
  Option.bind (A[B.toNat]?) fun y4=>
  Option.bind (mg y4) fun r5=>
  Option.bind (yx r3.1 r5.1) fun r6=>
  Option.bind (Ma r6.1 (C,D)) fun r7=>
  bif decide (r7.1≥0) then
   Option.bind (mg 1) fun r8=>
   Option.bind (yx r2.1 r8.1) fun r9=>
   Option.bind (uJ (C,D)) fun r10=>
   Option.bind (yx r6.1 r10.1) fun r11=>
   again (A,w64 (B - 1),C,D,E,F,G,H,r9.1.1,r9.1.2,r11.1.1,r11.1.2,M,N,())
  else
   again (A,w64 (B - 1),C,D,E,F,G,H,r2.1.1,r2.1.2,r6.1.1,r6.1.2,M,N,())
 else
  some (Sum.inr (E,F,G,H,I,J,K,L,()))
def Fu (a0:ay) (a1:ay):Option (ay×ay×Unit):=
 aP (β:=(ay×ay×Unit)) (γ:=((List Int)×Bool×(List Int)×Bool×(List Int)×Bool×(List Int)×Unit)) (
  iter (X:=xb) (β:=I1) ((20*List.length (([],a1.1,a1.2,false,[],false,[],a0.1,a0.2,()):xb).2.2.2.2.2.2.2.2.1+2)) ([],a1.1,a1.2,false,[],false,[],a0.1,a0.2,()) (n6)) fun v4=>
 Option.bind (mg 2) fun r5=>
 aP (β:=(ay×ay×Unit)) (γ:=(Bool×(List Int)×Bool×(List Int)×Bool×(List Int)×Bool×(List Int)×Unit)) (
  iter (X:=vz) (β:=F4) (v4.1.length+(Int.natAbs (w64 (((v4.1.length:Int)) - 1))+(v4.2.2.1.length+(v4.2.2.2.2.1.length+(v4.2.2.2.2.2.2.1.length+(List.length ([]:List Int)+(List.length ([]:List Int)+(r5.1.2.length+2)))))))) (v4.1,w64 (((v4.1.length:Int)) - 1),v4.2.1,v4.2.2.1,v4.2.2.2.1,v4.2.2.2.2.1,v4.2.2.2.2.2.1,v4.2.2.2.2.2.2.1,false,[],false,[],r5.1.1,r5.1.2,()) (Ap)) fun v17=>
 some ((v17.2.2.2.2.1,v17.2.2.2.2.2.1),(v17.2.2.2.2.2.2.1,v17.2.2.2.2.2.2.2.1),())
def Me (a0:ay) (a1:ay) (a2:Int):Option (ay×Unit):=
 Option.bind (Fu (false,a0.2) a1) fun r1=>
 Option.bind (mg 2) fun r2=>
 Option.bind (gO r1.2.1 r2.1) fun r3=>
 Option.bind (Ma r3.1 a1) fun r4=>
 aP (β:=(ay×Unit)) (γ:=(Bool×Bool×Bool×(List Int)×Bool×(List Int)×Unit)) (
  bif a2==1 then
   some (Sum.inr (a0.1,decide (r4.1≥0),false,[],r1.1.1,r1.1.2,()))
  else
   bif a2==2 then
    bif decide (r4.1>0) then
     some (Sum.inr (a0.1,true,false,[],r1.1.1,r1.1.2,()))
    else
     bif r4.1==0 then
      Option.bind (xQ r1.1.2 0) fun r5=>
      some (Sum.inr (a0.1,(Int.tmod r5.1 2)==1,false,[],r1.1.1,r1.1.2,()))
     else
      some (Sum.inr (a0.1,false,false,[],r1.1.1,r1.1.2,()))
   else
    bif a2==4 then
     Option.bind (Bm r1.2.1) fun r6=>
     some (Sum.inr (a0.1,decide (r6.1>0),false,[],r1.1.1,r1.1.2,()))
    else
     bif a2==5 then
      bif a0.1 then
       Option.bind (Bm r1.2.1) fun r7=>
       some (Sum.inr (a0.1,decide (r7.1>0),false,[],r1.1.1,r1.1.2,()))
      else
       some (Sum.inr (a0.1,false,false,[],r1.1.1,r1.1.2,()))
     else
      bif a2==6 then
       bif !a0.1 then
        Option.bind (Bm r1.2.1) fun r8=>
        some (Sum.inr (a0.1,decide (r8.1>0),false,[],r1.1.1,r1.1.2,()))
       else
        some (Sum.inr (a0.1,false,false,[],r1.1.1,r1.1.2,()))
      else
       some (Sum.inr (a0.1,false,false,[],r1.1.1,r1.1.2,()))) fun v9=>
 bif v9.2.1 then
  Option.bind (mg 1) fun r10=>
  Option.bind (yx (v9.2.2.2.2.1,v9.2.2.2.2.2.1) r10.1) fun r11=>
  bif v9.1 then
   Option.bind (uJ r11.1) fun r12=>
   some (r12.1,())
  else
   some (r11.1,())
 else
  bif v9.1 then
   Option.bind (uJ (v9.2.2.2.2.1,v9.2.2.2.2.2.1)) fun r13=>
   some (r13.1,())
  else
   some ((v9.2.2.2.2.1,v9.2.2.2.2.2.1),())
abbrev z7:Type:=Int×Int×Bool×(List Int)×Unit
abbrev KI:Type:=((Int×Bool×Unit) ⊕ (Int×Bool×(List Int)×Unit))
def EI (x1:z7) (again:z7→Option KI):Option KI:=
 match x1 with
 | (A,B,C,D,_)=>
 bif decide (B≥0) then
  Option.bind (idx D B) fun y2=>
  again (w64 ((w64 (A*1000000))+y2),w64 (B - 1),C,D,())
 else
  some (Sum.inr (A,C,D,()))
def A9 (a0:ay) (a1:Int):Option (Int×Bool×Unit):=
 Option.bind (mg a1) fun r1=>
 Option.bind (Ei a0.2 r1.1.2) fun r2=>
 bif decide (r2.1>0) then
  some (0,false,())
 else
  aP (β:=(Int×Bool×Unit)) (γ:=(Int×Bool×(List Int)×Unit)) (
   iter (X:=z7) (β:=KI) (Int.natAbs (0:Int)+(Int.natAbs (w64 (((a0.2.length:Int)) - 1))+(a0.2.length+2))) (0,w64 (((a0.2.length:Int)) - 1),a0.1,a0.2,()) (EI)) fun v5=>
  bif v5.2.1 then
   some (w64 (0 - v5.1),true,())
  else
   some (v5.1,true,())
def zK (a0:ah) (a1:ay) (a2:ay):Option (Int×Bool×Unit):=
 Option.bind (Me a1 a2 a0.2.2.2.2.1) fun r1=>
 Option.bind (A9 r1.1 1000000000000000) fun r2=>
 some (r2.1,r2.2.1,())
def Jx (a0:ah) (a1:au):Option (Int×Bool×Unit):=
 Option.bind (mg a1.2.2.2.1.1) fun r1=>
 Option.bind (mg a1.2.2.2.2.2.1.1) fun r2=>
 Option.bind (gO r1.1 r2.1) fun r3=>
 Option.bind (wQ a0.2.2.2.1) fun r4=>
 Option.bind (gO r3.1 r4.1) fun r5=>
 Option.bind (wQ (w64 (a1.2.2.2.1.2+a1.2.2.2.2.2.1.2))) fun r6=>
 Option.bind (mg a1.2.2.2.2.2.2.1) fun r7=>
 Option.bind (gO r6.1 r7.1) fun r8=>
 Option.bind (zK a0 r5.1 r8.1) fun r9=>
 some (r9.1,r9.2.1,())
def uL (a0:ah) (a1:Int):Option (ak×Unit):=
 some ((a1,a0.2.2.2.1),())
def pG (a0:ah) (a1:Int) (a2:ak):Option (Int×Bool×Unit):=
 Option.bind (mg a1) fun r1=>
 Option.bind (mg a2.1) fun r2=>
 Option.bind (gO r1.1 r2.1) fun r3=>
 Option.bind (wQ a2.2) fun r4=>
 Option.bind (mg 100) fun r5=>
 Option.bind (gO r4.1 r5.1) fun r6=>
 Option.bind (zK a0 r3.1 r6.1) fun r7=>
 some (r7.1,r7.2.1,())
def B8 (a0:ah) (a1:av) (a2:Int):Option (Int×Bool×Unit):=
 bif a1.1 then
  Option.bind (pG a0 a2 a1.2.1) fun r1=>
  some (r1.1,r1.2.1,())
 else
  Option.bind (J2 a1.2.1 a0.2.2.2.1) fun r2=>
  Option.bind (A9 r2.1 1000000000000000) fun r3=>
  some (r3.1,r3.2.1,())
def nR (a0:Int):Option (Bool×Unit):=
 Option.bind (nu a0 (-1000000000000000) 1000000000000000) fun r1=>
 some (r1.1,())
abbrev De:Type:=Int×Int×(List av)×Int×Int×(List UInt8)×(List UInt8)×Int×Int×Int×Bool×(List aD)×(List au)×(List av)×Unit
abbrev Hw:Type:=((Int×Bool×Unit) ⊕ (Int×Unit))
def G8 (x1:De) (again:De→Option Hw):Option Hw:=
 match x1 with
 | (A,B,C,D,E,F,G,H,I,J,K,L,M,N,_)=>
 bif decide (E<D) then
  Option.bind (idx C E) fun y2=>
  Option.bind (B8 (F,G,H,I,J,K,L,M,N) y2 A) fun r3=>
  bif !r3.2.1 then
   some (Sum.inl (0,false,()))
  else
   Option.bind (nR (w64 (B+r3.1))) fun r4=>
   bif !r4.1 then
    some (Sum.inl (0,false,()))
   else
    again (A,w64 (B+r3.1),C,D,w64 (E+1),F,G,H,I,J,K,L,M,N,())
 else
  some (Sum.inr (B,()))
def QL (a0:ah) (a1:au):Option (Int×Bool×Unit):=
 Option.bind (Jx a0 a1) fun r1=>
 bif !r1.2.1 then
  some (0,false,())
 else
  aP (β:=(Int×Bool×Unit)) (γ:=(Int×Unit)) (
   iter (X:=De) (β:=Hw) (r1.1.natAbs+(r1.1.natAbs+(a1.2.2.2.2.2.2.2.1.length+(Int.natAbs ((a1.2.2.2.2.2.2.2.1.length:Int))+(Int.natAbs (0:Int)+(a0.1.length+(a0.2.1.length+(a0.2.2.1.natAbs+(a0.2.2.2.1.natAbs+(a0.2.2.2.2.1.natAbs+(a0.2.2.2.2.2.2.1.length+(a0.2.2.2.2.2.2.2.1.length+(a0.2.2.2.2.2.2.2.2.length+2))))))))))))) (r1.1,r1.1,a1.2.2.2.2.2.2.2.1,(a1.2.2.2.2.2.2.2.1.length:Int),0,a0.1,a0.2.1,a0.2.2.1,a0.2.2.2.1,a0.2.2.2.2.1,a0.2.2.2.2.2.1,a0.2.2.2.2.2.2.1,a0.2.2.2.2.2.2.2.1,a0.2.2.2.2.2.2.2.2,()) (G8)) fun v6=>
  some (v6.1,true,())
end Go.Md
namespace Go.Md
open Go.Dn
abbrev pN:Ty:=(.st (.pair (.slice tI) (.pair (.slice tI) (.pair (.slice (.slice tI)) (.pair (.slice tI) (.pair (.slice tI) (.pair (.slice tI) (.pair (.slice .bool) (.st (.pair tI (.pair tI (.pair tI (.pair tI tI)))))))))))))
abbrev bC:Type:=(List Int)×(List Int)×(List (List Int))×(List Int)×(List Int)×(List Int)×(List Bool)×(Int×Int×Int×Int×Int)
def um (a0:aa):Option (Bool×Unit):=
 Option.bind (jK a0) fun r1=>
 some (!r1.1,())
def wR (a0:aa):Option (Bool×Unit):=
 Option.bind (jK a0) fun r1=>
 some (!r1.1,())
def AR (a0:aa):Option (Bool×Unit):=
 Option.bind (jK a0) fun r1=>
 some (!r1.1,())
def vN (a0:aa):Option (Bool×Unit):=
 Option.bind (jK a0) fun r1=>
 some (!r1.1,())
abbrev fZ:Type:=(List aa)×Unit×Int×Int×Unit
abbrev mb:Type:=((Int×Unit) ⊕ Unit)
def gf (x1:fZ) (again:fZ→Option mb):Option mb:=
 match x1 with
 | (A,B,C,D,_)=>
 bif decide (D<C) then
  Option.bind (idx A D) fun y2=>
  Option.bind (um y2) fun r3=>
  bif r3.1 then
   some (Sum.inl (D,()))
  else
   again (A,B,C,w64 (D+1),())
 else
  some (Sum.inr ())
def ou (a0:List aa) (a1:Unit):Option (Int×Unit):=
 aP (β:=(Int×Unit)) (γ:=Unit) (
  iter (X:=fZ) (β:=mb) (List.length a0+(Int.natAbs ((List.length a0:Int))+(Int.natAbs (0:Int)+2))) (a0,a1,(List.length a0:Int),0,()) (gf)) fun _=>
 some ((-1),())
abbrev fh:Type:=(List aa)×Unit×Int×Int×Unit
abbrev lu:Type:=((Int×Unit) ⊕ Unit)
def fo (x1:fh) (again:fh→Option lu):Option lu:=
 match x1 with
 | (A,B,C,D,_)=>
 bif decide (D<C) then
  Option.bind (idx A D) fun y2=>
  Option.bind (wR y2) fun r3=>
  bif r3.1 then
   some (Sum.inl (D,()))
  else
   again (A,B,C,w64 (D+1),())
 else
  some (Sum.inr ())
def mO (a0:List aa) (a1:Unit):Option (Int×Unit):=
 aP (β:=(Int×Unit)) (γ:=Unit) (
  iter (X:=fh) (β:=lu) (List.length a0+(Int.natAbs ((List.length a0:Int))+(Int.natAbs (0:Int)+2))) (a0,a1,(List.length a0:Int),0,()) (fo)) fun _=>
 some ((-1),())
abbrev eZ:Type:=(List aa)×Unit×Int×Int×Unit
abbrev lg:Type:=((Int×Unit) ⊕ Unit)
def fm (x1:eZ) (again:eZ→Option lg):Option lg:=
 match x1 with
 | (A,B,C,D,_)=>
 bif decide (D<C) then
  Option.bind (idx A D) fun y2=>
  Option.bind (AR y2) fun r3=>
  bif r3.1 then
   some (Sum.inl (D,()))
  else
   again (A,B,C,w64 (D+1),())
 else
  some (Sum.inr ())
def mW (a0:List aa) (a1:Unit):Option (Int×Unit):=
 aP (β:=(Int×Unit)) (γ:=Unit) (
  iter (X:=eZ) (β:=lg) (List.length a0+(Int.natAbs ((List.length a0:Int))+(Int.natAbs (0:Int)+2))) (a0,a1,(List.length a0:Int),0,()) (fm)) fun _=>
 some ((-1),())
abbrev fj:Type:=(List aa)×Unit×Int×Int×Unit
abbrev lz:Type:=((Int×Unit) ⊕ Unit)
def eY (x1:fj) (again:fj→Option lz):Option lz:=
 match x1 with
 | (A,B,C,D,_)=>
 bif decide (D<C) then
  Option.bind (idx A D) fun y2=>
  Option.bind (vN y2) fun r3=>
  bif r3.1 then
   some (Sum.inl (D,()))
  else
   again (A,B,C,w64 (D+1),())
 else
  some (Sum.inr ())
def mS (a0:List aa) (a1:Unit):Option (Int×Unit):=
 aP (β:=(Int×Unit)) (γ:=Unit) (
  iter (X:=fj) (β:=lz) (List.length a0+(Int.natAbs ((List.length a0:Int))+(Int.natAbs (0:Int)+2))) (a0,a1,(List.length a0:Int),0,()) (eY)) fun _=>
 some ((-1),())
def iU (a0:List aa) (a1:Unit):Option (Bool×Unit):=
 Option.bind (ou a0 a1) fun r1=>
 some (decide (r1.1≥0),())
def bU (a0:List aa) (a1:Unit):Option (Bool×Unit):=
 Option.bind (mO a0 a1) fun r1=>
 some (decide (r1.1≥0),())
def gY (a0:List aa) (a1:Unit):Option (Bool×Unit):=
 Option.bind (mW a0 a1) fun r1=>
 some (decide (r1.1≥0),())
def gX (a0:List aa) (a1:Unit):Option (Bool×Unit):=
 Option.bind (mS a0 a1) fun r1=>
 some (decide (r1.1≥0),())
noncomputable def nk (a0:List aa):Option ((List aa)×Unit):=
 bif List.isEmpty a0 then
  both (
   some ([],())) (
   chk (decide ((0+(List.length a0))*32≤140737488355328)&&decide (0+(List.length a0)≤maxLen)) <|
   some (a0,()))
 else
  chk (decide ((0+(List.length a0))*32≤140737488355328)&&decide (0+(List.length a0)≤maxLen)) <|
  some (a0,())
abbrev iQ:Type:=(List au)×Int×Int×(List UInt8)×(List UInt8)×Int×Int×Int×Bool×(List aD)×(List au)×(List av)×(List aa)×(List aO)×(List aa)×(List Bool)×(List aa)×(List aa)×(List aa)×Unit
abbrev th:Type:=((Int×(ah×(List aa)×(List aa)×(List aa)×(List aO)×(List aa)×(List Bool)×(List aa)×Unit)×Unit) ⊕ ((List UInt8)×(List UInt8)×Int×Int×Int×Bool×(List aD)×(List au)×(List av)×(List aa)×(List aO)×(List aa)×(List Bool)×(List aa)×(List aa)×(List aa)×Unit))
noncomputable def kI (x1:iQ) (again:iQ→Option th):Option th:=
 match x1 with
 | (A,B,C,D,E,F,G,H,I,J,K,L,M,N,O,P,Q,R,S,_)=>
 bif decide (C<B) then
  Option.bind (idx A C) fun y2=>
  Option.bind (Mj (D,E,F,G,H,I,J,K,L) y2) fun r3=>
  bif !r3.2.1 then
   some (Sum.inl (1,((D,E,F,G,H,I,J,K,L),M,O,Q,N,R,P,S,()),()))
  else
   Option.bind (sk J y2.2.2.2.2.2.2.2.2) fun r4=>
   chk (decide (((M.length)+1)*32≤140737488355328)&&decide ((M.length)+1≤maxLen)) <|
   chk (decide (0≤r4.1)&&decide (r4.1<(O.length:Int))) <|
   Option.bind (O[r4.1.toNat]?) fun y5=>
   Option.bind (bg y5 r3.1) fun r6=>
   chk (decide (0≤r4.1)&&decide (r4.1<(O.length:Int))) <|
   Option.bind (O[r4.1.toNat]?) fun _=>
   chk (decide (((N.length)+1)*40≤140737488355328)&&decide ((N.length)+1≤maxLen)) <|
   chk (decide (0≤r4.1)&&decide (r4.1<(P.length:Int))) <|
   Option.bind (P[r4.1.toNat]?) fun _=>
   again (A,B,w64 (C+1),D,E,F,G,H,I,J,K,L,M++[r3.1],N++[(r4.1,r3.1)],List.set O r4.1.toNat r6.1,List.set P r4.1.toNat true,Q,R,S,())
 else
  some (Sum.inr (D,E,F,G,H,I,J,K,L,M,N,O,P,Q,R,S,()))
noncomputable def nL (a0:ah×(List aa)×(List aa)×(List aa)×(List aO)×(List aa)×(List Bool)×(List aa)×Unit):Option (Int×(ah×(List aa)×(List aa)×(List aa)×(List aO)×(List aa)×(List Bool)×(List aa)×Unit)×Unit):=
 chk (decide (0≤((a0.1.2.2.2.2.2.2.1.length:Int)))&&decide (((a0.1.2.2.2.2.2.2.1.length:Int))≤((a0.1.2.2.2.2.2.2.1.length:Int)))&&decide ((32:Int)*((a0.1.2.2.2.2.2.2.1.length:Int))≤281474976710656)&&decide (((a0.1.2.2.2.2.2.2.1.length:Int))≤9223372036854775807)) <|
 chk (decide (0≤((a0.1.2.2.2.2.2.2.1.length:Int)))&&decide (((a0.1.2.2.2.2.2.2.1.length:Int))≤((a0.1.2.2.2.2.2.2.1.length:Int)))&&decide ((1:Int)*((a0.1.2.2.2.2.2.2.1.length:Int))≤281474976710656)&&decide (((a0.1.2.2.2.2.2.2.1.length:Int))≤9223372036854775807)) <|
 aP (β:=(Int×(ah×(List aa)×(List aa)×(List aa)×(List aO)×(List aa)×(List Bool)×(List aa)×Unit)×Unit)) (γ:=((List UInt8)×(List UInt8)×Int×Int×Int×Bool×(List aD)×(List au)×(List av)×(List aa)×(List aO)×(List aa)×(List Bool)×(List aa)×(List aa)×(List aa)×Unit)) (
  iter (X:=iQ) (β:=th) (a0.1.2.2.2.2.2.2.2.1.length+(Int.natAbs ((a0.1.2.2.2.2.2.2.2.1.length:Int))+(Int.natAbs (0:Int)+(a0.1.1.length+(a0.1.2.1.length+(a0.1.2.2.1.natAbs+(a0.1.2.2.2.1.natAbs+(a0.1.2.2.2.2.1.natAbs+(a0.1.2.2.2.2.2.2.1.length+(a0.1.2.2.2.2.2.2.2.1.length+(a0.1.2.2.2.2.2.2.2.2.length+(a0.2.1.length+(a0.2.2.2.2.1.length+(List.length ((List.replicate (Int.toNat ((a0.1.2.2.2.2.2.2.1.length:Int))) (false,[]):List (aa)):List aa)+(List.length ((List.replicate (Int.toNat ((a0.1.2.2.2.2.2.2.1.length:Int))) false:List (Bool)):List Bool)+(a0.2.2.2.1.length+(a0.2.2.2.2.2.1.length+(a0.2.2.2.2.2.2.2.1.length+2)))))))))))))))))) (a0.1.2.2.2.2.2.2.2.1,(a0.1.2.2.2.2.2.2.2.1.length:Int),0,a0.1.1,a0.1.2.1,a0.1.2.2.1,a0.1.2.2.2.1,a0.1.2.2.2.2.1,a0.1.2.2.2.2.2.1,a0.1.2.2.2.2.2.2.1,a0.1.2.2.2.2.2.2.2.1,a0.1.2.2.2.2.2.2.2.2,a0.2.1,a0.2.2.2.2.1,(List.replicate (Int.toNat ((a0.1.2.2.2.2.2.2.1.length:Int))) (false,[]):List (aa)),(List.replicate (Int.toNat ((a0.1.2.2.2.2.2.2.1.length:Int))) false:List (Bool)),a0.2.2.2.1,a0.2.2.2.2.2.1,a0.2.2.2.2.2.2.2.1,()) (kI)) fun v9=>
 Option.bind (iU v9.2.2.2.2.2.2.2.2.2.2.2.1 ()) fun r10=>
 bif r10.1 then
  some (1,((v9.1,v9.2.1,v9.2.2.1,v9.2.2.2.1,v9.2.2.2.2.1,v9.2.2.2.2.2.1,v9.2.2.2.2.2.2.1,v9.2.2.2.2.2.2.2.1,v9.2.2.2.2.2.2.2.2.1),v9.2.2.2.2.2.2.2.2.2.1,v9.2.2.2.2.2.2.2.2.2.2.2.1,v9.2.2.2.2.2.2.2.2.2.2.2.2.2.1,v9.2.2.2.2.2.2.2.2.2.2.1,v9.2.2.2.2.2.2.2.2.2.2.2.2.2.2.1,v9.2.2.2.2.2.2.2.2.2.2.2.2.1,v9.2.2.2.2.2.2.2.2.2.2.2.2.2.2.2.1,()),())
 else
  Option.bind (nk v9.2.2.2.2.2.2.2.2.2.2.2.1) fun r11=>
  some (0,((v9.1,v9.2.1,v9.2.2.1,v9.2.2.2.1,v9.2.2.2.2.1,v9.2.2.2.2.2.1,v9.2.2.2.2.2.2.1,v9.2.2.2.2.2.2.2.1,v9.2.2.2.2.2.2.2.2.1),v9.2.2.2.2.2.2.2.2.2.1,v9.2.2.2.2.2.2.2.2.2.2.2.1,r11.1,v9.2.2.2.2.2.2.2.2.2.2.1,v9.2.2.2.2.2.2.2.2.2.2.2.2.2.2.1,v9.2.2.2.2.2.2.2.2.2.2.2.2.1,v9.2.2.2.2.2.2.2.2.2.2.2.2.2.2.2.1,()),())
def fV (a0:ah×(List aa)×(List aa)×(List aa)×(List aO)×(List aa)×(List Bool)×(List aa)×Unit) (a1:Int) (a2:aa):Option ((ah×(List aa)×(List aa)×(List aa)×(List aO)×(List aa)×(List Bool)×(List aa)×Unit)×Unit):=
 chk (decide (0≤a1)&&decide (a1<(a0.2.2.2.1.length:Int))) <|
 Option.bind (a0.2.2.2.1[a1.toNat]?) fun y1=>
 Option.bind (bg y1 a2) fun r2=>
 chk (decide (0≤a1)&&decide (a1<(a0.2.2.2.1.length:Int))) <|
 Option.bind (a0.2.2.2.1[a1.toNat]?) fun _=>
 chk (decide (((a0.2.2.2.2.1.length)+1)*40≤140737488355328)&&decide ((a0.2.2.2.2.1.length)+1≤maxLen)) <|
 some ((a0.1,a0.2.1,a0.2.2.1,List.set a0.2.2.2.1 a1.toNat r2.1,a0.2.2.2.2.1++[(a1,a2)],a0.2.2.2.2.2.1,a0.2.2.2.2.2.2.1,a0.2.2.2.2.2.2.2.1,()),())
def Ac (a0:aa):Option (aa×Unit):=
 Option.bind (ji false a0.2) fun r1=>
 some (r1.1,())
def vP (a0:Int):Option (Bool×Unit):=
 some (decide (a0>1000000000),())
abbrev jr:Type:=(List Int)×Unit×Int×Int×Unit
abbrev qK:Type:=((Int×Unit) ⊕ Unit)
def jn (x1:jr) (again:jr→Option qK):Option qK:=
 match x1 with
 | (A,B,C,D,_)=>
 bif decide (D<C) then
  Option.bind (idx A D) fun y2=>
  Option.bind (vP y2) fun r3=>
  bif r3.1 then
   some (Sum.inl (D,()))
  else
   again (A,B,C,w64 (D+1),())
 else
  some (Sum.inr ())
def uH (a0:List Int) (a1:Unit):Option (Int×Unit):=
 aP (β:=(Int×Unit)) (γ:=Unit) (
  iter (X:=jr) (β:=qK) (List.length a0+(Int.natAbs ((List.length a0:Int))+(Int.natAbs (0:Int)+2))) (a0,a1,(List.length a0:Int),0,()) (jn)) fun _=>
 some ((-1),())
def jm (a0:List Int) (a1:Unit):Option (Bool×Unit):=
 Option.bind (uH a0 a1) fun r1=>
 some (decide (r1.1≥0),())
abbrev nt:Type:=Int×(List Int)×Int×Int×Unit
abbrev rU:Type:=((Int×Unit) ⊕ (Int×Unit))
def nj (x1:nt) (again:nt→Option rU):Option rU:=
 bif decide (x1.2.2.2.1<x1.2.2.1) then
  Option.bind (idx x1.2.1 x1.2.2.2.1) fun y2=>
  Option.bind (cE y2 0 1000000000) fun r3=>
  bif r3.1 then
   some (Sum.inl (1,()))
  else
   again (w64 (x1.1+y2),x1.2.1,x1.2.2.1,w64 (x1.2.2.2.1+1),())
 else
  some (Sum.inr (x1.1,()))
def qA (a0:List Int):Option (Int×Unit):=
 bif ((List.length a0:Int))==0 then
  some (9,())
 else
  bif decide (((List.length a0:Int))>1000) then
   some (2,())
  else
   aP (β:=(Int×Unit)) (γ:=(Int×Unit)) (
    iter (X:=nt) (β:=rU) (Int.natAbs (0:Int)+(List.length a0+(Int.natAbs ((List.length a0:Int))+(Int.natAbs (0:Int)+2)))) (0,a0,(List.length a0:Int),0,()) (nj)) fun v4=>
   bif v4.1==0 then
    some (13,())
   else
    some (0,())
def lJ (a0:aj) (a1:aj):Option (Int×Unit):=
 Option.bind (oX a1.2.2 a0.2.2) fun r1=>
 some (r1.1,())
abbrev dz:Type:=Int×Int×Unit×Int×Int×(List aj)×Unit
abbrev dn:Type:=((((List aj)×Unit) ⊕ ((List aj)×Unit)) ⊕ (Int×Int×Unit×Int×(List aj)×Unit))
def dy (x1:dz) (again:dz→Option dn):Option dn:=
 match x1 with
 | (A,B,C,D,E,F,_)=>
 bif decide (E>A) then
  chk (decide (0≤E)&&decide (E<(F.length:Int))) <|
  Option.bind (F[E.toNat]?) fun y2=>
  chk (decide (0≤(w64 (E - 1)))&&decide ((w64 (E - 1))<(F.length:Int))) <|
  Option.bind (F[(w64 (E - 1)).toNat]?) fun y3=>
  Option.bind (lJ y2 y3) fun r4=>
  bif decide (r4.1<0) then
   chk (decide (0≤(w64 (E - 1)))&&decide ((w64 (E - 1))<(F.length:Int))) <|
   Option.bind (F[(w64 (E - 1)).toNat]?) fun y5=>
   chk (decide (0≤E)&&decide (E<(F.length:Int))) <|
   Option.bind (F[E.toNat]?) fun y6=>
   chk (decide (0≤E)&&decide (E<(F.length:Int))) <|
   Option.bind (F[E.toNat]?) fun _=>
   chk (decide (0≤(w64 (E - 1)))&&decide ((w64 (E - 1))<(List.length (List.set F E.toNat y5):Int))) <|
   Option.bind ((List.set F E.toNat y5)[(w64 (E - 1)).toNat]?) fun _=>
   again (A,B,C,D,w64 (E - 1),List.set (List.set F E.toNat y5) (w64 (E - 1)).toNat y6,())
  else
   some (Sum.inr (A,B,C,D,F,()))
 else
  some (Sum.inr (A,B,C,D,F,()))
abbrev dx:Type:=Int×Int×Unit×Int×(List aj)×Unit
abbrev dw:Type:=(((List aj)×Unit) ⊕ ((List aj)×Unit))
def cm (x1:dx) (again:dx→Option dw):Option dw:=
 match x1 with
 | (A,B,C,D,E,_)=>
 bif decide (D<B) then
  aP (β:=(((List aj)×Unit) ⊕ ((List aj)×Unit))) (γ:=(Int×Int×Unit×Int×(List aj)×Unit)) (
   iter (X:=dz) (β:=dn) (A.natAbs+(B.natAbs+(D.natAbs+(D.natAbs+(E.length+2))))) (A,B,C,D,D,E,()) (dy)) fun v2=>
  again (v2.1,v2.2.1,v2.2.2.1,w64 (v2.2.2.2.1+1),v2.2.2.2.2.1,())
 else
  some (Sum.inr (E,()))
def cH (a0:List aj) (a1:Int) (a2:Int) (a3:Unit):Option ((List aj)×Unit):=
 aP (β:=((List aj)×Unit)) (γ:=((List aj)×Unit)) (
  iter (X:=dx) (β:=dw) (Int.natAbs a1+(Int.natAbs a2+(Int.natAbs (w64 (a1+1))+(List.length a0+2)))) (a1,a2,a3,w64 (a1+1),a0,()) (cm)) fun v11=>
 some (v11.1,())
abbrev ew:Type:=Int×Int×Int×Int×(List aj)×Unit
abbrev er:Type:=(((List aj)×Unit) ⊕ ((List aj)×Unit))
def dZ (x1:ew) (again:ew→Option er):Option er:=
 match x1 with
 | (A,B,C,D,E,_)=>
 bif decide (D<C) then
  chk (decide (0≤(w64 (B+D)))&&decide ((w64 (B+D))<(E.length:Int))) <|
  Option.bind (E[(w64 (B+D)).toNat]?) fun y2=>
  chk (decide (0≤(w64 (A+D)))&&decide ((w64 (A+D))<(E.length:Int))) <|
  Option.bind (E[(w64 (A+D)).toNat]?) fun y3=>
  chk (decide (0≤(w64 (A+D)))&&decide ((w64 (A+D))<(E.length:Int))) <|
  Option.bind (E[(w64 (A+D)).toNat]?) fun _=>
  chk (decide (0≤(w64 (B+D)))&&decide ((w64 (B+D))<(List.length (List.set E (w64 (A+D)).toNat y2):Int))) <|
  Option.bind ((List.set E (w64 (A+D)).toNat y2)[(w64 (B+D)).toNat]?) fun _=>
  again (A,B,C,w64 (D+1),List.set (List.set E (w64 (A+D)).toNat y2) (w64 (B+D)).toNat y3,())
 else
  some (Sum.inr (E,()))
def cy (a0:List aj) (a1:Int) (a2:Int) (a3:Int) (_a4:Unit):Option ((List aj)×Unit):=
 aP (β:=((List aj)×Unit)) (γ:=((List aj)×Unit)) (
  iter (X:=ew) (β:=er) (Int.natAbs a1+(Int.natAbs a2+(Int.natAbs a3+(Int.natAbs (0:Int)+(List.length a0+2))))) (a1,a2,a3,0,a0,()) (dZ)) fun v6=>
 some (v6.1,())
abbrev fQ:Type:=Int×Unit×Int×Int×(List aj)×Unit
abbrev fC:Type:=(((List aj)×Unit) ⊕ (Int×Unit×Int×(List aj)×Unit))
def fI (x1:fQ) (again:fQ→Option fC):Option fC:=
 match x1 with
 | (A,B,C,D,E,_)=>
 bif C != D then
  bif decide (C>D) then
   Option.bind (cy E (w64 (A - C)) A D B) fun r2=>
   again (A,B,w64 (C - D),D,r2.1,())
  else
   Option.bind (cy E (w64 (A - C)) (w64 ((w64 (A+D)) - C)) C B) fun r3=>
   again (A,B,C,w64 (D - C),r3.1,())
 else
  some (Sum.inr (A,B,C,E,()))
def gH (a0:List aj) (a1:Int) (a2:Int) (a3:Int) (a4:Unit):Option ((List aj)×Unit):=
 aP (β:=((List aj)×Unit)) (γ:=(Int×Unit×Int×(List aj)×Unit)) (
  iter (X:=fQ) (β:=fC) (Int.natAbs a2+(Int.natAbs (w64 (a2 - a1))+(Int.natAbs (w64 (a3 - a2))+(List.length a0+2)))) (a2,a4,w64 (a2 - a1),w64 (a3 - a2),a0,()) (fI)) fun v4=>
 Option.bind (cy v4.2.2.2.1 (w64 (v4.1 - v4.2.2.1)) v4.1 v4.2.2.1 v4.2.1) fun r5=>
 some (r5.1,())
abbrev eJ:Type:=Int×Unit×Int×Int×(List aj)×Unit
abbrev eL:Type:=(((List aj)×Unit) ⊕ (Int×Int×(List aj)×Unit))
def cS (x1:eJ) (again:eJ→Option eL):Option eL:=
 match x1 with
 | (A,B,C,D,E,_)=>
 bif decide (C<D) then
  let n2:Int:=w64 (Int.fdiv (bV (w64 (C+D))) (2 ^ 1))
  chk (decide (0≤n2)&&decide (n2<(E.length:Int))) <|
  Option.bind (E[n2.toNat]?) fun y3=>
  chk (decide (0≤A)&&decide (A<(E.length:Int))) <|
  Option.bind (E[A.toNat]?) fun y4=>
  Option.bind (lJ y3 y4) fun r5=>
  bif decide (r5.1<0) then
   again (A,B,w64 (n2+1),D,E,())
  else
   again (A,B,C,n2,E,())
 else
  some (Sum.inr (A,C,E,()))
abbrev eM:Type:=Int×Int×(List aj)×Unit
abbrev eK:Type:=(((List aj)×Unit) ⊕ ((List aj)×Unit))
def eP (x1:eM) (again:eM→Option eK):Option eK:=
 match x1 with
 | (A,B,C,_)=>
 bif decide (B<(w64 (A - 1))) then
  chk (decide (0≤(w64 (B+1)))&&decide ((w64 (B+1))<(C.length:Int))) <|
  Option.bind (C[(w64 (B+1)).toNat]?) fun y2=>
  chk (decide (0≤B)&&decide (B<(C.length:Int))) <|
  Option.bind (C[B.toNat]?) fun y3=>
  chk (decide (0≤B)&&decide (B<(C.length:Int))) <|
  Option.bind (C[B.toNat]?) fun _=>
  chk (decide (0≤(w64 (B+1)))&&decide ((w64 (B+1))<(List.length (List.set C B.toNat y2):Int))) <|
  Option.bind ((List.set C B.toNat y2)[(w64 (B+1)).toNat]?) fun _=>
  again (A,w64 (B+1),List.set (List.set C B.toNat y2) (w64 (B+1)).toNat y3,())
 else
  some (Sum.inr (C,()))
abbrev eg:Type:=Int×Unit×Int×Int×(List aj)×Unit
abbrev ef:Type:=(((List aj)×Unit) ⊕ (Int×Int×(List aj)×Unit))
def cL (x1:eg) (again:eg→Option ef):Option ef:=
 match x1 with
 | (A,B,C,D,E,_)=>
 bif decide (C<D) then
  let n2:Int:=w64 (Int.fdiv (bV (w64 (C+D))) (2 ^ 1))
  chk (decide (0≤A)&&decide (A<(E.length:Int))) <|
  Option.bind (E[A.toNat]?) fun y3=>
  chk (decide (0≤n2)&&decide (n2<(E.length:Int))) <|
  Option.bind (E[n2.toNat]?) fun y4=>
  Option.bind (lJ y3 y4) fun r5=>
  bif !(decide (r5.1<0)) then
   again (A,B,w64 (n2+1),D,E,())
  else
   again (A,B,C,n2,E,())
 else
  some (Sum.inr (A,C,E,()))
abbrev eC:Type:=Int×Int×(List aj)×Unit
abbrev eA:Type:=(((List aj)×Unit) ⊕ ((List aj)×Unit))
def dY (x1:eC) (again:eC→Option eA):Option eA:=
 match x1 with
 | (A,B,C,_)=>
 bif decide (B>A) then
  chk (decide (0≤(w64 (B - 1)))&&decide ((w64 (B - 1))<(C.length:Int))) <|
  Option.bind (C[(w64 (B - 1)).toNat]?) fun y2=>
  chk (decide (0≤B)&&decide (B<(C.length:Int))) <|
  Option.bind (C[B.toNat]?) fun y3=>
  chk (decide (0≤B)&&decide (B<(C.length:Int))) <|
  Option.bind (C[B.toNat]?) fun _=>
  chk (decide (0≤(w64 (B - 1)))&&decide ((w64 (B - 1))<(List.length (List.set C B.toNat y2):Int))) <|
  Option.bind ((List.set C B.toNat y2)[(w64 (B - 1)).toNat]?) fun _=>
  again (A,w64 (B - 1),List.set (List.set C B.toNat y2) (w64 (B - 1)).toNat y3,())
 else
  some (Sum.inr (C,()))
abbrev eE:Type:=Int×Int×Int×Unit×Int×Int×Int×Int×Int×(List aj)×Unit
abbrev eD:Type:=(((List aj)×Unit) ⊕ (Int×Int×Int×Unit×Int×Int×Int×(List aj)×Unit))
def cK (x1:eE) (again:eE→Option eD):Option eD:=
 match x1 with
 | (A,B,C,D,E,F,G,H,I,J,_)=>
 bif decide (G<H) then
  let n2:Int:=w64 (Int.fdiv (bV (w64 (G+H))) (2 ^ 1))
  chk (decide (0≤(w64 (I - n2)))&&decide ((w64 (I - n2))<(J.length:Int))) <|
  Option.bind (J[(w64 (I - n2)).toNat]?) fun y3=>
  chk (decide (0≤n2)&&decide (n2<(J.length:Int))) <|
  Option.bind (J[n2.toNat]?) fun y4=>
  Option.bind (lJ y3 y4) fun r5=>
  bif !(decide (r5.1<0)) then
   again (A,B,C,D,E,F,w64 (n2+1),H,I,J,())
  else
   again (A,B,C,D,E,F,G,n2,I,J,())
 else
  some (Sum.inr (A,B,C,D,E,F,G,J,()))
def bX (self:((List aj)×Int×Int×Int×Unit×Unit)→Option ((List aj)×Unit)) (a0:List aj) (a1:Int) (a2:Int) (a3:Int) (a4:Unit):Option ((List aj)×Unit):=
 bif (w64 (a2 - a1))==1 then
  aP (β:=((List aj)×Unit)) (γ:=(Int×Int×(List aj)×Unit)) (
   iter (X:=eJ) (β:=eL) (Int.natAbs a1+(Int.natAbs a2+(Int.natAbs a3+(List.length a0+2)))) (a1,a4,a2,a3,a0,()) (cS)) fun v6=>
  aP (β:=((List aj)×Unit)) (γ:=((List aj)×Unit)) (
   iter (X:=eM) (β:=eK) (v6.2.1.natAbs+(v6.1.natAbs+(v6.2.2.1.length+2))) (v6.2.1,v6.1,v6.2.2.1,()) (eP)) fun v12=>
  some (v12.1,())
 else
  bif (w64 (a3 - a2))==1 then
   aP (β:=((List aj)×Unit)) (γ:=(Int×Int×(List aj)×Unit)) (
    iter (X:=eg) (β:=ef) (Int.natAbs a2+(Int.natAbs a1+(Int.natAbs a2+(List.length a0+2)))) (a2,a4,a1,a2,a0,()) (cL)) fun v18=>
   aP (β:=((List aj)×Unit)) (γ:=((List aj)×Unit)) (
    iter (X:=eC) (β:=eA) (v18.2.1.natAbs+(v18.1.natAbs+(v18.2.2.1.length+2))) (v18.2.1,v18.1,v18.2.2.1,()) (dY)) fun v24=>
   some (v24.1,())
  else
   let n25:Int:=w64 (Int.fdiv (bV (w64 (a1+a3))) (2 ^ 1))
   aP (β:=((List aj)×Unit)) (γ:=(Int×Int×Int×Unit×Int×Int×Int×Int×(List aj)×Unit)) (
    bif decide (a2>n25) then
     some (Sum.inr (a1,a2,a3,a4,n25,w64 (n25+a2),w64 ((w64 (n25+a2)) - a3),n25,a0,()))
    else
     some (Sum.inr (a1,a2,a3,a4,n25,w64 (n25+a2),a1,a2,a0,()))) fun v26=>
   aP (β:=((List aj)×Unit)) (γ:=(Int×Int×Int×Unit×Int×Int×Int×(List aj)×Unit)) (
    iter (X:=eE) (β:=eD) (v26.1.natAbs+(v26.2.1.natAbs+(v26.2.2.1.natAbs+(v26.2.2.2.2.1.natAbs+(v26.2.2.2.2.2.1.natAbs+(v26.2.2.2.2.2.2.1.natAbs+(v26.2.2.2.2.2.2.2.1.natAbs+(Int.natAbs (w64 (v26.2.2.2.2.2.1 - 1))+(v26.2.2.2.2.2.2.2.2.1.length+2))))))))) (v26.1,v26.2.1,v26.2.2.1,v26.2.2.2.1,v26.2.2.2.2.1,v26.2.2.2.2.2.1,v26.2.2.2.2.2.2.1,v26.2.2.2.2.2.2.2.1,w64 (v26.2.2.2.2.2.1 - 1),v26.2.2.2.2.2.2.2.2.1,()) (cK)) fun v32=>
   bif decide (v32.2.2.2.2.2.2.1<v32.2.1) then
    aP (β:=((List aj)×Unit)) (γ:=(Int×Int×Unit×Int×Int×Int×(List aj)×Unit)) (
     bif decide (v32.2.1<(w64 (v32.2.2.2.2.2.1 - v32.2.2.2.2.2.2.1))) then
      Option.bind (gH v32.2.2.2.2.2.2.2.1 v32.2.2.2.2.2.2.1 v32.2.1 (w64 (v32.2.2.2.2.2.1 - v32.2.2.2.2.2.2.1)) v32.2.2.2.1) fun r33=>
      some (Sum.inr (v32.1,v32.2.2.1,v32.2.2.2.1,v32.2.2.2.2.1,v32.2.2.2.2.2.2.1,w64 (v32.2.2.2.2.2.1 - v32.2.2.2.2.2.2.1),r33.1,()))
     else
      some (Sum.inr (v32.1,v32.2.2.1,v32.2.2.2.1,v32.2.2.2.2.1,v32.2.2.2.2.2.2.1,w64 (v32.2.2.2.2.2.1 - v32.2.2.2.2.2.2.1),v32.2.2.2.2.2.2.2.1,()))) fun v34=>
    bif decide (v34.1<v34.2.2.2.2.1) then
     aP (β:=((List aj)×Unit)) (γ:=(Int×Unit×Int×Int×(List aj)×Unit)) (
      bif decide (v34.2.2.2.2.1<v34.2.2.2.1) then
       Option.bind (self (v34.2.2.2.2.2.2.1,v34.1,v34.2.2.2.2.1,v34.2.2.2.1,v34.2.2.1,())) fun r35=>
       some (Sum.inr (v34.2.1,v34.2.2.1,v34.2.2.2.1,v34.2.2.2.2.2.1,r35.1,()))
      else
       some (Sum.inr (v34.2.1,v34.2.2.1,v34.2.2.2.1,v34.2.2.2.2.2.1,v34.2.2.2.2.2.2.1,()))) fun v36=>
     bif decide (v36.2.2.1<v36.2.2.2.1) then
      bif decide (v36.2.2.2.1<v36.1) then
       Option.bind (self (v36.2.2.2.2.1,v36.2.2.1,v36.2.2.2.1,v36.1,v36.2.1,())) fun r37=>
       some (r37.1,())
      else
       some (v36.2.2.2.2.1,())
     else
      some (v36.2.2.2.2.1,())
    else
     aP (β:=((List aj)×Unit)) (γ:=(Int×Unit×Int×Int×(List aj)×Unit)) (
      some (Sum.inr (v34.2.1,v34.2.2.1,v34.2.2.2.1,v34.2.2.2.2.2.1,v34.2.2.2.2.2.2.1,()))) fun v38=>
     bif decide (v38.2.2.1<v38.2.2.2.1) then
      bif decide (v38.2.2.2.1<v38.1) then
       Option.bind (self (v38.2.2.2.2.1,v38.2.2.1,v38.2.2.2.1,v38.1,v38.2.1,())) fun r39=>
       some (r39.1,())
      else
       some (v38.2.2.2.2.1,())
     else
      some (v38.2.2.2.2.1,())
   else
    aP (β:=((List aj)×Unit)) (γ:=(Int×Int×Unit×Int×Int×Int×(List aj)×Unit)) (
     some (Sum.inr (v32.1,v32.2.2.1,v32.2.2.2.1,v32.2.2.2.2.1,v32.2.2.2.2.2.2.1,w64 (v32.2.2.2.2.2.1 - v32.2.2.2.2.2.2.1),v32.2.2.2.2.2.2.2.1,()))) fun v40=>
    bif decide (v40.1<v40.2.2.2.2.1) then
     aP (β:=((List aj)×Unit)) (γ:=(Int×Unit×Int×Int×(List aj)×Unit)) (
      bif decide (v40.2.2.2.2.1<v40.2.2.2.1) then
       Option.bind (self (v40.2.2.2.2.2.2.1,v40.1,v40.2.2.2.2.1,v40.2.2.2.1,v40.2.2.1,())) fun r41=>
       some (Sum.inr (v40.2.1,v40.2.2.1,v40.2.2.2.1,v40.2.2.2.2.2.1,r41.1,()))
      else
       some (Sum.inr (v40.2.1,v40.2.2.1,v40.2.2.2.1,v40.2.2.2.2.2.1,v40.2.2.2.2.2.2.1,()))) fun v42=>
     bif decide (v42.2.2.1<v42.2.2.2.1) then
      bif decide (v42.2.2.2.1<v42.1) then
       Option.bind (self (v42.2.2.2.2.1,v42.2.2.1,v42.2.2.2.1,v42.1,v42.2.1,())) fun r43=>
       some (r43.1,())
      else
       some (v42.2.2.2.2.1,())
     else
      some (v42.2.2.2.2.1,())
    else
     aP (β:=((List aj)×Unit)) (γ:=(Int×Unit×Int×Int×(List aj)×Unit)) (
      some (Sum.inr (v40.2.1,v40.2.2.1,v40.2.2.2.1,v40.2.2.2.2.2.1,v40.2.2.2.2.2.2.1,()))) fun v44=>
     bif decide (v44.2.2.1<v44.2.2.2.1) then
      bif decide (v44.2.2.2.1<v44.1) then
       Option.bind (self (v44.2.2.2.2.1,v44.2.2.1,v44.2.2.2.1,v44.1,v44.2.1,())) fun r45=>
       some (r45.1,())
      else
       some (v44.2.2.2.2.1,())
     else
      some (v44.2.2.2.2.1,())
def gN (a0:List aj) (a1:Int) (a2:Int) (a3:Int) (_a4:Unit):Nat:=List.length a0+(Int.natAbs a1+(Int.natAbs a2+(Int.natAbs a3+2)))
def dD (a0:List aj) (a1:Int) (a2:Int) (a3:Int) (a4:Unit):Option ((List aj)×Unit):=
 Em (fun self x=>bX self x.1 x.2.1 x.2.2.1 x.2.2.2.1 x.2.2.2.2.1) (gN a0 a1 a2 a3 a4) (a0,a1,a2,a3,a4,())
abbrev fE:Type:=Int×Unit×Int×Int×Int×(List aj)×Unit
abbrev fM:Type:=(((List aj)×Unit) ⊕ (Int×Unit×Int×Int×(List aj)×Unit))
def fB (x1:fE) (again:fE→Option fM):Option fM:=
 match x1 with
 | (A,B,C,D,E,F,_)=>
 bif decide (E≤A) then
  Option.bind (cH F D E B) fun r2=>
  again (A,B,C,E,w64 (E+C),r2.1,())
 else
  some (Sum.inr (A,B,C,D,F,()))
abbrev fF:Type:=Int×Unit×Int×Int×Int×(List aj)×Unit
abbrev fL:Type:=((((List aj)×Unit) ⊕ ((List aj)×Unit)) ⊕ (Int×Unit×Int×Int×(List aj)×Unit))
def fG (x1:fF) (again:fF→Option fL):Option fL:=
 match x1 with
 | (A,B,C,D,E,F,_)=>
 bif decide (E≤A) then
  Option.bind (dD F D (w64 (D+C)) E B) fun r2=>
  again (A,B,C,E,w64 (E+(w64 (2*C))),r2.1,())
 else
  some (Sum.inr (A,B,C,D,F,()))
abbrev fS:Type:=Int×Unit×Int×(List aj)×Unit
abbrev fO:Type:=(((List aj)×Unit) ⊕ ((List aj)×Unit))
def fN (x1:fS) (again:fS→Option fO):Option fO:=
 match x1 with
 | (A,B,C,D,_)=>
 bif decide (C<A) then
  aP (β:=(((List aj)×Unit) ⊕ ((List aj)×Unit))) (γ:=(Int×Unit×Int×Int×(List aj)×Unit)) (
   iter (X:=fF) (β:=fL) (A.natAbs+(C.natAbs+(Int.natAbs (0:Int)+(Int.natAbs (w64 (2*C))+(D.length+2))))) (A,B,C,0,w64 (2*C),D,()) (fG)) fun v2=>
  bif decide ((w64 (v2.2.2.2.1+v2.2.2.1))<v2.1) then
   Option.bind (dD v2.2.2.2.2.1 v2.2.2.2.1 (w64 (v2.2.2.2.1+v2.2.2.1)) v2.1 v2.2.1) fun r3=>
   again (v2.1,v2.2.1,w64 (v2.2.2.1*2),r3.1,())
  else
   again (v2.1,v2.2.1,w64 (v2.2.2.1*2),v2.2.2.2.2.1,())
 else
  some (Sum.inr (D,()))
def jW (a0:List aj) (a1:Int) (a2:Unit):Option ((List aj)×Unit):=
 aP (β:=((List aj)×Unit)) (γ:=(Int×Unit×Int×Int×(List aj)×Unit)) (
  iter (X:=fE) (β:=fM) (Int.natAbs a1+(Int.natAbs (20:Int)+(Int.natAbs (0:Int)+(Int.natAbs (20:Int)+(List.length a0+2))))) (a1,a2,20,0,20,a0,()) (fB)) fun v3=>
 Option.bind (cH v3.2.2.2.2.1 v3.2.2.2.1 v3.1 v3.2.1) fun r4=>
 aP (β:=((List aj)×Unit)) (γ:=((List aj)×Unit)) (
  iter (X:=fS) (β:=fO) (v3.1.natAbs+(v3.2.2.1.natAbs+(r4.1.length+2))) (v3.1,v3.2.1,v3.2.2.1,r4.1,()) (fN)) fun v10=>
 some (v10.1,())
def dN (a0:List aj) (a1:Unit):Option ((List aj)×Unit):=
 Option.bind (jW a0 ((List.length a0:Int)) a1) fun r1=>
 some (r1.1,())
abbrev uI:Type:=(List Int)×Int×(List Int)×Int×Int×Int×Int×Unit
abbrev AT:Type:=(((List ak)×Int×Unit) ⊕ ((List Int)×Int×Int×Int×Unit))
def uv (x1:uI) (again:uI→Option AT):Option AT:=
 match x1 with
 | (A,B,C,D,E,F,G,_)=>
 bif decide (E<D) then
  Option.bind (idx C E) fun y2=>
  again (A,w64 (B+y2),C,D,w64 (E+1),F,G,())
 else
  some (Sum.inr (A,B,F,G,()))
abbrev sC:Type:=Int×Int×Int×(List aj)×(List Int)×Int×Int×Int×Int×Unit
abbrev zu:Type:=(((List ak)×Int×Unit) ⊕ (Int×(List aj)×Int×Int×Unit))
def sG (x1:sC) (again:sC→Option zu):Option zu:=
 match x1 with
 | (A,B,C,D,E,F,G,H,I,_)=>
 bif decide (G<F) then
  Option.bind (idx E G) fun y2=>
  Option.bind (bH B) fun r3=>
  Option.bind (bH y2) fun r4=>
  Option.bind (fT r3.1 r4.1) fun r5=>
  Option.bind (bH A) fun r6=>
  Option.bind (td r5.1 r6.1) fun r7=>
  Option.bind (oD r7.1 1000000000000000) fun r8=>
  chk (decide (((D.length)+1)*48≤140737488355328)&&decide ((D.length)+1≤maxLen)) <|
  again (A,B,w64 (C - r8.1),D++[(G,r8.1,r7.2.1)],E,F,w64 (G+1),H,I,())
 else
  some (Sum.inr (C,D,H,I,()))
abbrev sK:Type:=Int×(List aj)×Int×Int×Int×Int×(List ak)×Unit
abbrev zp:Type:=(((List ak)×Int×Unit) ⊕ ((List ak)×Unit))
def sD (x1:sK) (again:sK→Option zp):Option zp:=
 match x1 with
 | (A,B,C,D,E,F,G,_)=>
 bif decide (D<C) then
  chk (decide (0≤D)&&decide (D<(B.length:Int))) <|
  Option.bind (B[D.toNat]?) fun y2=>
  aP (β:=(((List ak)×Int×Unit) ⊕ ((List ak)×Unit))) (γ:=(Int×(List aj)×Int×Int×Int×Int×Int×Int×Bool×(List Int)×(List ak)×Unit)) (
   bif decide (D<A) then
    some (Sum.inr (A,B,C,D,E,F,y2.1,w64 (y2.2.1+1),y2.2.2.1,y2.2.2.2,G,()))
   else
    some (Sum.inr (A,B,C,D,E,F,y2.1,y2.2.1,y2.2.2.1,y2.2.2.2,G,()))) fun v3=>
  aP (β:=(((List ak)×Int×Unit) ⊕ ((List ak)×Unit))) (γ:=(Int×(List aj)×Int×Int×Int×Int×Int×Int×Bool×(List Int)×(List ak)×Unit)) (
   bif decide (v3.2.2.2.2.1<0) then
    some (Sum.inr (v3.1,v3.2.1,v3.2.2.1,v3.2.2.2.1,v3.2.2.2.2.1,v3.2.2.2.2.2.1,v3.2.2.2.2.2.2.1,w64 (0 - v3.2.2.2.2.2.2.2.1),v3.2.2.2.2.2.2.2.2.1,v3.2.2.2.2.2.2.2.2.2.1,v3.2.2.2.2.2.2.2.2.2.2.1,()))
   else
    some (Sum.inr (v3.1,v3.2.1,v3.2.2.1,v3.2.2.2.1,v3.2.2.2.2.1,v3.2.2.2.2.2.1,v3.2.2.2.2.2.2.1,v3.2.2.2.2.2.2.2.1,v3.2.2.2.2.2.2.2.2.1,v3.2.2.2.2.2.2.2.2.2.1,v3.2.2.2.2.2.2.2.2.2.2.1,()))) fun v4=>
  chk (decide (0≤v4.2.2.2.2.2.2.1)&&decide (v4.2.2.2.2.2.2.1<(v4.2.2.2.2.2.2.2.2.2.2.1.length:Int))) <|
  Option.bind (v4.2.2.2.2.2.2.2.2.2.2.1[v4.2.2.2.2.2.2.1.toNat]?) fun _=>
  again (v4.1,v4.2.1,v4.2.2.1,w64 (v4.2.2.2.1+1),v4.2.2.2.2.1,v4.2.2.2.2.2.1,List.set v4.2.2.2.2.2.2.2.2.2.2.1 v4.2.2.2.2.2.2.1.toNat (v4.2.2.2.2.2.2.2.1,v4.2.2.2.2.2.1),())
 else
  some (Sum.inr (G,()))
def u7 (a0:ak) (a1:List Int):Option ((List ak)×Int×Unit):=
 Option.bind (b9 a0) fun r1=>
 bif r1.1 != 0 then
  some ([],r1.1,())
 else
  Option.bind (qA a1) fun r2=>
  bif r2.1 != 0 then
   some ([],r2.1,())
  else
   aP (β:=((List ak)×Int×Unit)) (γ:=((List Int)×Int×Int×Int×Unit)) (
    iter (X:=uI) (β:=AT) (List.length a1+(Int.natAbs (0:Int)+(List.length a1+(Int.natAbs ((List.length a1:Int))+(Int.natAbs (0:Int)+(a0.1.natAbs+(a0.2.natAbs+2))))))) (a1,0,a1,(List.length a1:Int),0,a0.1,a0.2,()) (uv)) fun v5=>
   aP (β:=((List ak)×Int×Unit)) (γ:=(Int×(List aj)×Int×Int×Unit)) (
    iter (X:=sC) (β:=zu) (v5.2.1.natAbs+(Int.natAbs (if (w64 (0 - v5.2.2.1))>v5.2.2.1 then (w64 (0 - v5.2.2.1)) else v5.2.2.1)+(Int.natAbs (if (w64 (0 - v5.2.2.1))>v5.2.2.1 then (w64 (0 - v5.2.2.1)) else v5.2.2.1)+(List.length ([]:List aj)+(v5.1.length+(Int.natAbs ((v5.1.length:Int))+(Int.natAbs (0:Int)+(v5.2.2.1.natAbs+(v5.2.2.2.1.natAbs+2))))))))) (v5.2.1,if (w64 (0 - v5.2.2.1))>v5.2.2.1 then (w64 (0 - v5.2.2.1)) else v5.2.2.1,if (w64 (0 - v5.2.2.1))>v5.2.2.1 then (w64 (0 - v5.2.2.1)) else v5.2.2.1,[],v5.1,(v5.1.length:Int),0,v5.2.2.1,v5.2.2.2.1,()) (sG)) fun v14=>
   Option.bind (dN v14.2.1 ()) fun r15=>
   chk (decide (0≤((r15.1.length:Int)))&&decide (((r15.1.length:Int))≤((r15.1.length:Int)))&&decide ((16:Int)*((r15.1.length:Int))≤281474976710656)&&decide (((r15.1.length:Int))≤9223372036854775807)) <|
   aP (β:=((List ak)×Int×Unit)) (γ:=((List ak)×Unit)) (
    iter (X:=sK) (β:=zp) (v14.1.natAbs+(r15.1.length+(Int.natAbs ((r15.1.length:Int))+(Int.natAbs (0:Int)+(v14.2.2.1.natAbs+(v14.2.2.2.1.natAbs+(List.length ((List.replicate (Int.toNat ((r15.1.length:Int))) (0,0):List (ak)):List ak)+2))))))) (v14.1,r15.1,(r15.1.length:Int),0,v14.2.2.1,v14.2.2.2.1,(List.replicate (Int.toNat ((r15.1.length:Int))) (0,0):List (ak)),()) (sD)) fun v21=>
   some (v21.1,0,())
abbrev lM:Type:=(List Int)×Bool×(List aa)×Int×Int×Bool×(List Int)×(List UInt8)×(List UInt8)×Int×Int×Int×Bool×(List aD)×(List au)×(List av)×(List aa)×(List aa)×(List aa)×(List aO)×(List aa)×(List Bool)×(List aa)×Unit
abbrev uz:Type:=((Int×(ah×(List aa)×(List aa)×(List aa)×(List aO)×(List aa)×(List Bool)×(List aa)×Unit)×Unit) ⊕ ((List Int)×Bool×Bool×(List Int)×(List UInt8)×(List UInt8)×Int×Int×Int×Bool×(List aD)×(List au)×(List av)×(List aa)×(List aa)×(List aa)×(List aO)×(List aa)×(List Bool)×(List aa)×Unit))
def o9 (x1:lM) (again:lM→Option uz):Option uz:=
 match x1 with
 | (A,B,C,D,E,F,G,H,I,J,K,L,M,N,O,P,Q,R,S,T,U,V,W,_)=>
 bif decide (E<D) then
  Option.bind (idx C E) fun y2=>
  Option.bind (Ac y2) fun r3=>
  Option.bind (oD r3.1 1000000000000000) fun r4=>
  chk (decide (((A.length)+1)*8≤140737488355328)&&decide ((A.length)+1≤maxLen)) <|
  bif B then
   again (A++[r4.1],true,C,D,w64 (E+1),F,G,H,I,J,K,L,M,N,O,P,Q,R,S,T,U,V,W,())
  else
   again (A++[r4.1],decide (r4.1>0),C,D,w64 (E+1),F,G,H,I,J,K,L,M,N,O,P,Q,R,S,T,U,V,W,())
 else
  some (Sum.inr (A,B,F,G,H,I,J,K,L,M,N,O,P,Q,R,S,T,U,V,W,()))
abbrev iP:Type:=(List ak)×Int×Int×(List UInt8)×(List UInt8)×Int×Int×Int×Bool×(List aD)×(List au)×(List av)×(List aa)×(List aa)×(List aa)×(List aO)×(List aa)×(List Bool)×(List aa)×Unit
abbrev oq:Type:=((Int×(ah×(List aa)×(List aa)×(List aa)×(List aO)×(List aa)×(List Bool)×(List aa)×Unit)×Unit) ⊕ ((List UInt8)×(List UInt8)×Int×Int×Int×Bool×(List aD)×(List au)×(List av)×(List aa)×(List aa)×(List aa)×(List aO)×(List aa)×(List Bool)×(List aa)×Unit))
def kP (x1:iP) (again:iP→Option oq):Option oq:=
 match x1 with
 | (A,B,C,D,E,F,G,H,I,J,K,L,M,N,O,P,Q,R,S,_)=>
 bif decide (C<B) then
  Option.bind (idx A C) fun y2=>
  bif y2.1 != 0 then
   Option.bind (bH y2.1) fun r3=>
   Option.bind (fV ((D,E,F,G,H,I,J,K,L),M,N,O,P,Q,R,S,()) C r3.1) fun r4=>
   chk (decide (0≤C)&&decide (C<(r4.1.2.2.2.2.2.2.1.length:Int))) <|
   Option.bind (r4.1.2.2.2.2.2.2.1[C.toNat]?) fun _=>
   again (A,B,w64 (C+1),r4.1.1.1,r4.1.1.2.1,r4.1.1.2.2.1,r4.1.1.2.2.2.1,r4.1.1.2.2.2.2.1,r4.1.1.2.2.2.2.2.1,r4.1.1.2.2.2.2.2.2.1,r4.1.1.2.2.2.2.2.2.2.1,r4.1.1.2.2.2.2.2.2.2.2,r4.1.2.1,r4.1.2.2.1,r4.1.2.2.2.1,r4.1.2.2.2.2.1,r4.1.2.2.2.2.2.1,List.set r4.1.2.2.2.2.2.2.1 C.toNat true,r4.1.2.2.2.2.2.2.2.1,())
  else
   again (A,B,w64 (C+1),D,E,F,G,H,I,J,K,L,M,N,O,P,Q,R,S,())
 else
  some (Sum.inr (D,E,F,G,H,I,J,K,L,M,N,O,P,Q,R,S,()))
def hY (a0:ah×(List aa)×(List aa)×(List aa)×(List aO)×(List aa)×(List Bool)×(List aa)×Unit) (a1:aa):Option (Int×(ah×(List aa)×(List aa)×(List aa)×(List aO)×(List aa)×(List Bool)×(List aa)×Unit)×Unit):=
 aP (β:=(Int×(ah×(List aa)×(List aa)×(List aa)×(List aO)×(List aa)×(List Bool)×(List aa)×Unit)×Unit)) (γ:=((List Int)×Bool×Bool×(List Int)×(List UInt8)×(List UInt8)×Int×Int×Int×Bool×(List aD)×(List au)×(List av)×(List aa)×(List aa)×(List aa)×(List aO)×(List aa)×(List Bool)×(List aa)×Unit)) (
  iter (X:=lM) (β:=uz) (List.length ([]:List Int)+(a0.2.2.1.length+(Int.natAbs ((a0.2.2.1.length:Int))+(Int.natAbs (0:Int)+(a1.2.length+(a0.1.1.length+(a0.1.2.1.length+(a0.1.2.2.1.natAbs+(a0.1.2.2.2.1.natAbs+(a0.1.2.2.2.2.1.natAbs+(a0.1.2.2.2.2.2.2.1.length+(a0.1.2.2.2.2.2.2.2.1.length+(a0.1.2.2.2.2.2.2.2.2.length+(a0.2.2.1.length+(a0.2.1.length+(a0.2.2.2.1.length+(a0.2.2.2.2.1.length+(a0.2.2.2.2.2.1.length+(a0.2.2.2.2.2.2.1.length+(a0.2.2.2.2.2.2.2.1.length+2)))))))))))))))))))) ([],false,a0.2.2.1,(a0.2.2.1.length:Int),0,a1.1,a1.2,a0.1.1,a0.1.2.1,a0.1.2.2.1,a0.1.2.2.2.1,a0.1.2.2.2.2.1,a0.1.2.2.2.2.2.1,a0.1.2.2.2.2.2.2.1,a0.1.2.2.2.2.2.2.2.1,a0.1.2.2.2.2.2.2.2.2,a0.2.2.1,a0.2.1,a0.2.2.2.1,a0.2.2.2.2.1,a0.2.2.2.2.2.1,a0.2.2.2.2.2.2.1,a0.2.2.2.2.2.2.2.1,()) (o9)) fun v5=>
 bif !v5.2.1 then
  Option.bind (fV ((v5.2.2.2.2.1,v5.2.2.2.2.2.1,v5.2.2.2.2.2.2.1,v5.2.2.2.2.2.2.2.1,v5.2.2.2.2.2.2.2.2.1,v5.2.2.2.2.2.2.2.2.2.1,v5.2.2.2.2.2.2.2.2.2.2.1,v5.2.2.2.2.2.2.2.2.2.2.2.1,v5.2.2.2.2.2.2.2.2.2.2.2.2.1),v5.2.2.2.2.2.2.2.2.2.2.2.2.2.2.1,v5.2.2.2.2.2.2.2.2.2.2.2.2.2.1,v5.2.2.2.2.2.2.2.2.2.2.2.2.2.2.2.1,v5.2.2.2.2.2.2.2.2.2.2.2.2.2.2.2.2.1,v5.2.2.2.2.2.2.2.2.2.2.2.2.2.2.2.2.2.1,v5.2.2.2.2.2.2.2.2.2.2.2.2.2.2.2.2.2.2.1,v5.2.2.2.2.2.2.2.2.2.2.2.2.2.2.2.2.2.2.2.1,()) 0 (v5.2.2.1,v5.2.2.2.1)) fun r6=>
  chk (decide (0≤(0:Int))&&decide ((0:Int)<(r6.1.2.2.2.2.2.2.1.length:Int))) <|
  Option.bind (r6.1.2.2.2.2.2.2.1[0]?) fun y7=>
  bif y7 then
   chk (decide (0≤(0:Int))&&decide ((0:Int)<(r6.1.2.2.2.2.2.2.1.length:Int))) <|
   Option.bind (r6.1.2.2.2.2.2.2.1[0]?) fun _=>
   some (0,(r6.1.1,r6.1.2.1,r6.1.2.2.1,r6.1.2.2.2.1,r6.1.2.2.2.2.1,r6.1.2.2.2.2.2.1,List.set r6.1.2.2.2.2.2.2.1 0 true,r6.1.2.2.2.2.2.2.2.1,()),())
  else
   Option.bind (aM (v5.2.2.1,v5.2.2.2.1)) fun r9=>
   chk (decide (0≤(0:Int))&&decide ((0:Int)<(r6.1.2.2.2.2.2.2.1.length:Int))) <|
   Option.bind (r6.1.2.2.2.2.2.2.1[0]?) fun _=>
   some (0,(r6.1.1,r6.1.2.1,r6.1.2.2.1,r6.1.2.2.2.1,r6.1.2.2.2.2.1,r6.1.2.2.2.2.2.1,List.set r6.1.2.2.2.2.2.2.1 0 (r9.1 != 0),r6.1.2.2.2.2.2.2.2.1,()),())
 else
  Option.bind (jm v5.1 ()) fun r11=>
  bif r11.1 then
   some (2,((v5.2.2.2.2.1,v5.2.2.2.2.2.1,v5.2.2.2.2.2.2.1,v5.2.2.2.2.2.2.2.1,v5.2.2.2.2.2.2.2.2.1,v5.2.2.2.2.2.2.2.2.2.1,v5.2.2.2.2.2.2.2.2.2.2.1,v5.2.2.2.2.2.2.2.2.2.2.2.1,v5.2.2.2.2.2.2.2.2.2.2.2.2.1),v5.2.2.2.2.2.2.2.2.2.2.2.2.2.2.1,v5.2.2.2.2.2.2.2.2.2.2.2.2.2.1,v5.2.2.2.2.2.2.2.2.2.2.2.2.2.2.2.1,v5.2.2.2.2.2.2.2.2.2.2.2.2.2.2.2.2.1,v5.2.2.2.2.2.2.2.2.2.2.2.2.2.2.2.2.2.1,v5.2.2.2.2.2.2.2.2.2.2.2.2.2.2.2.2.2.2.1,v5.2.2.2.2.2.2.2.2.2.2.2.2.2.2.2.2.2.2.2.1,()),())
  else
   Option.bind (r0 (v5.2.2.1,v5.2.2.2.1) v5.2.2.2.2.2.2.2.1) fun r12=>
   Option.bind (u7 r12.1 v5.1) fun r13=>
   bif r13.2.1 != 0 then
    some (r13.2.1,((v5.2.2.2.2.1,v5.2.2.2.2.2.1,v5.2.2.2.2.2.2.1,v5.2.2.2.2.2.2.2.1,v5.2.2.2.2.2.2.2.2.1,v5.2.2.2.2.2.2.2.2.2.1,v5.2.2.2.2.2.2.2.2.2.2.1,v5.2.2.2.2.2.2.2.2.2.2.2.1,v5.2.2.2.2.2.2.2.2.2.2.2.2.1),v5.2.2.2.2.2.2.2.2.2.2.2.2.2.2.1,v5.2.2.2.2.2.2.2.2.2.2.2.2.2.1,v5.2.2.2.2.2.2.2.2.2.2.2.2.2.2.2.1,v5.2.2.2.2.2.2.2.2.2.2.2.2.2.2.2.2.1,v5.2.2.2.2.2.2.2.2.2.2.2.2.2.2.2.2.2.1,v5.2.2.2.2.2.2.2.2.2.2.2.2.2.2.2.2.2.2.1,v5.2.2.2.2.2.2.2.2.2.2.2.2.2.2.2.2.2.2.2.1,()),())
   else
    aP (β:=(Int×(ah×(List aa)×(List aa)×(List aa)×(List aO)×(List aa)×(List Bool)×(List aa)×Unit)×Unit)) (γ:=((List UInt8)×(List UInt8)×Int×Int×Int×Bool×(List aD)×(List au)×(List av)×(List aa)×(List aa)×(List aa)×(List aO)×(List aa)×(List Bool)×(List aa)×Unit)) (
     iter (X:=iP) (β:=oq) (r13.1.length+(Int.natAbs ((r13.1.length:Int))+(Int.natAbs (0:Int)+(v5.2.2.2.2.1.length+(v5.2.2.2.2.2.1.length+(v5.2.2.2.2.2.2.1.natAbs+(v5.2.2.2.2.2.2.2.1.natAbs+(v5.2.2.2.2.2.2.2.2.1.natAbs+(v5.2.2.2.2.2.2.2.2.2.2.1.length+(v5.2.2.2.2.2.2.2.2.2.2.2.1.length+(v5.2.2.2.2.2.2.2.2.2.2.2.2.1.length+(v5.2.2.2.2.2.2.2.2.2.2.2.2.2.2.1.length+(v5.2.2.2.2.2.2.2.2.2.2.2.2.2.1.length+(v5.2.2.2.2.2.2.2.2.2.2.2.2.2.2.2.1.length+(v5.2.2.2.2.2.2.2.2.2.2.2.2.2.2.2.2.1.length+(v5.2.2.2.2.2.2.2.2.2.2.2.2.2.2.2.2.2.1.length+(v5.2.2.2.2.2.2.2.2.2.2.2.2.2.2.2.2.2.2.1.length+(v5.2.2.2.2.2.2.2.2.2.2.2.2.2.2.2.2.2.2.2.1.length+2)))))))))))))))))) (r13.1,(r13.1.length:Int),0,v5.2.2.2.2.1,v5.2.2.2.2.2.1,v5.2.2.2.2.2.2.1,v5.2.2.2.2.2.2.2.1,v5.2.2.2.2.2.2.2.2.1,v5.2.2.2.2.2.2.2.2.2.1,v5.2.2.2.2.2.2.2.2.2.2.1,v5.2.2.2.2.2.2.2.2.2.2.2.1,v5.2.2.2.2.2.2.2.2.2.2.2.2.1,v5.2.2.2.2.2.2.2.2.2.2.2.2.2.2.1,v5.2.2.2.2.2.2.2.2.2.2.2.2.2.1,v5.2.2.2.2.2.2.2.2.2.2.2.2.2.2.2.1,v5.2.2.2.2.2.2.2.2.2.2.2.2.2.2.2.2.1,v5.2.2.2.2.2.2.2.2.2.2.2.2.2.2.2.2.2.1,v5.2.2.2.2.2.2.2.2.2.2.2.2.2.2.2.2.2.2.1,v5.2.2.2.2.2.2.2.2.2.2.2.2.2.2.2.2.2.2.2.1,()) (kP)) fun v19=>
    some (0,((v19.1,v19.2.1,v19.2.2.1,v19.2.2.2.1,v19.2.2.2.2.1,v19.2.2.2.2.2.1,v19.2.2.2.2.2.2.1,v19.2.2.2.2.2.2.2.1,v19.2.2.2.2.2.2.2.2.1),v19.2.2.2.2.2.2.2.2.2.1,v19.2.2.2.2.2.2.2.2.2.2.1,v19.2.2.2.2.2.2.2.2.2.2.2.1,v19.2.2.2.2.2.2.2.2.2.2.2.2.1,v19.2.2.2.2.2.2.2.2.2.2.2.2.2.1,v19.2.2.2.2.2.2.2.2.2.2.2.2.2.2.1,v19.2.2.2.2.2.2.2.2.2.2.2.2.2.2.2.1,()),())
abbrev mC:Type:=Int×Bool×(List aa)×Int×Int×Bool×Int×Int×(List UInt8)×Bool×(List Int)×(List UInt8)×(List UInt8)×Int×Int×Int×Bool×(List aD)×(List au)×(List av)×(List aa)×(List aa)×(List aa)×(List aO)×(List aa)×(List Bool)×(List aa)×Unit
abbrev vQ:Type:=(((Int×(ah×(List aa)×(List aa)×(List aa)×(List aO)×(List aa)×(List Bool)×(List aa)×Unit)×Unit) ⊕ (Int×Bool×Bool×Int×Int×(List UInt8)×Bool×(List Int)×(List UInt8)×(List UInt8)×Int×Int×Int×Bool×(List aD)×(List au)×(List av)×(List aa)×(List aa)×(List aa)×(List aO)×(List aa)×(List Bool)×(List aa)×Unit)) ⊕ (Int×Bool×Bool×Int×Int×(List UInt8)×Bool×(List Int)×(List UInt8)×(List UInt8)×Int×Int×Int×Bool×(List aD)×(List au)×(List av)×(List aa)×(List aa)×(List aa)×(List aO)×(List aa)×(List Bool)×(List aa)×Unit))
def qy (x1:mC) (again:mC→Option vQ):Option vQ:=
 match x1 with
 | (A,B,C,D,E,F,G,H,I,J,K,L,M,N,O,P,Q,R,S,T,U,V,W,X,Y,Z,A0,_)=>
 bif decide (E<D) then
  Option.bind (idx C E) fun y2=>
  Option.bind (bg (J,K) y2) fun r3=>
  again (A,B,C,D,w64 (E+1),F,G,H,I,r3.1.1,r3.1.2,L,M,N,O,P,Q,R,S,T,U,V,W,X,Y,Z,A0,())
 else
  some (Sum.inr (A,B,F,G,H,I,J,K,L,M,N,O,P,Q,R,S,T,U,V,W,X,Y,Z,A0,()))
def mN (a0:ah×(List aa)×(List aa)×(List aa)×(List aO)×(List aa)×(List Bool)×(List aa)×Unit) (a1:av):Option (Int×(ah×(List aa)×(List aa)×(List aa)×(List aO)×(List aa)×(List Bool)×(List aa)×Unit)×Unit):=
 Option.bind (bH 0) fun r1=>
 Option.bind (sk a0.1.2.2.2.2.2.2.1 a1.2.2) fun r2=>
 aP (β:=(Int×(ah×(List aa)×(List aa)×(List aa)×(List aO)×(List aa)×(List Bool)×(List aa)×Unit)×Unit)) (γ:=(Int×Bool×Bool×Int×Int×(List UInt8)×Bool×(List Int)×(List UInt8)×(List UInt8)×Int×Int×Int×Bool×(List aD)×(List au)×(List av)×(List aa)×(List aa)×(List aa)×(List aO)×(List aa)×(List Bool)×(List aa)×Unit)) (
  bif r2.2.1 then
   Option.bind (idx a0.2.2.1 r2.1) fun y3=>
   some (Sum.inr (r2.1,r2.2.1,a1.1,a1.2.1.1,a1.2.1.2,a1.2.2,y3.1,y3.2,a0.1.1,a0.1.2.1,a0.1.2.2.1,a0.1.2.2.2.1,a0.1.2.2.2.2.1,a0.1.2.2.2.2.2.1,a0.1.2.2.2.2.2.2.1,a0.1.2.2.2.2.2.2.2.1,a0.1.2.2.2.2.2.2.2.2,a0.2.2.1,a0.2.1,a0.2.2.2.1,a0.2.2.2.2.1,a0.2.2.2.2.2.1,a0.2.2.2.2.2.2.1,a0.2.2.2.2.2.2.2.1,()))
  else
   aP (β:=((Int×(ah×(List aa)×(List aa)×(List aa)×(List aO)×(List aa)×(List Bool)×(List aa)×Unit)×Unit) ⊕ (Int×Bool×Bool×Int×Int×(List UInt8)×Bool×(List Int)×(List UInt8)×(List UInt8)×Int×Int×Int×Bool×(List aD)×(List au)×(List av)×(List aa)×(List aa)×(List aa)×(List aO)×(List aa)×(List Bool)×(List aa)×Unit))) (γ:=(Int×Bool×Bool×Int×Int×(List UInt8)×Bool×(List Int)×(List UInt8)×(List UInt8)×Int×Int×Int×Bool×(List aD)×(List au)×(List av)×(List aa)×(List aa)×(List aa)×(List aO)×(List aa)×(List Bool)×(List aa)×Unit)) (
    iter (X:=mC) (β:=vQ) (r2.1.natAbs+(a0.2.2.1.length+(Int.natAbs ((a0.2.2.1.length:Int))+(Int.natAbs (0:Int)+(a1.2.1.1.natAbs+(a1.2.1.2.natAbs+(a1.2.2.length+(r1.1.2.length+(a0.1.1.length+(a0.1.2.1.length+(a0.1.2.2.1.natAbs+(a0.1.2.2.2.1.natAbs+(a0.1.2.2.2.2.1.natAbs+(a0.1.2.2.2.2.2.2.1.length+(a0.1.2.2.2.2.2.2.2.1.length+(a0.1.2.2.2.2.2.2.2.2.length+(a0.2.2.1.length+(a0.2.1.length+(a0.2.2.2.1.length+(a0.2.2.2.2.1.length+(a0.2.2.2.2.2.1.length+(a0.2.2.2.2.2.2.1.length+(a0.2.2.2.2.2.2.2.1.length+2))))))))))))))))))))))) (r2.1,r2.2.1,a0.2.2.1,(a0.2.2.1.length:Int),0,a1.1,a1.2.1.1,a1.2.1.2,a1.2.2,r1.1.1,r1.1.2,a0.1.1,a0.1.2.1,a0.1.2.2.1,a0.1.2.2.2.1,a0.1.2.2.2.2.1,a0.1.2.2.2.2.2.1,a0.1.2.2.2.2.2.2.1,a0.1.2.2.2.2.2.2.2.1,a0.1.2.2.2.2.2.2.2.2,a0.2.2.1,a0.2.1,a0.2.2.2.1,a0.2.2.2.2.1,a0.2.2.2.2.2.1,a0.2.2.2.2.2.2.1,a0.2.2.2.2.2.2.2.1,()) (qy)) fun v7=>
   some (Sum.inr (v7.1,v7.2.1,v7.2.2.1,v7.2.2.2.1,v7.2.2.2.2.1,v7.2.2.2.2.2.1,v7.2.2.2.2.2.2.1,v7.2.2.2.2.2.2.2.1,v7.2.2.2.2.2.2.2.2.1,v7.2.2.2.2.2.2.2.2.2.1,v7.2.2.2.2.2.2.2.2.2.2.1,v7.2.2.2.2.2.2.2.2.2.2.2.1,v7.2.2.2.2.2.2.2.2.2.2.2.2.1,v7.2.2.2.2.2.2.2.2.2.2.2.2.2.1,v7.2.2.2.2.2.2.2.2.2.2.2.2.2.2.1,v7.2.2.2.2.2.2.2.2.2.2.2.2.2.2.2.1,v7.2.2.2.2.2.2.2.2.2.2.2.2.2.2.2.2.1,v7.2.2.2.2.2.2.2.2.2.2.2.2.2.2.2.2.2.1,v7.2.2.2.2.2.2.2.2.2.2.2.2.2.2.2.2.2.2.1,v7.2.2.2.2.2.2.2.2.2.2.2.2.2.2.2.2.2.2.2.1,v7.2.2.2.2.2.2.2.2.2.2.2.2.2.2.2.2.2.2.2.2.1,v7.2.2.2.2.2.2.2.2.2.2.2.2.2.2.2.2.2.2.2.2.2.1,v7.2.2.2.2.2.2.2.2.2.2.2.2.2.2.2.2.2.2.2.2.2.2.1,v7.2.2.2.2.2.2.2.2.2.2.2.2.2.2.2.2.2.2.2.2.2.2.2.1,()))) fun v8=>
 Option.bind (qS (v8.2.2.2.1,v8.2.2.2.2.1) (if v8.2.2.2.2.1>v8.2.2.2.2.2.2.2.2.2.2.2.1 then v8.2.2.2.2.1 else v8.2.2.2.2.2.2.2.2.2.2.2.1)) fun r9=>
 aP (β:=(Int×(ah×(List aa)×(List aa)×(List aa)×(List aO)×(List aa)×(List Bool)×(List aa)×Unit)×Unit)) (γ:=(Int×Bool×Bool×(List Int)×(List UInt8)×(List UInt8)×Int×Int×Int×Bool×(List aD)×(List au)×(List av)×(List aa)×(List aa)×(List aa)×(List aO)×(List aa)×(List Bool)×(List aa)×Unit)) (
  bif v8.2.2.1 then
   Option.bind (rG (v8.2.2.2.2.2.2.2.2.1,v8.2.2.2.2.2.2.2.2.2.1,v8.2.2.2.2.2.2.2.2.2.2.1,v8.2.2.2.2.2.2.2.2.2.2.2.1,v8.2.2.2.2.2.2.2.2.2.2.2.2.1,v8.2.2.2.2.2.2.2.2.2.2.2.2.2.1,v8.2.2.2.2.2.2.2.2.2.2.2.2.2.2.1,v8.2.2.2.2.2.2.2.2.2.2.2.2.2.2.2.1,v8.2.2.2.2.2.2.2.2.2.2.2.2.2.2.2.2.1) (v8.2.2.2.2.2.2.1,v8.2.2.2.2.2.2.2.1) (v8.2.2.2.1,v8.2.2.2.2.1)) fun r10=>
   some (Sum.inr (v8.1,v8.2.1,r10.1.1,r10.1.2,v8.2.2.2.2.2.2.2.2.1,v8.2.2.2.2.2.2.2.2.2.1,v8.2.2.2.2.2.2.2.2.2.2.1,v8.2.2.2.2.2.2.2.2.2.2.2.1,v8.2.2.2.2.2.2.2.2.2.2.2.2.1,v8.2.2.2.2.2.2.2.2.2.2.2.2.2.1,v8.2.2.2.2.2.2.2.2.2.2.2.2.2.2.1,v8.2.2.2.2.2.2.2.2.2.2.2.2.2.2.2.1,v8.2.2.2.2.2.2.2.2.2.2.2.2.2.2.2.2.1,v8.2.2.2.2.2.2.2.2.2.2.2.2.2.2.2.2.2.1,v8.2.2.2.2.2.2.2.2.2.2.2.2.2.2.2.2.2.2.1,v8.2.2.2.2.2.2.2.2.2.2.2.2.2.2.2.2.2.2.2.1,v8.2.2.2.2.2.2.2.2.2.2.2.2.2.2.2.2.2.2.2.2.1,v8.2.2.2.2.2.2.2.2.2.2.2.2.2.2.2.2.2.2.2.2.2.1,v8.2.2.2.2.2.2.2.2.2.2.2.2.2.2.2.2.2.2.2.2.2.2.1,v8.2.2.2.2.2.2.2.2.2.2.2.2.2.2.2.2.2.2.2.2.2.2.2.1,()))
  else
   some (Sum.inr (v8.1,v8.2.1,r9.1.1,r9.1.2,v8.2.2.2.2.2.2.2.2.1,v8.2.2.2.2.2.2.2.2.2.1,v8.2.2.2.2.2.2.2.2.2.2.1,v8.2.2.2.2.2.2.2.2.2.2.2.1,v8.2.2.2.2.2.2.2.2.2.2.2.2.1,v8.2.2.2.2.2.2.2.2.2.2.2.2.2.1,v8.2.2.2.2.2.2.2.2.2.2.2.2.2.2.1,v8.2.2.2.2.2.2.2.2.2.2.2.2.2.2.2.1,v8.2.2.2.2.2.2.2.2.2.2.2.2.2.2.2.2.1,v8.2.2.2.2.2.2.2.2.2.2.2.2.2.2.2.2.2.1,v8.2.2.2.2.2.2.2.2.2.2.2.2.2.2.2.2.2.2.1,v8.2.2.2.2.2.2.2.2.2.2.2.2.2.2.2.2.2.2.2.1,v8.2.2.2.2.2.2.2.2.2.2.2.2.2.2.2.2.2.2.2.2.1,v8.2.2.2.2.2.2.2.2.2.2.2.2.2.2.2.2.2.2.2.2.2.1,v8.2.2.2.2.2.2.2.2.2.2.2.2.2.2.2.2.2.2.2.2.2.2.1,v8.2.2.2.2.2.2.2.2.2.2.2.2.2.2.2.2.2.2.2.2.2.2.2.1,()))) fun v11=>
 Option.bind (jK (v11.2.2.1,v11.2.2.2.1)) fun r12=>
 bif !r12.1 then
  some (1,((v11.2.2.2.2.1,v11.2.2.2.2.2.1,v11.2.2.2.2.2.2.1,v11.2.2.2.2.2.2.2.1,v11.2.2.2.2.2.2.2.2.1,v11.2.2.2.2.2.2.2.2.2.1,v11.2.2.2.2.2.2.2.2.2.2.1,v11.2.2.2.2.2.2.2.2.2.2.2.1,v11.2.2.2.2.2.2.2.2.2.2.2.2.1),v11.2.2.2.2.2.2.2.2.2.2.2.2.2.2.1,v11.2.2.2.2.2.2.2.2.2.2.2.2.2.1,v11.2.2.2.2.2.2.2.2.2.2.2.2.2.2.2.1,v11.2.2.2.2.2.2.2.2.2.2.2.2.2.2.2.2.1,v11.2.2.2.2.2.2.2.2.2.2.2.2.2.2.2.2.2.1,v11.2.2.2.2.2.2.2.2.2.2.2.2.2.2.2.2.2.2.1,v11.2.2.2.2.2.2.2.2.2.2.2.2.2.2.2.2.2.2.2.1,()),())
 else
  chk (decide (((v11.2.2.2.2.2.2.2.2.2.2.2.2.2.2.2.2.2.1.length)+1)*32≤140737488355328)&&decide ((v11.2.2.2.2.2.2.2.2.2.2.2.2.2.2.2.2.2.1.length)+1≤maxLen)) <|
  bif v11.2.1 then
   Option.bind (fV ((v11.2.2.2.2.1,v11.2.2.2.2.2.1,v11.2.2.2.2.2.2.1,v11.2.2.2.2.2.2.2.1,v11.2.2.2.2.2.2.2.2.1,v11.2.2.2.2.2.2.2.2.2.1,v11.2.2.2.2.2.2.2.2.2.2.1,v11.2.2.2.2.2.2.2.2.2.2.2.1,v11.2.2.2.2.2.2.2.2.2.2.2.2.1),v11.2.2.2.2.2.2.2.2.2.2.2.2.2.2.1,v11.2.2.2.2.2.2.2.2.2.2.2.2.2.1,v11.2.2.2.2.2.2.2.2.2.2.2.2.2.2.2.1,v11.2.2.2.2.2.2.2.2.2.2.2.2.2.2.2.2.1,v11.2.2.2.2.2.2.2.2.2.2.2.2.2.2.2.2.2.1++[(v11.2.2.1,v11.2.2.2.1)],v11.2.2.2.2.2.2.2.2.2.2.2.2.2.2.2.2.2.2.1,v11.2.2.2.2.2.2.2.2.2.2.2.2.2.2.2.2.2.2.2.1,()) v11.1 (v11.2.2.1,v11.2.2.2.1)) fun r13=>
   chk (decide (0≤v11.1)&&decide (v11.1<(r13.1.2.2.2.2.2.2.1.length:Int))) <|
   Option.bind (r13.1.2.2.2.2.2.2.1[v11.1.toNat]?) fun _=>
   Option.bind (bU r13.1.2.2.2.1 ()) fun r15=>
   bif r15.1 then
    some (1,(r13.1.1,r13.1.2.1,r13.1.2.2.1,r13.1.2.2.2.1,r13.1.2.2.2.2.1,r13.1.2.2.2.2.2.1,List.set r13.1.2.2.2.2.2.2.1 v11.1.toNat true,r13.1.2.2.2.2.2.2.2.1,()),())
   else
    some (0,(r13.1.1,r13.1.2.1,r13.1.2.2.1,r13.1.2.2.2.1,r13.1.2.2.2.2.1,r13.1.2.2.2.2.2.1,List.set r13.1.2.2.2.2.2.2.1 v11.1.toNat true,r13.1.2.2.2.2.2.2.2.1,()),())
  else
   Option.bind (hY ((v11.2.2.2.2.1,v11.2.2.2.2.2.1,v11.2.2.2.2.2.2.1,v11.2.2.2.2.2.2.2.1,v11.2.2.2.2.2.2.2.2.1,v11.2.2.2.2.2.2.2.2.2.1,v11.2.2.2.2.2.2.2.2.2.2.1,v11.2.2.2.2.2.2.2.2.2.2.2.1,v11.2.2.2.2.2.2.2.2.2.2.2.2.1),v11.2.2.2.2.2.2.2.2.2.2.2.2.2.2.1,v11.2.2.2.2.2.2.2.2.2.2.2.2.2.1,v11.2.2.2.2.2.2.2.2.2.2.2.2.2.2.2.1,v11.2.2.2.2.2.2.2.2.2.2.2.2.2.2.2.2.1,v11.2.2.2.2.2.2.2.2.2.2.2.2.2.2.2.2.2.1++[(v11.2.2.1,v11.2.2.2.1)],v11.2.2.2.2.2.2.2.2.2.2.2.2.2.2.2.2.2.2.1,v11.2.2.2.2.2.2.2.2.2.2.2.2.2.2.2.2.2.2.2.1,()) (v11.2.2.1,v11.2.2.2.1)) fun r16=>
   bif r16.1 != 0 then
    some (r16.1,(r16.2.1.1,r16.2.1.2.1,r16.2.1.2.2.1,r16.2.1.2.2.2.1,r16.2.1.2.2.2.2.1,r16.2.1.2.2.2.2.2.1,r16.2.1.2.2.2.2.2.2.1,r16.2.1.2.2.2.2.2.2.2.1,()),())
   else
    Option.bind (bU r16.2.1.2.2.2.1 ()) fun r17=>
    bif r17.1 then
     some (1,(r16.2.1.1,r16.2.1.2.1,r16.2.1.2.2.1,r16.2.1.2.2.2.1,r16.2.1.2.2.2.2.1,r16.2.1.2.2.2.2.2.1,r16.2.1.2.2.2.2.2.2.1,r16.2.1.2.2.2.2.2.2.2.1,()),())
    else
     some (0,(r16.2.1.1,r16.2.1.2.1,r16.2.1.2.2.1,r16.2.1.2.2.2.1,r16.2.1.2.2.2.2.1,r16.2.1.2.2.2.2.2.1,r16.2.1.2.2.2.2.2.2.1,r16.2.1.2.2.2.2.2.2.2.1,()),())
abbrev oS:Type:=(List aD)×Int×Int×(List UInt8)×(List UInt8)×Int×Int×Int×Bool×(List aD)×(List au)×(List av)×(List aa)×(List aa)×(List aa)×(List aa)×(List aO)×(List aa)×(List Bool)×Unit
abbrev zd:Type:=((Int×(ah×(List aa)×(List aa)×(List aa)×(List aO)×(List aa)×(List Bool)×(List aa)×Unit)×Unit) ⊕ ((List UInt8)×(List UInt8)×Int×Int×Int×Bool×(List aD)×(List au)×(List av)×(List aa)×(List aa)×(List aa)×(List aa)×(List aO)×(List aa)×(List Bool)×Unit))
def sN (x1:oS) (again:oS→Option zd):Option zd:=
 match x1 with
 | (A,B,C,D,E,F,G,H,I,J,K,L,M,N,O,P,Q,R,S,_)=>
 bif decide (C<B) then
  Option.bind (idx A C) fun y2=>
  bif !I then
   chk (decide (0≤C)&&decide (C<(P.length:Int))) <|
   Option.bind (P[C.toNat]?) fun y3=>
   Option.bind (rG (D,E,F,G,H,I,J,K,L) y3 y2.2) fun r4=>
   chk (decide (0≤C)&&decide (C<(N.length:Int))) <|
   Option.bind (N[C.toNat]?) fun _=>
   again (A,B,w64 (C+1),D,E,F,G,H,I,J,K,L,M,List.set N C.toNat r4.1,O,P,Q,R,S,())
  else
   again (A,B,w64 (C+1),D,E,F,G,H,I,J,K,L,M,N,O,P,Q,R,S,())
 else
  some (Sum.inr (D,E,F,G,H,I,J,K,L,M,N,O,P,Q,R,S,()))
abbrev oK:Type:=Int×Int×(List UInt8)×(List UInt8)×Int×Int×Int×Bool×(List aD)×(List au)×(List av)×(List aa)×(List aa)×(List aa)×(List aa)×(List aO)×(List aa)×(List Bool)×Unit
abbrev yN:Type:=((Int×(ah×(List aa)×(List aa)×(List aa)×(List aO)×(List aa)×(List Bool)×(List aa)×Unit)×Unit) ⊕ ((List UInt8)×(List UInt8)×Int×Int×Int×Bool×(List aD)×(List au)×(List av)×(List aa)×(List aa)×(List aa)×(List aa)×(List aO)×(List aa)×(List Bool)×Unit))
def sP (x1:oK) (again:oK→Option yN):Option yN:=
 match x1 with
 | (A,B,C,D,E,F,G,H,I,J,K,L,M,N,O,P,Q,R,_)=>
 bif decide (B<A) then
  chk (decide (0≤B)&&decide (B<(P.length:Int))) <|
  Option.bind (P[B.toNat]?) fun y2=>
  bif H then
   chk (decide (0≤y2.1)&&decide (y2.1<(M.length:Int))) <|
   Option.bind (M[y2.1.toNat]?) fun y3=>
   Option.bind (idx I y2.1) fun y4=>
   Option.bind (rG (C,D,E,F,G,H,I,J,K) y2.2 y4.2) fun r5=>
   Option.bind (bg y3 r5.1) fun r6=>
   chk (decide (0≤y2.1)&&decide (y2.1<(M.length:Int))) <|
   Option.bind (M[y2.1.toNat]?) fun _=>
   again (A,w64 (B+1),C,D,E,F,G,H,I,J,K,L,List.set M y2.1.toNat r6.1,N,O,P,Q,R,())
  else
   again (A,w64 (B+1),C,D,E,F,G,H,I,J,K,L,M,N,O,P,Q,R,())
 else
  some (Sum.inr (C,D,E,F,G,H,I,J,K,L,M,N,O,P,Q,R,()))
def yh (a0:ah×(List aa)×(List aa)×(List aa)×(List aO)×(List aa)×(List Bool)×(List aa)×Unit):Option (Int×(ah×(List aa)×(List aa)×(List aa)×(List aO)×(List aa)×(List Bool)×(List aa)×Unit)×Unit):=
 chk (decide (0≤((a0.2.2.2.1.length:Int)))&&decide (((a0.2.2.2.1.length:Int))≤((a0.2.2.2.1.length:Int)))&&decide ((32:Int)*((a0.2.2.2.1.length:Int))≤281474976710656)&&decide (((a0.2.2.2.1.length:Int))≤9223372036854775807)) <|
 aP (β:=(Int×(ah×(List aa)×(List aa)×(List aa)×(List aO)×(List aa)×(List Bool)×(List aa)×Unit)×Unit)) (γ:=((List UInt8)×(List UInt8)×Int×Int×Int×Bool×(List aD)×(List au)×(List av)×(List aa)×(List aa)×(List aa)×(List aa)×(List aO)×(List aa)×(List Bool)×Unit)) (
  iter (X:=oS) (β:=zd) (a0.1.2.2.2.2.2.2.1.length+(Int.natAbs ((a0.1.2.2.2.2.2.2.1.length:Int))+(Int.natAbs (0:Int)+(a0.1.1.length+(a0.1.2.1.length+(a0.1.2.2.1.natAbs+(a0.1.2.2.2.1.natAbs+(a0.1.2.2.2.2.1.natAbs+(a0.1.2.2.2.2.2.2.1.length+(a0.1.2.2.2.2.2.2.2.1.length+(a0.1.2.2.2.2.2.2.2.2.length+(a0.2.2.1.length+(List.length ((List.replicate (Int.toNat ((a0.2.2.2.1.length:Int))) (false,[]):List (aa)):List aa)+(a0.2.1.length+(a0.2.2.2.1.length+(a0.2.2.2.2.1.length+(a0.2.2.2.2.2.1.length+(a0.2.2.2.2.2.2.1.length+2)))))))))))))))))) (a0.1.2.2.2.2.2.2.1,(a0.1.2.2.2.2.2.2.1.length:Int),0,a0.1.1,a0.1.2.1,a0.1.2.2.1,a0.1.2.2.2.1,a0.1.2.2.2.2.1,a0.1.2.2.2.2.2.1,a0.1.2.2.2.2.2.2.1,a0.1.2.2.2.2.2.2.2.1,a0.1.2.2.2.2.2.2.2.2,a0.2.2.1,(List.replicate (Int.toNat ((a0.2.2.2.1.length:Int))) (false,[]):List (aa)),a0.2.1,a0.2.2.2.1,a0.2.2.2.2.1,a0.2.2.2.2.2.1,a0.2.2.2.2.2.2.1,()) (sN)) fun v6=>
 aP (β:=(Int×(ah×(List aa)×(List aa)×(List aa)×(List aO)×(List aa)×(List Bool)×(List aa)×Unit)×Unit)) (γ:=((List UInt8)×(List UInt8)×Int×Int×Int×Bool×(List aD)×(List au)×(List av)×(List aa)×(List aa)×(List aa)×(List aa)×(List aO)×(List aa)×(List Bool)×Unit)) (
  iter (X:=oK) (β:=yN) (Int.natAbs ((v6.2.2.2.2.2.2.2.2.2.2.2.2.2.1.length:Int))+(Int.natAbs (0:Int)+(v6.1.length+(v6.2.1.length+(v6.2.2.1.natAbs+(v6.2.2.2.1.natAbs+(v6.2.2.2.2.1.natAbs+(v6.2.2.2.2.2.2.1.length+(v6.2.2.2.2.2.2.2.1.length+(v6.2.2.2.2.2.2.2.2.1.length+(v6.2.2.2.2.2.2.2.2.2.1.length+(v6.2.2.2.2.2.2.2.2.2.2.1.length+(v6.2.2.2.2.2.2.2.2.2.2.2.1.length+(v6.2.2.2.2.2.2.2.2.2.2.2.2.1.length+(v6.2.2.2.2.2.2.2.2.2.2.2.2.2.1.length+(v6.2.2.2.2.2.2.2.2.2.2.2.2.2.2.1.length+(v6.2.2.2.2.2.2.2.2.2.2.2.2.2.2.2.1.length+2))))))))))))))))) ((v6.2.2.2.2.2.2.2.2.2.2.2.2.2.1.length:Int),0,v6.1,v6.2.1,v6.2.2.1,v6.2.2.2.1,v6.2.2.2.2.1,v6.2.2.2.2.2.1,v6.2.2.2.2.2.2.1,v6.2.2.2.2.2.2.2.1,v6.2.2.2.2.2.2.2.2.1,v6.2.2.2.2.2.2.2.2.2.1,v6.2.2.2.2.2.2.2.2.2.2.1,v6.2.2.2.2.2.2.2.2.2.2.2.1,v6.2.2.2.2.2.2.2.2.2.2.2.2.1,v6.2.2.2.2.2.2.2.2.2.2.2.2.2.1,v6.2.2.2.2.2.2.2.2.2.2.2.2.2.2.1,v6.2.2.2.2.2.2.2.2.2.2.2.2.2.2.2.1,()) (sP)) fun v14=>
 Option.bind (gY v14.2.2.2.2.2.2.2.2.2.2.1 ()) fun r15=>
 bif r15.1 then
  some (1,((v14.1,v14.2.1,v14.2.2.1,v14.2.2.2.1,v14.2.2.2.2.1,v14.2.2.2.2.2.1,v14.2.2.2.2.2.2.1,v14.2.2.2.2.2.2.2.1,v14.2.2.2.2.2.2.2.2.1),v14.2.2.2.2.2.2.2.2.2.2.2.1,v14.2.2.2.2.2.2.2.2.2.1,v14.2.2.2.2.2.2.2.2.2.2.2.2.1,v14.2.2.2.2.2.2.2.2.2.2.2.2.2.1,v14.2.2.2.2.2.2.2.2.2.2.2.2.2.2.1,v14.2.2.2.2.2.2.2.2.2.2.2.2.2.2.2.1,v14.2.2.2.2.2.2.2.2.2.2.1,()),())
 else
  some (0,((v14.1,v14.2.1,v14.2.2.1,v14.2.2.2.1,v14.2.2.2.2.1,v14.2.2.2.2.2.1,v14.2.2.2.2.2.2.1,v14.2.2.2.2.2.2.2.1,v14.2.2.2.2.2.2.2.2.1),v14.2.2.2.2.2.2.2.2.2.2.2.1,v14.2.2.2.2.2.2.2.2.2.1,v14.2.2.2.2.2.2.2.2.2.2.2.2.1,v14.2.2.2.2.2.2.2.2.2.2.2.2.2.1,v14.2.2.2.2.2.2.2.2.2.2.2.2.2.2.1,v14.2.2.2.2.2.2.2.2.2.2.2.2.2.2.2.1,v14.2.2.2.2.2.2.2.2.2.2.1,()),())
abbrev lT:Type:=(List av)×Int×Int×(List UInt8)×(List UInt8)×Int×Int×Int×Bool×(List aD)×(List au)×(List av)×(List aa)×(List aa)×(List aa)×(List aO)×(List aa)×(List Bool)×(List aa)×(List cI)×Unit
abbrev zk:Type:=(((Option Nat)×Int×(List cI)×Unit) ⊕ ((List UInt8)×(List UInt8)×Int×Int×Int×Bool×(List aD)×(List au)×(List av)×(List aa)×(List aa)×(List aa)×(List aO)×(List aa)×(List Bool)×(List aa)×(List cI)×Unit))
noncomputable def oN (x1:lT) (again:lT→Option zk):Option zk:=
 match x1 with
 | (A,B,C,D,E,F,G,H,I,J,K,L,M,N,O,P,Q,R,S,T,_)=>
 bif decide (C<B) then
  Option.bind (idx A C) fun y2=>
  Option.bind (mN ((D,E,F,G,H,I,J,K,L),M,N,O,P,Q,R,S,()) y2) fun r3=>
  bif r3.1 != 0 then
   some (Sum.inl (none,r3.1,T,()))
  else
   again (A,B,w64 (C+1),r3.2.1.1.1,r3.2.1.1.2.1,r3.2.1.1.2.2.1,r3.2.1.1.2.2.2.1,r3.2.1.1.2.2.2.2.1,r3.2.1.1.2.2.2.2.2.1,r3.2.1.1.2.2.2.2.2.2.1,r3.2.1.1.2.2.2.2.2.2.2.1,r3.2.1.1.2.2.2.2.2.2.2.2,r3.2.1.2.1,r3.2.1.2.2.1,r3.2.1.2.2.2.1,r3.2.1.2.2.2.2.1,r3.2.1.2.2.2.2.2.1,r3.2.1.2.2.2.2.2.2.1,r3.2.1.2.2.2.2.2.2.2.1,T,())
 else
  some (Sum.inr (D,E,F,G,H,I,J,K,L,M,N,O,P,Q,R,S,T,()))
noncomputable def kM (a0:ah) (a1:List cI):Option ((Option Nat)×Int×(List cI)×Unit):=
 Option.bind (sE a0) fun r1=>
 bif r1.1 != 0 then
  some (none,r1.1,a1,())
 else
  Option.bind (nL (a0,[],[],[],[],[],[],[],())) fun r2=>
  bif r2.1 != 0 then
   some (none,r2.1,a1,())
  else
   aP (β:=((Option Nat)×Int×(List cI)×Unit)) (γ:=((List UInt8)×(List UInt8)×Int×Int×Int×Bool×(List aD)×(List au)×(List av)×(List aa)×(List aa)×(List aa)×(List aO)×(List aa)×(List Bool)×(List aa)×(List cI)×Unit)) (
    iter (X:=lT) (β:=zk) (a0.2.2.2.2.2.2.2.2.length+(Int.natAbs ((a0.2.2.2.2.2.2.2.2.length:Int))+(Int.natAbs (0:Int)+(r2.2.1.1.1.length+(r2.2.1.1.2.1.length+(r2.2.1.1.2.2.1.natAbs+(r2.2.1.1.2.2.2.1.natAbs+(r2.2.1.1.2.2.2.2.1.natAbs+(r2.2.1.1.2.2.2.2.2.2.1.length+(r2.2.1.1.2.2.2.2.2.2.2.1.length+(r2.2.1.1.2.2.2.2.2.2.2.2.length+(r2.2.1.2.1.length+(r2.2.1.2.2.1.length+(r2.2.1.2.2.2.1.length+(r2.2.1.2.2.2.2.1.length+(r2.2.1.2.2.2.2.2.1.length+(r2.2.1.2.2.2.2.2.2.1.length+(r2.2.1.2.2.2.2.2.2.2.1.length+(List.length a1+2))))))))))))))))))) (a0.2.2.2.2.2.2.2.2,(a0.2.2.2.2.2.2.2.2.length:Int),0,r2.2.1.1.1,r2.2.1.1.2.1,r2.2.1.1.2.2.1,r2.2.1.1.2.2.2.1,r2.2.1.1.2.2.2.2.1,r2.2.1.1.2.2.2.2.2.1,r2.2.1.1.2.2.2.2.2.2.1,r2.2.1.1.2.2.2.2.2.2.2.1,r2.2.1.1.2.2.2.2.2.2.2.2,r2.2.1.2.1,r2.2.1.2.2.1,r2.2.1.2.2.2.1,r2.2.1.2.2.2.2.1,r2.2.1.2.2.2.2.2.1,r2.2.1.2.2.2.2.2.2.1,r2.2.1.2.2.2.2.2.2.2.1,a1,()) (oN)) fun v6=>
   Option.bind (yh ((v6.1,v6.2.1,v6.2.2.1,v6.2.2.2.1,v6.2.2.2.2.1,v6.2.2.2.2.2.1,v6.2.2.2.2.2.2.1,v6.2.2.2.2.2.2.2.1,v6.2.2.2.2.2.2.2.2.1),v6.2.2.2.2.2.2.2.2.2.1,v6.2.2.2.2.2.2.2.2.2.2.1,v6.2.2.2.2.2.2.2.2.2.2.2.1,v6.2.2.2.2.2.2.2.2.2.2.2.2.1,v6.2.2.2.2.2.2.2.2.2.2.2.2.2.1,v6.2.2.2.2.2.2.2.2.2.2.2.2.2.2.1,v6.2.2.2.2.2.2.2.2.2.2.2.2.2.2.2.1,())) fun r7=>
   bif r7.1 != 0 then
    some (none,r7.1,v6.2.2.2.2.2.2.2.2.2.2.2.2.2.2.2.2.1,())
   else
    some (some (v6.2.2.2.2.2.2.2.2.2.2.2.2.2.2.2.2.1.length),0,v6.2.2.2.2.2.2.2.2.2.2.2.2.2.2.2.2.1++[(r7.2.1.1,r7.2.1.2.1,r7.2.1.2.2.1,r7.2.1.2.2.2.1,r7.2.1.2.2.2.2.1,r7.2.1.2.2.2.2.2.1,r7.2.1.2.2.2.2.2.2.1,r7.2.1.2.2.2.2.2.2.2.1)],())
abbrev z1:Type:=(List aa)×Int×Int×Bool×(List Int)×Bool×(List Int)×Unit
abbrev KJ:Type:=((aa×Unit) ⊕ (Bool×(List Int)×Bool×(List Int)×Unit))
def ED (x1:z1) (again:z1→Option KJ):Option KJ:=
 match x1 with
 | (A,B,C,D,E,F,G,_)=>
 bif decide (C<B) then
  Option.bind (idx A C) fun y2=>
  Option.bind (bg (F,G) y2) fun r3=>
  again (A,B,w64 (C+1),D,E,r3.1.1,r3.1.2,())
 else
  some (Sum.inr (D,E,F,G,()))
def Ef (a0:List aa):Option (aa×Unit):=
 Option.bind (bH 0) fun r1=>
 aP (β:=(aa×Unit)) (γ:=(Bool×(List Int)×Bool×(List Int)×Unit)) (
  iter (X:=z1) (β:=KJ) (List.length a0+(Int.natAbs ((List.length a0:Int))+(Int.natAbs (0:Int)+(List.length ([]:List Int)+(r1.1.2.length+2))))) (a0,(List.length a0:Int),0,false,[],r1.1.1,r1.1.2,()) (ED)) fun v5=>
 some ((v5.2.2.1,v5.2.2.2.1),())
def gG (a0:Option Nat) (a1:aa) (a2:List cI):Option (ak×Unit):=
 Option.bind (a0) fun h1=>
 Option.bind (a2[h1]?) fun y2=>
 Option.bind (r0 a1 y2.1.2.2.2.1) fun r3=>
 some (r3.1,())
def oW (a0:Option Nat) (a1:List cI):Option (tJ×Int×Unit):=
 Option.bind (a0) fun h1=>
 Option.bind (a1[h1]?) fun y2=>
 Option.bind (Ef y2.2.1) fun r3=>
 Option.bind (a0) fun h4=>
 Option.bind (a1[h4]?) fun y5=>
 Option.bind (Ef y5.2.2.2.2.2.1) fun r6=>
 Option.bind (a0) fun h7=>
 Option.bind (a1[h7]?) fun y8=>
 Option.bind (Ef y8.2.2.2.2.2.2.2) fun r9=>
 Option.bind (bg r3.1 r6.1) fun r10=>
 Option.bind (bg r10.1 r9.1) fun r11=>
 Option.bind (gX [r3.1,r6.1,r10.1,r9.1,r11.1] ()) fun r12=>
 bif r12.1 then
  some (((0,0),(0,0),(0,0),(0,0),0,0),1,())
 else
  Option.bind (gG a0 r3.1 a1) fun r13=>
  Option.bind (gG a0 r6.1 a1) fun r14=>
  Option.bind (gG a0 r10.1 a1) fun r15=>
  Option.bind (gG a0 r9.1 a1) fun r16=>
  Option.bind (gG a0 r11.1 a1) fun r17=>
  some ((r13.1,r14.1,r15.1,r16.1,r17.1),0,())
abbrev nH:Type:=(Option Nat)×(List bQ)×(List aD)×Int×Int×(List cI)×Unit
abbrev xM:Type:=(((List bQ)×Unit) ⊕ ((List bQ)×(List cI)×Unit))
def ru (x1:nH) (again:nH→Option xM):Option xM:=
 match x1 with
 | (A,B,C,D,E,F,_)=>
 bif decide (E<D) then
  Option.bind (idx C E) fun y2=>
  Option.bind (A) fun h3=>
  Option.bind (F[h3]?) fun y4=>
  Option.bind (idx y4.2.2.2.2.2.2.1 E) fun y5=>
  bif y5 then
   Option.bind (A) fun h6=>
   Option.bind (F[h6]?) fun y7=>
   Option.bind (idx y7.2.2.2.1 E) fun y8=>
   Option.bind (gG A y8 F) fun r9=>
   Option.bind (A) fun h10=>
   Option.bind (F[h10]?) fun y11=>
   Option.bind (idx y11.2.2.2.2.2.2.2 E) fun y12=>
   Option.bind (gG A y12 F) fun r13=>
   chk (decide (((B.length)+1)*48≤140737488355328)&&decide ((B.length)+1≤maxLen)) <|
   again (A,B++[(y2.1,r9.1,r13.1)],C,D,w64 (E+1),F,())
  else
   again (A,B,C,D,w64 (E+1),F,())
 else
  some (Sum.inr (B,F,()))
def vY (a0:Option Nat) (a1:List cI):Option ((List bQ)×Unit):=
 Option.bind (a0) fun h1=>
 Option.bind (a1[h1]?) fun y2=>
 aP (β:=((List bQ)×Unit)) (γ:=((List bQ)×(List cI)×Unit)) (
  iter (X:=nH) (β:=xM) (List.length ([]:List bQ)+(y2.1.2.2.2.2.2.2.1.length+(Int.natAbs ((y2.1.2.2.2.2.2.2.1.length:Int))+(Int.natAbs (0:Int)+2)))) (a0,[],y2.1.2.2.2.2.2.2.1,(y2.1.2.2.2.2.2.2.1.length:Int),0,a1,()) (ru)) fun v16=>
 some (v16.1,())
noncomputable def Hu (a0:ah):Option ((List bQ)×Int×Unit):=
 Option.bind (kM a0 []) fun r1=>
 bif r1.2.1 != 0 then
  some ([],r1.2.1,())
 else
  Option.bind (oW r1.1 r1.2.2.1) fun r2=>
  bif r2.2.1 != 0 then
   some ([],r2.2.1,())
  else
   Option.bind (vY r1.1 r1.2.2.1) fun r3=>
   some (r3.1,0,())
noncomputable def uu (a0:List Int):Option ((List Int)×Unit):=
 bif List.isEmpty a0 then
  both (
   some ([],())) (
   chk (decide ((0+(List.length a0))*8≤140737488355328)&&decide (0+(List.length a0)≤maxLen)) <|
   some (a0,()))
 else
  chk (decide ((0+(List.length a0))*8≤140737488355328)&&decide (0+(List.length a0)≤maxLen)) <|
  some (a0,())
def HD (a0:Int):Option (Int×Unit):=
 some (if (w64 (0 - a0))>a0 then (w64 (0 - a0)) else a0,())
abbrev Co:Type:=(List Int)×Int×(List Int)×Int×Int×Int×Int×Unit
abbrev IF:Type:=(((List ak)×Int×Unit) ⊕ ((List Int)×Int×Int×Int×Unit))
def Cn (x1:Co) (again:Co→Option IF):Option IF:=
 match x1 with
 | (A,B,C,D,E,F,G,_)=>
 bif decide (E<D) then
  Option.bind (idx C E) fun y2=>
  Option.bind (wX y2 0 1000000000) fun r3=>
  bif !r3.1 then
   some (Sum.inl ([],1,()))
  else
   again (A,w64 (B+y2),C,D,w64 (E+1),F,G,())
 else
  some (Sum.inr (A,B,F,G,()))
abbrev Aq:Type:=Int×Int×Int×(List Int)×Int×Int×Int×Int×(List ak)×(List Int)×Unit
abbrev Gr:Type:=(((List ak)×Int×Unit) ⊕ (Int×Int×Int×(List ak)×(List Int)×Unit))
def Ay (x1:Aq) (again:Aq→Option Gr):Option Gr:=
 match x1 with
 | (A,B,C,D,E,F,G,H,I,J,_)=>
 bif decide (F<E) then
  Option.bind (idx D F) fun y2=>
  Option.bind (mg B) fun r3=>
  Option.bind (mg y2) fun r4=>
  Option.bind (gO r3.1 r4.1) fun r5=>
  Option.bind (mg A) fun r6=>
  Option.bind (Fu r5.1 r6.1) fun r7=>
  Option.bind (A9 r7.1 1000000000000000) fun r8=>
  Option.bind (A9 r7.2.1 1000000000000000) fun r9=>
  chk (decide (0≤F)&&decide (F<(J.length:Int))) <|
  Option.bind (J[F.toNat]?) fun _=>
  chk (decide (0≤F)&&decide (F<(I.length:Int))) <|
  Option.bind (I[F.toNat]?) fun _=>
  again (A,B,w64 (C - r8.1),D,E,w64 (F+1),G,H,List.set I F.toNat (r8.1,H),List.set J F.toNat r9.1,())
 else
  some (Sum.inr (C,G,H,I,J,()))
abbrev As:Type:=Int×Int×Int×Int×Int×Int×(List ak)×(List Int)×Unit
abbrev Gg:Type:=((((List ak)×Int×Unit) ⊕ (Int×Int×(List ak)×Unit)) ⊕ (Int×Int×Int×Int×(List ak)×(List Int)×Unit))
def Aw (x1:As) (again:As→Option Gg):Option Gg:=
 match x1 with
 | (A,B,C,D,E,F,G,H,_)=>
 bif decide (D<C) then
  chk (decide (0≤D)&&decide (D<(H.length:Int))) <|
  Option.bind (H[D.toNat]?) fun y2=>
  chk (decide (0≤B)&&decide (B<(H.length:Int))) <|
  Option.bind (H[B.toNat]?) fun y3=>
  bif decide (y2>y3) then
   again (A,D,C,w64 (D+1),E,F,G,H,())
  else
   again (A,B,C,w64 (D+1),E,F,G,H,())
 else
  some (Sum.inr (A,B,E,F,G,H,()))
abbrev AJ:Type:=Int×Int×Int×(List ak)×(List Int)×Unit
abbrev F9:Type:=(((List ak)×Int×Unit) ⊕ (Int×Int×(List ak)×Unit))
def Ae (x1:AJ) (again:AJ→Option F9):Option F9:=
 match x1 with
 | (A,B,C,D,E,_)=>
 bif decide (A>0) then
  aP (β:=(((List ak)×Int×Unit) ⊕ (Int×Int×(List ak)×Unit))) (γ:=(Int×Int×Int×Int×(List ak)×(List Int)×Unit)) (
   iter (X:=As) (β:=Gg) (A.natAbs+(Int.natAbs (0:Int)+(Int.natAbs ((E.length:Int))+(Int.natAbs (0:Int)+(B.natAbs+(C.natAbs+(D.length+(E.length+2)))))))) (A,0,(E.length:Int),0,B,C,D,E,()) (Aw)) fun v2=>
  chk (decide (0≤v2.2.1)&&decide (v2.2.1<(v2.2.2.2.2.1.length:Int))) <|
  Option.bind (v2.2.2.2.2.1[v2.2.1.toNat]?) fun y3=>
  chk (decide (0≤v2.2.1)&&decide (v2.2.1<(v2.2.2.2.2.1.length:Int))) <|
  Option.bind (v2.2.2.2.2.1[v2.2.1.toNat]?) fun y4=>
  chk (decide (0≤v2.2.1)&&decide (v2.2.1<(v2.2.2.2.2.2.1.length:Int))) <|
  Option.bind (v2.2.2.2.2.2.1[v2.2.1.toNat]?) fun _=>
  again (w64 (v2.1 - 1),v2.2.2.1,v2.2.2.2.1,List.set v2.2.2.2.2.1 v2.2.1.toNat (w64 (y3.1+1),y4.2),List.set v2.2.2.2.2.2.1 v2.2.1.toNat (-1),())
 else
  some (Sum.inr (B,C,D,()))
abbrev An:Type:=Int×Int×Int×Int×(List ak)×Unit
abbrev GA:Type:=(((List ak)×Int×Unit) ⊕ ((List ak)×Unit))
def Al (x1:An) (again:An→Option GA):Option GA:=
 match x1 with
 | (A,B,C,D,E,_)=>
 bif decide (B<A) then
  bif decide (C<0) then
   chk (decide (0≤B)&&decide (B<(E.length:Int))) <|
   Option.bind (E[B.toNat]?) fun y2=>
   chk (decide (0≤B)&&decide (B<(E.length:Int))) <|
   Option.bind (E[B.toNat]?) fun y3=>
   again (A,w64 (B+1),C,D,List.set E B.toNat (w64 (0 - y2.1),y3.2),())
  else
   again (A,w64 (B+1),C,D,E,())
 else
  some (Sum.inr (E,()))
def Jt (a0:ak) (a1:List Int):Option ((List ak)×Int×Unit):=
 Option.bind (lO a0) fun r1=>
 bif r1.1 != 0 then
  some ([],1,())
 else
  bif ((List.length a1:Int))==0 then
   some ([],9,())
  else
   bif decide (((List.length a1:Int))>1000) then
    some ([],2,())
   else
    aP (β:=((List ak)×Int×Unit)) (γ:=((List Int)×Int×Int×Int×Unit)) (
     iter (X:=Co) (β:=IF) (List.length a1+(Int.natAbs (0:Int)+(List.length a1+(Int.natAbs ((List.length a1:Int))+(Int.natAbs (0:Int)+(a0.1.natAbs+(a0.2.natAbs+2))))))) (a1,0,a1,(List.length a1:Int),0,a0.1,a0.2,()) (Cn)) fun v5=>
    bif v5.2.1==0 then
     some ([],13,())
    else
     chk (decide (0≤((v5.1.length:Int)))&&decide (((v5.1.length:Int))≤((v5.1.length:Int)))&&decide ((16:Int)*((v5.1.length:Int))≤281474976710656)&&decide (((v5.1.length:Int))≤9223372036854775807)) <|
     chk (decide (0≤((v5.1.length:Int)))&&decide (((v5.1.length:Int))≤((v5.1.length:Int)))&&decide ((8:Int)*((v5.1.length:Int))≤281474976710656)&&decide (((v5.1.length:Int))≤9223372036854775807)) <|
     aP (β:=((List ak)×Int×Unit)) (γ:=(Int×Int×Int×(List ak)×(List Int)×Unit)) (
      iter (X:=Aq) (β:=Gr) (v5.2.1.natAbs+(Int.natAbs (if (w64 (0 - v5.2.2.1))>v5.2.2.1 then (w64 (0 - v5.2.2.1)) else v5.2.2.1)+(Int.natAbs (if (w64 (0 - v5.2.2.1))>v5.2.2.1 then (w64 (0 - v5.2.2.1)) else v5.2.2.1)+(v5.1.length+(Int.natAbs ((v5.1.length:Int))+(Int.natAbs (0:Int)+(v5.2.2.1.natAbs+(v5.2.2.2.1.natAbs+(List.length ((List.replicate (Int.toNat ((v5.1.length:Int))) (0,0):List (ak)):List ak)+(List.length ((List.replicate (Int.toNat ((v5.1.length:Int))) 0:List (Int)):List Int)+2)))))))))) (v5.2.1,if (w64 (0 - v5.2.2.1))>v5.2.2.1 then (w64 (0 - v5.2.2.1)) else v5.2.2.1,if (w64 (0 - v5.2.2.1))>v5.2.2.1 then (w64 (0 - v5.2.2.1)) else v5.2.2.1,v5.1,(v5.1.length:Int),0,v5.2.2.1,v5.2.2.2.1,(List.replicate (Int.toNat ((v5.1.length:Int))) (0,0):List (ak)),(List.replicate (Int.toNat ((v5.1.length:Int))) 0:List (Int)),()) (Ay)) fun v17=>
     aP (β:=((List ak)×Int×Unit)) (γ:=(Int×Int×(List ak)×Unit)) (
      iter (X:=AJ) (β:=F9) (v17.1.natAbs+(v17.2.1.natAbs+(v17.2.2.1.natAbs+(v17.2.2.2.1.length+(v17.2.2.2.2.1.length+2))))) (v17.1,v17.2.1,v17.2.2.1,v17.2.2.2.1,v17.2.2.2.2.1,()) (Ae)) fun v26=>
     aP (β:=((List ak)×Int×Unit)) (γ:=((List ak)×Unit)) (
      iter (X:=An) (β:=GA) (Int.natAbs ((v26.2.2.1.length:Int))+(Int.natAbs (0:Int)+(v26.1.natAbs+(v26.2.1.natAbs+(v26.2.2.1.length+2))))) ((v26.2.2.1.length:Int),0,v26.1,v26.2.1,v26.2.2.1,()) (Al)) fun v30=>
     some (v30.1,0,())
abbrev Ab:Type:=Int×(List Int)×Int×(List Int)×Int×Int×(List Int)×Unit
abbrev Ge:Type:=(((List Int)×Int×Unit) ⊕ (Int×(List Int)×Int×(List Int)×Unit))
def Av (x1:Ab) (again:Ab→Option Ge):Option Ge:=
 match x1 with
 | (A,B,C,D,E,F,G,_)=>
 bif decide (F<E) then
  Option.bind (idx D F) fun y2=>
  Option.bind (HD y2) fun r3=>
  chk (decide (((B.length)+1)*8≤140737488355328)&&decide ((B.length)+1≤maxLen)) <|
  Option.bind (HD y2) fun r4=>
  Option.bind (HD y2) fun r5=>
  bif decide (r5.1>1000000000) then
   some (Sum.inl ([],2,()))
  else
   again (A,B++[r3.1],w64 (C+r4.1),D,E,w64 (F+1),G,())
 else
  some (Sum.inr (A,B,C,G,()))
abbrev yD:Type:=Int×(List ak)×Int×Int×(List Int)×Unit
abbrev Es:Type:=(((List Int)×Int×Unit) ⊕ (Int×(List Int)×Unit))
def yl (x1:yD) (again:yD→Option Es):Option Es:=
 match x1 with
 | (A,B,C,D,E,_)=>
 bif decide (D<C) then
  Option.bind (idx B D) fun y2=>
  chk (decide (0≤D)&&decide (D<(E.length:Int))) <|
  Option.bind (E[D.toNat]?) fun _=>
  again (A,B,C,w64 (D+1),List.set E D.toNat y2.1,())
 else
  some (Sum.inr (A,E,()))
def Hp (a0:Int) (a1:List Int):Option ((List Int)×Int×Unit):=
 chk (decide (0≤((List.length a1:Int)))&&decide (((List.length a1:Int))≤((List.length a1:Int)))&&decide ((8:Int)*((List.length a1:Int))≤281474976710656)&&decide (((List.length a1:Int))≤9223372036854775807)) <|
 aP (β:=((List Int)×Int×Unit)) (γ:=(Int×(List Int)×Int×(List Int)×Unit)) (
  iter (X:=Ab) (β:=Ge) (Int.natAbs a0+(List.length ([]:List Int)+(Int.natAbs (0:Int)+(List.length a1+(Int.natAbs ((List.length a1:Int))+(Int.natAbs (0:Int)+(List.length ((List.replicate (Int.toNat ((List.length a1:Int))) 0:List (Int)):List Int)+2))))))) (a0,[],0,a1,(List.length a1:Int),0,(List.replicate (Int.toNat ((List.length a1:Int))) 0:List (Int)),()) (Av)) fun v6=>
 bif v6.2.2.1==0 then
  chk (decide (0≤(0:Int))&&decide ((0:Int)<(v6.2.2.2.1.length:Int))) <|
  Option.bind (v6.2.2.2.1[0]?) fun _=>
  some (List.set v6.2.2.2.1 0 v6.1,0,())
 else
  Option.bind (Jt (v6.1,0) v6.2.1) fun r8=>
  aP (β:=((List Int)×Int×Unit)) (γ:=(Int×(List Int)×Unit)) (
   iter (X:=yD) (β:=Es) (r8.2.1.natAbs+(r8.1.length+(Int.natAbs ((r8.1.length:Int))+(Int.natAbs (0:Int)+(v6.2.2.2.1.length+2))))) (r8.2.1,r8.1,(r8.1.length:Int),0,v6.2.2.2.1,()) (yl)) fun v12=>
  some (v12.2.1,v12.1,())
abbrev rm:Type:=Int×Int×Int×Int×(List UInt8)×(List UInt8)×Int×Int×Int×Bool×(List aD)×(List au)×(List av)×Bool×Int×Int×(List UInt8)×Int×Int×Int×Int×Int×(List Int)×(List Int)×(List (List Int))×(List Int)×(List Int)×(List Int)×(List Bool)×Unit
abbrev xU:Type:=((Int×((List Int)×(List Int)×(List (List Int))×(List Int)×(List Int)×(List Int)×(List Bool)×(Int×Int×Int×Int×Int)×Unit)×Unit) ⊕ (Int×Int×(List UInt8)×(List UInt8)×Int×Int×Int×Bool×(List aD)×(List au)×(List av)×Bool×Int×Int×(List UInt8)×Int×Int×Int×Int×Int×(List Int)×(List Int)×(List (List Int))×(List Int)×(List Int)×(List Int)×(List Bool)×Unit))
def rI (x1:rm) (again:rm→Option xU):Option xU:=
 match x1 with
 | (A,B,C,D,E,F,G,H,I,J,K,L,M,N,O,P,Q,R,S,T,U,V,W,X,Y,Z,A0,B0,C0,_)=>
 bif decide (D<C) then
  chk (decide (0≤D)&&decide (D<(X.length:Int))) <|
  Option.bind (X[D.toNat]?) fun y2=>
  bif Q==[] then
   again (w64 (A+y2),B,C,w64 (D+1),E,F,G,H,I,J,K,L,M,N,O,P,Q,R,S,T,U,V,W,X,Y,Z,A0,B0,C0,())
  else
   bif D==B then
    again (w64 (A+y2),B,C,w64 (D+1),E,F,G,H,I,J,K,L,M,N,O,P,Q,R,S,T,U,V,W,X,Y,Z,A0,B0,C0,())
   else
    again (A,B,C,w64 (D+1),E,F,G,H,I,J,K,L,M,N,O,P,Q,R,S,T,U,V,W,X,Y,Z,A0,B0,C0,())
 else
  some (Sum.inr (A,B,E,F,G,H,I,J,K,L,M,N,O,P,Q,R,S,T,U,V,W,X,Y,Z,A0,B0,C0,()))
abbrev mG:Type:=Int×Int×(List Int)×(List Int)×Int×Int×Int×Int×Int×Int×Int×(List Int)×(List Int)×(List (List Int))×(List Int)×(List Int)×(List Int)×(List Bool)×Unit
abbrev qx:Type:=((Int×((List Int)×(List Int)×(List (List Int))×(List Int)×(List Int)×(List Int)×(List Bool)×(Int×Int×Int×Int×Int)×Unit)×Unit) ⊕ (Int×(List Int)×Int×Int×Int×Int×Int×(List Int)×(List Int)×(List (List Int))×(List Int)×(List Int)×(List Int)×(List Bool)×Unit))
def mH (x1:mG) (again:mG→Option qx):Option qx:=
 match x1 with
 | (A,B,C,D,E,F,G,H,I,J,K,L,M,N,O,P,Q,R,_)=>
 bif decide (F<E) then
  Option.bind (idx D F) fun y2=>
  chk (decide (0≤F)&&decide (F<(P.length:Int))) <|
  Option.bind (P[F.toNat]?) fun y3=>
  chk (decide (0≤F)&&decide (F<(P.length:Int))) <|
  Option.bind (P[F.toNat]?) fun _=>
  chk (decide (0≤F)&&decide (F<(R.length:Int))) <|
  Option.bind (R[F.toNat]?) fun y4=>
  bif y4 then
   chk (decide (0≤F)&&decide (F<(R.length:Int))) <|
   Option.bind (R[F.toNat]?) fun _=>
   again (A,B,C,D,E,w64 (F+1),G,H,I,J,K,L,M,N,O,List.set P F.toNat (w64 (y3+y2)),Q,List.set R F.toNat true,())
  else
   bif y2 != 0 then
    chk (decide (0≤F)&&decide (F<(R.length:Int))) <|
    Option.bind (R[F.toNat]?) fun _=>
    again (A,B,C,D,E,w64 (F+1),G,H,I,J,K,L,M,N,O,List.set P F.toNat (w64 (y3+y2)),Q,List.set R F.toNat true,())
   else
    chk (decide (0≤F)&&decide (F<(R.length:Int))) <|
    Option.bind (R[F.toNat]?) fun _=>
    again (A,B,C,D,E,w64 (F+1),G,H,I,J,K,L,M,N,O,List.set P F.toNat (w64 (y3+y2)),Q,List.set R F.toNat (F==A),())
 else
  some (Sum.inr (B,C,G,H,I,J,K,L,M,N,O,P,Q,R,()))
abbrev mj:Type:=Int×(List Int)×Int×Int×Int×Int×Int×Int×Int×(List Int)×(List Int)×(List (List Int))×(List Int)×(List Int)×(List Int)×(List Bool)×Unit
abbrev qw:Type:=((Int×((List Int)×(List Int)×(List (List Int))×(List Int)×(List Int)×(List Int)×(List Bool)×(Int×Int×Int×Int×Int)×Unit)×Unit) ⊕ (Int×(List Int)×Int×Int×Int×Int×Int×(List Int)×(List Int)×(List (List Int))×(List Int)×(List Int)×(List Int)×(List Bool)×Unit))
def mJ (x1:mj) (again:mj→Option qw):Option qw:=
 match x1 with
 | (A,B,C,D,E,F,G,H,I,J,K,L,M,N,O,P,_)=>
 bif decide (D<C) then
  chk (decide (0≤D)&&decide (D<(N.length:Int))) <|
  Option.bind (N[D.toNat]?) fun y2=>
  Option.bind (nR y2) fun r3=>
  bif !r3.1 then
   some (Sum.inl (1,(J,K,L,M,N,O,P,(E,F,G,H,I),()),()))
  else
   again (A,B,C,w64 (D+1),E,F,G,H,I,J,K,L,M,N,O,P,())
 else
  some (Sum.inr (A,B,E,F,G,H,I,J,K,L,M,N,O,P,()))
def wo (a0:(List Int)×(List Int)×(List (List Int))×(List Int)×(List Int)×(List Int)×(List Bool)×(Int×Int×Int×Int×Int)×Unit) (a1:ah) (a2:av):Option (Int×((List Int)×(List Int)×(List (List Int))×(List Int)×(List Int)×(List Int)×(List Bool)×(Int×Int×Int×Int×Int)×Unit)×Unit):=
 Option.bind (fJ a1 a2.2.2) fun r1=>
 aP (β:=(Int×((List Int)×(List Int)×(List (List Int))×(List Int)×(List Int)×(List Int)×(List Bool)×(Int×Int×Int×Int×Int)×Unit)×Unit)) (γ:=(Int×Int×(List UInt8)×(List UInt8)×Int×Int×Int×Bool×(List aD)×(List au)×(List av)×Bool×Int×Int×(List UInt8)×Int×Int×Int×Int×Int×(List Int)×(List Int)×(List (List Int))×(List Int)×(List Int)×(List Int)×(List Bool)×Unit)) (
  iter (X:=rm) (β:=xU) (Int.natAbs (0:Int)+(r1.1.natAbs+(Int.natAbs ((a0.2.1.length:Int))+(Int.natAbs (0:Int)+(a1.1.length+(a1.2.1.length+(a1.2.2.1.natAbs+(a1.2.2.2.1.natAbs+(a1.2.2.2.2.1.natAbs+(a1.2.2.2.2.2.2.1.length+(a1.2.2.2.2.2.2.2.1.length+(a1.2.2.2.2.2.2.2.2.length+(a2.2.1.1.natAbs+(a2.2.1.2.natAbs+(a2.2.2.length+(a0.2.2.2.2.2.2.2.1.1.natAbs+(a0.2.2.2.2.2.2.2.1.2.1.natAbs+(a0.2.2.2.2.2.2.2.1.2.2.1.natAbs+(a0.2.2.2.2.2.2.2.1.2.2.2.1.natAbs+(a0.2.2.2.2.2.2.2.1.2.2.2.2.natAbs+(a0.1.length+(a0.2.1.length+(a0.2.2.1.length+(a0.2.2.2.1.length+(a0.2.2.2.2.1.length+(a0.2.2.2.2.2.1.length+(a0.2.2.2.2.2.2.1.length+2))))))))))))))))))))))))))) (0,r1.1,(a0.2.1.length:Int),0,a1.1,a1.2.1,a1.2.2.1,a1.2.2.2.1,a1.2.2.2.2.1,a1.2.2.2.2.2.1,a1.2.2.2.2.2.2.1,a1.2.2.2.2.2.2.2.1,a1.2.2.2.2.2.2.2.2,a2.1,a2.2.1.1,a2.2.1.2,a2.2.2,a0.2.2.2.2.2.2.2.1.1,a0.2.2.2.2.2.2.2.1.2.1,a0.2.2.2.2.2.2.2.1.2.2.1,a0.2.2.2.2.2.2.2.1.2.2.2.1,a0.2.2.2.2.2.2.2.1.2.2.2.2,a0.1,a0.2.1,a0.2.2.1,a0.2.2.2.1,a0.2.2.2.2.1,a0.2.2.2.2.2.1,a0.2.2.2.2.2.2.1,()) (rI)) fun v4=>
 Option.bind (B8 (v4.2.2.1,v4.2.2.2.1,v4.2.2.2.2.1,v4.2.2.2.2.2.1,v4.2.2.2.2.2.2.1,v4.2.2.2.2.2.2.2.1,v4.2.2.2.2.2.2.2.2.1,v4.2.2.2.2.2.2.2.2.2.1,v4.2.2.2.2.2.2.2.2.2.2.1) (v4.2.2.2.2.2.2.2.2.2.2.2.1,(v4.2.2.2.2.2.2.2.2.2.2.2.2.1,v4.2.2.2.2.2.2.2.2.2.2.2.2.2.1),v4.2.2.2.2.2.2.2.2.2.2.2.2.2.2.1) v4.1) fun r5=>
 bif !r5.2.1 then
  some (1,(v4.2.2.2.2.2.2.2.2.2.2.2.2.2.2.2.2.2.2.2.2.1,v4.2.2.2.2.2.2.2.2.2.2.2.2.2.2.2.2.2.2.2.2.2.1,v4.2.2.2.2.2.2.2.2.2.2.2.2.2.2.2.2.2.2.2.2.2.2.1,v4.2.2.2.2.2.2.2.2.2.2.2.2.2.2.2.2.2.2.2.2.2.2.2.1,v4.2.2.2.2.2.2.2.2.2.2.2.2.2.2.2.2.2.2.2.2.2.2.2.2.1,v4.2.2.2.2.2.2.2.2.2.2.2.2.2.2.2.2.2.2.2.2.2.2.2.2.2.1,v4.2.2.2.2.2.2.2.2.2.2.2.2.2.2.2.2.2.2.2.2.2.2.2.2.2.2.1,(v4.2.2.2.2.2.2.2.2.2.2.2.2.2.2.2.1,v4.2.2.2.2.2.2.2.2.2.2.2.2.2.2.2.2.1,v4.2.2.2.2.2.2.2.2.2.2.2.2.2.2.2.2.2.1,v4.2.2.2.2.2.2.2.2.2.2.2.2.2.2.2.2.2.2.1,v4.2.2.2.2.2.2.2.2.2.2.2.2.2.2.2.2.2.2.2.1),()),())
 else
  chk (decide (0≤((v4.2.2.2.2.2.2.2.2.2.2.2.2.2.2.2.2.2.2.2.2.2.1.length:Int)))&&decide (((v4.2.2.2.2.2.2.2.2.2.2.2.2.2.2.2.2.2.2.2.2.2.1.length:Int))≤((v4.2.2.2.2.2.2.2.2.2.2.2.2.2.2.2.2.2.2.2.2.2.1.length:Int)))&&decide ((8:Int)*((v4.2.2.2.2.2.2.2.2.2.2.2.2.2.2.2.2.2.2.2.2.2.1.length:Int))≤281474976710656)&&decide (((v4.2.2.2.2.2.2.2.2.2.2.2.2.2.2.2.2.2.2.2.2.2.1.length:Int))≤9223372036854775807)) <|
  aP (β:=(Int×((List Int)×(List Int)×(List (List Int))×(List Int)×(List Int)×(List Int)×(List Bool)×(Int×Int×Int×Int×Int)×Unit)×Unit)) (γ:=(Int×Int×(List Int)×Int×Int×Int×Int×Int×(List Int)×(List Int)×(List (List Int))×(List Int)×(List Int)×(List Int)×(List Bool)×Unit)) (
   bif v4.2.2.2.2.2.2.2.2.2.2.2.2.2.2.1==[] then
    Option.bind (Hp r5.1 v4.2.2.2.2.2.2.2.2.2.2.2.2.2.2.2.2.2.2.2.2.2.1) fun r6=>
    bif r6.2.1 != 0 then
     some (Sum.inl (r6.2.1,(v4.2.2.2.2.2.2.2.2.2.2.2.2.2.2.2.2.2.2.2.2.1,v4.2.2.2.2.2.2.2.2.2.2.2.2.2.2.2.2.2.2.2.2.2.1,v4.2.2.2.2.2.2.2.2.2.2.2.2.2.2.2.2.2.2.2.2.2.2.1,v4.2.2.2.2.2.2.2.2.2.2.2.2.2.2.2.2.2.2.2.2.2.2.2.1,v4.2.2.2.2.2.2.2.2.2.2.2.2.2.2.2.2.2.2.2.2.2.2.2.2.1,v4.2.2.2.2.2.2.2.2.2.2.2.2.2.2.2.2.2.2.2.2.2.2.2.2.2.1,v4.2.2.2.2.2.2.2.2.2.2.2.2.2.2.2.2.2.2.2.2.2.2.2.2.2.2.1,(v4.2.2.2.2.2.2.2.2.2.2.2.2.2.2.2.1,v4.2.2.2.2.2.2.2.2.2.2.2.2.2.2.2.2.1,v4.2.2.2.2.2.2.2.2.2.2.2.2.2.2.2.2.2.1,v4.2.2.2.2.2.2.2.2.2.2.2.2.2.2.2.2.2.2.1,v4.2.2.2.2.2.2.2.2.2.2.2.2.2.2.2.2.2.2.2.1),()),()))
    else
     some (Sum.inr (v4.2.1,r5.1,r6.1,v4.2.2.2.2.2.2.2.2.2.2.2.2.2.2.2.1,v4.2.2.2.2.2.2.2.2.2.2.2.2.2.2.2.2.1,v4.2.2.2.2.2.2.2.2.2.2.2.2.2.2.2.2.2.1,v4.2.2.2.2.2.2.2.2.2.2.2.2.2.2.2.2.2.2.1,v4.2.2.2.2.2.2.2.2.2.2.2.2.2.2.2.2.2.2.2.1,v4.2.2.2.2.2.2.2.2.2.2.2.2.2.2.2.2.2.2.2.2.1,v4.2.2.2.2.2.2.2.2.2.2.2.2.2.2.2.2.2.2.2.2.2.1,v4.2.2.2.2.2.2.2.2.2.2.2.2.2.2.2.2.2.2.2.2.2.2.1,v4.2.2.2.2.2.2.2.2.2.2.2.2.2.2.2.2.2.2.2.2.2.2.2.1,v4.2.2.2.2.2.2.2.2.2.2.2.2.2.2.2.2.2.2.2.2.2.2.2.2.1,v4.2.2.2.2.2.2.2.2.2.2.2.2.2.2.2.2.2.2.2.2.2.2.2.2.2.1,v4.2.2.2.2.2.2.2.2.2.2.2.2.2.2.2.2.2.2.2.2.2.2.2.2.2.2.1,()))
   else
    chk (decide (0≤v4.2.1)&&decide (v4.2.1<(List.length (List.replicate (Int.toNat ((v4.2.2.2.2.2.2.2.2.2.2.2.2.2.2.2.2.2.2.2.2.2.1.length:Int))) 0:List (Int)):Int))) <|
    Option.bind ((List.replicate (Int.toNat ((v4.2.2.2.2.2.2.2.2.2.2.2.2.2.2.2.2.2.2.2.2.2.1.length:Int))) 0:List (Int))[v4.2.1.toNat]?) fun _=>
    some (Sum.inr (v4.2.1,r5.1,List.set (List.replicate (Int.toNat ((v4.2.2.2.2.2.2.2.2.2.2.2.2.2.2.2.2.2.2.2.2.2.1.length:Int))) 0:List (Int)) v4.2.1.toNat r5.1,v4.2.2.2.2.2.2.2.2.2.2.2.2.2.2.2.1,v4.2.2.2.2.2.2.2.2.2.2.2.2.2.2.2.2.1,v4.2.2.2.2.2.2.2.2.2.2.2.2.2.2.2.2.2.1,v4.2.2.2.2.2.2.2.2.2.2.2.2.2.2.2.2.2.2.1,v4.2.2.2.2.2.2.2.2.2.2.2.2.2.2.2.2.2.2.2.1,v4.2.2.2.2.2.2.2.2.2.2.2.2.2.2.2.2.2.2.2.2.1,v4.2.2.2.2.2.2.2.2.2.2.2.2.2.2.2.2.2.2.2.2.2.1,v4.2.2.2.2.2.2.2.2.2.2.2.2.2.2.2.2.2.2.2.2.2.2.1,v4.2.2.2.2.2.2.2.2.2.2.2.2.2.2.2.2.2.2.2.2.2.2.2.1,v4.2.2.2.2.2.2.2.2.2.2.2.2.2.2.2.2.2.2.2.2.2.2.2.2.1,v4.2.2.2.2.2.2.2.2.2.2.2.2.2.2.2.2.2.2.2.2.2.2.2.2.2.1,v4.2.2.2.2.2.2.2.2.2.2.2.2.2.2.2.2.2.2.2.2.2.2.2.2.2.2.1,()))) fun v8=>
  aP (β:=(Int×((List Int)×(List Int)×(List (List Int))×(List Int)×(List Int)×(List Int)×(List Bool)×(Int×Int×Int×Int×Int)×Unit)×Unit)) (γ:=(Int×(List Int)×Int×Int×Int×Int×Int×(List Int)×(List Int)×(List (List Int))×(List Int)×(List Int)×(List Int)×(List Bool)×Unit)) (
   iter (X:=mG) (β:=qx) (v8.1.natAbs+(v8.2.1.natAbs+(v8.2.2.1.length+(v8.2.2.1.length+(Int.natAbs ((v8.2.2.1.length:Int))+(Int.natAbs (0:Int)+(v8.2.2.2.1.natAbs+(v8.2.2.2.2.1.natAbs+(v8.2.2.2.2.2.1.natAbs+(v8.2.2.2.2.2.2.1.natAbs+(v8.2.2.2.2.2.2.2.1.natAbs+(v8.2.2.2.2.2.2.2.2.1.length+(v8.2.2.2.2.2.2.2.2.2.1.length+(v8.2.2.2.2.2.2.2.2.2.2.1.length+(v8.2.2.2.2.2.2.2.2.2.2.2.1.length+(v8.2.2.2.2.2.2.2.2.2.2.2.2.1.length+(v8.2.2.2.2.2.2.2.2.2.2.2.2.2.1.length+(v8.2.2.2.2.2.2.2.2.2.2.2.2.2.2.1.length+2)))))))))))))))))) (v8.1,v8.2.1,v8.2.2.1,v8.2.2.1,(v8.2.2.1.length:Int),0,v8.2.2.2.1,v8.2.2.2.2.1,v8.2.2.2.2.2.1,v8.2.2.2.2.2.2.1,v8.2.2.2.2.2.2.2.1,v8.2.2.2.2.2.2.2.2.1,v8.2.2.2.2.2.2.2.2.2.1,v8.2.2.2.2.2.2.2.2.2.2.1,v8.2.2.2.2.2.2.2.2.2.2.2.1,v8.2.2.2.2.2.2.2.2.2.2.2.2.1,v8.2.2.2.2.2.2.2.2.2.2.2.2.2.1,v8.2.2.2.2.2.2.2.2.2.2.2.2.2.2.1,()) (mH)) fun v17=>
  aP (β:=(Int×((List Int)×(List Int)×(List (List Int))×(List Int)×(List Int)×(List Int)×(List Bool)×(Int×Int×Int×Int×Int)×Unit)×Unit)) (γ:=(Int×(List Int)×Int×Int×Int×Int×Int×(List Int)×(List Int)×(List (List Int))×(List Int)×(List Int)×(List Int)×(List Bool)×Unit)) (
   iter (X:=mj) (β:=qw) (v17.1.natAbs+(v17.2.1.length+(Int.natAbs ((v17.2.2.2.2.2.2.2.2.2.2.2.1.length:Int))+(Int.natAbs (0:Int)+(v17.2.2.1.natAbs+(v17.2.2.2.1.natAbs+(v17.2.2.2.2.1.natAbs+(v17.2.2.2.2.2.1.natAbs+(v17.2.2.2.2.2.2.1.natAbs+(v17.2.2.2.2.2.2.2.1.length+(v17.2.2.2.2.2.2.2.2.1.length+(v17.2.2.2.2.2.2.2.2.2.1.length+(v17.2.2.2.2.2.2.2.2.2.2.1.length+(v17.2.2.2.2.2.2.2.2.2.2.2.1.length+(v17.2.2.2.2.2.2.2.2.2.2.2.2.1.length+(v17.2.2.2.2.2.2.2.2.2.2.2.2.2.1.length+2)))))))))))))))) (v17.1,v17.2.1,(v17.2.2.2.2.2.2.2.2.2.2.2.1.length:Int),0,v17.2.2.1,v17.2.2.2.1,v17.2.2.2.2.1,v17.2.2.2.2.2.1,v17.2.2.2.2.2.2.1,v17.2.2.2.2.2.2.2.1,v17.2.2.2.2.2.2.2.2.1,v17.2.2.2.2.2.2.2.2.2.1,v17.2.2.2.2.2.2.2.2.2.2.1,v17.2.2.2.2.2.2.2.2.2.2.2.1,v17.2.2.2.2.2.2.2.2.2.2.2.2.1,v17.2.2.2.2.2.2.2.2.2.2.2.2.2.1,()) (mJ)) fun v21=>
  chk (decide (((v21.2.2.2.2.2.2.2.2.2.2.1.length)+1)*8≤140737488355328)&&decide ((v21.2.2.2.2.2.2.2.2.2.2.1.length)+1≤maxLen)) <|
  chk (decide (((v21.2.2.2.2.2.2.2.2.2.1.length)+1)*24≤140737488355328)&&decide ((v21.2.2.2.2.2.2.2.2.2.1.length)+1≤maxLen)) <|
  some (0,(v21.2.2.2.2.2.2.2.1,v21.2.2.2.2.2.2.2.2.1,v21.2.2.2.2.2.2.2.2.2.1++[v21.2.1],v21.2.2.2.2.2.2.2.2.2.2.1++[v21.1],v21.2.2.2.2.2.2.2.2.2.2.2.1,v21.2.2.2.2.2.2.2.2.2.2.2.2.1,v21.2.2.2.2.2.2.2.2.2.2.2.2.2.1,(v21.2.2.1,v21.2.2.2.1,v21.2.2.2.2.1,v21.2.2.2.2.2.1,v21.2.2.2.2.2.2.1),()),())
abbrev uo:Type:=Int×Int×(List au)×Int×Int×(List UInt8)×(List UInt8)×Int×Int×Int×Bool×(List aD)×(List au)×(List av)×Int×Int×Int×Int×Int×(List Int)×(List Int)×(List (List Int))×(List Int)×(List Int)×(List Int)×(List Bool)×Unit
abbrev AY:Type:=((Int×Bool×((List Int)×(List Int)×(List (List Int))×(List Int)×(List Int)×(List Int)×(List Bool)×(Int×Int×Int×Int×Int)×Unit)×Unit) ⊕ (Int×Int×(List UInt8)×(List UInt8)×Int×Int×Int×Bool×(List aD)×(List au)×(List av)×Int×Int×Int×Int×Int×(List Int)×(List Int)×(List (List Int))×(List Int)×(List Int)×(List Int)×(List Bool)×Unit))
def uQ (x1:uo) (again:uo→Option AY):Option AY:=
 match x1 with
 | (A,B,C,D,E,F,G,H,I,J,K,L,M,N,O,P,Q,R,S,T,U,V,W,X,Y,Z,_)=>
 bif decide (E<D) then
  Option.bind (idx C E) fun y2=>
  Option.bind (idx L A) fun y3=>
  bif y2.2.2.2.2.2.2.2.2==y3.1 then
   chk (decide (0≤E)&&decide (E<(T.length:Int))) <|
   Option.bind (T[E.toNat]?) fun y4=>
   Option.bind (idx L A) fun y5=>
   Option.bind (pG (F,G,H,I,J,K,L,M,N) y4 y5.2) fun r6=>
   again (A,w64 (B+r6.1),C,D,w64 (E+1),F,G,H,I,J,K,L,M,N,O,P,Q,R,S,T,U,V,W,X,Y,Z,())
  else
   again (A,B,C,D,w64 (E+1),F,G,H,I,J,K,L,M,N,O,P,Q,R,S,T,U,V,W,X,Y,Z,())
 else
  some (Sum.inr (A,B,F,G,H,I,J,K,L,M,N,O,P,Q,R,S,T,U,V,W,X,Y,Z,()))
abbrev sS:Type:=Int×Int×Int×Int×(List UInt8)×(List UInt8)×Int×Int×Int×Bool×(List aD)×(List au)×(List av)×Int×Int×Int×Int×Int×(List Int)×(List Int)×(List (List Int))×(List Int)×(List Int)×(List Int)×(List Bool)×Unit
abbrev yO:Type:=((Int×Bool×((List Int)×(List Int)×(List (List Int))×(List Int)×(List Int)×(List Int)×(List Bool)×(Int×Int×Int×Int×Int)×Unit)×Unit) ⊕ (Int×Int×Int×Int×Int×Int×(List Int)×(List Int)×(List (List Int))×(List Int)×(List Int)×(List Int)×(List Bool)×Unit))
def sI (x1:sS) (again:sS→Option yO):Option yO:=
 match x1 with
 | (A,B,C,D,E,F,G,H,I,J,K,L,M,N,O,P,Q,R,S,T,U,V,W,X,Y,_)=>
 bif decide (D<C) then
  chk (decide (0≤D)&&decide (D<(U.length:Int))) <|
  Option.bind (U[D.toNat]?) fun y2=>
  Option.bind (idx y2 A) fun y3=>
  Option.bind (idx K A) fun y4=>
  Option.bind (pG (E,F,G,H,I,J,K,L,M) y3 y4.2) fun r5=>
  again (A,w64 (B+r5.1),C,w64 (D+1),E,F,G,H,I,J,K,L,M,N,O,P,Q,R,S,T,U,V,W,X,Y,())
 else
  some (Sum.inr (B,N,O,P,Q,R,S,T,U,V,W,X,Y,()))
def Az (a0:(List Int)×(List Int)×(List (List Int))×(List Int)×(List Int)×(List Int)×(List Bool)×(Int×Int×Int×Int×Int)×Unit) (a1:ah) (a2:Int):Option (Int×Bool×((List Int)×(List Int)×(List (List Int))×(List Int)×(List Int)×(List Int)×(List Bool)×(Int×Int×Int×Int×Int)×Unit)×Unit):=
 bif !a1.2.2.2.2.2.1 then
  chk (decide (0≤a2)&&decide (a2<(a0.2.2.2.2.1.length:Int))) <|
  Option.bind (a0.2.2.2.2.1[a2.toNat]?) fun y1=>
  Option.bind (idx a1.2.2.2.2.2.2.1 a2) fun y2=>
  Option.bind (pG a1 y1 y2.2) fun r3=>
  some (r3.1,r3.2.1,(a0.1,a0.2.1,a0.2.2.1,a0.2.2.2.1,a0.2.2.2.2.1,a0.2.2.2.2.2.1,a0.2.2.2.2.2.2.1,a0.2.2.2.2.2.2.2.1,()),())
 else
  aP (β:=(Int×Bool×((List Int)×(List Int)×(List (List Int))×(List Int)×(List Int)×(List Int)×(List Bool)×(Int×Int×Int×Int×Int)×Unit)×Unit)) (γ:=(Int×Int×(List UInt8)×(List UInt8)×Int×Int×Int×Bool×(List aD)×(List au)×(List av)×Int×Int×Int×Int×Int×(List Int)×(List Int)×(List (List Int))×(List Int)×(List Int)×(List Int)×(List Bool)×Unit)) (
   iter (X:=uo) (β:=AY) (Int.natAbs a2+(Int.natAbs (0:Int)+(a1.2.2.2.2.2.2.2.1.length+(Int.natAbs ((a1.2.2.2.2.2.2.2.1.length:Int))+(Int.natAbs (0:Int)+(a1.1.length+(a1.2.1.length+(a1.2.2.1.natAbs+(a1.2.2.2.1.natAbs+(a1.2.2.2.2.1.natAbs+(a1.2.2.2.2.2.2.1.length+(a1.2.2.2.2.2.2.2.1.length+(a1.2.2.2.2.2.2.2.2.length+(a0.2.2.2.2.2.2.2.1.1.natAbs+(a0.2.2.2.2.2.2.2.1.2.1.natAbs+(a0.2.2.2.2.2.2.2.1.2.2.1.natAbs+(a0.2.2.2.2.2.2.2.1.2.2.2.1.natAbs+(a0.2.2.2.2.2.2.2.1.2.2.2.2.natAbs+(a0.1.length+(a0.2.1.length+(a0.2.2.1.length+(a0.2.2.2.1.length+(a0.2.2.2.2.1.length+(a0.2.2.2.2.2.1.length+(a0.2.2.2.2.2.2.1.length+2))))))))))))))))))))))))) (a2,0,a1.2.2.2.2.2.2.2.1,(a1.2.2.2.2.2.2.2.1.length:Int),0,a1.1,a1.2.1,a1.2.2.1,a1.2.2.2.1,a1.2.2.2.2.1,a1.2.2.2.2.2.1,a1.2.2.2.2.2.2.1,a1.2.2.2.2.2.2.2.1,a1.2.2.2.2.2.2.2.2,a0.2.2.2.2.2.2.2.1.1,a0.2.2.2.2.2.2.2.1.2.1,a0.2.2.2.2.2.2.2.1.2.2.1,a0.2.2.2.2.2.2.2.1.2.2.2.1,a0.2.2.2.2.2.2.2.1.2.2.2.2,a0.1,a0.2.1,a0.2.2.1,a0.2.2.2.1,a0.2.2.2.2.1,a0.2.2.2.2.2.1,a0.2.2.2.2.2.2.1,()) (uQ)) fun v10=>
  aP (β:=(Int×Bool×((List Int)×(List Int)×(List (List Int))×(List Int)×(List Int)×(List Int)×(List Bool)×(Int×Int×Int×Int×Int)×Unit)×Unit)) (γ:=(Int×Int×Int×Int×Int×Int×(List Int)×(List Int)×(List (List Int))×(List Int)×(List Int)×(List Int)×(List Bool)×Unit)) (
   iter (X:=sS) (β:=yO) (v10.1.natAbs+(v10.2.1.natAbs+(Int.natAbs ((v10.2.2.2.2.2.2.2.2.2.2.2.2.2.2.2.2.2.2.1.length:Int))+(Int.natAbs (0:Int)+(v10.2.2.1.length+(v10.2.2.2.1.length+(v10.2.2.2.2.1.natAbs+(v10.2.2.2.2.2.1.natAbs+(v10.2.2.2.2.2.2.1.natAbs+(v10.2.2.2.2.2.2.2.2.1.length+(v10.2.2.2.2.2.2.2.2.2.1.length+(v10.2.2.2.2.2.2.2.2.2.2.1.length+(v10.2.2.2.2.2.2.2.2.2.2.2.1.natAbs+(v10.2.2.2.2.2.2.2.2.2.2.2.2.1.natAbs+(v10.2.2.2.2.2.2.2.2.2.2.2.2.2.1.natAbs+(v10.2.2.2.2.2.2.2.2.2.2.2.2.2.2.1.natAbs+(v10.2.2.2.2.2.2.2.2.2.2.2.2.2.2.2.1.natAbs+(v10.2.2.2.2.2.2.2.2.2.2.2.2.2.2.2.2.1.length+(v10.2.2.2.2.2.2.2.2.2.2.2.2.2.2.2.2.2.1.length+(v10.2.2.2.2.2.2.2.2.2.2.2.2.2.2.2.2.2.2.1.length+(v10.2.2.2.2.2.2.2.2.2.2.2.2.2.2.2.2.2.2.2.1.length+(v10.2.2.2.2.2.2.2.2.2.2.2.2.2.2.2.2.2.2.2.2.1.length+(v10.2.2.2.2.2.2.2.2.2.2.2.2.2.2.2.2.2.2.2.2.2.1.length+(v10.2.2.2.2.2.2.2.2.2.2.2.2.2.2.2.2.2.2.2.2.2.2.1.length+2)))))))))))))))))))))))) (v10.1,v10.2.1,(v10.2.2.2.2.2.2.2.2.2.2.2.2.2.2.2.2.2.2.1.length:Int),0,v10.2.2.1,v10.2.2.2.1,v10.2.2.2.2.1,v10.2.2.2.2.2.1,v10.2.2.2.2.2.2.1,v10.2.2.2.2.2.2.2.1,v10.2.2.2.2.2.2.2.2.1,v10.2.2.2.2.2.2.2.2.2.1,v10.2.2.2.2.2.2.2.2.2.2.1,v10.2.2.2.2.2.2.2.2.2.2.2.1,v10.2.2.2.2.2.2.2.2.2.2.2.2.1,v10.2.2.2.2.2.2.2.2.2.2.2.2.2.1,v10.2.2.2.2.2.2.2.2.2.2.2.2.2.2.1,v10.2.2.2.2.2.2.2.2.2.2.2.2.2.2.2.1,v10.2.2.2.2.2.2.2.2.2.2.2.2.2.2.2.2.1,v10.2.2.2.2.2.2.2.2.2.2.2.2.2.2.2.2.2.1,v10.2.2.2.2.2.2.2.2.2.2.2.2.2.2.2.2.2.2.1,v10.2.2.2.2.2.2.2.2.2.2.2.2.2.2.2.2.2.2.2.1,v10.2.2.2.2.2.2.2.2.2.2.2.2.2.2.2.2.2.2.2.2.1,v10.2.2.2.2.2.2.2.2.2.2.2.2.2.2.2.2.2.2.2.2.2.1,v10.2.2.2.2.2.2.2.2.2.2.2.2.2.2.2.2.2.2.2.2.2.2.1,()) (sI)) fun v16=>
  Option.bind (nR v16.1) fun r17=>
  some (v16.1,r17.1,(v16.2.2.2.2.2.2.1,v16.2.2.2.2.2.2.2.1,v16.2.2.2.2.2.2.2.2.1,v16.2.2.2.2.2.2.2.2.2.1,v16.2.2.2.2.2.2.2.2.2.2.1,v16.2.2.2.2.2.2.2.2.2.2.2.1,v16.2.2.2.2.2.2.2.2.2.2.2.2.1,(v16.2.1,v16.2.2.1,v16.2.2.2.1,v16.2.2.2.2.1,v16.2.2.2.2.2.1),()),())
abbrev EP:Type:=(List au)×Int×Int×(List UInt8)×(List UInt8)×Int×Int×Int×Bool×(List aD)×(List au)×(List av)×(List Int)×(List Int)×(List (List Int))×(List Int)×(List Int)×(List Int)×(List Bool)×Int×Int×Int×Int×Int×(List Int)×(List (List Int))×(List Int)×(List Int)×(List Int)×Int×Int×Int×Int×Int×(List Int)×(List Bool)×Unit
abbrev EB:Type:=((bC×Int×Unit) ⊕ ((List UInt8)×(List UInt8)×Int×Int×Int×Bool×(List aD)×(List au)×(List av)×(List Int)×(List Int)×(List (List Int))×(List Int)×(List Int)×(List Int)×(List Bool)×Int×Int×Int×Int×Int×(List Int)×(List (List Int))×(List Int)×(List Int)×(List Int)×Int×Int×Int×Int×Int×(List Int)×(List Bool)×Unit))
noncomputable def vI (x1:EP) (again:EP→Option EB):Option EB:=
 match x1 with
 | (A,B,C,D,E,F,G,H,I,J,K,L,M,N,O,P,Q,R,S,T,U,V,W,X,Y,Z,A0,B0,C0,D0,E0,F0,G0,H0,I0,J0,_)=>
 bif decide (C<B) then
  Option.bind (idx A C) fun y2=>
  Option.bind (QL (D,E,F,G,H,I,J,K,L) y2) fun r3=>
  bif !r3.2.1 then
   some (Sum.inl ((Y,I0,Z,A0,B0,C0,J0,D0,E0,F0,G0,H0),1,()))
  else
   Option.bind (fJ (D,E,F,G,H,I,J,K,L) y2.2.2.2.2.2.2.2.2) fun r4=>
   chk (decide (((Y.length)+1)*8≤140737488355328)&&decide ((Y.length)+1≤maxLen)) <|
   chk (decide (0≤r4.1)&&decide (r4.1<(I0.length:Int))) <|
   Option.bind (I0[r4.1.toNat]?) fun y5=>
   chk (decide (0≤r4.1)&&decide (r4.1<(I0.length:Int))) <|
   Option.bind (I0[r4.1.toNat]?) fun _=>
   chk (decide (0≤r4.1)&&decide (r4.1<(J0.length:Int))) <|
   Option.bind (J0[r4.1.toNat]?) fun _=>
   again (A,B,w64 (C+1),D,E,F,G,H,I,J,K,L,M,N,O,P,Q,R,S,T,U,V,W,X,Y++[r3.1],Z,A0,B0,C0,w64 (D0+r3.1),E0,F0,G0,H0,List.set I0 r4.1.toNat (w64 (y5+r3.1)),List.set J0 r4.1.toNat true,())
 else
  some (Sum.inr (D,E,F,G,H,I,J,K,L,M,N,O,P,Q,R,S,T,U,V,W,X,Y,Z,A0,B0,C0,D0,E0,F0,G0,H0,I0,J0,()))
abbrev CD:Type:=Int×Int×(List UInt8)×(List UInt8)×Int×Int×Int×Bool×(List aD)×(List au)×(List av)×(List Int)×(List Int)×(List (List Int))×(List Int)×(List Int)×(List Int)×(List Bool)×Int×Int×Int×Int×Int×(List Int)×(List (List Int))×(List Int)×(List Int)×(List Int)×Int×Int×Int×Int×Int×(List Int)×(List Bool)×Unit
abbrev CO:Type:=((bC×Int×Unit) ⊕ ((List UInt8)×(List UInt8)×Int×Int×Int×Bool×(List aD)×(List au)×(List av)×(List Int)×(List Int)×(List (List Int))×(List Int)×(List Int)×(List Int)×(List Bool)×Int×Int×Int×Int×Int×(List Int)×(List (List Int))×(List Int)×(List Int)×(List Int)×Int×Int×Int×Int×Int×(List Int)×(List Bool)×Unit))
noncomputable def tj (x1:CD) (again:CD→Option CO):Option CO:=
 match x1 with
 | (A,B,C,D,E,F,G,H,I,J,K,L,M,N,O,P,Q,R,S,T,U,V,W,X,Y,Z,A0,B0,C0,D0,E0,F0,G0,H0,I0,_)=>
 bif decide (B<A) then
  chk (decide (0≤B)&&decide (B<(H0.length:Int))) <|
  Option.bind (H0[B.toNat]?) fun y2=>
  Option.bind (nR y2) fun r3=>
  bif !r3.1 then
   some (Sum.inl ((X,H0,Y,Z,A0,B0,I0,C0,D0,E0,F0,G0),1,()))
  else
   again (A,w64 (B+1),C,D,E,F,G,H,I,J,K,L,M,N,O,P,Q,R,S,T,U,V,W,X,Y,Z,A0,B0,C0,D0,E0,F0,G0,H0,I0,())
 else
  some (Sum.inr (C,D,E,F,G,H,I,J,K,L,M,N,O,P,Q,R,S,T,U,V,W,X,Y,Z,A0,B0,C0,D0,E0,F0,G0,H0,I0,()))
abbrev Cm:Type:=(List av)×Int×Int×(List UInt8)×(List UInt8)×Int×Int×Int×Bool×(List aD)×(List au)×(List av)×(List Int)×(List Int)×(List (List Int))×(List Int)×(List Int)×(List Int)×(List Bool)×Int×Int×Int×Int×Int×(List Int)×(List Int)×(List (List Int))×(List Int)×(List Int)×(List Int)×(List Bool)×Int×Int×Int×Int×Int×Unit
abbrev CW:Type:=((bC×Int×Unit) ⊕ ((List UInt8)×(List UInt8)×Int×Int×Int×Bool×(List aD)×(List au)×(List av)×(List Int)×(List Int)×(List (List Int))×(List Int)×(List Int)×(List Int)×(List Bool)×Int×Int×Int×Int×Int×(List Int)×(List Int)×(List (List Int))×(List Int)×(List Int)×(List Int)×(List Bool)×Int×Int×Int×Int×Int×Unit))
noncomputable def Cc (x1:Cm) (again:Cm→Option CW):Option CW:=
 match x1 with
 | (A,B,C,D,E,F,G,H,I,J,K,L,M,N,O,P,Q,R,S,T,U,V,W,X,Y,Z,A0,B0,C0,D0,E0,F0,G0,H0,I0,J0,_)=>
 bif decide (C<B) then
  Option.bind (idx A C) fun y2=>
  Option.bind (wo (Y,Z,A0,B0,C0,D0,E0,(F0,G0,H0,I0,J0),()) (D,E,F,G,H,I,J,K,L) y2) fun r3=>
  bif r3.1 != 0 then
   some (Sum.inl ((r3.2.1.1,r3.2.1.2.1,r3.2.1.2.2.1,r3.2.1.2.2.2.1,r3.2.1.2.2.2.2.1,r3.2.1.2.2.2.2.2.1,r3.2.1.2.2.2.2.2.2.1,r3.2.1.2.2.2.2.2.2.2.1),r3.1,()))
  else
   again (A,B,w64 (C+1),D,E,F,G,H,I,J,K,L,M,N,O,P,Q,R,S,T,U,V,W,X,r3.2.1.1,r3.2.1.2.1,r3.2.1.2.2.1,r3.2.1.2.2.2.1,r3.2.1.2.2.2.2.1,r3.2.1.2.2.2.2.2.1,r3.2.1.2.2.2.2.2.2.1,r3.2.1.2.2.2.2.2.2.2.1.1,r3.2.1.2.2.2.2.2.2.2.1.2.1,r3.2.1.2.2.2.2.2.2.2.1.2.2.1,r3.2.1.2.2.2.2.2.2.2.1.2.2.2.1,r3.2.1.2.2.2.2.2.2.2.1.2.2.2.2,())
 else
  some (Sum.inr (D,E,F,G,H,I,J,K,L,M,N,O,P,Q,R,S,T,U,V,W,X,Y,Z,A0,B0,C0,D0,E0,F0,G0,H0,I0,J0,()))
abbrev CI:Type:=Int×Int×(List UInt8)×(List UInt8)×Int×Int×Int×Bool×(List aD)×(List au)×(List av)×(List Int)×(List Int)×(List (List Int))×(List Int)×(List Int)×(List Int)×(List Bool)×Int×Int×Int×Int×Int×(List Int)×(List Int)×(List (List Int))×(List Int)×(List Int)×(List Int)×(List Bool)×Int×Int×Int×Int×Int×Unit
abbrev Ch:Type:=((bC×Int×Unit) ⊕ ((List Int)×(List Int)×(List (List Int))×(List Int)×(List Int)×(List Int)×(List Bool)×Int×Int×Int×Int×Int×(List Int)×(List Int)×(List (List Int))×(List Int)×(List Int)×(List Int)×(List Bool)×Int×Int×Int×Int×Int×Unit))
noncomputable def B3 (x1:CI) (again:CI→Option Ch):Option Ch:=
 match x1 with
 | (A,B,C,D,E,F,G,H,I,J,K,L,M,N,O,P,Q,R,S,T,U,V,W,X,Y,Z,A0,B0,C0,D0,E0,F0,G0,H0,I0,_)=>
 bif decide (B<A) then
  Option.bind (Az (X,Y,Z,A0,B0,C0,D0,(E0,F0,G0,H0,I0),()) (C,D,E,F,G,H,I,J,K) B) fun r2=>
  bif !r2.2.1 then
   some (Sum.inl ((r2.2.2.1.1,r2.2.2.1.2.1,r2.2.2.1.2.2.1,r2.2.2.1.2.2.2.1,r2.2.2.1.2.2.2.2.1,r2.2.2.1.2.2.2.2.2.1,r2.2.2.1.2.2.2.2.2.2.1,r2.2.2.1.2.2.2.2.2.2.2.1),1,()))
  else
   chk (decide (((r2.2.2.1.2.2.2.2.2.1.length)+1)*8≤140737488355328)&&decide ((r2.2.2.1.2.2.2.2.2.1.length)+1≤maxLen)) <|
   again (A,w64 (B+1),C,D,E,F,G,H,I,J,K,L,M,N,O,P,Q,R,S,T,U,V,W,r2.2.2.1.1,r2.2.2.1.2.1,r2.2.2.1.2.2.1,r2.2.2.1.2.2.2.1,r2.2.2.1.2.2.2.2.1,r2.2.2.1.2.2.2.2.2.1++[r2.1],r2.2.2.1.2.2.2.2.2.2.1,r2.2.2.1.2.2.2.2.2.2.2.1.1,r2.2.2.1.2.2.2.2.2.2.2.1.2.1,r2.2.2.1.2.2.2.2.2.2.2.1.2.2.1,w64 (r2.2.2.1.2.2.2.2.2.2.2.1.2.2.2.1+r2.1),r2.2.2.1.2.2.2.2.2.2.2.1.2.2.2.2,())
 else
  some (Sum.inr (L,M,N,O,P,Q,R,S,T,U,V,W,X,Y,Z,A0,B0,C0,D0,E0,F0,G0,H0,I0,()))
abbrev Cl:Type:=(List Int)×Int×Int×(List Int)×(List Int)×(List (List Int))×(List Int)×(List Int)×(List Int)×(List Bool)×Int×Int×Int×Int×Int×(List Int)×(List Int)×(List (List Int))×(List Int)×(List Int)×(List Int)×(List Bool)×Int×Int×Int×Int×Int×Unit
abbrev B1:Type:=((bC×Int×Unit) ⊕ ((List Int)×(List Int)×(List (List Int))×(List Int)×(List Int)×(List Int)×(List Bool)×Int×Int×Int×Int×Int×(List Int)×(List Int)×(List (List Int))×(List Int)×(List Int)×(List Int)×(List Bool)×Int×Int×Int×Int×Int×Unit))
noncomputable def xS (x1:Cl) (again:Cl→Option B1):Option B1:=
 match x1 with
 | (A,B,C,D,E,F,G,H,I,J,K,L,M,N,O,P,Q,R,S,T,U,V,W,X,Y,Z,A0,_)=>
 bif decide (C<B) then
  Option.bind (idx A C) fun y2=>
  again (A,B,w64 (C+1),D,E,F,G,H,I,J,K,L,M,N,O,P,Q,R,S,T,U,V,W,w64 (X+y2),Y,Z,A0,())
 else
  some (Sum.inr (D,E,F,G,H,I,J,K,L,M,N,O,P,Q,R,S,T,U,V,W,X,Y,Z,A0,()))
abbrev CJ:Type:=(Int×Int×Int×Int×Int)×Int×(List Int)×(List Int)×(List (List Int))×(List Int)×(List Int)×(List Int)×(List Bool)×Int×Int×Int×Int×Int×(List Int)×(List Int)×(List (List Int))×(List Int)×(List Int)×(List Int)×(List Bool)×Int×Int×Int×Int×Int×Unit
abbrev CB:Type:=((bC×Int×Unit) ⊕ ((List Int)×(List Int)×(List (List Int))×(List Int)×(List Int)×(List Int)×(List Bool)×Int×Int×Int×Int×Int×(List Int)×(List Int)×(List (List Int))×(List Int)×(List Int)×(List Int)×(List Bool)×Int×Int×Int×Int×Int×Unit))
noncomputable def tO (x1:CJ) (again:CJ→Option CB):Option CB:=
 bif decide (x1.2.1<5) then
  Option.bind (idx ([@x1.1.1, @x1.1.2.1, @x1.1.2.2.1, @x1.1.2.2.2.1, @x1.1.2.2.2.2]:List Int) x1.2.1) fun y2=>
  Option.bind (nR y2) fun r3=>
  bif !r3.1 then
   some (Sum.inl ((x1.2.2.2.2.2.2.2.2.2.2.2.2.2.2.1,x1.2.2.2.2.2.2.2.2.2.2.2.2.2.2.2.1,x1.2.2.2.2.2.2.2.2.2.2.2.2.2.2.2.2.1,x1.2.2.2.2.2.2.2.2.2.2.2.2.2.2.2.2.2.1,x1.2.2.2.2.2.2.2.2.2.2.2.2.2.2.2.2.2.2.1,x1.2.2.2.2.2.2.2.2.2.2.2.2.2.2.2.2.2.2.2.1,x1.2.2.2.2.2.2.2.2.2.2.2.2.2.2.2.2.2.2.2.2.1,x1.2.2.2.2.2.2.2.2.2.2.2.2.2.2.2.2.2.2.2.2.2.1,x1.2.2.2.2.2.2.2.2.2.2.2.2.2.2.2.2.2.2.2.2.2.2.1,x1.2.2.2.2.2.2.2.2.2.2.2.2.2.2.2.2.2.2.2.2.2.2.2.1,x1.2.2.2.2.2.2.2.2.2.2.2.2.2.2.2.2.2.2.2.2.2.2.2.2.1,x1.2.2.2.2.2.2.2.2.2.2.2.2.2.2.2.2.2.2.2.2.2.2.2.2.2.1),1,()))
  else
   again (x1.1,w64 (x1.2.1+1),x1.2.2.1,x1.2.2.2.1,x1.2.2.2.2.1,x1.2.2.2.2.2.1,x1.2.2.2.2.2.2.1,x1.2.2.2.2.2.2.2.1,x1.2.2.2.2.2.2.2.2.1,x1.2.2.2.2.2.2.2.2.2.1,x1.2.2.2.2.2.2.2.2.2.2.1,x1.2.2.2.2.2.2.2.2.2.2.2.1,x1.2.2.2.2.2.2.2.2.2.2.2.2.1,x1.2.2.2.2.2.2.2.2.2.2.2.2.2.1,x1.2.2.2.2.2.2.2.2.2.2.2.2.2.2.1,x1.2.2.2.2.2.2.2.2.2.2.2.2.2.2.2.1,x1.2.2.2.2.2.2.2.2.2.2.2.2.2.2.2.2.1,x1.2.2.2.2.2.2.2.2.2.2.2.2.2.2.2.2.2.1,x1.2.2.2.2.2.2.2.2.2.2.2.2.2.2.2.2.2.2.1,x1.2.2.2.2.2.2.2.2.2.2.2.2.2.2.2.2.2.2.2.1,x1.2.2.2.2.2.2.2.2.2.2.2.2.2.2.2.2.2.2.2.2.1,x1.2.2.2.2.2.2.2.2.2.2.2.2.2.2.2.2.2.2.2.2.2.1,x1.2.2.2.2.2.2.2.2.2.2.2.2.2.2.2.2.2.2.2.2.2.2.1,x1.2.2.2.2.2.2.2.2.2.2.2.2.2.2.2.2.2.2.2.2.2.2.2.1,x1.2.2.2.2.2.2.2.2.2.2.2.2.2.2.2.2.2.2.2.2.2.2.2.2.1,x1.2.2.2.2.2.2.2.2.2.2.2.2.2.2.2.2.2.2.2.2.2.2.2.2.2.1,())
 else
  some (Sum.inr (x1.2.2.1,x1.2.2.2.1,x1.2.2.2.2.1,x1.2.2.2.2.2.1,x1.2.2.2.2.2.2.1,x1.2.2.2.2.2.2.2.1,x1.2.2.2.2.2.2.2.2.1,x1.2.2.2.2.2.2.2.2.2.1,x1.2.2.2.2.2.2.2.2.2.2.1,x1.2.2.2.2.2.2.2.2.2.2.2.1,x1.2.2.2.2.2.2.2.2.2.2.2.2.1,x1.2.2.2.2.2.2.2.2.2.2.2.2.2.1,x1.2.2.2.2.2.2.2.2.2.2.2.2.2.2.1,x1.2.2.2.2.2.2.2.2.2.2.2.2.2.2.2.1,x1.2.2.2.2.2.2.2.2.2.2.2.2.2.2.2.2.1,x1.2.2.2.2.2.2.2.2.2.2.2.2.2.2.2.2.2.1,x1.2.2.2.2.2.2.2.2.2.2.2.2.2.2.2.2.2.2.1,x1.2.2.2.2.2.2.2.2.2.2.2.2.2.2.2.2.2.2.2.1,x1.2.2.2.2.2.2.2.2.2.2.2.2.2.2.2.2.2.2.2.2.1,x1.2.2.2.2.2.2.2.2.2.2.2.2.2.2.2.2.2.2.2.2.2.1,x1.2.2.2.2.2.2.2.2.2.2.2.2.2.2.2.2.2.2.2.2.2.2.1,x1.2.2.2.2.2.2.2.2.2.2.2.2.2.2.2.2.2.2.2.2.2.2.2.1,x1.2.2.2.2.2.2.2.2.2.2.2.2.2.2.2.2.2.2.2.2.2.2.2.2.1,x1.2.2.2.2.2.2.2.2.2.2.2.2.2.2.2.2.2.2.2.2.2.2.2.2.2.1,()))
noncomputable def IA (a0:ah):Option (bC×Int×Unit):=
 chk (decide (0≤((a0.2.2.2.2.2.2.1.length:Int)))&&decide (((a0.2.2.2.2.2.2.1.length:Int))≤((a0.2.2.2.2.2.2.1.length:Int)))&&decide ((8:Int)*((a0.2.2.2.2.2.2.1.length:Int))≤281474976710656)&&decide (((a0.2.2.2.2.2.2.1.length:Int))≤9223372036854775807)) <|
 chk (decide (0≤((a0.2.2.2.2.2.2.1.length:Int)))&&decide (((a0.2.2.2.2.2.2.1.length:Int))≤((a0.2.2.2.2.2.2.1.length:Int)))&&decide ((1:Int)*((a0.2.2.2.2.2.2.1.length:Int))≤281474976710656)&&decide (((a0.2.2.2.2.2.2.1.length:Int))≤9223372036854775807)) <|
 aP (β:=(bC×Int×Unit)) (γ:=((List UInt8)×(List UInt8)×Int×Int×Int×Bool×(List aD)×(List au)×(List av)×(List Int)×(List Int)×(List (List Int))×(List Int)×(List Int)×(List Int)×(List Bool)×Int×Int×Int×Int×Int×(List Int)×(List (List Int))×(List Int)×(List Int)×(List Int)×Int×Int×Int×Int×Int×(List Int)×(List Bool)×Unit)) (
  iter (X:=EP) (β:=EB) (a0.2.2.2.2.2.2.2.1.length+(Int.natAbs ((a0.2.2.2.2.2.2.2.1.length:Int))+(Int.natAbs (0:Int)+(a0.1.length+(a0.2.1.length+(a0.2.2.1.natAbs+(a0.2.2.2.1.natAbs+(a0.2.2.2.2.1.natAbs+(a0.2.2.2.2.2.2.1.length+(a0.2.2.2.2.2.2.2.1.length+(a0.2.2.2.2.2.2.2.2.length+(List.length ([]:List Int)+(List.length ([]:List Int)+(List.length ([]:List (List Int))+(List.length ([]:List Int)+(List.length ([]:List Int)+(List.length ([]:List Int)+(List.length ([]:List Bool)+(Int.natAbs (0:Int)+(Int.natAbs (0:Int)+(Int.natAbs (0:Int)+(Int.natAbs (0:Int)+(Int.natAbs (0:Int)+(List.length ([]:List Int)+(List.length ([]:List (List Int))+(List.length ([]:List Int)+(List.length ([]:List Int)+(List.length ([]:List Int)+(Int.natAbs (0:Int)+(Int.natAbs (0:Int)+(Int.natAbs (0:Int)+(Int.natAbs (0:Int)+(Int.natAbs (0:Int)+(List.length ((List.replicate (Int.toNat ((a0.2.2.2.2.2.2.1.length:Int))) 0:List (Int)):List Int)+(List.length ((List.replicate (Int.toNat ((a0.2.2.2.2.2.2.1.length:Int))) false:List (Bool)):List Bool)+2))))))))))))))))))))))))))))))))))) (a0.2.2.2.2.2.2.2.1,(a0.2.2.2.2.2.2.2.1.length:Int),0,a0.1,a0.2.1,a0.2.2.1,a0.2.2.2.1,a0.2.2.2.2.1,a0.2.2.2.2.2.1,a0.2.2.2.2.2.2.1,a0.2.2.2.2.2.2.2.1,a0.2.2.2.2.2.2.2.2,[],[],[],[],[],[],[],0,0,0,0,0,[],[],[],[],[],0,0,0,0,0,(List.replicate (Int.toNat ((a0.2.2.2.2.2.2.1.length:Int))) 0:List (Int)),(List.replicate (Int.toNat ((a0.2.2.2.2.2.2.1.length:Int))) false:List (Bool)),()) (vI)) fun v8=>
 aP (β:=(bC×Int×Unit)) (γ:=((List UInt8)×(List UInt8)×Int×Int×Int×Bool×(List aD)×(List au)×(List av)×(List Int)×(List Int)×(List (List Int))×(List Int)×(List Int)×(List Int)×(List Bool)×Int×Int×Int×Int×Int×(List Int)×(List (List Int))×(List Int)×(List Int)×(List Int)×Int×Int×Int×Int×Int×(List Int)×(List Bool)×Unit)) (
  iter (X:=CD) (β:=CO) (Int.natAbs ((v8.2.2.2.2.2.2.2.2.2.2.2.2.2.2.2.2.2.2.2.2.2.2.2.2.2.2.2.2.2.2.2.1.length:Int))+(Int.natAbs (0:Int)+(v8.1.length+(v8.2.1.length+(v8.2.2.1.natAbs+(v8.2.2.2.1.natAbs+(v8.2.2.2.2.1.natAbs+(v8.2.2.2.2.2.2.1.length+(v8.2.2.2.2.2.2.2.1.length+(v8.2.2.2.2.2.2.2.2.1.length+(v8.2.2.2.2.2.2.2.2.2.1.length+(v8.2.2.2.2.2.2.2.2.2.2.1.length+(v8.2.2.2.2.2.2.2.2.2.2.2.1.length+(v8.2.2.2.2.2.2.2.2.2.2.2.2.1.length+(v8.2.2.2.2.2.2.2.2.2.2.2.2.2.1.length+(v8.2.2.2.2.2.2.2.2.2.2.2.2.2.2.1.length+(v8.2.2.2.2.2.2.2.2.2.2.2.2.2.2.2.1.length+(v8.2.2.2.2.2.2.2.2.2.2.2.2.2.2.2.2.1.natAbs+(v8.2.2.2.2.2.2.2.2.2.2.2.2.2.2.2.2.2.1.natAbs+(v8.2.2.2.2.2.2.2.2.2.2.2.2.2.2.2.2.2.2.1.natAbs+(v8.2.2.2.2.2.2.2.2.2.2.2.2.2.2.2.2.2.2.2.1.natAbs+(v8.2.2.2.2.2.2.2.2.2.2.2.2.2.2.2.2.2.2.2.2.1.natAbs+(v8.2.2.2.2.2.2.2.2.2.2.2.2.2.2.2.2.2.2.2.2.2.1.length+(v8.2.2.2.2.2.2.2.2.2.2.2.2.2.2.2.2.2.2.2.2.2.2.1.length+(v8.2.2.2.2.2.2.2.2.2.2.2.2.2.2.2.2.2.2.2.2.2.2.2.1.length+(v8.2.2.2.2.2.2.2.2.2.2.2.2.2.2.2.2.2.2.2.2.2.2.2.2.1.length+(v8.2.2.2.2.2.2.2.2.2.2.2.2.2.2.2.2.2.2.2.2.2.2.2.2.2.1.length+(v8.2.2.2.2.2.2.2.2.2.2.2.2.2.2.2.2.2.2.2.2.2.2.2.2.2.2.1.natAbs+(v8.2.2.2.2.2.2.2.2.2.2.2.2.2.2.2.2.2.2.2.2.2.2.2.2.2.2.2.1.natAbs+(v8.2.2.2.2.2.2.2.2.2.2.2.2.2.2.2.2.2.2.2.2.2.2.2.2.2.2.2.2.1.natAbs+(v8.2.2.2.2.2.2.2.2.2.2.2.2.2.2.2.2.2.2.2.2.2.2.2.2.2.2.2.2.2.1.natAbs+(v8.2.2.2.2.2.2.2.2.2.2.2.2.2.2.2.2.2.2.2.2.2.2.2.2.2.2.2.2.2.2.1.natAbs+(v8.2.2.2.2.2.2.2.2.2.2.2.2.2.2.2.2.2.2.2.2.2.2.2.2.2.2.2.2.2.2.2.1.length+(v8.2.2.2.2.2.2.2.2.2.2.2.2.2.2.2.2.2.2.2.2.2.2.2.2.2.2.2.2.2.2.2.2.1.length+2)))))))))))))))))))))))))))))))))) ((v8.2.2.2.2.2.2.2.2.2.2.2.2.2.2.2.2.2.2.2.2.2.2.2.2.2.2.2.2.2.2.2.1.length:Int),0,v8.1,v8.2.1,v8.2.2.1,v8.2.2.2.1,v8.2.2.2.2.1,v8.2.2.2.2.2.1,v8.2.2.2.2.2.2.1,v8.2.2.2.2.2.2.2.1,v8.2.2.2.2.2.2.2.2.1,v8.2.2.2.2.2.2.2.2.2.1,v8.2.2.2.2.2.2.2.2.2.2.1,v8.2.2.2.2.2.2.2.2.2.2.2.1,v8.2.2.2.2.2.2.2.2.2.2.2.2.1,v8.2.2.2.2.2.2.2.2.2.2.2.2.2.1,v8.2.2.2.2.2.2.2.2.2.2.2.2.2.2.1,v8.2.2.2.2.2.2.2.2.2.2.2.2.2.2.2.1,v8.2.2.2.2.2.2.2.2.2.2.2.2.2.2.2.2.1,v8.2.2.2.2.2.2.2.2.2.2.2.2.2.2.2.2.2.1,v8.2.2.2.2.2.2.2.2.2.2.2.2.2.2.2.2.2.2.1,v8.2.2.2.2.2.2.2.2.2.2.2.2.2.2.2.2.2.2.2.1,v8.2.2.2.2.2.2.2.2.2.2.2.2.2.2.2.2.2.2.2.2.1,v8.2.2.2.2.2.2.2.2.2.2.2.2.2.2.2.2.2.2.2.2.2.1,v8.2.2.2.2.2.2.2.2.2.2.2.2.2.2.2.2.2.2.2.2.2.2.1,v8.2.2.2.2.2.2.2.2.2.2.2.2.2.2.2.2.2.2.2.2.2.2.2.1,v8.2.2.2.2.2.2.2.2.2.2.2.2.2.2.2.2.2.2.2.2.2.2.2.2.1,v8.2.2.2.2.2.2.2.2.2.2.2.2.2.2.2.2.2.2.2.2.2.2.2.2.2.1,v8.2.2.2.2.2.2.2.2.2.2.2.2.2.2.2.2.2.2.2.2.2.2.2.2.2.2.1,v8.2.2.2.2.2.2.2.2.2.2.2.2.2.2.2.2.2.2.2.2.2.2.2.2.2.2.2.1,v8.2.2.2.2.2.2.2.2.2.2.2.2.2.2.2.2.2.2.2.2.2.2.2.2.2.2.2.2.1,v8.2.2.2.2.2.2.2.2.2.2.2.2.2.2.2.2.2.2.2.2.2.2.2.2.2.2.2.2.2.1,v8.2.2.2.2.2.2.2.2.2.2.2.2.2.2.2.2.2.2.2.2.2.2.2.2.2.2.2.2.2.2.1,v8.2.2.2.2.2.2.2.2.2.2.2.2.2.2.2.2.2.2.2.2.2.2.2.2.2.2.2.2.2.2.2.1,v8.2.2.2.2.2.2.2.2.2.2.2.2.2.2.2.2.2.2.2.2.2.2.2.2.2.2.2.2.2.2.2.2.1,()) (tj)) fun v12=>
 Option.bind (uu v12.2.2.2.2.2.2.2.2.2.2.2.2.2.2.2.2.2.2.2.2.2.2.2.2.2.2.2.2.2.2.2.1) fun r13=>
 aP (β:=(bC×Int×Unit)) (γ:=((List UInt8)×(List UInt8)×Int×Int×Int×Bool×(List aD)×(List au)×(List av)×(List Int)×(List Int)×(List (List Int))×(List Int)×(List Int)×(List Int)×(List Bool)×Int×Int×Int×Int×Int×(List Int)×(List Int)×(List (List Int))×(List Int)×(List Int)×(List Int)×(List Bool)×Int×Int×Int×Int×Int×Unit)) (
  iter (X:=Cm) (β:=CW) (v12.2.2.2.2.2.2.2.2.1.length+(Int.natAbs ((v12.2.2.2.2.2.2.2.2.1.length:Int))+(Int.natAbs (0:Int)+(v12.1.length+(v12.2.1.length+(v12.2.2.1.natAbs+(v12.2.2.2.1.natAbs+(v12.2.2.2.2.1.natAbs+(v12.2.2.2.2.2.2.1.length+(v12.2.2.2.2.2.2.2.1.length+(v12.2.2.2.2.2.2.2.2.1.length+(v12.2.2.2.2.2.2.2.2.2.1.length+(v12.2.2.2.2.2.2.2.2.2.2.1.length+(v12.2.2.2.2.2.2.2.2.2.2.2.1.length+(v12.2.2.2.2.2.2.2.2.2.2.2.2.1.length+(v12.2.2.2.2.2.2.2.2.2.2.2.2.2.1.length+(v12.2.2.2.2.2.2.2.2.2.2.2.2.2.2.1.length+(v12.2.2.2.2.2.2.2.2.2.2.2.2.2.2.2.1.length+(v12.2.2.2.2.2.2.2.2.2.2.2.2.2.2.2.2.1.natAbs+(v12.2.2.2.2.2.2.2.2.2.2.2.2.2.2.2.2.2.1.natAbs+(v12.2.2.2.2.2.2.2.2.2.2.2.2.2.2.2.2.2.2.1.natAbs+(v12.2.2.2.2.2.2.2.2.2.2.2.2.2.2.2.2.2.2.2.1.natAbs+(v12.2.2.2.2.2.2.2.2.2.2.2.2.2.2.2.2.2.2.2.2.1.natAbs+(v12.2.2.2.2.2.2.2.2.2.2.2.2.2.2.2.2.2.2.2.2.2.1.length+(v12.2.2.2.2.2.2.2.2.2.2.2.2.2.2.2.2.2.2.2.2.2.2.2.2.2.2.2.2.2.2.2.1.length+(v12.2.2.2.2.2.2.2.2.2.2.2.2.2.2.2.2.2.2.2.2.2.2.1.length+(v12.2.2.2.2.2.2.2.2.2.2.2.2.2.2.2.2.2.2.2.2.2.2.2.1.length+(r13.1.length+(v12.2.2.2.2.2.2.2.2.2.2.2.2.2.2.2.2.2.2.2.2.2.2.2.2.2.1.length+(v12.2.2.2.2.2.2.2.2.2.2.2.2.2.2.2.2.2.2.2.2.2.2.2.2.2.2.2.2.2.2.2.2.1.length+(v12.2.2.2.2.2.2.2.2.2.2.2.2.2.2.2.2.2.2.2.2.2.2.2.2.2.2.1.natAbs+(v12.2.2.2.2.2.2.2.2.2.2.2.2.2.2.2.2.2.2.2.2.2.2.2.2.2.2.2.1.natAbs+(v12.2.2.2.2.2.2.2.2.2.2.2.2.2.2.2.2.2.2.2.2.2.2.2.2.2.2.2.2.1.natAbs+(v12.2.2.2.2.2.2.2.2.2.2.2.2.2.2.2.2.2.2.2.2.2.2.2.2.2.2.2.2.2.1.natAbs+(v12.2.2.2.2.2.2.2.2.2.2.2.2.2.2.2.2.2.2.2.2.2.2.2.2.2.2.2.2.2.2.1.natAbs+2))))))))))))))))))))))))))))))))))) (v12.2.2.2.2.2.2.2.2.1,(v12.2.2.2.2.2.2.2.2.1.length:Int),0,v12.1,v12.2.1,v12.2.2.1,v12.2.2.2.1,v12.2.2.2.2.1,v12.2.2.2.2.2.1,v12.2.2.2.2.2.2.1,v12.2.2.2.2.2.2.2.1,v12.2.2.2.2.2.2.2.2.1,v12.2.2.2.2.2.2.2.2.2.1,v12.2.2.2.2.2.2.2.2.2.2.1,v12.2.2.2.2.2.2.2.2.2.2.2.1,v12.2.2.2.2.2.2.2.2.2.2.2.2.1,v12.2.2.2.2.2.2.2.2.2.2.2.2.2.1,v12.2.2.2.2.2.2.2.2.2.2.2.2.2.2.1,v12.2.2.2.2.2.2.2.2.2.2.2.2.2.2.2.1,v12.2.2.2.2.2.2.2.2.2.2.2.2.2.2.2.2.1,v12.2.2.2.2.2.2.2.2.2.2.2.2.2.2.2.2.2.1,v12.2.2.2.2.2.2.2.2.2.2.2.2.2.2.2.2.2.2.1,v12.2.2.2.2.2.2.2.2.2.2.2.2.2.2.2.2.2.2.2.1,v12.2.2.2.2.2.2.2.2.2.2.2.2.2.2.2.2.2.2.2.2.1,v12.2.2.2.2.2.2.2.2.2.2.2.2.2.2.2.2.2.2.2.2.2.1,v12.2.2.2.2.2.2.2.2.2.2.2.2.2.2.2.2.2.2.2.2.2.2.2.2.2.2.2.2.2.2.2.1,v12.2.2.2.2.2.2.2.2.2.2.2.2.2.2.2.2.2.2.2.2.2.2.1,v12.2.2.2.2.2.2.2.2.2.2.2.2.2.2.2.2.2.2.2.2.2.2.2.1,r13.1,v12.2.2.2.2.2.2.2.2.2.2.2.2.2.2.2.2.2.2.2.2.2.2.2.2.2.1,v12.2.2.2.2.2.2.2.2.2.2.2.2.2.2.2.2.2.2.2.2.2.2.2.2.2.2.2.2.2.2.2.2.1,v12.2.2.2.2.2.2.2.2.2.2.2.2.2.2.2.2.2.2.2.2.2.2.2.2.2.2.1,v12.2.2.2.2.2.2.2.2.2.2.2.2.2.2.2.2.2.2.2.2.2.2.2.2.2.2.2.1,v12.2.2.2.2.2.2.2.2.2.2.2.2.2.2.2.2.2.2.2.2.2.2.2.2.2.2.2.2.1,v12.2.2.2.2.2.2.2.2.2.2.2.2.2.2.2.2.2.2.2.2.2.2.2.2.2.2.2.2.2.1,v12.2.2.2.2.2.2.2.2.2.2.2.2.2.2.2.2.2.2.2.2.2.2.2.2.2.2.2.2.2.2.1,()) (Cc)) fun v17=>
 aP (β:=(bC×Int×Unit)) (γ:=((List Int)×(List Int)×(List (List Int))×(List Int)×(List Int)×(List Int)×(List Bool)×Int×Int×Int×Int×Int×(List Int)×(List Int)×(List (List Int))×(List Int)×(List Int)×(List Int)×(List Bool)×Int×Int×Int×Int×Int×Unit)) (
  iter (X:=CI) (β:=Ch) (Int.natAbs ((v17.2.2.2.2.2.2.1.length:Int))+(Int.natAbs (0:Int)+(v17.1.length+(v17.2.1.length+(v17.2.2.1.natAbs+(v17.2.2.2.1.natAbs+(v17.2.2.2.2.1.natAbs+(v17.2.2.2.2.2.2.1.length+(v17.2.2.2.2.2.2.2.1.length+(v17.2.2.2.2.2.2.2.2.1.length+(v17.2.2.2.2.2.2.2.2.2.1.length+(v17.2.2.2.2.2.2.2.2.2.2.1.length+(v17.2.2.2.2.2.2.2.2.2.2.2.1.length+(v17.2.2.2.2.2.2.2.2.2.2.2.2.1.length+(v17.2.2.2.2.2.2.2.2.2.2.2.2.2.1.length+(v17.2.2.2.2.2.2.2.2.2.2.2.2.2.2.1.length+(v17.2.2.2.2.2.2.2.2.2.2.2.2.2.2.2.1.length+(v17.2.2.2.2.2.2.2.2.2.2.2.2.2.2.2.2.1.natAbs+(v17.2.2.2.2.2.2.2.2.2.2.2.2.2.2.2.2.2.1.natAbs+(v17.2.2.2.2.2.2.2.2.2.2.2.2.2.2.2.2.2.2.1.natAbs+(v17.2.2.2.2.2.2.2.2.2.2.2.2.2.2.2.2.2.2.2.1.natAbs+(v17.2.2.2.2.2.2.2.2.2.2.2.2.2.2.2.2.2.2.2.2.1.natAbs+(v17.2.2.2.2.2.2.2.2.2.2.2.2.2.2.2.2.2.2.2.2.2.1.length+(v17.2.2.2.2.2.2.2.2.2.2.2.2.2.2.2.2.2.2.2.2.2.2.1.length+(v17.2.2.2.2.2.2.2.2.2.2.2.2.2.2.2.2.2.2.2.2.2.2.2.1.length+(v17.2.2.2.2.2.2.2.2.2.2.2.2.2.2.2.2.2.2.2.2.2.2.2.2.1.length+(v17.2.2.2.2.2.2.2.2.2.2.2.2.2.2.2.2.2.2.2.2.2.2.2.2.2.1.length+(v17.2.2.2.2.2.2.2.2.2.2.2.2.2.2.2.2.2.2.2.2.2.2.2.2.2.2.1.length+(v17.2.2.2.2.2.2.2.2.2.2.2.2.2.2.2.2.2.2.2.2.2.2.2.2.2.2.2.1.length+(v17.2.2.2.2.2.2.2.2.2.2.2.2.2.2.2.2.2.2.2.2.2.2.2.2.2.2.2.2.1.natAbs+(v17.2.2.2.2.2.2.2.2.2.2.2.2.2.2.2.2.2.2.2.2.2.2.2.2.2.2.2.2.2.1.natAbs+(v17.2.2.2.2.2.2.2.2.2.2.2.2.2.2.2.2.2.2.2.2.2.2.2.2.2.2.2.2.2.2.1.natAbs+(v17.2.2.2.2.2.2.2.2.2.2.2.2.2.2.2.2.2.2.2.2.2.2.2.2.2.2.2.2.2.2.2.1.natAbs+(v17.2.2.2.2.2.2.2.2.2.2.2.2.2.2.2.2.2.2.2.2.2.2.2.2.2.2.2.2.2.2.2.2.1.natAbs+2)))))))))))))))))))))))))))))))))) ((v17.2.2.2.2.2.2.1.length:Int),0,v17.1,v17.2.1,v17.2.2.1,v17.2.2.2.1,v17.2.2.2.2.1,v17.2.2.2.2.2.1,v17.2.2.2.2.2.2.1,v17.2.2.2.2.2.2.2.1,v17.2.2.2.2.2.2.2.2.1,v17.2.2.2.2.2.2.2.2.2.1,v17.2.2.2.2.2.2.2.2.2.2.1,v17.2.2.2.2.2.2.2.2.2.2.2.1,v17.2.2.2.2.2.2.2.2.2.2.2.2.1,v17.2.2.2.2.2.2.2.2.2.2.2.2.2.1,v17.2.2.2.2.2.2.2.2.2.2.2.2.2.2.1,v17.2.2.2.2.2.2.2.2.2.2.2.2.2.2.2.1,v17.2.2.2.2.2.2.2.2.2.2.2.2.2.2.2.2.1,v17.2.2.2.2.2.2.2.2.2.2.2.2.2.2.2.2.2.1,v17.2.2.2.2.2.2.2.2.2.2.2.2.2.2.2.2.2.2.1,v17.2.2.2.2.2.2.2.2.2.2.2.2.2.2.2.2.2.2.2.1,v17.2.2.2.2.2.2.2.2.2.2.2.2.2.2.2.2.2.2.2.2.1,v17.2.2.2.2.2.2.2.2.2.2.2.2.2.2.2.2.2.2.2.2.2.1,v17.2.2.2.2.2.2.2.2.2.2.2.2.2.2.2.2.2.2.2.2.2.2.1,v17.2.2.2.2.2.2.2.2.2.2.2.2.2.2.2.2.2.2.2.2.2.2.2.1,v17.2.2.2.2.2.2.2.2.2.2.2.2.2.2.2.2.2.2.2.2.2.2.2.2.1,v17.2.2.2.2.2.2.2.2.2.2.2.2.2.2.2.2.2.2.2.2.2.2.2.2.2.1,v17.2.2.2.2.2.2.2.2.2.2.2.2.2.2.2.2.2.2.2.2.2.2.2.2.2.2.1,v17.2.2.2.2.2.2.2.2.2.2.2.2.2.2.2.2.2.2.2.2.2.2.2.2.2.2.2.1,v17.2.2.2.2.2.2.2.2.2.2.2.2.2.2.2.2.2.2.2.2.2.2.2.2.2.2.2.2.1,v17.2.2.2.2.2.2.2.2.2.2.2.2.2.2.2.2.2.2.2.2.2.2.2.2.2.2.2.2.2.1,v17.2.2.2.2.2.2.2.2.2.2.2.2.2.2.2.2.2.2.2.2.2.2.2.2.2.2.2.2.2.2.1,v17.2.2.2.2.2.2.2.2.2.2.2.2.2.2.2.2.2.2.2.2.2.2.2.2.2.2.2.2.2.2.2.1,v17.2.2.2.2.2.2.2.2.2.2.2.2.2.2.2.2.2.2.2.2.2.2.2.2.2.2.2.2.2.2.2.2.1,()) (B3)) fun v20=>
 aP (β:=(bC×Int×Unit)) (γ:=((List Int)×(List Int)×(List (List Int))×(List Int)×(List Int)×(List Int)×(List Bool)×Int×Int×Int×Int×Int×(List Int)×(List Int)×(List (List Int))×(List Int)×(List Int)×(List Int)×(List Bool)×Int×Int×Int×Int×Int×Unit)) (
  iter (X:=Cl) (β:=B1) (v20.2.2.2.2.2.2.2.2.2.2.2.2.2.2.2.1.length+(Int.natAbs ((v20.2.2.2.2.2.2.2.2.2.2.2.2.2.2.2.1.length:Int))+(Int.natAbs (0:Int)+(v20.1.length+(v20.2.1.length+(v20.2.2.1.length+(v20.2.2.2.1.length+(v20.2.2.2.2.1.length+(v20.2.2.2.2.2.1.length+(v20.2.2.2.2.2.2.1.length+(v20.2.2.2.2.2.2.2.1.natAbs+(v20.2.2.2.2.2.2.2.2.1.natAbs+(v20.2.2.2.2.2.2.2.2.2.1.natAbs+(v20.2.2.2.2.2.2.2.2.2.2.1.natAbs+(v20.2.2.2.2.2.2.2.2.2.2.2.1.natAbs+(v20.2.2.2.2.2.2.2.2.2.2.2.2.1.length+(v20.2.2.2.2.2.2.2.2.2.2.2.2.2.1.length+(v20.2.2.2.2.2.2.2.2.2.2.2.2.2.2.1.length+(v20.2.2.2.2.2.2.2.2.2.2.2.2.2.2.2.1.length+(v20.2.2.2.2.2.2.2.2.2.2.2.2.2.2.2.2.1.length+(v20.2.2.2.2.2.2.2.2.2.2.2.2.2.2.2.2.2.1.length+(v20.2.2.2.2.2.2.2.2.2.2.2.2.2.2.2.2.2.2.1.length+(v20.2.2.2.2.2.2.2.2.2.2.2.2.2.2.2.2.2.2.2.1.natAbs+(v20.2.2.2.2.2.2.2.2.2.2.2.2.2.2.2.2.2.2.2.2.1.natAbs+(v20.2.2.2.2.2.2.2.2.2.2.2.2.2.2.2.2.2.2.2.2.2.1.natAbs+(v20.2.2.2.2.2.2.2.2.2.2.2.2.2.2.2.2.2.2.2.2.2.2.1.natAbs+(v20.2.2.2.2.2.2.2.2.2.2.2.2.2.2.2.2.2.2.2.2.2.2.2.1.natAbs+2))))))))))))))))))))))))))) (v20.2.2.2.2.2.2.2.2.2.2.2.2.2.2.2.1,(v20.2.2.2.2.2.2.2.2.2.2.2.2.2.2.2.1.length:Int),0,v20.1,v20.2.1,v20.2.2.1,v20.2.2.2.1,v20.2.2.2.2.1,v20.2.2.2.2.2.1,v20.2.2.2.2.2.2.1,v20.2.2.2.2.2.2.2.1,v20.2.2.2.2.2.2.2.2.1,v20.2.2.2.2.2.2.2.2.2.1,v20.2.2.2.2.2.2.2.2.2.2.1,v20.2.2.2.2.2.2.2.2.2.2.2.1,v20.2.2.2.2.2.2.2.2.2.2.2.2.1,v20.2.2.2.2.2.2.2.2.2.2.2.2.2.1,v20.2.2.2.2.2.2.2.2.2.2.2.2.2.2.1,v20.2.2.2.2.2.2.2.2.2.2.2.2.2.2.2.1,v20.2.2.2.2.2.2.2.2.2.2.2.2.2.2.2.2.1,v20.2.2.2.2.2.2.2.2.2.2.2.2.2.2.2.2.2.1,v20.2.2.2.2.2.2.2.2.2.2.2.2.2.2.2.2.2.2.1,v20.2.2.2.2.2.2.2.2.2.2.2.2.2.2.2.2.2.2.2.1,v20.2.2.2.2.2.2.2.2.2.2.2.2.2.2.2.2.2.2.2.2.1,v20.2.2.2.2.2.2.2.2.2.2.2.2.2.2.2.2.2.2.2.2.2.1,v20.2.2.2.2.2.2.2.2.2.2.2.2.2.2.2.2.2.2.2.2.2.2.1,v20.2.2.2.2.2.2.2.2.2.2.2.2.2.2.2.2.2.2.2.2.2.2.2.1,()) (xS)) fun v23=>
 aP (β:=(bC×Int×Unit)) (γ:=((List Int)×(List Int)×(List (List Int))×(List Int)×(List Int)×(List Int)×(List Bool)×Int×Int×Int×Int×Int×(List Int)×(List Int)×(List (List Int))×(List Int)×(List Int)×(List Int)×(List Bool)×Int×Int×Int×Int×Int×Unit)) (
  iter (X:=CJ) (β:=CB) (v23.2.2.2.2.2.2.2.2.2.2.2.2.2.2.2.2.2.2.2.1.natAbs+(v23.2.2.2.2.2.2.2.2.2.2.2.2.2.2.2.2.2.2.2.2.1.natAbs+(Int.natAbs (w64 (v23.2.2.2.2.2.2.2.2.2.2.2.2.2.2.2.2.2.2.2.1+v23.2.2.2.2.2.2.2.2.2.2.2.2.2.2.2.2.2.2.2.2.1))+(v23.2.2.2.2.2.2.2.2.2.2.2.2.2.2.2.2.2.2.2.2.2.2.1.natAbs+(Int.natAbs (w64 ((w64 (v23.2.2.2.2.2.2.2.2.2.2.2.2.2.2.2.2.2.2.2.1+v23.2.2.2.2.2.2.2.2.2.2.2.2.2.2.2.2.2.2.2.2.1))+v23.2.2.2.2.2.2.2.2.2.2.2.2.2.2.2.2.2.2.2.2.2.2.1))+(Int.natAbs (0:Int)+(v23.1.length+(v23.2.1.length+(v23.2.2.1.length+(v23.2.2.2.1.length+(v23.2.2.2.2.1.length+(v23.2.2.2.2.2.1.length+(v23.2.2.2.2.2.2.1.length+(v23.2.2.2.2.2.2.2.1.natAbs+(v23.2.2.2.2.2.2.2.2.1.natAbs+(v23.2.2.2.2.2.2.2.2.2.1.natAbs+(v23.2.2.2.2.2.2.2.2.2.2.1.natAbs+(v23.2.2.2.2.2.2.2.2.2.2.2.1.natAbs+(v23.2.2.2.2.2.2.2.2.2.2.2.2.1.length+(v23.2.2.2.2.2.2.2.2.2.2.2.2.2.1.length+(v23.2.2.2.2.2.2.2.2.2.2.2.2.2.2.1.length+(v23.2.2.2.2.2.2.2.2.2.2.2.2.2.2.2.1.length+(v23.2.2.2.2.2.2.2.2.2.2.2.2.2.2.2.2.1.length+(v23.2.2.2.2.2.2.2.2.2.2.2.2.2.2.2.2.2.1.length+(v23.2.2.2.2.2.2.2.2.2.2.2.2.2.2.2.2.2.2.1.length+(v23.2.2.2.2.2.2.2.2.2.2.2.2.2.2.2.2.2.2.2.1.natAbs+(v23.2.2.2.2.2.2.2.2.2.2.2.2.2.2.2.2.2.2.2.2.1.natAbs+(Int.natAbs (w64 (v23.2.2.2.2.2.2.2.2.2.2.2.2.2.2.2.2.2.2.2.1+v23.2.2.2.2.2.2.2.2.2.2.2.2.2.2.2.2.2.2.2.2.1))+(v23.2.2.2.2.2.2.2.2.2.2.2.2.2.2.2.2.2.2.2.2.2.2.1.natAbs+(Int.natAbs (w64 ((w64 (v23.2.2.2.2.2.2.2.2.2.2.2.2.2.2.2.2.2.2.2.1+v23.2.2.2.2.2.2.2.2.2.2.2.2.2.2.2.2.2.2.2.2.1))+v23.2.2.2.2.2.2.2.2.2.2.2.2.2.2.2.2.2.2.2.2.2.2.1))+2)))))))))))))))))))))))))))))) ((v23.2.2.2.2.2.2.2.2.2.2.2.2.2.2.2.2.2.2.2.1,v23.2.2.2.2.2.2.2.2.2.2.2.2.2.2.2.2.2.2.2.2.1,w64 (v23.2.2.2.2.2.2.2.2.2.2.2.2.2.2.2.2.2.2.2.1+v23.2.2.2.2.2.2.2.2.2.2.2.2.2.2.2.2.2.2.2.2.1),v23.2.2.2.2.2.2.2.2.2.2.2.2.2.2.2.2.2.2.2.2.2.2.1,w64 ((w64 (v23.2.2.2.2.2.2.2.2.2.2.2.2.2.2.2.2.2.2.2.1+v23.2.2.2.2.2.2.2.2.2.2.2.2.2.2.2.2.2.2.2.2.1))+v23.2.2.2.2.2.2.2.2.2.2.2.2.2.2.2.2.2.2.2.2.2.2.1)),0,v23.1,v23.2.1,v23.2.2.1,v23.2.2.2.1,v23.2.2.2.2.1,v23.2.2.2.2.2.1,v23.2.2.2.2.2.2.1,v23.2.2.2.2.2.2.2.1,v23.2.2.2.2.2.2.2.2.1,v23.2.2.2.2.2.2.2.2.2.1,v23.2.2.2.2.2.2.2.2.2.2.1,v23.2.2.2.2.2.2.2.2.2.2.2.1,v23.2.2.2.2.2.2.2.2.2.2.2.2.1,v23.2.2.2.2.2.2.2.2.2.2.2.2.2.1,v23.2.2.2.2.2.2.2.2.2.2.2.2.2.2.1,v23.2.2.2.2.2.2.2.2.2.2.2.2.2.2.2.1,v23.2.2.2.2.2.2.2.2.2.2.2.2.2.2.2.2.1,v23.2.2.2.2.2.2.2.2.2.2.2.2.2.2.2.2.2.1,v23.2.2.2.2.2.2.2.2.2.2.2.2.2.2.2.2.2.2.1,v23.2.2.2.2.2.2.2.2.2.2.2.2.2.2.2.2.2.2.2.1,v23.2.2.2.2.2.2.2.2.2.2.2.2.2.2.2.2.2.2.2.2.1,w64 (v23.2.2.2.2.2.2.2.2.2.2.2.2.2.2.2.2.2.2.2.1+v23.2.2.2.2.2.2.2.2.2.2.2.2.2.2.2.2.2.2.2.2.1),v23.2.2.2.2.2.2.2.2.2.2.2.2.2.2.2.2.2.2.2.2.2.2.1,w64 ((w64 (v23.2.2.2.2.2.2.2.2.2.2.2.2.2.2.2.2.2.2.2.1+v23.2.2.2.2.2.2.2.2.2.2.2.2.2.2.2.2.2.2.2.2.1))+v23.2.2.2.2.2.2.2.2.2.2.2.2.2.2.2.2.2.2.2.2.2.2.1),()) (tO)) fun v27=>
 some ((v27.2.2.2.2.2.2.2.2.2.2.2.2.1,v27.2.2.2.2.2.2.2.2.2.2.2.2.2.1,v27.2.2.2.2.2.2.2.2.2.2.2.2.2.2.1,v27.2.2.2.2.2.2.2.2.2.2.2.2.2.2.2.1,v27.2.2.2.2.2.2.2.2.2.2.2.2.2.2.2.2.1,v27.2.2.2.2.2.2.2.2.2.2.2.2.2.2.2.2.2.1,v27.2.2.2.2.2.2.2.2.2.2.2.2.2.2.2.2.2.2.1,v27.2.2.2.2.2.2.2.2.2.2.2.2.2.2.2.2.2.2.2.1,v27.2.2.2.2.2.2.2.2.2.2.2.2.2.2.2.2.2.2.2.2.1,v27.2.2.2.2.2.2.2.2.2.2.2.2.2.2.2.2.2.2.2.2.2.1,v27.2.2.2.2.2.2.2.2.2.2.2.2.2.2.2.2.2.2.2.2.2.2.1,v27.2.2.2.2.2.2.2.2.2.2.2.2.2.2.2.2.2.2.2.2.2.2.2.1),0,())
abbrev o7:Type:=bC×(List bQ)×(List aD)×Int×Int×(List UInt8)×(List UInt8)×Int×Int×Int×Bool×(List aD)×(List au)×(List av)×Unit
abbrev uM:Type:=(((List bQ)×Unit) ⊕ ((List bQ)×Unit))
def o5 (x1:o7) (again:o7→Option uM):Option uM:=
 bif decide (x1.2.2.2.2.1<x1.2.2.2.1) then
  Option.bind (idx x1.2.2.1 x1.2.2.2.2.1) fun y2=>
  Option.bind (idx x1.1.2.2.2.2.2.2.1 x1.2.2.2.2.1) fun y3=>
  bif y3 then
   Option.bind (idx x1.1.2.2.2.2.1 x1.2.2.2.2.1) fun y4=>
   Option.bind (uL (x1.2.2.2.2.2.1,x1.2.2.2.2.2.2.1,x1.2.2.2.2.2.2.2.1,x1.2.2.2.2.2.2.2.2.1,x1.2.2.2.2.2.2.2.2.2.1,x1.2.2.2.2.2.2.2.2.2.2.1,x1.2.2.2.2.2.2.2.2.2.2.2.1,x1.2.2.2.2.2.2.2.2.2.2.2.2.1,x1.2.2.2.2.2.2.2.2.2.2.2.2.2.1) y4) fun r5=>
   Option.bind (idx x1.1.2.2.2.2.2.1 x1.2.2.2.2.1) fun y6=>
   Option.bind (uL (x1.2.2.2.2.2.1,x1.2.2.2.2.2.2.1,x1.2.2.2.2.2.2.2.1,x1.2.2.2.2.2.2.2.2.1,x1.2.2.2.2.2.2.2.2.2.1,x1.2.2.2.2.2.2.2.2.2.2.1,x1.2.2.2.2.2.2.2.2.2.2.2.1,x1.2.2.2.2.2.2.2.2.2.2.2.2.1,x1.2.2.2.2.2.2.2.2.2.2.2.2.2.1) y6) fun r7=>
   chk (decide (((x1.2.1.length)+1)*48≤140737488355328)&&decide ((x1.2.1.length)+1≤maxLen)) <|
   again (x1.1,x1.2.1++[(y2.1,r5.1,r7.1)],x1.2.2.1,x1.2.2.2.1,w64 (x1.2.2.2.2.1+1),x1.2.2.2.2.2.1,x1.2.2.2.2.2.2.1,x1.2.2.2.2.2.2.2.1,x1.2.2.2.2.2.2.2.2.1,x1.2.2.2.2.2.2.2.2.2.1,x1.2.2.2.2.2.2.2.2.2.2.1,x1.2.2.2.2.2.2.2.2.2.2.2.1,x1.2.2.2.2.2.2.2.2.2.2.2.2.1,x1.2.2.2.2.2.2.2.2.2.2.2.2.2.1,())
  else
   again (x1.1,x1.2.1,x1.2.2.1,x1.2.2.2.1,w64 (x1.2.2.2.2.1+1),x1.2.2.2.2.2.1,x1.2.2.2.2.2.2.1,x1.2.2.2.2.2.2.2.1,x1.2.2.2.2.2.2.2.2.1,x1.2.2.2.2.2.2.2.2.2.1,x1.2.2.2.2.2.2.2.2.2.2.1,x1.2.2.2.2.2.2.2.2.2.2.2.1,x1.2.2.2.2.2.2.2.2.2.2.2.2.1,x1.2.2.2.2.2.2.2.2.2.2.2.2.2.1,())
 else
  some (Sum.inr (x1.2.1,()))
def sU (a0:bC) (a1:ah):Option ((List bQ)×Unit):=
 aP (β:=((List bQ)×Unit)) (γ:=((List bQ)×Unit)) (
  iter (X:=o7) (β:=uM) (a0.1.length+(a0.2.1.length+(a0.2.2.1.length+(a0.2.2.2.1.length+(a0.2.2.2.2.1.length+(a0.2.2.2.2.2.1.length+(a0.2.2.2.2.2.2.1.length+(a0.2.2.2.2.2.2.2.1.natAbs+(a0.2.2.2.2.2.2.2.2.1.natAbs+(a0.2.2.2.2.2.2.2.2.2.1.natAbs+(a0.2.2.2.2.2.2.2.2.2.2.1.natAbs+(a0.2.2.2.2.2.2.2.2.2.2.2.natAbs+(List.length ([]:List bQ)+(a1.2.2.2.2.2.2.1.length+(Int.natAbs ((a1.2.2.2.2.2.2.1.length:Int))+(Int.natAbs (0:Int)+(a1.1.length+(a1.2.1.length+(a1.2.2.1.natAbs+(a1.2.2.2.1.natAbs+(a1.2.2.2.2.1.natAbs+(a1.2.2.2.2.2.2.1.length+(a1.2.2.2.2.2.2.2.1.length+(a1.2.2.2.2.2.2.2.2.length+2)))))))))))))))))))))))) (a0,[],a1.2.2.2.2.2.2.1,(a1.2.2.2.2.2.2.1.length:Int),0,a1.1,a1.2.1,a1.2.2.1,a1.2.2.2.1,a1.2.2.2.2.1,a1.2.2.2.2.2.1,a1.2.2.2.2.2.2.1,a1.2.2.2.2.2.2.2.1,a1.2.2.2.2.2.2.2.2,()) (o5)) fun v8=>
 some (v8.1,())
noncomputable def Kd (a0:ah):Option ((List bQ)×Int×Unit):=
 Option.bind (p8 a0) fun r1=>
 bif r1.1 != 0 then
  some ([],r1.1,())
 else
  Option.bind (IA a0) fun r2=>
  bif r2.2.1 != 0 then
   some ([],r2.2.1,())
  else
   Option.bind (sU r2.1 a0) fun r3=>
   some (r3.1,0,())
abbrev ku:Type:=(List bQ)×(List bQ)×Int×Int×Unit
abbrev ov:Type:=((Bool×Unit) ⊕ Unit)
def ko (x1:ku) (again:ku→Option ov):Option ov:=
 match x1 with
 | (A,B,C,D,_)=>
 bif decide (D<C) then
  Option.bind (idx A D) fun y2=>
  Option.bind (idx B D) fun y3=>
  bif !((y2.1==y3.1)&&(((y2.2.1.1==y3.2.1.1)&&((y2.2.1.2==y3.2.1.2)&&true))&&(((y2.2.2.1==y3.2.2.1)&&((y2.2.2.2==y3.2.2.2)&&true))&&true))) then
   some (Sum.inl (false,()))
  else
   again (A,B,C,w64 (D+1),())
 else
  some (Sum.inr ())
def mh (a0:List bQ) (a1:List bQ):Option (Bool×Unit):=
 bif ((List.length a0:Int)) != ((List.length a1:Int)) then
  some (false,())
 else
  aP (β:=(Bool×Unit)) (γ:=Unit) (
   iter (X:=ku) (β:=ov) (List.length a0+(List.length a1+(Int.natAbs ((List.length a0:Int))+(Int.natAbs (0:Int)+2)))) (a0,a1,(List.length a0:Int),0,()) (ko)) fun _=>
  some (true,())
noncomputable def ES (a0:ah):Option (tJ×Int×Unit):=
 Option.bind (kM a0 []) fun r1=>
 bif r1.2.1 != 0 then
  some (((0,0),(0,0),(0,0),(0,0),0,0),r1.2.1,())
 else
  Option.bind (oW r1.1 r1.2.2.1) fun r2=>
  some (r2.1,r2.2.1,())
noncomputable def Hh (a0:ah):Option (tJ×Int×Unit):=
 Option.bind (p8 a0) fun r1=>
 bif r1.1 != 0 then
  some (((0,0),(0,0),(0,0),(0,0),0,0),r1.1,())
 else
  Option.bind (IA a0) fun r2=>
  bif r2.2.1 != 0 then
   some (((0,0),(0,0),(0,0),(0,0),0,0),r2.2.1,())
  else
   Option.bind (uL a0 r2.1.2.2.2.2.2.2.2.1) fun r3=>
   Option.bind (uL a0 r2.1.2.2.2.2.2.2.2.2.1) fun r4=>
   Option.bind (uL a0 r2.1.2.2.2.2.2.2.2.2.2.1) fun r5=>
   Option.bind (uL a0 r2.1.2.2.2.2.2.2.2.2.2.2.1) fun r6=>
   Option.bind (uL a0 r2.1.2.2.2.2.2.2.2.2.2.2.2) fun r7=>
   some ((r3.1,r4.1,r5.1,r6.1,r7.1),0,())
noncomputable def mc (a0:ah):Option (Bool×Unit):=
 Option.bind (Hu a0) fun r1=>
 Option.bind (Kd a0) fun r2=>
 bif r1.2.1 != r2.2.1 then
  some (false,())
 else
  Option.bind (mh r1.1 r2.1) fun r3=>
  bif !r3.1 then
   some (false,())
  else
   Option.bind (ES a0) fun r4=>
   Option.bind (Hh a0) fun r5=>
   bif r4.2.1==r5.2.1 then
    bif ((r4.1.1.1==r5.1.1.1)&&((r4.1.1.2==r5.1.1.2)&&true))&&(((r4.1.2.1.1==r5.1.2.1.1)&&((r4.1.2.1.2==r5.1.2.1.2)&&true))&&(((r4.1.2.2.1.1==r5.1.2.2.1.1)&&((r4.1.2.2.1.2==r5.1.2.2.1.2)&&true))&&(((r4.1.2.2.2.1.1==r5.1.2.2.2.1.1)&&((r4.1.2.2.2.1.2==r5.1.2.2.2.1.2)&&true))&&(((r4.1.2.2.2.2.1==r5.1.2.2.2.2.1)&&((r4.1.2.2.2.2.2==r5.1.2.2.2.2.2)&&true))&&true)))) then
     Option.bind (Qh) fun r6=>
     some (r6.1,())
    else
     some (false,())
   else
    some (false,())
end Go.Md
