/-
  The plain models of the functions that the law reaches, second part. No condition.
-/
import Derived.Test.YtalfglakknbjkaaGreatDoorTm
import Derived.Lib.Bytealg
set_option linter.all false
namespace Go.Md
open Go.Dn
def strings_Compare (a b:List UInt8):Option (Int×Unit):=some (Lib.compareBytes a b,())
abbrev iE:Ty:=(.st (.pair .str aZ))
abbrev aJ:Type:=(List UInt8)×ak
abbrev iy:Ty:=(.st (.pair .bool (.pair aZ .str)))
abbrev aG:Type:=Bool×ak×(List UInt8)
abbrev jA:Ty:=(.st (.pair tI (.pair tI (.pair .str (.pair aZ (.pair .str (.pair aZ (.pair tI (.pair (.slice iy) .str)))))))))
abbrev ax:Type:=Int×Int×(List UInt8)×ak×(List UInt8)×ak×Int×(List aG)×(List UInt8)
abbrev b7:Ty:=(.st (.pair .str (.pair .str (.pair tI (.pair tI (.pair tI (.pair .bool (.pair (.slice iE) (.pair (.slice jA) (.slice iy))))))))))
abbrev aj:Type:=(List UInt8)×(List UInt8)×Int×Int×Int×Bool×(List aJ)×(List ax)×(List aG)
abbrev JX:Ty:=(.st (.pair aZ (.pair aZ (.pair aZ (.pair aZ aZ)))))
abbrev vn:Type:=ak×ak×ak×ak×ak
abbrev cJ:Ty:=(.st (.pair tI ai))
abbrev aF:Type:=Int×aa
abbrev pM:Ty:=(.st (.pair b7 (.pair (.slice ai) (.pair (.slice ai) (.pair (.slice ai) (.pair (.slice cJ) (.pair (.slice ai) (.pair (.slice .bool) (.slice ai)))))))))
abbrev fZ:Type:=aj×(List aa)×(List aa)×(List aa)×(List aF)×(List aa)×(List Bool)×(List aa)
abbrev aT:Ty:=(.st (.pair tI (.pair tI ai)))
abbrev ah:Type:=Int×Int×aa
def EZ (a0:Int):Option (Bool×Unit):=
 Option.bind (bV a0 1 6) fun r1=>
 some (!r1.1,())
abbrev qw:Type:=(List aJ)×(List aJ)×Int×Int×Unit
abbrev vI:Type:=((Int×Unit) ⊕ Unit)
def qv (x1:qw) (again:qw→Option vI):Option vI:=
 match x1 with
 | (A,B,C,D,_)=>
 bif decide (D<C) then
  Option.bind (idx B D) fun y2=>
  Option.bind (ja y2.1) fun r3=>
  bif !r3.1 then
   some (Sum.inl (5,()))
  else
   bif decide (D>0) then
    Option.bind (idx A (w64 (D - 1))) fun y4=>
    bif Op.bytesLess y2.1 y4.1||y2.1==y4.1 then
     some (Sum.inl (8,()))
    else
     Option.bind (bW y2.2) fun r5=>
     bif r5.1 != 0 then
      some (Sum.inl (r5.1,()))
     else
      bif decide (y2.2.1<0) then
       some (Sum.inl (1,()))
      else
       Option.bind (fX y2.2 100) fun r6=>
       bif !r6.1 then
        some (Sum.inl (1,()))
       else
        again (A,B,C,w64 (D+1),())
   else
    Option.bind (bW y2.2) fun r7=>
    bif r7.1 != 0 then
     some (Sum.inl (r7.1,()))
    else
     bif decide (y2.2.1<0) then
      some (Sum.inl (1,()))
     else
      Option.bind (fX y2.2 100) fun r8=>
      bif !r8.1 then
       some (Sum.inl (1,()))
      else
       again (A,B,C,w64 (D+1),())
 else
  some (Sum.inr ())
def nM (a0:List aJ):Option (Int×Unit):=
 bif ((List.length a0:Int))==0 then
  some (9,())
 else
  bif decide (((List.length a0:Int))>20) then
   some (2,())
  else
   aS (β:=(Int×Unit)) (γ:=Unit) (
    iter (X:=qw) (β:=vI) (List.length a0+(List.length a0+(Int.natAbs ((List.length a0:Int))+(Int.natAbs (0:Int)+2)))) (a0,a0,(List.length a0:Int),0,()) (qv)) fun _=>
   some (0,())
abbrev Ba:Type:=Int×Int×Int×Unit
abbrev Bl:Type:=((Int×Unit) ⊕ (Int×Unit))
def NZ (x1:Ba) (again:Ba→Option Bl):Option Bl:=
 bif decide (x1.2.2.1<x1.2.1) then
  again (w64 (x1.1*10),x1.2.1,w64 (x1.2.2.1+1),())
 else
  some (Sum.inr (x1.1,()))
def Ga (a0:Int):Option (Int×Unit):=
 aS (β:=(Int×Unit)) (γ:=(Int×Unit)) (
  iter (X:=Ba) (β:=Bl) (Int.natAbs (1:Int)+(Int.natAbs a0+(Int.natAbs (0:Int)+2))) (1,a0,0,()) (NZ)) fun v2=>
 some (v2.1,())
def Er (a0:ak) (a1:Int) (a2:Int):Option (Bool×Unit):=
 bif decide (a0.2≤a1) then
  bif decide (a0.1≥0) then
   Option.bind (Ga a0.2) fun r1=>
   some (decide (a0.1≤(w64 (a2*r1.1))),())
  else
   some (false,())
 else
  some (false,())
def o8 (a0:ak):Option (Int×Unit):=
 Option.bind (bW a0) fun r1=>
 bif r1.1 != 0 then
  some (r1.1,())
 else
  Option.bind (Er a0 4 1000000000) fun r2=>
  bif !r2.1 then
   some (1,())
  else
   some (0,())
def CP (a0:aJ) (a1:List UInt8):Option (Int×Unit):=
 Option.bind (strings_Compare a0.1 a1) fun r1=>
 some (r1.1,())
abbrev cq:Type:=(List aJ)×(List UInt8)×Unit×Int×Int×Int×Unit
abbrev gW:Type:=((Int×Bool×Unit) ⊕ ((List aJ)×(List UInt8)×Unit×Int×Int×Unit))
def ic (x1:cq) (again:cq→Option gW):Option gW:=
 match x1 with
 | (A,B,C,D,E,F,_)=>
 bif decide (E<F) then
  let n2:Int:=w64 (Int.fdiv (bP (w64 (E+F))) (2 ^ 1))
  Option.bind (idx A n2) fun y3=>
  Option.bind (CP y3 B) fun r4=>
  bif decide (r4.1<0) then
   again (A,B,C,D,w64 (n2+1),F,())
  else
   again (A,B,C,D,E,n2,())
 else
  some (Sum.inr (A,B,C,D,E,()))
def eH (a0:List aJ) (a1:List UInt8) (a2:Unit):Option (Int×Bool×Unit):=
 aS (β:=(Int×Bool×Unit)) (γ:=((List aJ)×(List UInt8)×Unit×Int×Int×Unit)) (
  iter (X:=cq) (β:=gW) (List.length a0+(List.length a1+(Int.natAbs ((List.length a0:Int))+(Int.natAbs (0:Int)+(Int.natAbs ((List.length a0:Int))+2))))) (a0,a1,a2,(List.length a0:Int),0,(List.length a0:Int),()) (ic)) fun v5=>
 bif decide (v5.2.2.2.2.1<v5.2.2.2.1) then
  Option.bind (idx v5.1 v5.2.2.2.2.1) fun y6=>
  Option.bind (CP y6 v5.2.1) fun r7=>
  some (v5.2.2.2.2.1,r7.1==0,())
 else
  some (v5.2.2.2.2.1,false,())
def qV (a0:List aJ) (a1:List UInt8):Option (Int×Bool×Unit):=
 Option.bind (eH a0 a1 ()) fun r1=>
 some (r1.1,r1.2.1,())
def j9 (a0:aj) (a1:List UInt8):Option (Bool×Unit):=
 Option.bind (qV a0.2.2.2.2.2.2.1 a1) fun r1=>
 some (r1.2.1,())
abbrev pR:Type:=Bool×(List aG)×Int×Int×(List UInt8)×(List UInt8)×Int×Int×Int×Bool×(List aJ)×(List ax)×(List aG)×Unit
abbrev uC:Type:=((Int×Unit) ⊕ Unit)
def pN (x1:pR) (again:pR→Option uC):Option uC:=
 match x1 with
 | (A,B,C,D,E,F,G,H,I,J,K,L,M,_)=>
 bif decide (D<C) then
  Option.bind (idx B D) fun y2=>
  Option.bind (bW y2.2.1) fun r3=>
  bif r3.1 != 0 then
   some (Sum.inl (r3.1,()))
  else
   bif y2.2.1.1==0 then
    some (Sum.inl (13,()))
   else
    bif y2.1 then
     Option.bind (fX y2.2.1 100) fun r4=>
     aS (β:=((Int×Unit) ⊕ Unit)) (γ:=(Bool×(List aG)×Int×Int×Bool×(List UInt8)×(List UInt8)×Int×Int×Int×Bool×(List aJ)×(List ax)×(List aG)×Bool×Int×Int×(List UInt8)×Unit)) (
      bif !r4.1 then
       some (Sum.inr (A,B,C,D, !r4.1,E,F,G,H,I,J,K,L,M,y2.1,y2.2.1.1,y2.2.1.2,y2.2.2,()))
      else
       bif !y2.1 then
        Option.bind (fX y2.2.1 1000000000) fun r5=>
        bif !r5.1 then
         some (Sum.inr (A,B,C,D,true,E,F,G,H,I,J,K,L,M,y2.1,y2.2.1.1,y2.2.1.2,y2.2.2,()))
        else
         some (Sum.inr (A,B,C,D,decide (y2.2.1.2>H),E,F,G,H,I,J,K,L,M,y2.1,y2.2.1.1,y2.2.1.2,y2.2.2,()))
       else
        some (Sum.inr (A,B,C,D,false,E,F,G,H,I,J,K,L,M,y2.1,y2.2.1.1,y2.2.1.2,y2.2.2,()))) fun v6=>
     bif v6.2.2.2.2.1 then
      some (Sum.inl (1,()))
     else
      bif v6.1 then
       bif !(v6.2.2.2.2.2.2.2.2.2.2.2.2.2.2.2.2.2.1==[]) then
        some (Sum.inl (3,()))
       else
        bif !v6.1 then
         bif !(v6.2.2.2.2.2.2.2.2.2.2.2.2.2.2.2.2.2.1==[]) then
          Option.bind (j9 (v6.2.2.2.2.2.1,v6.2.2.2.2.2.2.1,v6.2.2.2.2.2.2.2.1,v6.2.2.2.2.2.2.2.2.1,v6.2.2.2.2.2.2.2.2.2.1,v6.2.2.2.2.2.2.2.2.2.2.1,v6.2.2.2.2.2.2.2.2.2.2.2.1,v6.2.2.2.2.2.2.2.2.2.2.2.2.1,v6.2.2.2.2.2.2.2.2.2.2.2.2.2.1) v6.2.2.2.2.2.2.2.2.2.2.2.2.2.2.2.2.2.1) fun r7=>
          bif !r7.1 then
           some (Sum.inl (5,()))
          else
           again (v6.1,v6.2.1,v6.2.2.1,w64 (v6.2.2.2.1+1),v6.2.2.2.2.2.1,v6.2.2.2.2.2.2.1,v6.2.2.2.2.2.2.2.1,v6.2.2.2.2.2.2.2.2.1,v6.2.2.2.2.2.2.2.2.2.1,v6.2.2.2.2.2.2.2.2.2.2.1,v6.2.2.2.2.2.2.2.2.2.2.2.1,v6.2.2.2.2.2.2.2.2.2.2.2.2.1,v6.2.2.2.2.2.2.2.2.2.2.2.2.2.1,())
         else
          again (v6.1,v6.2.1,v6.2.2.1,w64 (v6.2.2.2.1+1),v6.2.2.2.2.2.1,v6.2.2.2.2.2.2.1,v6.2.2.2.2.2.2.2.1,v6.2.2.2.2.2.2.2.2.1,v6.2.2.2.2.2.2.2.2.2.1,v6.2.2.2.2.2.2.2.2.2.2.1,v6.2.2.2.2.2.2.2.2.2.2.2.1,v6.2.2.2.2.2.2.2.2.2.2.2.2.1,v6.2.2.2.2.2.2.2.2.2.2.2.2.2.1,())
        else
         again (v6.1,v6.2.1,v6.2.2.1,w64 (v6.2.2.2.1+1),v6.2.2.2.2.2.1,v6.2.2.2.2.2.2.1,v6.2.2.2.2.2.2.2.1,v6.2.2.2.2.2.2.2.2.1,v6.2.2.2.2.2.2.2.2.2.1,v6.2.2.2.2.2.2.2.2.2.2.1,v6.2.2.2.2.2.2.2.2.2.2.2.1,v6.2.2.2.2.2.2.2.2.2.2.2.2.1,v6.2.2.2.2.2.2.2.2.2.2.2.2.2.1,())
      else
       bif !v6.1 then
        bif !(v6.2.2.2.2.2.2.2.2.2.2.2.2.2.2.2.2.2.1==[]) then
         Option.bind (j9 (v6.2.2.2.2.2.1,v6.2.2.2.2.2.2.1,v6.2.2.2.2.2.2.2.1,v6.2.2.2.2.2.2.2.2.1,v6.2.2.2.2.2.2.2.2.2.1,v6.2.2.2.2.2.2.2.2.2.2.1,v6.2.2.2.2.2.2.2.2.2.2.2.1,v6.2.2.2.2.2.2.2.2.2.2.2.2.1,v6.2.2.2.2.2.2.2.2.2.2.2.2.2.1) v6.2.2.2.2.2.2.2.2.2.2.2.2.2.2.2.2.2.1) fun r8=>
         bif !r8.1 then
          some (Sum.inl (5,()))
         else
          again (v6.1,v6.2.1,v6.2.2.1,w64 (v6.2.2.2.1+1),v6.2.2.2.2.2.1,v6.2.2.2.2.2.2.1,v6.2.2.2.2.2.2.2.1,v6.2.2.2.2.2.2.2.2.1,v6.2.2.2.2.2.2.2.2.2.1,v6.2.2.2.2.2.2.2.2.2.2.1,v6.2.2.2.2.2.2.2.2.2.2.2.1,v6.2.2.2.2.2.2.2.2.2.2.2.2.1,v6.2.2.2.2.2.2.2.2.2.2.2.2.2.1,())
        else
         again (v6.1,v6.2.1,v6.2.2.1,w64 (v6.2.2.2.1+1),v6.2.2.2.2.2.1,v6.2.2.2.2.2.2.1,v6.2.2.2.2.2.2.2.1,v6.2.2.2.2.2.2.2.2.1,v6.2.2.2.2.2.2.2.2.2.1,v6.2.2.2.2.2.2.2.2.2.2.1,v6.2.2.2.2.2.2.2.2.2.2.2.1,v6.2.2.2.2.2.2.2.2.2.2.2.2.1,v6.2.2.2.2.2.2.2.2.2.2.2.2.2.1,())
       else
        again (v6.1,v6.2.1,v6.2.2.1,w64 (v6.2.2.2.1+1),v6.2.2.2.2.2.1,v6.2.2.2.2.2.2.1,v6.2.2.2.2.2.2.2.1,v6.2.2.2.2.2.2.2.2.1,v6.2.2.2.2.2.2.2.2.2.1,v6.2.2.2.2.2.2.2.2.2.2.1,v6.2.2.2.2.2.2.2.2.2.2.2.1,v6.2.2.2.2.2.2.2.2.2.2.2.2.1,v6.2.2.2.2.2.2.2.2.2.2.2.2.2.1,())
    else
     aS (β:=((Int×Unit) ⊕ Unit)) (γ:=(Bool×(List aG)×Int×Int×Bool×(List UInt8)×(List UInt8)×Int×Int×Int×Bool×(List aJ)×(List ax)×(List aG)×Bool×Int×Int×(List UInt8)×Unit)) (
      bif !y2.1 then
       Option.bind (fX y2.2.1 1000000000) fun r9=>
       bif !r9.1 then
        some (Sum.inr (A,B,C,D,true,E,F,G,H,I,J,K,L,M,y2.1,y2.2.1.1,y2.2.1.2,y2.2.2,()))
       else
        some (Sum.inr (A,B,C,D,decide (y2.2.1.2>H),E,F,G,H,I,J,K,L,M,y2.1,y2.2.1.1,y2.2.1.2,y2.2.2,()))
      else
       some (Sum.inr (A,B,C,D,false,E,F,G,H,I,J,K,L,M,y2.1,y2.2.1.1,y2.2.1.2,y2.2.2,()))) fun v10=>
     bif v10.2.2.2.2.1 then
      some (Sum.inl (1,()))
     else
      bif v10.1 then
       bif !(v10.2.2.2.2.2.2.2.2.2.2.2.2.2.2.2.2.2.1==[]) then
        some (Sum.inl (3,()))
       else
        bif !v10.1 then
         bif !(v10.2.2.2.2.2.2.2.2.2.2.2.2.2.2.2.2.2.1==[]) then
          Option.bind (j9 (v10.2.2.2.2.2.1,v10.2.2.2.2.2.2.1,v10.2.2.2.2.2.2.2.1,v10.2.2.2.2.2.2.2.2.1,v10.2.2.2.2.2.2.2.2.2.1,v10.2.2.2.2.2.2.2.2.2.2.1,v10.2.2.2.2.2.2.2.2.2.2.2.1,v10.2.2.2.2.2.2.2.2.2.2.2.2.1,v10.2.2.2.2.2.2.2.2.2.2.2.2.2.1) v10.2.2.2.2.2.2.2.2.2.2.2.2.2.2.2.2.2.1) fun r11=>
          bif !r11.1 then
           some (Sum.inl (5,()))
          else
           again (v10.1,v10.2.1,v10.2.2.1,w64 (v10.2.2.2.1+1),v10.2.2.2.2.2.1,v10.2.2.2.2.2.2.1,v10.2.2.2.2.2.2.2.1,v10.2.2.2.2.2.2.2.2.1,v10.2.2.2.2.2.2.2.2.2.1,v10.2.2.2.2.2.2.2.2.2.2.1,v10.2.2.2.2.2.2.2.2.2.2.2.1,v10.2.2.2.2.2.2.2.2.2.2.2.2.1,v10.2.2.2.2.2.2.2.2.2.2.2.2.2.1,())
         else
          again (v10.1,v10.2.1,v10.2.2.1,w64 (v10.2.2.2.1+1),v10.2.2.2.2.2.1,v10.2.2.2.2.2.2.1,v10.2.2.2.2.2.2.2.1,v10.2.2.2.2.2.2.2.2.1,v10.2.2.2.2.2.2.2.2.2.1,v10.2.2.2.2.2.2.2.2.2.2.1,v10.2.2.2.2.2.2.2.2.2.2.2.1,v10.2.2.2.2.2.2.2.2.2.2.2.2.1,v10.2.2.2.2.2.2.2.2.2.2.2.2.2.1,())
        else
         again (v10.1,v10.2.1,v10.2.2.1,w64 (v10.2.2.2.1+1),v10.2.2.2.2.2.1,v10.2.2.2.2.2.2.1,v10.2.2.2.2.2.2.2.1,v10.2.2.2.2.2.2.2.2.1,v10.2.2.2.2.2.2.2.2.2.1,v10.2.2.2.2.2.2.2.2.2.2.1,v10.2.2.2.2.2.2.2.2.2.2.2.1,v10.2.2.2.2.2.2.2.2.2.2.2.2.1,v10.2.2.2.2.2.2.2.2.2.2.2.2.2.1,())
      else
       bif !v10.1 then
        bif !(v10.2.2.2.2.2.2.2.2.2.2.2.2.2.2.2.2.2.1==[]) then
         Option.bind (j9 (v10.2.2.2.2.2.1,v10.2.2.2.2.2.2.1,v10.2.2.2.2.2.2.2.1,v10.2.2.2.2.2.2.2.2.1,v10.2.2.2.2.2.2.2.2.2.1,v10.2.2.2.2.2.2.2.2.2.2.1,v10.2.2.2.2.2.2.2.2.2.2.2.1,v10.2.2.2.2.2.2.2.2.2.2.2.2.1,v10.2.2.2.2.2.2.2.2.2.2.2.2.2.1) v10.2.2.2.2.2.2.2.2.2.2.2.2.2.2.2.2.2.1) fun r12=>
         bif !r12.1 then
          some (Sum.inl (5,()))
         else
          again (v10.1,v10.2.1,v10.2.2.1,w64 (v10.2.2.2.1+1),v10.2.2.2.2.2.1,v10.2.2.2.2.2.2.1,v10.2.2.2.2.2.2.2.1,v10.2.2.2.2.2.2.2.2.1,v10.2.2.2.2.2.2.2.2.2.1,v10.2.2.2.2.2.2.2.2.2.2.1,v10.2.2.2.2.2.2.2.2.2.2.2.1,v10.2.2.2.2.2.2.2.2.2.2.2.2.1,v10.2.2.2.2.2.2.2.2.2.2.2.2.2.1,())
        else
         again (v10.1,v10.2.1,v10.2.2.1,w64 (v10.2.2.2.1+1),v10.2.2.2.2.2.1,v10.2.2.2.2.2.2.1,v10.2.2.2.2.2.2.2.1,v10.2.2.2.2.2.2.2.2.1,v10.2.2.2.2.2.2.2.2.2.1,v10.2.2.2.2.2.2.2.2.2.2.1,v10.2.2.2.2.2.2.2.2.2.2.2.1,v10.2.2.2.2.2.2.2.2.2.2.2.2.1,v10.2.2.2.2.2.2.2.2.2.2.2.2.2.1,())
       else
        again (v10.1,v10.2.1,v10.2.2.1,w64 (v10.2.2.2.1+1),v10.2.2.2.2.2.1,v10.2.2.2.2.2.2.1,v10.2.2.2.2.2.2.2.1,v10.2.2.2.2.2.2.2.2.1,v10.2.2.2.2.2.2.2.2.2.1,v10.2.2.2.2.2.2.2.2.2.2.1,v10.2.2.2.2.2.2.2.2.2.2.2.1,v10.2.2.2.2.2.2.2.2.2.2.2.2.1,v10.2.2.2.2.2.2.2.2.2.2.2.2.2.1,())
 else
  some (Sum.inr ())
def kM (a0:aj) (a1:List aG) (a2:Bool):Option (Int×Unit):=
 bif decide (((List.length a1:Int))>20) then
  some (2,())
 else
  aS (β:=(Int×Unit)) (γ:=Unit) (
   iter (X:=pR) (β:=uC) (List.length a1+(Int.natAbs ((List.length a1:Int))+(Int.natAbs (0:Int)+(a0.1.length+(a0.2.1.length+(a0.2.2.1.natAbs+(a0.2.2.2.1.natAbs+(a0.2.2.2.2.1.natAbs+(a0.2.2.2.2.2.2.1.length+(a0.2.2.2.2.2.2.2.1.length+(a0.2.2.2.2.2.2.2.2.length+2))))))))))) (a2,a1,(List.length a1:Int),0,a0.1,a0.2.1,a0.2.2.1,a0.2.2.2.1,a0.2.2.2.2.1,a0.2.2.2.2.2.1,a0.2.2.2.2.2.2.1,a0.2.2.2.2.2.2.2.1,a0.2.2.2.2.2.2.2.2,()) (pN)) fun _=>
  some (0,())
def su (a0:aj) (a1:Int):Option (Int×Unit):=
 Option.bind (idx a0.2.2.2.2.2.2.2.1 a1) fun y1=>
 Option.bind (bV y1.1 1 99999) fun r2=>
 bif r2.1 then
  some (1,())
 else
  bif decide (a1>0) then
   Option.bind (idx a0.2.2.2.2.2.2.2.1 (w64 (a1 - 1))) fun y3=>
   bif decide (y1.1≤y3.1) then
    some (8,())
   else
    Option.bind (bV y1.2.1 1 99999) fun r4=>
    bif r4.1 then
     some (1,())
    else
     Option.bind (ja y1.2.2.1) fun r5=>
     bif !r5.1 then
      some (5,())
     else
      Option.bind (bW y1.2.2.2.1) fun r6=>
      bif r6.1 != 0 then
       some (r6.1,())
      else
       bif decide (y1.2.2.2.1.2>3) then
        some (1,())
       else
        Option.bind (fX y1.2.2.2.1 1000000000) fun r7=>
        bif !r7.1 then
         some (1,())
        else
         bif y1.2.2.2.1.1==0 then
          some (13,())
         else
          Option.bind (ja y1.2.2.2.2.1) fun r8=>
          bif !r8.1 then
           some (5,())
          else
           Option.bind (o8 y1.2.2.2.2.2.1) fun r9=>
           bif r9.1 != 0 then
            some (r9.1,())
           else
            Option.bind (bV y1.2.2.2.2.2.2.1 1 100000) fun r10=>
            bif r10.1 then
             some (1,())
            else
             Option.bind (kM a0 y1.2.2.2.2.2.2.2.1 true) fun r11=>
             bif r11.1 != 0 then
              some (r11.1,())
             else
              Option.bind (j9 a0 y1.2.2.2.2.2.2.2.2) fun r12=>
              bif !r12.1 then
               some (5,())
              else
               some (0,())
  else
   Option.bind (bV y1.2.1 1 99999) fun r13=>
   bif r13.1 then
    some (1,())
   else
    Option.bind (ja y1.2.2.1) fun r14=>
    bif !r14.1 then
     some (5,())
    else
     Option.bind (bW y1.2.2.2.1) fun r15=>
     bif r15.1 != 0 then
      some (r15.1,())
     else
      bif decide (y1.2.2.2.1.2>3) then
       some (1,())
      else
       Option.bind (fX y1.2.2.2.1 1000000000) fun r16=>
       bif !r16.1 then
        some (1,())
       else
        bif y1.2.2.2.1.1==0 then
         some (13,())
        else
         Option.bind (ja y1.2.2.2.2.1) fun r17=>
         bif !r17.1 then
          some (5,())
         else
          Option.bind (o8 y1.2.2.2.2.2.1) fun r18=>
          bif r18.1 != 0 then
           some (r18.1,())
          else
           Option.bind (bV y1.2.2.2.2.2.2.1 1 100000) fun r19=>
           bif r19.1 then
            some (1,())
           else
            Option.bind (kM a0 y1.2.2.2.2.2.2.2.1 true) fun r20=>
            bif r20.1 != 0 then
             some (r20.1,())
            else
             Option.bind (j9 a0 y1.2.2.2.2.2.2.2.2) fun r21=>
             bif !r21.1 then
              some (5,())
             else
              some (0,())
abbrev rQ:Type:=Int×Int×(List UInt8)×(List UInt8)×Int×Int×Int×Bool×(List aJ)×(List ax)×(List aG)×Unit
abbrev sF:Type:=((Int×Unit) ⊕ ((List UInt8)×(List UInt8)×Int×Int×Int×Bool×(List aJ)×(List ax)×(List aG)×Unit))
def nO (x1:rQ) (again:rQ→Option sF):Option sF:=
 match x1 with
 | (A,B,C,D,E,F,G,H,I,J,K,_)=>
 bif decide (B<A) then
  Option.bind (su (C,D,E,F,G,H,I,J,K) B) fun r2=>
  bif r2.1 != 0 then
   some (Sum.inl (r2.1,()))
  else
   again (A,w64 (B+1),C,D,E,F,G,H,I,J,K,())
 else
  some (Sum.inr (C,D,E,F,G,H,I,J,K,()))
def rD (a0:aj):Option (Int×Unit):=
 Option.bind (ja a0.1) fun r1=>
 bif !r1.1 then
  some (5,())
 else
  Option.bind (ja a0.2.1) fun r2=>
  bif !r2.1 then
   some (5,())
  else
   Option.bind (yZ a0.2.2.1) fun r3=>
   bif !r3.1 then
    some (1,())
   else
    Option.bind (bV a0.2.2.2.1 0 4) fun r4=>
    bif r4.1 then
     some (1,())
    else
     Option.bind (EZ a0.2.2.2.2.1) fun r5=>
     bif !r5.1 then
      some (4,())
     else
      Option.bind (nM a0.2.2.2.2.2.2.1) fun r6=>
      bif r6.1 != 0 then
       some (r6.1,())
      else
       bif ((a0.2.2.2.2.2.2.2.1.length:Int))==0 then
        some (9,())
       else
        bif decide (((a0.2.2.2.2.2.2.2.1.length:Int))>500) then
         some (2,())
        else
         aS (β:=(Int×Unit)) (γ:=((List UInt8)×(List UInt8)×Int×Int×Int×Bool×(List aJ)×(List ax)×(List aG)×Unit)) (
          iter (X:=rQ) (β:=sF) (Int.natAbs ((a0.2.2.2.2.2.2.2.1.length:Int))+(Int.natAbs (0:Int)+(a0.1.length+(a0.2.1.length+(a0.2.2.1.natAbs+(a0.2.2.2.1.natAbs+(a0.2.2.2.2.1.natAbs+(a0.2.2.2.2.2.2.1.length+(a0.2.2.2.2.2.2.2.1.length+(a0.2.2.2.2.2.2.2.2.length+2)))))))))) ((a0.2.2.2.2.2.2.2.1.length:Int),0,a0.1,a0.2.1,a0.2.2.1,a0.2.2.2.1,a0.2.2.2.2.1,a0.2.2.2.2.2.1,a0.2.2.2.2.2.2.1,a0.2.2.2.2.2.2.2.1,a0.2.2.2.2.2.2.2.2,()) (nO)) fun v9=>
         Option.bind (kM (v9.1,v9.2.1,v9.2.2.1,v9.2.2.2.1,v9.2.2.2.2.1,v9.2.2.2.2.2.1,v9.2.2.2.2.2.2.1,v9.2.2.2.2.2.2.2.1,v9.2.2.2.2.2.2.2.2.1) v9.2.2.2.2.2.2.2.2.1 false) fun r10=>
         some (r10.1,())
abbrev ny:Type:=Int×Int×Int×(List Int)×Int×Int×(List Int)×Int×Int×Bool×(List Int)×Bool×(List Int)×Bool×(List Int)×(List Int)×Unit
abbrev vZ:Type:=(((aa×Unit) ⊕ (Bool×(List Int)×Bool×(List Int)×Bool×(List Int)×(List Int)×Unit)) ⊕ (Int×Int×(List Int)×Int×Int×Bool×(List Int)×Bool×(List Int)×Bool×(List Int)×(List Int)×Unit))
def qu (x1:ny) (again:ny→Option vZ):Option vZ:=
 match x1 with
 | (A,B,C,D,E,F,G,H,I,J,K,L,M,N,O,P,_)=>
 bif decide (I<H) then
  Option.bind (idx G I) fun y2=>
  chk (decide (0≤(w64 (A+I)))&&decide ((w64 (A+I))<(P.length:Int))) <|
  Option.bind (P[(w64 (A+I)).toNat]?) fun y3=>
  let n4:Int:=bP ((bP y3)+(bP ((bP B)*(bP y2))))
  chk (decide (0≤(w64 (A+I)))&&decide ((w64 (A+I))<(P.length:Int))) <|
  Option.bind (P[(w64 (A+I)).toNat]?) fun _=>
  again (A,B,Int.fdiv (bP (C+n4)) (2 ^ 32),D,E,F,G,H,w64 (I+1),J,K,L,M,N,O,List.set P (w64 (A+I)).toNat (nv (bP (C+n4))),())
 else
  some (Sum.inr (A,C,D,E,F,J,K,L,M,N,O,P,()))
abbrev nA:Type:=(List Int)×Int×Int×Bool×(List Int)×Bool×(List Int)×Bool×(List Int)×(List Int)×Unit
abbrev vO:Type:=((aa×Unit) ⊕ (Bool×(List Int)×Bool×(List Int)×Bool×(List Int)×(List Int)×Unit))
def qK (x1:nA) (again:nA→Option vO):Option vO:=
 match x1 with
 | (A,B,C,D,E,F,G,H,I,J,_)=>
 bif decide (C<B) then
  Option.bind (idx A C) fun y2=>
  aS (β:=((aa×Unit) ⊕ (Bool×(List Int)×Bool×(List Int)×Bool×(List Int)×(List Int)×Unit))) (γ:=(Int×Int×(List Int)×Int×Int×Bool×(List Int)×Bool×(List Int)×Bool×(List Int)×(List Int)×Unit)) (
   iter (X:=ny) (β:=vZ) (C.natAbs+(Int.natAbs y2+(Int.natAbs (0:Int)+(A.length+(B.natAbs+(C.natAbs+(G.length+(Int.natAbs ((G.length:Int))+(Int.natAbs (0:Int)+(E.length+(G.length+(I.length+(J.length+2))))))))))))) (C,y2,0,A,B,C,G,(G.length:Int),0,D,E,F,G,H,I,J,()) (qu)) fun v3=>
  chk (decide (0≤(w64 (v3.1+((v3.2.2.2.2.2.2.2.2.1.length:Int)))))&&decide ((w64 (v3.1+((v3.2.2.2.2.2.2.2.2.1.length:Int))))<(v3.2.2.2.2.2.2.2.2.2.2.2.1.length:Int))) <|
  Option.bind (v3.2.2.2.2.2.2.2.2.2.2.2.1[(w64 (v3.1+((v3.2.2.2.2.2.2.2.2.1.length:Int)))).toNat]?) fun _=>
  again (v3.2.2.1,v3.2.2.2.1,w64 (v3.2.2.2.2.1+1),v3.2.2.2.2.2.1,v3.2.2.2.2.2.2.1,v3.2.2.2.2.2.2.2.1,v3.2.2.2.2.2.2.2.2.1,v3.2.2.2.2.2.2.2.2.2.1,v3.2.2.2.2.2.2.2.2.2.2.1,List.set v3.2.2.2.2.2.2.2.2.2.2.2.1 (w64 (v3.1+((v3.2.2.2.2.2.2.2.2.1.length:Int)))).toNat (nv v3.2.1),())
 else
  some (Sum.inr (D,E,F,G,H,I,J,()))
def eo (a0:aa) (a1:aa):Option (aa×Unit):=
 chk (decide (0≤(w64 (((a0.2.length:Int))+((a1.2.length:Int)))))&&decide ((w64 (((a0.2.length:Int))+((a1.2.length:Int))))≤(w64 (((a0.2.length:Int))+((a1.2.length:Int)))))&&decide ((4:Int)*(w64 (((a0.2.length:Int))+((a1.2.length:Int))))≤281474976710656)&&decide ((w64 (((a0.2.length:Int))+((a1.2.length:Int))))≤9223372036854775807)) <|
 aS (β:=(aa×Unit)) (γ:=(Bool×(List Int)×Bool×(List Int)×Bool×(List Int)×(List Int)×Unit)) (
  iter (X:=nA) (β:=vO) (a0.2.length+(Int.natAbs ((a0.2.length:Int))+(Int.natAbs (0:Int)+(a0.2.length+(a1.2.length+(List.length ([]:List Int)+(List.length ((List.replicate (Int.toNat (w64 (((a0.2.length:Int))+((a1.2.length:Int))))) 0):List Int)+2))))))) (a0.2,(a0.2.length:Int),0,a0.1,a0.2,a1.1,a1.2,false,[],List.replicate (Int.toNat (w64 (((a0.2.length:Int))+((a1.2.length:Int))))) 0,()) (qK)) fun v10=>
 Option.bind (jC (!(v10.1==v10.2.2.1)) v10.2.2.2.2.2.2.1) fun r11=>
 some (r11.1,())
abbrev rO:Type:=Int×Int×Bool×(List Int)×Bool×(List Int)×Unit
abbrev BB:Type:=((aa×Unit) ⊕ (Bool×(List Int)×Bool×(List Int)×Unit))
def wD (x1:rO) (again:rO→Option BB):Option BB:=
 match x1 with
 | (A,B,C,D,E,F,_)=>
 bif decide (B<A) then
  Option.bind (bD 10) fun r2=>
  Option.bind (eo (E,F) r2.1) fun r3=>
  again (A,w64 (B+1),C,D,r3.1.1,r3.1.2,())
 else
  some (Sum.inr (C,D,E,F,()))
def oR (a0:Int):Option (aa×Unit):=
 Option.bind (bD 1) fun r1=>
 aS (β:=(aa×Unit)) (γ:=(Bool×(List Int)×Bool×(List Int)×Unit)) (
  iter (X:=rO) (β:=BB) (Int.natAbs a0+(Int.natAbs (0:Int)+(List.length ([]:List Int)+(r1.1.2.length+2)))) (a0,0,false,[],r1.1.1,r1.1.2,()) (wD)) fun v5=>
 some ((v5.2.2.1,v5.2.2.2.1),())
abbrev Bm:Type:=(List Int)×(List Int)×Int×(List Int)×Int×Int×Unit
abbrev Bz:Type:=(((List Int)×Unit) ⊕ ((List Int)×Int×Unit))
def Oy (x1:Bm) (again:Bm→Option Bz):Option Bz:=
 match x1 with
 | (A,B,C,D,E,F,_)=>
 bif decide (F<E) then
  Option.bind (idx D F) fun y2=>
  aS (β:=(((List Int)×Unit) ⊕ ((List Int)×Int×Unit))) (γ:=((List Int)×(List Int)×Int×(List Int)×Int×Int×Unit)) (
   bif decide (F<((A.length:Int))) then
    Option.bind (idx A F) fun y3=>
    let n4:Int:=bP ((bP (C+(bP y2)))+(bP y3))
    some (Sum.inr (A,B,n4,D,E,F,()))
   else
    some (Sum.inr (A,B,bP (C+(bP y2)),D,E,F,()))) fun v5=>
  chk (decide (((v5.2.1.length)+1)*4≤140737488355328)&&decide ((v5.2.1.length)+1≤maxLen)) <|
  again (v5.1,v5.2.1++[(nv v5.2.2.1)],Int.fdiv v5.2.2.1 (2 ^ 32),v5.2.2.2.1,v5.2.2.2.2.1,w64 (v5.2.2.2.2.2.1+1),())
 else
  some (Sum.inr (B,C,()))
def Gf (a0:List Int) (a1:List Int):Option ((List Int)×Unit):=
 aS (β:=((List Int)×Unit)) (γ:=((List Int)×(List Int)×Unit)) (
  bif decide (((List.length a0:Int))<((List.length a1:Int))) then
   some (Sum.inr (a1,a0,()))
  else
   some (Sum.inr (a0,a1,()))) fun v1=>
 chk (decide (0≤(0:Int))&&decide ((0:Int)≤(w64 (((v1.1.length:Int))+1)))&&decide ((4:Int)*(w64 (((v1.1.length:Int))+1))≤281474976710656)&&decide ((w64 (((v1.1.length:Int))+1))≤9223372036854775807)) <|
 aS (β:=((List Int)×Unit)) (γ:=((List Int)×Int×Unit)) (
  iter (X:=Bm) (β:=Bz) (v1.2.1.length+(List.length ([]:List Int)+(Int.natAbs (0:Int)+(v1.1.length+(Int.natAbs ((v1.1.length:Int))+(Int.natAbs (0:Int)+2)))))) (v1.2.1,[],0,v1.1,(v1.1.length:Int),0,()) (Oy)) fun v7=>
 chk (decide (((v7.1.length)+1)*4≤140737488355328)&&decide ((v7.1.length)+1≤maxLen)) <|
 some (v7.1++[(nv v7.2.1)],())
def aV (a0:aa) (a1:aa):Option (aa×Unit):=
 bif a0.1==a1.1 then
  Option.bind (Gf a0.2 a1.2) fun r1=>
  Option.bind (jC a0.1 r1.1) fun r2=>
  some (r2.1,())
 else
  Option.bind (um a0.2 a1.2) fun r3=>
  bif decide (r3.1≥0) then
   Option.bind (wh a0.2 a1.2) fun r4=>
   Option.bind (jC a0.1 r4.1) fun r5=>
   some (r5.1,())
  else
   Option.bind (wh a1.2 a0.2) fun r6=>
   Option.bind (jC a1.1 r6.1) fun r7=>
   some (r7.1,())
def wm (a0:aa) (a1:aa):Option (aa×Unit):=
 Option.bind (aD a1) fun r1=>
 Option.bind (aV a0 r1.1) fun r2=>
 some (r2.1,())
def oz (a0:aa) (a1:aa):Option (Int×Unit):=
 Option.bind (wm a0 a1) fun r1=>
 Option.bind (aC r1.1) fun r2=>
 some (r2.1,())
def gV (a0:aa):Option (Bool×Unit):=
 bif decide (((a0.2.length:Int))>0) then
  Option.bind (idx a0.2 0) fun y1=>
  some ((nv (((BitVec.ofInt (IntKind.bits .u32) y1 &&& BitVec.ofInt (IntKind.bits .u32) 1).toNat:Int)))==1,())
 else
  some (false,())
def sd (a0:aa) (a1:aa) (a2:Int):Option (aa×Unit):=
 Option.bind (o5 a0 a1) fun r1=>
 Option.bind (aC r1.2.1) fun r2=>
 bif r2.1 != 0 then
  Option.bind (aV r1.2.1 r1.2.1) fun r3=>
  Option.bind (oz r3.1 a1) fun r4=>
  Option.bind (aC a0) fun r5=>
  bif a2==4 then
   Option.bind (bD 1) fun r6=>
   Option.bind (aV r1.1 r6.1) fun r7=>
   Option.bind (aC a0) fun r8=>
   bif decide (r8.1<0) then
    Option.bind (aD r7.1) fun r9=>
    some (r9.1,())
   else
    some (r7.1,())
  else
   bif a2==5 then
    bif decide (r5.1<0) then
     Option.bind (bD 1) fun r10=>
     Option.bind (aV r1.1 r10.1) fun r11=>
     Option.bind (aC a0) fun r12=>
     bif decide (r12.1<0) then
      Option.bind (aD r11.1) fun r13=>
      some (r13.1,())
     else
      some (r11.1,())
    else
     bif a2==6 then
      bif !(decide (r5.1<0)) then
       Option.bind (bD 1) fun r14=>
       Option.bind (aV r1.1 r14.1) fun r15=>
       Option.bind (aC a0) fun r16=>
       bif decide (r16.1<0) then
        Option.bind (aD r15.1) fun r17=>
        some (r17.1,())
       else
        some (r15.1,())
      else
       bif a2==1 then
        bif decide (r4.1≥0) then
         Option.bind (bD 1) fun r18=>
         Option.bind (aV r1.1 r18.1) fun r19=>
         Option.bind (aC a0) fun r20=>
         bif decide (r20.1<0) then
          Option.bind (aD r19.1) fun r21=>
          some (r21.1,())
         else
          some (r19.1,())
        else
         bif a2==2 then
          bif decide (r4.1>0) then
           Option.bind (bD 1) fun r22=>
           Option.bind (aV r1.1 r22.1) fun r23=>
           Option.bind (aC a0) fun r24=>
           bif decide (r24.1<0) then
            Option.bind (aD r23.1) fun r25=>
            some (r25.1,())
           else
            some (r23.1,())
          else
           bif r4.1==0 then
            Option.bind (gV r1.1) fun r26=>
            bif r26.1 then
             Option.bind (bD 1) fun r27=>
             Option.bind (aV r1.1 r27.1) fun r28=>
             Option.bind (aC a0) fun r29=>
             bif decide (r29.1<0) then
              Option.bind (aD r28.1) fun r30=>
              some (r30.1,())
             else
              some (r28.1,())
            else
             Option.bind (aC a0) fun r31=>
             bif decide (r31.1<0) then
              Option.bind (aD r1.1) fun r32=>
              some (r32.1,())
             else
              some (r1.1,())
           else
            Option.bind (aC a0) fun r33=>
            bif decide (r33.1<0) then
             Option.bind (aD r1.1) fun r34=>
             some (r34.1,())
            else
             some (r1.1,())
         else
          Option.bind (aC a0) fun r35=>
          bif decide (r35.1<0) then
           Option.bind (aD r1.1) fun r36=>
           some (r36.1,())
          else
           some (r1.1,())
       else
        bif a2==2 then
         bif decide (r4.1>0) then
          Option.bind (bD 1) fun r37=>
          Option.bind (aV r1.1 r37.1) fun r38=>
          Option.bind (aC a0) fun r39=>
          bif decide (r39.1<0) then
           Option.bind (aD r38.1) fun r40=>
           some (r40.1,())
          else
           some (r38.1,())
         else
          bif r4.1==0 then
           Option.bind (gV r1.1) fun r41=>
           bif r41.1 then
            Option.bind (bD 1) fun r42=>
            Option.bind (aV r1.1 r42.1) fun r43=>
            Option.bind (aC a0) fun r44=>
            bif decide (r44.1<0) then
             Option.bind (aD r43.1) fun r45=>
             some (r45.1,())
            else
             some (r43.1,())
           else
            Option.bind (aC a0) fun r46=>
            bif decide (r46.1<0) then
             Option.bind (aD r1.1) fun r47=>
             some (r47.1,())
            else
             some (r1.1,())
          else
           Option.bind (aC a0) fun r48=>
           bif decide (r48.1<0) then
            Option.bind (aD r1.1) fun r49=>
            some (r49.1,())
           else
            some (r1.1,())
        else
         Option.bind (aC a0) fun r50=>
         bif decide (r50.1<0) then
          Option.bind (aD r1.1) fun r51=>
          some (r51.1,())
         else
          some (r1.1,())
     else
      bif a2==1 then
       bif decide (r4.1≥0) then
        Option.bind (bD 1) fun r52=>
        Option.bind (aV r1.1 r52.1) fun r53=>
        Option.bind (aC a0) fun r54=>
        bif decide (r54.1<0) then
         Option.bind (aD r53.1) fun r55=>
         some (r55.1,())
        else
         some (r53.1,())
       else
        bif a2==2 then
         bif decide (r4.1>0) then
          Option.bind (bD 1) fun r56=>
          Option.bind (aV r1.1 r56.1) fun r57=>
          Option.bind (aC a0) fun r58=>
          bif decide (r58.1<0) then
           Option.bind (aD r57.1) fun r59=>
           some (r59.1,())
          else
           some (r57.1,())
         else
          bif r4.1==0 then
           Option.bind (gV r1.1) fun r60=>
           bif r60.1 then
            Option.bind (bD 1) fun r61=>
            Option.bind (aV r1.1 r61.1) fun r62=>
            Option.bind (aC a0) fun r63=>
            bif decide (r63.1<0) then
             Option.bind (aD r62.1) fun r64=>
             some (r64.1,())
            else
             some (r62.1,())
           else
            Option.bind (aC a0) fun r65=>
            bif decide (r65.1<0) then
             Option.bind (aD r1.1) fun r66=>
             some (r66.1,())
            else
             some (r1.1,())
          else
           Option.bind (aC a0) fun r67=>
           bif decide (r67.1<0) then
            Option.bind (aD r1.1) fun r68=>
            some (r68.1,())
           else
            some (r1.1,())
        else
         Option.bind (aC a0) fun r69=>
         bif decide (r69.1<0) then
          Option.bind (aD r1.1) fun r70=>
          some (r70.1,())
         else
          some (r1.1,())
      else
       bif a2==2 then
        bif decide (r4.1>0) then
         Option.bind (bD 1) fun r71=>
         Option.bind (aV r1.1 r71.1) fun r72=>
         Option.bind (aC a0) fun r73=>
         bif decide (r73.1<0) then
          Option.bind (aD r72.1) fun r74=>
          some (r74.1,())
         else
          some (r72.1,())
        else
         bif r4.1==0 then
          Option.bind (gV r1.1) fun r75=>
          bif r75.1 then
           Option.bind (bD 1) fun r76=>
           Option.bind (aV r1.1 r76.1) fun r77=>
           Option.bind (aC a0) fun r78=>
           bif decide (r78.1<0) then
            Option.bind (aD r77.1) fun r79=>
            some (r79.1,())
           else
            some (r77.1,())
          else
           Option.bind (aC a0) fun r80=>
           bif decide (r80.1<0) then
            Option.bind (aD r1.1) fun r81=>
            some (r81.1,())
           else
            some (r1.1,())
         else
          Option.bind (aC a0) fun r82=>
          bif decide (r82.1<0) then
           Option.bind (aD r1.1) fun r83=>
           some (r83.1,())
          else
           some (r1.1,())
       else
        Option.bind (aC a0) fun r84=>
        bif decide (r84.1<0) then
         Option.bind (aD r1.1) fun r85=>
         some (r85.1,())
        else
         some (r1.1,())
   else
    bif a2==6 then
     bif !(decide (r5.1<0)) then
      Option.bind (bD 1) fun r86=>
      Option.bind (aV r1.1 r86.1) fun r87=>
      Option.bind (aC a0) fun r88=>
      bif decide (r88.1<0) then
       Option.bind (aD r87.1) fun r89=>
       some (r89.1,())
      else
       some (r87.1,())
     else
      bif a2==1 then
       bif decide (r4.1≥0) then
        Option.bind (bD 1) fun r90=>
        Option.bind (aV r1.1 r90.1) fun r91=>
        Option.bind (aC a0) fun r92=>
        bif decide (r92.1<0) then
         Option.bind (aD r91.1) fun r93=>
         some (r93.1,())
        else
         some (r91.1,())
       else
        bif a2==2 then
         bif decide (r4.1>0) then
          Option.bind (bD 1) fun r94=>
          Option.bind (aV r1.1 r94.1) fun r95=>
          Option.bind (aC a0) fun r96=>
          bif decide (r96.1<0) then
           Option.bind (aD r95.1) fun r97=>
           some (r97.1,())
          else
           some (r95.1,())
         else
          bif r4.1==0 then
           Option.bind (gV r1.1) fun r98=>
           bif r98.1 then
            Option.bind (bD 1) fun r99=>
            Option.bind (aV r1.1 r99.1) fun r100=>
            Option.bind (aC a0) fun r101=>
            bif decide (r101.1<0) then
             Option.bind (aD r100.1) fun r102=>
             some (r102.1,())
            else
             some (r100.1,())
           else
            Option.bind (aC a0) fun r103=>
            bif decide (r103.1<0) then
             Option.bind (aD r1.1) fun r104=>
             some (r104.1,())
            else
             some (r1.1,())
          else
           Option.bind (aC a0) fun r105=>
           bif decide (r105.1<0) then
            Option.bind (aD r1.1) fun r106=>
            some (r106.1,())
           else
            some (r1.1,())
        else
         Option.bind (aC a0) fun r107=>
         bif decide (r107.1<0) then
          Option.bind (aD r1.1) fun r108=>
          some (r108.1,())
         else
          some (r1.1,())
      else
       bif a2==2 then
        bif decide (r4.1>0) then
         Option.bind (bD 1) fun r109=>
         Option.bind (aV r1.1 r109.1) fun r110=>
         Option.bind (aC a0) fun r111=>
         bif decide (r111.1<0) then
          Option.bind (aD r110.1) fun r112=>
          some (r112.1,())
         else
          some (r110.1,())
        else
         bif r4.1==0 then
          Option.bind (gV r1.1) fun r113=>
          bif r113.1 then
           Option.bind (bD 1) fun r114=>
           Option.bind (aV r1.1 r114.1) fun r115=>
           Option.bind (aC a0) fun r116=>
           bif decide (r116.1<0) then
            Option.bind (aD r115.1) fun r117=>
            some (r117.1,())
           else
            some (r115.1,())
          else
           Option.bind (aC a0) fun r118=>
           bif decide (r118.1<0) then
            Option.bind (aD r1.1) fun r119=>
            some (r119.1,())
           else
            some (r1.1,())
         else
          Option.bind (aC a0) fun r120=>
          bif decide (r120.1<0) then
           Option.bind (aD r1.1) fun r121=>
           some (r121.1,())
          else
           some (r1.1,())
       else
        Option.bind (aC a0) fun r122=>
        bif decide (r122.1<0) then
         Option.bind (aD r1.1) fun r123=>
         some (r123.1,())
        else
         some (r1.1,())
    else
     bif a2==1 then
      bif decide (r4.1≥0) then
       Option.bind (bD 1) fun r124=>
       Option.bind (aV r1.1 r124.1) fun r125=>
       Option.bind (aC a0) fun r126=>
       bif decide (r126.1<0) then
        Option.bind (aD r125.1) fun r127=>
        some (r127.1,())
       else
        some (r125.1,())
      else
       bif a2==2 then
        bif decide (r4.1>0) then
         Option.bind (bD 1) fun r128=>
         Option.bind (aV r1.1 r128.1) fun r129=>
         Option.bind (aC a0) fun r130=>
         bif decide (r130.1<0) then
          Option.bind (aD r129.1) fun r131=>
          some (r131.1,())
         else
          some (r129.1,())
        else
         bif r4.1==0 then
          Option.bind (gV r1.1) fun r132=>
          bif r132.1 then
           Option.bind (bD 1) fun r133=>
           Option.bind (aV r1.1 r133.1) fun r134=>
           Option.bind (aC a0) fun r135=>
           bif decide (r135.1<0) then
            Option.bind (aD r134.1) fun r136=>
            some (r136.1,())
           else
            some (r134.1,())
          else
           Option.bind (aC a0) fun r137=>
           bif decide (r137.1<0) then
            Option.bind (aD r1.1) fun r138=>
            some (r138.1,())
           else
            some (r1.1,())
         else
          Option.bind (aC a0) fun r139=>
          bif decide (r139.1<0) then
           Option.bind (aD r1.1) fun r140=>
           some (r140.1,())
          else
           some (r1.1,())
       else
        Option.bind (aC a0) fun r141=>
        bif decide (r141.1<0) then
         Option.bind (aD r1.1) fun r142=>
         some (r142.1,())
        else
         some (r1.1,())
     else
      bif a2==2 then
       bif decide (r4.1>0) then
        Option.bind (bD 1) fun r143=>
        Option.bind (aV r1.1 r143.1) fun r144=>
        Option.bind (aC a0) fun r145=>
        bif decide (r145.1<0) then
         Option.bind (aD r144.1) fun r146=>
         some (r146.1,())
        else
         some (r144.1,())
       else
        bif r4.1==0 then
         Option.bind (gV r1.1) fun r147=>
         bif r147.1 then
          Option.bind (bD 1) fun r148=>
          Option.bind (aV r1.1 r148.1) fun r149=>
          Option.bind (aC a0) fun r150=>
          bif decide (r150.1<0) then
           Option.bind (aD r149.1) fun r151=>
           some (r151.1,())
          else
           some (r149.1,())
         else
          Option.bind (aC a0) fun r152=>
          bif decide (r152.1<0) then
           Option.bind (aD r1.1) fun r153=>
           some (r153.1,())
          else
           some (r1.1,())
        else
         Option.bind (aC a0) fun r154=>
         bif decide (r154.1<0) then
          Option.bind (aD r1.1) fun r155=>
          some (r155.1,())
         else
          some (r1.1,())
      else
       Option.bind (aC a0) fun r156=>
       bif decide (r156.1<0) then
        Option.bind (aD r1.1) fun r157=>
        some (r157.1,())
       else
        some (r1.1,())
 else
  Option.bind (aC a0) fun r158=>
  bif decide (r158.1<0) then
   Option.bind (aD r1.1) fun r159=>
   some (r159.1,())
  else
   some (r1.1,())
def jU (a0:aa):Option (Bool×Unit):=
 Option.bind (nX a0 1000000000000000) fun r1=>
 some (r1.2.1,())
def DJ (a0:aj) (a1:ax):Option (aa×Bool×Unit):=
 Option.bind (bD a1.2.2.2.1.1) fun r1=>
 Option.bind (bD a1.2.2.2.2.2.1.1) fun r2=>
 Option.bind (eo r1.1 r2.1) fun r3=>
 Option.bind (oR a0.2.2.2.1) fun r4=>
 Option.bind (eo r3.1 r4.1) fun r5=>
 Option.bind (oR (w64 (a1.2.2.2.1.2+a1.2.2.2.2.2.1.2))) fun r6=>
 Option.bind (bD a1.2.2.2.2.2.2.1) fun r7=>
 Option.bind (eo r6.1 r7.1) fun r8=>
 Option.bind (sd r5.1 r8.1 a0.2.2.2.2.1) fun r9=>
 Option.bind (jU r9.1) fun r10=>
 some (r9.1,r10.1,())
def qa (a0:ak) (a1:Int):Option (aa×Unit):=
 Option.bind (bD a0.1) fun r1=>
 Option.bind (oR (w64 (a1 - a0.2))) fun r2=>
 Option.bind (eo r1.1 r2.1) fun r3=>
 some (r3.1,())
def qN (a0:aj) (a1:aa) (a2:ak):Option (aa×Unit):=
 Option.bind (bD a2.1) fun r1=>
 Option.bind (eo a1 r1.1) fun r2=>
 Option.bind (bD 100) fun r3=>
 Option.bind (oR a2.2) fun r4=>
 Option.bind (eo r3.1 r4.1) fun r5=>
 Option.bind (sd r2.1 r5.1 a0.2.2.2.2.1) fun r6=>
 some (r6.1,())
abbrev xO:Type:=Bool×(List aG)×Int×Int×(List UInt8)×(List UInt8)×Int×Int×Int×Bool×(List aJ)×(List ax)×(List aG)×Bool×(List Int)×Bool×(List Int)×Bool×(List Int)×Unit
abbrev F6:Type:=((aa×Bool×Unit) ⊕ (Bool×Bool×(List Int)×Bool×(List Int)×Unit))
def BM (x1:xO) (again:xO→Option F6):Option F6:=
 match x1 with
 | (A,B,C,D,E,F,G,H,I,J,K,L,M,N,O,P,Q,R,S,_)=>
 bif decide (D<C) then
  Option.bind (idx B D) fun y2=>
  Option.bind (qa y2.2.1 (if y2.2.1.2>H then y2.2.1.2 else H)) fun r3=>
  aS (β:=((aa×Bool×Unit) ⊕ (Bool×Bool×(List Int)×Bool×(List Int)×Unit))) (γ:=(Bool×(List aG)×Int×Int×(List UInt8)×(List UInt8)×Int×Int×Int×Bool×(List aJ)×(List ax)×(List aG)×Bool×(List Int)×Bool×(List Int)×Bool×(List Int)×Bool×(List Int)×Unit)) (
   bif y2.1 then
    Option.bind (qN (E,F,G,H,I,J,K,L,M) (P,Q) y2.2.1) fun r4=>
    some (Sum.inr (A,B,C,D,E,F,G,H,I,J,K,L,M,N,O,P,Q,R,S,r4.1.1,r4.1.2,()))
   else
    some (Sum.inr (A,B,C,D,E,F,G,H,I,J,K,L,M,N,O,P,Q,R,S,r3.1.1,r3.1.2,()))) fun v5=>
  Option.bind (aV (v5.2.2.2.2.2.2.2.2.2.2.2.2.2.2.2.2.2.1,v5.2.2.2.2.2.2.2.2.2.2.2.2.2.2.2.2.2.2.1) (v5.2.2.2.2.2.2.2.2.2.2.2.2.2.2.2.2.2.2.2.1,v5.2.2.2.2.2.2.2.2.2.2.2.2.2.2.2.2.2.2.2.2.1)) fun r6=>
  bif v5.1 then
   Option.bind (jU (v5.2.2.2.2.2.2.2.2.2.2.2.2.2.2.2.2.2.2.2.1,v5.2.2.2.2.2.2.2.2.2.2.2.2.2.2.2.2.2.2.2.2.1)) fun r7=>
   bif r7.1 then
    Option.bind (jU r6.1) fun r8=>
    again (r8.1,v5.2.1,v5.2.2.1,w64 (v5.2.2.2.1+1),v5.2.2.2.2.1,v5.2.2.2.2.2.1,v5.2.2.2.2.2.2.1,v5.2.2.2.2.2.2.2.1,v5.2.2.2.2.2.2.2.2.1,v5.2.2.2.2.2.2.2.2.2.1,v5.2.2.2.2.2.2.2.2.2.2.1,v5.2.2.2.2.2.2.2.2.2.2.2.1,v5.2.2.2.2.2.2.2.2.2.2.2.2.1,v5.2.2.2.2.2.2.2.2.2.2.2.2.2.1,v5.2.2.2.2.2.2.2.2.2.2.2.2.2.2.1,v5.2.2.2.2.2.2.2.2.2.2.2.2.2.2.2.1,v5.2.2.2.2.2.2.2.2.2.2.2.2.2.2.2.2.1,r6.1.1,r6.1.2,())
   else
    again (false,v5.2.1,v5.2.2.1,w64 (v5.2.2.2.1+1),v5.2.2.2.2.1,v5.2.2.2.2.2.1,v5.2.2.2.2.2.2.1,v5.2.2.2.2.2.2.2.1,v5.2.2.2.2.2.2.2.2.1,v5.2.2.2.2.2.2.2.2.2.1,v5.2.2.2.2.2.2.2.2.2.2.1,v5.2.2.2.2.2.2.2.2.2.2.2.1,v5.2.2.2.2.2.2.2.2.2.2.2.2.1,v5.2.2.2.2.2.2.2.2.2.2.2.2.2.1,v5.2.2.2.2.2.2.2.2.2.2.2.2.2.2.1,v5.2.2.2.2.2.2.2.2.2.2.2.2.2.2.2.1,v5.2.2.2.2.2.2.2.2.2.2.2.2.2.2.2.2.1,r6.1.1,r6.1.2,())
  else
   again (false,v5.2.1,v5.2.2.1,w64 (v5.2.2.2.1+1),v5.2.2.2.2.1,v5.2.2.2.2.2.1,v5.2.2.2.2.2.2.1,v5.2.2.2.2.2.2.2.1,v5.2.2.2.2.2.2.2.2.1,v5.2.2.2.2.2.2.2.2.2.1,v5.2.2.2.2.2.2.2.2.2.2.1,v5.2.2.2.2.2.2.2.2.2.2.2.1,v5.2.2.2.2.2.2.2.2.2.2.2.2.1,v5.2.2.2.2.2.2.2.2.2.2.2.2.2.1,v5.2.2.2.2.2.2.2.2.2.2.2.2.2.2.1,v5.2.2.2.2.2.2.2.2.2.2.2.2.2.2.2.1,v5.2.2.2.2.2.2.2.2.2.2.2.2.2.2.2.2.1,r6.1.1,r6.1.2,())
 else
  some (Sum.inr (A,N,O,R,S,()))
def HD (a0:aj) (a1:ax):Option (aa×Bool×Unit):=
 Option.bind (DJ a0 a1) fun r1=>
 aS (β:=(aa×Bool×Unit)) (γ:=(Bool×Bool×(List Int)×Bool×(List Int)×Unit)) (
  iter (X:=xO) (β:=F6) (a1.2.2.2.2.2.2.2.1.length+(Int.natAbs ((a1.2.2.2.2.2.2.2.1.length:Int))+(Int.natAbs (0:Int)+(a0.1.length+(a0.2.1.length+(a0.2.2.1.natAbs+(a0.2.2.2.1.natAbs+(a0.2.2.2.2.1.natAbs+(a0.2.2.2.2.2.2.1.length+(a0.2.2.2.2.2.2.2.1.length+(a0.2.2.2.2.2.2.2.2.length+(List.length ([]:List Int)+(r1.1.2.length+(r1.1.2.length+2)))))))))))))) (r1.2.1,a1.2.2.2.2.2.2.2.1,(a1.2.2.2.2.2.2.2.1.length:Int),0,a0.1,a0.2.1,a0.2.2.1,a0.2.2.2.1,a0.2.2.2.2.1,a0.2.2.2.2.2.1,a0.2.2.2.2.2.2.1,a0.2.2.2.2.2.2.2.1,a0.2.2.2.2.2.2.2.2,false,[],r1.1.1,r1.1.2,r1.1.1,r1.1.2,()) (BM)) fun v10=>
 some ((v10.2.2.2.1,v10.2.2.2.2.1),v10.1,())
end Go.Md
namespace Go.Md
open Go.Dn
def tE (a0:aa):Option (Bool×Unit):=
 Option.bind (jU a0) fun r1=>
 some (!r1.1,())
def vp (a0:aa):Option (Bool×Unit):=
 Option.bind (jU a0) fun r1=>
 some (!r1.1,())
def yR (a0:aa):Option (Bool×Unit):=
 Option.bind (jU a0) fun r1=>
 some (!r1.1,())
def uz (a0:aa):Option (Bool×Unit):=
 Option.bind (jU a0) fun r1=>
 some (!r1.1,())
abbrev gC:Type:=(List aa)×Unit×Int×Int×Unit
abbrev mh:Type:=((Int×Unit) ⊕ Unit)
def gz (x1:gC) (again:gC→Option mh):Option mh:=
 match x1 with
 | (A,B,C,D,_)=>
 bif decide (D<C) then
  Option.bind (idx A D) fun y2=>
  Option.bind (tE y2) fun r3=>
  bif r3.1 then
   some (Sum.inl (D,()))
  else
   again (A,B,C,w64 (D+1),())
 else
  some (Sum.inr ())
def nV (a0:List aa) (a1:Unit):Option (Int×Unit):=
 aS (β:=(Int×Unit)) (γ:=Unit) (
  iter (X:=gC) (β:=mh) (List.length a0+(Int.natAbs ((List.length a0:Int))+(Int.natAbs (0:Int)+2))) (a0,a1,(List.length a0:Int),0,()) (gz)) fun _=>
 some ((-1),())
abbrev fy:Type:=(List aa)×Unit×Int×Int×Unit
abbrev lD:Type:=((Int×Unit) ⊕ Unit)
def ff (x1:fy) (again:fy→Option lD):Option lD:=
 match x1 with
 | (A,B,C,D,_)=>
 bif decide (D<C) then
  Option.bind (idx A D) fun y2=>
  Option.bind (vp y2) fun r3=>
  bif r3.1 then
   some (Sum.inl (D,()))
  else
   again (A,B,C,w64 (D+1),())
 else
  some (Sum.inr ())
def mJ (a0:List aa) (a1:Unit):Option (Int×Unit):=
 aS (β:=(Int×Unit)) (γ:=Unit) (
  iter (X:=fy) (β:=lD) (List.length a0+(Int.natAbs ((List.length a0:Int))+(Int.natAbs (0:Int)+2))) (a0,a1,(List.length a0:Int),0,()) (ff)) fun _=>
 some ((-1),())
abbrev fh:Type:=(List aa)×Unit×Int×Int×Unit
abbrev lC:Type:=((Int×Unit) ⊕ Unit)
def fk (x1:fh) (again:fh→Option lC):Option lC:=
 match x1 with
 | (A,B,C,D,_)=>
 bif decide (D<C) then
  Option.bind (idx A D) fun y2=>
  Option.bind (yR y2) fun r3=>
  bif r3.1 then
   some (Sum.inl (D,()))
  else
   again (A,B,C,w64 (D+1),())
 else
  some (Sum.inr ())
def mQ (a0:List aa) (a1:Unit):Option (Int×Unit):=
 aS (β:=(Int×Unit)) (γ:=Unit) (
  iter (X:=fh) (β:=lC) (List.length a0+(Int.natAbs ((List.length a0:Int))+(Int.natAbs (0:Int)+2))) (a0,a1,(List.length a0:Int),0,()) (fk)) fun _=>
 some ((-1),())
abbrev fj:Type:=(List aa)×Unit×Int×Int×Unit
abbrev lE:Type:=((Int×Unit) ⊕ Unit)
def fo (x1:fj) (again:fj→Option lE):Option lE:=
 match x1 with
 | (A,B,C,D,_)=>
 bif decide (D<C) then
  Option.bind (idx A D) fun y2=>
  Option.bind (uz y2) fun r3=>
  bif r3.1 then
   some (Sum.inl (D,()))
  else
   again (A,B,C,w64 (D+1),())
 else
  some (Sum.inr ())
def mI (a0:List aa) (a1:Unit):Option (Int×Unit):=
 aS (β:=(Int×Unit)) (γ:=Unit) (
  iter (X:=fj) (β:=lE) (List.length a0+(Int.natAbs ((List.length a0:Int))+(Int.natAbs (0:Int)+2))) (a0,a1,(List.length a0:Int),0,()) (fo)) fun _=>
 some ((-1),())
def jr (a0:List aa) (a1:Unit):Option (Bool×Unit):=
 Option.bind (nV a0 a1) fun r1=>
 some (decide (r1.1≥0),())
def bO (a0:List aa) (a1:Unit):Option (Bool×Unit):=
 Option.bind (mJ a0 a1) fun r1=>
 some (decide (r1.1≥0),())
def iN (a0:List aa) (a1:Unit):Option (Bool×Unit):=
 Option.bind (mQ a0 a1) fun r1=>
 some (decide (r1.1≥0),())
def iM (a0:List aa) (a1:Unit):Option (Bool×Unit):=
 Option.bind (mI a0 a1) fun r1=>
 some (decide (r1.1≥0),())
noncomputable def m8 (a0:List aa):Option ((List aa)×Unit):=
 bif List.isEmpty a0 then
  both (
   some ([],())) (
   chk (decide ((0+(List.length a0))*32≤140737488355328)&&decide (0+(List.length a0)≤maxLen)) <|
   some (a0,()))
 else
  chk (decide ((0+(List.length a0))*32≤140737488355328)&&decide (0+(List.length a0)≤maxLen)) <|
  some (a0,())
abbrev jl:Type:=(List ax)×Int×Int×(List UInt8)×(List UInt8)×Int×Int×Int×Bool×(List aJ)×(List ax)×(List aG)×(List aa)×(List aF)×(List aa)×(List Bool)×(List aa)×(List aa)×(List aa)×Unit
abbrev sj:Type:=((Int×(aj×(List aa)×(List aa)×(List aa)×(List aF)×(List aa)×(List Bool)×(List aa)×Unit)×Unit) ⊕ ((List UInt8)×(List UInt8)×Int×Int×Int×Bool×(List aJ)×(List ax)×(List aG)×(List aa)×(List aF)×(List aa)×(List Bool)×(List aa)×(List aa)×(List aa)×Unit))
noncomputable def lz (x1:jl) (again:jl→Option sj):Option sj:=
 match x1 with
 | (A,B,C,D,E,F,G,H,I,J,K,L,M,N,O,P,Q,R,S,_)=>
 bif decide (C<B) then
  Option.bind (idx A C) fun y2=>
  Option.bind (HD (D,E,F,G,H,I,J,K,L) y2) fun r3=>
  bif !r3.2.1 then
   some (Sum.inl (1,((D,E,F,G,H,I,J,K,L),M,O,Q,N,R,P,S,()),()))
  else
   Option.bind (qV J y2.2.2.2.2.2.2.2.2) fun r4=>
   chk (decide (((M.length)+1)*32≤140737488355328)&&decide ((M.length)+1≤maxLen)) <|
   chk (decide (0≤r4.1)&&decide (r4.1<(O.length:Int))) <|
   Option.bind (O[r4.1.toNat]?) fun y5=>
   Option.bind (aV y5 r3.1) fun r6=>
   chk (decide (0≤r4.1)&&decide (r4.1<(O.length:Int))) <|
   Option.bind (O[r4.1.toNat]?) fun _=>
   chk (decide (((N.length)+1)*40≤140737488355328)&&decide ((N.length)+1≤maxLen)) <|
   chk (decide (0≤r4.1)&&decide (r4.1<(P.length:Int))) <|
   Option.bind (P[r4.1.toNat]?) fun _=>
   again (A,B,w64 (C+1),D,E,F,G,H,I,J,K,L,M++[r3.1],N++[(r4.1,r3.1)],List.set O r4.1.toNat r6.1,List.set P r4.1.toNat true,Q,R,S,())
 else
  some (Sum.inr (D,E,F,G,H,I,J,K,L,M,N,O,P,Q,R,S,()))
noncomputable def ng (a0:aj×(List aa)×(List aa)×(List aa)×(List aF)×(List aa)×(List Bool)×(List aa)×Unit):Option (Int×(aj×(List aa)×(List aa)×(List aa)×(List aF)×(List aa)×(List Bool)×(List aa)×Unit)×Unit):=
 chk (decide (0≤((a0.1.2.2.2.2.2.2.1.length:Int)))&&decide (((a0.1.2.2.2.2.2.2.1.length:Int))≤((a0.1.2.2.2.2.2.2.1.length:Int)))&&decide ((32:Int)*((a0.1.2.2.2.2.2.2.1.length:Int))≤281474976710656)&&decide (((a0.1.2.2.2.2.2.2.1.length:Int))≤9223372036854775807)) <|
 chk (decide (0≤((a0.1.2.2.2.2.2.2.1.length:Int)))&&decide (((a0.1.2.2.2.2.2.2.1.length:Int))≤((a0.1.2.2.2.2.2.2.1.length:Int)))&&decide ((1:Int)*((a0.1.2.2.2.2.2.2.1.length:Int))≤281474976710656)&&decide (((a0.1.2.2.2.2.2.2.1.length:Int))≤9223372036854775807)) <|
 aS (β:=(Int×(aj×(List aa)×(List aa)×(List aa)×(List aF)×(List aa)×(List Bool)×(List aa)×Unit)×Unit)) (γ:=((List UInt8)×(List UInt8)×Int×Int×Int×Bool×(List aJ)×(List ax)×(List aG)×(List aa)×(List aF)×(List aa)×(List Bool)×(List aa)×(List aa)×(List aa)×Unit)) (
  iter (X:=jl) (β:=sj) (a0.1.2.2.2.2.2.2.2.1.length+(Int.natAbs ((a0.1.2.2.2.2.2.2.2.1.length:Int))+(Int.natAbs (0:Int)+(a0.1.1.length+(a0.1.2.1.length+(a0.1.2.2.1.natAbs+(a0.1.2.2.2.1.natAbs+(a0.1.2.2.2.2.1.natAbs+(a0.1.2.2.2.2.2.2.1.length+(a0.1.2.2.2.2.2.2.2.1.length+(a0.1.2.2.2.2.2.2.2.2.length+(a0.2.1.length+(a0.2.2.2.2.1.length+(List.length ((List.replicate (Int.toNat ((a0.1.2.2.2.2.2.2.1.length:Int))) (false,[]):List (aa)):List aa)+(List.length ((List.replicate (Int.toNat ((a0.1.2.2.2.2.2.2.1.length:Int))) false:List (Bool)):List Bool)+(a0.2.2.2.1.length+(a0.2.2.2.2.2.1.length+(a0.2.2.2.2.2.2.2.1.length+2)))))))))))))))))) (a0.1.2.2.2.2.2.2.2.1,(a0.1.2.2.2.2.2.2.2.1.length:Int),0,a0.1.1,a0.1.2.1,a0.1.2.2.1,a0.1.2.2.2.1,a0.1.2.2.2.2.1,a0.1.2.2.2.2.2.1,a0.1.2.2.2.2.2.2.1,a0.1.2.2.2.2.2.2.2.1,a0.1.2.2.2.2.2.2.2.2,a0.2.1,a0.2.2.2.2.1,(List.replicate (Int.toNat ((a0.1.2.2.2.2.2.2.1.length:Int))) (false,[]):List (aa)),(List.replicate (Int.toNat ((a0.1.2.2.2.2.2.2.1.length:Int))) false:List (Bool)),a0.2.2.2.1,a0.2.2.2.2.2.1,a0.2.2.2.2.2.2.2.1,()) (lz)) fun v9=>
 Option.bind (jr v9.2.2.2.2.2.2.2.2.2.2.2.1 ()) fun r10=>
 bif r10.1 then
  some (1,((v9.1,v9.2.1,v9.2.2.1,v9.2.2.2.1,v9.2.2.2.2.1,v9.2.2.2.2.2.1,v9.2.2.2.2.2.2.1,v9.2.2.2.2.2.2.2.1,v9.2.2.2.2.2.2.2.2.1),v9.2.2.2.2.2.2.2.2.2.1,v9.2.2.2.2.2.2.2.2.2.2.2.1,v9.2.2.2.2.2.2.2.2.2.2.2.2.2.1,v9.2.2.2.2.2.2.2.2.2.2.1,v9.2.2.2.2.2.2.2.2.2.2.2.2.2.2.1,v9.2.2.2.2.2.2.2.2.2.2.2.2.1,v9.2.2.2.2.2.2.2.2.2.2.2.2.2.2.2.1,()),())
 else
  Option.bind (m8 v9.2.2.2.2.2.2.2.2.2.2.2.1) fun r11=>
  some (0,((v9.1,v9.2.1,v9.2.2.1,v9.2.2.2.1,v9.2.2.2.2.1,v9.2.2.2.2.2.1,v9.2.2.2.2.2.2.1,v9.2.2.2.2.2.2.2.1,v9.2.2.2.2.2.2.2.2.1),v9.2.2.2.2.2.2.2.2.2.1,v9.2.2.2.2.2.2.2.2.2.2.2.1,r11.1,v9.2.2.2.2.2.2.2.2.2.2.1,v9.2.2.2.2.2.2.2.2.2.2.2.2.2.2.1,v9.2.2.2.2.2.2.2.2.2.2.2.2.1,v9.2.2.2.2.2.2.2.2.2.2.2.2.2.2.2.1,()),())
def gw (a0:aj×(List aa)×(List aa)×(List aa)×(List aF)×(List aa)×(List Bool)×(List aa)×Unit) (a1:Int) (a2:aa):Option ((aj×(List aa)×(List aa)×(List aa)×(List aF)×(List aa)×(List Bool)×(List aa)×Unit)×Unit):=
 chk (decide (0≤a1)&&decide (a1<(a0.2.2.2.1.length:Int))) <|
 Option.bind (a0.2.2.2.1[a1.toNat]?) fun y1=>
 Option.bind (aV y1 a2) fun r2=>
 chk (decide (0≤a1)&&decide (a1<(a0.2.2.2.1.length:Int))) <|
 Option.bind (a0.2.2.2.1[a1.toNat]?) fun _=>
 chk (decide (((a0.2.2.2.2.1.length)+1)*40≤140737488355328)&&decide ((a0.2.2.2.2.1.length)+1≤maxLen)) <|
 some ((a0.1,a0.2.1,a0.2.2.1,List.set a0.2.2.2.1 a1.toNat r2.1,a0.2.2.2.2.1++[(a1,a2)],a0.2.2.2.2.2.1,a0.2.2.2.2.2.2.1,a0.2.2.2.2.2.2.2.1,()),())
def yf (a0:aa):Option (aa×Unit):=
 Option.bind (jC false a0.2) fun r1=>
 some (r1.1,())
def uD (a0:Int):Option (Bool×Unit):=
 some (decide (a0>1000000000),())
abbrev jF:Type:=(List Int)×Unit×Int×Int×Unit
abbrev p4:Type:=((Int×Unit) ⊕ Unit)
def jH (x1:jF) (again:jF→Option p4):Option p4:=
 match x1 with
 | (A,B,C,D,_)=>
 bif decide (D<C) then
  Option.bind (idx A D) fun y2=>
  Option.bind (uD y2) fun r3=>
  bif r3.1 then
   some (Sum.inl (D,()))
  else
   again (A,B,C,w64 (D+1),())
 else
  some (Sum.inr ())
def sW (a0:List Int) (a1:Unit):Option (Int×Unit):=
 aS (β:=(Int×Unit)) (γ:=Unit) (
  iter (X:=jF) (β:=p4) (List.length a0+(Int.natAbs ((List.length a0:Int))+(Int.natAbs (0:Int)+2))) (a0,a1,(List.length a0:Int),0,()) (jH)) fun _=>
 some ((-1),())
def jK (a0:List Int) (a1:Unit):Option (Bool×Unit):=
 Option.bind (sW a0 a1) fun r1=>
 some (decide (r1.1≥0),())
abbrev m6:Type:=Int×(List Int)×Int×Int×Unit
abbrev qP:Type:=((Int×Unit) ⊕ (Int×Unit))
def m7 (x1:m6) (again:m6→Option qP):Option qP:=
 bif decide (x1.2.2.2.1<x1.2.2.1) then
  Option.bind (idx x1.2.1 x1.2.2.2.1) fun y2=>
  Option.bind (bV y2 0 1000000000) fun r3=>
  bif r3.1 then
   some (Sum.inl (1,()))
  else
   again (w64 (x1.1+y2),x1.2.1,x1.2.2.1,w64 (x1.2.2.2.1+1),())
 else
  some (Sum.inr (x1.1,()))
def pO (a0:List Int):Option (Int×Unit):=
 bif ((List.length a0:Int))==0 then
  some (9,())
 else
  bif decide (((List.length a0:Int))>1000) then
   some (2,())
  else
   aS (β:=(Int×Unit)) (γ:=(Int×Unit)) (
    iter (X:=m6) (β:=qP) (Int.natAbs (0:Int)+(List.length a0+(Int.natAbs ((List.length a0:Int))+(Int.natAbs (0:Int)+2)))) (0,a0,(List.length a0:Int),0,()) (m7)) fun v4=>
   bif v4.1==0 then
    some (13,())
   else
    some (0,())
def lK (a0:ah) (a1:ah):Option (Int×Unit):=
 Option.bind (oz a1.2.2 a0.2.2) fun r1=>
 some (r1.1,())
abbrev di:Type:=Int×Int×Unit×Int×Int×(List ah)×Unit
abbrev de:Type:=((((List ah)×Unit) ⊕ ((List ah)×Unit)) ⊕ (Int×Int×Unit×Int×(List ah)×Unit))
def dh (x1:di) (again:di→Option de):Option de:=
 match x1 with
 | (A,B,C,D,E,F,_)=>
 bif decide (E>A) then
  chk (decide (0≤E)&&decide (E<(F.length:Int))) <|
  Option.bind (F[E.toNat]?) fun y2=>
  chk (decide (0≤(w64 (E - 1)))&&decide ((w64 (E - 1))<(F.length:Int))) <|
  Option.bind (F[(w64 (E - 1)).toNat]?) fun y3=>
  Option.bind (lK y2 y3) fun r4=>
  bif decide (r4.1<0) then
   chk (decide (0≤(w64 (E - 1)))&&decide ((w64 (E - 1))<(F.length:Int))) <|
   Option.bind (F[(w64 (E - 1)).toNat]?) fun y5=>
   chk (decide (0≤E)&&decide (E<(F.length:Int))) <|
   Option.bind (F[E.toNat]?) fun y6=>
   chk (decide (0≤E)&&decide (E<(F.length:Int))) <|
   Option.bind (F[E.toNat]?) fun _=>
   chk (decide (0≤(w64 (E - 1)))&&decide ((w64 (E - 1))<(List.length (List.set F E.toNat y5):Int))) <|
   Option.bind ((List.set F E.toNat y5)[(w64 (E - 1)).toNat]?) fun _=>
   again (A,B,C,D,w64 (E - 1),List.set (List.set F E.toNat y5) (w64 (E - 1)).toNat y6,())
  else
   some (Sum.inr (A,B,C,D,F,()))
 else
  some (Sum.inr (A,B,C,D,F,()))
abbrev c8:Type:=Int×Int×Unit×Int×(List ah)×Unit
abbrev c7:Type:=(((List ah)×Unit) ⊕ ((List ah)×Unit))
def b8 (x1:c8) (again:c8→Option c7):Option c7:=
 match x1 with
 | (A,B,C,D,E,_)=>
 bif decide (D<B) then
  aS (β:=(((List ah)×Unit) ⊕ ((List ah)×Unit))) (γ:=(Int×Int×Unit×Int×(List ah)×Unit)) (
   iter (X:=di) (β:=de) (A.natAbs+(B.natAbs+(D.natAbs+(D.natAbs+(E.length+2))))) (A,B,C,D,D,E,()) (dh)) fun v2=>
  again (v2.1,v2.2.1,v2.2.2.1,w64 (v2.2.2.2.1+1),v2.2.2.2.2.1,())
 else
  some (Sum.inr (E,()))
def cz (a0:List ah) (a1:Int) (a2:Int) (a3:Unit):Option ((List ah)×Unit):=
 aS (β:=((List ah)×Unit)) (γ:=((List ah)×Unit)) (
  iter (X:=c8) (β:=c7) (Int.natAbs a1+(Int.natAbs a2+(Int.natAbs (w64 (a1+1))+(List.length a0+2)))) (a1,a2,a3,w64 (a1+1),a0,()) (b8)) fun v11=>
 some (v11.1,())
abbrev eA:Type:=Int×Int×Int×Int×(List ah)×Unit
abbrev eD:Type:=(((List ah)×Unit) ⊕ ((List ah)×Unit))
def eF (x1:eA) (again:eA→Option eD):Option eD:=
 match x1 with
 | (A,B,C,D,E,_)=>
 bif decide (D<C) then
  chk (decide (0≤(w64 (B+D)))&&decide ((w64 (B+D))<(E.length:Int))) <|
  Option.bind (E[(w64 (B+D)).toNat]?) fun y2=>
  chk (decide (0≤(w64 (A+D)))&&decide ((w64 (A+D))<(E.length:Int))) <|
  Option.bind (E[(w64 (A+D)).toNat]?) fun y3=>
  chk (decide (0≤(w64 (A+D)))&&decide ((w64 (A+D))<(E.length:Int))) <|
  Option.bind (E[(w64 (A+D)).toNat]?) fun _=>
  chk (decide (0≤(w64 (B+D)))&&decide ((w64 (B+D))<(List.length (List.set E (w64 (A+D)).toNat y2):Int))) <|
  Option.bind ((List.set E (w64 (A+D)).toNat y2)[(w64 (B+D)).toNat]?) fun _=>
  again (A,B,C,w64 (D+1),List.set (List.set E (w64 (A+D)).toNat y2) (w64 (B+D)).toNat y3,())
 else
  some (Sum.inr (E,()))
def cn (a0:List ah) (a1:Int) (a2:Int) (a3:Int) (_a4:Unit):Option ((List ah)×Unit):=
 aS (β:=((List ah)×Unit)) (γ:=((List ah)×Unit)) (
  iter (X:=eA) (β:=eD) (Int.natAbs a1+(Int.natAbs a2+(Int.natAbs a3+(Int.natAbs (0:Int)+(List.length a0+2))))) (a1,a2,a3,0,a0,()) (eF)) fun v6=>
 some (v6.1,())
abbrev fW:Type:=Int×Unit×Int×Int×(List ah)×Unit
abbrev fS:Type:=(((List ah)×Unit) ⊕ (Int×Unit×Int×(List ah)×Unit))
def gb (x1:fW) (again:fW→Option fS):Option fS:=
 match x1 with
 | (A,B,C,D,E,_)=>
 bif C != D then
  bif decide (C>D) then
   Option.bind (cn E (w64 (A - C)) A D B) fun r2=>
   again (A,B,w64 (C - D),D,r2.1,())
  else
   Option.bind (cn E (w64 (A - C)) (w64 ((w64 (A+D)) - C)) C B) fun r3=>
   again (A,B,C,w64 (D - C),r3.1,())
 else
  some (Sum.inr (A,B,C,E,()))
def iw (a0:List ah) (a1:Int) (a2:Int) (a3:Int) (a4:Unit):Option ((List ah)×Unit):=
 aS (β:=((List ah)×Unit)) (γ:=(Int×Unit×Int×(List ah)×Unit)) (
  iter (X:=fW) (β:=fS) (Int.natAbs a2+(Int.natAbs (w64 (a2 - a1))+(Int.natAbs (w64 (a3 - a2))+(List.length a0+2)))) (a2,a4,w64 (a2 - a1),w64 (a3 - a2),a0,()) (gb)) fun v4=>
 Option.bind (cn v4.2.2.2.1 (w64 (v4.1 - v4.2.2.1)) v4.1 v4.2.2.1 v4.2.1) fun r5=>
 some (r5.1,())
abbrev eV:Type:=Int×Unit×Int×Int×(List ah)×Unit
abbrev eP:Type:=(((List ah)×Unit) ⊕ (Int×Int×(List ah)×Unit))
def cI (x1:eV) (again:eV→Option eP):Option eP:=
 match x1 with
 | (A,B,C,D,E,_)=>
 bif decide (C<D) then
  let n2:Int:=w64 (Int.fdiv (bP (w64 (C+D))) (2 ^ 1))
  chk (decide (0≤n2)&&decide (n2<(E.length:Int))) <|
  Option.bind (E[n2.toNat]?) fun y3=>
  chk (decide (0≤A)&&decide (A<(E.length:Int))) <|
  Option.bind (E[A.toNat]?) fun y4=>
  Option.bind (lK y3 y4) fun r5=>
  bif decide (r5.1<0) then
   again (A,B,w64 (n2+1),D,E,())
  else
   again (A,B,C,n2,E,())
 else
  some (Sum.inr (A,C,E,()))
abbrev eM:Type:=Int×Int×(List ah)×Unit
abbrev eS:Type:=(((List ah)×Unit) ⊕ ((List ah)×Unit))
def eN (x1:eM) (again:eM→Option eS):Option eS:=
 match x1 with
 | (A,B,C,_)=>
 bif decide (B<(w64 (A - 1))) then
  chk (decide (0≤(w64 (B+1)))&&decide ((w64 (B+1))<(C.length:Int))) <|
  Option.bind (C[(w64 (B+1)).toNat]?) fun y2=>
  chk (decide (0≤B)&&decide (B<(C.length:Int))) <|
  Option.bind (C[B.toNat]?) fun y3=>
  chk (decide (0≤B)&&decide (B<(C.length:Int))) <|
  Option.bind (C[B.toNat]?) fun _=>
  chk (decide (0≤(w64 (B+1)))&&decide ((w64 (B+1))<(List.length (List.set C B.toNat y2):Int))) <|
  Option.bind ((List.set C B.toNat y2)[(w64 (B+1)).toNat]?) fun _=>
  again (A,w64 (B+1),List.set (List.set C B.toNat y2) (w64 (B+1)).toNat y3,())
 else
  some (Sum.inr (C,()))
abbrev eC:Type:=Int×Unit×Int×Int×(List ah)×Unit
abbrev ez:Type:=(((List ah)×Unit) ⊕ (Int×Int×(List ah)×Unit))
def cF (x1:eC) (again:eC→Option ez):Option ez:=
 match x1 with
 | (A,B,C,D,E,_)=>
 bif decide (C<D) then
  let n2:Int:=w64 (Int.fdiv (bP (w64 (C+D))) (2 ^ 1))
  chk (decide (0≤A)&&decide (A<(E.length:Int))) <|
  Option.bind (E[A.toNat]?) fun y3=>
  chk (decide (0≤n2)&&decide (n2<(E.length:Int))) <|
  Option.bind (E[n2.toNat]?) fun y4=>
  Option.bind (lK y3 y4) fun r5=>
  bif !(decide (r5.1<0)) then
   again (A,B,w64 (n2+1),D,E,())
  else
   again (A,B,C,n2,E,())
 else
  some (Sum.inr (A,C,E,()))
abbrev eG:Type:=Int×Int×(List ah)×Unit
abbrev eg:Type:=(((List ah)×Unit) ⊕ ((List ah)×Unit))
def ew (x1:eG) (again:eG→Option eg):Option eg:=
 match x1 with
 | (A,B,C,_)=>
 bif decide (B>A) then
  chk (decide (0≤(w64 (B - 1)))&&decide ((w64 (B - 1))<(C.length:Int))) <|
  Option.bind (C[(w64 (B - 1)).toNat]?) fun y2=>
  chk (decide (0≤B)&&decide (B<(C.length:Int))) <|
  Option.bind (C[B.toNat]?) fun y3=>
  chk (decide (0≤B)&&decide (B<(C.length:Int))) <|
  Option.bind (C[B.toNat]?) fun _=>
  chk (decide (0≤(w64 (B - 1)))&&decide ((w64 (B - 1))<(List.length (List.set C B.toNat y2):Int))) <|
  Option.bind ((List.set C B.toNat y2)[(w64 (B - 1)).toNat]?) fun _=>
  again (A,w64 (B - 1),List.set (List.set C B.toNat y2) (w64 (B - 1)).toNat y3,())
 else
  some (Sum.inr (C,()))
abbrev er:Type:=Int×Int×Int×Unit×Int×Int×Int×Int×Int×(List ah)×Unit
abbrev eE:Type:=(((List ah)×Unit) ⊕ (Int×Int×Int×Unit×Int×Int×Int×(List ah)×Unit))
def cC (x1:er) (again:er→Option eE):Option eE:=
 match x1 with
 | (A,B,C,D,E,F,G,H,I,J,_)=>
 bif decide (G<H) then
  let n2:Int:=w64 (Int.fdiv (bP (w64 (G+H))) (2 ^ 1))
  chk (decide (0≤(w64 (I - n2)))&&decide ((w64 (I - n2))<(J.length:Int))) <|
  Option.bind (J[(w64 (I - n2)).toNat]?) fun y3=>
  chk (decide (0≤n2)&&decide (n2<(J.length:Int))) <|
  Option.bind (J[n2.toNat]?) fun y4=>
  Option.bind (lK y3 y4) fun r5=>
  bif !(decide (r5.1<0)) then
   again (A,B,C,D,E,F,w64 (n2+1),H,I,J,())
  else
   again (A,B,C,D,E,F,G,n2,I,J,())
 else
  some (Sum.inr (A,B,C,D,E,F,G,J,()))
def bR (self:((List ah)×Int×Int×Int×Unit×Unit)→Option ((List ah)×Unit)) (a0:List ah) (a1:Int) (a2:Int) (a3:Int) (a4:Unit):Option ((List ah)×Unit):=
 bif (w64 (a2 - a1))==1 then
  aS (β:=((List ah)×Unit)) (γ:=(Int×Int×(List ah)×Unit)) (
   iter (X:=eV) (β:=eP) (Int.natAbs a1+(Int.natAbs a2+(Int.natAbs a3+(List.length a0+2)))) (a1,a4,a2,a3,a0,()) (cI)) fun v6=>
  aS (β:=((List ah)×Unit)) (γ:=((List ah)×Unit)) (
   iter (X:=eM) (β:=eS) (v6.2.1.natAbs+(v6.1.natAbs+(v6.2.2.1.length+2))) (v6.2.1,v6.1,v6.2.2.1,()) (eN)) fun v12=>
  some (v12.1,())
 else
  bif (w64 (a3 - a2))==1 then
   aS (β:=((List ah)×Unit)) (γ:=(Int×Int×(List ah)×Unit)) (
    iter (X:=eC) (β:=ez) (Int.natAbs a2+(Int.natAbs a1+(Int.natAbs a2+(List.length a0+2)))) (a2,a4,a1,a2,a0,()) (cF)) fun v18=>
   aS (β:=((List ah)×Unit)) (γ:=((List ah)×Unit)) (
    iter (X:=eG) (β:=eg) (v18.2.1.natAbs+(v18.1.natAbs+(v18.2.2.1.length+2))) (v18.2.1,v18.1,v18.2.2.1,()) (ew)) fun v24=>
   some (v24.1,())
  else
   let n25:Int:=w64 (Int.fdiv (bP (w64 (a1+a3))) (2 ^ 1))
   aS (β:=((List ah)×Unit)) (γ:=(Int×Int×Int×Unit×Int×Int×Int×Int×(List ah)×Unit)) (
    bif decide (a2>n25) then
     some (Sum.inr (a1,a2,a3,a4,n25,w64 (n25+a2),w64 ((w64 (n25+a2)) - a3),n25,a0,()))
    else
     some (Sum.inr (a1,a2,a3,a4,n25,w64 (n25+a2),a1,a2,a0,()))) fun v26=>
   aS (β:=((List ah)×Unit)) (γ:=(Int×Int×Int×Unit×Int×Int×Int×(List ah)×Unit)) (
    iter (X:=er) (β:=eE) (v26.1.natAbs+(v26.2.1.natAbs+(v26.2.2.1.natAbs+(v26.2.2.2.2.1.natAbs+(v26.2.2.2.2.2.1.natAbs+(v26.2.2.2.2.2.2.1.natAbs+(v26.2.2.2.2.2.2.2.1.natAbs+(Int.natAbs (w64 (v26.2.2.2.2.2.1 - 1))+(v26.2.2.2.2.2.2.2.2.1.length+2))))))))) (v26.1,v26.2.1,v26.2.2.1,v26.2.2.2.1,v26.2.2.2.2.1,v26.2.2.2.2.2.1,v26.2.2.2.2.2.2.1,v26.2.2.2.2.2.2.2.1,w64 (v26.2.2.2.2.2.1 - 1),v26.2.2.2.2.2.2.2.2.1,()) (cC)) fun v32=>
   bif decide (v32.2.2.2.2.2.2.1<v32.2.1) then
    aS (β:=((List ah)×Unit)) (γ:=(Int×Int×Unit×Int×Int×Int×(List ah)×Unit)) (
     bif decide (v32.2.1<(w64 (v32.2.2.2.2.2.1 - v32.2.2.2.2.2.2.1))) then
      Option.bind (iw v32.2.2.2.2.2.2.2.1 v32.2.2.2.2.2.2.1 v32.2.1 (w64 (v32.2.2.2.2.2.1 - v32.2.2.2.2.2.2.1)) v32.2.2.2.1) fun r33=>
      some (Sum.inr (v32.1,v32.2.2.1,v32.2.2.2.1,v32.2.2.2.2.1,v32.2.2.2.2.2.2.1,w64 (v32.2.2.2.2.2.1 - v32.2.2.2.2.2.2.1),r33.1,()))
     else
      some (Sum.inr (v32.1,v32.2.2.1,v32.2.2.2.1,v32.2.2.2.2.1,v32.2.2.2.2.2.2.1,w64 (v32.2.2.2.2.2.1 - v32.2.2.2.2.2.2.1),v32.2.2.2.2.2.2.2.1,()))) fun v34=>
    bif decide (v34.1<v34.2.2.2.2.1) then
     aS (β:=((List ah)×Unit)) (γ:=(Int×Unit×Int×Int×(List ah)×Unit)) (
      bif decide (v34.2.2.2.2.1<v34.2.2.2.1) then
       Option.bind (self (v34.2.2.2.2.2.2.1,v34.1,v34.2.2.2.2.1,v34.2.2.2.1,v34.2.2.1,())) fun r35=>
       some (Sum.inr (v34.2.1,v34.2.2.1,v34.2.2.2.1,v34.2.2.2.2.2.1,r35.1,()))
      else
       some (Sum.inr (v34.2.1,v34.2.2.1,v34.2.2.2.1,v34.2.2.2.2.2.1,v34.2.2.2.2.2.2.1,()))) fun v36=>
     bif decide (v36.2.2.1<v36.2.2.2.1) then
      bif decide (v36.2.2.2.1<v36.1) then
       Option.bind (self (v36.2.2.2.2.1,v36.2.2.1,v36.2.2.2.1,v36.1,v36.2.1,())) fun r37=>
       some (r37.1,())
      else
       some (v36.2.2.2.2.1,())
     else
      some (v36.2.2.2.2.1,())
    else
     aS (β:=((List ah)×Unit)) (γ:=(Int×Unit×Int×Int×(List ah)×Unit)) (
      some (Sum.inr (v34.2.1,v34.2.2.1,v34.2.2.2.1,v34.2.2.2.2.2.1,v34.2.2.2.2.2.2.1,()))) fun v38=>
     bif decide (v38.2.2.1<v38.2.2.2.1) then
      bif decide (v38.2.2.2.1<v38.1) then
       Option.bind (self (v38.2.2.2.2.1,v38.2.2.1,v38.2.2.2.1,v38.1,v38.2.1,())) fun r39=>
       some (r39.1,())
      else
       some (v38.2.2.2.2.1,())
     else
      some (v38.2.2.2.2.1,())
   else
    aS (β:=((List ah)×Unit)) (γ:=(Int×Int×Unit×Int×Int×Int×(List ah)×Unit)) (
     some (Sum.inr (v32.1,v32.2.2.1,v32.2.2.2.1,v32.2.2.2.2.1,v32.2.2.2.2.2.2.1,w64 (v32.2.2.2.2.2.1 - v32.2.2.2.2.2.2.1),v32.2.2.2.2.2.2.2.1,()))) fun v40=>
    bif decide (v40.1<v40.2.2.2.2.1) then
     aS (β:=((List ah)×Unit)) (γ:=(Int×Unit×Int×Int×(List ah)×Unit)) (
      bif decide (v40.2.2.2.2.1<v40.2.2.2.1) then
       Option.bind (self (v40.2.2.2.2.2.2.1,v40.1,v40.2.2.2.2.1,v40.2.2.2.1,v40.2.2.1,())) fun r41=>
       some (Sum.inr (v40.2.1,v40.2.2.1,v40.2.2.2.1,v40.2.2.2.2.2.1,r41.1,()))
      else
       some (Sum.inr (v40.2.1,v40.2.2.1,v40.2.2.2.1,v40.2.2.2.2.2.1,v40.2.2.2.2.2.2.1,()))) fun v42=>
     bif decide (v42.2.2.1<v42.2.2.2.1) then
      bif decide (v42.2.2.2.1<v42.1) then
       Option.bind (self (v42.2.2.2.2.1,v42.2.2.1,v42.2.2.2.1,v42.1,v42.2.1,())) fun r43=>
       some (r43.1,())
      else
       some (v42.2.2.2.2.1,())
     else
      some (v42.2.2.2.2.1,())
    else
     aS (β:=((List ah)×Unit)) (γ:=(Int×Unit×Int×Int×(List ah)×Unit)) (
      some (Sum.inr (v40.2.1,v40.2.2.1,v40.2.2.2.1,v40.2.2.2.2.2.1,v40.2.2.2.2.2.2.1,()))) fun v44=>
     bif decide (v44.2.2.1<v44.2.2.2.1) then
      bif decide (v44.2.2.2.1<v44.1) then
       Option.bind (self (v44.2.2.2.2.1,v44.2.2.1,v44.2.2.2.1,v44.1,v44.2.1,())) fun r45=>
       some (r45.1,())
      else
       some (v44.2.2.2.2.1,())
     else
      some (v44.2.2.2.2.1,())
def iG (a0:List ah) (a1:Int) (a2:Int) (a3:Int) (_a4:Unit):Nat:=List.length a0+(Int.natAbs a1+(Int.natAbs a2+(Int.natAbs a3+2)))
def dw (a0:List ah) (a1:Int) (a2:Int) (a3:Int) (a4:Unit):Option ((List ah)×Unit):=
 w7 (fun self x=>bR self x.1 x.2.1 x.2.2.1 x.2.2.2.1 x.2.2.2.2.1) (iG a0 a1 a2 a3 a4) (a0,a1,a2,a3,a4,())
abbrev gq:Type:=Int×Unit×Int×Int×Int×(List ah)×Unit
abbrev fT:Type:=(((List ah)×Unit) ⊕ (Int×Unit×Int×Int×(List ah)×Unit))
def gf (x1:gq) (again:gq→Option fT):Option fT:=
 match x1 with
 | (A,B,C,D,E,F,_)=>
 bif decide (E≤A) then
  Option.bind (cz F D E B) fun r2=>
  again (A,B,C,E,w64 (E+C),r2.1,())
 else
  some (Sum.inr (A,B,C,D,F,()))
abbrev gh:Type:=Int×Unit×Int×Int×Int×(List ah)×Unit
abbrev gm:Type:=((((List ah)×Unit) ⊕ ((List ah)×Unit)) ⊕ (Int×Unit×Int×Int×(List ah)×Unit))
def fV (x1:gh) (again:gh→Option gm):Option gm:=
 match x1 with
 | (A,B,C,D,E,F,_)=>
 bif decide (E≤A) then
  Option.bind (dw F D (w64 (D+C)) E B) fun r2=>
  again (A,B,C,E,w64 (E+(w64 (2*C))),r2.1,())
 else
  some (Sum.inr (A,B,C,D,F,()))
abbrev gd:Type:=Int×Unit×Int×(List ah)×Unit
abbrev gj:Type:=(((List ah)×Unit) ⊕ ((List ah)×Unit))
def fQ (x1:gd) (again:gd→Option gj):Option gj:=
 match x1 with
 | (A,B,C,D,_)=>
 bif decide (C<A) then
  aS (β:=(((List ah)×Unit) ⊕ ((List ah)×Unit))) (γ:=(Int×Unit×Int×Int×(List ah)×Unit)) (
   iter (X:=gh) (β:=gm) (A.natAbs+(C.natAbs+(Int.natAbs (0:Int)+(Int.natAbs (w64 (2*C))+(D.length+2))))) (A,B,C,0,w64 (2*C),D,()) (fV)) fun v2=>
  bif decide ((w64 (v2.2.2.2.1+v2.2.2.1))<v2.1) then
   Option.bind (dw v2.2.2.2.2.1 v2.2.2.2.1 (w64 (v2.2.2.2.1+v2.2.2.1)) v2.1 v2.2.1) fun r3=>
   again (v2.1,v2.2.1,w64 (v2.2.2.1*2),r3.1,())
  else
   again (v2.1,v2.2.1,w64 (v2.2.2.1*2),v2.2.2.2.2.1,())
 else
  some (Sum.inr (D,()))
def j6 (a0:List ah) (a1:Int) (a2:Unit):Option ((List ah)×Unit):=
 aS (β:=((List ah)×Unit)) (γ:=(Int×Unit×Int×Int×(List ah)×Unit)) (
  iter (X:=gq) (β:=fT) (Int.natAbs a1+(Int.natAbs (20:Int)+(Int.natAbs (0:Int)+(Int.natAbs (20:Int)+(List.length a0+2))))) (a1,a2,20,0,20,a0,()) (gf)) fun v3=>
 Option.bind (cz v3.2.2.2.2.1 v3.2.2.2.1 v3.1 v3.2.1) fun r4=>
 aS (β:=((List ah)×Unit)) (γ:=((List ah)×Unit)) (
  iter (X:=gd) (β:=gj) (v3.1.natAbs+(v3.2.2.1.natAbs+(r4.1.length+2))) (v3.1,v3.2.1,v3.2.2.1,r4.1,()) (fQ)) fun v10=>
 some (v10.1,())
def dN (a0:List ah) (a1:Unit):Option ((List ah)×Unit):=
 Option.bind (j6 a0 ((List.length a0:Int)) a1) fun r1=>
 some (r1.1,())
abbrev tL:Type:=(List Int)×Int×(List Int)×Int×Int×Int×Int×Unit
abbrev yL:Type:=(((List ak)×Int×Unit) ⊕ ((List Int)×Int×Int×Int×Unit))
def tq (x1:tL) (again:tL→Option yL):Option yL:=
 match x1 with
 | (A,B,C,D,E,F,G,_)=>
 bif decide (E<D) then
  Option.bind (idx C E) fun y2=>
  again (A,w64 (B+y2),C,D,w64 (E+1),F,G,())
 else
  some (Sum.inr (A,B,F,G,()))
abbrev rz:Type:=Int×Int×Int×(List ah)×(List Int)×Int×Int×Int×Int×Unit
abbrev xg:Type:=(((List ak)×Int×Unit) ⊕ (Int×(List ah)×Int×Int×Unit))
def rF (x1:rz) (again:rz→Option xg):Option xg:=
 match x1 with
 | (A,B,C,D,E,F,G,H,I,_)=>
 bif decide (G<F) then
  Option.bind (idx E G) fun y2=>
  Option.bind (bD B) fun r3=>
  Option.bind (bD y2) fun r4=>
  Option.bind (eo r3.1 r4.1) fun r5=>
  Option.bind (bD A) fun r6=>
  Option.bind (o5 r5.1 r6.1) fun r7=>
  Option.bind (nX r7.1 1000000000000000) fun r8=>
  chk (decide (((D.length)+1)*48≤140737488355328)&&decide ((D.length)+1≤maxLen)) <|
  again (A,B,w64 (C - r8.1),D++[(G,r8.1,r7.2.1)],E,F,w64 (G+1),H,I,())
 else
  some (Sum.inr (C,D,H,I,()))
abbrev rC:Type:=Int×(List ah)×Int×Int×Int×Int×(List ak)×Unit
abbrev xp:Type:=(((List ak)×Int×Unit) ⊕ ((List ak)×Unit))
def rE (x1:rC) (again:rC→Option xp):Option xp:=
 match x1 with
 | (A,B,C,D,E,F,G,_)=>
 bif decide (D<C) then
  chk (decide (0≤D)&&decide (D<(B.length:Int))) <|
  Option.bind (B[D.toNat]?) fun y2=>
  aS (β:=(((List ak)×Int×Unit) ⊕ ((List ak)×Unit))) (γ:=(Int×(List ah)×Int×Int×Int×Int×Int×Int×Bool×(List Int)×(List ak)×Unit)) (
   bif decide (D<A) then
    some (Sum.inr (A,B,C,D,E,F,y2.1,w64 (y2.2.1+1),y2.2.2.1,y2.2.2.2,G,()))
   else
    some (Sum.inr (A,B,C,D,E,F,y2.1,y2.2.1,y2.2.2.1,y2.2.2.2,G,()))) fun v3=>
  aS (β:=(((List ak)×Int×Unit) ⊕ ((List ak)×Unit))) (γ:=(Int×(List ah)×Int×Int×Int×Int×Int×Int×Bool×(List Int)×(List ak)×Unit)) (
   bif decide (v3.2.2.2.2.1<0) then
    some (Sum.inr (v3.1,v3.2.1,v3.2.2.1,v3.2.2.2.1,v3.2.2.2.2.1,v3.2.2.2.2.2.1,v3.2.2.2.2.2.2.1,w64 (0 - v3.2.2.2.2.2.2.2.1),v3.2.2.2.2.2.2.2.2.1,v3.2.2.2.2.2.2.2.2.2.1,v3.2.2.2.2.2.2.2.2.2.2.1,()))
   else
    some (Sum.inr (v3.1,v3.2.1,v3.2.2.1,v3.2.2.2.1,v3.2.2.2.2.1,v3.2.2.2.2.2.1,v3.2.2.2.2.2.2.1,v3.2.2.2.2.2.2.2.1,v3.2.2.2.2.2.2.2.2.1,v3.2.2.2.2.2.2.2.2.2.1,v3.2.2.2.2.2.2.2.2.2.2.1,()))) fun v4=>
  chk (decide (0≤v4.2.2.2.2.2.2.1)&&decide (v4.2.2.2.2.2.2.1<(v4.2.2.2.2.2.2.2.2.2.2.1.length:Int))) <|
  Option.bind (v4.2.2.2.2.2.2.2.2.2.2.1[v4.2.2.2.2.2.2.1.toNat]?) fun _=>
  again (v4.1,v4.2.1,v4.2.2.1,w64 (v4.2.2.2.1+1),v4.2.2.2.2.1,v4.2.2.2.2.2.1,List.set v4.2.2.2.2.2.2.2.2.2.2.1 v4.2.2.2.2.2.2.1.toNat (v4.2.2.2.2.2.2.2.1,v4.2.2.2.2.2.1),())
 else
  some (Sum.inr (G,()))
def ud (a0:ak) (a1:List Int):Option ((List ak)×Int×Unit):=
 Option.bind (bW a0) fun r1=>
 bif r1.1 != 0 then
  some ([],r1.1,())
 else
  Option.bind (pO a1) fun r2=>
  bif r2.1 != 0 then
   some ([],r2.1,())
  else
   aS (β:=((List ak)×Int×Unit)) (γ:=((List Int)×Int×Int×Int×Unit)) (
    iter (X:=tL) (β:=yL) (List.length a1+(Int.natAbs (0:Int)+(List.length a1+(Int.natAbs ((List.length a1:Int))+(Int.natAbs (0:Int)+(a0.1.natAbs+(a0.2.natAbs+2))))))) (a1,0,a1,(List.length a1:Int),0,a0.1,a0.2,()) (tq)) fun v5=>
   aS (β:=((List ak)×Int×Unit)) (γ:=(Int×(List ah)×Int×Int×Unit)) (
    iter (X:=rz) (β:=xg) (v5.2.1.natAbs+(Int.natAbs (if (w64 (0 - v5.2.2.1))>v5.2.2.1 then (w64 (0 - v5.2.2.1)) else v5.2.2.1)+(Int.natAbs (if (w64 (0 - v5.2.2.1))>v5.2.2.1 then (w64 (0 - v5.2.2.1)) else v5.2.2.1)+(List.length ([]:List ah)+(v5.1.length+(Int.natAbs ((v5.1.length:Int))+(Int.natAbs (0:Int)+(v5.2.2.1.natAbs+(v5.2.2.2.1.natAbs+2))))))))) (v5.2.1,if (w64 (0 - v5.2.2.1))>v5.2.2.1 then (w64 (0 - v5.2.2.1)) else v5.2.2.1,if (w64 (0 - v5.2.2.1))>v5.2.2.1 then (w64 (0 - v5.2.2.1)) else v5.2.2.1,[],v5.1,(v5.1.length:Int),0,v5.2.2.1,v5.2.2.2.1,()) (rF)) fun v14=>
   Option.bind (dN v14.2.1 ()) fun r15=>
   chk (decide (0≤((r15.1.length:Int)))&&decide (((r15.1.length:Int))≤((r15.1.length:Int)))&&decide ((16:Int)*((r15.1.length:Int))≤281474976710656)&&decide (((r15.1.length:Int))≤9223372036854775807)) <|
   aS (β:=((List ak)×Int×Unit)) (γ:=((List ak)×Unit)) (
    iter (X:=rC) (β:=xp) (v14.1.natAbs+(r15.1.length+(Int.natAbs ((r15.1.length:Int))+(Int.natAbs (0:Int)+(v14.2.2.1.natAbs+(v14.2.2.2.1.natAbs+(List.length ((List.replicate (Int.toNat ((r15.1.length:Int))) (0,0):List (ak)):List ak)+2))))))) (v14.1,r15.1,(r15.1.length:Int),0,v14.2.2.1,v14.2.2.2.1,(List.replicate (Int.toNat ((r15.1.length:Int))) (0,0):List (ak)),()) (rE)) fun v21=>
   some (v21.1,0,())
abbrev lU:Type:=(List Int)×Bool×(List aa)×Int×Int×Bool×(List Int)×(List UInt8)×(List UInt8)×Int×Int×Int×Bool×(List aJ)×(List ax)×(List aG)×(List aa)×(List aa)×(List aa)×(List aF)×(List aa)×(List Bool)×(List aa)×Unit
abbrev tH:Type:=((Int×(aj×(List aa)×(List aa)×(List aa)×(List aF)×(List aa)×(List Bool)×(List aa)×Unit)×Unit) ⊕ ((List Int)×Bool×Bool×(List Int)×(List UInt8)×(List UInt8)×Int×Int×Int×Bool×(List aJ)×(List ax)×(List aG)×(List aa)×(List aa)×(List aa)×(List aF)×(List aa)×(List Bool)×(List aa)×Unit))
def oJ (x1:lU) (again:lU→Option tH):Option tH:=
 match x1 with
 | (A,B,C,D,E,F,G,H,I,J,K,L,M,N,O,P,Q,R,S,T,U,V,W,_)=>
 bif decide (E<D) then
  Option.bind (idx C E) fun y2=>
  Option.bind (yf y2) fun r3=>
  Option.bind (nX r3.1 1000000000000000) fun r4=>
  chk (decide (((A.length)+1)*8≤140737488355328)&&decide ((A.length)+1≤maxLen)) <|
  bif B then
   again (A++[r4.1],true,C,D,w64 (E+1),F,G,H,I,J,K,L,M,N,O,P,Q,R,S,T,U,V,W,())
  else
   again (A++[r4.1],decide (r4.1>0),C,D,w64 (E+1),F,G,H,I,J,K,L,M,N,O,P,Q,R,S,T,U,V,W,())
 else
  some (Sum.inr (A,B,F,G,H,I,J,K,L,M,N,O,P,Q,R,S,T,U,V,W,()))
abbrev jk:Type:=(List ak)×Int×Int×(List UInt8)×(List UInt8)×Int×Int×Int×Bool×(List aJ)×(List ax)×(List aG)×(List aa)×(List aa)×(List aa)×(List aF)×(List aa)×(List Bool)×(List aa)×Unit
abbrev nQ:Type:=((Int×(aj×(List aa)×(List aa)×(List aa)×(List aF)×(List aa)×(List Bool)×(List aa)×Unit)×Unit) ⊕ ((List UInt8)×(List UInt8)×Int×Int×Int×Bool×(List aJ)×(List ax)×(List aG)×(List aa)×(List aa)×(List aa)×(List aF)×(List aa)×(List Bool)×(List aa)×Unit))
def kQ (x1:jk) (again:jk→Option nQ):Option nQ:=
 match x1 with
 | (A,B,C,D,E,F,G,H,I,J,K,L,M,N,O,P,Q,R,S,_)=>
 bif decide (C<B) then
  Option.bind (idx A C) fun y2=>
  bif y2.1 != 0 then
   Option.bind (bD y2.1) fun r3=>
   Option.bind (gw ((D,E,F,G,H,I,J,K,L),M,N,O,P,Q,R,S,()) C r3.1) fun r4=>
   chk (decide (0≤C)&&decide (C<(r4.1.2.2.2.2.2.2.1.length:Int))) <|
   Option.bind (r4.1.2.2.2.2.2.2.1[C.toNat]?) fun _=>
   again (A,B,w64 (C+1),r4.1.1.1,r4.1.1.2.1,r4.1.1.2.2.1,r4.1.1.2.2.2.1,r4.1.1.2.2.2.2.1,r4.1.1.2.2.2.2.2.1,r4.1.1.2.2.2.2.2.2.1,r4.1.1.2.2.2.2.2.2.2.1,r4.1.1.2.2.2.2.2.2.2.2,r4.1.2.1,r4.1.2.2.1,r4.1.2.2.2.1,r4.1.2.2.2.2.1,r4.1.2.2.2.2.2.1,List.set r4.1.2.2.2.2.2.2.1 C.toNat true,r4.1.2.2.2.2.2.2.2.1,())
  else
   again (A,B,w64 (C+1),D,E,F,G,H,I,J,K,L,M,N,O,P,Q,R,S,())
 else
  some (Sum.inr (D,E,F,G,H,I,J,K,L,M,N,O,P,Q,R,S,()))
def iW (a0:aj×(List aa)×(List aa)×(List aa)×(List aF)×(List aa)×(List Bool)×(List aa)×Unit) (a1:aa):Option (Int×(aj×(List aa)×(List aa)×(List aa)×(List aF)×(List aa)×(List Bool)×(List aa)×Unit)×Unit):=
 aS (β:=(Int×(aj×(List aa)×(List aa)×(List aa)×(List aF)×(List aa)×(List Bool)×(List aa)×Unit)×Unit)) (γ:=((List Int)×Bool×Bool×(List Int)×(List UInt8)×(List UInt8)×Int×Int×Int×Bool×(List aJ)×(List ax)×(List aG)×(List aa)×(List aa)×(List aa)×(List aF)×(List aa)×(List Bool)×(List aa)×Unit)) (
  iter (X:=lU) (β:=tH) (List.length ([]:List Int)+(a0.2.2.1.length+(Int.natAbs ((a0.2.2.1.length:Int))+(Int.natAbs (0:Int)+(a1.2.length+(a0.1.1.length+(a0.1.2.1.length+(a0.1.2.2.1.natAbs+(a0.1.2.2.2.1.natAbs+(a0.1.2.2.2.2.1.natAbs+(a0.1.2.2.2.2.2.2.1.length+(a0.1.2.2.2.2.2.2.2.1.length+(a0.1.2.2.2.2.2.2.2.2.length+(a0.2.2.1.length+(a0.2.1.length+(a0.2.2.2.1.length+(a0.2.2.2.2.1.length+(a0.2.2.2.2.2.1.length+(a0.2.2.2.2.2.2.1.length+(a0.2.2.2.2.2.2.2.1.length+2)))))))))))))))))))) ([],false,a0.2.2.1,(a0.2.2.1.length:Int),0,a1.1,a1.2,a0.1.1,a0.1.2.1,a0.1.2.2.1,a0.1.2.2.2.1,a0.1.2.2.2.2.1,a0.1.2.2.2.2.2.1,a0.1.2.2.2.2.2.2.1,a0.1.2.2.2.2.2.2.2.1,a0.1.2.2.2.2.2.2.2.2,a0.2.2.1,a0.2.1,a0.2.2.2.1,a0.2.2.2.2.1,a0.2.2.2.2.2.1,a0.2.2.2.2.2.2.1,a0.2.2.2.2.2.2.2.1,()) (oJ)) fun v5=>
 bif !v5.2.1 then
  Option.bind (gw ((v5.2.2.2.2.1,v5.2.2.2.2.2.1,v5.2.2.2.2.2.2.1,v5.2.2.2.2.2.2.2.1,v5.2.2.2.2.2.2.2.2.1,v5.2.2.2.2.2.2.2.2.2.1,v5.2.2.2.2.2.2.2.2.2.2.1,v5.2.2.2.2.2.2.2.2.2.2.2.1,v5.2.2.2.2.2.2.2.2.2.2.2.2.1),v5.2.2.2.2.2.2.2.2.2.2.2.2.2.2.1,v5.2.2.2.2.2.2.2.2.2.2.2.2.2.1,v5.2.2.2.2.2.2.2.2.2.2.2.2.2.2.2.1,v5.2.2.2.2.2.2.2.2.2.2.2.2.2.2.2.2.1,v5.2.2.2.2.2.2.2.2.2.2.2.2.2.2.2.2.2.1,v5.2.2.2.2.2.2.2.2.2.2.2.2.2.2.2.2.2.2.1,v5.2.2.2.2.2.2.2.2.2.2.2.2.2.2.2.2.2.2.2.1,()) 0 (v5.2.2.1,v5.2.2.2.1)) fun r6=>
  chk (decide (0≤(0:Int))&&decide ((0:Int)<(r6.1.2.2.2.2.2.2.1.length:Int))) <|
  Option.bind (r6.1.2.2.2.2.2.2.1[0]?) fun y7=>
  bif y7 then
   chk (decide (0≤(0:Int))&&decide ((0:Int)<(r6.1.2.2.2.2.2.2.1.length:Int))) <|
   Option.bind (r6.1.2.2.2.2.2.2.1[0]?) fun _=>
   some (0,(r6.1.1,r6.1.2.1,r6.1.2.2.1,r6.1.2.2.2.1,r6.1.2.2.2.2.1,r6.1.2.2.2.2.2.1,List.set r6.1.2.2.2.2.2.2.1 0 true,r6.1.2.2.2.2.2.2.2.1,()),())
  else
   Option.bind (aC (v5.2.2.1,v5.2.2.2.1)) fun r9=>
   chk (decide (0≤(0:Int))&&decide ((0:Int)<(r6.1.2.2.2.2.2.2.1.length:Int))) <|
   Option.bind (r6.1.2.2.2.2.2.2.1[0]?) fun _=>
   some (0,(r6.1.1,r6.1.2.1,r6.1.2.2.1,r6.1.2.2.2.1,r6.1.2.2.2.2.1,r6.1.2.2.2.2.2.1,List.set r6.1.2.2.2.2.2.2.1 0 (r9.1 != 0),r6.1.2.2.2.2.2.2.2.1,()),())
 else
  Option.bind (jK v5.1 ()) fun r11=>
  bif r11.1 then
   some (2,((v5.2.2.2.2.1,v5.2.2.2.2.2.1,v5.2.2.2.2.2.2.1,v5.2.2.2.2.2.2.2.1,v5.2.2.2.2.2.2.2.2.1,v5.2.2.2.2.2.2.2.2.2.1,v5.2.2.2.2.2.2.2.2.2.2.1,v5.2.2.2.2.2.2.2.2.2.2.2.1,v5.2.2.2.2.2.2.2.2.2.2.2.2.1),v5.2.2.2.2.2.2.2.2.2.2.2.2.2.2.1,v5.2.2.2.2.2.2.2.2.2.2.2.2.2.1,v5.2.2.2.2.2.2.2.2.2.2.2.2.2.2.2.1,v5.2.2.2.2.2.2.2.2.2.2.2.2.2.2.2.2.1,v5.2.2.2.2.2.2.2.2.2.2.2.2.2.2.2.2.2.1,v5.2.2.2.2.2.2.2.2.2.2.2.2.2.2.2.2.2.2.1,v5.2.2.2.2.2.2.2.2.2.2.2.2.2.2.2.2.2.2.2.1,()),())
  else
   Option.bind (lI (v5.2.2.1,v5.2.2.2.1) v5.2.2.2.2.2.2.2.1) fun r12=>
   Option.bind (ud r12.1 v5.1) fun r13=>
   bif r13.2.1 != 0 then
    some (r13.2.1,((v5.2.2.2.2.1,v5.2.2.2.2.2.1,v5.2.2.2.2.2.2.1,v5.2.2.2.2.2.2.2.1,v5.2.2.2.2.2.2.2.2.1,v5.2.2.2.2.2.2.2.2.2.1,v5.2.2.2.2.2.2.2.2.2.2.1,v5.2.2.2.2.2.2.2.2.2.2.2.1,v5.2.2.2.2.2.2.2.2.2.2.2.2.1),v5.2.2.2.2.2.2.2.2.2.2.2.2.2.2.1,v5.2.2.2.2.2.2.2.2.2.2.2.2.2.1,v5.2.2.2.2.2.2.2.2.2.2.2.2.2.2.2.1,v5.2.2.2.2.2.2.2.2.2.2.2.2.2.2.2.2.1,v5.2.2.2.2.2.2.2.2.2.2.2.2.2.2.2.2.2.1,v5.2.2.2.2.2.2.2.2.2.2.2.2.2.2.2.2.2.2.1,v5.2.2.2.2.2.2.2.2.2.2.2.2.2.2.2.2.2.2.2.1,()),())
   else
    aS (β:=(Int×(aj×(List aa)×(List aa)×(List aa)×(List aF)×(List aa)×(List Bool)×(List aa)×Unit)×Unit)) (γ:=((List UInt8)×(List UInt8)×Int×Int×Int×Bool×(List aJ)×(List ax)×(List aG)×(List aa)×(List aa)×(List aa)×(List aF)×(List aa)×(List Bool)×(List aa)×Unit)) (
     iter (X:=jk) (β:=nQ) (r13.1.length+(Int.natAbs ((r13.1.length:Int))+(Int.natAbs (0:Int)+(v5.2.2.2.2.1.length+(v5.2.2.2.2.2.1.length+(v5.2.2.2.2.2.2.1.natAbs+(v5.2.2.2.2.2.2.2.1.natAbs+(v5.2.2.2.2.2.2.2.2.1.natAbs+(v5.2.2.2.2.2.2.2.2.2.2.1.length+(v5.2.2.2.2.2.2.2.2.2.2.2.1.length+(v5.2.2.2.2.2.2.2.2.2.2.2.2.1.length+(v5.2.2.2.2.2.2.2.2.2.2.2.2.2.2.1.length+(v5.2.2.2.2.2.2.2.2.2.2.2.2.2.1.length+(v5.2.2.2.2.2.2.2.2.2.2.2.2.2.2.2.1.length+(v5.2.2.2.2.2.2.2.2.2.2.2.2.2.2.2.2.1.length+(v5.2.2.2.2.2.2.2.2.2.2.2.2.2.2.2.2.2.1.length+(v5.2.2.2.2.2.2.2.2.2.2.2.2.2.2.2.2.2.2.1.length+(v5.2.2.2.2.2.2.2.2.2.2.2.2.2.2.2.2.2.2.2.1.length+2)))))))))))))))))) (r13.1,(r13.1.length:Int),0,v5.2.2.2.2.1,v5.2.2.2.2.2.1,v5.2.2.2.2.2.2.1,v5.2.2.2.2.2.2.2.1,v5.2.2.2.2.2.2.2.2.1,v5.2.2.2.2.2.2.2.2.2.1,v5.2.2.2.2.2.2.2.2.2.2.1,v5.2.2.2.2.2.2.2.2.2.2.2.1,v5.2.2.2.2.2.2.2.2.2.2.2.2.1,v5.2.2.2.2.2.2.2.2.2.2.2.2.2.2.1,v5.2.2.2.2.2.2.2.2.2.2.2.2.2.1,v5.2.2.2.2.2.2.2.2.2.2.2.2.2.2.2.1,v5.2.2.2.2.2.2.2.2.2.2.2.2.2.2.2.2.1,v5.2.2.2.2.2.2.2.2.2.2.2.2.2.2.2.2.2.1,v5.2.2.2.2.2.2.2.2.2.2.2.2.2.2.2.2.2.2.1,v5.2.2.2.2.2.2.2.2.2.2.2.2.2.2.2.2.2.2.2.1,()) (kQ)) fun v19=>
    some (0,((v19.1,v19.2.1,v19.2.2.1,v19.2.2.2.1,v19.2.2.2.2.1,v19.2.2.2.2.2.1,v19.2.2.2.2.2.2.1,v19.2.2.2.2.2.2.2.1,v19.2.2.2.2.2.2.2.2.1),v19.2.2.2.2.2.2.2.2.2.1,v19.2.2.2.2.2.2.2.2.2.2.1,v19.2.2.2.2.2.2.2.2.2.2.2.1,v19.2.2.2.2.2.2.2.2.2.2.2.2.1,v19.2.2.2.2.2.2.2.2.2.2.2.2.2.1,v19.2.2.2.2.2.2.2.2.2.2.2.2.2.2.1,v19.2.2.2.2.2.2.2.2.2.2.2.2.2.2.2.1,()),())
abbrev mz:Type:=Int×Bool×(List aa)×Int×Int×Bool×Int×Int×(List UInt8)×Bool×(List Int)×(List UInt8)×(List UInt8)×Int×Int×Int×Bool×(List aJ)×(List ax)×(List aG)×(List aa)×(List aa)×(List aa)×(List aF)×(List aa)×(List Bool)×(List aa)×Unit
abbrev uB:Type:=(((Int×(aj×(List aa)×(List aa)×(List aa)×(List aF)×(List aa)×(List Bool)×(List aa)×Unit)×Unit) ⊕ (Int×Bool×Bool×Int×Int×(List UInt8)×Bool×(List Int)×(List UInt8)×(List UInt8)×Int×Int×Int×Bool×(List aJ)×(List ax)×(List aG)×(List aa)×(List aa)×(List aa)×(List aF)×(List aa)×(List Bool)×(List aa)×Unit)) ⊕ (Int×Bool×Bool×Int×Int×(List UInt8)×Bool×(List Int)×(List UInt8)×(List UInt8)×Int×Int×Int×Bool×(List aJ)×(List ax)×(List aG)×(List aa)×(List aa)×(List aa)×(List aF)×(List aa)×(List Bool)×(List aa)×Unit))
def pQ (x1:mz) (again:mz→Option uB):Option uB:=
 match x1 with
 | (A,B,C,D,E,F,G,H,I,J,K,L,M,N,O,P,Q,R,S,T,U,V,W,X,Y,Z,A0,_)=>
 bif decide (E<D) then
  Option.bind (idx C E) fun y2=>
  Option.bind (aV (J,K) y2) fun r3=>
  again (A,B,C,D,w64 (E+1),F,G,H,I,r3.1.1,r3.1.2,L,M,N,O,P,Q,R,S,T,U,V,W,X,Y,Z,A0,())
 else
  some (Sum.inr (A,B,F,G,H,I,J,K,L,M,N,O,P,Q,R,S,T,U,V,W,X,Y,Z,A0,()))
def mK (a0:aj×(List aa)×(List aa)×(List aa)×(List aF)×(List aa)×(List Bool)×(List aa)×Unit) (a1:aG):Option (Int×(aj×(List aa)×(List aa)×(List aa)×(List aF)×(List aa)×(List Bool)×(List aa)×Unit)×Unit):=
 Option.bind (bD 0) fun r1=>
 Option.bind (qV a0.1.2.2.2.2.2.2.1 a1.2.2) fun r2=>
 aS (β:=(Int×(aj×(List aa)×(List aa)×(List aa)×(List aF)×(List aa)×(List Bool)×(List aa)×Unit)×Unit)) (γ:=(Int×Bool×Bool×Int×Int×(List UInt8)×Bool×(List Int)×(List UInt8)×(List UInt8)×Int×Int×Int×Bool×(List aJ)×(List ax)×(List aG)×(List aa)×(List aa)×(List aa)×(List aF)×(List aa)×(List Bool)×(List aa)×Unit)) (
  bif r2.2.1 then
   Option.bind (idx a0.2.2.1 r2.1) fun y3=>
   some (Sum.inr (r2.1,r2.2.1,a1.1,a1.2.1.1,a1.2.1.2,a1.2.2,y3.1,y3.2,a0.1.1,a0.1.2.1,a0.1.2.2.1,a0.1.2.2.2.1,a0.1.2.2.2.2.1,a0.1.2.2.2.2.2.1,a0.1.2.2.2.2.2.2.1,a0.1.2.2.2.2.2.2.2.1,a0.1.2.2.2.2.2.2.2.2,a0.2.2.1,a0.2.1,a0.2.2.2.1,a0.2.2.2.2.1,a0.2.2.2.2.2.1,a0.2.2.2.2.2.2.1,a0.2.2.2.2.2.2.2.1,()))
  else
   aS (β:=((Int×(aj×(List aa)×(List aa)×(List aa)×(List aF)×(List aa)×(List Bool)×(List aa)×Unit)×Unit) ⊕ (Int×Bool×Bool×Int×Int×(List UInt8)×Bool×(List Int)×(List UInt8)×(List UInt8)×Int×Int×Int×Bool×(List aJ)×(List ax)×(List aG)×(List aa)×(List aa)×(List aa)×(List aF)×(List aa)×(List Bool)×(List aa)×Unit))) (γ:=(Int×Bool×Bool×Int×Int×(List UInt8)×Bool×(List Int)×(List UInt8)×(List UInt8)×Int×Int×Int×Bool×(List aJ)×(List ax)×(List aG)×(List aa)×(List aa)×(List aa)×(List aF)×(List aa)×(List Bool)×(List aa)×Unit)) (
    iter (X:=mz) (β:=uB) (r2.1.natAbs+(a0.2.2.1.length+(Int.natAbs ((a0.2.2.1.length:Int))+(Int.natAbs (0:Int)+(a1.2.1.1.natAbs+(a1.2.1.2.natAbs+(a1.2.2.length+(r1.1.2.length+(a0.1.1.length+(a0.1.2.1.length+(a0.1.2.2.1.natAbs+(a0.1.2.2.2.1.natAbs+(a0.1.2.2.2.2.1.natAbs+(a0.1.2.2.2.2.2.2.1.length+(a0.1.2.2.2.2.2.2.2.1.length+(a0.1.2.2.2.2.2.2.2.2.length+(a0.2.2.1.length+(a0.2.1.length+(a0.2.2.2.1.length+(a0.2.2.2.2.1.length+(a0.2.2.2.2.2.1.length+(a0.2.2.2.2.2.2.1.length+(a0.2.2.2.2.2.2.2.1.length+2))))))))))))))))))))))) (r2.1,r2.2.1,a0.2.2.1,(a0.2.2.1.length:Int),0,a1.1,a1.2.1.1,a1.2.1.2,a1.2.2,r1.1.1,r1.1.2,a0.1.1,a0.1.2.1,a0.1.2.2.1,a0.1.2.2.2.1,a0.1.2.2.2.2.1,a0.1.2.2.2.2.2.1,a0.1.2.2.2.2.2.2.1,a0.1.2.2.2.2.2.2.2.1,a0.1.2.2.2.2.2.2.2.2,a0.2.2.1,a0.2.1,a0.2.2.2.1,a0.2.2.2.2.1,a0.2.2.2.2.2.1,a0.2.2.2.2.2.2.1,a0.2.2.2.2.2.2.2.1,()) (pQ)) fun v7=>
   some (Sum.inr (v7.1,v7.2.1,v7.2.2.1,v7.2.2.2.1,v7.2.2.2.2.1,v7.2.2.2.2.2.1,v7.2.2.2.2.2.2.1,v7.2.2.2.2.2.2.2.1,v7.2.2.2.2.2.2.2.2.1,v7.2.2.2.2.2.2.2.2.2.1,v7.2.2.2.2.2.2.2.2.2.2.1,v7.2.2.2.2.2.2.2.2.2.2.2.1,v7.2.2.2.2.2.2.2.2.2.2.2.2.1,v7.2.2.2.2.2.2.2.2.2.2.2.2.2.1,v7.2.2.2.2.2.2.2.2.2.2.2.2.2.2.1,v7.2.2.2.2.2.2.2.2.2.2.2.2.2.2.2.1,v7.2.2.2.2.2.2.2.2.2.2.2.2.2.2.2.2.1,v7.2.2.2.2.2.2.2.2.2.2.2.2.2.2.2.2.2.1,v7.2.2.2.2.2.2.2.2.2.2.2.2.2.2.2.2.2.2.1,v7.2.2.2.2.2.2.2.2.2.2.2.2.2.2.2.2.2.2.2.1,v7.2.2.2.2.2.2.2.2.2.2.2.2.2.2.2.2.2.2.2.2.1,v7.2.2.2.2.2.2.2.2.2.2.2.2.2.2.2.2.2.2.2.2.2.1,v7.2.2.2.2.2.2.2.2.2.2.2.2.2.2.2.2.2.2.2.2.2.2.1,v7.2.2.2.2.2.2.2.2.2.2.2.2.2.2.2.2.2.2.2.2.2.2.2.1,()))) fun v8=>
 Option.bind (qa (v8.2.2.2.1,v8.2.2.2.2.1) (if v8.2.2.2.2.1>v8.2.2.2.2.2.2.2.2.2.2.2.1 then v8.2.2.2.2.1 else v8.2.2.2.2.2.2.2.2.2.2.2.1)) fun r9=>
 aS (β:=(Int×(aj×(List aa)×(List aa)×(List aa)×(List aF)×(List aa)×(List Bool)×(List aa)×Unit)×Unit)) (γ:=(Int×Bool×Bool×(List Int)×(List UInt8)×(List UInt8)×Int×Int×Int×Bool×(List aJ)×(List ax)×(List aG)×(List aa)×(List aa)×(List aa)×(List aF)×(List aa)×(List Bool)×(List aa)×Unit)) (
  bif v8.2.2.1 then
   Option.bind (qN (v8.2.2.2.2.2.2.2.2.1,v8.2.2.2.2.2.2.2.2.2.1,v8.2.2.2.2.2.2.2.2.2.2.1,v8.2.2.2.2.2.2.2.2.2.2.2.1,v8.2.2.2.2.2.2.2.2.2.2.2.2.1,v8.2.2.2.2.2.2.2.2.2.2.2.2.2.1,v8.2.2.2.2.2.2.2.2.2.2.2.2.2.2.1,v8.2.2.2.2.2.2.2.2.2.2.2.2.2.2.2.1,v8.2.2.2.2.2.2.2.2.2.2.2.2.2.2.2.2.1) (v8.2.2.2.2.2.2.1,v8.2.2.2.2.2.2.2.1) (v8.2.2.2.1,v8.2.2.2.2.1)) fun r10=>
   some (Sum.inr (v8.1,v8.2.1,r10.1.1,r10.1.2,v8.2.2.2.2.2.2.2.2.1,v8.2.2.2.2.2.2.2.2.2.1,v8.2.2.2.2.2.2.2.2.2.2.1,v8.2.2.2.2.2.2.2.2.2.2.2.1,v8.2.2.2.2.2.2.2.2.2.2.2.2.1,v8.2.2.2.2.2.2.2.2.2.2.2.2.2.1,v8.2.2.2.2.2.2.2.2.2.2.2.2.2.2.1,v8.2.2.2.2.2.2.2.2.2.2.2.2.2.2.2.1,v8.2.2.2.2.2.2.2.2.2.2.2.2.2.2.2.2.1,v8.2.2.2.2.2.2.2.2.2.2.2.2.2.2.2.2.2.1,v8.2.2.2.2.2.2.2.2.2.2.2.2.2.2.2.2.2.2.1,v8.2.2.2.2.2.2.2.2.2.2.2.2.2.2.2.2.2.2.2.1,v8.2.2.2.2.2.2.2.2.2.2.2.2.2.2.2.2.2.2.2.2.1,v8.2.2.2.2.2.2.2.2.2.2.2.2.2.2.2.2.2.2.2.2.2.1,v8.2.2.2.2.2.2.2.2.2.2.2.2.2.2.2.2.2.2.2.2.2.2.1,v8.2.2.2.2.2.2.2.2.2.2.2.2.2.2.2.2.2.2.2.2.2.2.2.1,()))
  else
   some (Sum.inr (v8.1,v8.2.1,r9.1.1,r9.1.2,v8.2.2.2.2.2.2.2.2.1,v8.2.2.2.2.2.2.2.2.2.1,v8.2.2.2.2.2.2.2.2.2.2.1,v8.2.2.2.2.2.2.2.2.2.2.2.1,v8.2.2.2.2.2.2.2.2.2.2.2.2.1,v8.2.2.2.2.2.2.2.2.2.2.2.2.2.1,v8.2.2.2.2.2.2.2.2.2.2.2.2.2.2.1,v8.2.2.2.2.2.2.2.2.2.2.2.2.2.2.2.1,v8.2.2.2.2.2.2.2.2.2.2.2.2.2.2.2.2.1,v8.2.2.2.2.2.2.2.2.2.2.2.2.2.2.2.2.2.1,v8.2.2.2.2.2.2.2.2.2.2.2.2.2.2.2.2.2.2.1,v8.2.2.2.2.2.2.2.2.2.2.2.2.2.2.2.2.2.2.2.1,v8.2.2.2.2.2.2.2.2.2.2.2.2.2.2.2.2.2.2.2.2.1,v8.2.2.2.2.2.2.2.2.2.2.2.2.2.2.2.2.2.2.2.2.2.1,v8.2.2.2.2.2.2.2.2.2.2.2.2.2.2.2.2.2.2.2.2.2.2.1,v8.2.2.2.2.2.2.2.2.2.2.2.2.2.2.2.2.2.2.2.2.2.2.2.1,()))) fun v11=>
 Option.bind (jU (v11.2.2.1,v11.2.2.2.1)) fun r12=>
 bif !r12.1 then
  some (1,((v11.2.2.2.2.1,v11.2.2.2.2.2.1,v11.2.2.2.2.2.2.1,v11.2.2.2.2.2.2.2.1,v11.2.2.2.2.2.2.2.2.1,v11.2.2.2.2.2.2.2.2.2.1,v11.2.2.2.2.2.2.2.2.2.2.1,v11.2.2.2.2.2.2.2.2.2.2.2.1,v11.2.2.2.2.2.2.2.2.2.2.2.2.1),v11.2.2.2.2.2.2.2.2.2.2.2.2.2.2.1,v11.2.2.2.2.2.2.2.2.2.2.2.2.2.1,v11.2.2.2.2.2.2.2.2.2.2.2.2.2.2.2.1,v11.2.2.2.2.2.2.2.2.2.2.2.2.2.2.2.2.1,v11.2.2.2.2.2.2.2.2.2.2.2.2.2.2.2.2.2.1,v11.2.2.2.2.2.2.2.2.2.2.2.2.2.2.2.2.2.2.1,v11.2.2.2.2.2.2.2.2.2.2.2.2.2.2.2.2.2.2.2.1,()),())
 else
  chk (decide (((v11.2.2.2.2.2.2.2.2.2.2.2.2.2.2.2.2.2.1.length)+1)*32≤140737488355328)&&decide ((v11.2.2.2.2.2.2.2.2.2.2.2.2.2.2.2.2.2.1.length)+1≤maxLen)) <|
  bif v11.2.1 then
   Option.bind (gw ((v11.2.2.2.2.1,v11.2.2.2.2.2.1,v11.2.2.2.2.2.2.1,v11.2.2.2.2.2.2.2.1,v11.2.2.2.2.2.2.2.2.1,v11.2.2.2.2.2.2.2.2.2.1,v11.2.2.2.2.2.2.2.2.2.2.1,v11.2.2.2.2.2.2.2.2.2.2.2.1,v11.2.2.2.2.2.2.2.2.2.2.2.2.1),v11.2.2.2.2.2.2.2.2.2.2.2.2.2.2.1,v11.2.2.2.2.2.2.2.2.2.2.2.2.2.1,v11.2.2.2.2.2.2.2.2.2.2.2.2.2.2.2.1,v11.2.2.2.2.2.2.2.2.2.2.2.2.2.2.2.2.1,v11.2.2.2.2.2.2.2.2.2.2.2.2.2.2.2.2.2.1++[(v11.2.2.1,v11.2.2.2.1)],v11.2.2.2.2.2.2.2.2.2.2.2.2.2.2.2.2.2.2.1,v11.2.2.2.2.2.2.2.2.2.2.2.2.2.2.2.2.2.2.2.1,()) v11.1 (v11.2.2.1,v11.2.2.2.1)) fun r13=>
   chk (decide (0≤v11.1)&&decide (v11.1<(r13.1.2.2.2.2.2.2.1.length:Int))) <|
   Option.bind (r13.1.2.2.2.2.2.2.1[v11.1.toNat]?) fun _=>
   Option.bind (bO r13.1.2.2.2.1 ()) fun r15=>
   bif r15.1 then
    some (1,(r13.1.1,r13.1.2.1,r13.1.2.2.1,r13.1.2.2.2.1,r13.1.2.2.2.2.1,r13.1.2.2.2.2.2.1,List.set r13.1.2.2.2.2.2.2.1 v11.1.toNat true,r13.1.2.2.2.2.2.2.2.1,()),())
   else
    some (0,(r13.1.1,r13.1.2.1,r13.1.2.2.1,r13.1.2.2.2.1,r13.1.2.2.2.2.1,r13.1.2.2.2.2.2.1,List.set r13.1.2.2.2.2.2.2.1 v11.1.toNat true,r13.1.2.2.2.2.2.2.2.1,()),())
  else
   Option.bind (iW ((v11.2.2.2.2.1,v11.2.2.2.2.2.1,v11.2.2.2.2.2.2.1,v11.2.2.2.2.2.2.2.1,v11.2.2.2.2.2.2.2.2.1,v11.2.2.2.2.2.2.2.2.2.1,v11.2.2.2.2.2.2.2.2.2.2.1,v11.2.2.2.2.2.2.2.2.2.2.2.1,v11.2.2.2.2.2.2.2.2.2.2.2.2.1),v11.2.2.2.2.2.2.2.2.2.2.2.2.2.2.1,v11.2.2.2.2.2.2.2.2.2.2.2.2.2.1,v11.2.2.2.2.2.2.2.2.2.2.2.2.2.2.2.1,v11.2.2.2.2.2.2.2.2.2.2.2.2.2.2.2.2.1,v11.2.2.2.2.2.2.2.2.2.2.2.2.2.2.2.2.2.1++[(v11.2.2.1,v11.2.2.2.1)],v11.2.2.2.2.2.2.2.2.2.2.2.2.2.2.2.2.2.2.1,v11.2.2.2.2.2.2.2.2.2.2.2.2.2.2.2.2.2.2.2.1,()) (v11.2.2.1,v11.2.2.2.1)) fun r16=>
   bif r16.1 != 0 then
    some (r16.1,(r16.2.1.1,r16.2.1.2.1,r16.2.1.2.2.1,r16.2.1.2.2.2.1,r16.2.1.2.2.2.2.1,r16.2.1.2.2.2.2.2.1,r16.2.1.2.2.2.2.2.2.1,r16.2.1.2.2.2.2.2.2.2.1,()),())
   else
    Option.bind (bO r16.2.1.2.2.2.1 ()) fun r17=>
    bif r17.1 then
     some (1,(r16.2.1.1,r16.2.1.2.1,r16.2.1.2.2.1,r16.2.1.2.2.2.1,r16.2.1.2.2.2.2.1,r16.2.1.2.2.2.2.2.1,r16.2.1.2.2.2.2.2.2.1,r16.2.1.2.2.2.2.2.2.2.1,()),())
    else
     some (0,(r16.2.1.1,r16.2.1.2.1,r16.2.1.2.2.1,r16.2.1.2.2.2.1,r16.2.1.2.2.2.2.1,r16.2.1.2.2.2.2.2.1,r16.2.1.2.2.2.2.2.2.1,r16.2.1.2.2.2.2.2.2.2.1,()),())
abbrev ox:Type:=(List aJ)×Int×Int×(List UInt8)×(List UInt8)×Int×Int×Int×Bool×(List aJ)×(List ax)×(List aG)×(List aa)×(List aa)×(List aa)×(List aa)×(List aF)×(List aa)×(List Bool)×Unit
abbrev xq:Type:=((Int×(aj×(List aa)×(List aa)×(List aa)×(List aF)×(List aa)×(List Bool)×(List aa)×Unit)×Unit) ⊕ ((List UInt8)×(List UInt8)×Int×Int×Int×Bool×(List aJ)×(List ax)×(List aG)×(List aa)×(List aa)×(List aa)×(List aa)×(List aF)×(List aa)×(List Bool)×Unit))
def rq (x1:ox) (again:ox→Option xq):Option xq:=
 match x1 with
 | (A,B,C,D,E,F,G,H,I,J,K,L,M,N,O,P,Q,R,S,_)=>
 bif decide (C<B) then
  Option.bind (idx A C) fun y2=>
  bif !I then
   chk (decide (0≤C)&&decide (C<(P.length:Int))) <|
   Option.bind (P[C.toNat]?) fun y3=>
   Option.bind (qN (D,E,F,G,H,I,J,K,L) y3 y2.2) fun r4=>
   chk (decide (0≤C)&&decide (C<(N.length:Int))) <|
   Option.bind (N[C.toNat]?) fun _=>
   again (A,B,w64 (C+1),D,E,F,G,H,I,J,K,L,M,List.set N C.toNat r4.1,O,P,Q,R,S,())
  else
   again (A,B,w64 (C+1),D,E,F,G,H,I,J,K,L,M,N,O,P,Q,R,S,())
 else
  some (Sum.inr (D,E,F,G,H,I,J,K,L,M,N,O,P,Q,R,S,()))
abbrev oy:Type:=Int×Int×(List UInt8)×(List UInt8)×Int×Int×Int×Bool×(List aJ)×(List ax)×(List aG)×(List aa)×(List aa)×(List aa)×(List aa)×(List aF)×(List aa)×(List Bool)×Unit
abbrev xj:Type:=((Int×(aj×(List aa)×(List aa)×(List aa)×(List aF)×(List aa)×(List Bool)×(List aa)×Unit)×Unit) ⊕ ((List UInt8)×(List UInt8)×Int×Int×Int×Bool×(List aJ)×(List ax)×(List aG)×(List aa)×(List aa)×(List aa)×(List aa)×(List aF)×(List aa)×(List Bool)×Unit))
def rK (x1:oy) (again:oy→Option xj):Option xj:=
 match x1 with
 | (A,B,C,D,E,F,G,H,I,J,K,L,M,N,O,P,Q,R,_)=>
 bif decide (B<A) then
  chk (decide (0≤B)&&decide (B<(P.length:Int))) <|
  Option.bind (P[B.toNat]?) fun y2=>
  bif H then
   chk (decide (0≤y2.1)&&decide (y2.1<(M.length:Int))) <|
   Option.bind (M[y2.1.toNat]?) fun y3=>
   Option.bind (idx I y2.1) fun y4=>
   Option.bind (qN (C,D,E,F,G,H,I,J,K) y2.2 y4.2) fun r5=>
   Option.bind (aV y3 r5.1) fun r6=>
   chk (decide (0≤y2.1)&&decide (y2.1<(M.length:Int))) <|
   Option.bind (M[y2.1.toNat]?) fun _=>
   again (A,w64 (B+1),C,D,E,F,G,H,I,J,K,L,List.set M y2.1.toNat r6.1,N,O,P,Q,R,())
  else
   again (A,w64 (B+1),C,D,E,F,G,H,I,J,K,L,M,N,O,P,Q,R,())
 else
  some (Sum.inr (C,D,E,F,G,H,I,J,K,L,M,N,O,P,Q,R,()))
def wL (a0:aj×(List aa)×(List aa)×(List aa)×(List aF)×(List aa)×(List Bool)×(List aa)×Unit):Option (Int×(aj×(List aa)×(List aa)×(List aa)×(List aF)×(List aa)×(List Bool)×(List aa)×Unit)×Unit):=
 chk (decide (0≤((a0.2.2.2.1.length:Int)))&&decide (((a0.2.2.2.1.length:Int))≤((a0.2.2.2.1.length:Int)))&&decide ((32:Int)*((a0.2.2.2.1.length:Int))≤281474976710656)&&decide (((a0.2.2.2.1.length:Int))≤9223372036854775807)) <|
 aS (β:=(Int×(aj×(List aa)×(List aa)×(List aa)×(List aF)×(List aa)×(List Bool)×(List aa)×Unit)×Unit)) (γ:=((List UInt8)×(List UInt8)×Int×Int×Int×Bool×(List aJ)×(List ax)×(List aG)×(List aa)×(List aa)×(List aa)×(List aa)×(List aF)×(List aa)×(List Bool)×Unit)) (
  iter (X:=ox) (β:=xq) (a0.1.2.2.2.2.2.2.1.length+(Int.natAbs ((a0.1.2.2.2.2.2.2.1.length:Int))+(Int.natAbs (0:Int)+(a0.1.1.length+(a0.1.2.1.length+(a0.1.2.2.1.natAbs+(a0.1.2.2.2.1.natAbs+(a0.1.2.2.2.2.1.natAbs+(a0.1.2.2.2.2.2.2.1.length+(a0.1.2.2.2.2.2.2.2.1.length+(a0.1.2.2.2.2.2.2.2.2.length+(a0.2.2.1.length+(List.length ((List.replicate (Int.toNat ((a0.2.2.2.1.length:Int))) (false,[]):List (aa)):List aa)+(a0.2.1.length+(a0.2.2.2.1.length+(a0.2.2.2.2.1.length+(a0.2.2.2.2.2.1.length+(a0.2.2.2.2.2.2.1.length+2)))))))))))))))))) (a0.1.2.2.2.2.2.2.1,(a0.1.2.2.2.2.2.2.1.length:Int),0,a0.1.1,a0.1.2.1,a0.1.2.2.1,a0.1.2.2.2.1,a0.1.2.2.2.2.1,a0.1.2.2.2.2.2.1,a0.1.2.2.2.2.2.2.1,a0.1.2.2.2.2.2.2.2.1,a0.1.2.2.2.2.2.2.2.2,a0.2.2.1,(List.replicate (Int.toNat ((a0.2.2.2.1.length:Int))) (false,[]):List (aa)),a0.2.1,a0.2.2.2.1,a0.2.2.2.2.1,a0.2.2.2.2.2.1,a0.2.2.2.2.2.2.1,()) (rq)) fun v6=>
 aS (β:=(Int×(aj×(List aa)×(List aa)×(List aa)×(List aF)×(List aa)×(List Bool)×(List aa)×Unit)×Unit)) (γ:=((List UInt8)×(List UInt8)×Int×Int×Int×Bool×(List aJ)×(List ax)×(List aG)×(List aa)×(List aa)×(List aa)×(List aa)×(List aF)×(List aa)×(List Bool)×Unit)) (
  iter (X:=oy) (β:=xj) (Int.natAbs ((v6.2.2.2.2.2.2.2.2.2.2.2.2.2.1.length:Int))+(Int.natAbs (0:Int)+(v6.1.length+(v6.2.1.length+(v6.2.2.1.natAbs+(v6.2.2.2.1.natAbs+(v6.2.2.2.2.1.natAbs+(v6.2.2.2.2.2.2.1.length+(v6.2.2.2.2.2.2.2.1.length+(v6.2.2.2.2.2.2.2.2.1.length+(v6.2.2.2.2.2.2.2.2.2.1.length+(v6.2.2.2.2.2.2.2.2.2.2.1.length+(v6.2.2.2.2.2.2.2.2.2.2.2.1.length+(v6.2.2.2.2.2.2.2.2.2.2.2.2.1.length+(v6.2.2.2.2.2.2.2.2.2.2.2.2.2.1.length+(v6.2.2.2.2.2.2.2.2.2.2.2.2.2.2.1.length+(v6.2.2.2.2.2.2.2.2.2.2.2.2.2.2.2.1.length+2))))))))))))))))) ((v6.2.2.2.2.2.2.2.2.2.2.2.2.2.1.length:Int),0,v6.1,v6.2.1,v6.2.2.1,v6.2.2.2.1,v6.2.2.2.2.1,v6.2.2.2.2.2.1,v6.2.2.2.2.2.2.1,v6.2.2.2.2.2.2.2.1,v6.2.2.2.2.2.2.2.2.1,v6.2.2.2.2.2.2.2.2.2.1,v6.2.2.2.2.2.2.2.2.2.2.1,v6.2.2.2.2.2.2.2.2.2.2.2.1,v6.2.2.2.2.2.2.2.2.2.2.2.2.1,v6.2.2.2.2.2.2.2.2.2.2.2.2.2.1,v6.2.2.2.2.2.2.2.2.2.2.2.2.2.2.1,v6.2.2.2.2.2.2.2.2.2.2.2.2.2.2.2.1,()) (rK)) fun v14=>
 Option.bind (iN v14.2.2.2.2.2.2.2.2.2.2.1 ()) fun r15=>
 bif r15.1 then
  some (1,((v14.1,v14.2.1,v14.2.2.1,v14.2.2.2.1,v14.2.2.2.2.1,v14.2.2.2.2.2.1,v14.2.2.2.2.2.2.1,v14.2.2.2.2.2.2.2.1,v14.2.2.2.2.2.2.2.2.1),v14.2.2.2.2.2.2.2.2.2.2.2.1,v14.2.2.2.2.2.2.2.2.2.1,v14.2.2.2.2.2.2.2.2.2.2.2.2.1,v14.2.2.2.2.2.2.2.2.2.2.2.2.2.1,v14.2.2.2.2.2.2.2.2.2.2.2.2.2.2.1,v14.2.2.2.2.2.2.2.2.2.2.2.2.2.2.2.1,v14.2.2.2.2.2.2.2.2.2.2.1,()),())
 else
  some (0,((v14.1,v14.2.1,v14.2.2.1,v14.2.2.2.1,v14.2.2.2.2.1,v14.2.2.2.2.2.1,v14.2.2.2.2.2.2.1,v14.2.2.2.2.2.2.2.1,v14.2.2.2.2.2.2.2.2.1),v14.2.2.2.2.2.2.2.2.2.2.2.1,v14.2.2.2.2.2.2.2.2.2.1,v14.2.2.2.2.2.2.2.2.2.2.2.2.1,v14.2.2.2.2.2.2.2.2.2.2.2.2.2.1,v14.2.2.2.2.2.2.2.2.2.2.2.2.2.2.1,v14.2.2.2.2.2.2.2.2.2.2.2.2.2.2.2.1,v14.2.2.2.2.2.2.2.2.2.2.1,()),())
abbrev l6:Type:=(List aG)×Int×Int×(List UInt8)×(List UInt8)×Int×Int×Int×Bool×(List aJ)×(List ax)×(List aG)×(List aa)×(List aa)×(List aa)×(List aF)×(List aa)×(List Bool)×(List aa)×(List fZ)×Unit
abbrev xk:Type:=(((Option Nat)×Int×(List fZ)×Unit) ⊕ ((List UInt8)×(List UInt8)×Int×Int×Int×Bool×(List aJ)×(List ax)×(List aG)×(List aa)×(List aa)×(List aa)×(List aF)×(List aa)×(List Bool)×(List aa)×(List fZ)×Unit))
noncomputable def ou (x1:l6) (again:l6→Option xk):Option xk:=
 match x1 with
 | (A,B,C,D,E,F,G,H,I,J,K,L,M,N,O,P,Q,R,S,T,_)=>
 bif decide (C<B) then
  Option.bind (idx A C) fun y2=>
  Option.bind (mK ((D,E,F,G,H,I,J,K,L),M,N,O,P,Q,R,S,()) y2) fun r3=>
  bif r3.1 != 0 then
   some (Sum.inl (none,r3.1,T,()))
  else
   again (A,B,w64 (C+1),r3.2.1.1.1,r3.2.1.1.2.1,r3.2.1.1.2.2.1,r3.2.1.1.2.2.2.1,r3.2.1.1.2.2.2.2.1,r3.2.1.1.2.2.2.2.2.1,r3.2.1.1.2.2.2.2.2.2.1,r3.2.1.1.2.2.2.2.2.2.2.1,r3.2.1.1.2.2.2.2.2.2.2.2,r3.2.1.2.1,r3.2.1.2.2.1,r3.2.1.2.2.2.1,r3.2.1.2.2.2.2.1,r3.2.1.2.2.2.2.2.1,r3.2.1.2.2.2.2.2.2.1,r3.2.1.2.2.2.2.2.2.2.1,T,())
 else
  some (Sum.inr (D,E,F,G,H,I,J,K,L,M,N,O,P,Q,R,S,T,()))
noncomputable def mO (a0:aj) (a1:List fZ):Option ((Option Nat)×Int×(List fZ)×Unit):=
 Option.bind (rD a0) fun r1=>
 bif r1.1 != 0 then
  some (none,r1.1,a1,())
 else
  Option.bind (ng (a0,[],[],[],[],[],[],[],())) fun r2=>
  bif r2.1 != 0 then
   some (none,r2.1,a1,())
  else
   aS (β:=((Option Nat)×Int×(List fZ)×Unit)) (γ:=((List UInt8)×(List UInt8)×Int×Int×Int×Bool×(List aJ)×(List ax)×(List aG)×(List aa)×(List aa)×(List aa)×(List aF)×(List aa)×(List Bool)×(List aa)×(List fZ)×Unit)) (
    iter (X:=l6) (β:=xk) (a0.2.2.2.2.2.2.2.2.length+(Int.natAbs ((a0.2.2.2.2.2.2.2.2.length:Int))+(Int.natAbs (0:Int)+(r2.2.1.1.1.length+(r2.2.1.1.2.1.length+(r2.2.1.1.2.2.1.natAbs+(r2.2.1.1.2.2.2.1.natAbs+(r2.2.1.1.2.2.2.2.1.natAbs+(r2.2.1.1.2.2.2.2.2.2.1.length+(r2.2.1.1.2.2.2.2.2.2.2.1.length+(r2.2.1.1.2.2.2.2.2.2.2.2.length+(r2.2.1.2.1.length+(r2.2.1.2.2.1.length+(r2.2.1.2.2.2.1.length+(r2.2.1.2.2.2.2.1.length+(r2.2.1.2.2.2.2.2.1.length+(r2.2.1.2.2.2.2.2.2.1.length+(r2.2.1.2.2.2.2.2.2.2.1.length+(List.length a1+2))))))))))))))))))) (a0.2.2.2.2.2.2.2.2,(a0.2.2.2.2.2.2.2.2.length:Int),0,r2.2.1.1.1,r2.2.1.1.2.1,r2.2.1.1.2.2.1,r2.2.1.1.2.2.2.1,r2.2.1.1.2.2.2.2.1,r2.2.1.1.2.2.2.2.2.1,r2.2.1.1.2.2.2.2.2.2.1,r2.2.1.1.2.2.2.2.2.2.2.1,r2.2.1.1.2.2.2.2.2.2.2.2,r2.2.1.2.1,r2.2.1.2.2.1,r2.2.1.2.2.2.1,r2.2.1.2.2.2.2.1,r2.2.1.2.2.2.2.2.1,r2.2.1.2.2.2.2.2.2.1,r2.2.1.2.2.2.2.2.2.2.1,a1,()) (ou)) fun v6=>
   Option.bind (wL ((v6.1,v6.2.1,v6.2.2.1,v6.2.2.2.1,v6.2.2.2.2.1,v6.2.2.2.2.2.1,v6.2.2.2.2.2.2.1,v6.2.2.2.2.2.2.2.1,v6.2.2.2.2.2.2.2.2.1),v6.2.2.2.2.2.2.2.2.2.1,v6.2.2.2.2.2.2.2.2.2.2.1,v6.2.2.2.2.2.2.2.2.2.2.2.1,v6.2.2.2.2.2.2.2.2.2.2.2.2.1,v6.2.2.2.2.2.2.2.2.2.2.2.2.2.1,v6.2.2.2.2.2.2.2.2.2.2.2.2.2.2.1,v6.2.2.2.2.2.2.2.2.2.2.2.2.2.2.2.1,())) fun r7=>
   bif r7.1 != 0 then
    some (none,r7.1,v6.2.2.2.2.2.2.2.2.2.2.2.2.2.2.2.2.1,())
   else
    some (some (v6.2.2.2.2.2.2.2.2.2.2.2.2.2.2.2.2.1.length),0,v6.2.2.2.2.2.2.2.2.2.2.2.2.2.2.2.2.1++[(r7.2.1.1,r7.2.1.2.1,r7.2.1.2.2.1,r7.2.1.2.2.2.1,r7.2.1.2.2.2.2.1,r7.2.1.2.2.2.2.2.1,r7.2.1.2.2.2.2.2.2.1,r7.2.1.2.2.2.2.2.2.2.1)],())
abbrev xD:Type:=(List aa)×Int×Int×Bool×(List Int)×Bool×(List Int)×Unit
abbrev F5:Type:=((aa×Unit) ⊕ (Bool×(List Int)×Bool×(List Int)×Unit))
def BS (x1:xD) (again:xD→Option F5):Option F5:=
 match x1 with
 | (A,B,C,D,E,F,G,_)=>
 bif decide (C<B) then
  Option.bind (idx A C) fun y2=>
  Option.bind (aV (F,G) y2) fun r3=>
  again (A,B,w64 (C+1),D,E,r3.1.1,r3.1.2,())
 else
  some (Sum.inr (D,E,F,G,()))
def Bc (a0:List aa):Option (aa×Unit):=
 Option.bind (bD 0) fun r1=>
 aS (β:=(aa×Unit)) (γ:=(Bool×(List Int)×Bool×(List Int)×Unit)) (
  iter (X:=xD) (β:=F5) (List.length a0+(Int.natAbs ((List.length a0:Int))+(Int.natAbs (0:Int)+(List.length ([]:List Int)+(r1.1.2.length+2))))) (a0,(List.length a0:Int),0,false,[],r1.1.1,r1.1.2,()) (BS)) fun v5=>
 some ((v5.2.2.1,v5.2.2.2.1),())
def jT (a0:Option Nat) (a1:aa) (a2:List fZ):Option (ak×Unit):=
 Option.bind (a0) fun h1=>
 Option.bind (a2[h1]?) fun y2=>
 Option.bind (lI a1 y2.1.2.2.2.1) fun r3=>
 some (r3.1,())
def ru (a0:Option Nat) (a1:List fZ):Option (vn×Int×Unit):=
 Option.bind (a0) fun h1=>
 Option.bind (a1[h1]?) fun y2=>
 Option.bind (Bc y2.2.1) fun r3=>
 Option.bind (a0) fun h4=>
 Option.bind (a1[h4]?) fun y5=>
 Option.bind (Bc y5.2.2.2.2.2.1) fun r6=>
 Option.bind (a0) fun h7=>
 Option.bind (a1[h7]?) fun y8=>
 Option.bind (Bc y8.2.2.2.2.2.2.2) fun r9=>
 Option.bind (aV r3.1 r6.1) fun r10=>
 Option.bind (aV r10.1 r9.1) fun r11=>
 Option.bind (iM [r3.1,r6.1,r10.1,r9.1,r11.1] ()) fun r12=>
 bif r12.1 then
  some (((0,0),(0,0),(0,0),(0,0),0,0),1,())
 else
  Option.bind (jT a0 r3.1 a1) fun r13=>
  Option.bind (jT a0 r6.1 a1) fun r14=>
  Option.bind (jT a0 r10.1 a1) fun r15=>
  Option.bind (jT a0 r9.1 a1) fun r16=>
  Option.bind (jT a0 r11.1 a1) fun r17=>
  some ((r13.1,r14.1,r15.1,r16.1,r17.1),0,())
noncomputable def BU (a0:aj):Option (vn×Int×Unit):=
 Option.bind (mO a0 []) fun r1=>
 bif r1.2.1 != 0 then
  some (((0,0),(0,0),(0,0),(0,0),0,0),r1.2.1,())
 else
  Option.bind (ru r1.1 r1.2.2.1) fun r2=>
  some (r2.1,r2.2.1,())
end Go.Md
namespace Go.Md
open Go.Dn
def jd (s:List UInt8) (c:Int):Option (Int×Unit):=some (Lib.indexByte s c.toNat.toUInt8,())
def qg (a0:List UInt8) (a1:List UInt8):Option (Bool×Unit):=
 bif decide (((List.length a0:Int))≥((List.length a1:Int))) then
  chk (decide (0≤(0:Int))&&decide ((0:Int)≤((List.length a1:Int)))&&decide (((List.length a1:Int))≤(List.length a0:Int))) <|
  some ((List.drop 0 (List.take (Int.toNat ((List.length a1:Int))) a0))==a1,())
 else
  some (false,())
def qL (a0:List UInt8) (a1:List UInt8):Option ((List UInt8)×Bool×Unit):=
 Option.bind (qg a0 a1) fun r1=>
 bif !r1.1 then
  some (a0,false,())
 else
  chk (decide (0≤((List.length a1:Int)))&&decide (((List.length a1:Int))≤((List.length a0:Int)))&&decide (((List.length a0:Int))≤(List.length a0:Int))) <|
  some (List.drop (Int.toNat ((List.length a1:Int))) (List.take (Int.toNat ((List.length a0:Int))) a0),true,())
def Dk (a0:List UInt8) (a1:List UInt8):Option ((List UInt8)×Bool×Unit):=
 Option.bind (qL a0 a1) fun r1=>
 some (r1.1,r1.2.1,())
def tT (a0:List UInt8) (a1:List UInt8):Option (Int×Unit):=
 bif ((List.length a1:Int))==0 then
  some (0,())
 else
  bif a1==a0 then
   some (0,())
  else
   bif ((List.length a1:Int))==1 then
    Option.bind (Ef a1 0) fun c1=>
    Option.bind (jd a0 (c1.toNat:Int)) fun r2=>
    some (r2.1,())
   else
    bif decide (((List.length a1:Int))≥((List.length a0:Int))) then
     some ((-1),())
    else
     none
def vL (a0:List UInt8) (a1:List UInt8):Option ((List UInt8)×(List UInt8)×Bool×Unit):=
 Option.bind (tT a0 a1) fun r1=>
 bif decide (r1.1≥0) then
  chk (decide (0≤(0:Int))&&decide ((0:Int)≤r1.1)&&decide (r1.1≤(List.length a0:Int))) <|
  chk (decide (0≤(w64 (r1.1+((List.length a1:Int)))))&&decide ((w64 (r1.1+((List.length a1:Int))))≤((List.length a0:Int)))&&decide (((List.length a0:Int))≤(List.length a0:Int))) <|
  some (List.drop 0 (List.take (Int.toNat r1.1) a0),List.drop (Int.toNat (w64 (r1.1+((List.length a1:Int))))) (List.take (Int.toNat ((List.length a0:Int))) a0),true,())
 else
  some (a0,[],false,())
def LW (a0:List UInt8) (a1:List UInt8):Option ((List UInt8)×(List UInt8)×Bool×Unit):=
 Option.bind (vL a0 a1) fun r1=>
 some (r1.1,r1.2.1,r1.2.2.1,())
abbrev Bq:Type:=(List UInt8)×Int×Int×Int×Int×Unit
abbrev A9:Type:=((Bool×Unit) ⊕ Unit)
def NR (x1:Bq) (again:Bq→Option A9):Option A9:=
 match x1 with
 | (A,B,C,D,E,_)=>
 bif decide (E<D) then
  Option.bind (Ef A E) fun c2=>
  bif decide ((c2.toNat:Int)<B) then
   some (Sum.inl (false,()))
  else
   Option.bind (Ef A E) fun c3=>
   bif decide ((c3.toNat:Int)>C) then
    some (Sum.inl (false,()))
   else
    again (A,B,C,D,w64 (E+1),())
 else
  some (Sum.inr ())
def LS (a0:List UInt8) (a1:Int) (a2:Int):Option (Bool×Unit):=
 aS (β:=(Bool×Unit)) (γ:=Unit) (
  iter (X:=Bq) (β:=A9) (List.length a0+(Int.natAbs a1+(Int.natAbs a2+(Int.natAbs ((List.length a0:Int))+(Int.natAbs (0:Int)+2))))) (a0,a1,a2,(List.length a0:Int),0,()) (NR)) fun _=>
 some (true,())
def EG (a0:List UInt8):Option (Bool×Unit):=
 bif !(a0==[]) then
  Option.bind (LS a0 48 57) fun r1=>
  some (r1.1,())
 else
  some (false,())
def GU (a0:List UInt8):Option (Bool×Unit):=
 Option.bind (EG a0) fun r1=>
 bif r1.1 then
  bif ((List.length a0:Int))==1 then
   some (true,())
  else
   Option.bind (Ef a0 0) fun c2=>
   some ((c2.toNat:Int) != 48,())
 else
  some (false,())
abbrev BG:Type:=Bool×(List UInt8)×(List UInt8)×Int×Int×Int×Int×Bool×(List Int)×Unit
abbrev Bw:Type:=((ak×Int×Unit) ⊕ (Bool×(List UInt8)×Int×Int×Bool×(List Int)×Unit))
def N7 (x1:BG) (again:BG→Option Bw):Option Bw:=
 match x1 with
 | (A,B,C,D,E,F,G,H,I,_)=>
 bif decide (E<D) then
  Option.bind (bD 10) fun r2=>
  Option.bind (eo (H,I) r2.1) fun r3=>
  chk (decide (B.length+C.length≤maxLen)) <|
  Option.bind (Ef (B++C) E) fun c4=>
  Option.bind (bD (w64 (wu8 ((c4.toNat:Int) - 48)))) fun r5=>
  Option.bind (aV r3.1 r5.1) fun r6=>
  again (A,B,C,D,w64 (E+1),F,G,r6.1.1,r6.1.2,())
 else
  some (Sum.inr (A,C,F,G,H,I,()))
def FO (a0:Bool) (a1:List UInt8) (a2:List UInt8):Option (ak×Int×Unit):=
 Option.bind (bD 0) fun r1=>
 chk (decide (List.length a1+List.length a2≤maxLen)) <|
 aS (β:=(ak×Int×Unit)) (γ:=(Bool×(List UInt8)×Int×Int×Bool×(List Int)×Unit)) (
  iter (X:=BG) (β:=Bw) (List.length a1+(List.length a2+(Int.natAbs ((List.length (a1++a2):Int))+(Int.natAbs (0:Int)+(Int.natAbs (0:Int)+(Int.natAbs (0:Int)+(r1.1.2.length+2))))))) (a0,a1,a2,(List.length (a1++a2):Int),0,0,0,r1.1.1,r1.1.2,()) (N7)) fun v8=>
 bif v8.1 then
  Option.bind (aC (v8.2.2.2.2.1,v8.2.2.2.2.2.1)) fun r9=>
  bif r9.1==0 then
   some ((0,0),10,())
  else
   Option.bind (aD (v8.2.2.2.2.1,v8.2.2.2.2.2.1)) fun r10=>
   Option.bind (lI r10.1 ((v8.2.1.length:Int))) fun r11=>
   some (r11.1,r11.2.1,())
 else
  Option.bind (lI (v8.2.2.2.2.1,v8.2.2.2.2.2.1) ((v8.2.1.length:Int))) fun r12=>
  some (r12.1,r12.2.1,())
def Fl (a0:List UInt8):Option (ak×Int×Unit):=
 Option.bind (Dk a0 [45]) fun r1=>
 Option.bind (LW r1.1 [46]) fun r2=>
 bif decide (((List.length a0:Int))>40) then
  some ((0,0),10,())
 else
  Option.bind (GU r2.1) fun r3=>
  bif !r3.1 then
   some ((0,0),10,())
  else
   bif r2.2.2.1 then
    Option.bind (EG r2.2.1) fun r4=>
    bif !r4.1 then
     some ((0,0),10,())
    else
     bif decide (((r2.2.1.length:Int))>9) then
      some ((0,0),10,())
     else
      Option.bind (FO r1.2.1 r2.1 r2.2.1) fun r5=>
      some (r5.1,r5.2.1,())
   else
    Option.bind (FO r1.2.1 r2.1 r2.2.1) fun r6=>
    some (r6.1,r6.2.1,())
def B7:Option (Bool×Unit):=
 Option.bind (Fl [50,46,53]) fun r1=>
 bif r1.2.1==0 then
  some (r1.1.1==25,())
 else
  some (false,())
def HT (a0:Int) (a1:Int):Option (Int×Unit):=
 chk (a1 != (0:Int)) <|
 bif decide ((Int.tmod a0 a1)<0) then
  some (w64 ((Int.tmod a0 a1)+a1),())
 else
  some (Int.tmod a0 a1,())
noncomputable def kE (a0:aj) (a1:Int):Option (Bool×Unit):=
 Option.bind (BU a0) fun r1=>
 bif r1.2.1 != 0 then
  bif r1.1.2.2.2.2.1==0 then
   Option.bind (B7) fun r2=>
   some (r2.1,())
  else
   some (false,())
 else
  Option.bind (HT a1 100) fun r3=>
  Option.bind (qA [(a0.1,a0.2.2.1,r1.1.2.2.2.2,r3.1,0,0)]) fun r4=>
  bif r4.1 != 0 then
   Option.bind (B7) fun r5=>
   some (r5.1,())
  else
   Option.bind (yz [(a0.1,a0.2.2.1,r1.1.2.2.2.2,r3.1,0,0)] [(a0.2.2.1,r1.1.2.2.2.2,[a0.1])]) fun r6=>
   bif r6.2.2.1 != 0 then
    some (false,())
   else
    bif ((r6.1.length:Int)) != 1 then
     some (false,())
    else
     Option.bind (idx r6.1 0) fun y7=>
     bif y7.2.2.2 != a0.2.2.1 then
      some (false,())
     else
      bif ((r6.2.1.length:Int)) != 1 then
       some (false,())
      else
       Option.bind (idx r6.2.1 0) fun y8=>
       bif y8.1 != 0 then
        some (false,())
       else
        Option.bind (B7) fun r9=>
        bif !r9.1 then
         some (false,())
        else
         bif (w64 (r1.1.2.2.2.2.1 - 1))==0 then
          some (true,())
         else
          Option.bind (yz [(a0.1,a0.2.2.1,r1.1.2.2.2.2,r3.1,0,0)] [(a0.2.2.1,(w64 (r1.1.2.2.2.2.1 - 1),r1.1.2.2.2.2.2),[a0.1])]) fun r10=>
          bif r10.2.2.1==0 then
           bif ((r10.1.length:Int))==1 then
            Option.bind (idx r10.1 0) fun y11=>
            some (y11.2.2.2==0,())
           else
            some (false,())
          else
           some (false,())
end Go.Md
