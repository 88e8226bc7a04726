/-
  The plain models of the functions that the law reaches, second part. No condition.
-/
import Derived.Test.YtalfglakknbjkaaGreatDoorRm
import Derived.Lib.Bytealg
set_option linter.all false
namespace Go.Md
open Go.Dn
def strings_Compare (a b:List UInt8):Option (Int×Unit):=some (Lib.compareBytes a b,())
abbrev cq:Ty:=(.st (.pair .str aU))
abbrev az:Type:=(List UInt8)×ak
abbrev bO:Ty:=(.st (.pair .bool (.pair aU .str)))
abbrev au:Type:=Bool×ak×(List UInt8)
abbrev cI:Ty:=(.st (.pair tI (.pair tI (.pair .str (.pair aU (.pair .str (.pair aU (.pair tI (.pair (.slice bO) .str)))))))))
abbrev aq:Type:=Int×Int×(List UInt8)×ak×(List UInt8)×ak×Int×(List au)×(List UInt8)
abbrev bK:Ty:=(.st (.pair .str (.pair .str (.pair tI (.pair tI (.pair tI (.pair .bool (.pair (.slice cq) (.pair (.slice cI) (.slice bO))))))))))
abbrev ai:Type:=(List UInt8)×(List UInt8)×Int×Int×Int×Bool×(List az)×(List aq)×(List au)
abbrev JE:Ty:=(.st (.pair aU (.pair aU (.pair aU (.pair aU aU)))))
abbrev uP:Type:=ak×ak×ak×ak×ak
abbrev cF:Ty:=(.st (.pair tI aj))
abbrev aD:Type:=Int×aa
abbrev oG:Ty:=(.st (.pair bK (.pair (.slice aj) (.pair (.slice aj) (.pair (.slice aj) (.pair (.slice cF) (.pair (.slice aj) (.pair (.slice .bool) (.slice aj)))))))))
abbrev fD:Type:=ai×(List aa)×(List aa)×(List aa)×(List aD)×(List aa)×(List Bool)×(List aa)
abbrev aS:Ty:=(.st (.pair tI (.pair tI aj)))
abbrev ah:Type:=Int×Int×aa
def DK (a0:Int):Option (Bool×Unit):=
 Option.bind (b6 a0 1 6) fun r1=>
 some (!r1.1,())
abbrev pW:Type:=(List az)×(List az)×Int×Int×Unit
abbrev uI:Type:=((Int×Unit) ⊕ Unit)
def pZ (x1:pW) (again:pW→Option uI):Option uI:=
 match x1 with
 | (A,B,C,D,_)=>
 bif decide (D<C) then
  Option.bind (idx B D) fun y2=>
  Option.bind (gv y2.1) fun r3=>
  bif !r3.1 then
   some (Sum.inl (5,()))
  else
   bif decide (D>0) then
    Option.bind (idx A (w64 (D - 1))) fun y4=>
    bif Op.bytesLess y2.1 y4.1||y2.1==y4.1 then
     some (Sum.inl (8,()))
    else
     Option.bind (bV y2.2) fun r5=>
     bif r5.1 != 0 then
      some (Sum.inl (r5.1,()))
     else
      bif decide (y2.2.1<0) then
       some (Sum.inl (1,()))
      else
       Option.bind (eV y2.2 100) fun r6=>
       bif !r6.1 then
        some (Sum.inl (1,()))
       else
        again (A,B,C,w64 (D+1),())
   else
    Option.bind (bV y2.2) fun r7=>
    bif r7.1 != 0 then
     some (Sum.inl (r7.1,()))
    else
     bif decide (y2.2.1<0) then
      some (Sum.inl (1,()))
     else
      Option.bind (eV y2.2 100) fun r8=>
      bif !r8.1 then
       some (Sum.inl (1,()))
      else
       again (A,B,C,w64 (D+1),())
 else
  some (Sum.inr ())
def mV (a0:List az):Option (Int×Unit):=
 bif ((List.length a0:Int))==0 then
  some (9,())
 else
  bif decide (((List.length a0:Int))>20) then
   some (2,())
  else
   aO (β:=(Int×Unit)) (γ:=Unit) (
    iter (X:=pW) (β:=uI) (List.length a0+(List.length a0+(Int.natAbs ((List.length a0:Int))+(Int.natAbs (0:Int)+2)))) (a0,a0,(List.length a0:Int),0,()) (pZ)) fun _=>
   some (0,())
abbrev Ay:Type:=Int×Int×Int×Unit
abbrev At:Type:=((Int×Unit) ⊕ (Int×Unit))
def M1 (x1:Ay) (again:Ay→Option At):Option At:=
 bif decide (x1.2.2.1<x1.2.1) then
  again (w64 (x1.1*10),x1.2.1,w64 (x1.2.2.1+1),())
 else
  some (Sum.inr (x1.1,()))
def Fu (a0:Int):Option (Int×Unit):=
 aO (β:=(Int×Unit)) (γ:=(Int×Unit)) (
  iter (X:=Ay) (β:=At) (Int.natAbs (1:Int)+(Int.natAbs a0+(Int.natAbs (0:Int)+2))) (1,a0,0,()) (M1)) fun v2=>
 some (v2.1,())
def Dx (a0:ak) (a1:Int) (a2:Int):Option (Bool×Unit):=
 bif decide (a0.2≤a1) then
  bif decide (a0.1≥0) then
   Option.bind (Fu a0.2) fun r1=>
   some (decide (a0.1≤(w64 (a2*r1.1))),())
  else
   some (false,())
 else
  some (false,())
def oN (a0:ak):Option (Int×Unit):=
 Option.bind (bV a0) fun r1=>
 bif r1.1 != 0 then
  some (r1.1,())
 else
  Option.bind (Dx a0 4 1000000000) fun r2=>
  bif !r2.1 then
   some (1,())
  else
   some (0,())
def B5 (a0:az) (a1:List UInt8):Option (Int×Unit):=
 Option.bind (strings_Compare a0.1 a1) fun r1=>
 some (r1.1,())
abbrev b8:Type:=(List az)×(List UInt8)×Unit×Int×Int×Int×Unit
abbrev fS:Type:=((Int×Bool×Unit) ⊕ ((List az)×(List UInt8)×Unit×Int×Int×Unit))
def fU (x1:b8) (again:b8→Option fS):Option fS:=
 match x1 with
 | (A,B,C,D,E,F,_)=>
 bif decide (E<F) then
  let n2:Int:=w64 (Int.fdiv (bM (w64 (E+F))) (2 ^ 1))
  Option.bind (idx A n2) fun y3=>
  Option.bind (B5 y3 B) fun r4=>
  bif decide (r4.1<0) then
   again (A,B,C,D,w64 (n2+1),F,())
  else
   again (A,B,C,D,E,n2,())
 else
  some (Sum.inr (A,B,C,D,E,()))
def dL (a0:List az) (a1:List UInt8) (a2:Unit):Option (Int×Bool×Unit):=
 aO (β:=(Int×Bool×Unit)) (γ:=((List az)×(List UInt8)×Unit×Int×Int×Unit)) (
  iter (X:=b8) (β:=fS) (List.length a0+(List.length a1+(Int.natAbs ((List.length a0:Int))+(Int.natAbs (0:Int)+(Int.natAbs ((List.length a0:Int))+2))))) (a0,a1,a2,(List.length a0:Int),0,(List.length a0:Int),()) (fU)) fun v5=>
 bif decide (v5.2.2.2.2.1<v5.2.2.2.1) then
  Option.bind (idx v5.1 v5.2.2.2.2.1) fun y6=>
  Option.bind (B5 y6 v5.2.1) fun r7=>
  some (v5.2.2.2.2.1,r7.1==0,())
 else
  some (v5.2.2.2.2.1,false,())
def qb (a0:List az) (a1:List UInt8):Option (Int×Bool×Unit):=
 Option.bind (dL a0 a1 ()) fun r1=>
 some (r1.1,r1.2.1,())
def jv (a0:ai) (a1:List UInt8):Option (Bool×Unit):=
 Option.bind (qb a0.2.2.2.2.2.2.1 a1) fun r1=>
 some (r1.2.1,())
abbrev oS:Type:=Bool×(List au)×Int×Int×(List UInt8)×(List UInt8)×Int×Int×Int×Bool×(List az)×(List aq)×(List au)×Unit
abbrev tF:Type:=((Int×Unit) ⊕ Unit)
def oQ (x1:oS) (again:oS→Option tF):Option tF:=
 match x1 with
 | (A,B,C,D,E,F,G,H,I,J,K,L,M,_)=>
 bif decide (D<C) then
  Option.bind (idx B D) fun y2=>
  Option.bind (bV y2.2.1) fun r3=>
  bif r3.1 != 0 then
   some (Sum.inl (r3.1,()))
  else
   bif y2.2.1.1==0 then
    some (Sum.inl (13,()))
   else
    bif y2.1 then
     Option.bind (eV y2.2.1 100) fun r4=>
     aO (β:=((Int×Unit) ⊕ Unit)) (γ:=(Bool×(List au)×Int×Int×Bool×(List UInt8)×(List UInt8)×Int×Int×Int×Bool×(List az)×(List aq)×(List au)×Bool×Int×Int×(List UInt8)×Unit)) (
      bif !r4.1 then
       some (Sum.inr (A,B,C,D, !r4.1,E,F,G,H,I,J,K,L,M,y2.1,y2.2.1.1,y2.2.1.2,y2.2.2,()))
      else
       bif !y2.1 then
        Option.bind (eV y2.2.1 1000000000) fun r5=>
        bif !r5.1 then
         some (Sum.inr (A,B,C,D,true,E,F,G,H,I,J,K,L,M,y2.1,y2.2.1.1,y2.2.1.2,y2.2.2,()))
        else
         some (Sum.inr (A,B,C,D,decide (y2.2.1.2>H),E,F,G,H,I,J,K,L,M,y2.1,y2.2.1.1,y2.2.1.2,y2.2.2,()))
       else
        some (Sum.inr (A,B,C,D,false,E,F,G,H,I,J,K,L,M,y2.1,y2.2.1.1,y2.2.1.2,y2.2.2,()))) fun v6=>
     bif v6.2.2.2.2.1 then
      some (Sum.inl (1,()))
     else
      bif v6.1 then
       bif !(v6.2.2.2.2.2.2.2.2.2.2.2.2.2.2.2.2.2.1==[]) then
        some (Sum.inl (3,()))
       else
        bif !v6.1 then
         bif !(v6.2.2.2.2.2.2.2.2.2.2.2.2.2.2.2.2.2.1==[]) then
          Option.bind (jv (v6.2.2.2.2.2.1,v6.2.2.2.2.2.2.1,v6.2.2.2.2.2.2.2.1,v6.2.2.2.2.2.2.2.2.1,v6.2.2.2.2.2.2.2.2.2.1,v6.2.2.2.2.2.2.2.2.2.2.1,v6.2.2.2.2.2.2.2.2.2.2.2.1,v6.2.2.2.2.2.2.2.2.2.2.2.2.1,v6.2.2.2.2.2.2.2.2.2.2.2.2.2.1) v6.2.2.2.2.2.2.2.2.2.2.2.2.2.2.2.2.2.1) fun r7=>
          bif !r7.1 then
           some (Sum.inl (5,()))
          else
           again (v6.1,v6.2.1,v6.2.2.1,w64 (v6.2.2.2.1+1),v6.2.2.2.2.2.1,v6.2.2.2.2.2.2.1,v6.2.2.2.2.2.2.2.1,v6.2.2.2.2.2.2.2.2.1,v6.2.2.2.2.2.2.2.2.2.1,v6.2.2.2.2.2.2.2.2.2.2.1,v6.2.2.2.2.2.2.2.2.2.2.2.1,v6.2.2.2.2.2.2.2.2.2.2.2.2.1,v6.2.2.2.2.2.2.2.2.2.2.2.2.2.1,())
         else
          again (v6.1,v6.2.1,v6.2.2.1,w64 (v6.2.2.2.1+1),v6.2.2.2.2.2.1,v6.2.2.2.2.2.2.1,v6.2.2.2.2.2.2.2.1,v6.2.2.2.2.2.2.2.2.1,v6.2.2.2.2.2.2.2.2.2.1,v6.2.2.2.2.2.2.2.2.2.2.1,v6.2.2.2.2.2.2.2.2.2.2.2.1,v6.2.2.2.2.2.2.2.2.2.2.2.2.1,v6.2.2.2.2.2.2.2.2.2.2.2.2.2.1,())
        else
         again (v6.1,v6.2.1,v6.2.2.1,w64 (v6.2.2.2.1+1),v6.2.2.2.2.2.1,v6.2.2.2.2.2.2.1,v6.2.2.2.2.2.2.2.1,v6.2.2.2.2.2.2.2.2.1,v6.2.2.2.2.2.2.2.2.2.1,v6.2.2.2.2.2.2.2.2.2.2.1,v6.2.2.2.2.2.2.2.2.2.2.2.1,v6.2.2.2.2.2.2.2.2.2.2.2.2.1,v6.2.2.2.2.2.2.2.2.2.2.2.2.2.1,())
      else
       bif !v6.1 then
        bif !(v6.2.2.2.2.2.2.2.2.2.2.2.2.2.2.2.2.2.1==[]) then
         Option.bind (jv (v6.2.2.2.2.2.1,v6.2.2.2.2.2.2.1,v6.2.2.2.2.2.2.2.1,v6.2.2.2.2.2.2.2.2.1,v6.2.2.2.2.2.2.2.2.2.1,v6.2.2.2.2.2.2.2.2.2.2.1,v6.2.2.2.2.2.2.2.2.2.2.2.1,v6.2.2.2.2.2.2.2.2.2.2.2.2.1,v6.2.2.2.2.2.2.2.2.2.2.2.2.2.1) v6.2.2.2.2.2.2.2.2.2.2.2.2.2.2.2.2.2.1) fun r8=>
         bif !r8.1 then
          some (Sum.inl (5,()))
         else
          again (v6.1,v6.2.1,v6.2.2.1,w64 (v6.2.2.2.1+1),v6.2.2.2.2.2.1,v6.2.2.2.2.2.2.1,v6.2.2.2.2.2.2.2.1,v6.2.2.2.2.2.2.2.2.1,v6.2.2.2.2.2.2.2.2.2.1,v6.2.2.2.2.2.2.2.2.2.2.1,v6.2.2.2.2.2.2.2.2.2.2.2.1,v6.2.2.2.2.2.2.2.2.2.2.2.2.1,v6.2.2.2.2.2.2.2.2.2.2.2.2.2.1,())
        else
         again (v6.1,v6.2.1,v6.2.2.1,w64 (v6.2.2.2.1+1),v6.2.2.2.2.2.1,v6.2.2.2.2.2.2.1,v6.2.2.2.2.2.2.2.1,v6.2.2.2.2.2.2.2.2.1,v6.2.2.2.2.2.2.2.2.2.1,v6.2.2.2.2.2.2.2.2.2.2.1,v6.2.2.2.2.2.2.2.2.2.2.2.1,v6.2.2.2.2.2.2.2.2.2.2.2.2.1,v6.2.2.2.2.2.2.2.2.2.2.2.2.2.1,())
       else
        again (v6.1,v6.2.1,v6.2.2.1,w64 (v6.2.2.2.1+1),v6.2.2.2.2.2.1,v6.2.2.2.2.2.2.1,v6.2.2.2.2.2.2.2.1,v6.2.2.2.2.2.2.2.2.1,v6.2.2.2.2.2.2.2.2.2.1,v6.2.2.2.2.2.2.2.2.2.2.1,v6.2.2.2.2.2.2.2.2.2.2.2.1,v6.2.2.2.2.2.2.2.2.2.2.2.2.1,v6.2.2.2.2.2.2.2.2.2.2.2.2.2.1,())
    else
     aO (β:=((Int×Unit) ⊕ Unit)) (γ:=(Bool×(List au)×Int×Int×Bool×(List UInt8)×(List UInt8)×Int×Int×Int×Bool×(List az)×(List aq)×(List au)×Bool×Int×Int×(List UInt8)×Unit)) (
      bif !y2.1 then
       Option.bind (eV y2.2.1 1000000000) fun r9=>
       bif !r9.1 then
        some (Sum.inr (A,B,C,D,true,E,F,G,H,I,J,K,L,M,y2.1,y2.2.1.1,y2.2.1.2,y2.2.2,()))
       else
        some (Sum.inr (A,B,C,D,decide (y2.2.1.2>H),E,F,G,H,I,J,K,L,M,y2.1,y2.2.1.1,y2.2.1.2,y2.2.2,()))
      else
       some (Sum.inr (A,B,C,D,false,E,F,G,H,I,J,K,L,M,y2.1,y2.2.1.1,y2.2.1.2,y2.2.2,()))) fun v10=>
     bif v10.2.2.2.2.1 then
      some (Sum.inl (1,()))
     else
      bif v10.1 then
       bif !(v10.2.2.2.2.2.2.2.2.2.2.2.2.2.2.2.2.2.1==[]) then
        some (Sum.inl (3,()))
       else
        bif !v10.1 then
         bif !(v10.2.2.2.2.2.2.2.2.2.2.2.2.2.2.2.2.2.1==[]) then
          Option.bind (jv (v10.2.2.2.2.2.1,v10.2.2.2.2.2.2.1,v10.2.2.2.2.2.2.2.1,v10.2.2.2.2.2.2.2.2.1,v10.2.2.2.2.2.2.2.2.2.1,v10.2.2.2.2.2.2.2.2.2.2.1,v10.2.2.2.2.2.2.2.2.2.2.2.1,v10.2.2.2.2.2.2.2.2.2.2.2.2.1,v10.2.2.2.2.2.2.2.2.2.2.2.2.2.1) v10.2.2.2.2.2.2.2.2.2.2.2.2.2.2.2.2.2.1) fun r11=>
          bif !r11.1 then
           some (Sum.inl (5,()))
          else
           again (v10.1,v10.2.1,v10.2.2.1,w64 (v10.2.2.2.1+1),v10.2.2.2.2.2.1,v10.2.2.2.2.2.2.1,v10.2.2.2.2.2.2.2.1,v10.2.2.2.2.2.2.2.2.1,v10.2.2.2.2.2.2.2.2.2.1,v10.2.2.2.2.2.2.2.2.2.2.1,v10.2.2.2.2.2.2.2.2.2.2.2.1,v10.2.2.2.2.2.2.2.2.2.2.2.2.1,v10.2.2.2.2.2.2.2.2.2.2.2.2.2.1,())
         else
          again (v10.1,v10.2.1,v10.2.2.1,w64 (v10.2.2.2.1+1),v10.2.2.2.2.2.1,v10.2.2.2.2.2.2.1,v10.2.2.2.2.2.2.2.1,v10.2.2.2.2.2.2.2.2.1,v10.2.2.2.2.2.2.2.2.2.1,v10.2.2.2.2.2.2.2.2.2.2.1,v10.2.2.2.2.2.2.2.2.2.2.2.1,v10.2.2.2.2.2.2.2.2.2.2.2.2.1,v10.2.2.2.2.2.2.2.2.2.2.2.2.2.1,())
        else
         again (v10.1,v10.2.1,v10.2.2.1,w64 (v10.2.2.2.1+1),v10.2.2.2.2.2.1,v10.2.2.2.2.2.2.1,v10.2.2.2.2.2.2.2.1,v10.2.2.2.2.2.2.2.2.1,v10.2.2.2.2.2.2.2.2.2.1,v10.2.2.2.2.2.2.2.2.2.2.1,v10.2.2.2.2.2.2.2.2.2.2.2.1,v10.2.2.2.2.2.2.2.2.2.2.2.2.1,v10.2.2.2.2.2.2.2.2.2.2.2.2.2.1,())
      else
       bif !v10.1 then
        bif !(v10.2.2.2.2.2.2.2.2.2.2.2.2.2.2.2.2.2.1==[]) then
         Option.bind (jv (v10.2.2.2.2.2.1,v10.2.2.2.2.2.2.1,v10.2.2.2.2.2.2.2.1,v10.2.2.2.2.2.2.2.2.1,v10.2.2.2.2.2.2.2.2.2.1,v10.2.2.2.2.2.2.2.2.2.2.1,v10.2.2.2.2.2.2.2.2.2.2.2.1,v10.2.2.2.2.2.2.2.2.2.2.2.2.1,v10.2.2.2.2.2.2.2.2.2.2.2.2.2.1) v10.2.2.2.2.2.2.2.2.2.2.2.2.2.2.2.2.2.1) fun r12=>
         bif !r12.1 then
          some (Sum.inl (5,()))
         else
          again (v10.1,v10.2.1,v10.2.2.1,w64 (v10.2.2.2.1+1),v10.2.2.2.2.2.1,v10.2.2.2.2.2.2.1,v10.2.2.2.2.2.2.2.1,v10.2.2.2.2.2.2.2.2.1,v10.2.2.2.2.2.2.2.2.2.1,v10.2.2.2.2.2.2.2.2.2.2.1,v10.2.2.2.2.2.2.2.2.2.2.2.1,v10.2.2.2.2.2.2.2.2.2.2.2.2.1,v10.2.2.2.2.2.2.2.2.2.2.2.2.2.1,())
        else
         again (v10.1,v10.2.1,v10.2.2.1,w64 (v10.2.2.2.1+1),v10.2.2.2.2.2.1,v10.2.2.2.2.2.2.1,v10.2.2.2.2.2.2.2.1,v10.2.2.2.2.2.2.2.2.1,v10.2.2.2.2.2.2.2.2.2.1,v10.2.2.2.2.2.2.2.2.2.2.1,v10.2.2.2.2.2.2.2.2.2.2.2.1,v10.2.2.2.2.2.2.2.2.2.2.2.2.1,v10.2.2.2.2.2.2.2.2.2.2.2.2.2.1,())
       else
        again (v10.1,v10.2.1,v10.2.2.1,w64 (v10.2.2.2.1+1),v10.2.2.2.2.2.1,v10.2.2.2.2.2.2.1,v10.2.2.2.2.2.2.2.1,v10.2.2.2.2.2.2.2.2.1,v10.2.2.2.2.2.2.2.2.2.1,v10.2.2.2.2.2.2.2.2.2.2.1,v10.2.2.2.2.2.2.2.2.2.2.2.1,v10.2.2.2.2.2.2.2.2.2.2.2.2.1,v10.2.2.2.2.2.2.2.2.2.2.2.2.2.1,())
 else
  some (Sum.inr ())
def jR (a0:ai) (a1:List au) (a2:Bool):Option (Int×Unit):=
 bif decide (((List.length a1:Int))>20) then
  some (2,())
 else
  aO (β:=(Int×Unit)) (γ:=Unit) (
   iter (X:=oS) (β:=tF) (List.length a1+(Int.natAbs ((List.length a1:Int))+(Int.natAbs (0:Int)+(a0.1.length+(a0.2.1.length+(a0.2.2.1.natAbs+(a0.2.2.2.1.natAbs+(a0.2.2.2.2.1.natAbs+(a0.2.2.2.2.2.2.1.length+(a0.2.2.2.2.2.2.2.1.length+(a0.2.2.2.2.2.2.2.2.length+2))))))))))) (a2,a1,(List.length a1:Int),0,a0.1,a0.2.1,a0.2.2.1,a0.2.2.2.1,a0.2.2.2.2.1,a0.2.2.2.2.2.1,a0.2.2.2.2.2.2.1,a0.2.2.2.2.2.2.2.1,a0.2.2.2.2.2.2.2.2,()) (oQ)) fun _=>
  some (0,())
def ru (a0:ai) (a1:Int):Option (Int×Unit):=
 Option.bind (idx a0.2.2.2.2.2.2.2.1 a1) fun y1=>
 Option.bind (b6 y1.1 1 99999) fun r2=>
 bif r2.1 then
  some (1,())
 else
  bif decide (a1>0) then
   Option.bind (idx a0.2.2.2.2.2.2.2.1 (w64 (a1 - 1))) fun y3=>
   bif decide (y1.1≤y3.1) then
    some (8,())
   else
    Option.bind (b6 y1.2.1 1 99999) fun r4=>
    bif r4.1 then
     some (1,())
    else
     Option.bind (gv y1.2.2.1) fun r5=>
     bif !r5.1 then
      some (5,())
     else
      Option.bind (bV y1.2.2.2.1) fun r6=>
      bif r6.1 != 0 then
       some (r6.1,())
      else
       bif decide (y1.2.2.2.1.2>3) then
        some (1,())
       else
        Option.bind (eV y1.2.2.2.1 1000000000) fun r7=>
        bif !r7.1 then
         some (1,())
        else
         bif y1.2.2.2.1.1==0 then
          some (13,())
         else
          Option.bind (gv y1.2.2.2.2.1) fun r8=>
          bif !r8.1 then
           some (5,())
          else
           Option.bind (oN y1.2.2.2.2.2.1) fun r9=>
           bif r9.1 != 0 then
            some (r9.1,())
           else
            Option.bind (b6 y1.2.2.2.2.2.2.1 1 100000) fun r10=>
            bif r10.1 then
             some (1,())
            else
             Option.bind (jR a0 y1.2.2.2.2.2.2.2.1 true) fun r11=>
             bif r11.1 != 0 then
              some (r11.1,())
             else
              Option.bind (jv a0 y1.2.2.2.2.2.2.2.2) fun r12=>
              bif !r12.1 then
               some (5,())
              else
               some (0,())
  else
   Option.bind (b6 y1.2.1 1 99999) fun r13=>
   bif r13.1 then
    some (1,())
   else
    Option.bind (gv y1.2.2.1) fun r14=>
    bif !r14.1 then
     some (5,())
    else
     Option.bind (bV y1.2.2.2.1) fun r15=>
     bif r15.1 != 0 then
      some (r15.1,())
     else
      bif decide (y1.2.2.2.1.2>3) then
       some (1,())
      else
       Option.bind (eV y1.2.2.2.1 1000000000) fun r16=>
       bif !r16.1 then
        some (1,())
       else
        bif y1.2.2.2.1.1==0 then
         some (13,())
        else
         Option.bind (gv y1.2.2.2.2.1) fun r17=>
         bif !r17.1 then
          some (5,())
         else
          Option.bind (oN y1.2.2.2.2.2.1) fun r18=>
          bif r18.1 != 0 then
           some (r18.1,())
          else
           Option.bind (b6 y1.2.2.2.2.2.2.1 1 100000) fun r19=>
           bif r19.1 then
            some (1,())
           else
            Option.bind (jR a0 y1.2.2.2.2.2.2.2.1 true) fun r20=>
            bif r20.1 != 0 then
             some (r20.1,())
            else
             Option.bind (jv a0 y1.2.2.2.2.2.2.2.2) fun r21=>
             bif !r21.1 then
              some (5,())
             else
              some (0,())
abbrev qX:Type:=Int×Int×(List UInt8)×(List UInt8)×Int×Int×Int×Bool×(List az)×(List aq)×(List au)×Unit
abbrev rz:Type:=((Int×Unit) ⊕ ((List UInt8)×(List UInt8)×Int×Int×Int×Bool×(List az)×(List aq)×(List au)×Unit))
def m6 (x1:qX) (again:qX→Option rz):Option rz:=
 match x1 with
 | (A,B,C,D,E,F,G,H,I,J,K,_)=>
 bif decide (B<A) then
  Option.bind (ru (C,D,E,F,G,H,I,J,K) B) fun r2=>
  bif r2.1 != 0 then
   some (Sum.inl (r2.1,()))
  else
   again (A,w64 (B+1),C,D,E,F,G,H,I,J,K,())
 else
  some (Sum.inr (C,D,E,F,G,H,I,J,K,()))
def kQ (a0:ai):Option (Int×Unit):=
 Option.bind (gv a0.1) fun r1=>
 bif !r1.1 then
  some (5,())
 else
  Option.bind (gv a0.2.1) fun r2=>
  bif !r2.1 then
   some (5,())
  else
   Option.bind (yt a0.2.2.1) fun r3=>
   bif !r3.1 then
    some (1,())
   else
    Option.bind (b6 a0.2.2.2.1 0 4) fun r4=>
    bif r4.1 then
     some (1,())
    else
     Option.bind (DK a0.2.2.2.2.1) fun r5=>
     bif !r5.1 then
      some (4,())
     else
      Option.bind (mV a0.2.2.2.2.2.2.1) fun r6=>
      bif r6.1 != 0 then
       some (r6.1,())
      else
       bif ((a0.2.2.2.2.2.2.2.1.length:Int))==0 then
        some (9,())
       else
        bif decide (((a0.2.2.2.2.2.2.2.1.length:Int))>500) then
         some (2,())
        else
         aO (β:=(Int×Unit)) (γ:=((List UInt8)×(List UInt8)×Int×Int×Int×Bool×(List az)×(List aq)×(List au)×Unit)) (
          iter (X:=qX) (β:=rz) (Int.natAbs ((a0.2.2.2.2.2.2.2.1.length:Int))+(Int.natAbs (0:Int)+(a0.1.length+(a0.2.1.length+(a0.2.2.1.natAbs+(a0.2.2.2.1.natAbs+(a0.2.2.2.2.1.natAbs+(a0.2.2.2.2.2.2.1.length+(a0.2.2.2.2.2.2.2.1.length+(a0.2.2.2.2.2.2.2.2.length+2)))))))))) ((a0.2.2.2.2.2.2.2.1.length:Int),0,a0.1,a0.2.1,a0.2.2.1,a0.2.2.2.1,a0.2.2.2.2.1,a0.2.2.2.2.2.1,a0.2.2.2.2.2.2.1,a0.2.2.2.2.2.2.2.1,a0.2.2.2.2.2.2.2.2,()) (m6)) fun v9=>
         Option.bind (jR (v9.1,v9.2.1,v9.2.2.1,v9.2.2.2.1,v9.2.2.2.2.1,v9.2.2.2.2.2.1,v9.2.2.2.2.2.2.1,v9.2.2.2.2.2.2.2.1,v9.2.2.2.2.2.2.2.2.1) v9.2.2.2.2.2.2.2.2.1 false) fun r10=>
         some (r10.1,())
abbrev mP:Type:=Int×Int×Int×(List Int)×Int×Int×(List Int)×Int×Int×Bool×(List Int)×Bool×(List Int)×Bool×(List Int)×(List Int)×Unit
abbrev uG:Type:=(((aa×Unit) ⊕ (Bool×(List Int)×Bool×(List Int)×Bool×(List Int)×(List Int)×Unit)) ⊕ (Int×Int×(List Int)×Int×Int×Bool×(List Int)×Bool×(List Int)×Bool×(List Int)×(List Int)×Unit))
def pO (x1:mP) (again:mP→Option uG):Option uG:=
 match x1 with
 | (A,B,C,D,E,F,G,H,I,J,K,L,M,N,O,P,_)=>
 bif decide (I<H) then
  Option.bind (idx G I) fun y2=>
  chk (decide (0≤(w64 (A+I)))&&decide ((w64 (A+I))<(P.length:Int))) <|
  Option.bind (P[(w64 (A+I)).toNat]?) fun y3=>
  let n4:Int:=bM ((bM y3)+(bM ((bM B)*(bM y2))))
  chk (decide (0≤(w64 (A+I)))&&decide ((w64 (A+I))<(P.length:Int))) <|
  Option.bind (P[(w64 (A+I)).toNat]?) fun _=>
  again (A,B,Int.fdiv (bM (C+n4)) (2 ^ 32),D,E,F,G,H,w64 (I+1),J,K,L,M,N,O,List.set P (w64 (A+I)).toNat (mB (bM (C+n4))),())
 else
  some (Sum.inr (A,C,D,E,F,J,K,L,M,N,O,P,()))
abbrev mA:Type:=(List Int)×Int×Int×Bool×(List Int)×Bool×(List Int)×Bool×(List Int)×(List Int)×Unit
abbrev uF:Type:=((aa×Unit) ⊕ (Bool×(List Int)×Bool×(List Int)×Bool×(List Int)×(List Int)×Unit))
def pV (x1:mA) (again:mA→Option uF):Option uF:=
 match x1 with
 | (A,B,C,D,E,F,G,H,I,J,_)=>
 bif decide (C<B) then
  Option.bind (idx A C) fun y2=>
  aO (β:=((aa×Unit) ⊕ (Bool×(List Int)×Bool×(List Int)×Bool×(List Int)×(List Int)×Unit))) (γ:=(Int×Int×(List Int)×Int×Int×Bool×(List Int)×Bool×(List Int)×Bool×(List Int)×(List Int)×Unit)) (
   iter (X:=mP) (β:=uG) (C.natAbs+(Int.natAbs y2+(Int.natAbs (0:Int)+(A.length+(B.natAbs+(C.natAbs+(G.length+(Int.natAbs ((G.length:Int))+(Int.natAbs (0:Int)+(E.length+(G.length+(I.length+(J.length+2))))))))))))) (C,y2,0,A,B,C,G,(G.length:Int),0,D,E,F,G,H,I,J,()) (pO)) fun v3=>
  chk (decide (0≤(w64 (v3.1+((v3.2.2.2.2.2.2.2.2.1.length:Int)))))&&decide ((w64 (v3.1+((v3.2.2.2.2.2.2.2.2.1.length:Int))))<(v3.2.2.2.2.2.2.2.2.2.2.2.1.length:Int))) <|
  Option.bind (v3.2.2.2.2.2.2.2.2.2.2.2.1[(w64 (v3.1+((v3.2.2.2.2.2.2.2.2.1.length:Int)))).toNat]?) fun _=>
  again (v3.2.2.1,v3.2.2.2.1,w64 (v3.2.2.2.2.1+1),v3.2.2.2.2.2.1,v3.2.2.2.2.2.2.1,v3.2.2.2.2.2.2.2.1,v3.2.2.2.2.2.2.2.2.1,v3.2.2.2.2.2.2.2.2.2.1,v3.2.2.2.2.2.2.2.2.2.2.1,List.set v3.2.2.2.2.2.2.2.2.2.2.2.1 (w64 (v3.1+((v3.2.2.2.2.2.2.2.2.1.length:Int)))).toNat (mB v3.2.1),())
 else
  some (Sum.inr (D,E,F,G,H,I,J,()))
def fj (a0:aa) (a1:aa):Option (aa×Unit):=
 chk (decide (0≤(w64 (((a0.2.length:Int))+((a1.2.length:Int)))))&&decide ((w64 (((a0.2.length:Int))+((a1.2.length:Int))))≤(w64 (((a0.2.length:Int))+((a1.2.length:Int)))))&&decide ((4:Int)*(w64 (((a0.2.length:Int))+((a1.2.length:Int))))≤281474976710656)&&decide ((w64 (((a0.2.length:Int))+((a1.2.length:Int))))≤9223372036854775807)) <|
 aO (β:=(aa×Unit)) (γ:=(Bool×(List Int)×Bool×(List Int)×Bool×(List Int)×(List Int)×Unit)) (
  iter (X:=mA) (β:=uF) (a0.2.length+(Int.natAbs ((a0.2.length:Int))+(Int.natAbs (0:Int)+(a0.2.length+(a1.2.length+(List.length ([]:List Int)+(List.length ((List.replicate (Int.toNat (w64 (((a0.2.length:Int))+((a1.2.length:Int))))) 0):List Int)+2))))))) (a0.2,(a0.2.length:Int),0,a0.1,a0.2,a1.1,a1.2,false,[],List.replicate (Int.toNat (w64 (((a0.2.length:Int))+((a1.2.length:Int))))) 0,()) (pV)) fun v10=>
 Option.bind (iO (!(v10.1==v10.2.2.1)) v10.2.2.2.2.2.2.1) fun r11=>
 some (r11.1,())
abbrev qY:Type:=Int×Int×Bool×(List Int)×Bool×(List Int)×Unit
abbrev An:Type:=((aa×Unit) ⊕ (Bool×(List Int)×Bool×(List Int)×Unit))
def vI (x1:qY) (again:qY→Option An):Option An:=
 match x1 with
 | (A,B,C,D,E,F,_)=>
 bif decide (B<A) then
  Option.bind (bA 10) fun r2=>
  Option.bind (fj (E,F) r2.1) fun r3=>
  again (A,w64 (B+1),C,D,r3.1.1,r3.1.2,())
 else
  some (Sum.inr (C,D,E,F,()))
def nY (a0:Int):Option (aa×Unit):=
 Option.bind (bA 1) fun r1=>
 aO (β:=(aa×Unit)) (γ:=(Bool×(List Int)×Bool×(List Int)×Unit)) (
  iter (X:=qY) (β:=An) (Int.natAbs a0+(Int.natAbs (0:Int)+(List.length ([]:List Int)+(r1.1.2.length+2)))) (a0,0,false,[],r1.1.1,r1.1.2,()) (vI)) fun v5=>
 some ((v5.2.2.1,v5.2.2.2.1),())
abbrev Ao:Type:=(List Int)×(List Int)×Int×(List Int)×Int×Int×Unit
abbrev Ar:Type:=(((List Int)×Unit) ⊕ ((List Int)×Int×Unit))
def Nx (x1:Ao) (again:Ao→Option Ar):Option Ar:=
 match x1 with
 | (A,B,C,D,E,F,_)=>
 bif decide (F<E) then
  Option.bind (idx D F) fun y2=>
  aO (β:=(((List Int)×Unit) ⊕ ((List Int)×Int×Unit))) (γ:=((List Int)×(List Int)×Int×(List Int)×Int×Int×Unit)) (
   bif decide (F<((A.length:Int))) then
    Option.bind (idx A F) fun y3=>
    let n4:Int:=bM ((bM (C+(bM y2)))+(bM y3))
    some (Sum.inr (A,B,n4,D,E,F,()))
   else
    some (Sum.inr (A,B,bM (C+(bM y2)),D,E,F,()))) fun v5=>
  chk (decide (((v5.2.1.length)+1)*4≤140737488355328)&&decide ((v5.2.1.length)+1≤maxLen)) <|
  again (v5.1,v5.2.1++[(mB v5.2.2.1)],Int.fdiv v5.2.2.1 (2 ^ 32),v5.2.2.2.1,v5.2.2.2.2.1,w64 (v5.2.2.2.2.2.1+1),())
 else
  some (Sum.inr (B,C,()))
def Fi (a0:List Int) (a1:List Int):Option ((List Int)×Unit):=
 aO (β:=((List Int)×Unit)) (γ:=((List Int)×(List Int)×Unit)) (
  bif decide (((List.length a0:Int))<((List.length a1:Int))) then
   some (Sum.inr (a1,a0,()))
  else
   some (Sum.inr (a0,a1,()))) fun v1=>
 chk (decide (0≤(0:Int))&&decide ((0:Int)≤(w64 (((v1.1.length:Int))+1)))&&decide ((4:Int)*(w64 (((v1.1.length:Int))+1))≤281474976710656)&&decide ((w64 (((v1.1.length:Int))+1))≤9223372036854775807)) <|
 aO (β:=((List Int)×Unit)) (γ:=((List Int)×Int×Unit)) (
  iter (X:=Ao) (β:=Ar) (v1.2.1.length+(List.length ([]:List Int)+(Int.natAbs (0:Int)+(v1.1.length+(Int.natAbs ((v1.1.length:Int))+(Int.natAbs (0:Int)+2)))))) (v1.2.1,[],0,v1.1,(v1.1.length:Int),0,()) (Nx)) fun v7=>
 chk (decide (((v7.1.length)+1)*4≤140737488355328)&&decide ((v7.1.length)+1≤maxLen)) <|
 some (v7.1++[(mB v7.2.1)],())
def aV (a0:aa) (a1:aa):Option (aa×Unit):=
 bif a0.1==a1.1 then
  Option.bind (Fi a0.2 a1.2) fun r1=>
  Option.bind (iO a0.1 r1.1) fun r2=>
  some (r2.1,())
 else
  Option.bind (s9 a0.2 a1.2) fun r3=>
  bif decide (r3.1≥0) then
   Option.bind (vD a0.2 a1.2) fun r4=>
   Option.bind (iO a0.1 r4.1) fun r5=>
   some (r5.1,())
  else
   Option.bind (vD a1.2 a0.2) fun r6=>
   Option.bind (iO a1.1 r6.1) fun r7=>
   some (r7.1,())
def vG (a0:aa) (a1:aa):Option (aa×Unit):=
 Option.bind (aB a1) fun r1=>
 Option.bind (aV a0 r1.1) fun r2=>
 some (r2.1,())
def nv (a0:aa) (a1:aa):Option (Int×Unit):=
 Option.bind (vG a0 a1) fun r1=>
 Option.bind (aC r1.1) fun r2=>
 some (r2.1,())
def fR (a0:aa):Option (Bool×Unit):=
 bif decide (((a0.2.length:Int))>0) then
  Option.bind (idx a0.2 0) fun y1=>
  some ((mB (((BitVec.ofInt (IntKind.bits .u32) y1 &&& BitVec.ofInt (IntKind.bits .u32) 1).toNat:Int)))==1,())
 else
  some (false,())
def rq (a0:aa) (a1:aa) (a2:Int):Option (aa×Unit):=
 Option.bind (rj a0 a1) fun r1=>
 Option.bind (aC r1.2.1) fun r2=>
 bif r2.1 != 0 then
  Option.bind (aV r1.2.1 r1.2.1) fun r3=>
  Option.bind (nv r3.1 a1) fun r4=>
  Option.bind (aC a0) fun r5=>
  bif a2==4 then
   Option.bind (bA 1) fun r6=>
   Option.bind (aV r1.1 r6.1) fun r7=>
   Option.bind (aC a0) fun r8=>
   bif decide (r8.1<0) then
    Option.bind (aB r7.1) fun r9=>
    some (r9.1,())
   else
    some (r7.1,())
  else
   bif a2==5 then
    bif decide (r5.1<0) then
     Option.bind (bA 1) fun r10=>
     Option.bind (aV r1.1 r10.1) fun r11=>
     Option.bind (aC a0) fun r12=>
     bif decide (r12.1<0) then
      Option.bind (aB r11.1) fun r13=>
      some (r13.1,())
     else
      some (r11.1,())
    else
     bif a2==6 then
      bif !(decide (r5.1<0)) then
       Option.bind (bA 1) fun r14=>
       Option.bind (aV r1.1 r14.1) fun r15=>
       Option.bind (aC a0) fun r16=>
       bif decide (r16.1<0) then
        Option.bind (aB r15.1) fun r17=>
        some (r17.1,())
       else
        some (r15.1,())
      else
       bif a2==1 then
        bif decide (r4.1≥0) then
         Option.bind (bA 1) fun r18=>
         Option.bind (aV r1.1 r18.1) fun r19=>
         Option.bind (aC a0) fun r20=>
         bif decide (r20.1<0) then
          Option.bind (aB r19.1) fun r21=>
          some (r21.1,())
         else
          some (r19.1,())
        else
         bif a2==2 then
          bif decide (r4.1>0) then
           Option.bind (bA 1) fun r22=>
           Option.bind (aV r1.1 r22.1) fun r23=>
           Option.bind (aC a0) fun r24=>
           bif decide (r24.1<0) then
            Option.bind (aB r23.1) fun r25=>
            some (r25.1,())
           else
            some (r23.1,())
          else
           bif r4.1==0 then
            Option.bind (fR r1.1) fun r26=>
            bif r26.1 then
             Option.bind (bA 1) fun r27=>
             Option.bind (aV r1.1 r27.1) fun r28=>
             Option.bind (aC a0) fun r29=>
             bif decide (r29.1<0) then
              Option.bind (aB r28.1) fun r30=>
              some (r30.1,())
             else
              some (r28.1,())
            else
             Option.bind (aC a0) fun r31=>
             bif decide (r31.1<0) then
              Option.bind (aB r1.1) fun r32=>
              some (r32.1,())
             else
              some (r1.1,())
           else
            Option.bind (aC a0) fun r33=>
            bif decide (r33.1<0) then
             Option.bind (aB r1.1) fun r34=>
             some (r34.1,())
            else
             some (r1.1,())
         else
          Option.bind (aC a0) fun r35=>
          bif decide (r35.1<0) then
           Option.bind (aB r1.1) fun r36=>
           some (r36.1,())
          else
           some (r1.1,())
       else
        bif a2==2 then
         bif decide (r4.1>0) then
          Option.bind (bA 1) fun r37=>
          Option.bind (aV r1.1 r37.1) fun r38=>
          Option.bind (aC a0) fun r39=>
          bif decide (r39.1<0) then
           Option.bind (aB r38.1) fun r40=>
           some (r40.1,())
          else
           some (r38.1,())
         else
          bif r4.1==0 then
           Option.bind (fR r1.1) fun r41=>
           bif r41.1 then
            Option.bind (bA 1) fun r42=>
            Option.bind (aV r1.1 r42.1) fun r43=>
            Option.bind (aC a0) fun r44=>
            bif decide (r44.1<0) then
             Option.bind (aB r43.1) fun r45=>
             some (r45.1,())
            else
             some (r43.1,())
           else
            Option.bind (aC a0) fun r46=>
            bif decide (r46.1<0) then
             Option.bind (aB r1.1) fun r47=>
             some (r47.1,())
            else
             some (r1.1,())
          else
           Option.bind (aC a0) fun r48=>
           bif decide (r48.1<0) then
            Option.bind (aB r1.1) fun r49=>
            some (r49.1,())
           else
            some (r1.1,())
        else
         Option.bind (aC a0) fun r50=>
         bif decide (r50.1<0) then
          Option.bind (aB r1.1) fun r51=>
          some (r51.1,())
         else
          some (r1.1,())
     else
      bif a2==1 then
       bif decide (r4.1≥0) then
        Option.bind (bA 1) fun r52=>
        Option.bind (aV r1.1 r52.1) fun r53=>
        Option.bind (aC a0) fun r54=>
        bif decide (r54.1<0) then
         Option.bind (aB r53.1) fun r55=>
         some (r55.1,())
        else
         some (r53.1,())
       else
        bif a2==2 then
         bif decide (r4.1>0) then
          Option.bind (bA 1) fun r56=>
          Option.bind (aV r1.1 r56.1) fun r57=>
          Option.bind (aC a0) fun r58=>
          bif decide (r58.1<0) then
           Option.bind (aB r57.1) fun r59=>
           some (r59.1,())
          else
           some (r57.1,())
         else
          bif r4.1==0 then
           Option.bind (fR r1.1) fun r60=>
           bif r60.1 then
            Option.bind (bA 1) fun r61=>
            Option.bind (aV r1.1 r61.1) fun r62=>
            Option.bind (aC a0) fun r63=>
            bif decide (r63.1<0) then
             Option.bind (aB r62.1) fun r64=>
             some (r64.1,())
            else
             some (r62.1,())
           else
            Option.bind (aC a0) fun r65=>
            bif decide (r65.1<0) then
             Option.bind (aB r1.1) fun r66=>
             some (r66.1,())
            else
             some (r1.1,())
          else
           Option.bind (aC a0) fun r67=>
           bif decide (r67.1<0) then
            Option.bind (aB r1.1) fun r68=>
            some (r68.1,())
           else
            some (r1.1,())
        else
         Option.bind (aC a0) fun r69=>
         bif decide (r69.1<0) then
          Option.bind (aB r1.1) fun r70=>
          some (r70.1,())
         else
          some (r1.1,())
      else
       bif a2==2 then
        bif decide (r4.1>0) then
         Option.bind (bA 1) fun r71=>
         Option.bind (aV r1.1 r71.1) fun r72=>
         Option.bind (aC a0) fun r73=>
         bif decide (r73.1<0) then
          Option.bind (aB r72.1) fun r74=>
          some (r74.1,())
         else
          some (r72.1,())
        else
         bif r4.1==0 then
          Option.bind (fR r1.1) fun r75=>
          bif r75.1 then
           Option.bind (bA 1) fun r76=>
           Option.bind (aV r1.1 r76.1) fun r77=>
           Option.bind (aC a0) fun r78=>
           bif decide (r78.1<0) then
            Option.bind (aB r77.1) fun r79=>
            some (r79.1,())
           else
            some (r77.1,())
          else
           Option.bind (aC a0) fun r80=>
           bif decide (r80.1<0) then
            Option.bind (aB r1.1) fun r81=>
            some (r81.1,())
           else
            some (r1.1,())
         else
          Option.bind (aC a0) fun r82=>
          bif decide (r82.1<0) then
           Option.bind (aB r1.1) fun r83=>
           some (r83.1,())
          else
           some (r1.1,())
       else
        Option.bind (aC a0) fun r84=>
        bif decide (r84.1<0) then
         Option.bind (aB r1.1) fun r85=>
         some (r85.1,())
        else
         some (r1.1,())
   else
    bif a2==6 then
     bif !(decide (r5.1<0)) then
      Option.bind (bA 1) fun r86=>
      Option.bind (aV r1.1 r86.1) fun r87=>
      Option.bind (aC a0) fun r88=>
      bif decide (r88.1<0) then
       Option.bind (aB r87.1) fun r89=>
       some (r89.1,())
      else
       some (r87.1,())
     else
      bif a2==1 then
       bif decide (r4.1≥0) then
        Option.bind (bA 1) fun r90=>
        Option.bind (aV r1.1 r90.1) fun r91=>
        Option.bind (aC a0) fun r92=>
        bif decide (r92.1<0) then
         Option.bind (aB r91.1) fun r93=>
         some (r93.1,())
        else
         some (r91.1,())
       else
        bif a2==2 then
         bif decide (r4.1>0) then
          Option.bind (bA 1) fun r94=>
          Option.bind (aV r1.1 r94.1) fun r95=>
          Option.bind (aC a0) fun r96=>
          bif decide (r96.1<0) then
           Option.bind (aB r95.1) fun r97=>
           some (r97.1,())
          else
           some (r95.1,())
         else
          bif r4.1==0 then
           Option.bind (fR r1.1) fun r98=>
           bif r98.1 then
            Option.bind (bA 1) fun r99=>
            Option.bind (aV r1.1 r99.1) fun r100=>
            Option.bind (aC a0) fun r101=>
            bif decide (r101.1<0) then
             Option.bind (aB r100.1) fun r102=>
             some (r102.1,())
            else
             some (r100.1,())
           else
            Option.bind (aC a0) fun r103=>
            bif decide (r103.1<0) then
             Option.bind (aB r1.1) fun r104=>
             some (r104.1,())
            else
             some (r1.1,())
          else
           Option.bind (aC a0) fun r105=>
           bif decide (r105.1<0) then
            Option.bind (aB r1.1) fun r106=>
            some (r106.1,())
           else
            some (r1.1,())
        else
         Option.bind (aC a0) fun r107=>
         bif decide (r107.1<0) then
          Option.bind (aB r1.1) fun r108=>
          some (r108.1,())
         else
          some (r1.1,())
      else
       bif a2==2 then
        bif decide (r4.1>0) then
         Option.bind (bA 1) fun r109=>
         Option.bind (aV r1.1 r109.1) fun r110=>
         Option.bind (aC a0) fun r111=>
         bif decide (r111.1<0) then
          Option.bind (aB r110.1) fun r112=>
          some (r112.1,())
         else
          some (r110.1,())
        else
         bif r4.1==0 then
          Option.bind (fR r1.1) fun r113=>
          bif r113.1 then
           Option.bind (bA 1) fun r114=>
           Option.bind (aV r1.1 r114.1) fun r115=>
           Option.bind (aC a0) fun r116=>
           bif decide (r116.1<0) then
            Option.bind (aB r115.1) fun r117=>
            some (r117.1,())
           else
            some (r115.1,())
          else
           Option.bind (aC a0) fun r118=>
           bif decide (r118.1<0) then
            Option.bind (aB r1.1) fun r119=>
            some (r119.1,())
           else
            some (r1.1,())
         else
          Option.bind (aC a0) fun r120=>
          bif decide (r120.1<0) then
           Option.bind (aB r1.1) fun r121=>
           some (r121.1,())
          else
           some (r1.1,())
       else
        Option.bind (aC a0) fun r122=>
        bif decide (r122.1<0) then
         Option.bind (aB r1.1) fun r123=>
         some (r123.1,())
        else
         some (r1.1,())
    else
     bif a2==1 then
      bif decide (r4.1≥0) then
       Option.bind (bA 1) fun r124=>
       Option.bind (aV r1.1 r124.1) fun r125=>
       Option.bind (aC a0) fun r126=>
       bif decide (r126.1<0) then
        Option.bind (aB r125.1) fun r127=>
        some (r127.1,())
       else
        some (r125.1,())
      else
       bif a2==2 then
        bif decide (r4.1>0) then
         Option.bind (bA 1) fun r128=>
         Option.bind (aV r1.1 r128.1) fun r129=>
         Option.bind (aC a0) fun r130=>
         bif decide (r130.1<0) then
          Option.bind (aB r129.1) fun r131=>
          some (r131.1,())
         else
          some (r129.1,())
        else
         bif r4.1==0 then
          Option.bind (fR r1.1) fun r132=>
          bif r132.1 then
           Option.bind (bA 1) fun r133=>
           Option.bind (aV r1.1 r133.1) fun r134=>
           Option.bind (aC a0) fun r135=>
           bif decide (r135.1<0) then
            Option.bind (aB r134.1) fun r136=>
            some (r136.1,())
           else
            some (r134.1,())
          else
           Option.bind (aC a0) fun r137=>
           bif decide (r137.1<0) then
            Option.bind (aB r1.1) fun r138=>
            some (r138.1,())
           else
            some (r1.1,())
         else
          Option.bind (aC a0) fun r139=>
          bif decide (r139.1<0) then
           Option.bind (aB r1.1) fun r140=>
           some (r140.1,())
          else
           some (r1.1,())
       else
        Option.bind (aC a0) fun r141=>
        bif decide (r141.1<0) then
         Option.bind (aB r1.1) fun r142=>
         some (r142.1,())
        else
         some (r1.1,())
     else
      bif a2==2 then
       bif decide (r4.1>0) then
        Option.bind (bA 1) fun r143=>
        Option.bind (aV r1.1 r143.1) fun r144=>
        Option.bind (aC a0) fun r145=>
        bif decide (r145.1<0) then
         Option.bind (aB r144.1) fun r146=>
         some (r146.1,())
        else
         some (r144.1,())
       else
        bif r4.1==0 then
         Option.bind (fR r1.1) fun r147=>
         bif r147.1 then
          Option.bind (bA 1) fun r148=>
          Option.bind (aV r1.1 r148.1) fun r149=>
          Option.bind (aC a0) fun r150=>
          bif decide (r150.1<0) then
           Option.bind (aB r149.1) fun r151=>
           some (r151.1,())
          else
           some (r149.1,())
         else
          Option.bind (aC a0) fun r152=>
          bif decide (r152.1<0) then
           Option.bind (aB r1.1) fun r153=>
           some (r153.1,())
          else
           some (r1.1,())
        else
         Option.bind (aC a0) fun r154=>
         bif decide (r154.1<0) then
          Option.bind (aB r1.1) fun r155=>
          some (r155.1,())
         else
          some (r1.1,())
      else
       Option.bind (aC a0) fun r156=>
       bif decide (r156.1<0) then
        Option.bind (aB r1.1) fun r157=>
        some (r157.1,())
       else
        some (r1.1,())
 else
  Option.bind (aC a0) fun r158=>
  bif decide (r158.1<0) then
   Option.bind (aB r1.1) fun r159=>
   some (r159.1,())
  else
   some (r1.1,())
def ji (a0:aa):Option (Bool×Unit):=
 Option.bind (nq a0 1000000000000000) fun r1=>
 some (r1.2.1,())
def CS (a0:ai) (a1:aq):Option (aa×Bool×Unit):=
 Option.bind (bA a1.2.2.2.1.1) fun r1=>
 Option.bind (bA a1.2.2.2.2.2.1.1) fun r2=>
 Option.bind (fj r1.1 r2.1) fun r3=>
 Option.bind (nY a0.2.2.2.1) fun r4=>
 Option.bind (fj r3.1 r4.1) fun r5=>
 Option.bind (nY (w64 (a1.2.2.2.1.2+a1.2.2.2.2.2.1.2))) fun r6=>
 Option.bind (bA a1.2.2.2.2.2.2.1) fun r7=>
 Option.bind (fj r6.1 r7.1) fun r8=>
 Option.bind (rq r5.1 r8.1 a0.2.2.2.2.1) fun r9=>
 Option.bind (ji r9.1) fun r10=>
 some (r9.1,r10.1,())
def pn (a0:ak) (a1:Int):Option (aa×Unit):=
 Option.bind (bA a0.1) fun r1=>
 Option.bind (nY (w64 (a1 - a0.2))) fun r2=>
 Option.bind (fj r1.1 r2.1) fun r3=>
 some (r3.1,())
def pX (a0:ai) (a1:aa) (a2:ak):Option (aa×Unit):=
 Option.bind (bA a2.1) fun r1=>
 Option.bind (fj a1 r1.1) fun r2=>
 Option.bind (bA 100) fun r3=>
 Option.bind (nY a2.2) fun r4=>
 Option.bind (fj r3.1 r4.1) fun r5=>
 Option.bind (rq r2.1 r5.1 a0.2.2.2.2.1) fun r6=>
 some (r6.1,())
abbrev wT:Type:=Bool×(List au)×Int×Int×(List UInt8)×(List UInt8)×Int×Int×Int×Bool×(List az)×(List aq)×(List au)×Bool×(List Int)×Bool×(List Int)×Bool×(List Int)×Unit
abbrev Fh:Type:=((aa×Bool×Unit) ⊕ (Bool×Bool×(List Int)×Bool×(List Int)×Unit))
def AY (x1:wT) (again:wT→Option Fh):Option Fh:=
 match x1 with
 | (A,B,C,D,E,F,G,H,I,J,K,L,M,N,O,P,Q,R,S,_)=>
 bif decide (D<C) then
  Option.bind (idx B D) fun y2=>
  Option.bind (pn y2.2.1 (if y2.2.1.2>H then y2.2.1.2 else H)) fun r3=>
  aO (β:=((aa×Bool×Unit) ⊕ (Bool×Bool×(List Int)×Bool×(List Int)×Unit))) (γ:=(Bool×(List au)×Int×Int×(List UInt8)×(List UInt8)×Int×Int×Int×Bool×(List az)×(List aq)×(List au)×Bool×(List Int)×Bool×(List Int)×Bool×(List Int)×Bool×(List Int)×Unit)) (
   bif y2.1 then
    Option.bind (pX (E,F,G,H,I,J,K,L,M) (P,Q) y2.2.1) fun r4=>
    some (Sum.inr (A,B,C,D,E,F,G,H,I,J,K,L,M,N,O,P,Q,R,S,r4.1.1,r4.1.2,()))
   else
    some (Sum.inr (A,B,C,D,E,F,G,H,I,J,K,L,M,N,O,P,Q,R,S,r3.1.1,r3.1.2,()))) fun v5=>
  Option.bind (aV (v5.2.2.2.2.2.2.2.2.2.2.2.2.2.2.2.2.2.1,v5.2.2.2.2.2.2.2.2.2.2.2.2.2.2.2.2.2.2.1) (v5.2.2.2.2.2.2.2.2.2.2.2.2.2.2.2.2.2.2.2.1,v5.2.2.2.2.2.2.2.2.2.2.2.2.2.2.2.2.2.2.2.2.1)) fun r6=>
  bif v5.1 then
   Option.bind (ji (v5.2.2.2.2.2.2.2.2.2.2.2.2.2.2.2.2.2.2.2.1,v5.2.2.2.2.2.2.2.2.2.2.2.2.2.2.2.2.2.2.2.2.1)) fun r7=>
   bif r7.1 then
    Option.bind (ji r6.1) fun r8=>
    again (r8.1,v5.2.1,v5.2.2.1,w64 (v5.2.2.2.1+1),v5.2.2.2.2.1,v5.2.2.2.2.2.1,v5.2.2.2.2.2.2.1,v5.2.2.2.2.2.2.2.1,v5.2.2.2.2.2.2.2.2.1,v5.2.2.2.2.2.2.2.2.2.1,v5.2.2.2.2.2.2.2.2.2.2.1,v5.2.2.2.2.2.2.2.2.2.2.2.1,v5.2.2.2.2.2.2.2.2.2.2.2.2.1,v5.2.2.2.2.2.2.2.2.2.2.2.2.2.1,v5.2.2.2.2.2.2.2.2.2.2.2.2.2.2.1,v5.2.2.2.2.2.2.2.2.2.2.2.2.2.2.2.1,v5.2.2.2.2.2.2.2.2.2.2.2.2.2.2.2.2.1,r6.1.1,r6.1.2,())
   else
    again (false,v5.2.1,v5.2.2.1,w64 (v5.2.2.2.1+1),v5.2.2.2.2.1,v5.2.2.2.2.2.1,v5.2.2.2.2.2.2.1,v5.2.2.2.2.2.2.2.1,v5.2.2.2.2.2.2.2.2.1,v5.2.2.2.2.2.2.2.2.2.1,v5.2.2.2.2.2.2.2.2.2.2.1,v5.2.2.2.2.2.2.2.2.2.2.2.1,v5.2.2.2.2.2.2.2.2.2.2.2.2.1,v5.2.2.2.2.2.2.2.2.2.2.2.2.2.1,v5.2.2.2.2.2.2.2.2.2.2.2.2.2.2.1,v5.2.2.2.2.2.2.2.2.2.2.2.2.2.2.2.1,v5.2.2.2.2.2.2.2.2.2.2.2.2.2.2.2.2.1,r6.1.1,r6.1.2,())
  else
   again (false,v5.2.1,v5.2.2.1,w64 (v5.2.2.2.1+1),v5.2.2.2.2.1,v5.2.2.2.2.2.1,v5.2.2.2.2.2.2.1,v5.2.2.2.2.2.2.2.1,v5.2.2.2.2.2.2.2.2.1,v5.2.2.2.2.2.2.2.2.2.1,v5.2.2.2.2.2.2.2.2.2.2.1,v5.2.2.2.2.2.2.2.2.2.2.2.1,v5.2.2.2.2.2.2.2.2.2.2.2.2.1,v5.2.2.2.2.2.2.2.2.2.2.2.2.2.1,v5.2.2.2.2.2.2.2.2.2.2.2.2.2.2.1,v5.2.2.2.2.2.2.2.2.2.2.2.2.2.2.2.1,v5.2.2.2.2.2.2.2.2.2.2.2.2.2.2.2.2.1,r6.1.1,r6.1.2,())
 else
  some (Sum.inr (A,N,O,R,S,()))
def Ho (a0:ai) (a1:aq):Option (aa×Bool×Unit):=
 Option.bind (CS a0 a1) fun r1=>
 aO (β:=(aa×Bool×Unit)) (γ:=(Bool×Bool×(List Int)×Bool×(List Int)×Unit)) (
  iter (X:=wT) (β:=Fh) (a1.2.2.2.2.2.2.2.1.length+(Int.natAbs ((a1.2.2.2.2.2.2.2.1.length:Int))+(Int.natAbs (0:Int)+(a0.1.length+(a0.2.1.length+(a0.2.2.1.natAbs+(a0.2.2.2.1.natAbs+(a0.2.2.2.2.1.natAbs+(a0.2.2.2.2.2.2.1.length+(a0.2.2.2.2.2.2.2.1.length+(a0.2.2.2.2.2.2.2.2.length+(List.length ([]:List Int)+(r1.1.2.length+(r1.1.2.length+2)))))))))))))) (r1.2.1,a1.2.2.2.2.2.2.2.1,(a1.2.2.2.2.2.2.2.1.length:Int),0,a0.1,a0.2.1,a0.2.2.1,a0.2.2.2.1,a0.2.2.2.2.1,a0.2.2.2.2.2.1,a0.2.2.2.2.2.2.1,a0.2.2.2.2.2.2.2.1,a0.2.2.2.2.2.2.2.2,false,[],r1.1.1,r1.1.2,r1.1.1,r1.1.2,()) (AY)) fun v10=>
 some ((v10.2.2.2.1,v10.2.2.2.2.1),v10.1,())
end Go.Md
namespace Go.Md
open Go.Dn
def sE (a0:aa):Option (Bool×Unit):=
 Option.bind (ji a0) fun r1=>
 some (!r1.1,())
def uO (a0:aa):Option (Bool×Unit):=
 Option.bind (ji a0) fun r1=>
 some (!r1.1,())
def x9 (a0:aa):Option (Bool×Unit):=
 Option.bind (ji a0) fun r1=>
 some (!r1.1,())
def tw (a0:aa):Option (Bool×Unit):=
 Option.bind (ji a0) fun r1=>
 some (!r1.1,())
abbrev fL:Type:=(List aa)×Unit×Int×Int×Unit
abbrev kZ:Type:=((Int×Unit) ⊕ Unit)
def fK (x1:fL) (again:fL→Option kZ):Option kZ:=
 match x1 with
 | (A,B,C,D,_)=>
 bif decide (D<C) then
  Option.bind (idx A D) fun y2=>
  Option.bind (sE y2) fun r3=>
  bif r3.1 then
   some (Sum.inl (D,()))
  else
   again (A,B,C,w64 (D+1),())
 else
  some (Sum.inr ())
def ng (a0:List aa) (a1:Unit):Option (Int×Unit):=
 aO (β:=(Int×Unit)) (γ:=Unit) (
  iter (X:=fL) (β:=kZ) (List.length a0+(Int.natAbs ((List.length a0:Int))+(Int.natAbs (0:Int)+2))) (a0,a1,(List.length a0:Int),0,()) (fK)) fun _=>
 some ((-1),())
abbrev eI:Type:=(List aa)×Unit×Int×Int×Unit
abbrev ko:Type:=((Int×Unit) ⊕ Unit)
def eF (x1:eI) (again:eI→Option ko):Option ko:=
 match x1 with
 | (A,B,C,D,_)=>
 bif decide (D<C) then
  Option.bind (idx A D) fun y2=>
  Option.bind (uO y2) fun r3=>
  bif r3.1 then
   some (Sum.inl (D,()))
  else
   again (A,B,C,w64 (D+1),())
 else
  some (Sum.inr ())
def lK (a0:List aa) (a1:Unit):Option (Int×Unit):=
 aO (β:=(Int×Unit)) (γ:=Unit) (
  iter (X:=eI) (β:=ko) (List.length a0+(Int.natAbs ((List.length a0:Int))+(Int.natAbs (0:Int)+2))) (a0,a1,(List.length a0:Int),0,()) (eF)) fun _=>
 some ((-1),())
abbrev eH:Type:=(List aa)×Unit×Int×Int×Unit
abbrev ku:Type:=((Int×Unit) ⊕ Unit)
def eE (x1:eH) (again:eH→Option ku):Option ku:=
 match x1 with
 | (A,B,C,D,_)=>
 bif decide (D<C) then
  Option.bind (idx A D) fun y2=>
  Option.bind (x9 y2) fun r3=>
  bif r3.1 then
   some (Sum.inl (D,()))
  else
   again (A,B,C,w64 (D+1),())
 else
  some (Sum.inr ())
def lJ (a0:List aa) (a1:Unit):Option (Int×Unit):=
 aO (β:=(Int×Unit)) (γ:=Unit) (
  iter (X:=eH) (β:=ku) (List.length a0+(Int.natAbs ((List.length a0:Int))+(Int.natAbs (0:Int)+2))) (a0,a1,(List.length a0:Int),0,()) (eE)) fun _=>
 some ((-1),())
abbrev eL:Type:=(List aa)×Unit×Int×Int×Unit
abbrev kr:Type:=((Int×Unit) ⊕ Unit)
def eD (x1:eL) (again:eL→Option kr):Option kr:=
 match x1 with
 | (A,B,C,D,_)=>
 bif decide (D<C) then
  Option.bind (idx A D) fun y2=>
  Option.bind (tw y2) fun r3=>
  bif r3.1 then
   some (Sum.inl (D,()))
  else
   again (A,B,C,w64 (D+1),())
 else
  some (Sum.inr ())
def lU (a0:List aa) (a1:Unit):Option (Int×Unit):=
 aO (β:=(Int×Unit)) (γ:=Unit) (
  iter (X:=eL) (β:=kr) (List.length a0+(Int.natAbs ((List.length a0:Int))+(Int.natAbs (0:Int)+2))) (a0,a1,(List.length a0:Int),0,()) (eD)) fun _=>
 some ((-1),())
def ia (a0:List aa) (a1:Unit):Option (Bool×Unit):=
 Option.bind (ng a0 a1) fun r1=>
 some (decide (r1.1≥0),())
def bL (a0:List aa) (a1:Unit):Option (Bool×Unit):=
 Option.bind (lK a0 a1) fun r1=>
 some (decide (r1.1≥0),())
def gz (a0:List aa) (a1:Unit):Option (Bool×Unit):=
 Option.bind (lJ a0 a1) fun r1=>
 some (decide (r1.1≥0),())
def gy (a0:List aa) (a1:Unit):Option (Bool×Unit):=
 Option.bind (lU a0 a1) fun r1=>
 some (decide (r1.1≥0),())
noncomputable def mb (a0:List aa):Option ((List aa)×Unit):=
 bif List.isEmpty a0 then
  both (
   some ([],())) (
   chk (decide ((0+(List.length a0))*32≤140737488355328)&&decide (0+(List.length a0)≤maxLen)) <|
   some (a0,()))
 else
  chk (decide ((0+(List.length a0))*32≤140737488355328)&&decide (0+(List.length a0)≤maxLen)) <|
  some (a0,())
abbrev gZ:Type:=(List aq)×Int×Int×(List UInt8)×(List UInt8)×Int×Int×Int×Bool×(List az)×(List aq)×(List au)×(List aa)×(List aD)×(List aa)×(List Bool)×(List aa)×(List aa)×(List aa)×Unit
abbrev rm:Type:=((Int×(ai×(List aa)×(List aa)×(List aa)×(List aD)×(List aa)×(List Bool)×(List aa)×Unit)×Unit) ⊕ ((List UInt8)×(List UInt8)×Int×Int×Int×Bool×(List az)×(List aq)×(List au)×(List aa)×(List aD)×(List aa)×(List Bool)×(List aa)×(List aa)×(List aa)×Unit))
noncomputable def jU (x1:gZ) (again:gZ→Option rm):Option rm:=
 match x1 with
 | (A,B,C,D,E,F,G,H,I,J,K,L,M,N,O,P,Q,R,S,_)=>
 bif decide (C<B) then
  Option.bind (idx A C) fun y2=>
  Option.bind (Ho (D,E,F,G,H,I,J,K,L) y2) fun r3=>
  bif !r3.2.1 then
   some (Sum.inl (1,((D,E,F,G,H,I,J,K,L),M,O,Q,N,R,P,S,()),()))
  else
   Option.bind (qb J y2.2.2.2.2.2.2.2.2) fun r4=>
   chk (decide (((M.length)+1)*32≤140737488355328)&&decide ((M.length)+1≤maxLen)) <|
   chk (decide (0≤r4.1)&&decide (r4.1<(O.length:Int))) <|
   Option.bind (O[r4.1.toNat]?) fun y5=>
   Option.bind (aV y5 r3.1) fun r6=>
   chk (decide (0≤r4.1)&&decide (r4.1<(O.length:Int))) <|
   Option.bind (O[r4.1.toNat]?) fun _=>
   chk (decide (((N.length)+1)*40≤140737488355328)&&decide ((N.length)+1≤maxLen)) <|
   chk (decide (0≤r4.1)&&decide (r4.1<(P.length:Int))) <|
   Option.bind (P[r4.1.toNat]?) fun _=>
   again (A,B,w64 (C+1),D,E,F,G,H,I,J,K,L,M++[r3.1],N++[(r4.1,r3.1)],List.set O r4.1.toNat r6.1,List.set P r4.1.toNat true,Q,R,S,())
 else
  some (Sum.inr (D,E,F,G,H,I,J,K,L,M,N,O,P,Q,R,S,()))
noncomputable def mL (a0:ai×(List aa)×(List aa)×(List aa)×(List aD)×(List aa)×(List Bool)×(List aa)×Unit):Option (Int×(ai×(List aa)×(List aa)×(List aa)×(List aD)×(List aa)×(List Bool)×(List aa)×Unit)×Unit):=
 chk (decide (0≤((a0.1.2.2.2.2.2.2.1.length:Int)))&&decide (((a0.1.2.2.2.2.2.2.1.length:Int))≤((a0.1.2.2.2.2.2.2.1.length:Int)))&&decide ((32:Int)*((a0.1.2.2.2.2.2.2.1.length:Int))≤281474976710656)&&decide (((a0.1.2.2.2.2.2.2.1.length:Int))≤9223372036854775807)) <|
 chk (decide (0≤((a0.1.2.2.2.2.2.2.1.length:Int)))&&decide (((a0.1.2.2.2.2.2.2.1.length:Int))≤((a0.1.2.2.2.2.2.2.1.length:Int)))&&decide ((1:Int)*((a0.1.2.2.2.2.2.2.1.length:Int))≤281474976710656)&&decide (((a0.1.2.2.2.2.2.2.1.length:Int))≤9223372036854775807)) <|
 aO (β:=(Int×(ai×(List aa)×(List aa)×(List aa)×(List aD)×(List aa)×(List Bool)×(List aa)×Unit)×Unit)) (γ:=((List UInt8)×(List UInt8)×Int×Int×Int×Bool×(List az)×(List aq)×(List au)×(List aa)×(List aD)×(List aa)×(List Bool)×(List aa)×(List aa)×(List aa)×Unit)) (
  iter (X:=gZ) (β:=rm) (a0.1.2.2.2.2.2.2.2.1.length+(Int.natAbs ((a0.1.2.2.2.2.2.2.2.1.length:Int))+(Int.natAbs (0:Int)+(a0.1.1.length+(a0.1.2.1.length+(a0.1.2.2.1.natAbs+(a0.1.2.2.2.1.natAbs+(a0.1.2.2.2.2.1.natAbs+(a0.1.2.2.2.2.2.2.1.length+(a0.1.2.2.2.2.2.2.2.1.length+(a0.1.2.2.2.2.2.2.2.2.length+(a0.2.1.length+(a0.2.2.2.2.1.length+(List.length ((List.replicate (Int.toNat ((a0.1.2.2.2.2.2.2.1.length:Int))) (false,[]):List (aa)):List aa)+(List.length ((List.replicate (Int.toNat ((a0.1.2.2.2.2.2.2.1.length:Int))) false:List (Bool)):List Bool)+(a0.2.2.2.1.length+(a0.2.2.2.2.2.1.length+(a0.2.2.2.2.2.2.2.1.length+2)))))))))))))))))) (a0.1.2.2.2.2.2.2.2.1,(a0.1.2.2.2.2.2.2.2.1.length:Int),0,a0.1.1,a0.1.2.1,a0.1.2.2.1,a0.1.2.2.2.1,a0.1.2.2.2.2.1,a0.1.2.2.2.2.2.1,a0.1.2.2.2.2.2.2.1,a0.1.2.2.2.2.2.2.2.1,a0.1.2.2.2.2.2.2.2.2,a0.2.1,a0.2.2.2.2.1,(List.replicate (Int.toNat ((a0.1.2.2.2.2.2.2.1.length:Int))) (false,[]):List (aa)),(List.replicate (Int.toNat ((a0.1.2.2.2.2.2.2.1.length:Int))) false:List (Bool)),a0.2.2.2.1,a0.2.2.2.2.2.1,a0.2.2.2.2.2.2.2.1,()) (jU)) fun v9=>
 Option.bind (ia v9.2.2.2.2.2.2.2.2.2.2.2.1 ()) fun r10=>
 bif r10.1 then
  some (1,((v9.1,v9.2.1,v9.2.2.1,v9.2.2.2.1,v9.2.2.2.2.1,v9.2.2.2.2.2.1,v9.2.2.2.2.2.2.1,v9.2.2.2.2.2.2.2.1,v9.2.2.2.2.2.2.2.2.1),v9.2.2.2.2.2.2.2.2.2.1,v9.2.2.2.2.2.2.2.2.2.2.2.1,v9.2.2.2.2.2.2.2.2.2.2.2.2.2.1,v9.2.2.2.2.2.2.2.2.2.2.1,v9.2.2.2.2.2.2.2.2.2.2.2.2.2.2.1,v9.2.2.2.2.2.2.2.2.2.2.2.2.1,v9.2.2.2.2.2.2.2.2.2.2.2.2.2.2.2.1,()),())
 else
  Option.bind (mb v9.2.2.2.2.2.2.2.2.2.2.2.1) fun r11=>
  some (0,((v9.1,v9.2.1,v9.2.2.1,v9.2.2.2.1,v9.2.2.2.2.1,v9.2.2.2.2.2.1,v9.2.2.2.2.2.2.1,v9.2.2.2.2.2.2.2.1,v9.2.2.2.2.2.2.2.2.1),v9.2.2.2.2.2.2.2.2.2.1,v9.2.2.2.2.2.2.2.2.2.2.2.1,r11.1,v9.2.2.2.2.2.2.2.2.2.2.1,v9.2.2.2.2.2.2.2.2.2.2.2.2.2.2.1,v9.2.2.2.2.2.2.2.2.2.2.2.2.1,v9.2.2.2.2.2.2.2.2.2.2.2.2.2.2.2.1,()),())
def fH (a0:ai×(List aa)×(List aa)×(List aa)×(List aD)×(List aa)×(List Bool)×(List aa)×Unit) (a1:Int) (a2:aa):Option ((ai×(List aa)×(List aa)×(List aa)×(List aD)×(List aa)×(List Bool)×(List aa)×Unit)×Unit):=
 chk (decide (0≤a1)&&decide (a1<(a0.2.2.2.1.length:Int))) <|
 Option.bind (a0.2.2.2.1[a1.toNat]?) fun y1=>
 Option.bind (aV y1 a2) fun r2=>
 chk (decide (0≤a1)&&decide (a1<(a0.2.2.2.1.length:Int))) <|
 Option.bind (a0.2.2.2.1[a1.toNat]?) fun _=>
 chk (decide (((a0.2.2.2.2.1.length)+1)*40≤140737488355328)&&decide ((a0.2.2.2.2.1.length)+1≤maxLen)) <|
 some ((a0.1,a0.2.1,a0.2.2.1,List.set a0.2.2.2.1 a1.toNat r2.1,a0.2.2.2.2.1++[(a1,a2)],a0.2.2.2.2.2.1,a0.2.2.2.2.2.2.1,a0.2.2.2.2.2.2.2.1,()),())
def xJ (a0:aa):Option (aa×Unit):=
 Option.bind (iO false a0.2) fun r1=>
 some (r1.1,())
def tG (a0:Int):Option (Bool×Unit):=
 some (decide (a0>1000000000),())
abbrev iT:Type:=(List Int)×Unit×Int×Int×Unit
abbrev o6:Type:=((Int×Unit) ⊕ Unit)
def iV (x1:iT) (again:iT→Option o6):Option o6:=
 match x1 with
 | (A,B,C,D,_)=>
 bif decide (D<C) then
  Option.bind (idx A D) fun y2=>
  Option.bind (tG y2) fun r3=>
  bif r3.1 then
   some (Sum.inl (D,()))
  else
   again (A,B,C,w64 (D+1),())
 else
  some (Sum.inr ())
def rU (a0:List Int) (a1:Unit):Option (Int×Unit):=
 aO (β:=(Int×Unit)) (γ:=Unit) (
  iter (X:=iT) (β:=o6) (List.length a0+(Int.natAbs ((List.length a0:Int))+(Int.natAbs (0:Int)+2))) (a0,a1,(List.length a0:Int),0,()) (iV)) fun _=>
 some ((-1),())
def iU (a0:List Int) (a1:Unit):Option (Bool×Unit):=
 Option.bind (rU a0 a1) fun r1=>
 some (decide (r1.1≥0),())
abbrev mo:Type:=Int×(List Int)×Int×Int×Unit
abbrev qd:Type:=((Int×Unit) ⊕ (Int×Unit))
def mj (x1:mo) (again:mo→Option qd):Option qd:=
 bif decide (x1.2.2.2.1<x1.2.2.1) then
  Option.bind (idx x1.2.1 x1.2.2.2.1) fun y2=>
  Option.bind (b6 y2 0 1000000000) fun r3=>
  bif r3.1 then
   some (Sum.inl (1,()))
  else
   again (w64 (x1.1+y2),x1.2.1,x1.2.2.1,w64 (x1.2.2.2.1+1),())
 else
  some (Sum.inr (x1.1,()))
def oR (a0:List Int):Option (Int×Unit):=
 bif ((List.length a0:Int))==0 then
  some (9,())
 else
  bif decide (((List.length a0:Int))>1000) then
   some (2,())
  else
   aO (β:=(Int×Unit)) (γ:=(Int×Unit)) (
    iter (X:=mo) (β:=qd) (Int.natAbs (0:Int)+(List.length a0+(Int.natAbs ((List.length a0:Int))+(Int.natAbs (0:Int)+2)))) (0,a0,(List.length a0:Int),0,()) (mj)) fun v4=>
   bif v4.1==0 then
    some (13,())
   else
    some (0,())
def kF (a0:ah) (a1:ah):Option (Int×Unit):=
 Option.bind (nv a1.2.2 a0.2.2) fun r1=>
 some (r1.1,())
abbrev cV:Type:=Int×Int×Unit×Int×Int×(List ah)×Unit
abbrev cT:Type:=((((List ah)×Unit) ⊕ ((List ah)×Unit)) ⊕ (Int×Int×Unit×Int×(List ah)×Unit))
def cZ (x1:cV) (again:cV→Option cT):Option cT:=
 match x1 with
 | (A,B,C,D,E,F,_)=>
 bif decide (E>A) then
  chk (decide (0≤E)&&decide (E<(F.length:Int))) <|
  Option.bind (F[E.toNat]?) fun y2=>
  chk (decide (0≤(w64 (E - 1)))&&decide ((w64 (E - 1))<(F.length:Int))) <|
  Option.bind (F[(w64 (E - 1)).toNat]?) fun y3=>
  Option.bind (kF y2 y3) fun r4=>
  bif decide (r4.1<0) then
   chk (decide (0≤(w64 (E - 1)))&&decide ((w64 (E - 1))<(F.length:Int))) <|
   Option.bind (F[(w64 (E - 1)).toNat]?) fun y5=>
   chk (decide (0≤E)&&decide (E<(F.length:Int))) <|
   Option.bind (F[E.toNat]?) fun y6=>
   chk (decide (0≤E)&&decide (E<(F.length:Int))) <|
   Option.bind (F[E.toNat]?) fun _=>
   chk (decide (0≤(w64 (E - 1)))&&decide ((w64 (E - 1))<(List.length (List.set F E.toNat y5):Int))) <|
   Option.bind ((List.set F E.toNat y5)[(w64 (E - 1)).toNat]?) fun _=>
   again (A,B,C,D,w64 (E - 1),List.set (List.set F E.toNat y5) (w64 (E - 1)).toNat y6,())
  else
   some (Sum.inr (A,B,C,D,F,()))
 else
  some (Sum.inr (A,B,C,D,F,()))
abbrev cS:Type:=Int×Int×Unit×Int×(List ah)×Unit
abbrev cU:Type:=(((List ah)×Unit) ⊕ ((List ah)×Unit))
def bY (x1:cS) (again:cS→Option cU):Option cU:=
 match x1 with
 | (A,B,C,D,E,_)=>
 bif decide (D<B) then
  aO (β:=(((List ah)×Unit) ⊕ ((List ah)×Unit))) (γ:=(Int×Int×Unit×Int×(List ah)×Unit)) (
   iter (X:=cV) (β:=cT) (A.natAbs+(B.natAbs+(D.natAbs+(D.natAbs+(E.length+2))))) (A,B,C,D,D,E,()) (cZ)) fun v2=>
  again (v2.1,v2.2.1,v2.2.2.1,w64 (v2.2.2.2.1+1),v2.2.2.2.2.1,())
 else
  some (Sum.inr (E,()))
def cu (a0:List ah) (a1:Int) (a2:Int) (a3:Unit):Option ((List ah)×Unit):=
 aO (β:=((List ah)×Unit)) (γ:=((List ah)×Unit)) (
  iter (X:=cS) (β:=cU) (Int.natAbs a1+(Int.natAbs a2+(Int.natAbs (w64 (a1+1))+(List.length a0+2)))) (a1,a2,a3,w64 (a1+1),a0,()) (bY)) fun v11=>
 some (v11.1,())
abbrev dR:Type:=Int×Int×Int×Int×(List ah)×Unit
abbrev dN:Type:=(((List ah)×Unit) ⊕ ((List ah)×Unit))
def dK (x1:dR) (again:dR→Option dN):Option dN:=
 match x1 with
 | (A,B,C,D,E,_)=>
 bif decide (D<C) then
  chk (decide (0≤(w64 (B+D)))&&decide ((w64 (B+D))<(E.length:Int))) <|
  Option.bind (E[(w64 (B+D)).toNat]?) fun y2=>
  chk (decide (0≤(w64 (A+D)))&&decide ((w64 (A+D))<(E.length:Int))) <|
  Option.bind (E[(w64 (A+D)).toNat]?) fun y3=>
  chk (decide (0≤(w64 (A+D)))&&decide ((w64 (A+D))<(E.length:Int))) <|
  Option.bind (E[(w64 (A+D)).toNat]?) fun _=>
  chk (decide (0≤(w64 (B+D)))&&decide ((w64 (B+D))<(List.length (List.set E (w64 (A+D)).toNat y2):Int))) <|
  Option.bind ((List.set E (w64 (A+D)).toNat y2)[(w64 (B+D)).toNat]?) fun _=>
  again (A,B,C,w64 (D+1),List.set (List.set E (w64 (A+D)).toNat y2) (w64 (B+D)).toNat y3,())
 else
  some (Sum.inr (E,()))
def b7 (a0:List ah) (a1:Int) (a2:Int) (a3:Int) (_a4:Unit):Option ((List ah)×Unit):=
 aO (β:=((List ah)×Unit)) (γ:=((List ah)×Unit)) (
  iter (X:=dR) (β:=dN) (Int.natAbs a1+(Int.natAbs a2+(Int.natAbs a3+(Int.natAbs (0:Int)+(List.length a0+2))))) (a1,a2,a3,0,a0,()) (dK)) fun v6=>
 some (v6.1,())
abbrev eY:Type:=Int×Unit×Int×Int×(List ah)×Unit
abbrev eW:Type:=(((List ah)×Unit) ⊕ (Int×Unit×Int×(List ah)×Unit))
def ff (x1:eY) (again:eY→Option eW):Option eW:=
 match x1 with
 | (A,B,C,D,E,_)=>
 bif C != D then
  bif decide (C>D) then
   Option.bind (b7 E (w64 (A - C)) A D B) fun r2=>
   again (A,B,w64 (C - D),D,r2.1,())
  else
   Option.bind (b7 E (w64 (A - C)) (w64 ((w64 (A+D)) - C)) C B) fun r3=>
   again (A,B,C,w64 (D - C),r3.1,())
 else
  some (Sum.inr (A,B,C,E,()))
def gb (a0:List ah) (a1:Int) (a2:Int) (a3:Int) (a4:Unit):Option ((List ah)×Unit):=
 aO (β:=((List ah)×Unit)) (γ:=(Int×Unit×Int×(List ah)×Unit)) (
  iter (X:=eY) (β:=eW) (Int.natAbs a2+(Int.natAbs (w64 (a2 - a1))+(Int.natAbs (w64 (a3 - a2))+(List.length a0+2)))) (a2,a4,w64 (a2 - a1),w64 (a3 - a2),a0,()) (ff)) fun v4=>
 Option.bind (b7 v4.2.2.2.1 (w64 (v4.1 - v4.2.2.1)) v4.1 v4.2.2.1 v4.2.1) fun r5=>
 some (r5.1,())
abbrev eg:Type:=Int×Unit×Int×Int×(List ah)×Unit
abbrev ew:Type:=(((List ah)×Unit) ⊕ (Int×Int×(List ah)×Unit))
def cG (x1:eg) (again:eg→Option ew):Option ew:=
 match x1 with
 | (A,B,C,D,E,_)=>
 bif decide (C<D) then
  let n2:Int:=w64 (Int.fdiv (bM (w64 (C+D))) (2 ^ 1))
  chk (decide (0≤n2)&&decide (n2<(E.length:Int))) <|
  Option.bind (E[n2.toNat]?) fun y3=>
  chk (decide (0≤A)&&decide (A<(E.length:Int))) <|
  Option.bind (E[A.toNat]?) fun y4=>
  Option.bind (kF y3 y4) fun r5=>
  bif decide (r5.1<0) then
   again (A,B,w64 (n2+1),D,E,())
  else
   again (A,B,C,n2,E,())
 else
  some (Sum.inr (A,C,E,()))
abbrev er:Type:=Int×Int×(List ah)×Unit
abbrev ef:Type:=(((List ah)×Unit) ⊕ ((List ah)×Unit))
def ez (x1:er) (again:er→Option ef):Option ef:=
 match x1 with
 | (A,B,C,_)=>
 bif decide (B<(w64 (A - 1))) then
  chk (decide (0≤(w64 (B+1)))&&decide ((w64 (B+1))<(C.length:Int))) <|
  Option.bind (C[(w64 (B+1)).toNat]?) fun y2=>
  chk (decide (0≤B)&&decide (B<(C.length:Int))) <|
  Option.bind (C[B.toNat]?) fun y3=>
  chk (decide (0≤B)&&decide (B<(C.length:Int))) <|
  Option.bind (C[B.toNat]?) fun _=>
  chk (decide (0≤(w64 (B+1)))&&decide ((w64 (B+1))<(List.length (List.set C B.toNat y2):Int))) <|
  Option.bind ((List.set C B.toNat y2)[(w64 (B+1)).toNat]?) fun _=>
  again (A,w64 (B+1),List.set (List.set C B.toNat y2) (w64 (B+1)).toNat y3,())
 else
  some (Sum.inr (C,()))
abbrev dQ:Type:=Int×Unit×Int×Int×(List ah)×Unit
abbrev dS:Type:=(((List ah)×Unit) ⊕ (Int×Int×(List ah)×Unit))
def cC (x1:dQ) (again:dQ→Option dS):Option dS:=
 match x1 with
 | (A,B,C,D,E,_)=>
 bif decide (C<D) then
  let n2:Int:=w64 (Int.fdiv (bM (w64 (C+D))) (2 ^ 1))
  chk (decide (0≤A)&&decide (A<(E.length:Int))) <|
  Option.bind (E[A.toNat]?) fun y3=>
  chk (decide (0≤n2)&&decide (n2<(E.length:Int))) <|
  Option.bind (E[n2.toNat]?) fun y4=>
  Option.bind (kF y3 y4) fun r5=>
  bif !(decide (r5.1<0)) then
   again (A,B,w64 (n2+1),D,E,())
  else
   again (A,B,C,n2,E,())
 else
  some (Sum.inr (A,C,E,()))
abbrev dU:Type:=Int×Int×(List ah)×Unit
abbrev dV:Type:=(((List ah)×Unit) ⊕ ((List ah)×Unit))
def dO (x1:dU) (again:dU→Option dV):Option dV:=
 match x1 with
 | (A,B,C,_)=>
 bif decide (B>A) then
  chk (decide (0≤(w64 (B - 1)))&&decide ((w64 (B - 1))<(C.length:Int))) <|
  Option.bind (C[(w64 (B - 1)).toNat]?) fun y2=>
  chk (decide (0≤B)&&decide (B<(C.length:Int))) <|
  Option.bind (C[B.toNat]?) fun y3=>
  chk (decide (0≤B)&&decide (B<(C.length:Int))) <|
  Option.bind (C[B.toNat]?) fun _=>
  chk (decide (0≤(w64 (B - 1)))&&decide ((w64 (B - 1))<(List.length (List.set C B.toNat y2):Int))) <|
  Option.bind ((List.set C B.toNat y2)[(w64 (B - 1)).toNat]?) fun _=>
  again (A,w64 (B - 1),List.set (List.set C B.toNat y2) (w64 (B - 1)).toNat y3,())
 else
  some (Sum.inr (C,()))
abbrev dM:Type:=Int×Int×Int×Unit×Int×Int×Int×Int×Int×(List ah)×Unit
abbrev dP:Type:=(((List ah)×Unit) ⊕ (Int×Int×Int×Unit×Int×Int×Int×(List ah)×Unit))
def cB (x1:dM) (again:dM→Option dP):Option dP:=
 match x1 with
 | (A,B,C,D,E,F,G,H,I,J,_)=>
 bif decide (G<H) then
  let n2:Int:=w64 (Int.fdiv (bM (w64 (G+H))) (2 ^ 1))
  chk (decide (0≤(w64 (I - n2)))&&decide ((w64 (I - n2))<(J.length:Int))) <|
  Option.bind (J[(w64 (I - n2)).toNat]?) fun y3=>
  chk (decide (0≤n2)&&decide (n2<(J.length:Int))) <|
  Option.bind (J[n2.toNat]?) fun y4=>
  Option.bind (kF y3 y4) fun r5=>
  bif !(decide (r5.1<0)) then
   again (A,B,C,D,E,F,w64 (n2+1),H,I,J,())
  else
   again (A,B,C,D,E,F,G,n2,I,J,())
 else
  some (Sum.inr (A,B,C,D,E,F,G,J,()))
def bP (self:((List ah)×Int×Int×Int×Unit×Unit)→Option ((List ah)×Unit)) (a0:List ah) (a1:Int) (a2:Int) (a3:Int) (a4:Unit):Option ((List ah)×Unit):=
 bif (w64 (a2 - a1))==1 then
  aO (β:=((List ah)×Unit)) (γ:=(Int×Int×(List ah)×Unit)) (
   iter (X:=eg) (β:=ew) (Int.natAbs a1+(Int.natAbs a2+(Int.natAbs a3+(List.length a0+2)))) (a1,a4,a2,a3,a0,()) (cG)) fun v6=>
  aO (β:=((List ah)×Unit)) (γ:=((List ah)×Unit)) (
   iter (X:=er) (β:=ef) (v6.2.1.natAbs+(v6.1.natAbs+(v6.2.2.1.length+2))) (v6.2.1,v6.1,v6.2.2.1,()) (ez)) fun v12=>
  some (v12.1,())
 else
  bif (w64 (a3 - a2))==1 then
   aO (β:=((List ah)×Unit)) (γ:=(Int×Int×(List ah)×Unit)) (
    iter (X:=dQ) (β:=dS) (Int.natAbs a2+(Int.natAbs a1+(Int.natAbs a2+(List.length a0+2)))) (a2,a4,a1,a2,a0,()) (cC)) fun v18=>
   aO (β:=((List ah)×Unit)) (γ:=((List ah)×Unit)) (
    iter (X:=dU) (β:=dV) (v18.2.1.natAbs+(v18.1.natAbs+(v18.2.2.1.length+2))) (v18.2.1,v18.1,v18.2.2.1,()) (dO)) fun v24=>
   some (v24.1,())
  else
   let n25:Int:=w64 (Int.fdiv (bM (w64 (a1+a3))) (2 ^ 1))
   aO (β:=((List ah)×Unit)) (γ:=(Int×Int×Int×Unit×Int×Int×Int×Int×(List ah)×Unit)) (
    bif decide (a2>n25) then
     some (Sum.inr (a1,a2,a3,a4,n25,w64 (n25+a2),w64 ((w64 (n25+a2)) - a3),n25,a0,()))
    else
     some (Sum.inr (a1,a2,a3,a4,n25,w64 (n25+a2),a1,a2,a0,()))) fun v26=>
   aO (β:=((List ah)×Unit)) (γ:=(Int×Int×Int×Unit×Int×Int×Int×(List ah)×Unit)) (
    iter (X:=dM) (β:=dP) (v26.1.natAbs+(v26.2.1.natAbs+(v26.2.2.1.natAbs+(v26.2.2.2.2.1.natAbs+(v26.2.2.2.2.2.1.natAbs+(v26.2.2.2.2.2.2.1.natAbs+(v26.2.2.2.2.2.2.2.1.natAbs+(Int.natAbs (w64 (v26.2.2.2.2.2.1 - 1))+(v26.2.2.2.2.2.2.2.2.1.length+2))))))))) (v26.1,v26.2.1,v26.2.2.1,v26.2.2.2.1,v26.2.2.2.2.1,v26.2.2.2.2.2.1,v26.2.2.2.2.2.2.1,v26.2.2.2.2.2.2.2.1,w64 (v26.2.2.2.2.2.1 - 1),v26.2.2.2.2.2.2.2.2.1,()) (cB)) fun v32=>
   bif decide (v32.2.2.2.2.2.2.1<v32.2.1) then
    aO (β:=((List ah)×Unit)) (γ:=(Int×Int×Unit×Int×Int×Int×(List ah)×Unit)) (
     bif decide (v32.2.1<(w64 (v32.2.2.2.2.2.1 - v32.2.2.2.2.2.2.1))) then
      Option.bind (gb v32.2.2.2.2.2.2.2.1 v32.2.2.2.2.2.2.1 v32.2.1 (w64 (v32.2.2.2.2.2.1 - v32.2.2.2.2.2.2.1)) v32.2.2.2.1) fun r33=>
      some (Sum.inr (v32.1,v32.2.2.1,v32.2.2.2.1,v32.2.2.2.2.1,v32.2.2.2.2.2.2.1,w64 (v32.2.2.2.2.2.1 - v32.2.2.2.2.2.2.1),r33.1,()))
     else
      some (Sum.inr (v32.1,v32.2.2.1,v32.2.2.2.1,v32.2.2.2.2.1,v32.2.2.2.2.2.2.1,w64 (v32.2.2.2.2.2.1 - v32.2.2.2.2.2.2.1),v32.2.2.2.2.2.2.2.1,()))) fun v34=>
    bif decide (v34.1<v34.2.2.2.2.1) then
     aO (β:=((List ah)×Unit)) (γ:=(Int×Unit×Int×Int×(List ah)×Unit)) (
      bif decide (v34.2.2.2.2.1<v34.2.2.2.1) then
       Option.bind (self (v34.2.2.2.2.2.2.1,v34.1,v34.2.2.2.2.1,v34.2.2.2.1,v34.2.2.1,())) fun r35=>
       some (Sum.inr (v34.2.1,v34.2.2.1,v34.2.2.2.1,v34.2.2.2.2.2.1,r35.1,()))
      else
       some (Sum.inr (v34.2.1,v34.2.2.1,v34.2.2.2.1,v34.2.2.2.2.2.1,v34.2.2.2.2.2.2.1,()))) fun v36=>
     bif decide (v36.2.2.1<v36.2.2.2.1) then
      bif decide (v36.2.2.2.1<v36.1) then
       Option.bind (self (v36.2.2.2.2.1,v36.2.2.1,v36.2.2.2.1,v36.1,v36.2.1,())) fun r37=>
       some (r37.1,())
      else
       some (v36.2.2.2.2.1,())
     else
      some (v36.2.2.2.2.1,())
    else
     aO (β:=((List ah)×Unit)) (γ:=(Int×Unit×Int×Int×(List ah)×Unit)) (
      some (Sum.inr (v34.2.1,v34.2.2.1,v34.2.2.2.1,v34.2.2.2.2.2.1,v34.2.2.2.2.2.2.1,()))) fun v38=>
     bif decide (v38.2.2.1<v38.2.2.2.1) then
      bif decide (v38.2.2.2.1<v38.1) then
       Option.bind (self (v38.2.2.2.2.1,v38.2.2.1,v38.2.2.2.1,v38.1,v38.2.1,())) fun r39=>
       some (r39.1,())
      else
       some (v38.2.2.2.2.1,())
     else
      some (v38.2.2.2.2.1,())
   else
    aO (β:=((List ah)×Unit)) (γ:=(Int×Int×Unit×Int×Int×Int×(List ah)×Unit)) (
     some (Sum.inr (v32.1,v32.2.2.1,v32.2.2.2.1,v32.2.2.2.2.1,v32.2.2.2.2.2.2.1,w64 (v32.2.2.2.2.2.1 - v32.2.2.2.2.2.2.1),v32.2.2.2.2.2.2.2.1,()))) fun v40=>
    bif decide (v40.1<v40.2.2.2.2.1) then
     aO (β:=((List ah)×Unit)) (γ:=(Int×Unit×Int×Int×(List ah)×Unit)) (
      bif decide (v40.2.2.2.2.1<v40.2.2.2.1) then
       Option.bind (self (v40.2.2.2.2.2.2.1,v40.1,v40.2.2.2.2.1,v40.2.2.2.1,v40.2.2.1,())) fun r41=>
       some (Sum.inr (v40.2.1,v40.2.2.1,v40.2.2.2.1,v40.2.2.2.2.2.1,r41.1,()))
      else
       some (Sum.inr (v40.2.1,v40.2.2.1,v40.2.2.2.1,v40.2.2.2.2.2.1,v40.2.2.2.2.2.2.1,()))) fun v42=>
     bif decide (v42.2.2.1<v42.2.2.2.1) then
      bif decide (v42.2.2.2.1<v42.1) then
       Option.bind (self (v42.2.2.2.2.1,v42.2.2.1,v42.2.2.2.1,v42.1,v42.2.1,())) fun r43=>
       some (r43.1,())
      else
       some (v42.2.2.2.2.1,())
     else
      some (v42.2.2.2.2.1,())
    else
     aO (β:=((List ah)×Unit)) (γ:=(Int×Unit×Int×Int×(List ah)×Unit)) (
      some (Sum.inr (v40.2.1,v40.2.2.1,v40.2.2.2.1,v40.2.2.2.2.2.1,v40.2.2.2.2.2.2.1,()))) fun v44=>
     bif decide (v44.2.2.1<v44.2.2.2.1) then
      bif decide (v44.2.2.2.1<v44.1) then
       Option.bind (self (v44.2.2.2.2.1,v44.2.2.1,v44.2.2.2.1,v44.1,v44.2.1,())) fun r45=>
       some (r45.1,())
      else
       some (v44.2.2.2.2.1,())
     else
      some (v44.2.2.2.2.1,())
def gu (a0:List ah) (a1:Int) (a2:Int) (a3:Int) (_a4:Unit):Nat:=List.length a0+(Int.natAbs a1+(Int.natAbs a2+(Int.natAbs a3+2)))
def c7 (a0:List ah) (a1:Int) (a2:Int) (a3:Int) (a4:Unit):Option ((List ah)×Unit):=
 Am (fun self x=>bP self x.1 x.2.1 x.2.2.1 x.2.2.2.1 x.2.2.2.2.1) (gu a0 a1 a2 a3 a4) (a0,a1,a2,a3,a4,())
abbrev fB:Type:=Int×Unit×Int×Int×Int×(List ah)×Unit
abbrev eX:Type:=(((List ah)×Unit) ⊕ (Int×Unit×Int×Int×(List ah)×Unit))
def fh (x1:fB) (again:fB→Option eX):Option eX:=
 match x1 with
 | (A,B,C,D,E,F,_)=>
 bif decide (E≤A) then
  Option.bind (cu F D E B) fun r2=>
  again (A,B,C,E,w64 (E+C),r2.1,())
 else
  some (Sum.inr (A,B,C,D,F,()))
abbrev fC:Type:=Int×Unit×Int×Int×Int×(List ah)×Unit
abbrev fq:Type:=((((List ah)×Unit) ⊕ ((List ah)×Unit)) ⊕ (Int×Unit×Int×Int×(List ah)×Unit))
def fA (x1:fC) (again:fC→Option fq):Option fq:=
 match x1 with
 | (A,B,C,D,E,F,_)=>
 bif decide (E≤A) then
  Option.bind (c7 F D (w64 (D+C)) E B) fun r2=>
  again (A,B,C,E,w64 (E+(w64 (2*C))),r2.1,())
 else
  some (Sum.inr (A,B,C,D,F,()))
abbrev fy:Type:=Int×Unit×Int×(List ah)×Unit
abbrev fo:Type:=(((List ah)×Unit) ⊕ ((List ah)×Unit))
def fE (x1:fy) (again:fy→Option fo):Option fo:=
 match x1 with
 | (A,B,C,D,_)=>
 bif decide (C<A) then
  aO (β:=(((List ah)×Unit) ⊕ ((List ah)×Unit))) (γ:=(Int×Unit×Int×Int×(List ah)×Unit)) (
   iter (X:=fC) (β:=fq) (A.natAbs+(C.natAbs+(Int.natAbs (0:Int)+(Int.natAbs (w64 (2*C))+(D.length+2))))) (A,B,C,0,w64 (2*C),D,()) (fA)) fun v2=>
  bif decide ((w64 (v2.2.2.2.1+v2.2.2.1))<v2.1) then
   Option.bind (c7 v2.2.2.2.2.1 v2.2.2.2.1 (w64 (v2.2.2.2.1+v2.2.2.1)) v2.1 v2.2.1) fun r3=>
   again (v2.1,v2.2.1,w64 (v2.2.2.1*2),r3.1,())
  else
   again (v2.1,v2.2.1,w64 (v2.2.2.1*2),v2.2.2.2.2.1,())
 else
  some (Sum.inr (D,()))
def jH (a0:List ah) (a1:Int) (a2:Unit):Option ((List ah)×Unit):=
 aO (β:=((List ah)×Unit)) (γ:=(Int×Unit×Int×Int×(List ah)×Unit)) (
  iter (X:=fB) (β:=eX) (Int.natAbs a1+(Int.natAbs (20:Int)+(Int.natAbs (0:Int)+(Int.natAbs (20:Int)+(List.length a0+2))))) (a1,a2,20,0,20,a0,()) (fh)) fun v3=>
 Option.bind (cu v3.2.2.2.2.1 v3.2.2.2.1 v3.1 v3.2.1) fun r4=>
 aO (β:=((List ah)×Unit)) (γ:=((List ah)×Unit)) (
  iter (X:=fy) (β:=fo) (v3.1.natAbs+(v3.2.2.1.natAbs+(r4.1.length+2))) (v3.1,v3.2.1,v3.2.2.1,r4.1,()) (fE)) fun v10=>
 some (v10.1,())
def dh (a0:List ah) (a1:Unit):Option ((List ah)×Unit):=
 Option.bind (jH a0 ((List.length a0:Int)) a1) fun r1=>
 some (r1.1,())
abbrev su:Type:=(List Int)×Int×(List Int)×Int×Int×Int×Int×Unit
abbrev xZ:Type:=(((List ak)×Int×Unit) ⊕ ((List Int)×Int×Int×Int×Unit))
def sH (x1:su) (again:su→Option xZ):Option xZ:=
 match x1 with
 | (A,B,C,D,E,F,G,_)=>
 bif decide (E<D) then
  Option.bind (idx C E) fun y2=>
  again (A,w64 (B+y2),C,D,w64 (E+1),F,G,())
 else
  some (Sum.inr (A,B,F,G,()))
abbrev qK:Type:=Int×Int×Int×(List ah)×(List Int)×Int×Int×Int×Int×Unit
abbrev wz:Type:=(((List ak)×Int×Unit) ⊕ (Int×(List ah)×Int×Int×Unit))
def qF (x1:qK) (again:qK→Option wz):Option wz:=
 match x1 with
 | (A,B,C,D,E,F,G,H,I,_)=>
 bif decide (G<F) then
  Option.bind (idx E G) fun y2=>
  Option.bind (bA B) fun r3=>
  Option.bind (bA y2) fun r4=>
  Option.bind (fj r3.1 r4.1) fun r5=>
  Option.bind (bA A) fun r6=>
  Option.bind (rj r5.1 r6.1) fun r7=>
  Option.bind (nq r7.1 1000000000000000) fun r8=>
  chk (decide (((D.length)+1)*48≤140737488355328)&&decide ((D.length)+1≤maxLen)) <|
  again (A,B,w64 (C - r8.1),D++[(G,r8.1,r7.2.1)],E,F,w64 (G+1),H,I,())
 else
  some (Sum.inr (C,D,H,I,()))
abbrev qJ:Type:=Int×(List ah)×Int×Int×Int×Int×(List ak)×Unit
abbrev wF:Type:=(((List ak)×Int×Unit) ⊕ ((List ak)×Unit))
def qI (x1:qJ) (again:qJ→Option wF):Option wF:=
 match x1 with
 | (A,B,C,D,E,F,G,_)=>
 bif decide (D<C) then
  chk (decide (0≤D)&&decide (D<(B.length:Int))) <|
  Option.bind (B[D.toNat]?) fun y2=>
  aO (β:=(((List ak)×Int×Unit) ⊕ ((List ak)×Unit))) (γ:=(Int×(List ah)×Int×Int×Int×Int×Int×Int×Bool×(List Int)×(List ak)×Unit)) (
   bif decide (D<A) then
    some (Sum.inr (A,B,C,D,E,F,y2.1,w64 (y2.2.1+1),y2.2.2.1,y2.2.2.2,G,()))
   else
    some (Sum.inr (A,B,C,D,E,F,y2.1,y2.2.1,y2.2.2.1,y2.2.2.2,G,()))) fun v3=>
  aO (β:=(((List ak)×Int×Unit) ⊕ ((List ak)×Unit))) (γ:=(Int×(List ah)×Int×Int×Int×Int×Int×Int×Bool×(List Int)×(List ak)×Unit)) (
   bif decide (v3.2.2.2.2.1<0) then
    some (Sum.inr (v3.1,v3.2.1,v3.2.2.1,v3.2.2.2.1,v3.2.2.2.2.1,v3.2.2.2.2.2.1,v3.2.2.2.2.2.2.1,w64 (0 - v3.2.2.2.2.2.2.2.1),v3.2.2.2.2.2.2.2.2.1,v3.2.2.2.2.2.2.2.2.2.1,v3.2.2.2.2.2.2.2.2.2.2.1,()))
   else
    some (Sum.inr (v3.1,v3.2.1,v3.2.2.1,v3.2.2.2.1,v3.2.2.2.2.1,v3.2.2.2.2.2.1,v3.2.2.2.2.2.2.1,v3.2.2.2.2.2.2.2.1,v3.2.2.2.2.2.2.2.2.1,v3.2.2.2.2.2.2.2.2.2.1,v3.2.2.2.2.2.2.2.2.2.2.1,()))) fun v4=>
  chk (decide (0≤v4.2.2.2.2.2.2.1)&&decide (v4.2.2.2.2.2.2.1<(v4.2.2.2.2.2.2.2.2.2.2.1.length:Int))) <|
  Option.bind (v4.2.2.2.2.2.2.2.2.2.2.1[v4.2.2.2.2.2.2.1.toNat]?) fun _=>
  again (v4.1,v4.2.1,v4.2.2.1,w64 (v4.2.2.2.1+1),v4.2.2.2.2.1,v4.2.2.2.2.2.1,List.set v4.2.2.2.2.2.2.2.2.2.2.1 v4.2.2.2.2.2.2.1.toNat (v4.2.2.2.2.2.2.2.1,v4.2.2.2.2.2.1),())
 else
  some (Sum.inr (G,()))
def sV (a0:ak) (a1:List Int):Option ((List ak)×Int×Unit):=
 Option.bind (bV a0) fun r1=>
 bif r1.1 != 0 then
  some ([],r1.1,())
 else
  Option.bind (oR a1) fun r2=>
  bif r2.1 != 0 then
   some ([],r2.1,())
  else
   aO (β:=((List ak)×Int×Unit)) (γ:=((List Int)×Int×Int×Int×Unit)) (
    iter (X:=su) (β:=xZ) (List.length a1+(Int.natAbs (0:Int)+(List.length a1+(Int.natAbs ((List.length a1:Int))+(Int.natAbs (0:Int)+(a0.1.natAbs+(a0.2.natAbs+2))))))) (a1,0,a1,(List.length a1:Int),0,a0.1,a0.2,()) (sH)) fun v5=>
   aO (β:=((List ak)×Int×Unit)) (γ:=(Int×(List ah)×Int×Int×Unit)) (
    iter (X:=qK) (β:=wz) (v5.2.1.natAbs+(Int.natAbs (if (w64 (0 - v5.2.2.1))>v5.2.2.1 then (w64 (0 - v5.2.2.1)) else v5.2.2.1)+(Int.natAbs (if (w64 (0 - v5.2.2.1))>v5.2.2.1 then (w64 (0 - v5.2.2.1)) else v5.2.2.1)+(List.length ([]:List ah)+(v5.1.length+(Int.natAbs ((v5.1.length:Int))+(Int.natAbs (0:Int)+(v5.2.2.1.natAbs+(v5.2.2.2.1.natAbs+2))))))))) (v5.2.1,if (w64 (0 - v5.2.2.1))>v5.2.2.1 then (w64 (0 - v5.2.2.1)) else v5.2.2.1,if (w64 (0 - v5.2.2.1))>v5.2.2.1 then (w64 (0 - v5.2.2.1)) else v5.2.2.1,[],v5.1,(v5.1.length:Int),0,v5.2.2.1,v5.2.2.2.1,()) (qF)) fun v14=>
   Option.bind (dh v14.2.1 ()) fun r15=>
   chk (decide (0≤((r15.1.length:Int)))&&decide (((r15.1.length:Int))≤((r15.1.length:Int)))&&decide ((16:Int)*((r15.1.length:Int))≤281474976710656)&&decide (((r15.1.length:Int))≤9223372036854775807)) <|
   aO (β:=((List ak)×Int×Unit)) (γ:=((List ak)×Unit)) (
    iter (X:=qJ) (β:=wF) (v14.1.natAbs+(r15.1.length+(Int.natAbs ((r15.1.length:Int))+(Int.natAbs (0:Int)+(v14.2.2.1.natAbs+(v14.2.2.2.1.natAbs+(List.length ((List.replicate (Int.toNat ((r15.1.length:Int))) (0,0):List (ak)):List ak)+2))))))) (v14.1,r15.1,(r15.1.length:Int),0,v14.2.2.1,v14.2.2.2.1,(List.replicate (Int.toNat ((r15.1.length:Int))) (0,0):List (ak)),()) (qI)) fun v21=>
   some (v21.1,0,())
abbrev kG:Type:=(List Int)×Bool×(List aa)×Int×Int×Bool×(List Int)×(List UInt8)×(List UInt8)×Int×Int×Int×Bool×(List az)×(List aq)×(List au)×(List aa)×(List aa)×(List aa)×(List aD)×(List aa)×(List Bool)×(List aa)×Unit
abbrev rX:Type:=((Int×(ai×(List aa)×(List aa)×(List aa)×(List aD)×(List aa)×(List Bool)×(List aa)×Unit)×Unit) ⊕ ((List Int)×Bool×Bool×(List Int)×(List UInt8)×(List UInt8)×Int×Int×Int×Bool×(List az)×(List aq)×(List au)×(List aa)×(List aa)×(List aa)×(List aD)×(List aa)×(List Bool)×(List aa)×Unit))
def nQ (x1:kG) (again:kG→Option rX):Option rX:=
 match x1 with
 | (A,B,C,D,E,F,G,H,I,J,K,L,M,N,O,P,Q,R,S,T,U,V,W,_)=>
 bif decide (E<D) then
  Option.bind (idx C E) fun y2=>
  Option.bind (xJ y2) fun r3=>
  Option.bind (nq r3.1 1000000000000000) fun r4=>
  chk (decide (((A.length)+1)*8≤140737488355328)&&decide ((A.length)+1≤maxLen)) <|
  bif B then
   again (A++[r4.1],true,C,D,w64 (E+1),F,G,H,I,J,K,L,M,N,O,P,Q,R,S,T,U,V,W,())
  else
   again (A++[r4.1],decide (r4.1>0),C,D,w64 (E+1),F,G,H,I,J,K,L,M,N,O,P,Q,R,S,T,U,V,W,())
 else
  some (Sum.inr (A,B,F,G,H,I,J,K,L,M,N,O,P,Q,R,S,T,U,V,W,()))
abbrev gY:Type:=(List ak)×Int×Int×(List UInt8)×(List UInt8)×Int×Int×Int×Bool×(List az)×(List aq)×(List au)×(List aa)×(List aa)×(List aa)×(List aD)×(List aa)×(List Bool)×(List aa)×Unit
abbrev mX:Type:=((Int×(ai×(List aa)×(List aa)×(List aa)×(List aD)×(List aa)×(List Bool)×(List aa)×Unit)×Unit) ⊕ ((List UInt8)×(List UInt8)×Int×Int×Int×Bool×(List az)×(List aq)×(List au)×(List aa)×(List aa)×(List aa)×(List aD)×(List aa)×(List Bool)×(List aa)×Unit))
def kg (x1:gY) (again:gY→Option mX):Option mX:=
 match x1 with
 | (A,B,C,D,E,F,G,H,I,J,K,L,M,N,O,P,Q,R,S,_)=>
 bif decide (C<B) then
  Option.bind (idx A C) fun y2=>
  bif y2.1 != 0 then
   Option.bind (bA y2.1) fun r3=>
   Option.bind (fH ((D,E,F,G,H,I,J,K,L),M,N,O,P,Q,R,S,()) C r3.1) fun r4=>
   chk (decide (0≤C)&&decide (C<(r4.1.2.2.2.2.2.2.1.length:Int))) <|
   Option.bind (r4.1.2.2.2.2.2.2.1[C.toNat]?) fun _=>
   again (A,B,w64 (C+1),r4.1.1.1,r4.1.1.2.1,r4.1.1.2.2.1,r4.1.1.2.2.2.1,r4.1.1.2.2.2.2.1,r4.1.1.2.2.2.2.2.1,r4.1.1.2.2.2.2.2.2.1,r4.1.1.2.2.2.2.2.2.2.1,r4.1.1.2.2.2.2.2.2.2.2,r4.1.2.1,r4.1.2.2.1,r4.1.2.2.2.1,r4.1.2.2.2.2.1,r4.1.2.2.2.2.2.1,List.set r4.1.2.2.2.2.2.2.1 C.toNat true,r4.1.2.2.2.2.2.2.2.1,())
  else
   again (A,B,w64 (C+1),D,E,F,G,H,I,J,K,L,M,N,O,P,Q,R,S,())
 else
  some (Sum.inr (D,E,F,G,H,I,J,K,L,M,N,O,P,Q,R,S,()))
def gD (a0:ai×(List aa)×(List aa)×(List aa)×(List aD)×(List aa)×(List Bool)×(List aa)×Unit) (a1:aa):Option (Int×(ai×(List aa)×(List aa)×(List aa)×(List aD)×(List aa)×(List Bool)×(List aa)×Unit)×Unit):=
 aO (β:=(Int×(ai×(List aa)×(List aa)×(List aa)×(List aD)×(List aa)×(List Bool)×(List aa)×Unit)×Unit)) (γ:=((List Int)×Bool×Bool×(List Int)×(List UInt8)×(List UInt8)×Int×Int×Int×Bool×(List az)×(List aq)×(List au)×(List aa)×(List aa)×(List aa)×(List aD)×(List aa)×(List Bool)×(List aa)×Unit)) (
  iter (X:=kG) (β:=rX) (List.length ([]:List Int)+(a0.2.2.1.length+(Int.natAbs ((a0.2.2.1.length:Int))+(Int.natAbs (0:Int)+(a1.2.length+(a0.1.1.length+(a0.1.2.1.length+(a0.1.2.2.1.natAbs+(a0.1.2.2.2.1.natAbs+(a0.1.2.2.2.2.1.natAbs+(a0.1.2.2.2.2.2.2.1.length+(a0.1.2.2.2.2.2.2.2.1.length+(a0.1.2.2.2.2.2.2.2.2.length+(a0.2.2.1.length+(a0.2.1.length+(a0.2.2.2.1.length+(a0.2.2.2.2.1.length+(a0.2.2.2.2.2.1.length+(a0.2.2.2.2.2.2.1.length+(a0.2.2.2.2.2.2.2.1.length+2)))))))))))))))))))) ([],false,a0.2.2.1,(a0.2.2.1.length:Int),0,a1.1,a1.2,a0.1.1,a0.1.2.1,a0.1.2.2.1,a0.1.2.2.2.1,a0.1.2.2.2.2.1,a0.1.2.2.2.2.2.1,a0.1.2.2.2.2.2.2.1,a0.1.2.2.2.2.2.2.2.1,a0.1.2.2.2.2.2.2.2.2,a0.2.2.1,a0.2.1,a0.2.2.2.1,a0.2.2.2.2.1,a0.2.2.2.2.2.1,a0.2.2.2.2.2.2.1,a0.2.2.2.2.2.2.2.1,()) (nQ)) fun v5=>
 bif !v5.2.1 then
  Option.bind (fH ((v5.2.2.2.2.1,v5.2.2.2.2.2.1,v5.2.2.2.2.2.2.1,v5.2.2.2.2.2.2.2.1,v5.2.2.2.2.2.2.2.2.1,v5.2.2.2.2.2.2.2.2.2.1,v5.2.2.2.2.2.2.2.2.2.2.1,v5.2.2.2.2.2.2.2.2.2.2.2.1,v5.2.2.2.2.2.2.2.2.2.2.2.2.1),v5.2.2.2.2.2.2.2.2.2.2.2.2.2.2.1,v5.2.2.2.2.2.2.2.2.2.2.2.2.2.1,v5.2.2.2.2.2.2.2.2.2.2.2.2.2.2.2.1,v5.2.2.2.2.2.2.2.2.2.2.2.2.2.2.2.2.1,v5.2.2.2.2.2.2.2.2.2.2.2.2.2.2.2.2.2.1,v5.2.2.2.2.2.2.2.2.2.2.2.2.2.2.2.2.2.2.1,v5.2.2.2.2.2.2.2.2.2.2.2.2.2.2.2.2.2.2.2.1,()) 0 (v5.2.2.1,v5.2.2.2.1)) fun r6=>
  chk (decide (0≤(0:Int))&&decide ((0:Int)<(r6.1.2.2.2.2.2.2.1.length:Int))) <|
  Option.bind (r6.1.2.2.2.2.2.2.1[0]?) fun y7=>
  bif y7 then
   chk (decide (0≤(0:Int))&&decide ((0:Int)<(r6.1.2.2.2.2.2.2.1.length:Int))) <|
   Option.bind (r6.1.2.2.2.2.2.2.1[0]?) fun _=>
   some (0,(r6.1.1,r6.1.2.1,r6.1.2.2.1,r6.1.2.2.2.1,r6.1.2.2.2.2.1,r6.1.2.2.2.2.2.1,List.set r6.1.2.2.2.2.2.2.1 0 true,r6.1.2.2.2.2.2.2.2.1,()),())
  else
   Option.bind (aC (v5.2.2.1,v5.2.2.2.1)) fun r9=>
   chk (decide (0≤(0:Int))&&decide ((0:Int)<(r6.1.2.2.2.2.2.2.1.length:Int))) <|
   Option.bind (r6.1.2.2.2.2.2.2.1[0]?) fun _=>
   some (0,(r6.1.1,r6.1.2.1,r6.1.2.2.1,r6.1.2.2.2.1,r6.1.2.2.2.2.1,r6.1.2.2.2.2.2.1,List.set r6.1.2.2.2.2.2.2.1 0 (r9.1 != 0),r6.1.2.2.2.2.2.2.2.1,()),())
 else
  Option.bind (iU v5.1 ()) fun r11=>
  bif r11.1 then
   some (2,((v5.2.2.2.2.1,v5.2.2.2.2.2.1,v5.2.2.2.2.2.2.1,v5.2.2.2.2.2.2.2.1,v5.2.2.2.2.2.2.2.2.1,v5.2.2.2.2.2.2.2.2.2.1,v5.2.2.2.2.2.2.2.2.2.2.1,v5.2.2.2.2.2.2.2.2.2.2.2.1,v5.2.2.2.2.2.2.2.2.2.2.2.2.1),v5.2.2.2.2.2.2.2.2.2.2.2.2.2.2.1,v5.2.2.2.2.2.2.2.2.2.2.2.2.2.1,v5.2.2.2.2.2.2.2.2.2.2.2.2.2.2.2.1,v5.2.2.2.2.2.2.2.2.2.2.2.2.2.2.2.2.1,v5.2.2.2.2.2.2.2.2.2.2.2.2.2.2.2.2.2.1,v5.2.2.2.2.2.2.2.2.2.2.2.2.2.2.2.2.2.2.1,v5.2.2.2.2.2.2.2.2.2.2.2.2.2.2.2.2.2.2.2.1,()),())
  else
   Option.bind (qm (v5.2.2.1,v5.2.2.2.1) v5.2.2.2.2.2.2.2.1) fun r12=>
   Option.bind (sV r12.1 v5.1) fun r13=>
   bif r13.2.1 != 0 then
    some (r13.2.1,((v5.2.2.2.2.1,v5.2.2.2.2.2.1,v5.2.2.2.2.2.2.1,v5.2.2.2.2.2.2.2.1,v5.2.2.2.2.2.2.2.2.1,v5.2.2.2.2.2.2.2.2.2.1,v5.2.2.2.2.2.2.2.2.2.2.1,v5.2.2.2.2.2.2.2.2.2.2.2.1,v5.2.2.2.2.2.2.2.2.2.2.2.2.1),v5.2.2.2.2.2.2.2.2.2.2.2.2.2.2.1,v5.2.2.2.2.2.2.2.2.2.2.2.2.2.1,v5.2.2.2.2.2.2.2.2.2.2.2.2.2.2.2.1,v5.2.2.2.2.2.2.2.2.2.2.2.2.2.2.2.2.1,v5.2.2.2.2.2.2.2.2.2.2.2.2.2.2.2.2.2.1,v5.2.2.2.2.2.2.2.2.2.2.2.2.2.2.2.2.2.2.1,v5.2.2.2.2.2.2.2.2.2.2.2.2.2.2.2.2.2.2.2.1,()),())
   else
    aO (β:=(Int×(ai×(List aa)×(List aa)×(List aa)×(List aD)×(List aa)×(List Bool)×(List aa)×Unit)×Unit)) (γ:=((List UInt8)×(List UInt8)×Int×Int×Int×Bool×(List az)×(List aq)×(List au)×(List aa)×(List aa)×(List aa)×(List aD)×(List aa)×(List Bool)×(List aa)×Unit)) (
     iter (X:=gY) (β:=mX) (r13.1.length+(Int.natAbs ((r13.1.length:Int))+(Int.natAbs (0:Int)+(v5.2.2.2.2.1.length+(v5.2.2.2.2.2.1.length+(v5.2.2.2.2.2.2.1.natAbs+(v5.2.2.2.2.2.2.2.1.natAbs+(v5.2.2.2.2.2.2.2.2.1.natAbs+(v5.2.2.2.2.2.2.2.2.2.2.1.length+(v5.2.2.2.2.2.2.2.2.2.2.2.1.length+(v5.2.2.2.2.2.2.2.2.2.2.2.2.1.length+(v5.2.2.2.2.2.2.2.2.2.2.2.2.2.2.1.length+(v5.2.2.2.2.2.2.2.2.2.2.2.2.2.1.length+(v5.2.2.2.2.2.2.2.2.2.2.2.2.2.2.2.1.length+(v5.2.2.2.2.2.2.2.2.2.2.2.2.2.2.2.2.1.length+(v5.2.2.2.2.2.2.2.2.2.2.2.2.2.2.2.2.2.1.length+(v5.2.2.2.2.2.2.2.2.2.2.2.2.2.2.2.2.2.2.1.length+(v5.2.2.2.2.2.2.2.2.2.2.2.2.2.2.2.2.2.2.2.1.length+2)))))))))))))))))) (r13.1,(r13.1.length:Int),0,v5.2.2.2.2.1,v5.2.2.2.2.2.1,v5.2.2.2.2.2.2.1,v5.2.2.2.2.2.2.2.1,v5.2.2.2.2.2.2.2.2.1,v5.2.2.2.2.2.2.2.2.2.1,v5.2.2.2.2.2.2.2.2.2.2.1,v5.2.2.2.2.2.2.2.2.2.2.2.1,v5.2.2.2.2.2.2.2.2.2.2.2.2.1,v5.2.2.2.2.2.2.2.2.2.2.2.2.2.2.1,v5.2.2.2.2.2.2.2.2.2.2.2.2.2.1,v5.2.2.2.2.2.2.2.2.2.2.2.2.2.2.2.1,v5.2.2.2.2.2.2.2.2.2.2.2.2.2.2.2.2.1,v5.2.2.2.2.2.2.2.2.2.2.2.2.2.2.2.2.2.1,v5.2.2.2.2.2.2.2.2.2.2.2.2.2.2.2.2.2.2.1,v5.2.2.2.2.2.2.2.2.2.2.2.2.2.2.2.2.2.2.2.1,()) (kg)) fun v19=>
    some (0,((v19.1,v19.2.1,v19.2.2.1,v19.2.2.2.1,v19.2.2.2.2.1,v19.2.2.2.2.2.1,v19.2.2.2.2.2.2.1,v19.2.2.2.2.2.2.2.1,v19.2.2.2.2.2.2.2.2.1),v19.2.2.2.2.2.2.2.2.2.1,v19.2.2.2.2.2.2.2.2.2.2.1,v19.2.2.2.2.2.2.2.2.2.2.2.1,v19.2.2.2.2.2.2.2.2.2.2.2.2.1,v19.2.2.2.2.2.2.2.2.2.2.2.2.2.1,v19.2.2.2.2.2.2.2.2.2.2.2.2.2.2.1,v19.2.2.2.2.2.2.2.2.2.2.2.2.2.2.2.1,()),())
abbrev lE:Type:=Int×Bool×(List aa)×Int×Int×Bool×Int×Int×(List UInt8)×Bool×(List Int)×(List UInt8)×(List UInt8)×Int×Int×Int×Bool×(List az)×(List aq)×(List au)×(List aa)×(List aa)×(List aa)×(List aD)×(List aa)×(List Bool)×(List aa)×Unit
abbrev tJ:Type:=(((Int×(ai×(List aa)×(List aa)×(List aa)×(List aD)×(List aa)×(List Bool)×(List aa)×Unit)×Unit) ⊕ (Int×Bool×Bool×Int×Int×(List UInt8)×Bool×(List Int)×(List UInt8)×(List UInt8)×Int×Int×Int×Bool×(List az)×(List aq)×(List au)×(List aa)×(List aa)×(List aa)×(List aD)×(List aa)×(List Bool)×(List aa)×Unit)) ⊕ (Int×Bool×Bool×Int×Int×(List UInt8)×Bool×(List Int)×(List UInt8)×(List UInt8)×Int×Int×Int×Bool×(List az)×(List aq)×(List au)×(List aa)×(List aa)×(List aa)×(List aD)×(List aa)×(List Bool)×(List aa)×Unit))
def oP (x1:lE) (again:lE→Option tJ):Option tJ:=
 match x1 with
 | (A,B,C,D,E,F,G,H,I,J,K,L,M,N,O,P,Q,R,S,T,U,V,W,X,Y,Z,A0,_)=>
 bif decide (E<D) then
  Option.bind (idx C E) fun y2=>
  Option.bind (aV (J,K) y2) fun r3=>
  again (A,B,C,D,w64 (E+1),F,G,H,I,r3.1.1,r3.1.2,L,M,N,O,P,Q,R,S,T,U,V,W,X,Y,Z,A0,())
 else
  some (Sum.inr (A,B,F,G,H,I,J,K,L,M,N,O,P,Q,R,S,T,U,V,W,X,Y,Z,A0,()))
def lS (a0:ai×(List aa)×(List aa)×(List aa)×(List aD)×(List aa)×(List Bool)×(List aa)×Unit) (a1:au):Option (Int×(ai×(List aa)×(List aa)×(List aa)×(List aD)×(List aa)×(List Bool)×(List aa)×Unit)×Unit):=
 Option.bind (bA 0) fun r1=>
 Option.bind (qb a0.1.2.2.2.2.2.2.1 a1.2.2) fun r2=>
 aO (β:=(Int×(ai×(List aa)×(List aa)×(List aa)×(List aD)×(List aa)×(List Bool)×(List aa)×Unit)×Unit)) (γ:=(Int×Bool×Bool×Int×Int×(List UInt8)×Bool×(List Int)×(List UInt8)×(List UInt8)×Int×Int×Int×Bool×(List az)×(List aq)×(List au)×(List aa)×(List aa)×(List aa)×(List aD)×(List aa)×(List Bool)×(List aa)×Unit)) (
  bif r2.2.1 then
   Option.bind (idx a0.2.2.1 r2.1) fun y3=>
   some (Sum.inr (r2.1,r2.2.1,a1.1,a1.2.1.1,a1.2.1.2,a1.2.2,y3.1,y3.2,a0.1.1,a0.1.2.1,a0.1.2.2.1,a0.1.2.2.2.1,a0.1.2.2.2.2.1,a0.1.2.2.2.2.2.1,a0.1.2.2.2.2.2.2.1,a0.1.2.2.2.2.2.2.2.1,a0.1.2.2.2.2.2.2.2.2,a0.2.2.1,a0.2.1,a0.2.2.2.1,a0.2.2.2.2.1,a0.2.2.2.2.2.1,a0.2.2.2.2.2.2.1,a0.2.2.2.2.2.2.2.1,()))
  else
   aO (β:=((Int×(ai×(List aa)×(List aa)×(List aa)×(List aD)×(List aa)×(List Bool)×(List aa)×Unit)×Unit) ⊕ (Int×Bool×Bool×Int×Int×(List UInt8)×Bool×(List Int)×(List UInt8)×(List UInt8)×Int×Int×Int×Bool×(List az)×(List aq)×(List au)×(List aa)×(List aa)×(List aa)×(List aD)×(List aa)×(List Bool)×(List aa)×Unit))) (γ:=(Int×Bool×Bool×Int×Int×(List UInt8)×Bool×(List Int)×(List UInt8)×(List UInt8)×Int×Int×Int×Bool×(List az)×(List aq)×(List au)×(List aa)×(List aa)×(List aa)×(List aD)×(List aa)×(List Bool)×(List aa)×Unit)) (
    iter (X:=lE) (β:=tJ) (r2.1.natAbs+(a0.2.2.1.length+(Int.natAbs ((a0.2.2.1.length:Int))+(Int.natAbs (0:Int)+(a1.2.1.1.natAbs+(a1.2.1.2.natAbs+(a1.2.2.length+(r1.1.2.length+(a0.1.1.length+(a0.1.2.1.length+(a0.1.2.2.1.natAbs+(a0.1.2.2.2.1.natAbs+(a0.1.2.2.2.2.1.natAbs+(a0.1.2.2.2.2.2.2.1.length+(a0.1.2.2.2.2.2.2.2.1.length+(a0.1.2.2.2.2.2.2.2.2.length+(a0.2.2.1.length+(a0.2.1.length+(a0.2.2.2.1.length+(a0.2.2.2.2.1.length+(a0.2.2.2.2.2.1.length+(a0.2.2.2.2.2.2.1.length+(a0.2.2.2.2.2.2.2.1.length+2))))))))))))))))))))))) (r2.1,r2.2.1,a0.2.2.1,(a0.2.2.1.length:Int),0,a1.1,a1.2.1.1,a1.2.1.2,a1.2.2,r1.1.1,r1.1.2,a0.1.1,a0.1.2.1,a0.1.2.2.1,a0.1.2.2.2.1,a0.1.2.2.2.2.1,a0.1.2.2.2.2.2.1,a0.1.2.2.2.2.2.2.1,a0.1.2.2.2.2.2.2.2.1,a0.1.2.2.2.2.2.2.2.2,a0.2.2.1,a0.2.1,a0.2.2.2.1,a0.2.2.2.2.1,a0.2.2.2.2.2.1,a0.2.2.2.2.2.2.1,a0.2.2.2.2.2.2.2.1,()) (oP)) fun v7=>
   some (Sum.inr (v7.1,v7.2.1,v7.2.2.1,v7.2.2.2.1,v7.2.2.2.2.1,v7.2.2.2.2.2.1,v7.2.2.2.2.2.2.1,v7.2.2.2.2.2.2.2.1,v7.2.2.2.2.2.2.2.2.1,v7.2.2.2.2.2.2.2.2.2.1,v7.2.2.2.2.2.2.2.2.2.2.1,v7.2.2.2.2.2.2.2.2.2.2.2.1,v7.2.2.2.2.2.2.2.2.2.2.2.2.1,v7.2.2.2.2.2.2.2.2.2.2.2.2.2.1,v7.2.2.2.2.2.2.2.2.2.2.2.2.2.2.1,v7.2.2.2.2.2.2.2.2.2.2.2.2.2.2.2.1,v7.2.2.2.2.2.2.2.2.2.2.2.2.2.2.2.2.1,v7.2.2.2.2.2.2.2.2.2.2.2.2.2.2.2.2.2.1,v7.2.2.2.2.2.2.2.2.2.2.2.2.2.2.2.2.2.2.1,v7.2.2.2.2.2.2.2.2.2.2.2.2.2.2.2.2.2.2.2.1,v7.2.2.2.2.2.2.2.2.2.2.2.2.2.2.2.2.2.2.2.2.1,v7.2.2.2.2.2.2.2.2.2.2.2.2.2.2.2.2.2.2.2.2.2.1,v7.2.2.2.2.2.2.2.2.2.2.2.2.2.2.2.2.2.2.2.2.2.2.1,v7.2.2.2.2.2.2.2.2.2.2.2.2.2.2.2.2.2.2.2.2.2.2.2.1,()))) fun v8=>
 Option.bind (pn (v8.2.2.2.1,v8.2.2.2.2.1) (if v8.2.2.2.2.1>v8.2.2.2.2.2.2.2.2.2.2.2.1 then v8.2.2.2.2.1 else v8.2.2.2.2.2.2.2.2.2.2.2.1)) fun r9=>
 aO (β:=(Int×(ai×(List aa)×(List aa)×(List aa)×(List aD)×(List aa)×(List Bool)×(List aa)×Unit)×Unit)) (γ:=(Int×Bool×Bool×(List Int)×(List UInt8)×(List UInt8)×Int×Int×Int×Bool×(List az)×(List aq)×(List au)×(List aa)×(List aa)×(List aa)×(List aD)×(List aa)×(List Bool)×(List aa)×Unit)) (
  bif v8.2.2.1 then
   Option.bind (pX (v8.2.2.2.2.2.2.2.2.1,v8.2.2.2.2.2.2.2.2.2.1,v8.2.2.2.2.2.2.2.2.2.2.1,v8.2.2.2.2.2.2.2.2.2.2.2.1,v8.2.2.2.2.2.2.2.2.2.2.2.2.1,v8.2.2.2.2.2.2.2.2.2.2.2.2.2.1,v8.2.2.2.2.2.2.2.2.2.2.2.2.2.2.1,v8.2.2.2.2.2.2.2.2.2.2.2.2.2.2.2.1,v8.2.2.2.2.2.2.2.2.2.2.2.2.2.2.2.2.1) (v8.2.2.2.2.2.2.1,v8.2.2.2.2.2.2.2.1) (v8.2.2.2.1,v8.2.2.2.2.1)) fun r10=>
   some (Sum.inr (v8.1,v8.2.1,r10.1.1,r10.1.2,v8.2.2.2.2.2.2.2.2.1,v8.2.2.2.2.2.2.2.2.2.1,v8.2.2.2.2.2.2.2.2.2.2.1,v8.2.2.2.2.2.2.2.2.2.2.2.1,v8.2.2.2.2.2.2.2.2.2.2.2.2.1,v8.2.2.2.2.2.2.2.2.2.2.2.2.2.1,v8.2.2.2.2.2.2.2.2.2.2.2.2.2.2.1,v8.2.2.2.2.2.2.2.2.2.2.2.2.2.2.2.1,v8.2.2.2.2.2.2.2.2.2.2.2.2.2.2.2.2.1,v8.2.2.2.2.2.2.2.2.2.2.2.2.2.2.2.2.2.1,v8.2.2.2.2.2.2.2.2.2.2.2.2.2.2.2.2.2.2.1,v8.2.2.2.2.2.2.2.2.2.2.2.2.2.2.2.2.2.2.2.1,v8.2.2.2.2.2.2.2.2.2.2.2.2.2.2.2.2.2.2.2.2.1,v8.2.2.2.2.2.2.2.2.2.2.2.2.2.2.2.2.2.2.2.2.2.1,v8.2.2.2.2.2.2.2.2.2.2.2.2.2.2.2.2.2.2.2.2.2.2.1,v8.2.2.2.2.2.2.2.2.2.2.2.2.2.2.2.2.2.2.2.2.2.2.2.1,()))
  else
   some (Sum.inr (v8.1,v8.2.1,r9.1.1,r9.1.2,v8.2.2.2.2.2.2.2.2.1,v8.2.2.2.2.2.2.2.2.2.1,v8.2.2.2.2.2.2.2.2.2.2.1,v8.2.2.2.2.2.2.2.2.2.2.2.1,v8.2.2.2.2.2.2.2.2.2.2.2.2.1,v8.2.2.2.2.2.2.2.2.2.2.2.2.2.1,v8.2.2.2.2.2.2.2.2.2.2.2.2.2.2.1,v8.2.2.2.2.2.2.2.2.2.2.2.2.2.2.2.1,v8.2.2.2.2.2.2.2.2.2.2.2.2.2.2.2.2.1,v8.2.2.2.2.2.2.2.2.2.2.2.2.2.2.2.2.2.1,v8.2.2.2.2.2.2.2.2.2.2.2.2.2.2.2.2.2.2.1,v8.2.2.2.2.2.2.2.2.2.2.2.2.2.2.2.2.2.2.2.1,v8.2.2.2.2.2.2.2.2.2.2.2.2.2.2.2.2.2.2.2.2.1,v8.2.2.2.2.2.2.2.2.2.2.2.2.2.2.2.2.2.2.2.2.2.1,v8.2.2.2.2.2.2.2.2.2.2.2.2.2.2.2.2.2.2.2.2.2.2.1,v8.2.2.2.2.2.2.2.2.2.2.2.2.2.2.2.2.2.2.2.2.2.2.2.1,()))) fun v11=>
 Option.bind (ji (v11.2.2.1,v11.2.2.2.1)) fun r12=>
 bif !r12.1 then
  some (1,((v11.2.2.2.2.1,v11.2.2.2.2.2.1,v11.2.2.2.2.2.2.1,v11.2.2.2.2.2.2.2.1,v11.2.2.2.2.2.2.2.2.1,v11.2.2.2.2.2.2.2.2.2.1,v11.2.2.2.2.2.2.2.2.2.2.1,v11.2.2.2.2.2.2.2.2.2.2.2.1,v11.2.2.2.2.2.2.2.2.2.2.2.2.1),v11.2.2.2.2.2.2.2.2.2.2.2.2.2.2.1,v11.2.2.2.2.2.2.2.2.2.2.2.2.2.1,v11.2.2.2.2.2.2.2.2.2.2.2.2.2.2.2.1,v11.2.2.2.2.2.2.2.2.2.2.2.2.2.2.2.2.1,v11.2.2.2.2.2.2.2.2.2.2.2.2.2.2.2.2.2.1,v11.2.2.2.2.2.2.2.2.2.2.2.2.2.2.2.2.2.2.1,v11.2.2.2.2.2.2.2.2.2.2.2.2.2.2.2.2.2.2.2.1,()),())
 else
  chk (decide (((v11.2.2.2.2.2.2.2.2.2.2.2.2.2.2.2.2.2.1.length)+1)*32≤140737488355328)&&decide ((v11.2.2.2.2.2.2.2.2.2.2.2.2.2.2.2.2.2.1.length)+1≤maxLen)) <|
  bif v11.2.1 then
   Option.bind (fH ((v11.2.2.2.2.1,v11.2.2.2.2.2.1,v11.2.2.2.2.2.2.1,v11.2.2.2.2.2.2.2.1,v11.2.2.2.2.2.2.2.2.1,v11.2.2.2.2.2.2.2.2.2.1,v11.2.2.2.2.2.2.2.2.2.2.1,v11.2.2.2.2.2.2.2.2.2.2.2.1,v11.2.2.2.2.2.2.2.2.2.2.2.2.1),v11.2.2.2.2.2.2.2.2.2.2.2.2.2.2.1,v11.2.2.2.2.2.2.2.2.2.2.2.2.2.1,v11.2.2.2.2.2.2.2.2.2.2.2.2.2.2.2.1,v11.2.2.2.2.2.2.2.2.2.2.2.2.2.2.2.2.1,v11.2.2.2.2.2.2.2.2.2.2.2.2.2.2.2.2.2.1++[(v11.2.2.1,v11.2.2.2.1)],v11.2.2.2.2.2.2.2.2.2.2.2.2.2.2.2.2.2.2.1,v11.2.2.2.2.2.2.2.2.2.2.2.2.2.2.2.2.2.2.2.1,()) v11.1 (v11.2.2.1,v11.2.2.2.1)) fun r13=>
   chk (decide (0≤v11.1)&&decide (v11.1<(r13.1.2.2.2.2.2.2.1.length:Int))) <|
   Option.bind (r13.1.2.2.2.2.2.2.1[v11.1.toNat]?) fun _=>
   Option.bind (bL r13.1.2.2.2.1 ()) fun r15=>
   bif r15.1 then
    some (1,(r13.1.1,r13.1.2.1,r13.1.2.2.1,r13.1.2.2.2.1,r13.1.2.2.2.2.1,r13.1.2.2.2.2.2.1,List.set r13.1.2.2.2.2.2.2.1 v11.1.toNat true,r13.1.2.2.2.2.2.2.2.1,()),())
   else
    some (0,(r13.1.1,r13.1.2.1,r13.1.2.2.1,r13.1.2.2.2.1,r13.1.2.2.2.2.1,r13.1.2.2.2.2.2.1,List.set r13.1.2.2.2.2.2.2.1 v11.1.toNat true,r13.1.2.2.2.2.2.2.2.1,()),())
  else
   Option.bind (gD ((v11.2.2.2.2.1,v11.2.2.2.2.2.1,v11.2.2.2.2.2.2.1,v11.2.2.2.2.2.2.2.1,v11.2.2.2.2.2.2.2.2.1,v11.2.2.2.2.2.2.2.2.2.1,v11.2.2.2.2.2.2.2.2.2.2.1,v11.2.2.2.2.2.2.2.2.2.2.2.1,v11.2.2.2.2.2.2.2.2.2.2.2.2.1),v11.2.2.2.2.2.2.2.2.2.2.2.2.2.2.1,v11.2.2.2.2.2.2.2.2.2.2.2.2.2.1,v11.2.2.2.2.2.2.2.2.2.2.2.2.2.2.2.1,v11.2.2.2.2.2.2.2.2.2.2.2.2.2.2.2.2.1,v11.2.2.2.2.2.2.2.2.2.2.2.2.2.2.2.2.2.1++[(v11.2.2.1,v11.2.2.2.1)],v11.2.2.2.2.2.2.2.2.2.2.2.2.2.2.2.2.2.2.1,v11.2.2.2.2.2.2.2.2.2.2.2.2.2.2.2.2.2.2.2.1,()) (v11.2.2.1,v11.2.2.2.1)) fun r16=>
   bif r16.1 != 0 then
    some (r16.1,(r16.2.1.1,r16.2.1.2.1,r16.2.1.2.2.1,r16.2.1.2.2.2.1,r16.2.1.2.2.2.2.1,r16.2.1.2.2.2.2.2.1,r16.2.1.2.2.2.2.2.2.1,r16.2.1.2.2.2.2.2.2.2.1,()),())
   else
    Option.bind (bL r16.2.1.2.2.2.1 ()) fun r17=>
    bif r17.1 then
     some (1,(r16.2.1.1,r16.2.1.2.1,r16.2.1.2.2.1,r16.2.1.2.2.2.1,r16.2.1.2.2.2.2.1,r16.2.1.2.2.2.2.2.1,r16.2.1.2.2.2.2.2.2.1,r16.2.1.2.2.2.2.2.2.2.1,()),())
    else
     some (0,(r16.2.1.1,r16.2.1.2.1,r16.2.1.2.2.1,r16.2.1.2.2.2.1,r16.2.1.2.2.2.2.1,r16.2.1.2.2.2.2.2.1,r16.2.1.2.2.2.2.2.2.1,r16.2.1.2.2.2.2.2.2.2.1,()),())
abbrev nC:Type:=(List az)×Int×Int×(List UInt8)×(List UInt8)×Int×Int×Int×Bool×(List az)×(List aq)×(List au)×(List aa)×(List aa)×(List aa)×(List aa)×(List aD)×(List aa)×(List Bool)×Unit
abbrev vX:Type:=((Int×(ai×(List aa)×(List aa)×(List aa)×(List aD)×(List aa)×(List Bool)×(List aa)×Unit)×Unit) ⊕ ((List UInt8)×(List UInt8)×Int×Int×Int×Bool×(List az)×(List aq)×(List au)×(List aa)×(List aa)×(List aa)×(List aa)×(List aD)×(List aa)×(List Bool)×Unit))
def qA (x1:nC) (again:nC→Option vX):Option vX:=
 match x1 with
 | (A,B,C,D,E,F,G,H,I,J,K,L,M,N,O,P,Q,R,S,_)=>
 bif decide (C<B) then
  Option.bind (idx A C) fun y2=>
  bif !I then
   chk (decide (0≤C)&&decide (C<(P.length:Int))) <|
   Option.bind (P[C.toNat]?) fun y3=>
   Option.bind (pX (D,E,F,G,H,I,J,K,L) y3 y2.2) fun r4=>
   chk (decide (0≤C)&&decide (C<(N.length:Int))) <|
   Option.bind (N[C.toNat]?) fun _=>
   again (A,B,w64 (C+1),D,E,F,G,H,I,J,K,L,M,List.set N C.toNat r4.1,O,P,Q,R,S,())
  else
   again (A,B,w64 (C+1),D,E,F,G,H,I,J,K,L,M,N,O,P,Q,R,S,())
 else
  some (Sum.inr (D,E,F,G,H,I,J,K,L,M,N,O,P,Q,R,S,()))
abbrev nH:Type:=Int×Int×(List UInt8)×(List UInt8)×Int×Int×Int×Bool×(List az)×(List aq)×(List au)×(List aa)×(List aa)×(List aa)×(List aa)×(List aD)×(List aa)×(List Bool)×Unit
abbrev we:Type:=((Int×(ai×(List aa)×(List aa)×(List aa)×(List aD)×(List aa)×(List Bool)×(List aa)×Unit)×Unit) ⊕ ((List UInt8)×(List UInt8)×Int×Int×Int×Bool×(List az)×(List aq)×(List au)×(List aa)×(List aa)×(List aa)×(List aa)×(List aD)×(List aa)×(List Bool)×Unit))
def qE (x1:nH) (again:nH→Option we):Option we:=
 match x1 with
 | (A,B,C,D,E,F,G,H,I,J,K,L,M,N,O,P,Q,R,_)=>
 bif decide (B<A) then
  chk (decide (0≤B)&&decide (B<(P.length:Int))) <|
  Option.bind (P[B.toNat]?) fun y2=>
  bif H then
   chk (decide (0≤y2.1)&&decide (y2.1<(M.length:Int))) <|
   Option.bind (M[y2.1.toNat]?) fun y3=>
   Option.bind (idx I y2.1) fun y4=>
   Option.bind (pX (C,D,E,F,G,H,I,J,K) y2.2 y4.2) fun r5=>
   Option.bind (aV y3 r5.1) fun r6=>
   chk (decide (0≤y2.1)&&decide (y2.1<(M.length:Int))) <|
   Option.bind (M[y2.1.toNat]?) fun _=>
   again (A,w64 (B+1),C,D,E,F,G,H,I,J,K,L,List.set M y2.1.toNat r6.1,N,O,P,Q,R,())
  else
   again (A,w64 (B+1),C,D,E,F,G,H,I,J,K,L,M,N,O,P,Q,R,())
 else
  some (Sum.inr (C,D,E,F,G,H,I,J,K,L,M,N,O,P,Q,R,()))
def vK (a0:ai×(List aa)×(List aa)×(List aa)×(List aD)×(List aa)×(List Bool)×(List aa)×Unit):Option (Int×(ai×(List aa)×(List aa)×(List aa)×(List aD)×(List aa)×(List Bool)×(List aa)×Unit)×Unit):=
 chk (decide (0≤((a0.2.2.2.1.length:Int)))&&decide (((a0.2.2.2.1.length:Int))≤((a0.2.2.2.1.length:Int)))&&decide ((32:Int)*((a0.2.2.2.1.length:Int))≤281474976710656)&&decide (((a0.2.2.2.1.length:Int))≤9223372036854775807)) <|
 aO (β:=(Int×(ai×(List aa)×(List aa)×(List aa)×(List aD)×(List aa)×(List Bool)×(List aa)×Unit)×Unit)) (γ:=((List UInt8)×(List UInt8)×Int×Int×Int×Bool×(List az)×(List aq)×(List au)×(List aa)×(List aa)×(List aa)×(List aa)×(List aD)×(List aa)×(List Bool)×Unit)) (
  iter (X:=nC) (β:=vX) (a0.1.2.2.2.2.2.2.1.length+(Int.natAbs ((a0.1.2.2.2.2.2.2.1.length:Int))+(Int.natAbs (0:Int)+(a0.1.1.length+(a0.1.2.1.length+(a0.1.2.2.1.natAbs+(a0.1.2.2.2.1.natAbs+(a0.1.2.2.2.2.1.natAbs+(a0.1.2.2.2.2.2.2.1.length+(a0.1.2.2.2.2.2.2.2.1.length+(a0.1.2.2.2.2.2.2.2.2.length+(a0.2.2.1.length+(List.length ((List.replicate (Int.toNat ((a0.2.2.2.1.length:Int))) (false,[]):List (aa)):List aa)+(a0.2.1.length+(a0.2.2.2.1.length+(a0.2.2.2.2.1.length+(a0.2.2.2.2.2.1.length+(a0.2.2.2.2.2.2.1.length+2)))))))))))))))))) (a0.1.2.2.2.2.2.2.1,(a0.1.2.2.2.2.2.2.1.length:Int),0,a0.1.1,a0.1.2.1,a0.1.2.2.1,a0.1.2.2.2.1,a0.1.2.2.2.2.1,a0.1.2.2.2.2.2.1,a0.1.2.2.2.2.2.2.1,a0.1.2.2.2.2.2.2.2.1,a0.1.2.2.2.2.2.2.2.2,a0.2.2.1,(List.replicate (Int.toNat ((a0.2.2.2.1.length:Int))) (false,[]):List (aa)),a0.2.1,a0.2.2.2.1,a0.2.2.2.2.1,a0.2.2.2.2.2.1,a0.2.2.2.2.2.2.1,()) (qA)) fun v6=>
 aO (β:=(Int×(ai×(List aa)×(List aa)×(List aa)×(List aD)×(List aa)×(List Bool)×(List aa)×Unit)×Unit)) (γ:=((List UInt8)×(List UInt8)×Int×Int×Int×Bool×(List az)×(List aq)×(List au)×(List aa)×(List aa)×(List aa)×(List aa)×(List aD)×(List aa)×(List Bool)×Unit)) (
  iter (X:=nH) (β:=we) (Int.natAbs ((v6.2.2.2.2.2.2.2.2.2.2.2.2.2.1.length:Int))+(Int.natAbs (0:Int)+(v6.1.length+(v6.2.1.length+(v6.2.2.1.natAbs+(v6.2.2.2.1.natAbs+(v6.2.2.2.2.1.natAbs+(v6.2.2.2.2.2.2.1.length+(v6.2.2.2.2.2.2.2.1.length+(v6.2.2.2.2.2.2.2.2.1.length+(v6.2.2.2.2.2.2.2.2.2.1.length+(v6.2.2.2.2.2.2.2.2.2.2.1.length+(v6.2.2.2.2.2.2.2.2.2.2.2.1.length+(v6.2.2.2.2.2.2.2.2.2.2.2.2.1.length+(v6.2.2.2.2.2.2.2.2.2.2.2.2.2.1.length+(v6.2.2.2.2.2.2.2.2.2.2.2.2.2.2.1.length+(v6.2.2.2.2.2.2.2.2.2.2.2.2.2.2.2.1.length+2))))))))))))))))) ((v6.2.2.2.2.2.2.2.2.2.2.2.2.2.1.length:Int),0,v6.1,v6.2.1,v6.2.2.1,v6.2.2.2.1,v6.2.2.2.2.1,v6.2.2.2.2.2.1,v6.2.2.2.2.2.2.1,v6.2.2.2.2.2.2.2.1,v6.2.2.2.2.2.2.2.2.1,v6.2.2.2.2.2.2.2.2.2.1,v6.2.2.2.2.2.2.2.2.2.2.1,v6.2.2.2.2.2.2.2.2.2.2.2.1,v6.2.2.2.2.2.2.2.2.2.2.2.2.1,v6.2.2.2.2.2.2.2.2.2.2.2.2.2.1,v6.2.2.2.2.2.2.2.2.2.2.2.2.2.2.1,v6.2.2.2.2.2.2.2.2.2.2.2.2.2.2.2.1,()) (qE)) fun v14=>
 Option.bind (gz v14.2.2.2.2.2.2.2.2.2.2.1 ()) fun r15=>
 bif r15.1 then
  some (1,((v14.1,v14.2.1,v14.2.2.1,v14.2.2.2.1,v14.2.2.2.2.1,v14.2.2.2.2.2.1,v14.2.2.2.2.2.2.1,v14.2.2.2.2.2.2.2.1,v14.2.2.2.2.2.2.2.2.1),v14.2.2.2.2.2.2.2.2.2.2.2.1,v14.2.2.2.2.2.2.2.2.2.1,v14.2.2.2.2.2.2.2.2.2.2.2.2.1,v14.2.2.2.2.2.2.2.2.2.2.2.2.2.1,v14.2.2.2.2.2.2.2.2.2.2.2.2.2.2.1,v14.2.2.2.2.2.2.2.2.2.2.2.2.2.2.2.1,v14.2.2.2.2.2.2.2.2.2.2.1,()),())
 else
  some (0,((v14.1,v14.2.1,v14.2.2.1,v14.2.2.2.1,v14.2.2.2.2.1,v14.2.2.2.2.2.1,v14.2.2.2.2.2.2.1,v14.2.2.2.2.2.2.2.1,v14.2.2.2.2.2.2.2.2.1),v14.2.2.2.2.2.2.2.2.2.2.2.1,v14.2.2.2.2.2.2.2.2.2.1,v14.2.2.2.2.2.2.2.2.2.2.2.2.1,v14.2.2.2.2.2.2.2.2.2.2.2.2.2.1,v14.2.2.2.2.2.2.2.2.2.2.2.2.2.2.1,v14.2.2.2.2.2.2.2.2.2.2.2.2.2.2.2.1,v14.2.2.2.2.2.2.2.2.2.2.1,()),())
abbrev kR:Type:=(List au)×Int×Int×(List UInt8)×(List UInt8)×Int×Int×Int×Bool×(List az)×(List aq)×(List au)×(List aa)×(List aa)×(List aa)×(List aD)×(List aa)×(List Bool)×(List aa)×(List fD)×Unit
abbrev wG:Type:=(((Option Nat)×Int×(List fD)×Unit) ⊕ ((List UInt8)×(List UInt8)×Int×Int×Int×Bool×(List az)×(List aq)×(List au)×(List aa)×(List aa)×(List aa)×(List aD)×(List aa)×(List Bool)×(List aa)×(List fD)×Unit))
noncomputable def nA (x1:kR) (again:kR→Option wG):Option wG:=
 match x1 with
 | (A,B,C,D,E,F,G,H,I,J,K,L,M,N,O,P,Q,R,S,T,_)=>
 bif decide (C<B) then
  Option.bind (idx A C) fun y2=>
  Option.bind (lS ((D,E,F,G,H,I,J,K,L),M,N,O,P,Q,R,S,()) y2) fun r3=>
  bif r3.1 != 0 then
   some (Sum.inl (none,r3.1,T,()))
  else
   again (A,B,w64 (C+1),r3.2.1.1.1,r3.2.1.1.2.1,r3.2.1.1.2.2.1,r3.2.1.1.2.2.2.1,r3.2.1.1.2.2.2.2.1,r3.2.1.1.2.2.2.2.2.1,r3.2.1.1.2.2.2.2.2.2.1,r3.2.1.1.2.2.2.2.2.2.2.1,r3.2.1.1.2.2.2.2.2.2.2.2,r3.2.1.2.1,r3.2.1.2.2.1,r3.2.1.2.2.2.1,r3.2.1.2.2.2.2.1,r3.2.1.2.2.2.2.2.1,r3.2.1.2.2.2.2.2.2.1,r3.2.1.2.2.2.2.2.2.2.1,T,())
 else
  some (Sum.inr (D,E,F,G,H,I,J,K,L,M,N,O,P,Q,R,S,T,()))
noncomputable def lT (a0:ai) (a1:List fD):Option ((Option Nat)×Int×(List fD)×Unit):=
 Option.bind (kQ a0) fun r1=>
 bif r1.1 != 0 then
  some (none,r1.1,a1,())
 else
  Option.bind (mL (a0,[],[],[],[],[],[],[],())) fun r2=>
  bif r2.1 != 0 then
   some (none,r2.1,a1,())
  else
   aO (β:=((Option Nat)×Int×(List fD)×Unit)) (γ:=((List UInt8)×(List UInt8)×Int×Int×Int×Bool×(List az)×(List aq)×(List au)×(List aa)×(List aa)×(List aa)×(List aD)×(List aa)×(List Bool)×(List aa)×(List fD)×Unit)) (
    iter (X:=kR) (β:=wG) (a0.2.2.2.2.2.2.2.2.length+(Int.natAbs ((a0.2.2.2.2.2.2.2.2.length:Int))+(Int.natAbs (0:Int)+(r2.2.1.1.1.length+(r2.2.1.1.2.1.length+(r2.2.1.1.2.2.1.natAbs+(r2.2.1.1.2.2.2.1.natAbs+(r2.2.1.1.2.2.2.2.1.natAbs+(r2.2.1.1.2.2.2.2.2.2.1.length+(r2.2.1.1.2.2.2.2.2.2.2.1.length+(r2.2.1.1.2.2.2.2.2.2.2.2.length+(r2.2.1.2.1.length+(r2.2.1.2.2.1.length+(r2.2.1.2.2.2.1.length+(r2.2.1.2.2.2.2.1.length+(r2.2.1.2.2.2.2.2.1.length+(r2.2.1.2.2.2.2.2.2.1.length+(r2.2.1.2.2.2.2.2.2.2.1.length+(List.length a1+2))))))))))))))))))) (a0.2.2.2.2.2.2.2.2,(a0.2.2.2.2.2.2.2.2.length:Int),0,r2.2.1.1.1,r2.2.1.1.2.1,r2.2.1.1.2.2.1,r2.2.1.1.2.2.2.1,r2.2.1.1.2.2.2.2.1,r2.2.1.1.2.2.2.2.2.1,r2.2.1.1.2.2.2.2.2.2.1,r2.2.1.1.2.2.2.2.2.2.2.1,r2.2.1.1.2.2.2.2.2.2.2.2,r2.2.1.2.1,r2.2.1.2.2.1,r2.2.1.2.2.2.1,r2.2.1.2.2.2.2.1,r2.2.1.2.2.2.2.2.1,r2.2.1.2.2.2.2.2.2.1,r2.2.1.2.2.2.2.2.2.2.1,a1,()) (nA)) fun v6=>
   Option.bind (vK ((v6.1,v6.2.1,v6.2.2.1,v6.2.2.2.1,v6.2.2.2.2.1,v6.2.2.2.2.2.1,v6.2.2.2.2.2.2.1,v6.2.2.2.2.2.2.2.1,v6.2.2.2.2.2.2.2.2.1),v6.2.2.2.2.2.2.2.2.2.1,v6.2.2.2.2.2.2.2.2.2.2.1,v6.2.2.2.2.2.2.2.2.2.2.2.1,v6.2.2.2.2.2.2.2.2.2.2.2.2.1,v6.2.2.2.2.2.2.2.2.2.2.2.2.2.1,v6.2.2.2.2.2.2.2.2.2.2.2.2.2.2.1,v6.2.2.2.2.2.2.2.2.2.2.2.2.2.2.2.1,())) fun r7=>
   bif r7.1 != 0 then
    some (none,r7.1,v6.2.2.2.2.2.2.2.2.2.2.2.2.2.2.2.2.1,())
   else
    some (some (v6.2.2.2.2.2.2.2.2.2.2.2.2.2.2.2.2.1.length),0,v6.2.2.2.2.2.2.2.2.2.2.2.2.2.2.2.2.1++[(r7.2.1.1,r7.2.1.2.1,r7.2.1.2.2.1,r7.2.1.2.2.2.1,r7.2.1.2.2.2.2.1,r7.2.1.2.2.2.2.2.1,r7.2.1.2.2.2.2.2.2.1,r7.2.1.2.2.2.2.2.2.2.1)],())
abbrev wZ:Type:=(List aa)×Int×Int×Bool×(List Int)×Bool×(List Int)×Unit
abbrev Ff:Type:=((aa×Unit) ⊕ (Bool×(List Int)×Bool×(List Int)×Unit))
def AT (x1:wZ) (again:wZ→Option Ff):Option Ff:=
 match x1 with
 | (A,B,C,D,E,F,G,_)=>
 bif decide (C<B) then
  Option.bind (idx A C) fun y2=>
  Option.bind (aV (F,G) y2) fun r3=>
  again (A,B,w64 (C+1),D,E,r3.1.1,r3.1.2,())
 else
  some (Sum.inr (D,E,F,G,()))
def AJ (a0:List aa):Option (aa×Unit):=
 Option.bind (bA 0) fun r1=>
 aO (β:=(aa×Unit)) (γ:=(Bool×(List Int)×Bool×(List Int)×Unit)) (
  iter (X:=wZ) (β:=Ff) (List.length a0+(Int.natAbs ((List.length a0:Int))+(Int.natAbs (0:Int)+(List.length ([]:List Int)+(r1.1.2.length+2))))) (a0,(List.length a0:Int),0,false,[],r1.1.1,r1.1.2,()) (AT)) fun v5=>
 some ((v5.2.2.1,v5.2.2.2.1),())
def jh (a0:Option Nat) (a1:aa) (a2:List fD):Option (ak×Unit):=
 Option.bind (a0) fun h1=>
 Option.bind (a2[h1]?) fun y2=>
 Option.bind (qm a1 y2.1.2.2.2.1) fun r3=>
 some (r3.1,())
def qL (a0:Option Nat) (a1:List fD):Option (uP×Int×Unit):=
 Option.bind (a0) fun h1=>
 Option.bind (a1[h1]?) fun y2=>
 Option.bind (AJ y2.2.1) fun r3=>
 Option.bind (a0) fun h4=>
 Option.bind (a1[h4]?) fun y5=>
 Option.bind (AJ y5.2.2.2.2.2.1) fun r6=>
 Option.bind (a0) fun h7=>
 Option.bind (a1[h7]?) fun y8=>
 Option.bind (AJ y8.2.2.2.2.2.2.2) fun r9=>
 Option.bind (aV r3.1 r6.1) fun r10=>
 Option.bind (aV r10.1 r9.1) fun r11=>
 Option.bind (gy [r3.1,r6.1,r10.1,r9.1,r11.1] ()) fun r12=>
 bif r12.1 then
  some (((0,0),(0,0),(0,0),(0,0),0,0),1,())
 else
  Option.bind (jh a0 r3.1 a1) fun r13=>
  Option.bind (jh a0 r6.1 a1) fun r14=>
  Option.bind (jh a0 r10.1 a1) fun r15=>
  Option.bind (jh a0 r9.1 a1) fun r16=>
  Option.bind (jh a0 r11.1 a1) fun r17=>
  some ((r13.1,r14.1,r15.1,r16.1,r17.1),0,())
noncomputable def wW (a0:ai):Option (uP×Int×Unit):=
 Option.bind (lT a0 []) fun r1=>
 bif r1.2.1 != 0 then
  some (((0,0),(0,0),(0,0),(0,0),0,0),r1.2.1,())
 else
  Option.bind (qL r1.1 r1.2.2.1) fun r2=>
  some (r2.1,r2.2.1,())
end Go.Md
namespace Go.Md
open Go.Dn
noncomputable def j7 (a0:List az):Option ((List az)×Unit):=
 bif List.isEmpty a0 then
  both (
   some ([],())) (
   chk (decide ((0+(List.length a0))*32≤140737488355328)&&decide (0+(List.length a0)≤maxLen)) <|
   some (a0,()))
 else
  chk (decide ((0+(List.length a0))*32≤140737488355328)&&decide (0+(List.length a0)≤maxLen)) <|
  some (a0,())
noncomputable def gJ (a0:List aq):Option ((List aq)×Unit):=
 bif List.isEmpty a0 then
  both (
   some ([],())) (
   chk (decide ((0+(List.length a0))*128≤140737488355328)&&decide (0+(List.length a0)≤maxLen)) <|
   some (a0,()))
 else
  chk (decide ((0+(List.length a0))*128≤140737488355328)&&decide (0+(List.length a0)≤maxLen)) <|
  some (a0,())
noncomputable def mm (a0:List au):Option ((List au)×Unit):=
 bif List.isEmpty a0 then
  both (
   some ([],())) (
   chk (decide ((0+(List.length a0))*40≤140737488355328)&&decide (0+(List.length a0)≤maxLen)) <|
   some (a0,()))
 else
  chk (decide ((0+(List.length a0))*40≤140737488355328)&&decide (0+(List.length a0)≤maxLen)) <|
  some (a0,())
def zH (a0:ak):Option (ak×Unit):=
 some ((w64 (0 - a0.1),a0.2),())
abbrev oq:Type:=Int×Int×(List au)×Unit
abbrev xV:Type:=(((List au)×Unit) ⊕ ((List au)×Unit))
noncomputable def rW (x1:oq) (again:oq→Option xV):Option xV:=
 match x1 with
 | (A,B,C,_)=>
 bif decide (B<A) then
  chk (decide (0≤B)&&decide (B<(C.length:Int))) <|
  Option.bind (C[B.toNat]?) fun y2=>
  bif !y2.1 then
   Option.bind (zH y2.2.1) fun r3=>
   chk (decide (0≤B)&&decide (B<(C.length:Int))) <|
   Option.bind (C[B.toNat]?) fun y4=>
   again (A,w64 (B+1),List.set C B.toNat (y4.1,r3.1,y4.2.2),())
  else
   again (A,w64 (B+1),C,())
 else
  some (Sum.inr (C,()))
noncomputable def nh (a0:List au):Option ((List au)×Unit):=
 Option.bind (mm a0) fun r1=>
 aO (β:=((List au)×Unit)) (γ:=((List au)×Unit)) (
  iter (X:=oq) (β:=xV) (Int.natAbs ((r1.1.length:Int))+(Int.natAbs (0:Int)+(r1.1.length+2))) ((r1.1.length:Int),0,r1.1,()) (rW)) fun v6=>
 some (v6.1,())
abbrev nM:Type:=Int×Int×(List UInt8)×(List UInt8)×Int×Int×Int×Bool×(List az)×(List aq)×(List au)×(List UInt8)×(List UInt8)×Int×Int×Int×Bool×(List az)×(List au)×(List aq)×Unit
abbrev wB:Type:=((ai×Int×Unit) ⊕ ((List UInt8)×(List UInt8)×Int×Int×Int×Bool×(List az)×(List aq)×(List au)×(List UInt8)×(List UInt8)×Int×Int×Int×Bool×(List az)×(List au)×(List aq)×Unit))
noncomputable def nI (x1:nM) (again:nM→Option wB):Option wB:=
 match x1 with
 | (A,B,C,D,E,F,G,H,I,J,K,L,M,N,O,P,Q,R,S,T,_)=>
 bif decide (B<A) then
  chk (decide (0≤B)&&decide (B<(T.length:Int))) <|
  Option.bind (T[B.toNat]?) fun y2=>
  Option.bind (zH y2.2.2.2.1) fun r3=>
  Option.bind (nh y2.2.2.2.2.2.2.2.1) fun r4=>
  chk (decide (0≤B)&&decide (B<(T.length:Int))) <|
  Option.bind (T[B.toNat]?) fun y5=>
  chk (decide (0≤B)&&decide (B<(List.length (List.set T B.toNat (y5.1,y5.2.1,y5.2.2.1,r3.1,y5.2.2.2.2)):Int))) <|
  Option.bind ((List.set T B.toNat (y5.1,y5.2.1,y5.2.2.1,r3.1,y5.2.2.2.2))[B.toNat]?) fun y6=>
  again (A,w64 (B+1),C,D,E,F,G,H,I,J,K,L,M,N,O,P,Q,R,S,List.set (List.set T B.toNat (y5.1,y5.2.1,y5.2.2.1,r3.1,y5.2.2.2.2)) B.toNat (y6.1,y6.2.1,y6.2.2.1,y6.2.2.2.1,y6.2.2.2.2.1,y6.2.2.2.2.2.1,y6.2.2.2.2.2.2.1,r4.1,y6.2.2.2.2.2.2.2.2),())
 else
  some (Sum.inr (C,D,E,F,G,H,I,J,K,L,M,N,O,P,Q,R,S,T,()))
noncomputable def s6 (a0:ai) (a1:List UInt8) (a2:Int):Option (ai×Int×Unit):=
 Option.bind (kQ a0) fun r1=>
 bif r1.1 != 0 then
  some (([],[],0,0,0,false,[],[],[]),r1.1,())
 else
  Option.bind (gv a1) fun r2=>
  bif !r2.1 then
   some (([],[],0,0,0,false,[],[],[]),5,())
  else
   bif a1==a0.1 then
    some (([],[],0,0,0,false,[],[],[]),12,())
   else
    Option.bind (b6 a2 a0.2.2.1 3652059) fun r3=>
    bif r3.1 then
     some (([],[],0,0,0,false,[],[],[]),1,())
    else
     Option.bind (j7 a0.2.2.2.2.2.2.1) fun r4=>
     Option.bind (gJ a0.2.2.2.2.2.2.2.1) fun r5=>
     Option.bind (nh a0.2.2.2.2.2.2.2.2) fun r6=>
     aO (β:=(ai×Int×Unit)) (γ:=((List UInt8)×(List UInt8)×Int×Int×Int×Bool×(List az)×(List aq)×(List au)×(List UInt8)×(List UInt8)×Int×Int×Int×Bool×(List az)×(List au)×(List aq)×Unit)) (
      iter (X:=nM) (β:=wB) (Int.natAbs ((r5.1.length:Int))+(Int.natAbs (0:Int)+(List.length ([]:List UInt8)+(List.length ([]:List UInt8)+(Int.natAbs (0:Int)+(Int.natAbs (0:Int)+(Int.natAbs (0:Int)+(List.length ([]:List az)+(List.length ([]:List aq)+(List.length ([]:List au)+(List.length a1+(a0.2.1.length+(Int.natAbs a2+(a0.2.2.2.1.natAbs+(a0.2.2.2.2.1.natAbs+(r4.1.length+(r6.1.length+(r5.1.length+2)))))))))))))))))) ((r5.1.length:Int),0,[],[],0,0,0,false,[],[],[],a1,a0.2.1,a2,a0.2.2.2.1,a0.2.2.2.2.1,a0.2.2.2.2.2.1,r4.1,r6.1,r5.1,()) (nI)) fun v13=>
     Option.bind (kQ (v13.2.2.2.2.2.2.2.2.2.1,v13.2.2.2.2.2.2.2.2.2.2.1,v13.2.2.2.2.2.2.2.2.2.2.2.1,v13.2.2.2.2.2.2.2.2.2.2.2.2.1,v13.2.2.2.2.2.2.2.2.2.2.2.2.2.1,v13.2.2.2.2.2.2.2.2.2.2.2.2.2.2.1,v13.2.2.2.2.2.2.2.2.2.2.2.2.2.2.2.1,v13.2.2.2.2.2.2.2.2.2.2.2.2.2.2.2.2.2.1,v13.2.2.2.2.2.2.2.2.2.2.2.2.2.2.2.2.1)) fun r14=>
     bif r14.1 != 0 then
      some (([],[],0,0,0,false,[],[],[]),r14.1,())
     else
      some ((v13.2.2.2.2.2.2.2.2.2.1,v13.2.2.2.2.2.2.2.2.2.2.1,v13.2.2.2.2.2.2.2.2.2.2.2.1,v13.2.2.2.2.2.2.2.2.2.2.2.2.1,v13.2.2.2.2.2.2.2.2.2.2.2.2.2.1,v13.2.2.2.2.2.2.2.2.2.2.2.2.2.2.1,v13.2.2.2.2.2.2.2.2.2.2.2.2.2.2.2.1,v13.2.2.2.2.2.2.2.2.2.2.2.2.2.2.2.2.2.1,v13.2.2.2.2.2.2.2.2.2.2.2.2.2.2.2.2.1),0,())
abbrev ki:Type:=(List au)×(List au)×Int×Int×Unit
abbrev nR:Type:=((Bool×Unit) ⊕ Unit)
def kj (x1:ki) (again:ki→Option nR):Option nR:=
 match x1 with
 | (A,B,C,D,_)=>
 bif decide (D<C) then
  Option.bind (idx A D) fun y2=>
  Option.bind (idx B D) fun y3=>
  bif !((y2.1==y3.1)&&(((y2.2.1.1==y3.2.1.1)&&((y2.2.1.2==y3.2.1.2)&&true))&&((y2.2.2==y3.2.2)&&true))) then
   some (Sum.inl (false,()))
  else
   again (A,B,C,w64 (D+1),())
 else
  some (Sum.inr ())
def jx (a0:List au) (a1:List au):Option (Bool×Unit):=
 bif ((List.length a0:Int)) != ((List.length a1:Int)) then
  some (false,())
 else
  aO (β:=(Bool×Unit)) (γ:=Unit) (
   iter (X:=ki) (β:=nR) (List.length a0+(List.length a1+(Int.natAbs ((List.length a0:Int))+(Int.natAbs (0:Int)+2)))) (a0,a1,(List.length a0:Int),0,()) (kj)) fun _=>
  some (true,())
abbrev kE:Type:=(List az)×(List az)×Int×Int×Unit
abbrev oy:Type:=((Bool×Unit) ⊕ Unit)
def kD (x1:kE) (again:kE→Option oy):Option oy:=
 match x1 with
 | (A,B,C,D,_)=>
 bif decide (D<C) then
  Option.bind (idx A D) fun y2=>
  Option.bind (idx B D) fun y3=>
  bif !((y2.1==y3.1)&&(((y2.2.1==y3.2.1)&&((y2.2.2==y3.2.2)&&true))&&true)) then
   some (Sum.inl (false,()))
  else
   again (A,B,C,w64 (D+1),())
 else
  some (Sum.inr ())
def nc (a0:List az) (a1:List az):Option (Bool×Unit):=
 bif ((List.length a0:Int)) != ((List.length a1:Int)) then
  some (false,())
 else
  aO (β:=(Bool×Unit)) (γ:=Unit) (
   iter (X:=kE) (β:=oy) (List.length a0+(List.length a1+(Int.natAbs ((List.length a0:Int))+(Int.natAbs (0:Int)+2)))) (a0,a1,(List.length a0:Int),0,()) (kD)) fun _=>
  some (true,())
abbrev xp:Type:=(List aq)×Int×Int×(List UInt8)×(List UInt8)×Int×Int×Int×Bool×(List az)×(List aq)×(List au)×(List UInt8)×(List UInt8)×Int×Int×Int×Bool×(List az)×(List aq)×(List au)×Unit
abbrev Fv:Type:=((Bool×Unit) ⊕ ((List UInt8)×(List UInt8)×Int×Int×Int×Bool×(List az)×(List aq)×(List au)×(List UInt8)×(List UInt8)×Int×Int×Int×Bool×(List az)×(List aq)×(List au)×Unit))
def A7 (x1:xp) (again:xp→Option Fv):Option Fv:=
 match x1 with
 | (A,B,C,D,E,F,G,H,I,J,K,L,M,N,O,P,Q,R,S,T,U,_)=>
 bif decide (C<B) then
  Option.bind (idx A C) fun y2=>
  Option.bind (idx T C) fun y3=>
  bif y2.1 != y3.1 then
   some (Sum.inl (false,()))
  else
   bif y2.2.1 != y3.2.1 then
    some (Sum.inl (false,()))
   else
    bif !(y2.2.2.1==y3.2.2.1) then
     some (Sum.inl (false,()))
    else
     bif !((y2.2.2.2.1.1==y3.2.2.2.1.1)&&((y2.2.2.2.1.2==y3.2.2.2.1.2)&&true)) then
      some (Sum.inl (false,()))
     else
      bif !(y2.2.2.2.2.1==y3.2.2.2.2.1) then
       some (Sum.inl (false,()))
      else
       bif !((y2.2.2.2.2.2.1.1==y3.2.2.2.2.2.1.1)&&((y2.2.2.2.2.2.1.2==y3.2.2.2.2.2.1.2)&&true)) then
        some (Sum.inl (false,()))
       else
        bif y2.2.2.2.2.2.2.1 != y3.2.2.2.2.2.2.1 then
         some (Sum.inl (false,()))
        else
         bif !(y2.2.2.2.2.2.2.2.2==y3.2.2.2.2.2.2.2.2) then
          some (Sum.inl (false,()))
         else
          Option.bind (jx y2.2.2.2.2.2.2.2.1 y3.2.2.2.2.2.2.2.1) fun r4=>
          bif !r4.1 then
           some (Sum.inl (false,()))
          else
           again (A,B,w64 (C+1),D,E,F,G,H,I,J,K,L,M,N,O,P,Q,R,S,T,U,())
 else
  some (Sum.inr (D,E,F,G,H,I,J,K,L,M,N,O,P,Q,R,S,T,U,()))
def Hy (a0:ai) (a1:ai):Option (Bool×Unit):=
 bif !(a0.1==a1.1) then
  some (false,())
 else
  bif !(a0.2.1==a1.2.1) then
   some (false,())
  else
   bif a0.2.2.1 != a1.2.2.1 then
    some (false,())
   else
    bif a0.2.2.2.1 != a1.2.2.2.1 then
     some (false,())
    else
     bif a0.2.2.2.2.1 != a1.2.2.2.2.1 then
      some (false,())
     else
      bif !(a0.2.2.2.2.2.1==a1.2.2.2.2.2.1) then
       some (false,())
      else
       bif ((a0.2.2.2.2.2.2.2.1.length:Int)) != ((a1.2.2.2.2.2.2.2.1.length:Int)) then
        some (false,())
       else
        aO (β:=(Bool×Unit)) (γ:=((List UInt8)×(List UInt8)×Int×Int×Int×Bool×(List az)×(List aq)×(List au)×(List UInt8)×(List UInt8)×Int×Int×Int×Bool×(List az)×(List aq)×(List au)×Unit)) (
         iter (X:=xp) (β:=Fv) (a0.2.2.2.2.2.2.2.1.length+(Int.natAbs ((a0.2.2.2.2.2.2.2.1.length:Int))+(Int.natAbs (0:Int)+(a0.1.length+(a0.2.1.length+(a0.2.2.1.natAbs+(a0.2.2.2.1.natAbs+(a0.2.2.2.2.1.natAbs+(a0.2.2.2.2.2.2.1.length+(a0.2.2.2.2.2.2.2.1.length+(a0.2.2.2.2.2.2.2.2.length+(a1.1.length+(a1.2.1.length+(a1.2.2.1.natAbs+(a1.2.2.2.1.natAbs+(a1.2.2.2.2.1.natAbs+(a1.2.2.2.2.2.2.1.length+(a1.2.2.2.2.2.2.2.1.length+(a1.2.2.2.2.2.2.2.2.length+2))))))))))))))))))) (a0.2.2.2.2.2.2.2.1,(a0.2.2.2.2.2.2.2.1.length:Int),0,a0.1,a0.2.1,a0.2.2.1,a0.2.2.2.1,a0.2.2.2.2.1,a0.2.2.2.2.2.1,a0.2.2.2.2.2.2.1,a0.2.2.2.2.2.2.2.1,a0.2.2.2.2.2.2.2.2,a1.1,a1.2.1,a1.2.2.1,a1.2.2.2.1,a1.2.2.2.2.1,a1.2.2.2.2.2.1,a1.2.2.2.2.2.2.1,a1.2.2.2.2.2.2.2.1,a1.2.2.2.2.2.2.2.2,()) (A7)) fun v5=>
        Option.bind (nc v5.2.2.2.2.2.2.1 v5.2.2.2.2.2.2.2.2.2.2.2.2.2.2.2.1) fun r6=>
        bif r6.1 then
         Option.bind (jx v5.2.2.2.2.2.2.2.2.1 v5.2.2.2.2.2.2.2.2.2.2.2.2.2.2.2.2.2.1) fun r7=>
         some (r7.1,())
        else
         some (false,())
def JB (a0:ak):Option (ak×Unit):=
 some ((w64 (0 - a0.1),a0.2),())
def mN (a0:ak) (a1:ak):Option (Bool×Unit):=
 Option.bind (JB a1) fun r1=>
 some ((a0.1==r1.1.1)&&((a0.2==r1.1.2)&&true),())
noncomputable def jM (a0:ai) (a1:List UInt8) (a2:Int):Option (Bool×Unit):=
 Option.bind (s6 a0 a1 a2) fun r1=>
 bif r1.2.1 != 0 then
  bif ((r1.1.2.2.2.2.2.2.2.1.length:Int))==0 then
   Option.bind (ET) fun r2=>
   some (r2.1,())
  else
   some (false,())
 else
  Option.bind (s6 r1.1 a0.1 a2) fun r3=>
  bif r3.2.1 != 0 then
   some (false,())
  else
   Option.bind (ET) fun r4=>
   bif !r4.1 then
    some (false,())
   else
    Option.bind (Hy (r3.1.1,r3.1.2.1,a0.2.2.1,r3.1.2.2.2) a0) fun r5=>
    bif !r5.1 then
     some (false,())
    else
     Option.bind (wW a0) fun r6=>
     Option.bind (wW r1.1) fun r7=>
     bif a0.2.2.2.2.1==5 then
      some (true,())
     else
      bif a0.2.2.2.2.1==6 then
       some (true,())
      else
       bif r6.2.1 != r7.2.1 then
        some (false,())
       else
        bif r6.2.1 != 0 then
         some (true,())
        else
         Option.bind (mN r6.1.1 r7.1.1) fun r8=>
         bif r8.1 then
          Option.bind (mN r6.1.2.1 r7.1.2.1) fun r9=>
          bif r9.1 then
           Option.bind (mN r6.1.2.2.1 r7.1.2.2.1) fun r10=>
           bif r10.1 then
            Option.bind (mN r6.1.2.2.2.1 r7.1.2.2.2.1) fun r11=>
            bif r11.1 then
             Option.bind (mN r6.1.2.2.2.2 r7.1.2.2.2.2) fun r12=>
             some (r12.1,())
            else
             some (false,())
           else
            some (false,())
          else
           some (false,())
         else
          some (false,())
end Go.Md
