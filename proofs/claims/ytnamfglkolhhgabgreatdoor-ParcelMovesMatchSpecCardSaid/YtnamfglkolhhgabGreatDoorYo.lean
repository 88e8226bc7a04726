/-
  The plain models of the functions that the law reaches, third part. No condition.
-/
import Derived.Test.YtnamfglkolhhgabGreatDoorYn
import Derived.Test.YtnamfglkolhhgabGreatDoorYa
import Derived.Test.YtnamfglkolhhgabGreatDoorYd
set_option linter.all false
set_option linter.all false
namespace Go.Md
open Go.Dn
def s7 (a b:List UInt8×List UInt8):Int:=bif Lib.compareBytes a.1 b.1==0 then Lib.compareBytes a.2 b.2 else Lib.compareBytes a.1 b.1
noncomputable section
end
end Go.Md
set_option linter.all false
namespace Go.Md
open Go.Dn
noncomputable section
end
end Go.Md
set_option linter.all false
namespace Go.Md
open Go.Dn
abbrev dZ:List ah→Int→List ah→Option (List ah×Unit):=sB 64
abbrev kJ:List aa→Int→List aa→Option (List aa×Unit):=sB 72
abbrev dF:List aa→Int→Int→Option (List aa×Unit):=Hh
noncomputable def jC (l:List aa) (_:Unit):Option (List aa×Unit):=GS (fun _=>true) (fun a b=>Lib.compareBytes a.1 b.1) l
abbrev mL (l:List aa) (n:Int):Option (List aa×Unit):=Hp 72 l n
noncomputable section
noncomputable def bN (a0:List aa):Option ((List aa)×Unit):=
 bif List.isEmpty a0 then
  both (
   some ([],())) (
   chk (decide ((0+(List.length a0))*72≤140737488355328)&&decide (0+(List.length a0)≤maxLen)) <|
   some (a0,()))
 else
  chk (decide ((0+(List.length a0))*72≤140737488355328)&&decide (0+(List.length a0)≤maxLen)) <|
  some (a0,())
noncomputable def gQ (a0:List ah):Option ((List ah)×Unit):=
 bif List.isEmpty a0 then
  both (
   some ([],())) (
   chk (decide ((0+(List.length a0))*64≤140737488355328)&&decide (0+(List.length a0)≤maxLen)) <|
   some (a0,()))
 else
  chk (decide ((0+(List.length a0))*64≤140737488355328)&&decide (0+(List.length a0)≤maxLen)) <|
  some (a0,())
noncomputable def dS (a0:List ah):Option ((List ah)×Unit):=
 bif List.isEmpty a0 then
  both (
   some ([],())) (
   chk (decide ((0+(List.length a0))*64≤140737488355328)&&decide (0+(List.length a0)≤maxLen)) <|
   some (a0,()))
 else
  chk (decide ((0+(List.length a0))*64≤140737488355328)&&decide (0+(List.length a0)≤maxLen)) <|
  some (a0,())
abbrev fE:Type:=Int×Int×(List aa)×Unit
abbrev iN:Type:=(((List aa)×Unit) ⊕ ((List aa)×Unit))
noncomputable def iM (x1:fE) (again:fE→Option iN):Option iN:=
 bif decide (x1.2.1<x1.1) then
  chk (decide (0≤x1.2.1)&&decide (x1.2.1<(x1.2.2.1.length:Int))) <|
  Option.bind (x1.2.2.1[x1.2.1.toNat]?) fun y2=>
  Option.bind (gQ y2.2.2.2) fun r3=>
  chk (decide (0≤x1.2.1)&&decide (x1.2.1<(x1.2.2.1.length:Int))) <|
  Option.bind (x1.2.2.1[x1.2.1.toNat]?) fun y4=>
  again (x1.1,w64 (x1.2.1+1),List.set x1.2.2.1 x1.2.1.toNat (y4.1,y4.2.1,y4.2.2.1,r3.1),())
 else
  some (Sum.inr (x1.2.2.1,()))
noncomputable def dW (a0:List aa):Option ((List aa)×Unit):=
 Option.bind (bN a0) fun r1=>
 aR (β:=((List aa)×Unit)) (γ:=((List aa)×Unit)) (
  iter (X:=fE) (β:=iN) (Int.natAbs ((r1.1.length:Int))+(Int.natAbs (0:Int)+(r1.1.length+2))) ((r1.1.length:Int),0,r1.1,()) (iM)) fun v6=>
 some (v6.1,())
noncomputable def uR (a0:an) (a1:List UInt8) (a2:List UInt8):Option (an×Int×Unit):=
 Option.bind (jM a0 a1 false) fun r1=>
 bif r1.1 != 0 then
  some (([],[],0,[]),r1.1,())
 else
  Option.bind (b6 a0 a1) fun r2=>
  aR (β:=(an×Int×Unit)) (γ:=((List UInt8)×Int×(List UInt8)×(List UInt8)×Int×(List aa)×(List UInt8)×(List UInt8)×Int×(List aa)×Unit)) (
   bif !(a2==[]) then
    Option.bind (b6 a0 a2) fun r3=>
    bif !r3.2.1 then
     some (Sum.inl (([],[],0,[]),9,()))
    else
     bif r3.1==r2.1 then
      some (Sum.inl (([],[],0,[]),17,()))
     else
      Option.bind (pY a0 r3.1 a1) fun r4=>
      bif r4.1 then
       some (Sum.inl (([],[],0,[]),17,()))
      else
       some (Sum.inr (a2,r2.1,a0.1,a0.2.1,a0.2.2.1,a0.2.2.2,[],[],0,[],()))
   else
    some (Sum.inr (a2,r2.1,a0.1,a0.2.1,a0.2.2.1,a0.2.2.2,[],[],0,[],()))) fun v5=>
  Option.bind (dW v5.2.2.2.2.2.1) fun r6=>
  chk (decide (0≤v5.2.1)&&decide (v5.2.1<(r6.1.length:Int))) <|
  Option.bind (r6.1[v5.2.1.toNat]?) fun y7=>
  Option.bind (cZ (v5.2.2.1,v5.2.2.2.1,v5.2.2.2.2.1,List.set r6.1 v5.2.1.toNat (y7.1,v5.1,y7.2.2))) fun r8=>
  bif r8.1 != 0 then
   some (([],[],0,[]),r8.1,())
  else
   some ((v5.2.2.1,v5.2.2.2.1,v5.2.2.2.2.1,List.set r6.1 v5.2.1.toNat (y7.1,v5.1,y7.2.2)),0,())
def Bw (a0:an) (a1:List UInt8) (a2:List UInt8):Option (an×Int×Unit):=
 Option.bind (de a0) fun r1=>
 bif r1.1 != 0 then
  some (([],[],0,[]),r1.1,())
 else
  Option.bind (eG a0.2.2.2 a1) fun r2=>
  Option.bind (
   bif decide (r2.1<0) then
    some (true,())
   else
    bif !(a2==[]) then
     Option.bind (eG a0.2.2.2 a2) fun r3=>
     some (decide (r3.1<0),())
    else
     some (false,())) fun v4=>
  bif v4.1 then
   some (([],[],0,[]),9,())
  else
   Option.bind (
    bif !(a2==[]) then
     Option.bind (zg a0.2.2.2 a1) fun r5=>
     Option.bind (zh a0.2.2.2 r5.1) fun r6=>
     Option.bind (iO r6.1 a2) fun r7=>
     some (r7.1,())
    else
     some (false,())) fun v8=>
   bif v8.1 then
    some (([],[],0,[]),17,())
   else
    chk (decide (a0.2.2.2.length*72≤140737488355328)&&decide (a0.2.2.2.length≤maxLen)) <|
    chk (decide (0≤r2.1)&&decide (r2.1<(a0.2.2.2.length:Int))) <|
    Option.bind (a0.2.2.2[r2.1.toNat]?) fun y9=>
    Option.bind (de (a0.1,a0.2.1,a0.2.2.1,List.set a0.2.2.2 r2.1.toNat (y9.1,a2,y9.2.2))) fun r10=>
    bif r10.1 != 0 then
     some (([],[],0,[]),r10.1,())
    else
     some ((a0.1,a0.2.1,a0.2.2.1,List.set a0.2.2.2 r2.1.toNat (y9.1,a2,y9.2.2)),0,())
abbrev dL:Type:=(List ah)×(List ah)×Int×Int×Unit
abbrev fm:Type:=((Bool×Unit) ⊕ Unit)
def fk (x1:dL) (again:dL→Option fm):Option fm:=
 bif decide (x1.2.2.2.1<x1.2.2.1) then
  Option.bind (idx x1.1 x1.2.2.2.1) fun y2=>
  Option.bind (idx x1.2.1 x1.2.2.2.1) fun y3=>
  bif !((y2.1==y3.1)&&((y2.2.1==y3.2.1)&&((y2.2.2.1==y3.2.2.1)&&(((y2.2.2.2.1==y3.2.2.2.1)&&((y2.2.2.2.2==y3.2.2.2.2)&&true))&&true)))) then
   some (Sum.inl (false,()))
  else
   again (x1.1,x1.2.1,x1.2.2.1,w64 (x1.2.2.2.1+1),())
 else
  some (Sum.inr ())
def gT (a0:List ah) (a1:List ah):Option (Bool×Unit):=
 bif ((List.length a0:Int)) != ((List.length a1:Int)) then
  some (false,())
 else
  aR (β:=(Bool×Unit)) (γ:=Unit) (
   iter (X:=dL) (β:=fm) (List.length a0+(List.length a1+(Int.natAbs ((List.length a0:Int))+(Int.natAbs (0:Int)+2)))) (a0,a1,(List.length a0:Int),0,()) (fk)) fun _=>
  some (true,())
abbrev iV:Type:=(List aa)×(List aa)×Int×Int×Unit
abbrev l8:Type:=((Bool×Unit) ⊕ Unit)
def l7 (x1:iV) (again:iV→Option l8):Option l8:=
 bif decide (x1.2.2.2.1<x1.2.2.1) then
  Option.bind (idx x1.2.1 x1.2.2.2.1) fun y2=>
  Option.bind (idx x1.1 x1.2.2.2.1) fun y3=>
  bif !(y2.1==y3.1) then
   some (Sum.inl (false,()))
  else
   bif !(y2.2.1==y3.2.1) then
    some (Sum.inl (false,()))
   else
    bif !((y2.2.2.1.1==y3.2.2.1.1)&&((y2.2.2.1.2==y3.2.2.1.2)&&true)) then
     some (Sum.inl (false,()))
    else
     Option.bind (gT y2.2.2.2 y3.2.2.2) fun r4=>
     bif !r4.1 then
      some (Sum.inl (false,()))
     else
      again (x1.1,x1.2.1,x1.2.2.1,w64 (x1.2.2.2.1+1),())
 else
  some (Sum.inr ())
def pZ (a0:List aa) (a1:List aa):Option (Bool×Unit):=
 bif ((List.length a0:Int)) != ((List.length a1:Int)) then
  some (false,())
 else
  aR (β:=(Bool×Unit)) (γ:=Unit) (
   iter (X:=iV) (β:=l8) (List.length a1+(List.length a0+(Int.natAbs ((List.length a0:Int))+(Int.natAbs (0:Int)+2)))) (a1,a0,(List.length a0:Int),0,()) (l7)) fun _=>
  some (true,())
def tH (a0:an) (a1:an):Option (Bool×Unit):=
 Option.bind (
  bif a0.1==a1.1 then
   bif a0.2.1==a1.2.1 then
    bif a0.2.2.1==a1.2.2.1 then
     Option.bind (pZ a0.2.2.2 a1.2.2.2) fun r1=>
     some (r1.1,())
    else
     some (false,())
   else
    some (false,())
  else
   some (false,())) fun v2=>
 some (v2.1,())
abbrev bB:Type:=(List ah)×Unit×Int×Int×Int×(List UInt8)×(List UInt8)×(List UInt8)×Int×Int×Unit
abbrev cB:Type:=((Int×Bool×Unit) ⊕ ((List ah)×Unit×Int×Int×(List UInt8)×(List UInt8)×(List UInt8)×Int×Int×Unit))
def cA (x1:bB) (again:bB→Option cB):Option cB:=
 bif decide (x1.2.2.2.1<x1.2.2.2.2.1) then
  let n2:Int:=w64 (Int.fdiv (bH (w64 (x1.2.2.2.1+x1.2.2.2.2.1))) (2 ^ 1))
  Option.bind (idx x1.1 n2) fun y3=>
  Option.bind (dn y3 (x1.2.2.2.2.2.1,x1.2.2.2.2.2.2.1,x1.2.2.2.2.2.2.2.1,x1.2.2.2.2.2.2.2.2.1,x1.2.2.2.2.2.2.2.2.2.1)) fun r4=>
  bif decide (r4.1<0) then
   again (x1.1,x1.2.1,x1.2.2.1,w64 (n2+1),x1.2.2.2.2.1,x1.2.2.2.2.2.1,x1.2.2.2.2.2.2.1,x1.2.2.2.2.2.2.2.1,x1.2.2.2.2.2.2.2.2.1,x1.2.2.2.2.2.2.2.2.2.1,())
  else
   again (x1.1,x1.2.1,x1.2.2.1,x1.2.2.2.1,n2,x1.2.2.2.2.2.1,x1.2.2.2.2.2.2.1,x1.2.2.2.2.2.2.2.1,x1.2.2.2.2.2.2.2.2.1,x1.2.2.2.2.2.2.2.2.2.1,())
 else
  some (Sum.inr (x1.1,x1.2.1,x1.2.2.1,x1.2.2.2.1,x1.2.2.2.2.2.1,x1.2.2.2.2.2.2.1,x1.2.2.2.2.2.2.2.1,x1.2.2.2.2.2.2.2.2.1,x1.2.2.2.2.2.2.2.2.2.1,()))
def bU (a0:List ah) (a1:ah) (a2:Unit):Option (Int×Bool×Unit):=
 aR (β:=(Int×Bool×Unit)) (γ:=((List ah)×Unit×Int×Int×(List UInt8)×(List UInt8)×(List UInt8)×Int×Int×Unit)) (
  iter (X:=bB) (β:=cB) (List.length a0+(Int.natAbs ((List.length a0:Int))+(Int.natAbs (0:Int)+(Int.natAbs ((List.length a0:Int))+(a1.1.length+(a1.2.1.length+(a1.2.2.1.length+(a1.2.2.2.1.natAbs+(a1.2.2.2.2.natAbs+2))))))))) (a0,a2,(List.length a0:Int),0,(List.length a0:Int),a1.1,a1.2.1,a1.2.2.1,a1.2.2.2.1,a1.2.2.2.2,()) (cA)) fun v5=>
 bif decide (v5.2.2.2.1<v5.2.2.1) then
  Option.bind (idx v5.1 v5.2.2.2.1) fun y6=>
  Option.bind (dn y6 (v5.2.2.2.2.1,v5.2.2.2.2.2.1,v5.2.2.2.2.2.2.1,v5.2.2.2.2.2.2.2.1,v5.2.2.2.2.2.2.2.2.1)) fun r7=>
  some (v5.2.2.2.1,r7.1==0,())
 else
  some (v5.2.2.2.1,false,())
abbrev fO:Type:=(List ah)×(List ah)×Int×Int×Unit
abbrev fN:Type:=(((List ah)×Unit) ⊕ ((List ah)×Unit))
noncomputable def eM (x1:fO) (again:fO→Option fN):Option fN:=
 bif decide (x1.2.2.2.1<x1.2.2.1) then
  Option.bind (idx x1.2.1 x1.2.2.2.1) fun y2=>
  Option.bind (bU x1.1 y2 ()) fun r3=>
  bif !r3.2.1 then
   Option.bind (dZ x1.1 r3.1 [y2]) fun r4=>
   again (r4.1,x1.2.1,x1.2.2.1,w64 (x1.2.2.2.1+1),())
  else
   chk (decide (0≤r3.1)&&decide (r3.1<(x1.1.length:Int))) <|
   Option.bind (x1.1[r3.1.toNat]?) fun y5=>
   chk (decide (0≤r3.1)&&decide (r3.1<(x1.1.length:Int))) <|
   Option.bind (x1.1[r3.1.toNat]?) fun y6=>
   Option.bind (jt y6.2.2.2 (if y2.2.2.2.2>y5.2.2.2.2 then y2.2.2.2.2 else y5.2.2.2.2)) fun r7=>
   Option.bind (jt y2.2.2.2 (if y2.2.2.2.2>y5.2.2.2.2 then y2.2.2.2.2 else y5.2.2.2.2)) fun r8=>
   Option.bind (nD r7.1 r8.1) fun r9=>
   Option.bind (wQ r9.1 (if y2.2.2.2.2>y5.2.2.2.2 then y2.2.2.2.2 else y5.2.2.2.2)) fun r10=>
   bif r10.2.1 != 0 then
    chk (decide (0≤r3.1)&&decide (r3.1<(x1.1.length:Int))) <|
    Option.bind (x1.1[r3.1.toNat]?) fun y11=>
    again (List.set x1.1 r3.1.toNat (y11.1,y11.2.1,y11.2.2.1,1000000000000001,if y2.2.2.2.2>y5.2.2.2.2 then y2.2.2.2.2 else y5.2.2.2.2),x1.2.1,x1.2.2.1,w64 (x1.2.2.2.1+1),())
   else
    chk (decide (0≤r3.1)&&decide (r3.1<(x1.1.length:Int))) <|
    Option.bind (x1.1[r3.1.toNat]?) fun y12=>
    again (List.set x1.1 r3.1.toNat (y12.1,y12.2.1,y12.2.2.1,r10.1),x1.2.1,x1.2.2.1,w64 (x1.2.2.2.1+1),())
 else
  some (Sum.inr (x1.1,()))
noncomputable def zb (a0:List ah) (a1:List ah):Option ((List ah)×Unit):=
 Option.bind (dS a0) fun r1=>
 aR (β:=((List ah)×Unit)) (γ:=((List ah)×Unit)) (
  iter (X:=fO) (β:=fN) (r1.1.length+(List.length a1+(Int.natAbs ((List.length a1:Int))+(Int.natAbs (0:Int)+2)))) (r1.1,a1,(List.length a1:Int),0,()) (eM)) fun v14=>
 some (v14.1,())
abbrev mU:Type:=(List UInt8)×Int×Int×Int×(List UInt8)×(List UInt8)×Int×(List UInt8)×(List UInt8)×Int×(List aa)×(List UInt8)×(List UInt8)×Int×Int×(List ah)×(List aa)×Unit
abbrev mT:Type:=((an×Int×Unit) ⊕ (Int×(List UInt8)×(List UInt8)×Int×(List UInt8)×(List UInt8)×Int×(List aa)×(List aa)×Unit))
noncomputable def jK (x1:mU) (again:mU→Option mT):Option mT:=
 bif decide (x1.2.2.2.1<x1.2.2.1) then
  chk (decide (0≤x1.2.2.2.1)&&decide (x1.2.2.2.1<(x1.2.2.2.2.2.2.2.2.2.2.2.2.2.2.2.2.1.length:Int))) <|
  Option.bind (x1.2.2.2.2.2.2.2.2.2.2.2.2.2.2.2.2.1[x1.2.2.2.1.toNat]?) fun y2=>
  bif y2.2.1==x1.1 then
   chk (decide (0≤x1.2.2.2.1)&&decide (x1.2.2.2.1<(x1.2.2.2.2.2.2.2.2.2.2.2.2.2.2.2.2.1.length:Int))) <|
   Option.bind (x1.2.2.2.2.2.2.2.2.2.2.2.2.2.2.2.2.1[x1.2.2.2.1.toNat]?) fun y3=>
   again (x1.1,x1.2.1,x1.2.2.1,w64 (x1.2.2.2.1+1),x1.2.2.2.2.1,x1.2.2.2.2.2.1,x1.2.2.2.2.2.2.1,x1.2.2.2.2.2.2.2.1,x1.2.2.2.2.2.2.2.2.1,x1.2.2.2.2.2.2.2.2.2.1,x1.2.2.2.2.2.2.2.2.2.2.1,x1.2.2.2.2.2.2.2.2.2.2.2.1,x1.2.2.2.2.2.2.2.2.2.2.2.2.1,x1.2.2.2.2.2.2.2.2.2.2.2.2.2.1,x1.2.2.2.2.2.2.2.2.2.2.2.2.2.2.1,x1.2.2.2.2.2.2.2.2.2.2.2.2.2.2.2.1,List.set x1.2.2.2.2.2.2.2.2.2.2.2.2.2.2.2.2.1 x1.2.2.2.1.toNat (y3.1,x1.2.2.2.2.2.2.2.2.2.2.2.2.1,y3.2.2),())
  else
   again (x1.1,x1.2.1,x1.2.2.1,w64 (x1.2.2.2.1+1),x1.2.2.2.2.1,x1.2.2.2.2.2.1,x1.2.2.2.2.2.2.1,x1.2.2.2.2.2.2.2.1,x1.2.2.2.2.2.2.2.2.1,x1.2.2.2.2.2.2.2.2.2.1,x1.2.2.2.2.2.2.2.2.2.2.1,x1.2.2.2.2.2.2.2.2.2.2.2.1,x1.2.2.2.2.2.2.2.2.2.2.2.2.1,x1.2.2.2.2.2.2.2.2.2.2.2.2.2.1,x1.2.2.2.2.2.2.2.2.2.2.2.2.2.2.1,x1.2.2.2.2.2.2.2.2.2.2.2.2.2.2.2.1,x1.2.2.2.2.2.2.2.2.2.2.2.2.2.2.2.2.1,())
 else
  some (Sum.inr (x1.2.1,x1.2.2.2.2.1,x1.2.2.2.2.2.1,x1.2.2.2.2.2.2.1,x1.2.2.2.2.2.2.2.1,x1.2.2.2.2.2.2.2.2.1,x1.2.2.2.2.2.2.2.2.2.1,x1.2.2.2.2.2.2.2.2.2.2.1,x1.2.2.2.2.2.2.2.2.2.2.2.2.2.2.2.2.1,()))
noncomputable def sF (a0:an) (a1:List UInt8):Option (an×Int×Unit):=
 Option.bind (jM a0 a1 false) fun r1=>
 bif r1.1 != 0 then
  some (([],[],0,[]),r1.1,())
 else
  Option.bind (b6 a0 a1) fun r2=>
  Option.bind (idx a0.2.2.2 r2.1) fun y3=>
  Option.bind (
   bif y3.2.1==[] then
    some (decide (((y3.2.2.2.length:Int))>0),())
   else
    some (false,())) fun v4=>
  bif v4.1 then
   some (([],[],0,[]),12,())
  else
   Option.bind (dW a0.2.2.2) fun r5=>
   Option.bind (b6 (a0.1,a0.2.1,a0.2.2.1,r5.1) y3.2.1) fun r6=>
   Option.bind (
    bif !(y3.2.1==[]) then
     some (r6.2.1,())
    else
     some (false,())) fun v7=>
   aR (β:=(an×Int×Unit)) (γ:=((List UInt8)×Int×(List UInt8)×(List UInt8)×Int×(List UInt8)×(List UInt8)×Int×(List aa)×(List UInt8)×(List UInt8)×Int×Int×(List ah)×(List aa)×Unit)) (
    bif v7.1 then
     chk (decide (0≤r6.1)&&decide (r6.1<(r5.1.length:Int))) <|
     Option.bind (r5.1[r6.1.toNat]?) fun y8=>
     Option.bind (zb y8.2.2.2 y3.2.2.2) fun r9=>
     chk (decide (0≤r6.1)&&decide (r6.1<(r5.1.length:Int))) <|
     Option.bind (r5.1[r6.1.toNat]?) fun y10=>
     some (Sum.inr (a1,r2.1,a0.1,a0.2.1,a0.2.2.1,[],[],0,[],y3.1,y3.2.1,y3.2.2.1.1,y3.2.2.1.2,y3.2.2.2,List.set r5.1 r6.1.toNat (y10.1,y10.2.1,y10.2.2.1,r9.1),()))
    else
     some (Sum.inr (a1,r2.1,a0.1,a0.2.1,a0.2.2.1,[],[],0,[],y3.1,y3.2.1,y3.2.2.1.1,y3.2.2.1.2,y3.2.2.2,r5.1,()))) fun v11=>
   aR (β:=(an×Int×Unit)) (γ:=(Int×(List UInt8)×(List UInt8)×Int×(List UInt8)×(List UInt8)×Int×(List aa)×(List aa)×Unit)) (
    iter (X:=mU) (β:=mT) (v11.1.length+(v11.2.1.natAbs+(Int.natAbs ((v11.2.2.2.2.2.2.2.2.2.2.2.2.2.2.1.length:Int))+(Int.natAbs (0:Int)+(v11.2.2.1.length+(v11.2.2.2.1.length+(v11.2.2.2.2.1.natAbs+(v11.2.2.2.2.2.1.length+(v11.2.2.2.2.2.2.1.length+(v11.2.2.2.2.2.2.2.1.natAbs+(v11.2.2.2.2.2.2.2.2.1.length+(v11.2.2.2.2.2.2.2.2.2.1.length+(v11.2.2.2.2.2.2.2.2.2.2.1.length+(v11.2.2.2.2.2.2.2.2.2.2.2.1.natAbs+(v11.2.2.2.2.2.2.2.2.2.2.2.2.1.natAbs+(v11.2.2.2.2.2.2.2.2.2.2.2.2.2.1.length+(v11.2.2.2.2.2.2.2.2.2.2.2.2.2.2.1.length+2))))))))))))))))) (v11.1,v11.2.1,(v11.2.2.2.2.2.2.2.2.2.2.2.2.2.2.1.length:Int),0,v11.2.2.1,v11.2.2.2.1,v11.2.2.2.2.1,v11.2.2.2.2.2.1,v11.2.2.2.2.2.2.1,v11.2.2.2.2.2.2.2.1,v11.2.2.2.2.2.2.2.2.1,v11.2.2.2.2.2.2.2.2.2.1,v11.2.2.2.2.2.2.2.2.2.2.1,v11.2.2.2.2.2.2.2.2.2.2.2.1,v11.2.2.2.2.2.2.2.2.2.2.2.2.1,v11.2.2.2.2.2.2.2.2.2.2.2.2.2.1,v11.2.2.2.2.2.2.2.2.2.2.2.2.2.2.1,()) (jK)) fun v15=>
   Option.bind (dF v15.2.2.2.2.2.2.2.2.1 v15.1 (w64 (v15.1+1))) fun r16=>
   Option.bind (cZ (v15.2.1,v15.2.2.1,v15.2.2.2.1,r16.1)) fun r17=>
   bif r17.1 != 0 then
    some (([],[],0,[]),r17.1,())
   else
    some ((v15.2.1,v15.2.2.1,v15.2.2.2.1,r16.1),0,())
def Eh (a0:au) (a1:Int):Option (ai×Int×Unit):=
 Option.bind (Ef a0 1000000000000000) fun r1=>
 bif !r1.2.1 then
  some ((0,0),1,())
 else
  some ((r1.1,a1),0,())
abbrev BA:Type:=(List ai)×Int×(List ai)×Int×Int×Int×Int×Unit
abbrev Bz:Type:=((ai×Int×Unit) ⊕ ((List ai)×Int×Int×Int×Unit))
def GK (x1:BA) (again:BA→Option Bz):Option Bz:=
 bif decide (x1.2.2.2.2.1<x1.2.2.2.1) then
  Option.bind (idx x1.2.2.1 x1.2.2.2.2.1) fun y2=>
  Option.bind (jq y2) fun r3=>
  bif r3.1 != 0 then
   some (Sum.inl ((0,0),1,()))
  else
   again (x1.1,if y2.2>x1.2.1 then y2.2 else x1.2.1,x1.2.2.1,x1.2.2.2.1,w64 (x1.2.2.2.2.1+1),x1.2.2.2.2.2.1,x1.2.2.2.2.2.2.1,())
 else
  some (Sum.inr (x1.1,x1.2.1,x1.2.2.2.2.2.1,x1.2.2.2.2.2.2.1,()))
abbrev zl:Type:=Int×(List ai)×Int×Int×Int×Int×Bool×(List Int)×Unit
abbrev zk:Type:=((ai×Int×Unit) ⊕ (Int×Int×Int×Bool×(List Int)×Unit))
def Eg (x1:zl) (again:zl→Option zk):Option zk:=
 bif decide (x1.2.2.2.1<x1.2.2.1) then
  Option.bind (idx x1.2.1 x1.2.2.2.1) fun y2=>
  Option.bind (wV y2 x1.1) fun r3=>
  Option.bind (C6 (x1.2.2.2.2.2.2.1,x1.2.2.2.2.2.2.2.1) r3.1) fun r4=>
  again (x1.1,x1.2.1,x1.2.2.1,w64 (x1.2.2.2.1+1),x1.2.2.2.2.1,x1.2.2.2.2.2.1,r4.1.1,r4.1.2,())
 else
  some (Sum.inr (x1.1,x1.2.2.2.2.1,x1.2.2.2.2.2.1,x1.2.2.2.2.2.2.1,x1.2.2.2.2.2.2.2.1,()))
def K9 (a0:List ai):Option (ai×Int×Unit):=
 bif decide (((List.length a0:Int))>1000) then
  some ((0,0),2,())
 else
  aR (β:=(ai×Int×Unit)) (γ:=((List ai)×Int×Int×Int×Unit)) (
   iter (X:=BA) (β:=Bz) (List.length a0+(Int.natAbs (0:Int)+(List.length a0+(Int.natAbs ((List.length a0:Int))+(Int.natAbs (0:Int)+(Int.natAbs (0:Int)+(Int.natAbs (0:Int)+2))))))) (a0,0,a0,(List.length a0:Int),0,0,0,()) (GK)) fun v4=>
  aR (β:=(ai×Int×Unit)) (γ:=(Int×Int×Int×Bool×(List Int)×Unit)) (
   iter (X:=zl) (β:=zk) (v4.2.1.natAbs+(v4.1.length+(Int.natAbs ((v4.1.length:Int))+(Int.natAbs (0:Int)+(v4.2.2.1.natAbs+(v4.2.2.2.1.natAbs+(List.length ([]:List Int)+2))))))) (v4.2.1,v4.1,(v4.1.length:Int),0,v4.2.2.1,v4.2.2.2.1,false,[],()) (Eg)) fun v9=>
  Option.bind (Eh (v9.2.2.2.1,v9.2.2.2.2.1) v9.1) fun r10=>
  some (r10.1,r10.2.1,())
abbrev sO:Type:=(List ah)×Int×(List ah)×Int×Int×(List UInt8)×(List UInt8)×(List UInt8)×Int×Int×Unit
abbrev sN:Type:=((((List ah)×Unit) ⊕ ((List ah)×Unit)) ⊕ ((List ah)×Int×(List ah)×Int×Int×(List UInt8)×(List UInt8)×(List UInt8)×Int×Int×Unit))
noncomputable def oT (x1:sO) (again:sO→Option sN):Option sN:=
 Option.bind (
  bif decide (x1.2.1<((x1.1.length:Int))) then
   chk (decide (0≤x1.2.1)&&decide (x1.2.1<(x1.1.length:Int))) <|
   Option.bind (x1.1[x1.2.1.toNat]?) fun y2=>
   Option.bind (fZ y2 (x1.2.2.2.2.2.1,x1.2.2.2.2.2.2.1,x1.2.2.2.2.2.2.2.1,x1.2.2.2.2.2.2.2.2.1,x1.2.2.2.2.2.2.2.2.2.1)) fun r3=>
   some (decide (r3.1<0),())
  else
   some (false,())) fun v4=>
 bif v4.1 then
  again (x1.1,w64 (x1.2.1+1),x1.2.2.1,x1.2.2.2.1,x1.2.2.2.2.1,x1.2.2.2.2.2.1,x1.2.2.2.2.2.2.1,x1.2.2.2.2.2.2.2.1,x1.2.2.2.2.2.2.2.2.1,x1.2.2.2.2.2.2.2.2.2.1,())
 else
  some (Sum.inr (x1.1,x1.2.1,x1.2.2.1,x1.2.2.2.1,x1.2.2.2.2.1,x1.2.2.2.2.2.1,x1.2.2.2.2.2.2.1,x1.2.2.2.2.2.2.2.1,x1.2.2.2.2.2.2.2.2.1,x1.2.2.2.2.2.2.2.2.2.1,()))
abbrev fQ:Type:=(List ah)×(List ah)×Int×Int×Unit
abbrev fP:Type:=(((List ah)×Unit) ⊕ ((List ah)×Unit))
noncomputable def eN (x1:fQ) (again:fQ→Option fP):Option fP:=
 bif decide (x1.2.2.2.1<x1.2.2.1) then
  Option.bind (idx x1.2.1 x1.2.2.2.1) fun y2=>
  aR (β:=(((List ah)×Unit) ⊕ ((List ah)×Unit))) (γ:=((List ah)×Int×(List ah)×Int×Int×(List UInt8)×(List UInt8)×(List UInt8)×Int×Int×Unit)) (
   iter (X:=sO) (β:=sN) (x1.1.length+(Int.natAbs (0:Int)+(x1.2.1.length+(x1.2.2.1.natAbs+(x1.2.2.2.1.natAbs+(y2.1.length+(y2.2.1.length+(y2.2.2.1.length+(y2.2.2.2.1.natAbs+(y2.2.2.2.2.natAbs+2)))))))))) (x1.1,0,x1.2.1,x1.2.2.1,x1.2.2.2.1,y2.1,y2.2.1,y2.2.2.1,y2.2.2.2.1,y2.2.2.2.2,()) (oT)) fun v3=>
  bif v3.2.1==((v3.1.length:Int)) then
   Option.bind (dZ v3.1 v3.2.1 [(v3.2.2.2.2.2.1,v3.2.2.2.2.2.2.1,v3.2.2.2.2.2.2.2.1,v3.2.2.2.2.2.2.2.2.1,v3.2.2.2.2.2.2.2.2.2.1)]) fun r4=>
   again (r4.1,v3.2.2.1,v3.2.2.2.1,w64 (v3.2.2.2.2.1+1),())
  else
   chk (decide (0≤v3.2.1)&&decide (v3.2.1<(v3.1.length:Int))) <|
   Option.bind (v3.1[v3.2.1.toNat]?) fun y5=>
   Option.bind (fZ y5 (v3.2.2.2.2.2.1,v3.2.2.2.2.2.2.1,v3.2.2.2.2.2.2.2.1,v3.2.2.2.2.2.2.2.2.1,v3.2.2.2.2.2.2.2.2.2.1)) fun r6=>
   bif decide (r6.1>0) then
    Option.bind (dZ v3.1 v3.2.1 [(v3.2.2.2.2.2.1,v3.2.2.2.2.2.2.1,v3.2.2.2.2.2.2.2.1,v3.2.2.2.2.2.2.2.2.1,v3.2.2.2.2.2.2.2.2.2.1)]) fun r7=>
    again (r7.1,v3.2.2.1,v3.2.2.2.1,w64 (v3.2.2.2.2.1+1),())
   else
    chk (decide (0≤v3.2.1)&&decide (v3.2.1<(v3.1.length:Int))) <|
    Option.bind (v3.1[v3.2.1.toNat]?) fun y8=>
    Option.bind (K9 [y8.2.2.2,(v3.2.2.2.2.2.2.2.2.1,v3.2.2.2.2.2.2.2.2.2.1)]) fun r9=>
    bif r9.2.1 != 0 then
     chk (decide (0≤v3.2.1)&&decide (v3.2.1<(v3.1.length:Int))) <|
     Option.bind (v3.1[v3.2.1.toNat]?) fun y10=>
     again (List.set v3.1 v3.2.1.toNat (y10.1,y10.2.1,y10.2.2.1,(-1),0),v3.2.2.1,v3.2.2.2.1,w64 (v3.2.2.2.2.1+1),())
    else
     chk (decide (0≤v3.2.1)&&decide (v3.2.1<(v3.1.length:Int))) <|
     Option.bind (v3.1[v3.2.1.toNat]?) fun y11=>
     again (List.set v3.1 v3.2.1.toNat (y11.1,y11.2.1,y11.2.2.1,r9.1),v3.2.2.1,v3.2.2.2.1,w64 (v3.2.2.2.2.1+1),())
 else
  some (Sum.inr (x1.1,()))
noncomputable def uZ (a0:List ah) (a1:List ah):Option ((List ah)×Unit):=
 Option.bind (dS a0) fun r1=>
 aR (β:=((List ah)×Unit)) (γ:=((List ah)×Unit)) (
  iter (X:=fQ) (β:=fP) (r1.1.length+(List.length a1+(Int.natAbs ((List.length a1:Int))+(Int.natAbs (0:Int)+2)))) (r1.1,a1,(List.length a1:Int),0,()) (eN)) fun v17=>
 some (v17.1,())
abbrev ru:Type:=(List UInt8)×Int×Int×Int×(List UInt8)×(List UInt8)×Int×(List aa)×(List UInt8)×(List UInt8)×Int×Int×(List ah)×(List UInt8)×(List UInt8)×Int×(List aa)×Unit
abbrev rq:Type:=((an×Int×Unit) ⊕ (Int×(List UInt8)×(List UInt8)×Int×(List aa)×(List UInt8)×(List UInt8)×Int×(List aa)×Unit))
noncomputable def nw (x1:ru) (again:ru→Option rq):Option rq:=
 bif decide (x1.2.2.2.1<x1.2.2.1) then
  chk (decide (0≤x1.2.2.2.1)&&decide (x1.2.2.2.1<(x1.2.2.2.2.2.2.2.2.2.2.2.2.2.2.2.2.1.length:Int))) <|
  Option.bind (x1.2.2.2.2.2.2.2.2.2.2.2.2.2.2.2.2.1[x1.2.2.2.1.toNat]?) fun y2=>
  aR (β:=((an×Int×Unit) ⊕ (Int×(List UInt8)×(List UInt8)×Int×(List aa)×(List UInt8)×(List UInt8)×Int×(List aa)×Unit))) (γ:=((List UInt8)×Int×Int×Int×Int×(List UInt8)×(List UInt8)×Int×(List aa)×(List UInt8)×(List UInt8)×Int×Int×(List ah)×(List UInt8)×(List UInt8)×Int×(List aa)×Unit)) (
   bif y2.2.1==x1.1 then
    chk (decide (0≤x1.2.2.2.1)&&decide (x1.2.2.2.1<(x1.2.2.2.2.2.2.2.2.2.2.2.2.2.2.2.2.1.length:Int))) <|
    Option.bind (x1.2.2.2.2.2.2.2.2.2.2.2.2.2.2.2.2.1[x1.2.2.2.1.toNat]?) fun y3=>
    some (Sum.inr (x1.1,x1.2.1,x1.2.2.2.1,x1.2.2.1,x1.2.2.2.1,x1.2.2.2.2.1,x1.2.2.2.2.2.1,x1.2.2.2.2.2.2.1,x1.2.2.2.2.2.2.2.1,x1.2.2.2.2.2.2.2.2.1,x1.2.2.2.2.2.2.2.2.2.1,x1.2.2.2.2.2.2.2.2.2.2.1,x1.2.2.2.2.2.2.2.2.2.2.2.1,x1.2.2.2.2.2.2.2.2.2.2.2.2.1,x1.2.2.2.2.2.2.2.2.2.2.2.2.2.1,x1.2.2.2.2.2.2.2.2.2.2.2.2.2.2.1,x1.2.2.2.2.2.2.2.2.2.2.2.2.2.2.2.1,List.set x1.2.2.2.2.2.2.2.2.2.2.2.2.2.2.2.2.1 x1.2.2.2.1.toNat (y3.1,x1.2.2.2.2.2.2.2.2.2.1,y3.2.2),()))
   else
    some (Sum.inr (x1.1,x1.2.1,x1.2.2.2.1,x1.2.2.1,x1.2.2.2.1,x1.2.2.2.2.1,x1.2.2.2.2.2.1,x1.2.2.2.2.2.2.1,x1.2.2.2.2.2.2.2.1,x1.2.2.2.2.2.2.2.2.1,x1.2.2.2.2.2.2.2.2.2.1,x1.2.2.2.2.2.2.2.2.2.2.1,x1.2.2.2.2.2.2.2.2.2.2.2.1,x1.2.2.2.2.2.2.2.2.2.2.2.2.1,x1.2.2.2.2.2.2.2.2.2.2.2.2.2.1,x1.2.2.2.2.2.2.2.2.2.2.2.2.2.2.1,x1.2.2.2.2.2.2.2.2.2.2.2.2.2.2.2.1,x1.2.2.2.2.2.2.2.2.2.2.2.2.2.2.2.2.1,()))) fun v4=>
  Option.bind (
   bif !(v4.2.2.2.2.2.2.2.2.2.2.1==[]) then
    chk (decide (0≤v4.2.2.1)&&decide (v4.2.2.1<(v4.2.2.2.2.2.2.2.2.2.2.2.2.2.2.2.2.2.1.length:Int))) <|
    Option.bind (v4.2.2.2.2.2.2.2.2.2.2.2.2.2.2.2.2.2.1[v4.2.2.1.toNat]?) fun y5=>
    some (y5.1==v4.2.2.2.2.2.2.2.2.2.2.1,())
   else
    some (false,())) fun v6=>
  bif v6.1 then
   chk (decide (0≤v4.2.2.1)&&decide (v4.2.2.1<(v4.2.2.2.2.2.2.2.2.2.2.2.2.2.2.2.2.2.1.length:Int))) <|
   Option.bind (v4.2.2.2.2.2.2.2.2.2.2.2.2.2.2.2.2.2.1[v4.2.2.1.toNat]?) fun y7=>
   Option.bind (uZ y7.2.2.2 v4.2.2.2.2.2.2.2.2.2.2.2.2.2.1) fun r8=>
   chk (decide (0≤v4.2.2.1)&&decide (v4.2.2.1<(v4.2.2.2.2.2.2.2.2.2.2.2.2.2.2.2.2.2.1.length:Int))) <|
   Option.bind (v4.2.2.2.2.2.2.2.2.2.2.2.2.2.2.2.2.2.1[v4.2.2.1.toNat]?) fun y9=>
   again (v4.1,v4.2.1,v4.2.2.2.1,w64 (v4.2.2.2.2.1+1),v4.2.2.2.2.2.1,v4.2.2.2.2.2.2.1,v4.2.2.2.2.2.2.2.1,v4.2.2.2.2.2.2.2.2.1,v4.2.2.2.2.2.2.2.2.2.1,v4.2.2.2.2.2.2.2.2.2.2.1,v4.2.2.2.2.2.2.2.2.2.2.2.1,v4.2.2.2.2.2.2.2.2.2.2.2.2.1,v4.2.2.2.2.2.2.2.2.2.2.2.2.2.1,v4.2.2.2.2.2.2.2.2.2.2.2.2.2.2.1,v4.2.2.2.2.2.2.2.2.2.2.2.2.2.2.2.1,v4.2.2.2.2.2.2.2.2.2.2.2.2.2.2.2.2.1,List.set v4.2.2.2.2.2.2.2.2.2.2.2.2.2.2.2.2.2.1 v4.2.2.1.toNat (y9.1,y9.2.1,y9.2.2.1,r8.1),())
  else
   again (v4.1,v4.2.1,v4.2.2.2.1,w64 (v4.2.2.2.2.1+1),v4.2.2.2.2.2.1,v4.2.2.2.2.2.2.1,v4.2.2.2.2.2.2.2.1,v4.2.2.2.2.2.2.2.2.1,v4.2.2.2.2.2.2.2.2.2.1,v4.2.2.2.2.2.2.2.2.2.2.1,v4.2.2.2.2.2.2.2.2.2.2.2.1,v4.2.2.2.2.2.2.2.2.2.2.2.2.1,v4.2.2.2.2.2.2.2.2.2.2.2.2.2.1,v4.2.2.2.2.2.2.2.2.2.2.2.2.2.2.1,v4.2.2.2.2.2.2.2.2.2.2.2.2.2.2.2.1,v4.2.2.2.2.2.2.2.2.2.2.2.2.2.2.2.2.1,v4.2.2.2.2.2.2.2.2.2.2.2.2.2.2.2.2.2.1,())
 else
  some (Sum.inr (x1.2.1,x1.2.2.2.2.1,x1.2.2.2.2.2.1,x1.2.2.2.2.2.2.1,x1.2.2.2.2.2.2.2.1,x1.2.2.2.2.2.2.2.2.2.2.2.2.2.1,x1.2.2.2.2.2.2.2.2.2.2.2.2.2.2.1,x1.2.2.2.2.2.2.2.2.2.2.2.2.2.2.2.1,x1.2.2.2.2.2.2.2.2.2.2.2.2.2.2.2.2.1,()))
noncomputable def zf (a0:an) (a1:List UInt8):Option (an×Int×Unit):=
 Option.bind (de a0) fun r1=>
 bif r1.1 != 0 then
  some (([],[],0,[]),r1.1,())
 else
  Option.bind (eG a0.2.2.2 a1) fun r2=>
  bif decide (r2.1<0) then
   some (([],[],0,[]),9,())
  else
   Option.bind (idx a0.2.2.2 r2.1) fun y3=>
   Option.bind (
    bif y3.2.1==[] then
     some (decide (((y3.2.2.2.length:Int))>0),())
    else
     some (false,())) fun v4=>
   bif v4.1 then
    some (([],[],0,[]),12,())
   else
    chk (decide (a0.2.2.2.length*72≤140737488355328)&&decide (a0.2.2.2.length≤maxLen)) <|
    aR (β:=(an×Int×Unit)) (γ:=(Int×(List UInt8)×(List UInt8)×Int×(List aa)×(List UInt8)×(List UInt8)×Int×(List aa)×Unit)) (
     iter (X:=ru) (β:=rq) (List.length a1+(r2.1.natAbs+(Int.natAbs ((a0.2.2.2.length:Int))+(Int.natAbs (0:Int)+(List.length ([]:List UInt8)+(List.length ([]:List UInt8)+(Int.natAbs (0:Int)+(List.length ([]:List aa)+(y3.1.length+(y3.2.1.length+(y3.2.2.1.1.natAbs+(y3.2.2.1.2.natAbs+(y3.2.2.2.length+(a0.1.length+(a0.2.1.length+(a0.2.2.1.natAbs+(a0.2.2.2.length+2))))))))))))))))) (a1,r2.1,(a0.2.2.2.length:Int),0,[],[],0,[],y3.1,y3.2.1,y3.2.2.1.1,y3.2.2.1.2,y3.2.2.2,a0.1,a0.2.1,a0.2.2.1,a0.2.2.2,()) (nw)) fun v14=>
    Option.bind (dF v14.2.2.2.2.2.2.2.2.1 v14.1 (w64 (v14.1+1))) fun r15=>
    Option.bind (de (v14.2.2.2.2.2.1,v14.2.2.2.2.2.2.1,v14.2.2.2.2.2.2.2.1,r15.1)) fun r16=>
    bif r16.1 != 0 then
     some (([],[],0,[]),r16.1,())
    else
     some ((v14.2.2.2.2.2.1,v14.2.2.2.2.2.2.1,v14.2.2.2.2.2.2.2.1,r15.1),0,())
abbrev fh:Type:=(List (List aa))×Int×(List (List aa))×Int×Int×Unit
abbrev ff:Type:=(((List aa)×Unit) ⊕ ((List (List aa))×Int×Unit))
def iW (x1:fh) (again:fh→Option ff):Option ff:=
 bif decide (x1.2.2.2.2.1<x1.2.2.2.1) then
  Option.bind (idx x1.2.2.1 x1.2.2.2.2.1) fun y2=>
  bif decide ((w64 (x1.2.1+((List.length y2:Int))))<0) then
   none
  else
   again (x1.1,w64 (x1.2.1+((List.length y2:Int))),x1.2.2.1,x1.2.2.2.1,w64 (x1.2.2.2.2.1+1),())
 else
  some (Sum.inr (x1.1,x1.2.1,()))
abbrev eW:Type:=(List aa)×(List (List aa))×Int×Int×Unit
abbrev eV:Type:=(((List aa)×Unit) ⊕ ((List aa)×Unit))
def iG (x1:eW) (again:eW→Option eV):Option eV:=
 bif decide (x1.2.2.2.1<x1.2.2.1) then
  Option.bind (idx x1.2.1 x1.2.2.2.1) fun y2=>
  chk (decide (((x1.1.length)+(List.length y2))*72≤140737488355328)&&decide ((x1.1.length)+(List.length y2)≤maxLen)) <|
  again (x1.1++y2,x1.2.1,x1.2.2.1,w64 (x1.2.2.2.1+1),())
 else
  some (Sum.inr (x1.1,()))
def gR (a0:List (List aa)):Option ((List aa)×Unit):=
 aR (β:=((List aa)×Unit)) (γ:=((List (List aa))×Int×Unit)) (
  iter (X:=fh) (β:=ff) (List.length a0+(Int.natAbs (0:Int)+(List.length a0+(Int.natAbs ((List.length a0:Int))+(Int.natAbs (0:Int)+2))))) (a0,0,a0,(List.length a0:Int),0,()) (iW)) fun v3=>
 Option.bind (mL [] v3.2.1) fun r4=>
 aR (β:=((List aa)×Unit)) (γ:=((List aa)×Unit)) (
  iter (X:=eW) (β:=eV) (r4.1.length+(v3.1.length+(Int.natAbs ((v3.1.length:Int))+(Int.natAbs (0:Int)+2)))) (r4.1,v3.1,(v3.1.length:Int),0,()) (iG)) fun v7=>
 some (v7.1,())
abbrev oa:Type:=Int×Int×(List UInt8)×(List UInt8)×Int×(List aa)×(List UInt8)×(List UInt8)×Int×(List aa)×(List UInt8)×(List UInt8)×Int×(List aa)×(List an)×Unit
abbrev n9:Type:=((an×Int×Unit) ⊕ ((List UInt8)×(List UInt8)×Int×(List aa)×(List UInt8)×(List UInt8)×Int×(List aa)×(List UInt8)×(List UInt8)×Int×(List aa)×Unit))
noncomputable def tG (x1:oa) (again:oa→Option n9):Option n9:=
 bif decide (x1.2.1<x1.1) then
  chk (decide (0≤x1.2.1)&&decide (x1.2.1<(x1.2.2.2.2.2.2.2.2.2.2.2.2.2.2.1.length:Int))) <|
  Option.bind (x1.2.2.2.2.2.2.2.2.2.2.2.2.2.2.1[x1.2.1.toNat]?) fun y2=>
  Option.bind (cZ y2) fun r3=>
  bif r3.1 != 0 then
   some (Sum.inl (([],[],0,[]),r3.1,()))
  else
   again (x1.1,w64 (x1.2.1+1),x1.2.2.1,x1.2.2.2.1,x1.2.2.2.2.1,x1.2.2.2.2.2.1,x1.2.2.2.2.2.2.1,x1.2.2.2.2.2.2.2.1,x1.2.2.2.2.2.2.2.2.1,x1.2.2.2.2.2.2.2.2.2.1,x1.2.2.2.2.2.2.2.2.2.2.1,x1.2.2.2.2.2.2.2.2.2.2.2.1,x1.2.2.2.2.2.2.2.2.2.2.2.2.1,x1.2.2.2.2.2.2.2.2.2.2.2.2.2.1,x1.2.2.2.2.2.2.2.2.2.2.2.2.2.2.1,())
 else
  some (Sum.inr (x1.2.2.1,x1.2.2.2.1,x1.2.2.2.2.1,x1.2.2.2.2.2.1,x1.2.2.2.2.2.2.1,x1.2.2.2.2.2.2.2.1,x1.2.2.2.2.2.2.2.2.1,x1.2.2.2.2.2.2.2.2.2.1,x1.2.2.2.2.2.2.2.2.2.2.1,x1.2.2.2.2.2.2.2.2.2.2.2.1,x1.2.2.2.2.2.2.2.2.2.2.2.2.1,x1.2.2.2.2.2.2.2.2.2.2.2.2.2.1,()))
abbrev jJ:Type:=(List aa)×Int×Int×(List UInt8)×(List UInt8)×Int×(List aa)×(List UInt8)×(List UInt8)×Int×(List aa)×(List UInt8)×(List UInt8)×Int×(List aa)×Unit
abbrev mS:Type:=((an×Int×Unit) ⊕ ((List UInt8)×(List UInt8)×Int×(List aa)×(List UInt8)×(List UInt8)×Int×(List aa)×(List UInt8)×(List UInt8)×Int×(List aa)×Unit))
noncomputable def mR (x1:jJ) (again:jJ→Option mS):Option mS:=
 bif decide (x1.2.2.1<x1.2.1) then
  Option.bind (idx x1.1 x1.2.2.1) fun y2=>
  Option.bind (b6 (x1.2.2.2.1,x1.2.2.2.2.1,x1.2.2.2.2.2.1,x1.2.2.2.2.2.2.1) y2.1) fun r3=>
  bif r3.2.1 then
   some (Sum.inl (([],[],0,[]),7,()))
  else
   again (x1.1,x1.2.1,w64 (x1.2.2.1+1),x1.2.2.2.1,x1.2.2.2.2.1,x1.2.2.2.2.2.1,x1.2.2.2.2.2.2.1,x1.2.2.2.2.2.2.2.1,x1.2.2.2.2.2.2.2.2.1,x1.2.2.2.2.2.2.2.2.2.1,x1.2.2.2.2.2.2.2.2.2.2.1,x1.2.2.2.2.2.2.2.2.2.2.2.1,x1.2.2.2.2.2.2.2.2.2.2.2.2.1,x1.2.2.2.2.2.2.2.2.2.2.2.2.2.1,x1.2.2.2.2.2.2.2.2.2.2.2.2.2.2.1,())
 else
  some (Sum.inr (x1.2.2.2.1,x1.2.2.2.2.1,x1.2.2.2.2.2.1,x1.2.2.2.2.2.2.1,x1.2.2.2.2.2.2.2.1,x1.2.2.2.2.2.2.2.2.1,x1.2.2.2.2.2.2.2.2.2.1,x1.2.2.2.2.2.2.2.2.2.2.1,x1.2.2.2.2.2.2.2.2.2.2.2.1,x1.2.2.2.2.2.2.2.2.2.2.2.2.1,x1.2.2.2.2.2.2.2.2.2.2.2.2.2.1,x1.2.2.2.2.2.2.2.2.2.2.2.2.2.2.1,()))
noncomputable def sE (a0:an) (a1:an):Option (an×Int×Unit):=
 aR (β:=(an×Int×Unit)) (γ:=((List UInt8)×(List UInt8)×Int×(List aa)×(List UInt8)×(List UInt8)×Int×(List aa)×(List UInt8)×(List UInt8)×Int×(List aa)×Unit)) (
  iter (X:=oa) (β:=n9) (Int.natAbs ((List.length [a0,a1]:Int))+(Int.natAbs (0:Int)+(a0.1.length+(a0.2.1.length+(a0.2.2.1.natAbs+(a0.2.2.2.length+(a1.1.length+(a1.2.1.length+(a1.2.2.1.natAbs+(a1.2.2.2.length+(List.length ([]:List UInt8)+(List.length ([]:List UInt8)+(Int.natAbs (0:Int)+(List.length ([]:List aa)+(List.length ([a0,a1]:List an)+2))))))))))))))) ((List.length [a0,a1]:Int),0,a0.1,a0.2.1,a0.2.2.1,a0.2.2.2,a1.1,a1.2.1,a1.2.2.1,a1.2.2.2,[],[],0,[],[a0,a1],()) (tG)) fun v4=>
 bif !(v4.2.1==v4.2.2.2.2.2.1) then
  some (([],[],0,[]),12,())
 else
  aR (β:=(an×Int×Unit)) (γ:=((List UInt8)×(List UInt8)×Int×(List aa)×(List UInt8)×(List UInt8)×Int×(List aa)×(List UInt8)×(List UInt8)×Int×(List aa)×Unit)) (
   iter (X:=jJ) (β:=mS) (v4.2.2.2.2.2.2.2.1.length+(Int.natAbs ((v4.2.2.2.2.2.2.2.1.length:Int))+(Int.natAbs (0:Int)+(v4.1.length+(v4.2.1.length+(v4.2.2.1.natAbs+(v4.2.2.2.1.length+(v4.2.2.2.2.1.length+(v4.2.2.2.2.2.1.length+(v4.2.2.2.2.2.2.1.natAbs+(v4.2.2.2.2.2.2.2.1.length+(v4.2.2.2.2.2.2.2.2.1.length+(v4.2.2.2.2.2.2.2.2.2.1.length+(v4.2.2.2.2.2.2.2.2.2.2.1.natAbs+(v4.2.2.2.2.2.2.2.2.2.2.2.1.length+2))))))))))))))) (v4.2.2.2.2.2.2.2.1,(v4.2.2.2.2.2.2.2.1.length:Int),0,v4.1,v4.2.1,v4.2.2.1,v4.2.2.2.1,v4.2.2.2.2.1,v4.2.2.2.2.2.1,v4.2.2.2.2.2.2.1,v4.2.2.2.2.2.2.2.1,v4.2.2.2.2.2.2.2.2.1,v4.2.2.2.2.2.2.2.2.2.1,v4.2.2.2.2.2.2.2.2.2.2.1,v4.2.2.2.2.2.2.2.2.2.2.2.1,()) (mR)) fun v8=>
  bif decide ((w64 (((v8.2.2.2.1.length:Int))+((v8.2.2.2.2.2.2.2.1.length:Int))))>500) then
   some (([],[],0,[]),2,())
  else
   Option.bind (gR [v8.2.2.2.1,v8.2.2.2.2.2.2.2.1]) fun r9=>
   Option.bind (dW r9.1) fun r10=>
   Option.bind (jC r10.1 ()) fun r11=>
   some ((v8.1,v8.2.1,v8.2.2.1,r11.1),0,())
abbrev sM:Type:=(List aa)×Int×(List UInt8)×(List UInt8)×Int×Int×(List ah)×Unit
abbrev sL:Type:=(((List aa)×Unit) ⊕ ((List aa)×Int×(List UInt8)×(List UInt8)×Int×Int×(List ah)×Unit))
noncomputable def oS (x1:sM) (again:sM→Option sL):Option sL:=
 Option.bind (
  bif decide (x1.2.1<((x1.1.length:Int))) then
   Option.bind (idx x1.1 x1.2.1) fun y2=>
   some (Op.bytesLess y2.1 x1.2.2.1,())
  else
   some (false,())) fun v3=>
 bif v3.1 then
  again (x1.1,w64 (x1.2.1+1),x1.2.2.1,x1.2.2.2.1,x1.2.2.2.2.1,x1.2.2.2.2.2.1,x1.2.2.2.2.2.2.1,())
 else
  some (Sum.inr (x1.1,x1.2.1,x1.2.2.1,x1.2.2.2.1,x1.2.2.2.2.1,x1.2.2.2.2.2.1,x1.2.2.2.2.2.2.1,()))
noncomputable def zi (a0:List aa) (a1:aa):Option ((List aa)×Unit):=
 aR (β:=((List aa)×Unit)) (γ:=((List aa)×Int×(List UInt8)×(List UInt8)×Int×Int×(List ah)×Unit)) (
  iter (X:=sM) (β:=sL) (List.length a0+(Int.natAbs (0:Int)+(a1.1.length+(a1.2.1.length+(a1.2.2.1.1.natAbs+(a1.2.2.1.2.natAbs+(a1.2.2.2.length+2))))))) (a0,0,a1.1,a1.2.1,a1.2.2.1.1,a1.2.2.1.2,a1.2.2.2,()) (oS)) fun v4=>
 Option.bind (bN v4.1) fun r5=>
 Option.bind (kJ r5.1 v4.2.1 [(v4.2.2.1,v4.2.2.2.1,(v4.2.2.2.2.1,v4.2.2.2.2.2.1),v4.2.2.2.2.2.2.1)]) fun r6=>
 some (r6.1,())
abbrev rm:Type:=(List aa)×Int×Int×(List UInt8)×(List UInt8)×Int×(List aa)×(List UInt8)×(List UInt8)×Int×(List aa)×(List UInt8)×(List UInt8)×Int×(List aa)×Unit
abbrev rj:Type:=((an×Int×Unit) ⊕ ((List UInt8)×(List UInt8)×Int×(List aa)×(List UInt8)×(List UInt8)×Int×(List aa)×Unit))
noncomputable def nv (x1:rm) (again:rm→Option rj):Option rj:=
 bif decide (x1.2.2.1<x1.2.1) then
  Option.bind (idx x1.1 x1.2.2.1) fun y2=>
  Option.bind (eG x1.2.2.2.2.2.2.1 y2.1) fun r3=>
  bif decide (r3.1≥0) then
   some (Sum.inl (([],[],0,[]),7,()))
  else
   Option.bind (zi x1.2.2.2.2.2.2.2.2.2.2.2.2.2.2.1 y2) fun r4=>
   again (x1.1,x1.2.1,w64 (x1.2.2.1+1),x1.2.2.2.1,x1.2.2.2.2.1,x1.2.2.2.2.2.1,x1.2.2.2.2.2.2.1,x1.2.2.2.2.2.2.2.1,x1.2.2.2.2.2.2.2.2.1,x1.2.2.2.2.2.2.2.2.2.1,x1.2.2.2.2.2.2.2.2.2.2.1,x1.2.2.2.2.2.2.2.2.2.2.2.1,x1.2.2.2.2.2.2.2.2.2.2.2.2.1,x1.2.2.2.2.2.2.2.2.2.2.2.2.2.1,r4.1,())
 else
  some (Sum.inr (x1.2.2.2.2.2.2.2.1,x1.2.2.2.2.2.2.2.2.1,x1.2.2.2.2.2.2.2.2.2.1,x1.2.2.2.2.2.2.2.2.2.2.1,x1.2.2.2.2.2.2.2.2.2.2.2.1,x1.2.2.2.2.2.2.2.2.2.2.2.2.1,x1.2.2.2.2.2.2.2.2.2.2.2.2.2.1,x1.2.2.2.2.2.2.2.2.2.2.2.2.2.2.1,()))
noncomputable def ze (a0:an) (a1:an):Option (an×Int×Unit):=
 Option.bind (de a0) fun r1=>
 bif r1.1 != 0 then
  some (([],[],0,[]),r1.1,())
 else
  Option.bind (de a1) fun r2=>
  bif r2.1 != 0 then
   some (([],[],0,[]),r2.1,())
  else
   bif !(a0.2.1==a1.2.1) then
    some (([],[],0,[]),12,())
   else
    aR (β:=(an×Int×Unit)) (γ:=((List UInt8)×(List UInt8)×Int×(List aa)×(List UInt8)×(List UInt8)×Int×(List aa)×Unit)) (
     iter (X:=rm) (β:=rj) (a1.2.2.2.length+(Int.natAbs ((a1.2.2.2.length:Int))+(Int.natAbs (0:Int)+(a0.1.length+(a0.2.1.length+(a0.2.2.1.natAbs+(a0.2.2.2.length+(List.length ([]:List UInt8)+(List.length ([]:List UInt8)+(Int.natAbs (0:Int)+(List.length ([]:List aa)+(a0.1.length+(a0.2.1.length+(a0.2.2.1.natAbs+(a0.2.2.2.length+2))))))))))))))) (a1.2.2.2,(a1.2.2.2.length:Int),0,a0.1,a0.2.1,a0.2.2.1,a0.2.2.2,[],[],0,[],a0.1,a0.2.1,a0.2.2.1,a0.2.2.2,()) (nv)) fun v7=>
    bif decide (((v7.2.2.2.2.2.2.2.1.length:Int))>500) then
     some (([],[],0,[]),2,())
    else
     some ((v7.2.2.2.2.1,v7.2.2.2.2.2.1,v7.2.2.2.2.2.2.1,v7.2.2.2.2.2.2.2.1),0,())
noncomputable def gI (a0:an) (a1:an) (a2:List UInt8) (a3:List UInt8):Option (Bool×Unit):=
 Option.bind (uR a0 a2 a3) fun r1=>
 Option.bind (Bw a0 a2 a3) fun r2=>
 bif r1.2.1 != r2.2.1 then
  some (false,())
 else
  Option.bind (tH r1.1 r2.1) fun r3=>
  bif !r3.1 then
   some (false,())
  else
   Option.bind (sF a0 a2) fun r4=>
   Option.bind (zf a0 a2) fun r5=>
   bif r4.2.1 != r5.2.1 then
    some (false,())
   else
    Option.bind (tH r4.1 r5.1) fun r6=>
    bif !r6.1 then
     some (false,())
    else
     Option.bind (sE a0 a1) fun r7=>
     Option.bind (ze a0 a1) fun r8=>
     Option.bind (
      bif r7.2.1==r8.2.1 then
       Option.bind (tH r7.1 r8.1) fun r9=>
       bif r9.1 then
        Option.bind (Gg) fun r10=>
        some (r10.1,())
       else
        some (false,())
      else
       some (false,())) fun v11=>
     some (v11.1,())
end
end Go.Md
