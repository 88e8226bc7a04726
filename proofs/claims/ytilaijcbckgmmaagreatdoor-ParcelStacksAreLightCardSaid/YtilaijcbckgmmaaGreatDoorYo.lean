/-
  The plain models of the functions that the law reaches, third part. No condition.
-/
import Derived.Test.YtilaijcbckgmmaaGreatDoorYn
import Derived.Test.YtilaijcbckgmmaaGreatDoorYd
set_option linter.all false
namespace Go.Md
open Go.Dn
noncomputable def fM (l:List aa) (_:Unit):Option (List aa×Unit):=F8 (fun _=>true) (fun a b=>Lib.compareBytes a.1 b.1) l
noncomputable section
abbrev fm:Type:=(List UInt8)×(List UInt8)×ai
abbrev aI:Ty:=(.st (.pair tI aX))
abbrev ah:Type:=Int×ay
def qU (a0:aa):Option (Bool×Unit):=
 some (!(a0.2.1==[]),())
def xM (a0:aa) (a1:List UInt8):Option (Bool×Unit):=
 some (a0.1==a1,())
abbrev dW:Type:=(List aa)×Unit×Int×Int×Unit
abbrev dV:Type:=((Int×Unit) ⊕ Unit)
def dU (x1:dW) (again:dW→Option dV):Option dV:=
 bif decide (x1.2.2.2.1<x1.2.2.1) then
  Option.bind (idx x1.1 x1.2.2.2.1) fun y2=>
  Option.bind (qU y2) fun r3=>
  bif r3.1 then
   some (Sum.inl (x1.2.2.2.1,()))
  else
   again (x1.1,x1.2.1,x1.2.2.1,w64 (x1.2.2.2.1+1),())
 else
  some (Sum.inr ())
def kC (a0:List aa) (a1:Unit):Option (Int×Unit):=
 aO (β:=(Int×Unit)) (γ:=Unit) (
  iter (X:=dW) (β:=dV) (List.length a0+(Int.natAbs ((List.length a0:Int))+(Int.natAbs (0:Int)+2))) (a0,a1,(List.length a0:Int),0,()) (dU)) fun _=>
 some ((-1),())
abbrev dx:Type:=(List aa)×(List UInt8)×Int×Int×Unit
abbrev dw:Type:=((Int×Unit) ⊕ Unit)
def dn (x1:dx) (again:dx→Option dw):Option dw:=
 bif decide (x1.2.2.2.1<x1.2.2.1) then
  Option.bind (idx x1.1 x1.2.2.2.1) fun y2=>
  Option.bind (xM y2 x1.2.1) fun r3=>
  bif r3.1 then
   some (Sum.inl (x1.2.2.2.1,()))
  else
   again (x1.1,x1.2.1,x1.2.2.1,w64 (x1.2.2.2.1+1),())
 else
  some (Sum.inr ())
def jw (a0:List aa) (a1:List UInt8):Option (Int×Unit):=
 aO (β:=(Int×Unit)) (γ:=Unit) (
  iter (X:=dx) (β:=dw) (List.length a0+(Int.natAbs ((List.length a0:Int))+(Int.natAbs (0:Int)+2))) (a0,a1,(List.length a0:Int),0,()) (dn)) fun _=>
 some ((-1),())
def fW (a0:List aa) (a1:Unit):Option (Bool×Unit):=
 Option.bind (kC a0 a1) fun r1=>
 some (decide (r1.1≥0),())
def fI (a0:List aa) (a1:List UInt8):Option (Bool×Unit):=
 Option.bind (jw a0 a1) fun r1=>
 some (decide (r1.1≥0),())
def jk (a0:List aa) (a1:List fm) (a2:ai):Option (Int×Unit):=
 Option.bind (gu ([97],[97],1,a0)) fun r1=>
 bif r1.1 != 0 then
  some (r1.1,())
 else
  Option.bind (fW a0 ()) fun r2=>
  bif r2.1 then
   some (3,())
  else
   Option.bind (ku a1) fun r3=>
   bif r3.1 != 0 then
    some (r3.1,())
   else
    Option.bind (gP a2) fun r4=>
    some (r4.1,())
def jf (a0:ah) (a1:ah):Option (Int×Unit):=
 Option.bind (fS a1.2 a0.2) fun r1=>
 some (r1.1,())
abbrev cC:Type:=Int×Int×Unit×Int×Int×(List ah)×Unit
abbrev cA:Type:=((((List ah)×Unit) ⊕ ((List ah)×Unit)) ⊕ (Int×Int×Unit×Int×(List ah)×Unit))
def cw (x1:cC) (again:cC→Option cA):Option cA:=
 bif decide (x1.2.2.2.2.1>x1.1) then
  chk (decide (0≤x1.2.2.2.2.1)&&decide (x1.2.2.2.2.1<(x1.2.2.2.2.2.1.length:Int))) <|
  Option.bind (x1.2.2.2.2.2.1[x1.2.2.2.2.1.toNat]?) fun y2=>
  chk (decide (0≤(w64 (x1.2.2.2.2.1 - 1)))&&decide ((w64 (x1.2.2.2.2.1 - 1))<(x1.2.2.2.2.2.1.length:Int))) <|
  Option.bind (x1.2.2.2.2.2.1[(w64 (x1.2.2.2.2.1 - 1)).toNat]?) fun y3=>
  Option.bind (jf y2 y3) fun r4=>
  bif decide (r4.1<0) then
   chk (decide (0≤(w64 (x1.2.2.2.2.1 - 1)))&&decide ((w64 (x1.2.2.2.2.1 - 1))<(x1.2.2.2.2.2.1.length:Int))) <|
   Option.bind (x1.2.2.2.2.2.1[(w64 (x1.2.2.2.2.1 - 1)).toNat]?) fun y5=>
   chk (decide (0≤x1.2.2.2.2.1)&&decide (x1.2.2.2.2.1<(x1.2.2.2.2.2.1.length:Int))) <|
   Option.bind (x1.2.2.2.2.2.1[x1.2.2.2.2.1.toNat]?) fun y6=>
   chk (decide (0≤x1.2.2.2.2.1)&&decide (x1.2.2.2.2.1<(x1.2.2.2.2.2.1.length:Int))) <|
   Option.bind (x1.2.2.2.2.2.1[x1.2.2.2.2.1.toNat]?) fun _=>
   chk (decide (0≤(w64 (x1.2.2.2.2.1 - 1)))&&decide ((w64 (x1.2.2.2.2.1 - 1))<(List.length (List.set x1.2.2.2.2.2.1 x1.2.2.2.2.1.toNat y5):Int))) <|
   Option.bind ((List.set x1.2.2.2.2.2.1 x1.2.2.2.2.1.toNat y5)[(w64 (x1.2.2.2.2.1 - 1)).toNat]?) fun _=>
   again (x1.1,x1.2.1,x1.2.2.1,x1.2.2.2.1,w64 (x1.2.2.2.2.1 - 1),List.set (List.set x1.2.2.2.2.2.1 x1.2.2.2.2.1.toNat y5) (w64 (x1.2.2.2.2.1 - 1)).toNat y6,())
  else
   some (Sum.inr (x1.1,x1.2.1,x1.2.2.1,x1.2.2.2.1,x1.2.2.2.2.2.1,()))
 else
  some (Sum.inr (x1.1,x1.2.1,x1.2.2.1,x1.2.2.2.1,x1.2.2.2.2.2.1,()))
abbrev cB:Type:=Int×Int×Unit×Int×(List ah)×Unit
abbrev cz:Type:=(((List ah)×Unit) ⊕ ((List ah)×Unit))
def bR (x1:cB) (again:cB→Option cz):Option cz:=
 bif decide (x1.2.2.2.1<x1.2.1) then
  aO (β:=(((List ah)×Unit) ⊕ ((List ah)×Unit))) (γ:=(Int×Int×Unit×Int×(List ah)×Unit)) (
   iter (X:=cC) (β:=cA) (x1.1.natAbs+(x1.2.1.natAbs+(x1.2.2.2.1.natAbs+(x1.2.2.2.1.natAbs+(x1.2.2.2.2.1.length+2))))) (x1.1,x1.2.1,x1.2.2.1,x1.2.2.2.1,x1.2.2.2.1,x1.2.2.2.2.1,()) (cw)) fun v2=>
  again (v2.1,v2.2.1,v2.2.2.1,w64 (v2.2.2.2.1+1),v2.2.2.2.2.1,())
 else
  some (Sum.inr (x1.2.2.2.2.1,()))
def bZ (a0:List ah) (a1:Int) (a2:Int) (a3:Unit):Option ((List ah)×Unit):=
 aO (β:=((List ah)×Unit)) (γ:=((List ah)×Unit)) (
  iter (X:=cB) (β:=cz) (Int.natAbs a1+(Int.natAbs a2+(Int.natAbs (w64 (a1+1))+(List.length a0+2)))) (a1,a2,a3,w64 (a1+1),a0,()) (bR)) fun v11=>
 some (v11.1,())
abbrev cV:Type:=Int×Int×Int×Int×(List ah)×Unit
abbrev cU:Type:=(((List ah)×Unit) ⊕ ((List ah)×Unit))
def cT (x1:cV) (again:cV→Option cU):Option cU:=
 bif decide (x1.2.2.2.1<x1.2.2.1) then
  chk (decide (0≤(w64 (x1.2.1+x1.2.2.2.1)))&&decide ((w64 (x1.2.1+x1.2.2.2.1))<(x1.2.2.2.2.1.length:Int))) <|
  Option.bind (x1.2.2.2.2.1[(w64 (x1.2.1+x1.2.2.2.1)).toNat]?) fun y2=>
  chk (decide (0≤(w64 (x1.1+x1.2.2.2.1)))&&decide ((w64 (x1.1+x1.2.2.2.1))<(x1.2.2.2.2.1.length:Int))) <|
  Option.bind (x1.2.2.2.2.1[(w64 (x1.1+x1.2.2.2.1)).toNat]?) fun y3=>
  chk (decide (0≤(w64 (x1.1+x1.2.2.2.1)))&&decide ((w64 (x1.1+x1.2.2.2.1))<(x1.2.2.2.2.1.length:Int))) <|
  Option.bind (x1.2.2.2.2.1[(w64 (x1.1+x1.2.2.2.1)).toNat]?) fun _=>
  chk (decide (0≤(w64 (x1.2.1+x1.2.2.2.1)))&&decide ((w64 (x1.2.1+x1.2.2.2.1))<(List.length (List.set x1.2.2.2.2.1 (w64 (x1.1+x1.2.2.2.1)).toNat y2):Int))) <|
  Option.bind ((List.set x1.2.2.2.2.1 (w64 (x1.1+x1.2.2.2.1)).toNat y2)[(w64 (x1.2.1+x1.2.2.2.1)).toNat]?) fun _=>
  again (x1.1,x1.2.1,x1.2.2.1,w64 (x1.2.2.2.1+1),List.set (List.set x1.2.2.2.2.1 (w64 (x1.1+x1.2.2.2.1)).toNat y2) (w64 (x1.2.1+x1.2.2.2.1)).toNat y3,())
 else
  some (Sum.inr (x1.2.2.2.2.1,()))
def bT (a0:List ah) (a1:Int) (a2:Int) (a3:Int) (_a4:Unit):Option ((List ah)×Unit):=
 aO (β:=((List ah)×Unit)) (γ:=((List ah)×Unit)) (
  iter (X:=cV) (β:=cU) (Int.natAbs a1+(Int.natAbs a2+(Int.natAbs a3+(Int.natAbs (0:Int)+(List.length a0+2))))) (a1,a2,a3,0,a0,()) (cT)) fun v6=>
 some (v6.1,())
abbrev dZ:Type:=Int×Unit×Int×Int×(List ah)×Unit
abbrev dY:Type:=(((List ah)×Unit) ⊕ (Int×Unit×Int×(List ah)×Unit))
def dX (x1:dZ) (again:dZ→Option dY):Option dY:=
 bif x1.2.2.1 != x1.2.2.2.1 then
  bif decide (x1.2.2.1>x1.2.2.2.1) then
   Option.bind (bT x1.2.2.2.2.1 (w64 (x1.1 - x1.2.2.1)) x1.1 x1.2.2.2.1 x1.2.1) fun r2=>
   again (x1.1,x1.2.1,w64 (x1.2.2.1 - x1.2.2.2.1),x1.2.2.2.1,r2.1,())
  else
   Option.bind (bT x1.2.2.2.2.1 (w64 (x1.1 - x1.2.2.1)) (w64 ((w64 (x1.1+x1.2.2.2.1)) - x1.2.2.1)) x1.2.2.1 x1.2.1) fun r3=>
   again (x1.1,x1.2.1,x1.2.2.1,w64 (x1.2.2.2.1 - x1.2.2.1),r3.1,())
 else
  some (Sum.inr (x1.1,x1.2.1,x1.2.2.1,x1.2.2.2.2.1,()))
def fA (a0:List ah) (a1:Int) (a2:Int) (a3:Int) (a4:Unit):Option ((List ah)×Unit):=
 aO (β:=((List ah)×Unit)) (γ:=(Int×Unit×Int×(List ah)×Unit)) (
  iter (X:=dZ) (β:=dY) (Int.natAbs a2+(Int.natAbs (w64 (a2 - a1))+(Int.natAbs (w64 (a3 - a2))+(List.length a0+2)))) (a2,a4,w64 (a2 - a1),w64 (a3 - a2),a0,()) (dX)) fun v4=>
 Option.bind (bT v4.2.2.2.1 (w64 (v4.1 - v4.2.2.1)) v4.1 v4.2.2.1 v4.2.1) fun r5=>
 some (r5.1,())
abbrev dD:Type:=Int×Unit×Int×Int×(List ah)×Unit
abbrev dA:Type:=(((List ah)×Unit) ⊕ (Int×Int×(List ah)×Unit))
def cg (x1:dD) (again:dD→Option dA):Option dA:=
 bif decide (x1.2.2.1<x1.2.2.2.1) then
  let n2:Int:=w64 (Int.fdiv (bK (w64 (x1.2.2.1+x1.2.2.2.1))) (2 ^ 1))
  chk (decide (0≤n2)&&decide (n2<(x1.2.2.2.2.1.length:Int))) <|
  Option.bind (x1.2.2.2.2.1[n2.toNat]?) fun y3=>
  chk (decide (0≤x1.1)&&decide (x1.1<(x1.2.2.2.2.1.length:Int))) <|
  Option.bind (x1.2.2.2.2.1[x1.1.toNat]?) fun y4=>
  Option.bind (jf y3 y4) fun r5=>
  bif decide (r5.1<0) then
   again (x1.1,x1.2.1,w64 (n2+1),x1.2.2.2.1,x1.2.2.2.2.1,())
  else
   again (x1.1,x1.2.1,x1.2.2.1,n2,x1.2.2.2.2.1,())
 else
  some (Sum.inr (x1.1,x1.2.2.1,x1.2.2.2.2.1,()))
abbrev dF:Type:=Int×Int×(List ah)×Unit
abbrev dB:Type:=(((List ah)×Unit) ⊕ ((List ah)×Unit))
def dz (x1:dF) (again:dF→Option dB):Option dB:=
 bif decide (x1.2.1<(w64 (x1.1 - 1))) then
  chk (decide (0≤(w64 (x1.2.1+1)))&&decide ((w64 (x1.2.1+1))<(x1.2.2.1.length:Int))) <|
  Option.bind (x1.2.2.1[(w64 (x1.2.1+1)).toNat]?) fun y2=>
  chk (decide (0≤x1.2.1)&&decide (x1.2.1<(x1.2.2.1.length:Int))) <|
  Option.bind (x1.2.2.1[x1.2.1.toNat]?) fun y3=>
  chk (decide (0≤x1.2.1)&&decide (x1.2.1<(x1.2.2.1.length:Int))) <|
  Option.bind (x1.2.2.1[x1.2.1.toNat]?) fun _=>
  chk (decide (0≤(w64 (x1.2.1+1)))&&decide ((w64 (x1.2.1+1))<(List.length (List.set x1.2.2.1 x1.2.1.toNat y2):Int))) <|
  Option.bind ((List.set x1.2.2.1 x1.2.1.toNat y2)[(w64 (x1.2.1+1)).toNat]?) fun _=>
  again (x1.1,w64 (x1.2.1+1),List.set (List.set x1.2.2.1 x1.2.1.toNat y2) (w64 (x1.2.1+1)).toNat y3,())
 else
  some (Sum.inr (x1.2.2.1,()))
abbrev de:Type:=Int×Unit×Int×Int×(List ah)×Unit
abbrev c8:Type:=(((List ah)×Unit) ⊕ (Int×Int×(List ah)×Unit))
def b5 (x1:de) (again:de→Option c8):Option c8:=
 bif decide (x1.2.2.1<x1.2.2.2.1) then
  let n2:Int:=w64 (Int.fdiv (bK (w64 (x1.2.2.1+x1.2.2.2.1))) (2 ^ 1))
  chk (decide (0≤x1.1)&&decide (x1.1<(x1.2.2.2.2.1.length:Int))) <|
  Option.bind (x1.2.2.2.2.1[x1.1.toNat]?) fun y3=>
  chk (decide (0≤n2)&&decide (n2<(x1.2.2.2.2.1.length:Int))) <|
  Option.bind (x1.2.2.2.2.1[n2.toNat]?) fun y4=>
  Option.bind (jf y3 y4) fun r5=>
  bif !(decide (r5.1<0)) then
   again (x1.1,x1.2.1,w64 (n2+1),x1.2.2.2.1,x1.2.2.2.2.1,())
  else
   again (x1.1,x1.2.1,x1.2.2.1,n2,x1.2.2.2.2.1,())
 else
  some (Sum.inr (x1.1,x1.2.2.1,x1.2.2.2.2.1,()))
abbrev dh:Type:=Int×Int×(List ah)×Unit
abbrev c9:Type:=(((List ah)×Unit) ⊕ ((List ah)×Unit))
def cZ (x1:dh) (again:dh→Option c9):Option c9:=
 bif decide (x1.2.1>x1.1) then
  chk (decide (0≤(w64 (x1.2.1 - 1)))&&decide ((w64 (x1.2.1 - 1))<(x1.2.2.1.length:Int))) <|
  Option.bind (x1.2.2.1[(w64 (x1.2.1 - 1)).toNat]?) fun y2=>
  chk (decide (0≤x1.2.1)&&decide (x1.2.1<(x1.2.2.1.length:Int))) <|
  Option.bind (x1.2.2.1[x1.2.1.toNat]?) fun y3=>
  chk (decide (0≤x1.2.1)&&decide (x1.2.1<(x1.2.2.1.length:Int))) <|
  Option.bind (x1.2.2.1[x1.2.1.toNat]?) fun _=>
  chk (decide (0≤(w64 (x1.2.1 - 1)))&&decide ((w64 (x1.2.1 - 1))<(List.length (List.set x1.2.2.1 x1.2.1.toNat y2):Int))) <|
  Option.bind ((List.set x1.2.2.1 x1.2.1.toNat y2)[(w64 (x1.2.1 - 1)).toNat]?) fun _=>
  again (x1.1,w64 (x1.2.1 - 1),List.set (List.set x1.2.2.1 x1.2.1.toNat y2) (w64 (x1.2.1 - 1)).toNat y3,())
 else
  some (Sum.inr (x1.2.2.1,()))
abbrev di:Type:=Int×Int×Int×Unit×Int×Int×Int×Int×Int×(List ah)×Unit
abbrev dc:Type:=(((List ah)×Unit) ⊕ (Int×Int×Int×Unit×Int×Int×Int×(List ah)×Unit))
def b6 (x1:di) (again:di→Option dc):Option dc:=
 bif decide (x1.2.2.2.2.2.2.1<x1.2.2.2.2.2.2.2.1) then
  let n2:Int:=w64 (Int.fdiv (bK (w64 (x1.2.2.2.2.2.2.1+x1.2.2.2.2.2.2.2.1))) (2 ^ 1))
  chk (decide (0≤(w64 (x1.2.2.2.2.2.2.2.2.1 - n2)))&&decide ((w64 (x1.2.2.2.2.2.2.2.2.1 - n2))<(x1.2.2.2.2.2.2.2.2.2.1.length:Int))) <|
  Option.bind (x1.2.2.2.2.2.2.2.2.2.1[(w64 (x1.2.2.2.2.2.2.2.2.1 - n2)).toNat]?) fun y3=>
  chk (decide (0≤n2)&&decide (n2<(x1.2.2.2.2.2.2.2.2.2.1.length:Int))) <|
  Option.bind (x1.2.2.2.2.2.2.2.2.2.1[n2.toNat]?) fun y4=>
  Option.bind (jf y3 y4) fun r5=>
  bif !(decide (r5.1<0)) then
   again (x1.1,x1.2.1,x1.2.2.1,x1.2.2.2.1,x1.2.2.2.2.1,x1.2.2.2.2.2.1,w64 (n2+1),x1.2.2.2.2.2.2.2.1,x1.2.2.2.2.2.2.2.2.1,x1.2.2.2.2.2.2.2.2.2.1,())
  else
   again (x1.1,x1.2.1,x1.2.2.1,x1.2.2.2.1,x1.2.2.2.2.1,x1.2.2.2.2.2.1,x1.2.2.2.2.2.2.1,n2,x1.2.2.2.2.2.2.2.2.1,x1.2.2.2.2.2.2.2.2.2.1,())
 else
  some (Sum.inr (x1.1,x1.2.1,x1.2.2.1,x1.2.2.2.1,x1.2.2.2.2.1,x1.2.2.2.2.2.1,x1.2.2.2.2.2.2.1,x1.2.2.2.2.2.2.2.2.2.1,()))
def bH (self:((List ah)×Int×Int×Int×Unit×Unit)→Option ((List ah)×Unit)) (a0:List ah) (a1:Int) (a2:Int) (a3:Int) (a4:Unit):Option ((List ah)×Unit):=
 bif (w64 (a2 - a1))==1 then
  aO (β:=((List ah)×Unit)) (γ:=(Int×Int×(List ah)×Unit)) (
   iter (X:=dD) (β:=dA) (Int.natAbs a1+(Int.natAbs a2+(Int.natAbs a3+(List.length a0+2)))) (a1,a4,a2,a3,a0,()) (cg)) fun v6=>
  aO (β:=((List ah)×Unit)) (γ:=((List ah)×Unit)) (
   iter (X:=dF) (β:=dB) (v6.2.1.natAbs+(v6.1.natAbs+(v6.2.2.1.length+2))) (v6.2.1,v6.1,v6.2.2.1,()) (dz)) fun v12=>
  some (v12.1,())
 else
  bif (w64 (a3 - a2))==1 then
   aO (β:=((List ah)×Unit)) (γ:=(Int×Int×(List ah)×Unit)) (
    iter (X:=de) (β:=c8) (Int.natAbs a2+(Int.natAbs a1+(Int.natAbs a2+(List.length a0+2)))) (a2,a4,a1,a2,a0,()) (b5)) fun v18=>
   aO (β:=((List ah)×Unit)) (γ:=((List ah)×Unit)) (
    iter (X:=dh) (β:=c9) (v18.2.1.natAbs+(v18.1.natAbs+(v18.2.2.1.length+2))) (v18.2.1,v18.1,v18.2.2.1,()) (cZ)) fun v24=>
   some (v24.1,())
  else
   let n25:Int:=w64 (Int.fdiv (bK (w64 (a1+a3))) (2 ^ 1))
   aO (β:=((List ah)×Unit)) (γ:=(Int×Int×Int×Unit×Int×Int×Int×Int×(List ah)×Unit)) (
    bif decide (a2>n25) then
     some (Sum.inr (a1,a2,a3,a4,n25,w64 (n25+a2),w64 ((w64 (n25+a2)) - a3),n25,a0,()))
    else
     some (Sum.inr (a1,a2,a3,a4,n25,w64 (n25+a2),a1,a2,a0,()))) fun v26=>
   aO (β:=((List ah)×Unit)) (γ:=(Int×Int×Int×Unit×Int×Int×Int×(List ah)×Unit)) (
    iter (X:=di) (β:=dc) (v26.1.natAbs+(v26.2.1.natAbs+(v26.2.2.1.natAbs+(v26.2.2.2.2.1.natAbs+(v26.2.2.2.2.2.1.natAbs+(v26.2.2.2.2.2.2.1.natAbs+(v26.2.2.2.2.2.2.2.1.natAbs+(Int.natAbs (w64 (v26.2.2.2.2.2.1 - 1))+(v26.2.2.2.2.2.2.2.2.1.length+2))))))))) (v26.1,v26.2.1,v26.2.2.1,v26.2.2.2.1,v26.2.2.2.2.1,v26.2.2.2.2.2.1,v26.2.2.2.2.2.2.1,v26.2.2.2.2.2.2.2.1,w64 (v26.2.2.2.2.2.1 - 1),v26.2.2.2.2.2.2.2.2.1,()) (b6)) fun v32=>
   bif decide (v32.2.2.2.2.2.2.1<v32.2.1) then
    aO (β:=((List ah)×Unit)) (γ:=(Int×Int×Unit×Int×Int×Int×(List ah)×Unit)) (
     bif decide (v32.2.1<(w64 (v32.2.2.2.2.2.1 - v32.2.2.2.2.2.2.1))) then
      Option.bind (fA v32.2.2.2.2.2.2.2.1 v32.2.2.2.2.2.2.1 v32.2.1 (w64 (v32.2.2.2.2.2.1 - v32.2.2.2.2.2.2.1)) v32.2.2.2.1) fun r33=>
      some (Sum.inr (v32.1,v32.2.2.1,v32.2.2.2.1,v32.2.2.2.2.1,v32.2.2.2.2.2.2.1,w64 (v32.2.2.2.2.2.1 - v32.2.2.2.2.2.2.1),r33.1,()))
     else
      some (Sum.inr (v32.1,v32.2.2.1,v32.2.2.2.1,v32.2.2.2.2.1,v32.2.2.2.2.2.2.1,w64 (v32.2.2.2.2.2.1 - v32.2.2.2.2.2.2.1),v32.2.2.2.2.2.2.2.1,()))) fun v34=>
    bif decide (v34.1<v34.2.2.2.2.1) then
     aO (β:=((List ah)×Unit)) (γ:=(Int×Unit×Int×Int×(List ah)×Unit)) (
      bif decide (v34.2.2.2.2.1<v34.2.2.2.1) then
       Option.bind (self (v34.2.2.2.2.2.2.1,v34.1,v34.2.2.2.2.1,v34.2.2.2.1,v34.2.2.1,())) fun r35=>
       some (Sum.inr (v34.2.1,v34.2.2.1,v34.2.2.2.1,v34.2.2.2.2.2.1,r35.1,()))
      else
       some (Sum.inr (v34.2.1,v34.2.2.1,v34.2.2.2.1,v34.2.2.2.2.2.1,v34.2.2.2.2.2.2.1,()))) fun v36=>
     bif decide (v36.2.2.1<v36.2.2.2.1) then
      bif decide (v36.2.2.2.1<v36.1) then
       Option.bind (self (v36.2.2.2.2.1,v36.2.2.1,v36.2.2.2.1,v36.1,v36.2.1,())) fun r37=>
       some (r37.1,())
      else
       some (v36.2.2.2.2.1,())
     else
      some (v36.2.2.2.2.1,())
    else
     aO (β:=((List ah)×Unit)) (γ:=(Int×Unit×Int×Int×(List ah)×Unit)) (
      some (Sum.inr (v34.2.1,v34.2.2.1,v34.2.2.2.1,v34.2.2.2.2.2.1,v34.2.2.2.2.2.2.1,()))) fun v38=>
     bif decide (v38.2.2.1<v38.2.2.2.1) then
      bif decide (v38.2.2.2.1<v38.1) then
       Option.bind (self (v38.2.2.2.2.1,v38.2.2.1,v38.2.2.2.1,v38.1,v38.2.1,())) fun r39=>
       some (r39.1,())
      else
       some (v38.2.2.2.2.1,())
     else
      some (v38.2.2.2.2.1,())
   else
    aO (β:=((List ah)×Unit)) (γ:=(Int×Int×Unit×Int×Int×Int×(List ah)×Unit)) (
     some (Sum.inr (v32.1,v32.2.2.1,v32.2.2.2.1,v32.2.2.2.2.1,v32.2.2.2.2.2.2.1,w64 (v32.2.2.2.2.2.1 - v32.2.2.2.2.2.2.1),v32.2.2.2.2.2.2.2.1,()))) fun v40=>
    bif decide (v40.1<v40.2.2.2.2.1) then
     aO (β:=((List ah)×Unit)) (γ:=(Int×Unit×Int×Int×(List ah)×Unit)) (
      bif decide (v40.2.2.2.2.1<v40.2.2.2.1) then
       Option.bind (self (v40.2.2.2.2.2.2.1,v40.1,v40.2.2.2.2.1,v40.2.2.2.1,v40.2.2.1,())) fun r41=>
       some (Sum.inr (v40.2.1,v40.2.2.1,v40.2.2.2.1,v40.2.2.2.2.2.1,r41.1,()))
      else
       some (Sum.inr (v40.2.1,v40.2.2.1,v40.2.2.2.1,v40.2.2.2.2.2.1,v40.2.2.2.2.2.2.1,()))) fun v42=>
     bif decide (v42.2.2.1<v42.2.2.2.1) then
      bif decide (v42.2.2.2.1<v42.1) then
       Option.bind (self (v42.2.2.2.2.1,v42.2.2.1,v42.2.2.2.1,v42.1,v42.2.1,())) fun r43=>
       some (r43.1,())
      else
       some (v42.2.2.2.2.1,())
     else
      some (v42.2.2.2.2.1,())
    else
     aO (β:=((List ah)×Unit)) (γ:=(Int×Unit×Int×Int×(List ah)×Unit)) (
      some (Sum.inr (v40.2.1,v40.2.2.1,v40.2.2.2.1,v40.2.2.2.2.2.1,v40.2.2.2.2.2.2.1,()))) fun v44=>
     bif decide (v44.2.2.1<v44.2.2.2.1) then
      bif decide (v44.2.2.2.1<v44.1) then
       Option.bind (self (v44.2.2.2.2.1,v44.2.2.1,v44.2.2.2.1,v44.1,v44.2.1,())) fun r45=>
       some (r45.1,())
      else
       some (v44.2.2.2.2.1,())
     else
      some (v44.2.2.2.2.1,())
def fJ (a0:List ah) (a1:Int) (a2:Int) (a3:Int) (_a4:Unit):Nat:=List.length a0+(Int.natAbs a1+(Int.natAbs a2+(Int.natAbs a3+2)))
def cF (a0:List ah) (a1:Int) (a2:Int) (a3:Int) (a4:Unit):Option ((List ah)×Unit):=
 AS (fun self x=>bH self x.1 x.2.1 x.2.2.1 x.2.2.2.1 x.2.2.2.2.1) (fJ a0 a1 a2 a3 a4) (a0,a1,a2,a3,a4,())
abbrev eF:Type:=Int×Unit×Int×Int×Int×(List ah)×Unit
abbrev eC:Type:=(((List ah)×Unit) ⊕ (Int×Unit×Int×Int×(List ah)×Unit))
def ef (x1:eF) (again:eF→Option eC):Option eC:=
 bif decide (x1.2.2.2.2.1≤x1.1) then
  Option.bind (bZ x1.2.2.2.2.2.1 x1.2.2.2.1 x1.2.2.2.2.1 x1.2.1) fun r2=>
  again (x1.1,x1.2.1,x1.2.2.1,x1.2.2.2.2.1,w64 (x1.2.2.2.2.1+x1.2.2.1),r2.1,())
 else
  some (Sum.inr (x1.1,x1.2.1,x1.2.2.1,x1.2.2.2.1,x1.2.2.2.2.2.1,()))
abbrev eH:Type:=Int×Unit×Int×Int×Int×(List ah)×Unit
abbrev eE:Type:=((((List ah)×Unit) ⊕ ((List ah)×Unit)) ⊕ (Int×Unit×Int×Int×(List ah)×Unit))
def eA (x1:eH) (again:eH→Option eE):Option eE:=
 bif decide (x1.2.2.2.2.1≤x1.1) then
  Option.bind (cF x1.2.2.2.2.2.1 x1.2.2.2.1 (w64 (x1.2.2.2.1+x1.2.2.1)) x1.2.2.2.2.1 x1.2.1) fun r2=>
  again (x1.1,x1.2.1,x1.2.2.1,x1.2.2.2.2.1,w64 (x1.2.2.2.2.1+(w64 (2*x1.2.2.1))),r2.1,())
 else
  some (Sum.inr (x1.1,x1.2.1,x1.2.2.1,x1.2.2.2.1,x1.2.2.2.2.2.1,()))
abbrev eG:Type:=Int×Unit×Int×(List ah)×Unit
abbrev eD:Type:=(((List ah)×Unit) ⊕ ((List ah)×Unit))
def ez (x1:eG) (again:eG→Option eD):Option eD:=
 bif decide (x1.2.2.1<x1.1) then
  aO (β:=(((List ah)×Unit) ⊕ ((List ah)×Unit))) (γ:=(Int×Unit×Int×Int×(List ah)×Unit)) (
   iter (X:=eH) (β:=eE) (x1.1.natAbs+(x1.2.2.1.natAbs+(Int.natAbs (0:Int)+(Int.natAbs (w64 (2*x1.2.2.1))+(x1.2.2.2.1.length+2))))) (x1.1,x1.2.1,x1.2.2.1,0,w64 (2*x1.2.2.1),x1.2.2.2.1,()) (eA)) fun v2=>
  bif decide ((w64 (v2.2.2.2.1+v2.2.2.1))<v2.1) then
   Option.bind (cF v2.2.2.2.2.1 v2.2.2.2.1 (w64 (v2.2.2.2.1+v2.2.2.1)) v2.1 v2.2.1) fun r3=>
   again (v2.1,v2.2.1,w64 (v2.2.2.1*2),r3.1,())
  else
   again (v2.1,v2.2.1,w64 (v2.2.2.1*2),v2.2.2.2.2.1,())
 else
  some (Sum.inr (x1.2.2.2.1,()))
def gZ (a0:List ah) (a1:Int) (a2:Unit):Option ((List ah)×Unit):=
 aO (β:=((List ah)×Unit)) (γ:=(Int×Unit×Int×Int×(List ah)×Unit)) (
  iter (X:=eF) (β:=eC) (Int.natAbs a1+(Int.natAbs (20:Int)+(Int.natAbs (0:Int)+(Int.natAbs (20:Int)+(List.length a0+2))))) (a1,a2,20,0,20,a0,()) (ef)) fun v3=>
 Option.bind (bZ v3.2.2.2.2.1 v3.2.2.2.1 v3.1 v3.2.1) fun r4=>
 aO (β:=((List ah)×Unit)) (γ:=((List ah)×Unit)) (
  iter (X:=eG) (β:=eD) (v3.1.natAbs+(v3.2.2.1.natAbs+(r4.1.length+2))) (v3.1,v3.2.1,v3.2.2.1,r4.1,()) (ez)) fun v10=>
 some (v10.1,())
def eZ (a0:List ah) (a1:Unit):Option ((List ah)×Unit):=
 Option.bind (gZ a0 ((List.length a0:Int)) a1) fun r1=>
 some (r1.1,())
abbrev iL:Type:=(List fm)×(List ah)×(List aa)×Int×Int×Unit
abbrev iK:Type:=(((List ah)×Bool×Unit) ⊕ ((List ah)×Unit))
def gz (x1:iL) (again:iL→Option iK):Option iK:=
 bif decide (x1.2.2.2.2.1<x1.2.2.2.1) then
  Option.bind (idx x1.2.2.1 x1.2.2.2.2.1) fun y2=>
  Option.bind (jN [y2] x1.1) fun r3=>
  bif !r3.2.1 then
   some (Sum.inl ([],false,()))
  else
   Option.bind (uy 3) fun r4=>
   Option.bind (gO r3.1 r4.1) fun r5=>
   chk (decide (((x1.2.1.length)+1)*40≤140737488355328)&&decide ((x1.2.1.length)+1≤maxLen)) <|
   again (x1.1,x1.2.1++[(x1.2.2.2.2.1,r5.1)],x1.2.2.1,x1.2.2.2.1,w64 (x1.2.2.2.2.1+1),())
 else
  some (Sum.inr (x1.2.1,()))
def mP (a0:List aa) (a1:List fm):Option ((List ah)×Bool×Unit):=
 aO (β:=((List ah)×Bool×Unit)) (γ:=((List ah)×Unit)) (
  iter (X:=iL) (β:=iK) (List.length a1+(List.length ([]:List ah)+(List.length a0+(Int.natAbs ((List.length a0:Int))+(Int.natAbs (0:Int)+2))))) (a1,[],a0,(List.length a0:Int),0,()) (gz)) fun v6=>
 Option.bind (eZ v6.1 ()) fun r7=>
 some (r7.1,true,())
def xL (a0:ay) (a1:ah) (a2:ay):Option (Bool×Unit):=
 Option.bind (fk a0 a1.2) fun r1=>
 Option.bind (fS r1.1 a2) fun r2=>
 some (decide (r2.1≤0),())
abbrev gj:Type:=(List ay)×(ah×ay)×Int×Int×Unit
abbrev gh:Type:=((Int×Unit) ⊕ Unit)
def eX (x1:gj) (again:gj→Option gh):Option gh:=
 bif decide (x1.2.2.2.1<x1.2.2.1) then
  Option.bind (idx x1.1 x1.2.2.2.1) fun y2=>
  Option.bind (xL y2 x1.2.1.1 x1.2.1.2) fun r3=>
  bif r3.1 then
   some (Sum.inl (x1.2.2.2.1,()))
  else
   again (x1.1,x1.2.1,x1.2.2.1,w64 (x1.2.2.2.1+1),())
 else
  some (Sum.inr ())
def fL (a0:List ay) (a1:ah×ay):Option (Int×Unit):=
 aO (β:=(Int×Unit)) (γ:=Unit) (
  iter (X:=gj) (β:=gh) (List.length a0+(Int.natAbs ((List.length a0:Int))+(Int.natAbs (0:Int)+2))) (a0,a1,(List.length a0:Int),0,()) (eX)) fun _=>
 some ((-1),())
noncomputable def jD (a0:List aa):Option ((List aa)×Unit):=
 bif List.isEmpty a0 then
  both (
   some ([],())) (
   chk (decide ((0+(List.length a0))*72≤140737488355328)&&decide (0+(List.length a0)≤maxLen)) <|
   some (a0,()))
 else
  chk (decide ((0+(List.length a0))*72≤140737488355328)&&decide (0+(List.length a0)≤maxLen)) <|
  some (a0,())
noncomputable def jg (a0:List bz):Option ((List bz)×Unit):=
 bif List.isEmpty a0 then
  both (
   some ([],())) (
   chk (decide ((0+(List.length a0))*64≤140737488355328)&&decide (0+(List.length a0)≤maxLen)) <|
   some (a0,()))
 else
  chk (decide ((0+(List.length a0))*64≤140737488355328)&&decide (0+(List.length a0)≤maxLen)) <|
  some (a0,())
abbrev gW:Type:=Int×Int×(List aa)×Unit
abbrev jV:Type:=(((List aa)×Unit) ⊕ ((List aa)×Unit))
noncomputable def jU (x1:gW) (again:gW→Option jV):Option jV:=
 bif decide (x1.2.1<x1.1) then
  chk (decide (0≤x1.2.1)&&decide (x1.2.1<(x1.2.2.1.length:Int))) <|
  Option.bind (x1.2.2.1[x1.2.1.toNat]?) fun y2=>
  Option.bind (jg y2.2.2.2) fun r3=>
  chk (decide (0≤x1.2.1)&&decide (x1.2.1<(x1.2.2.1.length:Int))) <|
  Option.bind (x1.2.2.1[x1.2.1.toNat]?) fun y4=>
  again (x1.1,w64 (x1.2.1+1),List.set x1.2.2.1 x1.2.1.toNat (y4.1,y4.2.1,y4.2.2.1,r3.1),())
 else
  some (Sum.inr (x1.2.2.1,()))
noncomputable def gR (a0:List aa):Option ((List aa)×Unit):=
 Option.bind (jD a0) fun r1=>
 aO (β:=((List aa)×Unit)) (γ:=((List aa)×Unit)) (
  iter (X:=gW) (β:=jV) (Int.natAbs ((r1.1.length:Int))+(Int.natAbs (0:Int)+(r1.1.length+2))) ((r1.1.length:Int),0,r1.1,()) (jU)) fun v6=>
 some (v6.1,())
abbrev iF:Type:=(List aa)×(List UInt8)×Int×(List ay)×(List ah)×Int×Int×Bool×(List Int)×(List Int)×Unit
abbrev iB:Type:=(((List aa)×Int×Unit) ⊕ ((List aa)×(List UInt8)×Int×(List ay)×(List Int)×Unit))
noncomputable def gv (x1:iF) (again:iF→Option iB):Option iB:=
 bif decide (x1.2.2.2.2.2.2.1<x1.2.2.2.2.2.1) then
  Option.bind (idx x1.2.2.2.2.1 x1.2.2.2.2.2.2.1) fun y2=>
  Option.bind (fL x1.2.2.2.1 (y2,x1.2.2.2.2.2.2.2.1,x1.2.2.2.2.2.2.2.2.1)) fun r3=>
  aO (β:=(((List aa)×Int×Unit) ⊕ ((List aa)×(List UInt8)×Int×(List ay)×(List Int)×Unit))) (γ:=((List aa)×(List UInt8)×Int×(List ay)×Int×(List ah)×Int×Int×Bool×(List Int)×Int×Bool×(List Int)×(List Int)×Unit)) (
   bif decide (r3.1<0) then
    Option.bind (qc 0) fun r4=>
    chk (decide (((x1.2.2.2.1.length)+1)*32≤140737488355328)&&decide ((x1.2.2.2.1.length)+1≤maxLen)) <|
    some (Sum.inr (x1.1,x1.2.1,x1.2.2.1,x1.2.2.2.1++[r4.1],(x1.2.2.2.1.length:Int),x1.2.2.2.2.1,x1.2.2.2.2.2.1,x1.2.2.2.2.2.2.1,x1.2.2.2.2.2.2.2.1,x1.2.2.2.2.2.2.2.2.1,y2.1,y2.2.1,y2.2.2,x1.2.2.2.2.2.2.2.2.2.1,()))
   else
    some (Sum.inr (x1.1,x1.2.1,x1.2.2.1,x1.2.2.2.1,r3.1,x1.2.2.2.2.1,x1.2.2.2.2.2.1,x1.2.2.2.2.2.2.1,x1.2.2.2.2.2.2.2.1,x1.2.2.2.2.2.2.2.2.1,y2.1,y2.2.1,y2.2.2,x1.2.2.2.2.2.2.2.2.2.1,()))) fun v5=>
  chk (decide (0≤v5.2.2.2.2.1)&&decide (v5.2.2.2.2.1<(v5.2.2.2.1.length:Int))) <|
  Option.bind (v5.2.2.2.1[v5.2.2.2.2.1.toNat]?) fun y6=>
  Option.bind (fk y6 (v5.2.2.2.2.2.2.2.2.2.2.2.1,v5.2.2.2.2.2.2.2.2.2.2.2.2.1)) fun r7=>
  chk (decide (0≤v5.2.2.2.2.1)&&decide (v5.2.2.2.2.1<(v5.2.2.2.1.length:Int))) <|
  Option.bind (v5.2.2.2.1[v5.2.2.2.2.1.toNat]?) fun _=>
  chk (decide (0≤v5.2.2.2.2.2.2.2.2.2.2.1)&&decide (v5.2.2.2.2.2.2.2.2.2.2.1<(v5.2.2.2.2.2.2.2.2.2.2.2.2.2.1.length:Int))) <|
  Option.bind (v5.2.2.2.2.2.2.2.2.2.2.2.2.2.1[v5.2.2.2.2.2.2.2.2.2.2.1.toNat]?) fun _=>
  again (v5.1,v5.2.1,v5.2.2.1,List.set v5.2.2.2.1 v5.2.2.2.2.1.toNat r7.1,v5.2.2.2.2.2.1,v5.2.2.2.2.2.2.1,w64 (v5.2.2.2.2.2.2.2.1+1),v5.2.2.2.2.2.2.2.2.1,v5.2.2.2.2.2.2.2.2.2.1,List.set v5.2.2.2.2.2.2.2.2.2.2.2.2.2.1 v5.2.2.2.2.2.2.2.2.2.2.1.toNat v5.2.2.2.2.1,())
 else
  some (Sum.inr (x1.1,x1.2.1,x1.2.2.1,x1.2.2.2.1,x1.2.2.2.2.2.2.2.2.2.1,()))
abbrev fH:Type:=(List aa)×(List UInt8)×Int×(List (List UInt8))×Int×Int×(List Int)×(List aa)×Unit
abbrev fG:Type:=(((List aa)×Int×Unit) ⊕ ((List aa)×(List (List UInt8))×(List Int)×(List aa)×Unit))
noncomputable def eM (x1:fH) (again:fH→Option fG):Option fG:=
 bif decide (x1.2.2.2.2.2.1<x1.2.2.2.2.1) then
  Option.bind (oG x1.2.1 (w64 (x1.2.2.1+x1.2.2.2.2.2.1))) fun r2=>
  bif r2.2.1 != 0 then
   some (Sum.inl ([],r2.2.1,()))
  else
   chk (decide (((x1.2.2.2.1.length)+1)*16≤140737488355328)&&decide ((x1.2.2.2.1.length)+1≤maxLen)) <|
   again (x1.1,x1.2.1,x1.2.2.1,x1.2.2.2.1++[r2.1],x1.2.2.2.2.1,w64 (x1.2.2.2.2.2.1+1),x1.2.2.2.2.2.2.1,x1.2.2.2.2.2.2.2.1,())
 else
  some (Sum.inr (x1.1,x1.2.2.2.1,x1.2.2.2.2.2.2.1,x1.2.2.2.2.2.2.2.1,()))
abbrev gy:Type:=(List aa)×(List (List UInt8))×(List (List UInt8))×Int×Int×(List Int)×(List aa)×Unit
abbrev iC:Type:=(((List aa)×Int×Unit) ⊕ ((List aa)×(List (List UInt8))×(List Int)×(List aa)×Unit))
noncomputable def iA (x1:gy) (again:gy→Option iC):Option iC:=
 bif decide (x1.2.2.2.2.1<x1.2.2.2.1) then
  Option.bind (idx x1.2.2.1 x1.2.2.2.2.1) fun y2=>
  Option.bind (fI x1.1 y2) fun r3=>
  bif r3.1 then
   some (Sum.inl ([],7,()))
  else
   again (x1.1,x1.2.1,x1.2.2.1,x1.2.2.2.1,w64 (x1.2.2.2.2.1+1),x1.2.2.2.2.2.1,x1.2.2.2.2.2.2.1,())
 else
  some (Sum.inr (x1.1,x1.2.1,x1.2.2.2.2.2.1,x1.2.2.2.2.2.2.1,()))
abbrev iG:Type:=(List (List UInt8))×Int×Int×(List Int)×(List aa)×Unit
abbrev iD:Type:=(((List aa)×Int×Unit) ⊕ ((List (List UInt8))×(List aa)×Unit))
noncomputable def gw (x1:iG) (again:iG→Option iD):Option iD:=
 bif decide (x1.2.2.1<x1.2.1) then
  chk (decide (0≤x1.2.2.1)&&decide (x1.2.2.1<(x1.2.2.2.1.length:Int))) <|
  Option.bind (x1.2.2.2.1[x1.2.2.1.toNat]?) fun y2=>
  Option.bind (idx x1.1 y2) fun y3=>
  chk (decide (0≤x1.2.2.1)&&decide (x1.2.2.1<(x1.2.2.2.2.1.length:Int))) <|
  Option.bind (x1.2.2.2.2.1[x1.2.2.1.toNat]?) fun y4=>
  again (x1.1,x1.2.1,w64 (x1.2.2.1+1),x1.2.2.2.1,List.set x1.2.2.2.2.1 x1.2.2.1.toNat (y4.1,y3,y4.2.2),())
 else
  some (Sum.inr (x1.1,x1.2.2.2.2.1,()))
abbrev iH:Type:=(List aa)×(List (List UInt8))×Int×Int×Unit
abbrev iE:Type:=(((List aa)×Int×Unit) ⊕ ((List aa)×Unit))
noncomputable def gx (x1:iH) (again:iH→Option iE):Option iE:=
 bif decide (x1.2.2.2.1<x1.2.2.1) then
  Option.bind (idx x1.2.1 x1.2.2.2.1) fun y2=>
  chk (decide (((x1.1.length)+1)*72≤140737488355328)&&decide ((x1.1.length)+1≤maxLen)) <|
  again (x1.1++[(y2,[],(0,0),[])],x1.2.1,x1.2.2.1,w64 (x1.2.2.2.1+1),())
 else
  some (Sum.inr (x1.1,()))
noncomputable def sg (a0:List aa) (a1:List fm) (a2:ai) (a3:List UInt8) (a4:Int):Option ((List aa)×Int×Unit):=
 Option.bind (jk a0 a1 a2) fun r1=>
 bif r1.1 != 0 then
  some ([],r1.1,())
 else
  Option.bind (mP a0 a1) fun r2=>
  bif !r2.2.1 then
   some ([],5,())
  else
   Option.bind (rG a2) fun r3=>
   bif decide (((r2.1.length:Int))>0) then
    Option.bind (idx r2.1 0) fun y4=>
    Option.bind (fS y4.2 r3.1) fun r5=>
    bif decide (r5.1>0) then
     some ([],16,())
    else
     chk (decide (0≤((List.length a0:Int)))&&decide (((List.length a0:Int))≤((List.length a0:Int)))&&decide ((8:Int)*((List.length a0:Int))≤281474976710656)&&decide (((List.length a0:Int))≤9223372036854775807)) <|
     aO (β:=((List aa)×Int×Unit)) (γ:=((List aa)×(List UInt8)×Int×(List ay)×(List Int)×Unit)) (
      iter (X:=iF) (β:=iB) (List.length a0+(List.length a3+(Int.natAbs a4+(List.length ([]:List ay)+(r2.1.length+(Int.natAbs ((r2.1.length:Int))+(Int.natAbs (0:Int)+(r3.1.2.length+(List.length ((List.replicate (Int.toNat ((List.length a0:Int))) 0:List (Int)):List Int)+2))))))))) (a0,a3,a4,[],r2.1,(r2.1.length:Int),0,r3.1.1,r3.1.2,(List.replicate (Int.toNat ((List.length a0:Int))) 0:List (Int)),()) (gv)) fun v15=>
     Option.bind (gR v15.1) fun r16=>
     aO (β:=((List aa)×Int×Unit)) (γ:=((List aa)×(List (List UInt8))×(List Int)×(List aa)×Unit)) (
      iter (X:=fH) (β:=fG) (v15.1.length+(v15.2.1.length+(v15.2.2.1.natAbs+(List.length ([]:List (List UInt8))+(Int.natAbs ((v15.2.2.2.1.length:Int))+(Int.natAbs (0:Int)+(v15.2.2.2.2.1.length+(r16.1.length+2)))))))) (v15.1,v15.2.1,v15.2.2.1,[],(v15.2.2.2.1.length:Int),0,v15.2.2.2.2.1,r16.1,()) (eM)) fun v19=>
     aO (β:=((List aa)×Int×Unit)) (γ:=((List aa)×(List (List UInt8))×(List Int)×(List aa)×Unit)) (
      iter (X:=gy) (β:=iC) (v19.1.length+(v19.2.1.length+(v19.2.1.length+(Int.natAbs ((v19.2.1.length:Int))+(Int.natAbs (0:Int)+(v19.2.2.1.length+(v19.2.2.2.1.length+2))))))) (v19.1,v19.2.1,v19.2.1,(v19.2.1.length:Int),0,v19.2.2.1,v19.2.2.2.1,()) (iA)) fun v23=>
     bif decide ((w64 (((v23.1.length:Int))+((v23.2.1.length:Int))))>500) then
      some ([],2,())
     else
      aO (β:=((List aa)×Int×Unit)) (γ:=((List (List UInt8))×(List aa)×Unit)) (
       iter (X:=iG) (β:=iD) (v23.2.1.length+(Int.natAbs ((v23.2.2.2.1.length:Int))+(Int.natAbs (0:Int)+(v23.2.2.1.length+(v23.2.2.2.1.length+2))))) (v23.2.1,(v23.2.2.2.1.length:Int),0,v23.2.2.1,v23.2.2.2.1,()) (gw)) fun v28=>
      aO (β:=((List aa)×Int×Unit)) (γ:=((List aa)×Unit)) (
       iter (X:=iH) (β:=iE) (v28.2.1.length+(v28.1.length+(Int.natAbs ((v28.1.length:Int))+(Int.natAbs (0:Int)+2)))) (v28.2.1,v28.1,(v28.1.length:Int),0,()) (gx)) fun v31=>
      Option.bind (fM v31.1 ()) fun r32=>
      some (r32.1,0,())
   else
    chk (decide (0≤((List.length a0:Int)))&&decide (((List.length a0:Int))≤((List.length a0:Int)))&&decide ((8:Int)*((List.length a0:Int))≤281474976710656)&&decide (((List.length a0:Int))≤9223372036854775807)) <|
    aO (β:=((List aa)×Int×Unit)) (γ:=((List aa)×(List UInt8)×Int×(List ay)×(List Int)×Unit)) (
     iter (X:=iF) (β:=iB) (List.length a0+(List.length a3+(Int.natAbs a4+(List.length ([]:List ay)+(r2.1.length+(Int.natAbs ((r2.1.length:Int))+(Int.natAbs (0:Int)+(r3.1.2.length+(List.length ((List.replicate (Int.toNat ((List.length a0:Int))) 0:List (Int)):List Int)+2))))))))) (a0,a3,a4,[],r2.1,(r2.1.length:Int),0,r3.1.1,r3.1.2,(List.replicate (Int.toNat ((List.length a0:Int))) 0:List (Int)),()) (gv)) fun v42=>
    Option.bind (gR v42.1) fun r43=>
    aO (β:=((List aa)×Int×Unit)) (γ:=((List aa)×(List (List UInt8))×(List Int)×(List aa)×Unit)) (
     iter (X:=fH) (β:=fG) (v42.1.length+(v42.2.1.length+(v42.2.2.1.natAbs+(List.length ([]:List (List UInt8))+(Int.natAbs ((v42.2.2.2.1.length:Int))+(Int.natAbs (0:Int)+(v42.2.2.2.2.1.length+(r43.1.length+2)))))))) (v42.1,v42.2.1,v42.2.2.1,[],(v42.2.2.2.1.length:Int),0,v42.2.2.2.2.1,r43.1,()) (eM)) fun v46=>
    aO (β:=((List aa)×Int×Unit)) (γ:=((List aa)×(List (List UInt8))×(List Int)×(List aa)×Unit)) (
     iter (X:=gy) (β:=iC) (v46.1.length+(v46.2.1.length+(v46.2.1.length+(Int.natAbs ((v46.2.1.length:Int))+(Int.natAbs (0:Int)+(v46.2.2.1.length+(v46.2.2.2.1.length+2))))))) (v46.1,v46.2.1,v46.2.1,(v46.2.1.length:Int),0,v46.2.2.1,v46.2.2.2.1,()) (iA)) fun v50=>
    bif decide ((w64 (((v50.1.length:Int))+((v50.2.1.length:Int))))>500) then
     some ([],2,())
    else
     aO (β:=((List aa)×Int×Unit)) (γ:=((List (List UInt8))×(List aa)×Unit)) (
      iter (X:=iG) (β:=iD) (v50.2.1.length+(Int.natAbs ((v50.2.2.2.1.length:Int))+(Int.natAbs (0:Int)+(v50.2.2.1.length+(v50.2.2.2.1.length+2))))) (v50.2.1,(v50.2.2.2.1.length:Int),0,v50.2.2.1,v50.2.2.2.1,()) (gw)) fun v55=>
     aO (β:=((List aa)×Int×Unit)) (γ:=((List aa)×Unit)) (
      iter (X:=iH) (β:=iE) (v55.2.1.length+(v55.1.length+(Int.natAbs ((v55.1.length:Int))+(Int.natAbs (0:Int)+2)))) (v55.2.1,v55.1,(v55.1.length:Int),0,()) (gx)) fun v58=>
     Option.bind (fM v58.1 ()) fun r59=>
     some (r59.1,0,())
def Kt (a0:List aa) (a1:List UInt8):Option (Int×Unit):=
 Option.bind (wJ a0 a1) fun r1=>
 some (r1.1,())
abbrev ff:Type:=(List aa)×(List fm)×Int×Int×Int×Int×Int×Int×(List UInt8)×(List UInt8)×Int×Int×Int×(List ai)×(List aa)×Unit
abbrev gI:Type:=(((Bool×Unit) ⊕ Unit) ⊕ ((List aa)×(List fm)×(List ai)×Int×Int×Int×Int×(List UInt8)×(List UInt8)×Int×Int×Int×(List aa)×Unit))
noncomputable def gH (x1:ff) (again:ff→Option gI):Option gI:=
 bif decide (x1.2.2.2.2.2.1<x1.2.2.2.2.1) then
  chk (decide (0≤x1.2.2.2.2.2.1)&&decide (x1.2.2.2.2.2.1<(x1.2.2.2.2.2.2.2.2.2.2.2.2.2.1.length:Int))) <|
  Option.bind (x1.2.2.2.2.2.2.2.2.2.2.2.2.2.1[x1.2.2.2.2.2.1.toNat]?) fun y2=>
  Option.bind (vm [y2,(x1.2.2.2.2.2.2.2.2.2.2.2.1,x1.2.2.2.2.2.2.2.2.2.2.2.2.1)]) fun r3=>
  Option.bind (vm [(x1.2.2.2.2.2.2.1,x1.2.2.2.2.2.2.2.1)]) fun r4=>
  Option.bind (F3 r3.1 r4.1) fun r5=>
  bif decide (r5.1≤0) then
   AE <|
    some (Sum.inl (false,()))
  else
   again (x1.1,x1.2.1,x1.2.2.1,x1.2.2.2.1,x1.2.2.2.2.1,w64 (x1.2.2.2.2.2.1+1),x1.2.2.2.2.2.2.1,x1.2.2.2.2.2.2.2.1,x1.2.2.2.2.2.2.2.2.1,x1.2.2.2.2.2.2.2.2.2.1,x1.2.2.2.2.2.2.2.2.2.2.1,x1.2.2.2.2.2.2.2.2.2.2.2.1,x1.2.2.2.2.2.2.2.2.2.2.2.2.1,x1.2.2.2.2.2.2.2.2.2.2.2.2.2.1,x1.2.2.2.2.2.2.2.2.2.2.2.2.2.2.1,())
 else
  some (Sum.inr (x1.1,x1.2.1,x1.2.2.2.2.2.2.2.2.2.2.2.2.2.1,x1.2.2.1,x1.2.2.2.1,x1.2.2.2.2.2.2.1,x1.2.2.2.2.2.2.2.1,x1.2.2.2.2.2.2.2.2.1,x1.2.2.2.2.2.2.2.2.2.1,x1.2.2.2.2.2.2.2.2.2.2.1,x1.2.2.2.2.2.2.2.2.2.2.2.1,x1.2.2.2.2.2.2.2.2.2.2.2.2.1,x1.2.2.2.2.2.2.2.2.2.2.2.2.2.2.1,()))
abbrev fD:Type:=(List aa)×(List fm)×(List ai)×Int×Int×Int×Int×(List UInt8)×(List UInt8)×Int×(List aa)×Unit
abbrev fC:Type:=((Bool×Unit) ⊕ Unit)
noncomputable def dI (x1:fD) (again:fD→Option fC):Option fC:=
 bif decide (x1.2.2.2.2.1<x1.2.2.2.1) then
  chk (decide (0≤x1.2.2.2.2.1)&&decide (x1.2.2.2.2.1<(x1.2.2.2.2.2.2.2.2.2.2.1.length:Int))) <|
  Option.bind (x1.2.2.2.2.2.2.2.2.2.2.1[x1.2.2.2.2.1.toNat]?) fun y2=>
  Option.bind (Kt x1.1 y2.1) fun r3=>
  bif !((y2.2.1==[])==(decide (r3.1<0))) then
   some (Sum.inl (false,()))
  else
   bif !(y2.2.1==[]) then
    again (x1.1,x1.2.1,x1.2.2.1,x1.2.2.2.1,w64 (x1.2.2.2.2.1+1),x1.2.2.2.2.2.1,x1.2.2.2.2.2.2.1,x1.2.2.2.2.2.2.2.1,x1.2.2.2.2.2.2.2.2.1,x1.2.2.2.2.2.2.2.2.2.1,x1.2.2.2.2.2.2.2.2.2.2.1,())
   else
    Option.bind (uK (x1.2.2.2.2.2.2.2.1,x1.2.2.2.2.2.2.2.2.1,x1.2.2.2.2.2.2.2.2.2.1,x1.2.2.2.2.2.2.2.2.2.2.1) x1.2.1 y2.1) fun r4=>
    bif r4.2.1==1 then
     some (Sum.inl (true,()))
    else
     bif r4.2.1 != 0 then
      some (Sum.inl (false,()))
     else
      Option.bind (wI r4.1 (x1.2.2.2.2.2.1,x1.2.2.2.2.2.2.1)) fun r5=>
      bif !r5.1 then
       some (Sum.inl (false,()))
      else
       aO (β:=((Bool×Unit) ⊕ Unit)) (γ:=((List aa)×(List fm)×(List ai)×Int×Int×Int×Int×(List UInt8)×(List UInt8)×Int×Int×Int×(List aa)×Unit)) (
        iter (X:=ff) (β:=gI) (x1.1.length+(x1.2.1.length+(x1.2.2.2.1.natAbs+(x1.2.2.2.2.1.natAbs+(Int.natAbs ((x1.2.2.1.length:Int))+(Int.natAbs (0:Int)+(x1.2.2.2.2.2.1.natAbs+(x1.2.2.2.2.2.2.1.natAbs+(x1.2.2.2.2.2.2.2.1.length+(x1.2.2.2.2.2.2.2.2.1.length+(x1.2.2.2.2.2.2.2.2.2.1.natAbs+(r4.1.1.natAbs+(r4.1.2.natAbs+(x1.2.2.1.length+(x1.2.2.2.2.2.2.2.2.2.2.1.length+2))))))))))))))) (x1.1,x1.2.1,x1.2.2.2.1,x1.2.2.2.2.1,(x1.2.2.1.length:Int),0,x1.2.2.2.2.2.1,x1.2.2.2.2.2.2.1,x1.2.2.2.2.2.2.2.1,x1.2.2.2.2.2.2.2.2.1,x1.2.2.2.2.2.2.2.2.2.1,r4.1.1,r4.1.2,x1.2.2.1,x1.2.2.2.2.2.2.2.2.2.2.1,()) (gH)) fun v6=>
       chk (decide (((v6.2.2.1.length)+1)*16≤140737488355328)&&decide ((v6.2.2.1.length)+1≤maxLen)) <|
       again (v6.1,v6.2.1,v6.2.2.1++[(v6.2.2.2.2.2.2.2.2.2.2.1,v6.2.2.2.2.2.2.2.2.2.2.2.1)],v6.2.2.2.1,w64 (v6.2.2.2.2.1+1),v6.2.2.2.2.2.1,v6.2.2.2.2.2.2.1,v6.2.2.2.2.2.2.2.1,v6.2.2.2.2.2.2.2.2.1,v6.2.2.2.2.2.2.2.2.2.1,v6.2.2.2.2.2.2.2.2.2.2.2.2.1,())
 else
  some (Sum.inr ())
noncomputable def jc (a0:List aa) (a1:List fm) (a2:ai) (a3:List UInt8) (a4:Int):Option (Bool×Unit):=
 Option.bind (sg a0 a1 a2 a3 a4) fun r1=>
 bif r1.2.1 != 0 then
  bif ((r1.1.length:Int))==0 then
   Option.bind (BC) fun r2=>
   some (r2.1,())
  else
   some (false,())
 else
  Option.bind (gu ([97],[111],1,r1.1)) fun r3=>
  bif r3.1 != 0 then
   some (false,())
  else
   Option.bind (BC) fun r4=>
   bif !r4.1 then
    some (false,())
   else
    aO (β:=(Bool×Unit)) (γ:=Unit) (
     iter (X:=fD) (β:=fC) (List.length a0+(List.length a1+(List.length ([]:List ai)+(Int.natAbs ((r1.1.length:Int))+(Int.natAbs (0:Int)+(a2.1.natAbs+(a2.2.natAbs+(List.length [97]+(List.length [111]+(Int.natAbs (1:Int)+(r1.1.length+2))))))))))) (a0,a1,[],(r1.1.length:Int),0,a2.1,a2.2,[97],[111],1,r1.1,()) (dI)) fun _=>
    some (true,())
end
end Go.Md
