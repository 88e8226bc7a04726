/-
  The plain models of the functions that the law reaches, second part. No condition.
-/
import Derived.Test.YtfghdjdpccoleaaGreatDoorYm
import Derived.Lib.Bytealg
import Derived.Lib.Repeat
import Derived.Lib.ItoaNum
namespace Go.Md
open Go.Dn
abbrev qH:Type:=Int×Int×Int×Unit
abbrev qG:Type:=((Int×Unit) ⊕ (Int×Unit))
def EH (x1:qH) (again:qH->Option qG):Option qG:=
 bif decide (x1.2.2.1<x1.2.1) then
  again (w64 (x1.1*10),x1.2.1,w64 (x1.2.2.1+1),())
 else
  some (Sum.inr (x1.1,()))
def vE (a0:Int):Option (Int×Unit):=
 aR (β:=(Int×Unit)) (γ:=(Int×Unit)) (
  iter (X:=qH) (β:=qG) (Int.natAbs (1:Int)+(Int.natAbs a0+(Int.natAbs (0:Int)+2))) (1,a0,0,()) (EH)) fun v2=>
 some (v2.1,())
def jJ (a0:aa) (a1:Int) (a2:Int):Option (Bool×Unit):=
 bif decide (a0.2<=a1) then
  bif decide (a0.1>=0) then
   Option.bind (vE a0.2) fun r1=>
   some (decide (a0.1<=(w64 (a2*r1.1))),())
  else
   some (false,())
 else
  some (false,())
def kF (a0:aa):Option (Int×Unit):=
 Option.bind (eH a0) fun r1=>
 bif r1.1 != 0 then
  some (r1.1,())
 else
  Option.bind (jJ a0 4 1000000000) fun r2=>
  bif !r2.1 then
   some (1,())
  else
   some (0,())
abbrev gz:Type:=Int×Int×Int×(List Int)×Int×Int×(List Int)×Int×Int×Bool×(List Int)×Bool×(List Int)×Bool×(List Int)×(List Int)×Unit
abbrev mB:Type:=(((bY×Unit) ⊕ (Bool×(List Int)×Bool×(List Int)×Bool×(List Int)×(List Int)×Unit)) ⊕ (Int×Int×(List Int)×Int×Int×Bool×(List Int)×Bool×(List Int)×Bool×(List Int)×(List Int)×Unit))
def jh (x1:gz) (again:gz->Option mB):Option mB:=
 bif decide (x1.2.2.2.2.2.2.2.2.1<x1.2.2.2.2.2.2.2.1) then
  Option.bind (idx x1.2.2.2.2.2.2.1 x1.2.2.2.2.2.2.2.2.1) fun y2=>
  chk (decide (0<=(w64 (x1.1+x1.2.2.2.2.2.2.2.2.1)))&&decide ((w64 (x1.1+x1.2.2.2.2.2.2.2.2.1))<(x1.2.2.2.2.2.2.2.2.2.2.2.2.2.2.2.1.length:Int))) <|
  Option.bind (x1.2.2.2.2.2.2.2.2.2.2.2.2.2.2.2.1[(w64 (x1.1+x1.2.2.2.2.2.2.2.2.1)).toNat]?) fun y3=>
  let n4:Int:=bI ((bI y3)+(bI ((bI x1.2.1)*(bI y2))))
  chk (decide (0<=(w64 (x1.1+x1.2.2.2.2.2.2.2.2.1)))&&decide ((w64 (x1.1+x1.2.2.2.2.2.2.2.2.1))<(x1.2.2.2.2.2.2.2.2.2.2.2.2.2.2.2.1.length:Int))) <|
  Option.bind (x1.2.2.2.2.2.2.2.2.2.2.2.2.2.2.2.1[(w64 (x1.1+x1.2.2.2.2.2.2.2.2.1)).toNat]?) fun _=>
  again (x1.1,x1.2.1,Int.fdiv (bI (x1.2.2.1+n4)) (2 ^ 32),x1.2.2.2.1,x1.2.2.2.2.1,x1.2.2.2.2.2.1,x1.2.2.2.2.2.2.1,x1.2.2.2.2.2.2.2.1,w64 (x1.2.2.2.2.2.2.2.2.1+1),x1.2.2.2.2.2.2.2.2.2.1,x1.2.2.2.2.2.2.2.2.2.2.1,x1.2.2.2.2.2.2.2.2.2.2.2.1,x1.2.2.2.2.2.2.2.2.2.2.2.2.1,x1.2.2.2.2.2.2.2.2.2.2.2.2.2.1,x1.2.2.2.2.2.2.2.2.2.2.2.2.2.2.1,List.set x1.2.2.2.2.2.2.2.2.2.2.2.2.2.2.2.1 (w64 (x1.1+x1.2.2.2.2.2.2.2.2.1)).toNat (mF (bI (x1.2.2.1+n4))),())
 else
  some (Sum.inr (x1.1,x1.2.2.1,x1.2.2.2.1,x1.2.2.2.2.1,x1.2.2.2.2.2.1,x1.2.2.2.2.2.2.2.2.2.1,x1.2.2.2.2.2.2.2.2.2.2.1,x1.2.2.2.2.2.2.2.2.2.2.2.1,x1.2.2.2.2.2.2.2.2.2.2.2.2.1,x1.2.2.2.2.2.2.2.2.2.2.2.2.2.1,x1.2.2.2.2.2.2.2.2.2.2.2.2.2.2.1,x1.2.2.2.2.2.2.2.2.2.2.2.2.2.2.2.1,()))
abbrev gy:Type:=(List Int)×Int×Int×Bool×(List Int)×Bool×(List Int)×Bool×(List Int)×(List Int)×Unit
abbrev mA:Type:=((bY×Unit) ⊕ (Bool×(List Int)×Bool×(List Int)×Bool×(List Int)×(List Int)×Unit))
def jg (x1:gy) (again:gy->Option mA):Option mA:=
 bif decide (x1.2.2.1<x1.2.1) then
  Option.bind (idx x1.1 x1.2.2.1) fun y2=>
  aR (β:=((bY×Unit) ⊕ (Bool×(List Int)×Bool×(List Int)×Bool×(List Int)×(List Int)×Unit))) (γ:=(Int×Int×(List Int)×Int×Int×Bool×(List Int)×Bool×(List Int)×Bool×(List Int)×(List Int)×Unit)) (
   iter (X:=gz) (β:=mB) (x1.2.2.1.natAbs+(Int.natAbs y2+(Int.natAbs (0:Int)+(x1.1.length+(x1.2.1.natAbs+(x1.2.2.1.natAbs+(x1.2.2.2.2.2.2.1.length+(Int.natAbs ((x1.2.2.2.2.2.2.1.length:Int))+(Int.natAbs (0:Int)+(x1.2.2.2.2.1.length+(x1.2.2.2.2.2.2.1.length+(x1.2.2.2.2.2.2.2.2.1.length+(x1.2.2.2.2.2.2.2.2.2.1.length+2))))))))))))) (x1.2.2.1,y2,0,x1.1,x1.2.1,x1.2.2.1,x1.2.2.2.2.2.2.1,(x1.2.2.2.2.2.2.1.length:Int),0,x1.2.2.2.1,x1.2.2.2.2.1,x1.2.2.2.2.2.1,x1.2.2.2.2.2.2.1,x1.2.2.2.2.2.2.2.1,x1.2.2.2.2.2.2.2.2.1,x1.2.2.2.2.2.2.2.2.2.1,()) (jh)) fun v3=>
  chk (decide (0<=(w64 (v3.1+((v3.2.2.2.2.2.2.2.2.1.length:Int)))))&&decide ((w64 (v3.1+((v3.2.2.2.2.2.2.2.2.1.length:Int))))<(v3.2.2.2.2.2.2.2.2.2.2.2.1.length:Int))) <|
  Option.bind (v3.2.2.2.2.2.2.2.2.2.2.2.1[(w64 (v3.1+((v3.2.2.2.2.2.2.2.2.1.length:Int)))).toNat]?) fun _=>
  again (v3.2.2.1,v3.2.2.2.1,w64 (v3.2.2.2.2.1+1),v3.2.2.2.2.2.1,v3.2.2.2.2.2.2.1,v3.2.2.2.2.2.2.2.1,v3.2.2.2.2.2.2.2.2.1,v3.2.2.2.2.2.2.2.2.2.1,v3.2.2.2.2.2.2.2.2.2.2.1,List.set v3.2.2.2.2.2.2.2.2.2.2.2.1 (w64 (v3.1+((v3.2.2.2.2.2.2.2.2.1.length:Int)))).toNat (mF v3.2.1),())
 else
  some (Sum.inr (x1.2.2.2.1,x1.2.2.2.2.1,x1.2.2.2.2.2.1,x1.2.2.2.2.2.2.1,x1.2.2.2.2.2.2.2.1,x1.2.2.2.2.2.2.2.2.1,x1.2.2.2.2.2.2.2.2.2.1,()))
def jf (a0:bY) (a1:bY):Option (bY×Unit):=
 chk (decide (0<=(w64 (((a0.2.length:Int))+((a1.2.length:Int)))))&&decide ((w64 (((a0.2.length:Int))+((a1.2.length:Int))))<=(w64 (((a0.2.length:Int))+((a1.2.length:Int)))))&&decide ((4:Int)*(w64 (((a0.2.length:Int))+((a1.2.length:Int))))<=281474976710656)&&decide ((w64 (((a0.2.length:Int))+((a1.2.length:Int))))<=9223372036854775807)) <|
 aR (β:=(bY×Unit)) (γ:=(Bool×(List Int)×Bool×(List Int)×Bool×(List Int)×(List Int)×Unit)) (
  iter (X:=gy) (β:=mA) (a0.2.length+(Int.natAbs ((a0.2.length:Int))+(Int.natAbs (0:Int)+(a0.2.length+(a1.2.length+(List.length ([]:List Int)+(List.length ((List.replicate (Int.toNat (w64 (((a0.2.length:Int))+((a1.2.length:Int))))) 0):List Int)+2))))))) (a0.2,(a0.2.length:Int),0,a0.1,a0.2,a1.1,a1.2,false,[],List.replicate (Int.toNat (w64 (((a0.2.length:Int))+((a1.2.length:Int))))) 0,()) (jg)) fun v10=>
 Option.bind (gm (!(v10.1==v10.2.2.1)) v10.2.2.2.2.2.2.1) fun r11=>
 some (r11.1,())
abbrev qX:Type:=(List Int)×(List Int)×Int×(List Int)×Int×Int×Unit
abbrev qW:Type:=(((List Int)×Unit) ⊕ ((List Int)×Int×Unit))
def EZ (x1:qX) (again:qX->Option qW):Option qW:=
 bif decide (x1.2.2.2.2.2.1<x1.2.2.2.2.1) then
  Option.bind (idx x1.2.2.2.1 x1.2.2.2.2.2.1) fun y2=>
  aR (β:=(((List Int)×Unit) ⊕ ((List Int)×Int×Unit))) (γ:=((List Int)×(List Int)×Int×(List Int)×Int×Int×Unit)) (
   bif decide (x1.2.2.2.2.2.1<((x1.1.length:Int))) then
    Option.bind (idx x1.1 x1.2.2.2.2.2.1) fun y3=>
    let n4:Int:=bI ((bI (x1.2.2.1+(bI y2)))+(bI y3))
    some (Sum.inr (x1.1,x1.2.1,n4,x1.2.2.2.1,x1.2.2.2.2.1,x1.2.2.2.2.2.1,()))
   else
    some (Sum.inr (x1.1,x1.2.1,bI (x1.2.2.1+(bI y2)),x1.2.2.2.1,x1.2.2.2.2.1,x1.2.2.2.2.2.1,()))) fun v5=>
  chk (decide (((v5.2.1.length)+1)*4<=140737488355328)&&decide ((v5.2.1.length)+1<=maxLen)) <|
  again (v5.1,v5.2.1++[(mF v5.2.2.1)],Int.fdiv v5.2.2.1 (2 ^ 32),v5.2.2.2.1,v5.2.2.2.2.1,w64 (v5.2.2.2.2.2.1+1),())
 else
  some (Sum.inr (x1.2.1,x1.2.2.1,()))
def vR (a0:List Int) (a1:List Int):Option ((List Int)×Unit):=
 aR (β:=((List Int)×Unit)) (γ:=((List Int)×(List Int)×Unit)) (
  bif decide (((List.length a0:Int))<((List.length a1:Int))) then
   some (Sum.inr (a1,a0,()))
  else
   some (Sum.inr (a0,a1,()))) fun v1=>
 chk (decide (0<=(0:Int))&&decide ((0:Int)<=(w64 (((v1.1.length:Int))+1)))&&decide ((4:Int)*(w64 (((v1.1.length:Int))+1))<=281474976710656)&&decide ((w64 (((v1.1.length:Int))+1))<=9223372036854775807)) <|
 aR (β:=((List Int)×Unit)) (γ:=((List Int)×Int×Unit)) (
  iter (X:=qX) (β:=qW) (v1.2.1.length+(List.length ([]:List Int)+(Int.natAbs (0:Int)+(v1.1.length+(Int.natAbs ((v1.1.length:Int))+(Int.natAbs (0:Int)+2)))))) (v1.2.1,[],0,v1.1,(v1.1.length:Int),0,()) (EZ)) fun v7=>
 chk (decide (((v7.1.length)+1)*4<=140737488355328)&&decide ((v7.1.length)+1<=maxLen)) <|
 some (v7.1++[(mF v7.2.1)],())
def jS (a0:bY) (a1:bY):Option (bY×Unit):=
 bif a0.1==a1.1 then
  Option.bind (vR a0.2 a1.2) fun r1=>
  Option.bind (gm a0.1 r1.1) fun r2=>
  some (r2.1,())
 else
  Option.bind (om a0.2 a1.2) fun r3=>
  bif decide (r3.1>=0) then
   Option.bind (qj a0.2 a1.2) fun r4=>
   Option.bind (gm a0.1 r4.1) fun r5=>
   some (r5.1,())
  else
   Option.bind (qj a1.2 a0.2) fun r6=>
   Option.bind (gm a1.1 r6.1) fun r7=>
   some (r7.1,())
end Go.Md
namespace Go.Md
open Go.Dn
abbrev Bj:Type:=Int×(List UInt8)×(List UInt8)×aa×aa×Int×aa×aa×aa×aa
abbrev jD:Type:=(List UInt8)×Int×Int×Int×Int×Unit
abbrev qD:Type:=((Bool×Unit) ⊕ Unit)
def mO (x1:jD) (again:jD->Option qD):Option qD:=
 bif decide (x1.2.2.2.2.1<x1.2.2.2.1) then
  Option.bind (fJ x1.1 x1.2.2.2.2.1) fun c2=>
  bif decide ((c2.toNat:Int)<x1.2.1) then
   some (Sum.inl (false,()))
  else
   Option.bind (fJ x1.1 x1.2.2.2.2.1) fun c3=>
   bif decide ((c3.toNat:Int)>x1.2.2.1) then
    some (Sum.inl (false,()))
   else
    again (x1.1,x1.2.1,x1.2.2.1,x1.2.2.2.1,w64 (x1.2.2.2.2.1+1),())
 else
  some (Sum.inr ())
def vz (a0:List UInt8) (a1:Int) (a2:Int):Option (Bool×Unit):=
 aR (β:=(Bool×Unit)) (γ:=Unit) (
  iter (X:=jD) (β:=qD) (List.length a0+(Int.natAbs a1+(Int.natAbs a2+(Int.natAbs ((List.length a0:Int))+(Int.natAbs (0:Int)+2))))) (a0,a1,a2,(List.length a0:Int),0,()) (mO)) fun _=>
 some (true,())
def jE (a0:List UInt8):Option (Bool×Unit):=
 bif !(a0==[]) then
  Option.bind (vz a0 48 57) fun r1=>
  some (r1.1,())
 else
  some (false,())
def iF (a0:aa) (a1:Bool):Option (Int×Unit):=
 Option.bind (eH a0) fun r1=>
 bif r1.1 != 0 then
  some (r1.1,())
 else
  Option.bind (jJ a0 3 1000000000) fun r2=>
  bif !r2.1 then
   some (1,())
  else
   bif a0.1==0 then
    bif !a1 then
     some (1,())
    else
     some (0,())
   else
    some (0,())
abbrev jN:Type:=(List UInt8)×Int×Int×Unit
abbrev qL:Type:=((Bool×Unit) ⊕ Unit)
def mX (x1:jN) (again:jN->Option qL):Option qL:=
 bif decide (x1.2.2.1<x1.2.1) then
  Option.bind (fJ x1.1 x1.2.2.1) fun c2=>
  bif decide ((c2.toNat:Int)<48) then
   some (Sum.inl (false,()))
  else
   Option.bind (fJ x1.1 x1.2.2.1) fun c3=>
   bif decide ((c3.toNat:Int)>57) then
    some (Sum.inl (false,()))
   else
    again (x1.1,x1.2.1,w64 (x1.2.2.1+1),())
 else
  some (Sum.inr ())
def gj (a0:List UInt8):Option (Bool×Unit):=
 bif a0==[] then
  some (false,())
 else
  aR (β:=(Bool×Unit)) (γ:=Unit) (
   iter (X:=jN) (β:=qL) (List.length a0+(Int.natAbs ((List.length a0:Int))+(Int.natAbs (0:Int)+2))) (a0,(List.length a0:Int),0,()) (mX)) fun _=>
  some (true,())
end Go.Md
namespace Go.Md
open Go.Dn
end Go.Md
namespace Go.Md
open Go.Dn
end Go.Md
