/-
  The plain models of the functions that the law reaches, second part. No condition.
-/
import Derived.Test.YtokceoajcccdiaaGreatDoorYm
import Derived.Lib.Bytealg
import Derived.Lib.Repeat
import Derived.Lib.ItoaNum
namespace Go.Md
open Go.Dn
abbrev sC:Type:=Int×Int×Int×Unit
abbrev sB:Type:=((Int×Unit) ⊕ (Int×Unit))
def Ie (x1:sC) (again:sC->Option sB):Option sB:=
 bif decide (x1.2.2.1<x1.2.1) then
  again (w64 (x1.1*10),x1.2.1,w64 (x1.2.2.1+1),())
 else
  some (Sum.inr (x1.1,()))
def xL (a0:Int):Option (Int×Unit):=
 aF (β:=(Int×Unit)) (γ:=(Int×Unit)) (
  iter (X:=sC) (β:=sB) (Int.natAbs (1:Int)+(Int.natAbs a0+(Int.natAbs (0:Int)+2))) (1,a0,0,()) (Ie)) fun v2=>
 some (v2.1,())
def kL (a0:ah) (a1:Int) (a2:Int):Option (Bool×Unit):=
 bif decide (a0.2<=a1) then
  bif decide (a0.1>=0) then
   Option.bind (xL a0.2) fun r1=>
   some (decide (a0.1<=(w64 (a2*r1.1))),())
  else
   some (false,())
 else
  some (false,())
def lH (a0:ah):Option (Int×Unit):=
 Option.bind (dZ a0) fun r1=>
 bif r1.1 != 0 then
  some (r1.1,())
 else
  Option.bind (kL a0 4 1000000000) fun r2=>
  bif !r2.1 then
   some (1,())
  else
   some (0,())
abbrev hY:Type:=Int×Int×Int×(List Int)×Int×Int×(List Int)×Int×Int×Bool×(List Int)×Bool×(List Int)×Bool×(List Int)×(List Int)×Unit
abbrev nI:Type:=(((bQ×Unit) ⊕ (Bool×(List Int)×Bool×(List Int)×Bool×(List Int)×(List Int)×Unit)) ⊕ (Int×Int×(List Int)×Int×Int×Bool×(List Int)×Bool×(List Int)×Bool×(List Int)×(List Int)×Unit))
def jT (x1:hY) (again:hY->Option nI):Option nI:=
 bif decide (x1.2.2.2.2.2.2.2.2.1<x1.2.2.2.2.2.2.2.1) then
  Option.bind (idx x1.2.2.2.2.2.2.1 x1.2.2.2.2.2.2.2.2.1) fun y2=>
  chk (decide (0<=(w64 (x1.1+x1.2.2.2.2.2.2.2.2.1)))&&decide ((w64 (x1.1+x1.2.2.2.2.2.2.2.2.1))<(x1.2.2.2.2.2.2.2.2.2.2.2.2.2.2.2.1.length:Int))) <|
  Option.bind (x1.2.2.2.2.2.2.2.2.2.2.2.2.2.2.2.1[(w64 (x1.1+x1.2.2.2.2.2.2.2.2.1)).toNat]?) fun y3=>
  let n4:Int:=bn ((bn y3)+(bn ((bn x1.2.1)*(bn y2))))
  chk (decide (0<=(w64 (x1.1+x1.2.2.2.2.2.2.2.2.1)))&&decide ((w64 (x1.1+x1.2.2.2.2.2.2.2.2.1))<(x1.2.2.2.2.2.2.2.2.2.2.2.2.2.2.2.1.length:Int))) <|
  Option.bind (x1.2.2.2.2.2.2.2.2.2.2.2.2.2.2.2.1[(w64 (x1.1+x1.2.2.2.2.2.2.2.2.1)).toNat]?) fun _=>
  again (x1.1,x1.2.1,Int.fdiv (bn (x1.2.2.1+n4)) (2 ^ 32),x1.2.2.2.1,x1.2.2.2.2.1,x1.2.2.2.2.2.1,x1.2.2.2.2.2.2.1,x1.2.2.2.2.2.2.2.1,w64 (x1.2.2.2.2.2.2.2.2.1+1),x1.2.2.2.2.2.2.2.2.2.1,x1.2.2.2.2.2.2.2.2.2.2.1,x1.2.2.2.2.2.2.2.2.2.2.2.1,x1.2.2.2.2.2.2.2.2.2.2.2.2.1,x1.2.2.2.2.2.2.2.2.2.2.2.2.2.1,x1.2.2.2.2.2.2.2.2.2.2.2.2.2.2.1,List.set x1.2.2.2.2.2.2.2.2.2.2.2.2.2.2.2.1 (w64 (x1.1+x1.2.2.2.2.2.2.2.2.1)).toNat (lW (bn (x1.2.2.1+n4))),())
 else
  some (Sum.inr (x1.1,x1.2.2.1,x1.2.2.2.1,x1.2.2.2.2.1,x1.2.2.2.2.2.1,x1.2.2.2.2.2.2.2.2.2.1,x1.2.2.2.2.2.2.2.2.2.2.1,x1.2.2.2.2.2.2.2.2.2.2.2.1,x1.2.2.2.2.2.2.2.2.2.2.2.2.1,x1.2.2.2.2.2.2.2.2.2.2.2.2.2.1,x1.2.2.2.2.2.2.2.2.2.2.2.2.2.2.1,x1.2.2.2.2.2.2.2.2.2.2.2.2.2.2.2.1,()))
abbrev gZ:Type:=(List Int)×Int×Int×Bool×(List Int)×Bool×(List Int)×Bool×(List Int)×(List Int)×Unit
abbrev nH:Type:=((bQ×Unit) ⊕ (Bool×(List Int)×Bool×(List Int)×Bool×(List Int)×(List Int)×Unit))
def jS (x1:gZ) (again:gZ->Option nH):Option nH:=
 bif decide (x1.2.2.1<x1.2.1) then
  Option.bind (idx x1.1 x1.2.2.1) fun y2=>
  aF (β:=((bQ×Unit) ⊕ (Bool×(List Int)×Bool×(List Int)×Bool×(List Int)×(List Int)×Unit))) (γ:=(Int×Int×(List Int)×Int×Int×Bool×(List Int)×Bool×(List Int)×Bool×(List Int)×(List Int)×Unit)) (
   iter (X:=hY) (β:=nI) (x1.2.2.1.natAbs+(Int.natAbs y2+(Int.natAbs (0:Int)+(x1.1.length+(x1.2.1.natAbs+(x1.2.2.1.natAbs+(x1.2.2.2.2.2.2.1.length+(Int.natAbs ((x1.2.2.2.2.2.2.1.length:Int))+(Int.natAbs (0:Int)+(x1.2.2.2.2.1.length+(x1.2.2.2.2.2.2.1.length+(x1.2.2.2.2.2.2.2.2.1.length+(x1.2.2.2.2.2.2.2.2.2.1.length+2))))))))))))) (x1.2.2.1,y2,0,x1.1,x1.2.1,x1.2.2.1,x1.2.2.2.2.2.2.1,(x1.2.2.2.2.2.2.1.length:Int),0,x1.2.2.2.1,x1.2.2.2.2.1,x1.2.2.2.2.2.1,x1.2.2.2.2.2.2.1,x1.2.2.2.2.2.2.2.1,x1.2.2.2.2.2.2.2.2.1,x1.2.2.2.2.2.2.2.2.2.1,()) (jT)) fun v3=>
  chk (decide (0<=(w64 (v3.1+((v3.2.2.2.2.2.2.2.2.1.length:Int)))))&&decide ((w64 (v3.1+((v3.2.2.2.2.2.2.2.2.1.length:Int))))<(v3.2.2.2.2.2.2.2.2.2.2.2.1.length:Int))) <|
  Option.bind (v3.2.2.2.2.2.2.2.2.2.2.2.1[(w64 (v3.1+((v3.2.2.2.2.2.2.2.2.1.length:Int)))).toNat]?) fun _=>
  again (v3.2.2.1,v3.2.2.2.1,w64 (v3.2.2.2.2.1+1),v3.2.2.2.2.2.1,v3.2.2.2.2.2.2.1,v3.2.2.2.2.2.2.2.1,v3.2.2.2.2.2.2.2.2.1,v3.2.2.2.2.2.2.2.2.2.1,v3.2.2.2.2.2.2.2.2.2.2.1,List.set v3.2.2.2.2.2.2.2.2.2.2.2.1 (w64 (v3.1+((v3.2.2.2.2.2.2.2.2.1.length:Int)))).toNat (lW v3.2.1),())
 else
  some (Sum.inr (x1.2.2.2.1,x1.2.2.2.2.1,x1.2.2.2.2.2.1,x1.2.2.2.2.2.2.1,x1.2.2.2.2.2.2.2.1,x1.2.2.2.2.2.2.2.2.1,x1.2.2.2.2.2.2.2.2.2.1,()))
def jR (a0:bQ) (a1:bQ):Option (bQ×Unit):=
 chk (decide (0<=(w64 (((a0.2.length:Int))+((a1.2.length:Int)))))&&decide ((w64 (((a0.2.length:Int))+((a1.2.length:Int))))<=(w64 (((a0.2.length:Int))+((a1.2.length:Int)))))&&decide ((4:Int)*(w64 (((a0.2.length:Int))+((a1.2.length:Int))))<=281474976710656)&&decide ((w64 (((a0.2.length:Int))+((a1.2.length:Int))))<=9223372036854775807)) <|
 aF (β:=(bQ×Unit)) (γ:=(Bool×(List Int)×Bool×(List Int)×Bool×(List Int)×(List Int)×Unit)) (
  iter (X:=gZ) (β:=nH) (a0.2.length+(Int.natAbs ((a0.2.length:Int))+(Int.natAbs (0:Int)+(a0.2.length+(a1.2.length+(List.length ([]:List Int)+(List.length ((List.replicate (Int.toNat (w64 (((a0.2.length:Int))+((a1.2.length:Int))))) 0):List Int)+2))))))) (a0.2,(a0.2.length:Int),0,a0.1,a0.2,a1.1,a1.2,false,[],List.replicate (Int.toNat (w64 (((a0.2.length:Int))+((a1.2.length:Int))))) 0,()) (jS)) fun v10=>
 Option.bind (gp (!(v10.1==v10.2.2.1)) v10.2.2.2.2.2.2.1) fun r11=>
 some (r11.1,())
abbrev sO:Type:=(List Int)×(List Int)×Int×(List Int)×Int×Int×Unit
abbrev sN:Type:=(((List Int)×Unit) ⊕ ((List Int)×Int×Unit))
def Iz (x1:sO) (again:sO->Option sN):Option sN:=
 bif decide (x1.2.2.2.2.2.1<x1.2.2.2.2.1) then
  Option.bind (idx x1.2.2.2.1 x1.2.2.2.2.2.1) fun y2=>
  aF (β:=(((List Int)×Unit) ⊕ ((List Int)×Int×Unit))) (γ:=((List Int)×(List Int)×Int×(List Int)×Int×Int×Unit)) (
   bif decide (x1.2.2.2.2.2.1<((x1.1.length:Int))) then
    Option.bind (idx x1.1 x1.2.2.2.2.2.1) fun y3=>
    let n4:Int:=bn ((bn (x1.2.2.1+(bn y2)))+(bn y3))
    some (Sum.inr (x1.1,x1.2.1,n4,x1.2.2.2.1,x1.2.2.2.2.1,x1.2.2.2.2.2.1,()))
   else
    some (Sum.inr (x1.1,x1.2.1,bn (x1.2.2.1+(bn y2)),x1.2.2.2.1,x1.2.2.2.2.1,x1.2.2.2.2.2.1,()))) fun v5=>
  chk (decide (((v5.2.1.length)+1)*4<=140737488355328)&&decide ((v5.2.1.length)+1<=maxLen)) <|
  again (v5.1,v5.2.1++[(lW v5.2.2.1)],Int.fdiv v5.2.2.1 (2 ^ 32),v5.2.2.2.1,v5.2.2.2.2.1,w64 (v5.2.2.2.2.2.1+1),())
 else
  some (Sum.inr (x1.2.1,x1.2.2.1,()))
def x7 (a0:List Int) (a1:List Int):Option ((List Int)×Unit):=
 aF (β:=((List Int)×Unit)) (γ:=((List Int)×(List Int)×Unit)) (
  bif decide (((List.length a0:Int))<((List.length a1:Int))) then
   some (Sum.inr (a1,a0,()))
  else
   some (Sum.inr (a0,a1,()))) fun v1=>
 chk (decide (0<=(0:Int))&&decide ((0:Int)<=(w64 (((v1.1.length:Int))+1)))&&decide ((4:Int)*(w64 (((v1.1.length:Int))+1))<=281474976710656)&&decide ((w64 (((v1.1.length:Int))+1))<=9223372036854775807)) <|
 aF (β:=((List Int)×Unit)) (γ:=((List Int)×Int×Unit)) (
  iter (X:=sO) (β:=sN) (v1.2.1.length+(List.length ([]:List Int)+(Int.natAbs (0:Int)+(v1.1.length+(Int.natAbs ((v1.1.length:Int))+(Int.natAbs (0:Int)+2)))))) (v1.2.1,[],0,v1.1,(v1.1.length:Int),0,()) (Iz)) fun v7=>
 chk (decide (((v7.1.length)+1)*4<=140737488355328)&&decide ((v7.1.length)+1<=maxLen)) <|
 some (v7.1++[(lW v7.2.1)],())
def kU (a0:bQ) (a1:bQ):Option (bQ×Unit):=
 bif a0.1==a1.1 then
  Option.bind (x7 a0.2 a1.2) fun r1=>
  Option.bind (gp a0.1 r1.1) fun r2=>
  some (r2.1,())
 else
  Option.bind (pQ a0.2 a1.2) fun r3=>
  bif decide (r3.1>=0) then
   Option.bind (rO a0.2 a1.2) fun r4=>
   Option.bind (gp a0.1 r4.1) fun r5=>
   some (r5.1,())
  else
   Option.bind (rO a1.2 a0.2) fun r6=>
   Option.bind (gp a1.1 r6.1) fun r7=>
   some (r7.1,())
end Go.Md
namespace Go.Md
open Go.Dn
def KG (n:Nat):List UInt8:=if n<10 then [UInt8.ofNat (48+n)] else [UInt8.ofNat (48+n / 10),UInt8.ofNat (48+n % 10)]
def strconv_Itoa (n:Int):Option (List UInt8×Unit):=bif decide (0<=n)&&decide (n<100) then some (KG n.toNat,()) else bif decide (-9223372036854775808<=n)&&decide (n<=9223372036854775807) then some (Lib.itoa n,()) else none
def strings_Repeat (s:List UInt8) (n:Int):Option (List UInt8×Unit):=bif decide (0<=n)&&(decide (n<=9223372036854775807)&&decide (s.length*n.toNat<=140737488355328)) then some (Lib.repeatL s n.toNat,()) else none
abbrev DT:Type:=Int×(List UInt8)×(List UInt8)×ah×ah×Int×ah×ah×ah×ah
abbrev kF:Type:=(List UInt8)×Int×Int×Int×Int×Unit
abbrev su:Type:=((Bool×Unit) ⊕ Unit)
def nV (x1:kF) (again:kF->Option su):Option su:=
 bif decide (x1.2.2.2.2.1<x1.2.2.2.1) then
  Option.bind (fP x1.1 x1.2.2.2.2.1) fun c2=>
  bif decide ((c2.toNat:Int)<x1.2.1) then
   some (Sum.inl (false,()))
  else
   Option.bind (fP x1.1 x1.2.2.2.2.1) fun c3=>
   bif decide ((c3.toNat:Int)>x1.2.2.1) then
    some (Sum.inl (false,()))
   else
    again (x1.1,x1.2.1,x1.2.2.1,x1.2.2.2.1,w64 (x1.2.2.2.2.1+1),())
 else
  some (Sum.inr ())
def xG (a0:List UInt8) (a1:Int) (a2:Int):Option (Bool×Unit):=
 aF (β:=(Bool×Unit)) (γ:=Unit) (
  iter (X:=kF) (β:=su) (List.length a0+(Int.natAbs a1+(Int.natAbs a2+(Int.natAbs ((List.length a0:Int))+(Int.natAbs (0:Int)+2))))) (a0,a1,a2,(List.length a0:Int),0,()) (nV)) fun _=>
 some (true,())
def kG (a0:List UInt8):Option (Bool×Unit):=
 bif !(a0==[]) then
  Option.bind (xG a0 48 57) fun r1=>
  some (r1.1,())
 else
  some (false,())
def jh (a0:ah) (a1:Bool):Option (Int×Unit):=
 Option.bind (dZ a0) fun r1=>
 bif r1.1 != 0 then
  some (r1.1,())
 else
  Option.bind (kL a0 3 1000000000) fun r2=>
  bif !r2.1 then
   some (1,())
  else
   bif a0.1==0 then
    bif !a1 then
     some (1,())
    else
     some (0,())
   else
    some (0,())
abbrev kO:Type:=(List UInt8)×Int×Int×Unit
abbrev sG:Type:=((Bool×Unit) ⊕ Unit)
def oa (x1:kO) (again:kO->Option sG):Option sG:=
 bif decide (x1.2.2.1<x1.2.1) then
  Option.bind (fP x1.1 x1.2.2.1) fun c2=>
  bif decide ((c2.toNat:Int)<48) then
   some (Sum.inl (false,()))
  else
   Option.bind (fP x1.1 x1.2.2.1) fun c3=>
   bif decide ((c3.toNat:Int)>57) then
    some (Sum.inl (false,()))
   else
    again (x1.1,x1.2.1,w64 (x1.2.2.1+1),())
 else
  some (Sum.inr ())
def iK (a0:List UInt8):Option (Bool×Unit):=
 bif a0==[] then
  some (false,())
 else
  aF (β:=(Bool×Unit)) (γ:=Unit) (
   iter (X:=kO) (β:=sG) (List.length a0+(Int.natAbs ((List.length a0:Int))+(Int.natAbs (0:Int)+2))) (a0,(List.length a0:Int),0,()) (oa)) fun _=>
  some (true,())
end Go.Md
namespace Go.Md
open Go.Dn
end Go.Md
namespace Go.Md
open Go.Dn
end Go.Md
