/-
  The plain models of the functions that the laws reach, fifth part. No condition.
-/
import Derived.Test.YtcpmaicaibdafaaGreatDoorZn
import Derived.Test.YtcpmaicaibdafaaGreatDoorZx
set_option linter.all false
namespace Go.Md
open Go.Dn
def vB (a0:aa):Option (Bool×Unit):=
 Option.bind (kI a0) fun r1=>
 some (!r1.1,())
def yj (a0:aa):Option (Bool×Unit):=
 Option.bind (kI a0) fun r1=>
 some (!r1.1,())
def Bl (a0:aa):Option (Bool×Unit):=
 Option.bind (kI a0) fun r1=>
 some (!r1.1,())
def xu (a0:aa):Option (Bool×Unit):=
 Option.bind (kI a0) fun r1=>
 some (!r1.1,())
abbrev ij:Type:=(List aa)×Unit×Int×Int×Unit
abbrev nc:Type:=((Int×Unit) ⊕ Unit)
def ig (x1:ij) (again:ij→Option nc):Option nc:=
 bif decide (x1.2.2.2.1<x1.2.2.1) then
  Option.bind (idx x1.1 x1.2.2.2.1) fun y2=>
  Option.bind (vB y2) fun r3=>
  bif r3.1 then
   some (Sum.inl (x1.2.2.2.1,()))
  else
   again (x1.1,x1.2.1,x1.2.2.1,w64 (x1.2.2.2.1+1),())
 else
  some (Sum.inr ())
def pI (a0:List aa) (a1:Unit):Option (Int×Unit):=
 aT (β:=(Int×Unit)) (γ:=Unit) (
  iter (X:=ij) (β:=nc) (List.length a0+(Int.natAbs ((List.length a0:Int))+(Int.natAbs (0:Int)+2))) (a0,a1,(List.length a0:Int),0,()) (ig)) fun _=>
 some ((-1),())
abbrev gh:Type:=(List aa)×Unit×Int×Int×Unit
abbrev lT:Type:=((Int×Unit) ⊕ Unit)
def gf (x1:gh) (again:gh→Option lT):Option lT:=
 bif decide (x1.2.2.2.1<x1.2.2.1) then
  Option.bind (idx x1.1 x1.2.2.2.1) fun y2=>
  Option.bind (yj y2) fun r3=>
  bif r3.1 then
   some (Sum.inl (x1.2.2.2.1,()))
  else
   again (x1.1,x1.2.1,x1.2.2.1,w64 (x1.2.2.2.1+1),())
 else
  some (Sum.inr ())
def nS (a0:List aa) (a1:Unit):Option (Int×Unit):=
 aT (β:=(Int×Unit)) (γ:=Unit) (
  iter (X:=gh) (β:=lT) (List.length a0+(Int.natAbs ((List.length a0:Int))+(Int.natAbs (0:Int)+2))) (a0,a1,(List.length a0:Int),0,()) (gf)) fun _=>
 some ((-1),())
abbrev gl:Type:=(List aa)×Unit×Int×Int×Unit
abbrev lU:Type:=((Int×Unit) ⊕ Unit)
def gj (x1:gl) (again:gl→Option lU):Option lU:=
 bif decide (x1.2.2.2.1<x1.2.2.1) then
  Option.bind (idx x1.1 x1.2.2.2.1) fun y2=>
  Option.bind (Bl y2) fun r3=>
  bif r3.1 then
   some (Sum.inl (x1.2.2.2.1,()))
  else
   again (x1.1,x1.2.1,x1.2.2.1,w64 (x1.2.2.2.1+1),())
 else
  some (Sum.inr ())
def nT (a0:List aa) (a1:Unit):Option (Int×Unit):=
 aT (β:=(Int×Unit)) (γ:=Unit) (
  iter (X:=gl) (β:=lU) (List.length a0+(Int.natAbs ((List.length a0:Int))+(Int.natAbs (0:Int)+2))) (a0,a1,(List.length a0:Int),0,()) (gj)) fun _=>
 some ((-1),())
abbrev gp:Type:=(List aa)×Unit×Int×Int×Unit
abbrev lV:Type:=((Int×Unit) ⊕ Unit)
def gm (x1:gp) (again:gp→Option lV):Option lV:=
 bif decide (x1.2.2.2.1<x1.2.2.1) then
  Option.bind (idx x1.1 x1.2.2.2.1) fun y2=>
  Option.bind (xu y2) fun r3=>
  bif r3.1 then
   some (Sum.inl (x1.2.2.2.1,()))
  else
   again (x1.1,x1.2.1,x1.2.2.1,w64 (x1.2.2.2.1+1),())
 else
  some (Sum.inr ())
def nU (a0:List aa) (a1:Unit):Option (Int×Unit):=
 aT (β:=(Int×Unit)) (γ:=Unit) (
  iter (X:=gp) (β:=lV) (List.length a0+(Int.natAbs ((List.length a0:Int))+(Int.natAbs (0:Int)+2))) (a0,a1,(List.length a0:Int),0,()) (gm)) fun _=>
 some ((-1),())
def jr (a0:List aa) (a1:Unit):Option (Bool×Unit):=
 Option.bind (pI a0 a1) fun r1=>
 some (decide (r1.1≥0),())
def bZ (a0:List aa) (a1:Unit):Option (Bool×Unit):=
 Option.bind (nS a0 a1) fun r1=>
 some (decide (r1.1≥0),())
def iX (a0:List aa) (a1:Unit):Option (Bool×Unit):=
 Option.bind (nT a0 a1) fun r1=>
 some (decide (r1.1≥0),())
def iY (a0:List aa) (a1:Unit):Option (Bool×Unit):=
 Option.bind (nU a0 a1) fun r1=>
 some (decide (r1.1≥0),())
noncomputable def ox (a0:List aa):Option ((List aa)×Unit):=
 bif List.isEmpty a0 then
  both (
   some ([],())) (
   chk (decide ((0+(List.length a0))*32≤140737488355328)&&decide (0+(List.length a0)≤maxLen)) <|
   some (a0,()))
 else
  chk (decide ((0+(List.length a0))*32≤140737488355328)&&decide (0+(List.length a0)≤maxLen)) <|
  some (a0,())
abbrev jm:Type:=(List au)×Int×Int×Bys×Bys×Int×Int×Int×Bool×(List aD)×(List au)×(List ax)×(List aa)×(List aJ)×(List aa)×(List Bool)×(List aa)×(List aa)×(List aa)×Unit
abbrev uH:Type:=((Int×(ah×(List aa)×(List aa)×(List aa)×(List aJ)×(List aa)×(List Bool)×(List aa)×Unit)×Unit) ⊕ (Bys×Bys×Int×Int×Int×Bool×(List aD)×(List au)×(List ax)×(List aa)×(List aJ)×(List aa)×(List Bool)×(List aa)×(List aa)×(List aa)×Unit))
noncomputable def lI (x1:jm) (again:jm→Option uH):Option uH:=
 bif decide (x1.2.2.1<x1.2.1) then
  Option.bind (idx x1.1 x1.2.2.1) fun y2=>
  Option.bind (KN (x1.2.2.2.1,x1.2.2.2.2.1,x1.2.2.2.2.2.1,x1.2.2.2.2.2.2.1,x1.2.2.2.2.2.2.2.1,x1.2.2.2.2.2.2.2.2.1,x1.2.2.2.2.2.2.2.2.2.1,x1.2.2.2.2.2.2.2.2.2.2.1,x1.2.2.2.2.2.2.2.2.2.2.2.1) y2) fun r3=>
  bif !r3.2.1 then
   some (Sum.inl (1,((x1.2.2.2.1,x1.2.2.2.2.1,x1.2.2.2.2.2.1,x1.2.2.2.2.2.2.1,x1.2.2.2.2.2.2.2.1,x1.2.2.2.2.2.2.2.2.1,x1.2.2.2.2.2.2.2.2.2.1,x1.2.2.2.2.2.2.2.2.2.2.1,x1.2.2.2.2.2.2.2.2.2.2.2.1),x1.2.2.2.2.2.2.2.2.2.2.2.2.1,x1.2.2.2.2.2.2.2.2.2.2.2.2.2.2.1,x1.2.2.2.2.2.2.2.2.2.2.2.2.2.2.2.2.1,x1.2.2.2.2.2.2.2.2.2.2.2.2.2.1,x1.2.2.2.2.2.2.2.2.2.2.2.2.2.2.2.2.2.1,x1.2.2.2.2.2.2.2.2.2.2.2.2.2.2.2.1,x1.2.2.2.2.2.2.2.2.2.2.2.2.2.2.2.2.2.2.1,()),()))
  else
   Option.bind (tC x1.2.2.2.2.2.2.2.2.2.1 y2.2.2.2.2.2.2.2.2) fun r4=>
   chk (decide (((x1.2.2.2.2.2.2.2.2.2.2.2.2.1.length)+1)*32≤140737488355328)&&decide ((x1.2.2.2.2.2.2.2.2.2.2.2.2.1.length)+1≤maxLen)) <|
   chk (decide (0≤r4.1)&&decide (r4.1<(x1.2.2.2.2.2.2.2.2.2.2.2.2.2.2.1.length:Int))) <|
   Option.bind (x1.2.2.2.2.2.2.2.2.2.2.2.2.2.2.1[r4.1.toNat]?) fun y5=>
   Option.bind (bf y5 r3.1) fun r6=>
   chk (decide (0≤r4.1)&&decide (r4.1<(x1.2.2.2.2.2.2.2.2.2.2.2.2.2.2.1.length:Int))) <|
   Option.bind (x1.2.2.2.2.2.2.2.2.2.2.2.2.2.2.1[r4.1.toNat]?) fun _=>
   chk (decide (((x1.2.2.2.2.2.2.2.2.2.2.2.2.2.1.length)+1)*40≤140737488355328)&&decide ((x1.2.2.2.2.2.2.2.2.2.2.2.2.2.1.length)+1≤maxLen)) <|
   chk (decide (0≤r4.1)&&decide (r4.1<(x1.2.2.2.2.2.2.2.2.2.2.2.2.2.2.2.1.length:Int))) <|
   Option.bind (x1.2.2.2.2.2.2.2.2.2.2.2.2.2.2.2.1[r4.1.toNat]?) fun _=>
   again (x1.1,x1.2.1,w64 (x1.2.2.1+1),x1.2.2.2.1,x1.2.2.2.2.1,x1.2.2.2.2.2.1,x1.2.2.2.2.2.2.1,x1.2.2.2.2.2.2.2.1,x1.2.2.2.2.2.2.2.2.1,x1.2.2.2.2.2.2.2.2.2.1,x1.2.2.2.2.2.2.2.2.2.2.1,x1.2.2.2.2.2.2.2.2.2.2.2.1,x1.2.2.2.2.2.2.2.2.2.2.2.2.1++[r3.1],x1.2.2.2.2.2.2.2.2.2.2.2.2.2.1++[(r4.1,r3.1)],List.set x1.2.2.2.2.2.2.2.2.2.2.2.2.2.2.1 r4.1.toNat r6.1,List.set x1.2.2.2.2.2.2.2.2.2.2.2.2.2.2.2.1 r4.1.toNat true,x1.2.2.2.2.2.2.2.2.2.2.2.2.2.2.2.2.1,x1.2.2.2.2.2.2.2.2.2.2.2.2.2.2.2.2.2.1,x1.2.2.2.2.2.2.2.2.2.2.2.2.2.2.2.2.2.2.1,())
 else
  some (Sum.inr (x1.2.2.2.1,x1.2.2.2.2.1,x1.2.2.2.2.2.1,x1.2.2.2.2.2.2.1,x1.2.2.2.2.2.2.2.1,x1.2.2.2.2.2.2.2.2.1,x1.2.2.2.2.2.2.2.2.2.1,x1.2.2.2.2.2.2.2.2.2.2.1,x1.2.2.2.2.2.2.2.2.2.2.2.1,x1.2.2.2.2.2.2.2.2.2.2.2.2.1,x1.2.2.2.2.2.2.2.2.2.2.2.2.2.1,x1.2.2.2.2.2.2.2.2.2.2.2.2.2.2.1,x1.2.2.2.2.2.2.2.2.2.2.2.2.2.2.2.1,x1.2.2.2.2.2.2.2.2.2.2.2.2.2.2.2.2.1,x1.2.2.2.2.2.2.2.2.2.2.2.2.2.2.2.2.2.1,x1.2.2.2.2.2.2.2.2.2.2.2.2.2.2.2.2.2.2.1,()))
noncomputable def oC (a0:ah×(List aa)×(List aa)×(List aa)×(List aJ)×(List aa)×(List Bool)×(List aa)×Unit):Option (Int×(ah×(List aa)×(List aa)×(List aa)×(List aJ)×(List aa)×(List Bool)×(List aa)×Unit)×Unit):=
 chk (decide (0≤((a0.1.2.2.2.2.2.2.1.length:Int)))&&decide (((a0.1.2.2.2.2.2.2.1.length:Int))≤((a0.1.2.2.2.2.2.2.1.length:Int)))&&decide ((32:Int)*((a0.1.2.2.2.2.2.2.1.length:Int))≤281474976710656)&&decide (((a0.1.2.2.2.2.2.2.1.length:Int))≤9223372036854775807)) <|
 chk (decide (0≤((a0.1.2.2.2.2.2.2.1.length:Int)))&&decide (((a0.1.2.2.2.2.2.2.1.length:Int))≤((a0.1.2.2.2.2.2.2.1.length:Int)))&&decide ((1:Int)*((a0.1.2.2.2.2.2.2.1.length:Int))≤281474976710656)&&decide (((a0.1.2.2.2.2.2.2.1.length:Int))≤9223372036854775807)) <|
 aT (β:=(Int×(ah×(List aa)×(List aa)×(List aa)×(List aJ)×(List aa)×(List Bool)×(List aa)×Unit)×Unit)) (γ:=(Bys×Bys×Int×Int×Int×Bool×(List aD)×(List au)×(List ax)×(List aa)×(List aJ)×(List aa)×(List Bool)×(List aa)×(List aa)×(List aa)×Unit)) (
  iter (X:=jm) (β:=uH) (a0.1.2.2.2.2.2.2.2.1.length+(Int.natAbs ((a0.1.2.2.2.2.2.2.2.1.length:Int))+(Int.natAbs (0:Int)+(a0.1.1.length+(a0.1.2.1.length+(a0.1.2.2.1.natAbs+(a0.1.2.2.2.1.natAbs+(a0.1.2.2.2.2.1.natAbs+(a0.1.2.2.2.2.2.2.1.length+(a0.1.2.2.2.2.2.2.2.1.length+(a0.1.2.2.2.2.2.2.2.2.length+(a0.2.1.length+(a0.2.2.2.2.1.length+(List.length ((List.replicate (Int.toNat ((a0.1.2.2.2.2.2.2.1.length:Int))) (false,[]):List (aa)):List aa)+(List.length ((List.replicate (Int.toNat ((a0.1.2.2.2.2.2.2.1.length:Int))) false:List (Bool)):List Bool)+(a0.2.2.2.1.length+(a0.2.2.2.2.2.1.length+(a0.2.2.2.2.2.2.2.1.length+2)))))))))))))))))) (a0.1.2.2.2.2.2.2.2.1,(a0.1.2.2.2.2.2.2.2.1.length:Int),0,a0.1.1,a0.1.2.1,a0.1.2.2.1,a0.1.2.2.2.1,a0.1.2.2.2.2.1,a0.1.2.2.2.2.2.1,a0.1.2.2.2.2.2.2.1,a0.1.2.2.2.2.2.2.2.1,a0.1.2.2.2.2.2.2.2.2,a0.2.1,a0.2.2.2.2.1,(List.replicate (Int.toNat ((a0.1.2.2.2.2.2.2.1.length:Int))) (false,[]):List (aa)),(List.replicate (Int.toNat ((a0.1.2.2.2.2.2.2.1.length:Int))) false:List (Bool)),a0.2.2.2.1,a0.2.2.2.2.2.1,a0.2.2.2.2.2.2.2.1,()) (lI)) fun v9=>
 Option.bind (jr v9.2.2.2.2.2.2.2.2.2.2.2.1 ()) fun r10=>
 bif r10.1 then
  some (1,((v9.1,v9.2.1,v9.2.2.1,v9.2.2.2.1,v9.2.2.2.2.1,v9.2.2.2.2.2.1,v9.2.2.2.2.2.2.1,v9.2.2.2.2.2.2.2.1,v9.2.2.2.2.2.2.2.2.1),v9.2.2.2.2.2.2.2.2.2.1,v9.2.2.2.2.2.2.2.2.2.2.2.1,v9.2.2.2.2.2.2.2.2.2.2.2.2.2.1,v9.2.2.2.2.2.2.2.2.2.2.1,v9.2.2.2.2.2.2.2.2.2.2.2.2.2.2.1,v9.2.2.2.2.2.2.2.2.2.2.2.2.1,v9.2.2.2.2.2.2.2.2.2.2.2.2.2.2.2.1,()),())
 else
  Option.bind (ox v9.2.2.2.2.2.2.2.2.2.2.2.1) fun r11=>
  some (0,((v9.1,v9.2.1,v9.2.2.1,v9.2.2.2.1,v9.2.2.2.2.1,v9.2.2.2.2.2.1,v9.2.2.2.2.2.2.1,v9.2.2.2.2.2.2.2.1,v9.2.2.2.2.2.2.2.2.1),v9.2.2.2.2.2.2.2.2.2.1,v9.2.2.2.2.2.2.2.2.2.2.2.1,r11.1,v9.2.2.2.2.2.2.2.2.2.2.1,v9.2.2.2.2.2.2.2.2.2.2.2.2.2.2.1,v9.2.2.2.2.2.2.2.2.2.2.2.2.1,v9.2.2.2.2.2.2.2.2.2.2.2.2.2.2.2.1,()),())
def gR (a0:ah×(List aa)×(List aa)×(List aa)×(List aJ)×(List aa)×(List Bool)×(List aa)×Unit) (a1:Int) (a2:aa):Option ((ah×(List aa)×(List aa)×(List aa)×(List aJ)×(List aa)×(List Bool)×(List aa)×Unit)×Unit):=
 chk (decide (0≤a1)&&decide (a1<(a0.2.2.2.1.length:Int))) <|
 Option.bind (a0.2.2.2.1[a1.toNat]?) fun y1=>
 Option.bind (bf y1 a2) fun r2=>
 chk (decide (0≤a1)&&decide (a1<(a0.2.2.2.1.length:Int))) <|
 Option.bind (a0.2.2.2.1[a1.toNat]?) fun _=>
 chk (decide (((a0.2.2.2.2.1.length)+1)*40≤140737488355328)&&decide ((a0.2.2.2.2.1.length)+1≤maxLen)) <|
 some ((a0.1,a0.2.1,a0.2.2.1,List.set a0.2.2.2.1 a1.toNat r2.1,a0.2.2.2.2.1++[(a1,a2)],a0.2.2.2.2.2.1,a0.2.2.2.2.2.2.1,a0.2.2.2.2.2.2.2.1,()),())
def Be (a0:aa):Option (aa×Unit):=
 Option.bind (jZ false a0.2) fun r1=>
 some (r1.1,())
def xo (a0:Int):Option (Bool×Unit):=
 some (decide (a0>1000000000),())
abbrev jK:Type:=(List Int)×Unit×Int×Int×Unit
abbrev qU:Type:=((Int×Unit) ⊕ Unit)
def jJ (x1:jK) (again:jK→Option qU):Option qU:=
 bif decide (x1.2.2.2.1<x1.2.2.1) then
  Option.bind (idx x1.1 x1.2.2.2.1) fun y2=>
  Option.bind (xo y2) fun r3=>
  bif r3.1 then
   some (Sum.inl (x1.2.2.2.1,()))
  else
   again (x1.1,x1.2.1,x1.2.2.1,w64 (x1.2.2.2.1+1),())
 else
  some (Sum.inr ())
def uX (a0:List Int) (a1:Unit):Option (Int×Unit):=
 aT (β:=(Int×Unit)) (γ:=Unit) (
  iter (X:=jK) (β:=qU) (List.length a0+(Int.natAbs ((List.length a0:Int))+(Int.natAbs (0:Int)+2))) (a0,a1,(List.length a0:Int),0,()) (jJ)) fun _=>
 some ((-1),())
def jH (a0:List Int) (a1:Unit):Option (Bool×Unit):=
 Option.bind (uX a0 a1) fun r1=>
 some (decide (r1.1≥0),())
abbrev oe:Type:=Int×(List Int)×Int×Int×Unit
abbrev tu:Type:=((Int×Unit) ⊕ (Int×Unit))
def oc (x1:oe) (again:oe→Option tu):Option tu:=
 bif decide (x1.2.2.2.1<x1.2.2.1) then
  Option.bind (idx x1.2.1 x1.2.2.2.1) fun y2=>
  Option.bind (b8 y2 0 1000000000) fun r3=>
  bif r3.1 then
   some (Sum.inl (1,()))
  else
   again (w64 (x1.1+y2),x1.2.1,x1.2.2.1,w64 (x1.2.2.2.1+1),())
 else
  some (Sum.inr (x1.1,()))
def rA (a0:List Int):Option (Int×Unit):=
 bif ((List.length a0:Int))==0 then
  some (9,())
 else
  bif decide (((List.length a0:Int))>1000) then
   some (2,())
  else
   aT (β:=(Int×Unit)) (γ:=(Int×Unit)) (
    iter (X:=oe) (β:=tu) (Int.natAbs (0:Int)+(List.length a0+(Int.natAbs ((List.length a0:Int))+(Int.natAbs (0:Int)+2)))) (0,a0,(List.length a0:Int),0,()) (oc)) fun v4=>
   bif v4.1==0 then
    some (13,())
   else
    some (0,())
def l7 (a0:ak) (a1:ak):Option (Int×Unit):=
 Option.bind (kH a1.2.2 a0.2.2) fun r1=>
 some (r1.1,())
abbrev eC:Type:=Int×Int×Unit×Int×Int×(List ak)×Unit
abbrev er:Type:=((((List ak)×Unit) ⊕ ((List ak)×Unit)) ⊕ (Int×Int×Unit×Int×(List ak)×Unit))
def ef (x1:eC) (again:eC→Option er):Option er:=
 bif decide (x1.2.2.2.2.1>x1.1) then
  chk (decide (0≤x1.2.2.2.2.1)&&decide (x1.2.2.2.2.1<(x1.2.2.2.2.2.1.length:Int))) <|
  Option.bind (x1.2.2.2.2.2.1[x1.2.2.2.2.1.toNat]?) fun y2=>
  chk (decide (0≤(w64 (x1.2.2.2.2.1 - 1)))&&decide ((w64 (x1.2.2.2.2.1 - 1))<(x1.2.2.2.2.2.1.length:Int))) <|
  Option.bind (x1.2.2.2.2.2.1[(w64 (x1.2.2.2.2.1 - 1)).toNat]?) fun y3=>
  Option.bind (l7 y2 y3) fun r4=>
  bif decide (r4.1<0) then
   chk (decide (0≤(w64 (x1.2.2.2.2.1 - 1)))&&decide ((w64 (x1.2.2.2.2.1 - 1))<(x1.2.2.2.2.2.1.length:Int))) <|
   Option.bind (x1.2.2.2.2.2.1[(w64 (x1.2.2.2.2.1 - 1)).toNat]?) fun y5=>
   chk (decide (0≤x1.2.2.2.2.1)&&decide (x1.2.2.2.2.1<(x1.2.2.2.2.2.1.length:Int))) <|
   Option.bind (x1.2.2.2.2.2.1[x1.2.2.2.2.1.toNat]?) fun y6=>
   chk (decide (0≤x1.2.2.2.2.1)&&decide (x1.2.2.2.2.1<(x1.2.2.2.2.2.1.length:Int))) <|
   Option.bind (x1.2.2.2.2.2.1[x1.2.2.2.2.1.toNat]?) fun _=>
   chk (decide (0≤(w64 (x1.2.2.2.2.1 - 1)))&&decide ((w64 (x1.2.2.2.2.1 - 1))<(List.length (List.set x1.2.2.2.2.2.1 x1.2.2.2.2.1.toNat y5):Int))) <|
   Option.bind ((List.set x1.2.2.2.2.2.1 x1.2.2.2.2.1.toNat y5)[(w64 (x1.2.2.2.2.1 - 1)).toNat]?) fun _=>
   again (x1.1,x1.2.1,x1.2.2.1,x1.2.2.2.1,w64 (x1.2.2.2.2.1 - 1),List.set (List.set x1.2.2.2.2.2.1 x1.2.2.2.2.1.toNat y5) (w64 (x1.2.2.2.2.1 - 1)).toNat y6,())
  else
   some (Sum.inr (x1.1,x1.2.1,x1.2.2.1,x1.2.2.2.1,x1.2.2.2.2.2.1,()))
 else
  some (Sum.inr (x1.1,x1.2.1,x1.2.2.1,x1.2.2.2.1,x1.2.2.2.2.2.1,()))
abbrev eA:Type:=Int×Int×Unit×Int×(List ak)×Unit
abbrev eo:Type:=(((List ak)×Unit) ⊕ ((List ak)×Unit))
def cL (x1:eA) (again:eA→Option eo):Option eo:=
 bif decide (x1.2.2.2.1<x1.2.1) then
  aT (β:=(((List ak)×Unit) ⊕ ((List ak)×Unit))) (γ:=(Int×Int×Unit×Int×(List ak)×Unit)) (
   iter (X:=eC) (β:=er) (x1.1.natAbs+(x1.2.1.natAbs+(x1.2.2.2.1.natAbs+(x1.2.2.2.1.natAbs+(x1.2.2.2.2.1.length+2))))) (x1.1,x1.2.1,x1.2.2.1,x1.2.2.2.1,x1.2.2.2.1,x1.2.2.2.2.1,()) (ef)) fun v2=>
  again (v2.1,v2.2.1,v2.2.2.1,w64 (v2.2.2.2.1+1),v2.2.2.2.2.1,())
 else
  some (Sum.inr (x1.2.2.2.2.1,()))
def dn (a0:List ak) (a1:Int) (a2:Int) (a3:Unit):Option ((List ak)×Unit):=
 aT (β:=((List ak)×Unit)) (γ:=((List ak)×Unit)) (
  iter (X:=eA) (β:=eo) (Int.natAbs a1+(Int.natAbs a2+(Int.natAbs (w64 (a1+1))+(List.length a0+2)))) (a1,a2,a3,w64 (a1+1),a0,()) (cL)) fun v11=>
 some (v11.1,())
abbrev fA:Type:=Int×Int×Int×Int×(List ak)×Unit
abbrev fq:Type:=(((List ak)×Unit) ⊕ ((List ak)×Unit))
def fo (x1:fA) (again:fA→Option fq):Option fq:=
 bif decide (x1.2.2.2.1<x1.2.2.1) then
  chk (decide (0≤(w64 (x1.2.1+x1.2.2.2.1)))&&decide ((w64 (x1.2.1+x1.2.2.2.1))<(x1.2.2.2.2.1.length:Int))) <|
  Option.bind (x1.2.2.2.2.1[(w64 (x1.2.1+x1.2.2.2.1)).toNat]?) fun y2=>
  chk (decide (0≤(w64 (x1.1+x1.2.2.2.1)))&&decide ((w64 (x1.1+x1.2.2.2.1))<(x1.2.2.2.2.1.length:Int))) <|
  Option.bind (x1.2.2.2.2.1[(w64 (x1.1+x1.2.2.2.1)).toNat]?) fun y3=>
  chk (decide (0≤(w64 (x1.1+x1.2.2.2.1)))&&decide ((w64 (x1.1+x1.2.2.2.1))<(x1.2.2.2.2.1.length:Int))) <|
  Option.bind (x1.2.2.2.2.1[(w64 (x1.1+x1.2.2.2.1)).toNat]?) fun _=>
  chk (decide (0≤(w64 (x1.2.1+x1.2.2.2.1)))&&decide ((w64 (x1.2.1+x1.2.2.2.1))<(List.length (List.set x1.2.2.2.2.1 (w64 (x1.1+x1.2.2.2.1)).toNat y2):Int))) <|
  Option.bind ((List.set x1.2.2.2.2.1 (w64 (x1.1+x1.2.2.2.1)).toNat y2)[(w64 (x1.2.1+x1.2.2.2.1)).toNat]?) fun _=>
  again (x1.1,x1.2.1,x1.2.2.1,w64 (x1.2.2.2.1+1),List.set (List.set x1.2.2.2.2.1 (w64 (x1.1+x1.2.2.2.1)).toNat y2) (w64 (x1.2.1+x1.2.2.2.1)).toNat y3,())
 else
  some (Sum.inr (x1.2.2.2.2.1,()))
def cW (a0:List ak) (a1:Int) (a2:Int) (a3:Int) (_a4:Unit):Option ((List ak)×Unit):=
 aT (β:=((List ak)×Unit)) (γ:=((List ak)×Unit)) (
  iter (X:=fA) (β:=fq) (Int.natAbs a1+(Int.natAbs a2+(Int.natAbs a3+(Int.natAbs (0:Int)+(List.length a0+2))))) (a1,a2,a3,0,a0,()) (fo)) fun v6=>
 some (v6.1,())
abbrev gE:Type:=Int×Unit×Int×Int×(List ak)×Unit
abbrev gD:Type:=(((List ak)×Unit) ⊕ (Int×Unit×Int×(List ak)×Unit))
def gC (x1:gE) (again:gE→Option gD):Option gD:=
 bif x1.2.2.1 != x1.2.2.2.1 then
  bif decide (x1.2.2.1>x1.2.2.2.1) then
   Option.bind (cW x1.2.2.2.2.1 (w64 (x1.1 - x1.2.2.1)) x1.1 x1.2.2.2.1 x1.2.1) fun r2=>
   again (x1.1,x1.2.1,w64 (x1.2.2.1 - x1.2.2.2.1),x1.2.2.2.1,r2.1,())
  else
   Option.bind (cW x1.2.2.2.2.1 (w64 (x1.1 - x1.2.2.1)) (w64 ((w64 (x1.1+x1.2.2.2.1)) - x1.2.2.1)) x1.2.2.1 x1.2.1) fun r3=>
   again (x1.1,x1.2.1,x1.2.2.1,w64 (x1.2.2.2.1 - x1.2.2.1),r3.1,())
 else
  some (Sum.inr (x1.1,x1.2.1,x1.2.2.1,x1.2.2.2.2.1,()))
def iJ (a0:List ak) (a1:Int) (a2:Int) (a3:Int) (a4:Unit):Option ((List ak)×Unit):=
 aT (β:=((List ak)×Unit)) (γ:=(Int×Unit×Int×(List ak)×Unit)) (
  iter (X:=gE) (β:=gD) (Int.natAbs a2+(Int.natAbs (w64 (a2 - a1))+(Int.natAbs (w64 (a3 - a2))+(List.length a0+2)))) (a2,a4,w64 (a2 - a1),w64 (a3 - a2),a0,()) (gC)) fun v4=>
 Option.bind (cW v4.2.2.2.1 (w64 (v4.1 - v4.2.2.1)) v4.1 v4.2.2.1 v4.2.1) fun r5=>
 some (r5.1,())
abbrev fO:Type:=Int×Unit×Int×Int×(List ak)×Unit
abbrev fM:Type:=(((List ak)×Unit) ⊕ (Int×Int×(List ak)×Unit))
def dK (x1:fO) (again:fO→Option fM):Option fM:=
 bif decide (x1.2.2.1<x1.2.2.2.1) then
  let n2:Int:=w64 (Int.fdiv (cw (w64 (x1.2.2.1+x1.2.2.2.1))) (2 ^ 1))
  chk (decide (0≤n2)&&decide (n2<(x1.2.2.2.2.1.length:Int))) <|
  Option.bind (x1.2.2.2.2.1[n2.toNat]?) fun y3=>
  chk (decide (0≤x1.1)&&decide (x1.1<(x1.2.2.2.2.1.length:Int))) <|
  Option.bind (x1.2.2.2.2.1[x1.1.toNat]?) fun y4=>
  Option.bind (l7 y3 y4) fun r5=>
  bif decide (r5.1<0) then
   again (x1.1,x1.2.1,w64 (n2+1),x1.2.2.2.1,x1.2.2.2.2.1,())
  else
   again (x1.1,x1.2.1,x1.2.2.1,n2,x1.2.2.2.2.1,())
 else
  some (Sum.inr (x1.1,x1.2.2.1,x1.2.2.2.2.1,()))
abbrev fP:Type:=Int×Int×(List ak)×Unit
abbrev fN:Type:=(((List ak)×Unit) ⊕ ((List ak)×Unit))
def fL (x1:fP) (again:fP→Option fN):Option fN:=
 bif decide (x1.2.1<(w64 (x1.1 - 1))) then
  chk (decide (0≤(w64 (x1.2.1+1)))&&decide ((w64 (x1.2.1+1))<(x1.2.2.1.length:Int))) <|
  Option.bind (x1.2.2.1[(w64 (x1.2.1+1)).toNat]?) fun y2=>
  chk (decide (0≤x1.2.1)&&decide (x1.2.1<(x1.2.2.1.length:Int))) <|
  Option.bind (x1.2.2.1[x1.2.1.toNat]?) fun y3=>
  chk (decide (0≤x1.2.1)&&decide (x1.2.1<(x1.2.2.1.length:Int))) <|
  Option.bind (x1.2.2.1[x1.2.1.toNat]?) fun _=>
  chk (decide (0≤(w64 (x1.2.1+1)))&&decide ((w64 (x1.2.1+1))<(List.length (List.set x1.2.2.1 x1.2.1.toNat y2):Int))) <|
  Option.bind ((List.set x1.2.2.1 x1.2.1.toNat y2)[(w64 (x1.2.1+1)).toNat]?) fun _=>
  again (x1.1,w64 (x1.2.1+1),List.set (List.set x1.2.2.1 x1.2.1.toNat y2) (w64 (x1.2.1+1)).toNat y3,())
 else
  some (Sum.inr (x1.2.2.1,()))
abbrev fF:Type:=Int×Unit×Int×Int×(List ak)×Unit
abbrev fC:Type:=(((List ak)×Unit) ⊕ (Int×Int×(List ak)×Unit))
def dz (x1:fF) (again:fF→Option fC):Option fC:=
 bif decide (x1.2.2.1<x1.2.2.2.1) then
  let n2:Int:=w64 (Int.fdiv (cw (w64 (x1.2.2.1+x1.2.2.2.1))) (2 ^ 1))
  chk (decide (0≤x1.1)&&decide (x1.1<(x1.2.2.2.2.1.length:Int))) <|
  Option.bind (x1.2.2.2.2.1[x1.1.toNat]?) fun y3=>
  chk (decide (0≤n2)&&decide (n2<(x1.2.2.2.2.1.length:Int))) <|
  Option.bind (x1.2.2.2.2.1[n2.toNat]?) fun y4=>
  Option.bind (l7 y3 y4) fun r5=>
  bif !(decide (r5.1<0)) then
   again (x1.1,x1.2.1,w64 (n2+1),x1.2.2.2.1,x1.2.2.2.2.1,())
  else
   again (x1.1,x1.2.1,x1.2.2.1,n2,x1.2.2.2.2.1,())
 else
  some (Sum.inr (x1.1,x1.2.2.1,x1.2.2.2.2.1,()))
abbrev fG:Type:=Int×Int×(List ak)×Unit
abbrev fD:Type:=(((List ak)×Unit) ⊕ ((List ak)×Unit))
def fB (x1:fG) (again:fG→Option fD):Option fD:=
 bif decide (x1.2.1>x1.1) then
  chk (decide (0≤(w64 (x1.2.1 - 1)))&&decide ((w64 (x1.2.1 - 1))<(x1.2.2.1.length:Int))) <|
  Option.bind (x1.2.2.1[(w64 (x1.2.1 - 1)).toNat]?) fun y2=>
  chk (decide (0≤x1.2.1)&&decide (x1.2.1<(x1.2.2.1.length:Int))) <|
  Option.bind (x1.2.2.1[x1.2.1.toNat]?) fun y3=>
  chk (decide (0≤x1.2.1)&&decide (x1.2.1<(x1.2.2.1.length:Int))) <|
  Option.bind (x1.2.2.1[x1.2.1.toNat]?) fun _=>
  chk (decide (0≤(w64 (x1.2.1 - 1)))&&decide ((w64 (x1.2.1 - 1))<(List.length (List.set x1.2.2.1 x1.2.1.toNat y2):Int))) <|
  Option.bind ((List.set x1.2.2.1 x1.2.1.toNat y2)[(w64 (x1.2.1 - 1)).toNat]?) fun _=>
  again (x1.1,w64 (x1.2.1 - 1),List.set (List.set x1.2.2.1 x1.2.1.toNat y2) (w64 (x1.2.1 - 1)).toNat y3,())
 else
  some (Sum.inr (x1.2.2.1,()))
abbrev fH:Type:=Int×Int×Int×Unit×Int×Int×Int×Int×Int×(List ak)×Unit
abbrev fE:Type:=(((List ak)×Unit) ⊕ (Int×Int×Int×Unit×Int×Int×Int×(List ak)×Unit))
def dA (x1:fH) (again:fH→Option fE):Option fE:=
 bif decide (x1.2.2.2.2.2.2.1<x1.2.2.2.2.2.2.2.1) then
  let n2:Int:=w64 (Int.fdiv (cw (w64 (x1.2.2.2.2.2.2.1+x1.2.2.2.2.2.2.2.1))) (2 ^ 1))
  chk (decide (0≤(w64 (x1.2.2.2.2.2.2.2.2.1 - n2)))&&decide ((w64 (x1.2.2.2.2.2.2.2.2.1 - n2))<(x1.2.2.2.2.2.2.2.2.2.1.length:Int))) <|
  Option.bind (x1.2.2.2.2.2.2.2.2.2.1[(w64 (x1.2.2.2.2.2.2.2.2.1 - n2)).toNat]?) fun y3=>
  chk (decide (0≤n2)&&decide (n2<(x1.2.2.2.2.2.2.2.2.2.1.length:Int))) <|
  Option.bind (x1.2.2.2.2.2.2.2.2.2.1[n2.toNat]?) fun y4=>
  Option.bind (l7 y3 y4) fun r5=>
  bif !(decide (r5.1<0)) then
   again (x1.1,x1.2.1,x1.2.2.1,x1.2.2.2.1,x1.2.2.2.2.1,x1.2.2.2.2.2.1,w64 (n2+1),x1.2.2.2.2.2.2.2.1,x1.2.2.2.2.2.2.2.2.1,x1.2.2.2.2.2.2.2.2.2.1,())
  else
   again (x1.1,x1.2.1,x1.2.2.1,x1.2.2.2.1,x1.2.2.2.2.1,x1.2.2.2.2.2.1,x1.2.2.2.2.2.2.1,n2,x1.2.2.2.2.2.2.2.2.1,x1.2.2.2.2.2.2.2.2.2.1,())
 else
  some (Sum.inr (x1.1,x1.2.1,x1.2.2.1,x1.2.2.2.1,x1.2.2.2.2.1,x1.2.2.2.2.2.1,x1.2.2.2.2.2.2.1,x1.2.2.2.2.2.2.2.2.2.1,()))
def cn (self:((List ak)×Int×Int×Int×Unit×Unit)→Option ((List ak)×Unit)) (a0:List ak) (a1:Int) (a2:Int) (a3:Int) (a4:Unit):Option ((List ak)×Unit):=
 bif (w64 (a2 - a1))==1 then
  aT (β:=((List ak)×Unit)) (γ:=(Int×Int×(List ak)×Unit)) (
   iter (X:=fO) (β:=fM) (Int.natAbs a1+(Int.natAbs a2+(Int.natAbs a3+(List.length a0+2)))) (a1,a4,a2,a3,a0,()) (dK)) fun v6=>
  aT (β:=((List ak)×Unit)) (γ:=((List ak)×Unit)) (
   iter (X:=fP) (β:=fN) (v6.2.1.natAbs+(v6.1.natAbs+(v6.2.2.1.length+2))) (v6.2.1,v6.1,v6.2.2.1,()) (fL)) fun v12=>
  some (v12.1,())
 else
  bif (w64 (a3 - a2))==1 then
   aT (β:=((List ak)×Unit)) (γ:=(Int×Int×(List ak)×Unit)) (
    iter (X:=fF) (β:=fC) (Int.natAbs a2+(Int.natAbs a1+(Int.natAbs a2+(List.length a0+2)))) (a2,a4,a1,a2,a0,()) (dz)) fun v18=>
   aT (β:=((List ak)×Unit)) (γ:=((List ak)×Unit)) (
    iter (X:=fG) (β:=fD) (v18.2.1.natAbs+(v18.1.natAbs+(v18.2.2.1.length+2))) (v18.2.1,v18.1,v18.2.2.1,()) (fB)) fun v24=>
   some (v24.1,())
  else
   let n25:Int:=w64 (Int.fdiv (cw (w64 (a1+a3))) (2 ^ 1))
   aT (β:=((List ak)×Unit)) (γ:=(Int×Int×Int×Unit×Int×Int×Int×Int×(List ak)×Unit)) (
    bif decide (a2>n25) then
     some (Sum.inr (a1,a2,a3,a4,n25,w64 (n25+a2),w64 ((w64 (n25+a2)) - a3),n25,a0,()))
    else
     some (Sum.inr (a1,a2,a3,a4,n25,w64 (n25+a2),a1,a2,a0,()))) fun v26=>
   aT (β:=((List ak)×Unit)) (γ:=(Int×Int×Int×Unit×Int×Int×Int×(List ak)×Unit)) (
    iter (X:=fH) (β:=fE) (v26.1.natAbs+(v26.2.1.natAbs+(v26.2.2.1.natAbs+(v26.2.2.2.2.1.natAbs+(v26.2.2.2.2.2.1.natAbs+(v26.2.2.2.2.2.2.1.natAbs+(v26.2.2.2.2.2.2.2.1.natAbs+(Int.natAbs (w64 (v26.2.2.2.2.2.1 - 1))+(v26.2.2.2.2.2.2.2.2.1.length+2))))))))) (v26.1,v26.2.1,v26.2.2.1,v26.2.2.2.1,v26.2.2.2.2.1,v26.2.2.2.2.2.1,v26.2.2.2.2.2.2.1,v26.2.2.2.2.2.2.2.1,w64 (v26.2.2.2.2.2.1 - 1),v26.2.2.2.2.2.2.2.2.1,()) (dA)) fun v32=>
   bif decide (v32.2.2.2.2.2.2.1<v32.2.1) then
    aT (β:=((List ak)×Unit)) (γ:=(Int×Int×Unit×Int×Int×Int×(List ak)×Unit)) (
     bif decide (v32.2.1<(w64 (v32.2.2.2.2.2.1 - v32.2.2.2.2.2.2.1))) then
      Option.bind (iJ v32.2.2.2.2.2.2.2.1 v32.2.2.2.2.2.2.1 v32.2.1 (w64 (v32.2.2.2.2.2.1 - v32.2.2.2.2.2.2.1)) v32.2.2.2.1) fun r33=>
      some (Sum.inr (v32.1,v32.2.2.1,v32.2.2.2.1,v32.2.2.2.2.1,v32.2.2.2.2.2.2.1,w64 (v32.2.2.2.2.2.1 - v32.2.2.2.2.2.2.1),r33.1,()))
     else
      some (Sum.inr (v32.1,v32.2.2.1,v32.2.2.2.1,v32.2.2.2.2.1,v32.2.2.2.2.2.2.1,w64 (v32.2.2.2.2.2.1 - v32.2.2.2.2.2.2.1),v32.2.2.2.2.2.2.2.1,()))) fun v34=>
    bif decide (v34.1<v34.2.2.2.2.1) then
     aT (β:=((List ak)×Unit)) (γ:=(Int×Unit×Int×Int×(List ak)×Unit)) (
      bif decide (v34.2.2.2.2.1<v34.2.2.2.1) then
       Option.bind (self (v34.2.2.2.2.2.2.1,v34.1,v34.2.2.2.2.1,v34.2.2.2.1,v34.2.2.1,())) fun r35=>
       some (Sum.inr (v34.2.1,v34.2.2.1,v34.2.2.2.1,v34.2.2.2.2.2.1,r35.1,()))
      else
       some (Sum.inr (v34.2.1,v34.2.2.1,v34.2.2.2.1,v34.2.2.2.2.2.1,v34.2.2.2.2.2.2.1,()))) fun v36=>
     bif decide (v36.2.2.1<v36.2.2.2.1) then
      bif decide (v36.2.2.2.1<v36.1) then
       Option.bind (self (v36.2.2.2.2.1,v36.2.2.1,v36.2.2.2.1,v36.1,v36.2.1,())) fun r37=>
       some (r37.1,())
      else
       some (v36.2.2.2.2.1,())
     else
      some (v36.2.2.2.2.1,())
    else
     aT (β:=((List ak)×Unit)) (γ:=(Int×Unit×Int×Int×(List ak)×Unit)) (
      some (Sum.inr (v34.2.1,v34.2.2.1,v34.2.2.2.1,v34.2.2.2.2.2.1,v34.2.2.2.2.2.2.1,()))) fun v38=>
     bif decide (v38.2.2.1<v38.2.2.2.1) then
      bif decide (v38.2.2.2.1<v38.1) then
       Option.bind (self (v38.2.2.2.2.1,v38.2.2.1,v38.2.2.2.1,v38.1,v38.2.1,())) fun r39=>
       some (r39.1,())
      else
       some (v38.2.2.2.2.1,())
     else
      some (v38.2.2.2.2.1,())
   else
    aT (β:=((List ak)×Unit)) (γ:=(Int×Int×Unit×Int×Int×Int×(List ak)×Unit)) (
     some (Sum.inr (v32.1,v32.2.2.1,v32.2.2.2.1,v32.2.2.2.2.1,v32.2.2.2.2.2.2.1,w64 (v32.2.2.2.2.2.1 - v32.2.2.2.2.2.2.1),v32.2.2.2.2.2.2.2.1,()))) fun v40=>
    bif decide (v40.1<v40.2.2.2.2.1) then
     aT (β:=((List ak)×Unit)) (γ:=(Int×Unit×Int×Int×(List ak)×Unit)) (
      bif decide (v40.2.2.2.2.1<v40.2.2.2.1) then
       Option.bind (self (v40.2.2.2.2.2.2.1,v40.1,v40.2.2.2.2.1,v40.2.2.2.1,v40.2.2.1,())) fun r41=>
       some (Sum.inr (v40.2.1,v40.2.2.1,v40.2.2.2.1,v40.2.2.2.2.2.1,r41.1,()))
      else
       some (Sum.inr (v40.2.1,v40.2.2.1,v40.2.2.2.1,v40.2.2.2.2.2.1,v40.2.2.2.2.2.2.1,()))) fun v42=>
     bif decide (v42.2.2.1<v42.2.2.2.1) then
      bif decide (v42.2.2.2.1<v42.1) then
       Option.bind (self (v42.2.2.2.2.1,v42.2.2.1,v42.2.2.2.1,v42.1,v42.2.1,())) fun r43=>
       some (r43.1,())
      else
       some (v42.2.2.2.2.1,())
     else
      some (v42.2.2.2.2.1,())
    else
     aT (β:=((List ak)×Unit)) (γ:=(Int×Unit×Int×Int×(List ak)×Unit)) (
      some (Sum.inr (v40.2.1,v40.2.2.1,v40.2.2.2.1,v40.2.2.2.2.2.1,v40.2.2.2.2.2.2.1,()))) fun v44=>
     bif decide (v44.2.2.1<v44.2.2.2.1) then
      bif decide (v44.2.2.2.1<v44.1) then
       Option.bind (self (v44.2.2.2.2.1,v44.2.2.1,v44.2.2.2.1,v44.1,v44.2.1,())) fun r45=>
       some (r45.1,())
      else
       some (v44.2.2.2.2.1,())
     else
      some (v44.2.2.2.2.1,())
def iQ (a0:List ak) (a1:Int) (a2:Int) (a3:Int) (_a4:Unit):Nat:=List.length a0+(Int.natAbs a1+(Int.natAbs a2+(Int.natAbs a3+2)))
def eF (a0:List ak) (a1:Int) (a2:Int) (a3:Int) (a4:Unit):Option ((List ak)×Unit):=
 Hr (fun self x=>cn self x.1 x.2.1 x.2.2.1 x.2.2.2.1 x.2.2.2.2.1) (iQ a0 a1 a2 a3 a4) (a0,a1,a2,a3,a4,())
abbrev gL:Type:=Int×Unit×Int×Int×Int×(List ak)×Unit
abbrev gI:Type:=(((List ak)×Unit) ⊕ (Int×Unit×Int×Int×(List ak)×Unit))
def gF (x1:gL) (again:gL→Option gI):Option gI:=
 bif decide (x1.2.2.2.2.1≤x1.1) then
  Option.bind (dn x1.2.2.2.2.2.1 x1.2.2.2.1 x1.2.2.2.2.1 x1.2.1) fun r2=>
  again (x1.1,x1.2.1,x1.2.2.1,x1.2.2.2.2.1,w64 (x1.2.2.2.2.1+x1.2.2.1),r2.1,())
 else
  some (Sum.inr (x1.1,x1.2.1,x1.2.2.1,x1.2.2.2.1,x1.2.2.2.2.2.1,()))
abbrev gN:Type:=Int×Unit×Int×Int×Int×(List ak)×Unit
abbrev gK:Type:=((((List ak)×Unit) ⊕ ((List ak)×Unit)) ⊕ (Int×Unit×Int×Int×(List ak)×Unit))
def gH (x1:gN) (again:gN→Option gK):Option gK:=
 bif decide (x1.2.2.2.2.1≤x1.1) then
  Option.bind (eF x1.2.2.2.2.2.1 x1.2.2.2.1 (w64 (x1.2.2.2.1+x1.2.2.1)) x1.2.2.2.2.1 x1.2.1) fun r2=>
  again (x1.1,x1.2.1,x1.2.2.1,x1.2.2.2.2.1,w64 (x1.2.2.2.2.1+(w64 (2*x1.2.2.1))),r2.1,())
 else
  some (Sum.inr (x1.1,x1.2.1,x1.2.2.1,x1.2.2.2.1,x1.2.2.2.2.2.1,()))
abbrev gM:Type:=Int×Unit×Int×(List ak)×Unit
abbrev gJ:Type:=(((List ak)×Unit) ⊕ ((List ak)×Unit))
def gG (x1:gM) (again:gM→Option gJ):Option gJ:=
 bif decide (x1.2.2.1<x1.1) then
  aT (β:=(((List ak)×Unit) ⊕ ((List ak)×Unit))) (γ:=(Int×Unit×Int×Int×(List ak)×Unit)) (
   iter (X:=gN) (β:=gK) (x1.1.natAbs+(x1.2.2.1.natAbs+(Int.natAbs (0:Int)+(Int.natAbs (w64 (2*x1.2.2.1))+(x1.2.2.2.1.length+2))))) (x1.1,x1.2.1,x1.2.2.1,0,w64 (2*x1.2.2.1),x1.2.2.2.1,()) (gH)) fun v2=>
  bif decide ((w64 (v2.2.2.2.1+v2.2.2.1))<v2.1) then
   Option.bind (eF v2.2.2.2.2.1 v2.2.2.2.1 (w64 (v2.2.2.2.1+v2.2.2.1)) v2.1 v2.2.1) fun r3=>
   again (v2.1,v2.2.1,w64 (v2.2.2.1*2),r3.1,())
  else
   again (v2.1,v2.2.1,w64 (v2.2.2.1*2),v2.2.2.2.2.1,())
 else
  some (Sum.inr (x1.2.2.2.1,()))
def kW (a0:List ak) (a1:Int) (a2:Unit):Option ((List ak)×Unit):=
 aT (β:=((List ak)×Unit)) (γ:=(Int×Unit×Int×Int×(List ak)×Unit)) (
  iter (X:=gL) (β:=gI) (Int.natAbs a1+(Int.natAbs (20:Int)+(Int.natAbs (0:Int)+(Int.natAbs (20:Int)+(List.length a0+2))))) (a1,a2,20,0,20,a0,()) (gF)) fun v3=>
 Option.bind (dn v3.2.2.2.2.1 v3.2.2.2.1 v3.1 v3.2.1) fun r4=>
 aT (β:=((List ak)×Unit)) (γ:=((List ak)×Unit)) (
  iter (X:=gM) (β:=gJ) (v3.1.natAbs+(v3.2.2.1.natAbs+(r4.1.length+2))) (v3.1,v3.2.1,v3.2.2.1,r4.1,()) (gG)) fun v10=>
 some (v10.1,())
def eN (a0:List ak) (a1:Unit):Option ((List ak)×Unit):=
 Option.bind (kW a0 ((List.length a0:Int)) a1) fun r1=>
 some (r1.1,())
abbrev vt:Type:=(List Int)×Int×(List Int)×Int×Int×Int×Int×Unit
abbrev Bi:Type:=(((List ai)×Int×Unit) ⊕ ((List Int)×Int×Int×Int×Unit))
def vr (x1:vt) (again:vt→Option Bi):Option Bi:=
 bif decide (x1.2.2.2.2.1<x1.2.2.2.1) then
  Option.bind (idx x1.2.2.1 x1.2.2.2.2.1) fun y2=>
  again (x1.1,w64 (x1.2.1+y2),x1.2.2.1,x1.2.2.2.1,w64 (x1.2.2.2.2.1+1),x1.2.2.2.2.2.1,x1.2.2.2.2.2.2.1,())
 else
  some (Sum.inr (x1.1,x1.2.1,x1.2.2.2.2.2.1,x1.2.2.2.2.2.2.1,()))
abbrev um:Type:=Int×Int×Int×(List ak)×(List Int)×Int×Int×Int×Int×Unit
abbrev zX:Type:=(((List ai)×Int×Unit) ⊕ (Int×(List ak)×Int×Int×Unit))
def uj (x1:um) (again:um→Option zX):Option zX:=
 bif decide (x1.2.2.2.2.2.2.1<x1.2.2.2.2.2.1) then
  Option.bind (idx x1.2.2.2.2.1 x1.2.2.2.2.2.2.1) fun y2=>
  Option.bind (bJ x1.2.1) fun r3=>
  Option.bind (bJ y2) fun r4=>
  Option.bind (dx r3.1 r4.1) fun r5=>
  Option.bind (bJ x1.1) fun r6=>
  Option.bind (rq r5.1 r6.1) fun r7=>
  Option.bind (pJ r7.1 1000000000000000) fun r8=>
  chk (decide (((x1.2.2.2.1.length)+1)*48≤140737488355328)&&decide ((x1.2.2.2.1.length)+1≤maxLen)) <|
  again (x1.1,x1.2.1,w64 (x1.2.2.1 - r8.1),x1.2.2.2.1++[(x1.2.2.2.2.2.2.1,r8.1,r7.2.1)],x1.2.2.2.2.1,x1.2.2.2.2.2.1,w64 (x1.2.2.2.2.2.2.1+1),x1.2.2.2.2.2.2.2.1,x1.2.2.2.2.2.2.2.2.1,())
 else
  some (Sum.inr (x1.2.2.1,x1.2.2.2.1,x1.2.2.2.2.2.2.2.1,x1.2.2.2.2.2.2.2.2.1,()))
abbrev uo:Type:=Int×(List ak)×Int×Int×Int×Int×(List ai)×Unit
abbrev zY:Type:=(((List ai)×Int×Unit) ⊕ ((List ai)×Unit))
def uk (x1:uo) (again:uo→Option zY):Option zY:=
 bif decide (x1.2.2.2.1<x1.2.2.1) then
  chk (decide (0≤x1.2.2.2.1)&&decide (x1.2.2.2.1<(x1.2.1.length:Int))) <|
  Option.bind (x1.2.1[x1.2.2.2.1.toNat]?) fun y2=>
  aT (β:=(((List ai)×Int×Unit) ⊕ ((List ai)×Unit))) (γ:=(Int×(List ak)×Int×Int×Int×Int×Int×Int×Bool×(List Int)×(List ai)×Unit)) (
   bif decide (x1.2.2.2.1<x1.1) then
    some (Sum.inr (x1.1,x1.2.1,x1.2.2.1,x1.2.2.2.1,x1.2.2.2.2.1,x1.2.2.2.2.2.1,y2.1,w64 (y2.2.1+1),y2.2.2.1,y2.2.2.2,x1.2.2.2.2.2.2.1,()))
   else
    some (Sum.inr (x1.1,x1.2.1,x1.2.2.1,x1.2.2.2.1,x1.2.2.2.2.1,x1.2.2.2.2.2.1,y2.1,y2.2.1,y2.2.2.1,y2.2.2.2,x1.2.2.2.2.2.2.1,()))) fun v3=>
  aT (β:=(((List ai)×Int×Unit) ⊕ ((List ai)×Unit))) (γ:=(Int×(List ak)×Int×Int×Int×Int×Int×Int×Bool×(List Int)×(List ai)×Unit)) (
   bif decide (v3.2.2.2.2.1<0) then
    some (Sum.inr (v3.1,v3.2.1,v3.2.2.1,v3.2.2.2.1,v3.2.2.2.2.1,v3.2.2.2.2.2.1,v3.2.2.2.2.2.2.1,w64 (0 - v3.2.2.2.2.2.2.2.1),v3.2.2.2.2.2.2.2.2.1,v3.2.2.2.2.2.2.2.2.2.1,v3.2.2.2.2.2.2.2.2.2.2.1,()))
   else
    some (Sum.inr (v3.1,v3.2.1,v3.2.2.1,v3.2.2.2.1,v3.2.2.2.2.1,v3.2.2.2.2.2.1,v3.2.2.2.2.2.2.1,v3.2.2.2.2.2.2.2.1,v3.2.2.2.2.2.2.2.2.1,v3.2.2.2.2.2.2.2.2.2.1,v3.2.2.2.2.2.2.2.2.2.2.1,()))) fun v4=>
  chk (decide (0≤v4.2.2.2.2.2.2.1)&&decide (v4.2.2.2.2.2.2.1<(v4.2.2.2.2.2.2.2.2.2.2.1.length:Int))) <|
  Option.bind (v4.2.2.2.2.2.2.2.2.2.2.1[v4.2.2.2.2.2.2.1.toNat]?) fun _=>
  again (v4.1,v4.2.1,v4.2.2.1,w64 (v4.2.2.2.1+1),v4.2.2.2.2.1,v4.2.2.2.2.2.1,List.set v4.2.2.2.2.2.2.2.2.2.2.1 v4.2.2.2.2.2.2.1.toNat (v4.2.2.2.2.2.2.2.1,v4.2.2.2.2.2.1),())
 else
  some (Sum.inr (x1.2.2.2.2.2.2.1,()))
def wC (a0:ai) (a1:List Int):Option ((List ai)×Int×Unit):=
 Option.bind (cu a0) fun r1=>
 bif r1.1 != 0 then
  some ([],r1.1,())
 else
  Option.bind (rA a1) fun r2=>
  bif r2.1 != 0 then
   some ([],r2.1,())
  else
   aT (β:=((List ai)×Int×Unit)) (γ:=((List Int)×Int×Int×Int×Unit)) (
    iter (X:=vt) (β:=Bi) (List.length a1+(Int.natAbs (0:Int)+(List.length a1+(Int.natAbs ((List.length a1:Int))+(Int.natAbs (0:Int)+(a0.1.natAbs+(a0.2.natAbs+2))))))) (a1,0,a1,(List.length a1:Int),0,a0.1,a0.2,()) (vr)) fun v5=>
   aT (β:=((List ai)×Int×Unit)) (γ:=(Int×(List ak)×Int×Int×Unit)) (
    iter (X:=um) (β:=zX) (v5.2.1.natAbs+(Int.natAbs (if (w64 (0 - v5.2.2.1))>v5.2.2.1 then (w64 (0 - v5.2.2.1)) else v5.2.2.1)+(Int.natAbs (if (w64 (0 - v5.2.2.1))>v5.2.2.1 then (w64 (0 - v5.2.2.1)) else v5.2.2.1)+(List.length ([]:List ak)+(v5.1.length+(Int.natAbs ((v5.1.length:Int))+(Int.natAbs (0:Int)+(v5.2.2.1.natAbs+(v5.2.2.2.1.natAbs+2))))))))) (v5.2.1,if (w64 (0 - v5.2.2.1))>v5.2.2.1 then (w64 (0 - v5.2.2.1)) else v5.2.2.1,if (w64 (0 - v5.2.2.1))>v5.2.2.1 then (w64 (0 - v5.2.2.1)) else v5.2.2.1,[],v5.1,(v5.1.length:Int),0,v5.2.2.1,v5.2.2.2.1,()) (uj)) fun v14=>
   Option.bind (eN v14.2.1 ()) fun r15=>
   chk (decide (0≤((r15.1.length:Int)))&&decide (((r15.1.length:Int))≤((r15.1.length:Int)))&&decide ((16:Int)*((r15.1.length:Int))≤281474976710656)&&decide (((r15.1.length:Int))≤9223372036854775807)) <|
   aT (β:=((List ai)×Int×Unit)) (γ:=((List ai)×Unit)) (
    iter (X:=uo) (β:=zY) (v14.1.natAbs+(r15.1.length+(Int.natAbs ((r15.1.length:Int))+(Int.natAbs (0:Int)+(v14.2.2.1.natAbs+(v14.2.2.2.1.natAbs+(List.length ((List.replicate (Int.toNat ((r15.1.length:Int))) (0,0):List (ai)):List ai)+2))))))) (v14.1,r15.1,(r15.1.length:Int),0,v14.2.2.1,v14.2.2.2.1,(List.replicate (Int.toNat ((r15.1.length:Int))) (0,0):List (ai)),()) (uk)) fun v21=>
   some (v21.1,0,())
abbrev mg:Type:=(List Int)×Bool×(List aa)×Int×Int×Bool×(List Int)×Bys×Bys×Int×Int×Int×Bool×(List aD)×(List au)×(List ax)×(List aa)×(List aa)×(List aa)×(List aJ)×(List aa)×(List Bool)×(List aa)×Unit
abbrev vC:Type:=((Int×(ah×(List aa)×(List aa)×(List aa)×(List aJ)×(List aa)×(List Bool)×(List aa)×Unit)×Unit) ⊕ ((List Int)×Bool×Bool×(List Int)×Bys×Bys×Int×Int×Int×Bool×(List aD)×(List au)×(List ax)×(List aa)×(List aa)×(List aa)×(List aJ)×(List aa)×(List Bool)×(List aa)×Unit))
def p9 (x1:mg) (again:mg→Option vC):Option vC:=
 bif decide (x1.2.2.2.2.1<x1.2.2.2.1) then
  Option.bind (idx x1.2.2.1 x1.2.2.2.2.1) fun y2=>
  Option.bind (Be y2) fun r3=>
  Option.bind (pJ r3.1 1000000000000000) fun r4=>
  chk (decide (((x1.1.length)+1)*8≤140737488355328)&&decide ((x1.1.length)+1≤maxLen)) <|
  bif x1.2.1 then
   again (x1.1++[r4.1],true,x1.2.2.1,x1.2.2.2.1,w64 (x1.2.2.2.2.1+1),x1.2.2.2.2.2.1,x1.2.2.2.2.2.2.1,x1.2.2.2.2.2.2.2.1,x1.2.2.2.2.2.2.2.2.1,x1.2.2.2.2.2.2.2.2.2.1,x1.2.2.2.2.2.2.2.2.2.2.1,x1.2.2.2.2.2.2.2.2.2.2.2.1,x1.2.2.2.2.2.2.2.2.2.2.2.2.1,x1.2.2.2.2.2.2.2.2.2.2.2.2.2.1,x1.2.2.2.2.2.2.2.2.2.2.2.2.2.2.1,x1.2.2.2.2.2.2.2.2.2.2.2.2.2.2.2.1,x1.2.2.2.2.2.2.2.2.2.2.2.2.2.2.2.2.1,x1.2.2.2.2.2.2.2.2.2.2.2.2.2.2.2.2.2.1,x1.2.2.2.2.2.2.2.2.2.2.2.2.2.2.2.2.2.2.1,x1.2.2.2.2.2.2.2.2.2.2.2.2.2.2.2.2.2.2.2.1,x1.2.2.2.2.2.2.2.2.2.2.2.2.2.2.2.2.2.2.2.2.1,x1.2.2.2.2.2.2.2.2.2.2.2.2.2.2.2.2.2.2.2.2.2.1,x1.2.2.2.2.2.2.2.2.2.2.2.2.2.2.2.2.2.2.2.2.2.2.1,())
  else
   again (x1.1++[r4.1],decide (r4.1>0),x1.2.2.1,x1.2.2.2.1,w64 (x1.2.2.2.2.1+1),x1.2.2.2.2.2.1,x1.2.2.2.2.2.2.1,x1.2.2.2.2.2.2.2.1,x1.2.2.2.2.2.2.2.2.1,x1.2.2.2.2.2.2.2.2.2.1,x1.2.2.2.2.2.2.2.2.2.2.1,x1.2.2.2.2.2.2.2.2.2.2.2.1,x1.2.2.2.2.2.2.2.2.2.2.2.2.1,x1.2.2.2.2.2.2.2.2.2.2.2.2.2.1,x1.2.2.2.2.2.2.2.2.2.2.2.2.2.2.1,x1.2.2.2.2.2.2.2.2.2.2.2.2.2.2.2.1,x1.2.2.2.2.2.2.2.2.2.2.2.2.2.2.2.2.1,x1.2.2.2.2.2.2.2.2.2.2.2.2.2.2.2.2.2.1,x1.2.2.2.2.2.2.2.2.2.2.2.2.2.2.2.2.2.2.1,x1.2.2.2.2.2.2.2.2.2.2.2.2.2.2.2.2.2.2.2.1,x1.2.2.2.2.2.2.2.2.2.2.2.2.2.2.2.2.2.2.2.2.1,x1.2.2.2.2.2.2.2.2.2.2.2.2.2.2.2.2.2.2.2.2.2.1,x1.2.2.2.2.2.2.2.2.2.2.2.2.2.2.2.2.2.2.2.2.2.2.1,())
 else
  some (Sum.inr (x1.1,x1.2.1,x1.2.2.2.2.2.1,x1.2.2.2.2.2.2.1,x1.2.2.2.2.2.2.2.1,x1.2.2.2.2.2.2.2.2.1,x1.2.2.2.2.2.2.2.2.2.1,x1.2.2.2.2.2.2.2.2.2.2.1,x1.2.2.2.2.2.2.2.2.2.2.2.1,x1.2.2.2.2.2.2.2.2.2.2.2.2.1,x1.2.2.2.2.2.2.2.2.2.2.2.2.2.1,x1.2.2.2.2.2.2.2.2.2.2.2.2.2.2.1,x1.2.2.2.2.2.2.2.2.2.2.2.2.2.2.2.1,x1.2.2.2.2.2.2.2.2.2.2.2.2.2.2.2.2.1,x1.2.2.2.2.2.2.2.2.2.2.2.2.2.2.2.2.2.1,x1.2.2.2.2.2.2.2.2.2.2.2.2.2.2.2.2.2.2.1,x1.2.2.2.2.2.2.2.2.2.2.2.2.2.2.2.2.2.2.2.1,x1.2.2.2.2.2.2.2.2.2.2.2.2.2.2.2.2.2.2.2.2.1,x1.2.2.2.2.2.2.2.2.2.2.2.2.2.2.2.2.2.2.2.2.2.1,x1.2.2.2.2.2.2.2.2.2.2.2.2.2.2.2.2.2.2.2.2.2.2.1,()))
abbrev jq:Type:=(List ai)×Int×Int×Bys×Bys×Int×Int×Int×Bool×(List aD)×(List au)×(List ax)×(List aa)×(List aa)×(List aa)×(List aJ)×(List aa)×(List Bool)×(List aa)×Unit
abbrev oQ:Type:=((Int×(ah×(List aa)×(List aa)×(List aa)×(List aJ)×(List aa)×(List Bool)×(List aa)×Unit)×Unit) ⊕ (Bys×Bys×Int×Int×Int×Bool×(List aD)×(List au)×(List ax)×(List aa)×(List aa)×(List aa)×(List aJ)×(List aa)×(List Bool)×(List aa)×Unit))
def lJ (x1:jq) (again:jq→Option oQ):Option oQ:=
 bif decide (x1.2.2.1<x1.2.1) then
  Option.bind (idx x1.1 x1.2.2.1) fun y2=>
  bif y2.1 != 0 then
   Option.bind (bJ y2.1) fun r3=>
   Option.bind (gR ((x1.2.2.2.1,x1.2.2.2.2.1,x1.2.2.2.2.2.1,x1.2.2.2.2.2.2.1,x1.2.2.2.2.2.2.2.1,x1.2.2.2.2.2.2.2.2.1,x1.2.2.2.2.2.2.2.2.2.1,x1.2.2.2.2.2.2.2.2.2.2.1,x1.2.2.2.2.2.2.2.2.2.2.2.1),x1.2.2.2.2.2.2.2.2.2.2.2.2.1,x1.2.2.2.2.2.2.2.2.2.2.2.2.2.1,x1.2.2.2.2.2.2.2.2.2.2.2.2.2.2.1,x1.2.2.2.2.2.2.2.2.2.2.2.2.2.2.2.1,x1.2.2.2.2.2.2.2.2.2.2.2.2.2.2.2.2.1,x1.2.2.2.2.2.2.2.2.2.2.2.2.2.2.2.2.2.1,x1.2.2.2.2.2.2.2.2.2.2.2.2.2.2.2.2.2.2.1,()) x1.2.2.1 r3.1) fun r4=>
   chk (decide (0≤x1.2.2.1)&&decide (x1.2.2.1<(r4.1.2.2.2.2.2.2.1.length:Int))) <|
   Option.bind (r4.1.2.2.2.2.2.2.1[x1.2.2.1.toNat]?) fun _=>
   again (x1.1,x1.2.1,w64 (x1.2.2.1+1),r4.1.1.1,r4.1.1.2.1,r4.1.1.2.2.1,r4.1.1.2.2.2.1,r4.1.1.2.2.2.2.1,r4.1.1.2.2.2.2.2.1,r4.1.1.2.2.2.2.2.2.1,r4.1.1.2.2.2.2.2.2.2.1,r4.1.1.2.2.2.2.2.2.2.2,r4.1.2.1,r4.1.2.2.1,r4.1.2.2.2.1,r4.1.2.2.2.2.1,r4.1.2.2.2.2.2.1,List.set r4.1.2.2.2.2.2.2.1 x1.2.2.1.toNat true,r4.1.2.2.2.2.2.2.2.1,())
  else
   again (x1.1,x1.2.1,w64 (x1.2.2.1+1),x1.2.2.2.1,x1.2.2.2.2.1,x1.2.2.2.2.2.1,x1.2.2.2.2.2.2.1,x1.2.2.2.2.2.2.2.1,x1.2.2.2.2.2.2.2.2.1,x1.2.2.2.2.2.2.2.2.2.1,x1.2.2.2.2.2.2.2.2.2.2.1,x1.2.2.2.2.2.2.2.2.2.2.2.1,x1.2.2.2.2.2.2.2.2.2.2.2.2.1,x1.2.2.2.2.2.2.2.2.2.2.2.2.2.1,x1.2.2.2.2.2.2.2.2.2.2.2.2.2.2.1,x1.2.2.2.2.2.2.2.2.2.2.2.2.2.2.2.1,x1.2.2.2.2.2.2.2.2.2.2.2.2.2.2.2.2.1,x1.2.2.2.2.2.2.2.2.2.2.2.2.2.2.2.2.2.1,x1.2.2.2.2.2.2.2.2.2.2.2.2.2.2.2.2.2.2.1,())
 else
  some (Sum.inr (x1.2.2.2.1,x1.2.2.2.2.1,x1.2.2.2.2.2.1,x1.2.2.2.2.2.2.1,x1.2.2.2.2.2.2.2.1,x1.2.2.2.2.2.2.2.2.1,x1.2.2.2.2.2.2.2.2.2.1,x1.2.2.2.2.2.2.2.2.2.2.1,x1.2.2.2.2.2.2.2.2.2.2.2.1,x1.2.2.2.2.2.2.2.2.2.2.2.2.1,x1.2.2.2.2.2.2.2.2.2.2.2.2.2.1,x1.2.2.2.2.2.2.2.2.2.2.2.2.2.2.1,x1.2.2.2.2.2.2.2.2.2.2.2.2.2.2.2.1,x1.2.2.2.2.2.2.2.2.2.2.2.2.2.2.2.2.1,x1.2.2.2.2.2.2.2.2.2.2.2.2.2.2.2.2.2.1,x1.2.2.2.2.2.2.2.2.2.2.2.2.2.2.2.2.2.2.1,()))
def je (a0:ah×(List aa)×(List aa)×(List aa)×(List aJ)×(List aa)×(List Bool)×(List aa)×Unit) (a1:aa):Option (Int×(ah×(List aa)×(List aa)×(List aa)×(List aJ)×(List aa)×(List Bool)×(List aa)×Unit)×Unit):=
 aT (β:=(Int×(ah×(List aa)×(List aa)×(List aa)×(List aJ)×(List aa)×(List Bool)×(List aa)×Unit)×Unit)) (γ:=((List Int)×Bool×Bool×(List Int)×Bys×Bys×Int×Int×Int×Bool×(List aD)×(List au)×(List ax)×(List aa)×(List aa)×(List aa)×(List aJ)×(List aa)×(List Bool)×(List aa)×Unit)) (
  iter (X:=mg) (β:=vC) (List.length ([]:List Int)+(a0.2.2.1.length+(Int.natAbs ((a0.2.2.1.length:Int))+(Int.natAbs (0:Int)+(a1.2.length+(a0.1.1.length+(a0.1.2.1.length+(a0.1.2.2.1.natAbs+(a0.1.2.2.2.1.natAbs+(a0.1.2.2.2.2.1.natAbs+(a0.1.2.2.2.2.2.2.1.length+(a0.1.2.2.2.2.2.2.2.1.length+(a0.1.2.2.2.2.2.2.2.2.length+(a0.2.2.1.length+(a0.2.1.length+(a0.2.2.2.1.length+(a0.2.2.2.2.1.length+(a0.2.2.2.2.2.1.length+(a0.2.2.2.2.2.2.1.length+(a0.2.2.2.2.2.2.2.1.length+2)))))))))))))))))))) ([],false,a0.2.2.1,(a0.2.2.1.length:Int),0,a1.1,a1.2,a0.1.1,a0.1.2.1,a0.1.2.2.1,a0.1.2.2.2.1,a0.1.2.2.2.2.1,a0.1.2.2.2.2.2.1,a0.1.2.2.2.2.2.2.1,a0.1.2.2.2.2.2.2.2.1,a0.1.2.2.2.2.2.2.2.2,a0.2.2.1,a0.2.1,a0.2.2.2.1,a0.2.2.2.2.1,a0.2.2.2.2.2.1,a0.2.2.2.2.2.2.1,a0.2.2.2.2.2.2.2.1,()) (p9)) fun v5=>
 bif !v5.2.1 then
  Option.bind (gR ((v5.2.2.2.2.1,v5.2.2.2.2.2.1,v5.2.2.2.2.2.2.1,v5.2.2.2.2.2.2.2.1,v5.2.2.2.2.2.2.2.2.1,v5.2.2.2.2.2.2.2.2.2.1,v5.2.2.2.2.2.2.2.2.2.2.1,v5.2.2.2.2.2.2.2.2.2.2.2.1,v5.2.2.2.2.2.2.2.2.2.2.2.2.1),v5.2.2.2.2.2.2.2.2.2.2.2.2.2.2.1,v5.2.2.2.2.2.2.2.2.2.2.2.2.2.1,v5.2.2.2.2.2.2.2.2.2.2.2.2.2.2.2.1,v5.2.2.2.2.2.2.2.2.2.2.2.2.2.2.2.2.1,v5.2.2.2.2.2.2.2.2.2.2.2.2.2.2.2.2.2.1,v5.2.2.2.2.2.2.2.2.2.2.2.2.2.2.2.2.2.2.1,v5.2.2.2.2.2.2.2.2.2.2.2.2.2.2.2.2.2.2.2.1,()) 0 (v5.2.2.1,v5.2.2.2.1)) fun r6=>
  chk (decide (0≤(0:Int))&&decide ((0:Int)<(r6.1.2.2.2.2.2.2.1.length:Int))) <|
  Option.bind (r6.1.2.2.2.2.2.2.1[0]?) fun y7=>
  bif y7 then
   chk (decide (0≤(0:Int))&&decide ((0:Int)<(r6.1.2.2.2.2.2.2.1.length:Int))) <|
   Option.bind (r6.1.2.2.2.2.2.2.1[0]?) fun _=>
   some (0,(r6.1.1,r6.1.2.1,r6.1.2.2.1,r6.1.2.2.2.1,r6.1.2.2.2.2.1,r6.1.2.2.2.2.2.1,List.set r6.1.2.2.2.2.2.2.1 0 true,r6.1.2.2.2.2.2.2.2.1,()),())
  else
   Option.bind (aG (v5.2.2.1,v5.2.2.2.1)) fun r9=>
   chk (decide (0≤(0:Int))&&decide ((0:Int)<(r6.1.2.2.2.2.2.2.1.length:Int))) <|
   Option.bind (r6.1.2.2.2.2.2.2.1[0]?) fun _=>
   some (0,(r6.1.1,r6.1.2.1,r6.1.2.2.1,r6.1.2.2.2.1,r6.1.2.2.2.2.1,r6.1.2.2.2.2.2.1,List.set r6.1.2.2.2.2.2.2.1 0 (r9.1 != 0),r6.1.2.2.2.2.2.2.2.1,()),())
 else
  Option.bind (jH v5.1 ()) fun r11=>
  bif r11.1 then
   some (2,((v5.2.2.2.2.1,v5.2.2.2.2.2.1,v5.2.2.2.2.2.2.1,v5.2.2.2.2.2.2.2.1,v5.2.2.2.2.2.2.2.2.1,v5.2.2.2.2.2.2.2.2.2.1,v5.2.2.2.2.2.2.2.2.2.2.1,v5.2.2.2.2.2.2.2.2.2.2.2.1,v5.2.2.2.2.2.2.2.2.2.2.2.2.1),v5.2.2.2.2.2.2.2.2.2.2.2.2.2.2.1,v5.2.2.2.2.2.2.2.2.2.2.2.2.2.1,v5.2.2.2.2.2.2.2.2.2.2.2.2.2.2.2.1,v5.2.2.2.2.2.2.2.2.2.2.2.2.2.2.2.2.1,v5.2.2.2.2.2.2.2.2.2.2.2.2.2.2.2.2.2.1,v5.2.2.2.2.2.2.2.2.2.2.2.2.2.2.2.2.2.2.1,v5.2.2.2.2.2.2.2.2.2.2.2.2.2.2.2.2.2.2.2.1,()),())
  else
   Option.bind (oa (v5.2.2.1,v5.2.2.2.1) v5.2.2.2.2.2.2.2.1) fun r12=>
   Option.bind (wC r12.1 v5.1) fun r13=>
   bif r13.2.1 != 0 then
    some (r13.2.1,((v5.2.2.2.2.1,v5.2.2.2.2.2.1,v5.2.2.2.2.2.2.1,v5.2.2.2.2.2.2.2.1,v5.2.2.2.2.2.2.2.2.1,v5.2.2.2.2.2.2.2.2.2.1,v5.2.2.2.2.2.2.2.2.2.2.1,v5.2.2.2.2.2.2.2.2.2.2.2.1,v5.2.2.2.2.2.2.2.2.2.2.2.2.1),v5.2.2.2.2.2.2.2.2.2.2.2.2.2.2.1,v5.2.2.2.2.2.2.2.2.2.2.2.2.2.1,v5.2.2.2.2.2.2.2.2.2.2.2.2.2.2.2.1,v5.2.2.2.2.2.2.2.2.2.2.2.2.2.2.2.2.1,v5.2.2.2.2.2.2.2.2.2.2.2.2.2.2.2.2.2.1,v5.2.2.2.2.2.2.2.2.2.2.2.2.2.2.2.2.2.2.1,v5.2.2.2.2.2.2.2.2.2.2.2.2.2.2.2.2.2.2.2.1,()),())
   else
    aT (β:=(Int×(ah×(List aa)×(List aa)×(List aa)×(List aJ)×(List aa)×(List Bool)×(List aa)×Unit)×Unit)) (γ:=(Bys×Bys×Int×Int×Int×Bool×(List aD)×(List au)×(List ax)×(List aa)×(List aa)×(List aa)×(List aJ)×(List aa)×(List Bool)×(List aa)×Unit)) (
     iter (X:=jq) (β:=oQ) (r13.1.length+(Int.natAbs ((r13.1.length:Int))+(Int.natAbs (0:Int)+(v5.2.2.2.2.1.length+(v5.2.2.2.2.2.1.length+(v5.2.2.2.2.2.2.1.natAbs+(v5.2.2.2.2.2.2.2.1.natAbs+(v5.2.2.2.2.2.2.2.2.1.natAbs+(v5.2.2.2.2.2.2.2.2.2.2.1.length+(v5.2.2.2.2.2.2.2.2.2.2.2.1.length+(v5.2.2.2.2.2.2.2.2.2.2.2.2.1.length+(v5.2.2.2.2.2.2.2.2.2.2.2.2.2.2.1.length+(v5.2.2.2.2.2.2.2.2.2.2.2.2.2.1.length+(v5.2.2.2.2.2.2.2.2.2.2.2.2.2.2.2.1.length+(v5.2.2.2.2.2.2.2.2.2.2.2.2.2.2.2.2.1.length+(v5.2.2.2.2.2.2.2.2.2.2.2.2.2.2.2.2.2.1.length+(v5.2.2.2.2.2.2.2.2.2.2.2.2.2.2.2.2.2.2.1.length+(v5.2.2.2.2.2.2.2.2.2.2.2.2.2.2.2.2.2.2.2.1.length+2)))))))))))))))))) (r13.1,(r13.1.length:Int),0,v5.2.2.2.2.1,v5.2.2.2.2.2.1,v5.2.2.2.2.2.2.1,v5.2.2.2.2.2.2.2.1,v5.2.2.2.2.2.2.2.2.1,v5.2.2.2.2.2.2.2.2.2.1,v5.2.2.2.2.2.2.2.2.2.2.1,v5.2.2.2.2.2.2.2.2.2.2.2.1,v5.2.2.2.2.2.2.2.2.2.2.2.2.1,v5.2.2.2.2.2.2.2.2.2.2.2.2.2.2.1,v5.2.2.2.2.2.2.2.2.2.2.2.2.2.1,v5.2.2.2.2.2.2.2.2.2.2.2.2.2.2.2.1,v5.2.2.2.2.2.2.2.2.2.2.2.2.2.2.2.2.1,v5.2.2.2.2.2.2.2.2.2.2.2.2.2.2.2.2.2.1,v5.2.2.2.2.2.2.2.2.2.2.2.2.2.2.2.2.2.2.1,v5.2.2.2.2.2.2.2.2.2.2.2.2.2.2.2.2.2.2.2.1,()) (lJ)) fun v19=>
    some (0,((v19.1,v19.2.1,v19.2.2.1,v19.2.2.2.1,v19.2.2.2.2.1,v19.2.2.2.2.2.1,v19.2.2.2.2.2.2.1,v19.2.2.2.2.2.2.2.1,v19.2.2.2.2.2.2.2.2.1),v19.2.2.2.2.2.2.2.2.2.1,v19.2.2.2.2.2.2.2.2.2.2.1,v19.2.2.2.2.2.2.2.2.2.2.2.1,v19.2.2.2.2.2.2.2.2.2.2.2.2.1,v19.2.2.2.2.2.2.2.2.2.2.2.2.2.1,v19.2.2.2.2.2.2.2.2.2.2.2.2.2.2.1,v19.2.2.2.2.2.2.2.2.2.2.2.2.2.2.2.1,()),())
abbrev nx:Type:=Int×Bool×(List aa)×Int×Int×Bool×Int×Int×Bys×Bool×(List Int)×Bys×Bys×Int×Int×Int×Bool×(List aD)×(List au)×(List ax)×(List aa)×(List aa)×(List aa)×(List aJ)×(List aa)×(List Bool)×(List aa)×Unit
abbrev xq:Type:=(((Int×(ah×(List aa)×(List aa)×(List aa)×(List aJ)×(List aa)×(List Bool)×(List aa)×Unit)×Unit) ⊕ (Int×Bool×Bool×Int×Int×Bys×Bool×(List Int)×Bys×Bys×Int×Int×Int×Bool×(List aD)×(List au)×(List ax)×(List aa)×(List aa)×(List aa)×(List aJ)×(List aa)×(List Bool)×(List aa)×Unit)) ⊕ (Int×Bool×Bool×Int×Int×Bys×Bool×(List Int)×Bys×Bys×Int×Int×Int×Bool×(List aD)×(List au)×(List ax)×(List aa)×(List aa)×(List aa)×(List aJ)×(List aa)×(List Bool)×(List aa)×Unit))
def rD (x1:nx) (again:nx→Option xq):Option xq:=
 bif decide (x1.2.2.2.2.1<x1.2.2.2.1) then
  Option.bind (idx x1.2.2.1 x1.2.2.2.2.1) fun y2=>
  Option.bind (bf (x1.2.2.2.2.2.2.2.2.2.1,x1.2.2.2.2.2.2.2.2.2.2.1) y2) fun r3=>
  again (x1.1,x1.2.1,x1.2.2.1,x1.2.2.2.1,w64 (x1.2.2.2.2.1+1),x1.2.2.2.2.2.1,x1.2.2.2.2.2.2.1,x1.2.2.2.2.2.2.2.1,x1.2.2.2.2.2.2.2.2.1,r3.1.1,r3.1.2,x1.2.2.2.2.2.2.2.2.2.2.2.1,x1.2.2.2.2.2.2.2.2.2.2.2.2.1,x1.2.2.2.2.2.2.2.2.2.2.2.2.2.1,x1.2.2.2.2.2.2.2.2.2.2.2.2.2.2.1,x1.2.2.2.2.2.2.2.2.2.2.2.2.2.2.2.1,x1.2.2.2.2.2.2.2.2.2.2.2.2.2.2.2.2.1,x1.2.2.2.2.2.2.2.2.2.2.2.2.2.2.2.2.2.1,x1.2.2.2.2.2.2.2.2.2.2.2.2.2.2.2.2.2.2.1,x1.2.2.2.2.2.2.2.2.2.2.2.2.2.2.2.2.2.2.2.1,x1.2.2.2.2.2.2.2.2.2.2.2.2.2.2.2.2.2.2.2.2.1,x1.2.2.2.2.2.2.2.2.2.2.2.2.2.2.2.2.2.2.2.2.2.1,x1.2.2.2.2.2.2.2.2.2.2.2.2.2.2.2.2.2.2.2.2.2.2.1,x1.2.2.2.2.2.2.2.2.2.2.2.2.2.2.2.2.2.2.2.2.2.2.2.1,x1.2.2.2.2.2.2.2.2.2.2.2.2.2.2.2.2.2.2.2.2.2.2.2.2.1,x1.2.2.2.2.2.2.2.2.2.2.2.2.2.2.2.2.2.2.2.2.2.2.2.2.2.1,x1.2.2.2.2.2.2.2.2.2.2.2.2.2.2.2.2.2.2.2.2.2.2.2.2.2.2.1,())
 else
  some (Sum.inr (x1.1,x1.2.1,x1.2.2.2.2.2.1,x1.2.2.2.2.2.2.1,x1.2.2.2.2.2.2.2.1,x1.2.2.2.2.2.2.2.2.1,x1.2.2.2.2.2.2.2.2.2.1,x1.2.2.2.2.2.2.2.2.2.2.1,x1.2.2.2.2.2.2.2.2.2.2.2.1,x1.2.2.2.2.2.2.2.2.2.2.2.2.1,x1.2.2.2.2.2.2.2.2.2.2.2.2.2.1,x1.2.2.2.2.2.2.2.2.2.2.2.2.2.2.1,x1.2.2.2.2.2.2.2.2.2.2.2.2.2.2.2.1,x1.2.2.2.2.2.2.2.2.2.2.2.2.2.2.2.2.1,x1.2.2.2.2.2.2.2.2.2.2.2.2.2.2.2.2.2.1,x1.2.2.2.2.2.2.2.2.2.2.2.2.2.2.2.2.2.2.1,x1.2.2.2.2.2.2.2.2.2.2.2.2.2.2.2.2.2.2.2.1,x1.2.2.2.2.2.2.2.2.2.2.2.2.2.2.2.2.2.2.2.2.1,x1.2.2.2.2.2.2.2.2.2.2.2.2.2.2.2.2.2.2.2.2.2.1,x1.2.2.2.2.2.2.2.2.2.2.2.2.2.2.2.2.2.2.2.2.2.2.1,x1.2.2.2.2.2.2.2.2.2.2.2.2.2.2.2.2.2.2.2.2.2.2.2.1,x1.2.2.2.2.2.2.2.2.2.2.2.2.2.2.2.2.2.2.2.2.2.2.2.2.1,x1.2.2.2.2.2.2.2.2.2.2.2.2.2.2.2.2.2.2.2.2.2.2.2.2.2.1,x1.2.2.2.2.2.2.2.2.2.2.2.2.2.2.2.2.2.2.2.2.2.2.2.2.2.2.1,()))
def nK (a0:ah×(List aa)×(List aa)×(List aa)×(List aJ)×(List aa)×(List Bool)×(List aa)×Unit) (a1:ax):Option (Int×(ah×(List aa)×(List aa)×(List aa)×(List aJ)×(List aa)×(List Bool)×(List aa)×Unit)×Unit):=
 Option.bind (bJ 0) fun r1=>
 Option.bind (tC a0.1.2.2.2.2.2.2.1 a1.2.2) fun r2=>
 aT (β:=(Int×(ah×(List aa)×(List aa)×(List aa)×(List aJ)×(List aa)×(List Bool)×(List aa)×Unit)×Unit)) (γ:=(Int×Bool×Bool×Int×Int×Bys×Bool×(List Int)×Bys×Bys×Int×Int×Int×Bool×(List aD)×(List au)×(List ax)×(List aa)×(List aa)×(List aa)×(List aJ)×(List aa)×(List Bool)×(List aa)×Unit)) (
  bif r2.2.1 then
   Option.bind (idx a0.2.2.1 r2.1) fun y3=>
   some (Sum.inr (r2.1,r2.2.1,a1.1,a1.2.1.1,a1.2.1.2,a1.2.2,y3.1,y3.2,a0.1.1,a0.1.2.1,a0.1.2.2.1,a0.1.2.2.2.1,a0.1.2.2.2.2.1,a0.1.2.2.2.2.2.1,a0.1.2.2.2.2.2.2.1,a0.1.2.2.2.2.2.2.2.1,a0.1.2.2.2.2.2.2.2.2,a0.2.2.1,a0.2.1,a0.2.2.2.1,a0.2.2.2.2.1,a0.2.2.2.2.2.1,a0.2.2.2.2.2.2.1,a0.2.2.2.2.2.2.2.1,()))
  else
   aT (β:=((Int×(ah×(List aa)×(List aa)×(List aa)×(List aJ)×(List aa)×(List Bool)×(List aa)×Unit)×Unit) ⊕ (Int×Bool×Bool×Int×Int×Bys×Bool×(List Int)×Bys×Bys×Int×Int×Int×Bool×(List aD)×(List au)×(List ax)×(List aa)×(List aa)×(List aa)×(List aJ)×(List aa)×(List Bool)×(List aa)×Unit))) (γ:=(Int×Bool×Bool×Int×Int×Bys×Bool×(List Int)×Bys×Bys×Int×Int×Int×Bool×(List aD)×(List au)×(List ax)×(List aa)×(List aa)×(List aa)×(List aJ)×(List aa)×(List Bool)×(List aa)×Unit)) (
    iter (X:=nx) (β:=xq) (r2.1.natAbs+(a0.2.2.1.length+(Int.natAbs ((a0.2.2.1.length:Int))+(Int.natAbs (0:Int)+(a1.2.1.1.natAbs+(a1.2.1.2.natAbs+(a1.2.2.length+(r1.1.2.length+(a0.1.1.length+(a0.1.2.1.length+(a0.1.2.2.1.natAbs+(a0.1.2.2.2.1.natAbs+(a0.1.2.2.2.2.1.natAbs+(a0.1.2.2.2.2.2.2.1.length+(a0.1.2.2.2.2.2.2.2.1.length+(a0.1.2.2.2.2.2.2.2.2.length+(a0.2.2.1.length+(a0.2.1.length+(a0.2.2.2.1.length+(a0.2.2.2.2.1.length+(a0.2.2.2.2.2.1.length+(a0.2.2.2.2.2.2.1.length+(a0.2.2.2.2.2.2.2.1.length+2))))))))))))))))))))))) (r2.1,r2.2.1,a0.2.2.1,(a0.2.2.1.length:Int),0,a1.1,a1.2.1.1,a1.2.1.2,a1.2.2,r1.1.1,r1.1.2,a0.1.1,a0.1.2.1,a0.1.2.2.1,a0.1.2.2.2.1,a0.1.2.2.2.2.1,a0.1.2.2.2.2.2.1,a0.1.2.2.2.2.2.2.1,a0.1.2.2.2.2.2.2.2.1,a0.1.2.2.2.2.2.2.2.2,a0.2.2.1,a0.2.1,a0.2.2.2.1,a0.2.2.2.2.1,a0.2.2.2.2.2.1,a0.2.2.2.2.2.2.1,a0.2.2.2.2.2.2.2.1,()) (rD)) fun v7=>
   some (Sum.inr (v7.1,v7.2.1,v7.2.2.1,v7.2.2.2.1,v7.2.2.2.2.1,v7.2.2.2.2.2.1,v7.2.2.2.2.2.2.1,v7.2.2.2.2.2.2.2.1,v7.2.2.2.2.2.2.2.2.1,v7.2.2.2.2.2.2.2.2.2.1,v7.2.2.2.2.2.2.2.2.2.2.1,v7.2.2.2.2.2.2.2.2.2.2.2.1,v7.2.2.2.2.2.2.2.2.2.2.2.2.1,v7.2.2.2.2.2.2.2.2.2.2.2.2.2.1,v7.2.2.2.2.2.2.2.2.2.2.2.2.2.2.1,v7.2.2.2.2.2.2.2.2.2.2.2.2.2.2.2.1,v7.2.2.2.2.2.2.2.2.2.2.2.2.2.2.2.2.1,v7.2.2.2.2.2.2.2.2.2.2.2.2.2.2.2.2.2.1,v7.2.2.2.2.2.2.2.2.2.2.2.2.2.2.2.2.2.2.1,v7.2.2.2.2.2.2.2.2.2.2.2.2.2.2.2.2.2.2.2.1,v7.2.2.2.2.2.2.2.2.2.2.2.2.2.2.2.2.2.2.2.2.1,v7.2.2.2.2.2.2.2.2.2.2.2.2.2.2.2.2.2.2.2.2.2.1,v7.2.2.2.2.2.2.2.2.2.2.2.2.2.2.2.2.2.2.2.2.2.2.1,v7.2.2.2.2.2.2.2.2.2.2.2.2.2.2.2.2.2.2.2.2.2.2.2.1,()))) fun v8=>
 Option.bind (mQ (v8.2.2.2.1,v8.2.2.2.2.1) (if v8.2.2.2.2.1>v8.2.2.2.2.2.2.2.2.2.2.2.1 then v8.2.2.2.2.1 else v8.2.2.2.2.2.2.2.2.2.2.2.1)) fun r9=>
 aT (β:=(Int×(ah×(List aa)×(List aa)×(List aa)×(List aJ)×(List aa)×(List Bool)×(List aa)×Unit)×Unit)) (γ:=(Int×Bool×Bool×(List Int)×Bys×Bys×Int×Int×Int×Bool×(List aD)×(List au)×(List ax)×(List aa)×(List aa)×(List aa)×(List aJ)×(List aa)×(List Bool)×(List aa)×Unit)) (
  bif v8.2.2.1 then
   Option.bind (sB (v8.2.2.2.2.2.2.2.2.1,v8.2.2.2.2.2.2.2.2.2.1,v8.2.2.2.2.2.2.2.2.2.2.1,v8.2.2.2.2.2.2.2.2.2.2.2.1,v8.2.2.2.2.2.2.2.2.2.2.2.2.1,v8.2.2.2.2.2.2.2.2.2.2.2.2.2.1,v8.2.2.2.2.2.2.2.2.2.2.2.2.2.2.1,v8.2.2.2.2.2.2.2.2.2.2.2.2.2.2.2.1,v8.2.2.2.2.2.2.2.2.2.2.2.2.2.2.2.2.1) (v8.2.2.2.2.2.2.1,v8.2.2.2.2.2.2.2.1) (v8.2.2.2.1,v8.2.2.2.2.1)) fun r10=>
   some (Sum.inr (v8.1,v8.2.1,r10.1.1,r10.1.2,v8.2.2.2.2.2.2.2.2.1,v8.2.2.2.2.2.2.2.2.2.1,v8.2.2.2.2.2.2.2.2.2.2.1,v8.2.2.2.2.2.2.2.2.2.2.2.1,v8.2.2.2.2.2.2.2.2.2.2.2.2.1,v8.2.2.2.2.2.2.2.2.2.2.2.2.2.1,v8.2.2.2.2.2.2.2.2.2.2.2.2.2.2.1,v8.2.2.2.2.2.2.2.2.2.2.2.2.2.2.2.1,v8.2.2.2.2.2.2.2.2.2.2.2.2.2.2.2.2.1,v8.2.2.2.2.2.2.2.2.2.2.2.2.2.2.2.2.2.1,v8.2.2.2.2.2.2.2.2.2.2.2.2.2.2.2.2.2.2.1,v8.2.2.2.2.2.2.2.2.2.2.2.2.2.2.2.2.2.2.2.1,v8.2.2.2.2.2.2.2.2.2.2.2.2.2.2.2.2.2.2.2.2.1,v8.2.2.2.2.2.2.2.2.2.2.2.2.2.2.2.2.2.2.2.2.2.1,v8.2.2.2.2.2.2.2.2.2.2.2.2.2.2.2.2.2.2.2.2.2.2.1,v8.2.2.2.2.2.2.2.2.2.2.2.2.2.2.2.2.2.2.2.2.2.2.2.1,()))
  else
   some (Sum.inr (v8.1,v8.2.1,r9.1.1,r9.1.2,v8.2.2.2.2.2.2.2.2.1,v8.2.2.2.2.2.2.2.2.2.1,v8.2.2.2.2.2.2.2.2.2.2.1,v8.2.2.2.2.2.2.2.2.2.2.2.1,v8.2.2.2.2.2.2.2.2.2.2.2.2.1,v8.2.2.2.2.2.2.2.2.2.2.2.2.2.1,v8.2.2.2.2.2.2.2.2.2.2.2.2.2.2.1,v8.2.2.2.2.2.2.2.2.2.2.2.2.2.2.2.1,v8.2.2.2.2.2.2.2.2.2.2.2.2.2.2.2.2.1,v8.2.2.2.2.2.2.2.2.2.2.2.2.2.2.2.2.2.1,v8.2.2.2.2.2.2.2.2.2.2.2.2.2.2.2.2.2.2.1,v8.2.2.2.2.2.2.2.2.2.2.2.2.2.2.2.2.2.2.2.1,v8.2.2.2.2.2.2.2.2.2.2.2.2.2.2.2.2.2.2.2.2.1,v8.2.2.2.2.2.2.2.2.2.2.2.2.2.2.2.2.2.2.2.2.2.1,v8.2.2.2.2.2.2.2.2.2.2.2.2.2.2.2.2.2.2.2.2.2.2.1,v8.2.2.2.2.2.2.2.2.2.2.2.2.2.2.2.2.2.2.2.2.2.2.2.1,()))) fun v11=>
 Option.bind (kI (v11.2.2.1,v11.2.2.2.1)) fun r12=>
 bif !r12.1 then
  some (1,((v11.2.2.2.2.1,v11.2.2.2.2.2.1,v11.2.2.2.2.2.2.1,v11.2.2.2.2.2.2.2.1,v11.2.2.2.2.2.2.2.2.1,v11.2.2.2.2.2.2.2.2.2.1,v11.2.2.2.2.2.2.2.2.2.2.1,v11.2.2.2.2.2.2.2.2.2.2.2.1,v11.2.2.2.2.2.2.2.2.2.2.2.2.1),v11.2.2.2.2.2.2.2.2.2.2.2.2.2.2.1,v11.2.2.2.2.2.2.2.2.2.2.2.2.2.1,v11.2.2.2.2.2.2.2.2.2.2.2.2.2.2.2.1,v11.2.2.2.2.2.2.2.2.2.2.2.2.2.2.2.2.1,v11.2.2.2.2.2.2.2.2.2.2.2.2.2.2.2.2.2.1,v11.2.2.2.2.2.2.2.2.2.2.2.2.2.2.2.2.2.2.1,v11.2.2.2.2.2.2.2.2.2.2.2.2.2.2.2.2.2.2.2.1,()),())
 else
  chk (decide (((v11.2.2.2.2.2.2.2.2.2.2.2.2.2.2.2.2.2.1.length)+1)*32≤140737488355328)&&decide ((v11.2.2.2.2.2.2.2.2.2.2.2.2.2.2.2.2.2.1.length)+1≤maxLen)) <|
  bif v11.2.1 then
   Option.bind (gR ((v11.2.2.2.2.1,v11.2.2.2.2.2.1,v11.2.2.2.2.2.2.1,v11.2.2.2.2.2.2.2.1,v11.2.2.2.2.2.2.2.2.1,v11.2.2.2.2.2.2.2.2.2.1,v11.2.2.2.2.2.2.2.2.2.2.1,v11.2.2.2.2.2.2.2.2.2.2.2.1,v11.2.2.2.2.2.2.2.2.2.2.2.2.1),v11.2.2.2.2.2.2.2.2.2.2.2.2.2.2.1,v11.2.2.2.2.2.2.2.2.2.2.2.2.2.1,v11.2.2.2.2.2.2.2.2.2.2.2.2.2.2.2.1,v11.2.2.2.2.2.2.2.2.2.2.2.2.2.2.2.2.1,v11.2.2.2.2.2.2.2.2.2.2.2.2.2.2.2.2.2.1++[(v11.2.2.1,v11.2.2.2.1)],v11.2.2.2.2.2.2.2.2.2.2.2.2.2.2.2.2.2.2.1,v11.2.2.2.2.2.2.2.2.2.2.2.2.2.2.2.2.2.2.2.1,()) v11.1 (v11.2.2.1,v11.2.2.2.1)) fun r13=>
   chk (decide (0≤v11.1)&&decide (v11.1<(r13.1.2.2.2.2.2.2.1.length:Int))) <|
   Option.bind (r13.1.2.2.2.2.2.2.1[v11.1.toNat]?) fun _=>
   Option.bind (bZ r13.1.2.2.2.1 ()) fun r15=>
   bif r15.1 then
    some (1,(r13.1.1,r13.1.2.1,r13.1.2.2.1,r13.1.2.2.2.1,r13.1.2.2.2.2.1,r13.1.2.2.2.2.2.1,List.set r13.1.2.2.2.2.2.2.1 v11.1.toNat true,r13.1.2.2.2.2.2.2.2.1,()),())
   else
    some (0,(r13.1.1,r13.1.2.1,r13.1.2.2.1,r13.1.2.2.2.1,r13.1.2.2.2.2.1,r13.1.2.2.2.2.2.1,List.set r13.1.2.2.2.2.2.2.1 v11.1.toNat true,r13.1.2.2.2.2.2.2.2.1,()),())
  else
   Option.bind (je ((v11.2.2.2.2.1,v11.2.2.2.2.2.1,v11.2.2.2.2.2.2.1,v11.2.2.2.2.2.2.2.1,v11.2.2.2.2.2.2.2.2.1,v11.2.2.2.2.2.2.2.2.2.1,v11.2.2.2.2.2.2.2.2.2.2.1,v11.2.2.2.2.2.2.2.2.2.2.2.1,v11.2.2.2.2.2.2.2.2.2.2.2.2.1),v11.2.2.2.2.2.2.2.2.2.2.2.2.2.2.1,v11.2.2.2.2.2.2.2.2.2.2.2.2.2.1,v11.2.2.2.2.2.2.2.2.2.2.2.2.2.2.2.1,v11.2.2.2.2.2.2.2.2.2.2.2.2.2.2.2.2.1,v11.2.2.2.2.2.2.2.2.2.2.2.2.2.2.2.2.2.1++[(v11.2.2.1,v11.2.2.2.1)],v11.2.2.2.2.2.2.2.2.2.2.2.2.2.2.2.2.2.2.1,v11.2.2.2.2.2.2.2.2.2.2.2.2.2.2.2.2.2.2.2.1,()) (v11.2.2.1,v11.2.2.2.1)) fun r16=>
   bif r16.1 != 0 then
    some (r16.1,(r16.2.1.1,r16.2.1.2.1,r16.2.1.2.2.1,r16.2.1.2.2.2.1,r16.2.1.2.2.2.2.1,r16.2.1.2.2.2.2.2.1,r16.2.1.2.2.2.2.2.2.1,r16.2.1.2.2.2.2.2.2.2.1,()),())
   else
    Option.bind (bZ r16.2.1.2.2.2.1 ()) fun r17=>
    bif r17.1 then
     some (1,(r16.2.1.1,r16.2.1.2.1,r16.2.1.2.2.1,r16.2.1.2.2.2.1,r16.2.1.2.2.2.2.1,r16.2.1.2.2.2.2.2.1,r16.2.1.2.2.2.2.2.2.1,r16.2.1.2.2.2.2.2.2.2.1,()),())
    else
     some (0,(r16.2.1.1,r16.2.1.2.1,r16.2.1.2.2.1,r16.2.1.2.2.2.1,r16.2.1.2.2.2.2.1,r16.2.1.2.2.2.2.2.1,r16.2.1.2.2.2.2.2.2.1,r16.2.1.2.2.2.2.2.2.2.1,()),())
abbrev pO:Type:=(List aD)×Int×Int×Bys×Bys×Int×Int×Int×Bool×(List aD)×(List au)×(List ax)×(List aa)×(List aa)×(List aa)×(List aa)×(List aJ)×(List aa)×(List Bool)×Unit
abbrev z7:Type:=((Int×(ah×(List aa)×(List aa)×(List aa)×(List aJ)×(List aa)×(List Bool)×(List aa)×Unit)×Unit) ⊕ (Bys×Bys×Int×Int×Int×Bool×(List aD)×(List au)×(List ax)×(List aa)×(List aa)×(List aa)×(List aa)×(List aJ)×(List aa)×(List Bool)×Unit))
def uv (x1:pO) (again:pO→Option z7):Option z7:=
 bif decide (x1.2.2.1<x1.2.1) then
  Option.bind (idx x1.1 x1.2.2.1) fun y2=>
  bif !x1.2.2.2.2.2.2.2.2.1 then
   chk (decide (0≤x1.2.2.1)&&decide (x1.2.2.1<(x1.2.2.2.2.2.2.2.2.2.2.2.2.2.2.2.1.length:Int))) <|
   Option.bind (x1.2.2.2.2.2.2.2.2.2.2.2.2.2.2.2.1[x1.2.2.1.toNat]?) fun y3=>
   Option.bind (sB (x1.2.2.2.1,x1.2.2.2.2.1,x1.2.2.2.2.2.1,x1.2.2.2.2.2.2.1,x1.2.2.2.2.2.2.2.1,x1.2.2.2.2.2.2.2.2.1,x1.2.2.2.2.2.2.2.2.2.1,x1.2.2.2.2.2.2.2.2.2.2.1,x1.2.2.2.2.2.2.2.2.2.2.2.1) y3 y2.2) fun r4=>
   chk (decide (0≤x1.2.2.1)&&decide (x1.2.2.1<(x1.2.2.2.2.2.2.2.2.2.2.2.2.2.1.length:Int))) <|
   Option.bind (x1.2.2.2.2.2.2.2.2.2.2.2.2.2.1[x1.2.2.1.toNat]?) fun _=>
   again (x1.1,x1.2.1,w64 (x1.2.2.1+1),x1.2.2.2.1,x1.2.2.2.2.1,x1.2.2.2.2.2.1,x1.2.2.2.2.2.2.1,x1.2.2.2.2.2.2.2.1,x1.2.2.2.2.2.2.2.2.1,x1.2.2.2.2.2.2.2.2.2.1,x1.2.2.2.2.2.2.2.2.2.2.1,x1.2.2.2.2.2.2.2.2.2.2.2.1,x1.2.2.2.2.2.2.2.2.2.2.2.2.1,List.set x1.2.2.2.2.2.2.2.2.2.2.2.2.2.1 x1.2.2.1.toNat r4.1,x1.2.2.2.2.2.2.2.2.2.2.2.2.2.2.1,x1.2.2.2.2.2.2.2.2.2.2.2.2.2.2.2.1,x1.2.2.2.2.2.2.2.2.2.2.2.2.2.2.2.2.1,x1.2.2.2.2.2.2.2.2.2.2.2.2.2.2.2.2.2.1,x1.2.2.2.2.2.2.2.2.2.2.2.2.2.2.2.2.2.2.1,())
  else
   again (x1.1,x1.2.1,w64 (x1.2.2.1+1),x1.2.2.2.1,x1.2.2.2.2.1,x1.2.2.2.2.2.1,x1.2.2.2.2.2.2.1,x1.2.2.2.2.2.2.2.1,x1.2.2.2.2.2.2.2.2.1,x1.2.2.2.2.2.2.2.2.2.1,x1.2.2.2.2.2.2.2.2.2.2.1,x1.2.2.2.2.2.2.2.2.2.2.2.1,x1.2.2.2.2.2.2.2.2.2.2.2.2.1,x1.2.2.2.2.2.2.2.2.2.2.2.2.2.1,x1.2.2.2.2.2.2.2.2.2.2.2.2.2.2.1,x1.2.2.2.2.2.2.2.2.2.2.2.2.2.2.2.1,x1.2.2.2.2.2.2.2.2.2.2.2.2.2.2.2.2.1,x1.2.2.2.2.2.2.2.2.2.2.2.2.2.2.2.2.2.1,x1.2.2.2.2.2.2.2.2.2.2.2.2.2.2.2.2.2.2.1,())
 else
  some (Sum.inr (x1.2.2.2.1,x1.2.2.2.2.1,x1.2.2.2.2.2.1,x1.2.2.2.2.2.2.1,x1.2.2.2.2.2.2.2.1,x1.2.2.2.2.2.2.2.2.1,x1.2.2.2.2.2.2.2.2.2.1,x1.2.2.2.2.2.2.2.2.2.2.1,x1.2.2.2.2.2.2.2.2.2.2.2.1,x1.2.2.2.2.2.2.2.2.2.2.2.2.1,x1.2.2.2.2.2.2.2.2.2.2.2.2.2.1,x1.2.2.2.2.2.2.2.2.2.2.2.2.2.2.1,x1.2.2.2.2.2.2.2.2.2.2.2.2.2.2.2.1,x1.2.2.2.2.2.2.2.2.2.2.2.2.2.2.2.2.1,x1.2.2.2.2.2.2.2.2.2.2.2.2.2.2.2.2.2.1,x1.2.2.2.2.2.2.2.2.2.2.2.2.2.2.2.2.2.2.1,()))
abbrev pP:Type:=Int×Int×Bys×Bys×Int×Int×Int×Bool×(List aD)×(List au)×(List ax)×(List aa)×(List aa)×(List aa)×(List aa)×(List aJ)×(List aa)×(List Bool)×Unit
abbrev z8:Type:=((Int×(ah×(List aa)×(List aa)×(List aa)×(List aJ)×(List aa)×(List Bool)×(List aa)×Unit)×Unit) ⊕ (Bys×Bys×Int×Int×Int×Bool×(List aD)×(List au)×(List ax)×(List aa)×(List aa)×(List aa)×(List aa)×(List aJ)×(List aa)×(List Bool)×Unit))
def uw (x1:pP) (again:pP→Option z8):Option z8:=
 bif decide (x1.2.1<x1.1) then
  chk (decide (0≤x1.2.1)&&decide (x1.2.1<(x1.2.2.2.2.2.2.2.2.2.2.2.2.2.2.2.1.length:Int))) <|
  Option.bind (x1.2.2.2.2.2.2.2.2.2.2.2.2.2.2.2.1[x1.2.1.toNat]?) fun y2=>
  bif x1.2.2.2.2.2.2.2.1 then
   chk (decide (0≤y2.1)&&decide (y2.1<(x1.2.2.2.2.2.2.2.2.2.2.2.2.1.length:Int))) <|
   Option.bind (x1.2.2.2.2.2.2.2.2.2.2.2.2.1[y2.1.toNat]?) fun y3=>
   Option.bind (idx x1.2.2.2.2.2.2.2.2.1 y2.1) fun y4=>
   Option.bind (sB (x1.2.2.1,x1.2.2.2.1,x1.2.2.2.2.1,x1.2.2.2.2.2.1,x1.2.2.2.2.2.2.1,x1.2.2.2.2.2.2.2.1,x1.2.2.2.2.2.2.2.2.1,x1.2.2.2.2.2.2.2.2.2.1,x1.2.2.2.2.2.2.2.2.2.2.1) y2.2 y4.2) fun r5=>
   Option.bind (bf y3 r5.1) fun r6=>
   chk (decide (0≤y2.1)&&decide (y2.1<(x1.2.2.2.2.2.2.2.2.2.2.2.2.1.length:Int))) <|
   Option.bind (x1.2.2.2.2.2.2.2.2.2.2.2.2.1[y2.1.toNat]?) fun _=>
   again (x1.1,w64 (x1.2.1+1),x1.2.2.1,x1.2.2.2.1,x1.2.2.2.2.1,x1.2.2.2.2.2.1,x1.2.2.2.2.2.2.1,x1.2.2.2.2.2.2.2.1,x1.2.2.2.2.2.2.2.2.1,x1.2.2.2.2.2.2.2.2.2.1,x1.2.2.2.2.2.2.2.2.2.2.1,x1.2.2.2.2.2.2.2.2.2.2.2.1,List.set x1.2.2.2.2.2.2.2.2.2.2.2.2.1 y2.1.toNat r6.1,x1.2.2.2.2.2.2.2.2.2.2.2.2.2.1,x1.2.2.2.2.2.2.2.2.2.2.2.2.2.2.1,x1.2.2.2.2.2.2.2.2.2.2.2.2.2.2.2.1,x1.2.2.2.2.2.2.2.2.2.2.2.2.2.2.2.2.1,x1.2.2.2.2.2.2.2.2.2.2.2.2.2.2.2.2.2.1,())
  else
   again (x1.1,w64 (x1.2.1+1),x1.2.2.1,x1.2.2.2.1,x1.2.2.2.2.1,x1.2.2.2.2.2.1,x1.2.2.2.2.2.2.1,x1.2.2.2.2.2.2.2.1,x1.2.2.2.2.2.2.2.2.1,x1.2.2.2.2.2.2.2.2.2.1,x1.2.2.2.2.2.2.2.2.2.2.1,x1.2.2.2.2.2.2.2.2.2.2.2.1,x1.2.2.2.2.2.2.2.2.2.2.2.2.1,x1.2.2.2.2.2.2.2.2.2.2.2.2.2.1,x1.2.2.2.2.2.2.2.2.2.2.2.2.2.2.1,x1.2.2.2.2.2.2.2.2.2.2.2.2.2.2.2.1,x1.2.2.2.2.2.2.2.2.2.2.2.2.2.2.2.2.1,x1.2.2.2.2.2.2.2.2.2.2.2.2.2.2.2.2.2.1,())
 else
  some (Sum.inr (x1.2.2.1,x1.2.2.2.1,x1.2.2.2.2.1,x1.2.2.2.2.2.1,x1.2.2.2.2.2.2.1,x1.2.2.2.2.2.2.2.1,x1.2.2.2.2.2.2.2.2.1,x1.2.2.2.2.2.2.2.2.2.1,x1.2.2.2.2.2.2.2.2.2.2.1,x1.2.2.2.2.2.2.2.2.2.2.2.1,x1.2.2.2.2.2.2.2.2.2.2.2.2.1,x1.2.2.2.2.2.2.2.2.2.2.2.2.2.1,x1.2.2.2.2.2.2.2.2.2.2.2.2.2.2.1,x1.2.2.2.2.2.2.2.2.2.2.2.2.2.2.2.1,x1.2.2.2.2.2.2.2.2.2.2.2.2.2.2.2.2.1,x1.2.2.2.2.2.2.2.2.2.2.2.2.2.2.2.2.2.1,()))
def zz (a0:ah×(List aa)×(List aa)×(List aa)×(List aJ)×(List aa)×(List Bool)×(List aa)×Unit):Option (Int×(ah×(List aa)×(List aa)×(List aa)×(List aJ)×(List aa)×(List Bool)×(List aa)×Unit)×Unit):=
 chk (decide (0≤((a0.2.2.2.1.length:Int)))&&decide (((a0.2.2.2.1.length:Int))≤((a0.2.2.2.1.length:Int)))&&decide ((32:Int)*((a0.2.2.2.1.length:Int))≤281474976710656)&&decide (((a0.2.2.2.1.length:Int))≤9223372036854775807)) <|
 aT (β:=(Int×(ah×(List aa)×(List aa)×(List aa)×(List aJ)×(List aa)×(List Bool)×(List aa)×Unit)×Unit)) (γ:=(Bys×Bys×Int×Int×Int×Bool×(List aD)×(List au)×(List ax)×(List aa)×(List aa)×(List aa)×(List aa)×(List aJ)×(List aa)×(List Bool)×Unit)) (
  iter (X:=pO) (β:=z7) (a0.1.2.2.2.2.2.2.1.length+(Int.natAbs ((a0.1.2.2.2.2.2.2.1.length:Int))+(Int.natAbs (0:Int)+(a0.1.1.length+(a0.1.2.1.length+(a0.1.2.2.1.natAbs+(a0.1.2.2.2.1.natAbs+(a0.1.2.2.2.2.1.natAbs+(a0.1.2.2.2.2.2.2.1.length+(a0.1.2.2.2.2.2.2.2.1.length+(a0.1.2.2.2.2.2.2.2.2.length+(a0.2.2.1.length+(List.length ((List.replicate (Int.toNat ((a0.2.2.2.1.length:Int))) (false,[]):List (aa)):List aa)+(a0.2.1.length+(a0.2.2.2.1.length+(a0.2.2.2.2.1.length+(a0.2.2.2.2.2.1.length+(a0.2.2.2.2.2.2.1.length+2)))))))))))))))))) (a0.1.2.2.2.2.2.2.1,(a0.1.2.2.2.2.2.2.1.length:Int),0,a0.1.1,a0.1.2.1,a0.1.2.2.1,a0.1.2.2.2.1,a0.1.2.2.2.2.1,a0.1.2.2.2.2.2.1,a0.1.2.2.2.2.2.2.1,a0.1.2.2.2.2.2.2.2.1,a0.1.2.2.2.2.2.2.2.2,a0.2.2.1,(List.replicate (Int.toNat ((a0.2.2.2.1.length:Int))) (false,[]):List (aa)),a0.2.1,a0.2.2.2.1,a0.2.2.2.2.1,a0.2.2.2.2.2.1,a0.2.2.2.2.2.2.1,()) (uv)) fun v6=>
 aT (β:=(Int×(ah×(List aa)×(List aa)×(List aa)×(List aJ)×(List aa)×(List Bool)×(List aa)×Unit)×Unit)) (γ:=(Bys×Bys×Int×Int×Int×Bool×(List aD)×(List au)×(List ax)×(List aa)×(List aa)×(List aa)×(List aa)×(List aJ)×(List aa)×(List Bool)×Unit)) (
  iter (X:=pP) (β:=z8) (Int.natAbs ((v6.2.2.2.2.2.2.2.2.2.2.2.2.2.1.length:Int))+(Int.natAbs (0:Int)+(v6.1.length+(v6.2.1.length+(v6.2.2.1.natAbs+(v6.2.2.2.1.natAbs+(v6.2.2.2.2.1.natAbs+(v6.2.2.2.2.2.2.1.length+(v6.2.2.2.2.2.2.2.1.length+(v6.2.2.2.2.2.2.2.2.1.length+(v6.2.2.2.2.2.2.2.2.2.1.length+(v6.2.2.2.2.2.2.2.2.2.2.1.length+(v6.2.2.2.2.2.2.2.2.2.2.2.1.length+(v6.2.2.2.2.2.2.2.2.2.2.2.2.1.length+(v6.2.2.2.2.2.2.2.2.2.2.2.2.2.1.length+(v6.2.2.2.2.2.2.2.2.2.2.2.2.2.2.1.length+(v6.2.2.2.2.2.2.2.2.2.2.2.2.2.2.2.1.length+2))))))))))))))))) ((v6.2.2.2.2.2.2.2.2.2.2.2.2.2.1.length:Int),0,v6.1,v6.2.1,v6.2.2.1,v6.2.2.2.1,v6.2.2.2.2.1,v6.2.2.2.2.2.1,v6.2.2.2.2.2.2.1,v6.2.2.2.2.2.2.2.1,v6.2.2.2.2.2.2.2.2.1,v6.2.2.2.2.2.2.2.2.2.1,v6.2.2.2.2.2.2.2.2.2.2.1,v6.2.2.2.2.2.2.2.2.2.2.2.1,v6.2.2.2.2.2.2.2.2.2.2.2.2.1,v6.2.2.2.2.2.2.2.2.2.2.2.2.2.1,v6.2.2.2.2.2.2.2.2.2.2.2.2.2.2.1,v6.2.2.2.2.2.2.2.2.2.2.2.2.2.2.2.1,()) (uw)) fun v14=>
 Option.bind (iX v14.2.2.2.2.2.2.2.2.2.2.1 ()) fun r15=>
 bif r15.1 then
  some (1,((v14.1,v14.2.1,v14.2.2.1,v14.2.2.2.1,v14.2.2.2.2.1,v14.2.2.2.2.2.1,v14.2.2.2.2.2.2.1,v14.2.2.2.2.2.2.2.1,v14.2.2.2.2.2.2.2.2.1),v14.2.2.2.2.2.2.2.2.2.2.2.1,v14.2.2.2.2.2.2.2.2.2.1,v14.2.2.2.2.2.2.2.2.2.2.2.2.1,v14.2.2.2.2.2.2.2.2.2.2.2.2.2.1,v14.2.2.2.2.2.2.2.2.2.2.2.2.2.2.1,v14.2.2.2.2.2.2.2.2.2.2.2.2.2.2.2.1,v14.2.2.2.2.2.2.2.2.2.2.1,()),())
 else
  some (0,((v14.1,v14.2.1,v14.2.2.1,v14.2.2.2.1,v14.2.2.2.2.1,v14.2.2.2.2.2.1,v14.2.2.2.2.2.2.1,v14.2.2.2.2.2.2.2.1,v14.2.2.2.2.2.2.2.2.1),v14.2.2.2.2.2.2.2.2.2.2.2.1,v14.2.2.2.2.2.2.2.2.2.1,v14.2.2.2.2.2.2.2.2.2.2.2.2.1,v14.2.2.2.2.2.2.2.2.2.2.2.2.2.1,v14.2.2.2.2.2.2.2.2.2.2.2.2.2.2.1,v14.2.2.2.2.2.2.2.2.2.2.2.2.2.2.2.1,v14.2.2.2.2.2.2.2.2.2.2.1,()),())
abbrev mN:Type:=(List ax)×Int×Int×Bys×Bys×Int×Int×Int×Bool×(List aD)×(List au)×(List ax)×(List aa)×(List aa)×(List aa)×(List aJ)×(List aa)×(List Bool)×(List aa)×(List gy)×Unit
abbrev Aa:Type:=(((Option Nat)×Int×(List gy)×Unit) ⊕ (Bys×Bys×Int×Int×Int×Bool×(List aD)×(List au)×(List ax)×(List aa)×(List aa)×(List aa)×(List aJ)×(List aa)×(List Bool)×(List aa)×(List gy)×Unit))
noncomputable def pQ (x1:mN) (again:mN→Option Aa):Option Aa:=
 bif decide (x1.2.2.1<x1.2.1) then
  Option.bind (idx x1.1 x1.2.2.1) fun y2=>
  Option.bind (nK ((x1.2.2.2.1,x1.2.2.2.2.1,x1.2.2.2.2.2.1,x1.2.2.2.2.2.2.1,x1.2.2.2.2.2.2.2.1,x1.2.2.2.2.2.2.2.2.1,x1.2.2.2.2.2.2.2.2.2.1,x1.2.2.2.2.2.2.2.2.2.2.1,x1.2.2.2.2.2.2.2.2.2.2.2.1),x1.2.2.2.2.2.2.2.2.2.2.2.2.1,x1.2.2.2.2.2.2.2.2.2.2.2.2.2.1,x1.2.2.2.2.2.2.2.2.2.2.2.2.2.2.1,x1.2.2.2.2.2.2.2.2.2.2.2.2.2.2.2.1,x1.2.2.2.2.2.2.2.2.2.2.2.2.2.2.2.2.1,x1.2.2.2.2.2.2.2.2.2.2.2.2.2.2.2.2.2.1,x1.2.2.2.2.2.2.2.2.2.2.2.2.2.2.2.2.2.2.1,()) y2) fun r3=>
  bif r3.1 != 0 then
   some (Sum.inl (none,r3.1,x1.2.2.2.2.2.2.2.2.2.2.2.2.2.2.2.2.2.2.2.1,()))
  else
   again (x1.1,x1.2.1,w64 (x1.2.2.1+1),r3.2.1.1.1,r3.2.1.1.2.1,r3.2.1.1.2.2.1,r3.2.1.1.2.2.2.1,r3.2.1.1.2.2.2.2.1,r3.2.1.1.2.2.2.2.2.1,r3.2.1.1.2.2.2.2.2.2.1,r3.2.1.1.2.2.2.2.2.2.2.1,r3.2.1.1.2.2.2.2.2.2.2.2,r3.2.1.2.1,r3.2.1.2.2.1,r3.2.1.2.2.2.1,r3.2.1.2.2.2.2.1,r3.2.1.2.2.2.2.2.1,r3.2.1.2.2.2.2.2.2.1,r3.2.1.2.2.2.2.2.2.2.1,x1.2.2.2.2.2.2.2.2.2.2.2.2.2.2.2.2.2.2.2.1,())
 else
  some (Sum.inr (x1.2.2.2.1,x1.2.2.2.2.1,x1.2.2.2.2.2.1,x1.2.2.2.2.2.2.1,x1.2.2.2.2.2.2.2.1,x1.2.2.2.2.2.2.2.2.1,x1.2.2.2.2.2.2.2.2.2.1,x1.2.2.2.2.2.2.2.2.2.2.1,x1.2.2.2.2.2.2.2.2.2.2.2.1,x1.2.2.2.2.2.2.2.2.2.2.2.2.1,x1.2.2.2.2.2.2.2.2.2.2.2.2.2.1,x1.2.2.2.2.2.2.2.2.2.2.2.2.2.2.1,x1.2.2.2.2.2.2.2.2.2.2.2.2.2.2.2.1,x1.2.2.2.2.2.2.2.2.2.2.2.2.2.2.2.2.1,x1.2.2.2.2.2.2.2.2.2.2.2.2.2.2.2.2.2.1,x1.2.2.2.2.2.2.2.2.2.2.2.2.2.2.2.2.2.2.1,x1.2.2.2.2.2.2.2.2.2.2.2.2.2.2.2.2.2.2.2.1,()))
noncomputable def nL (a0:ah) (a1:List gy):Option ((Option Nat)×Int×(List gy)×Unit):=
 Option.bind (fS a0) fun r1=>
 bif r1.1 != 0 then
  some (none,r1.1,a1,())
 else
  Option.bind (oC (a0,[],[],[],[],[],[],[],())) fun r2=>
  bif r2.1 != 0 then
   some (none,r2.1,a1,())
  else
   aT (β:=((Option Nat)×Int×(List gy)×Unit)) (γ:=(Bys×Bys×Int×Int×Int×Bool×(List aD)×(List au)×(List ax)×(List aa)×(List aa)×(List aa)×(List aJ)×(List aa)×(List Bool)×(List aa)×(List gy)×Unit)) (
    iter (X:=mN) (β:=Aa) (a0.2.2.2.2.2.2.2.2.length+(Int.natAbs ((a0.2.2.2.2.2.2.2.2.length:Int))+(Int.natAbs (0:Int)+(r2.2.1.1.1.length+(r2.2.1.1.2.1.length+(r2.2.1.1.2.2.1.natAbs+(r2.2.1.1.2.2.2.1.natAbs+(r2.2.1.1.2.2.2.2.1.natAbs+(r2.2.1.1.2.2.2.2.2.2.1.length+(r2.2.1.1.2.2.2.2.2.2.2.1.length+(r2.2.1.1.2.2.2.2.2.2.2.2.length+(r2.2.1.2.1.length+(r2.2.1.2.2.1.length+(r2.2.1.2.2.2.1.length+(r2.2.1.2.2.2.2.1.length+(r2.2.1.2.2.2.2.2.1.length+(r2.2.1.2.2.2.2.2.2.1.length+(r2.2.1.2.2.2.2.2.2.2.1.length+(List.length a1+2))))))))))))))))))) (a0.2.2.2.2.2.2.2.2,(a0.2.2.2.2.2.2.2.2.length:Int),0,r2.2.1.1.1,r2.2.1.1.2.1,r2.2.1.1.2.2.1,r2.2.1.1.2.2.2.1,r2.2.1.1.2.2.2.2.1,r2.2.1.1.2.2.2.2.2.1,r2.2.1.1.2.2.2.2.2.2.1,r2.2.1.1.2.2.2.2.2.2.2.1,r2.2.1.1.2.2.2.2.2.2.2.2,r2.2.1.2.1,r2.2.1.2.2.1,r2.2.1.2.2.2.1,r2.2.1.2.2.2.2.1,r2.2.1.2.2.2.2.2.1,r2.2.1.2.2.2.2.2.2.1,r2.2.1.2.2.2.2.2.2.2.1,a1,()) (pQ)) fun v6=>
   Option.bind (zz ((v6.1,v6.2.1,v6.2.2.1,v6.2.2.2.1,v6.2.2.2.2.1,v6.2.2.2.2.2.1,v6.2.2.2.2.2.2.1,v6.2.2.2.2.2.2.2.1,v6.2.2.2.2.2.2.2.2.1),v6.2.2.2.2.2.2.2.2.2.1,v6.2.2.2.2.2.2.2.2.2.2.1,v6.2.2.2.2.2.2.2.2.2.2.2.1,v6.2.2.2.2.2.2.2.2.2.2.2.2.1,v6.2.2.2.2.2.2.2.2.2.2.2.2.2.1,v6.2.2.2.2.2.2.2.2.2.2.2.2.2.2.1,v6.2.2.2.2.2.2.2.2.2.2.2.2.2.2.2.1,())) fun r7=>
   bif r7.1 != 0 then
    some (none,r7.1,v6.2.2.2.2.2.2.2.2.2.2.2.2.2.2.2.2.1,())
   else
    some (some (v6.2.2.2.2.2.2.2.2.2.2.2.2.2.2.2.2.1.length),0,v6.2.2.2.2.2.2.2.2.2.2.2.2.2.2.2.2.1++[(r7.2.1.1,r7.2.1.2.1,r7.2.1.2.2.1,r7.2.1.2.2.2.1,r7.2.1.2.2.2.2.1,r7.2.1.2.2.2.2.2.1,r7.2.1.2.2.2.2.2.2.1,r7.2.1.2.2.2.2.2.2.2.1)],())
abbrev AG:Type:=(List aa)×Int×Int×Bool×(List Int)×Bool×(List Int)×Unit
abbrev IL:Type:=((aa×Unit) ⊕ (Bool×(List Int)×Bool×(List Int)×Unit))
def El (x1:AG) (again:AG→Option IL):Option IL:=
 bif decide (x1.2.2.1<x1.2.1) then
  Option.bind (idx x1.1 x1.2.2.1) fun y2=>
  Option.bind (bf (x1.2.2.2.2.2.1,x1.2.2.2.2.2.2.1) y2) fun r3=>
  again (x1.1,x1.2.1,w64 (x1.2.2.1+1),x1.2.2.2.1,x1.2.2.2.2.1,r3.1.1,r3.1.2,())
 else
  some (Sum.inr (x1.2.2.2.1,x1.2.2.2.2.1,x1.2.2.2.2.2.1,x1.2.2.2.2.2.2.1,()))
def DD (a0:List aa):Option (aa×Unit):=
 Option.bind (bJ 0) fun r1=>
 aT (β:=(aa×Unit)) (γ:=(Bool×(List Int)×Bool×(List Int)×Unit)) (
  iter (X:=AG) (β:=IL) (List.length a0+(Int.natAbs ((List.length a0:Int))+(Int.natAbs (0:Int)+(List.length ([]:List Int)+(r1.1.2.length+2))))) (a0,(List.length a0:Int),0,false,[],r1.1.1,r1.1.2,()) (El)) fun v5=>
 some ((v5.2.2.1,v5.2.2.2.1),())
def kJ (a0:Option Nat) (a1:aa) (a2:List gy):Option (ai×Unit):=
 Option.bind (a0) fun h1=>
 Option.bind (a2[h1]?) fun y2=>
 Option.bind (oa a1 y2.1.2.2.2.1) fun r3=>
 some (r3.1,())
def ux (a0:Option Nat) (a1:List gy):Option (yd×Int×Unit):=
 Option.bind (a0) fun h1=>
 Option.bind (a1[h1]?) fun y2=>
 Option.bind (DD y2.2.1) fun r3=>
 Option.bind (a0) fun h4=>
 Option.bind (a1[h4]?) fun y5=>
 Option.bind (DD y5.2.2.2.2.2.1) fun r6=>
 Option.bind (a0) fun h7=>
 Option.bind (a1[h7]?) fun y8=>
 Option.bind (DD y8.2.2.2.2.2.2.2) fun r9=>
 Option.bind (bf r3.1 r6.1) fun r10=>
 Option.bind (bf r10.1 r9.1) fun r11=>
 Option.bind (iY [r3.1,r6.1,r10.1,r9.1,r11.1] ()) fun r12=>
 bif r12.1 then
  some (((0,0),(0,0),(0,0),(0,0),0,0),1,())
 else
  Option.bind (kJ a0 r3.1 a1) fun r13=>
  Option.bind (kJ a0 r6.1 a1) fun r14=>
  Option.bind (kJ a0 r10.1 a1) fun r15=>
  Option.bind (kJ a0 r9.1 a1) fun r16=>
  Option.bind (kJ a0 r11.1 a1) fun r17=>
  some ((r13.1,r14.1,r15.1,r16.1,r17.1),0,())
noncomputable def AE (a0:ah):Option (yd×Int×Unit):=
 Option.bind (nL a0 []) fun r1=>
 bif r1.2.1 != 0 then
  some (((0,0),(0,0),(0,0),(0,0),0,0),r1.2.1,())
 else
  Option.bind (ux r1.1 r1.2.2.1) fun r2=>
  some (r2.1,r2.2.1,())
end Go.Md
namespace Go.Md
open Go.Dn
noncomputable def jj (a0:List au):Option ((List au)×Unit):=
 bif List.isEmpty a0 then
  both (
   some ([],())) (
   chk (decide ((0+(List.length a0))*128≤140737488355328)&&decide (0+(List.length a0)≤maxLen)) <|
   some (a0,()))
 else
  chk (decide ((0+(List.length a0))*128≤140737488355328)&&decide (0+(List.length a0)≤maxLen)) <|
  some (a0,())
noncomputable def ov (a0:List ax):Option ((List ax)×Unit):=
 bif List.isEmpty a0 then
  both (
   some ([],())) (
   chk (decide ((0+(List.length a0))*40≤140737488355328)&&decide (0+(List.length a0)≤maxLen)) <|
   some (a0,()))
 else
  chk (decide ((0+(List.length a0))*40≤140737488355328)&&decide (0+(List.length a0)≤maxLen)) <|
  some (a0,())
def CH (a0:ai):Option (ai×Unit):=
 some ((w64 (0 - a0.1),a0.2),())
abbrev qD:Type:=Int×Int×(List ax)×Unit
abbrev Bk:Type:=(((List ax)×Unit) ⊕ ((List ax)×Unit))
noncomputable def vA (x1:qD) (again:qD→Option Bk):Option Bk:=
 bif decide (x1.2.1<x1.1) then
  chk (decide (0≤x1.2.1)&&decide (x1.2.1<(x1.2.2.1.length:Int))) <|
  Option.bind (x1.2.2.1[x1.2.1.toNat]?) fun y2=>
  bif !y2.1 then
   Option.bind (CH y2.2.1) fun r3=>
   chk (decide (0≤x1.2.1)&&decide (x1.2.1<(x1.2.2.1.length:Int))) <|
   Option.bind (x1.2.2.1[x1.2.1.toNat]?) fun y4=>
   again (x1.1,w64 (x1.2.1+1),List.set x1.2.2.1 x1.2.1.toNat (y4.1,r3.1,y4.2.2),())
  else
   again (x1.1,w64 (x1.2.1+1),x1.2.2.1,())
 else
  some (Sum.inr (x1.2.2.1,()))
noncomputable def pF (a0:List ax):Option ((List ax)×Unit):=
 Option.bind (ov a0) fun r1=>
 aT (β:=((List ax)×Unit)) (γ:=((List ax)×Unit)) (
  iter (X:=qD) (β:=Bk) (Int.natAbs ((r1.1.length:Int))+(Int.natAbs (0:Int)+(r1.1.length+2))) ((r1.1.length:Int),0,r1.1,()) (vA)) fun v6=>
 some (v6.1,())
abbrev pL:Type:=Int×Int×Bys×Bys×Int×Int×Int×Bool×(List aD)×(List au)×(List ax)×Bys×Bys×Int×Int×Int×Bool×(List ax)×(List aD)×(List au)×Unit
abbrev z6:Type:=((ah×Int×Unit) ⊕ (Bys×Bys×Int×Int×Int×Bool×(List aD)×(List au)×(List ax)×Bys×Bys×Int×Int×Int×Bool×(List ax)×(List aD)×(List au)×Unit))
noncomputable def pK (x1:pL) (again:pL→Option z6):Option z6:=
 bif decide (x1.2.1<x1.1) then
  chk (decide (0≤x1.2.1)&&decide (x1.2.1<(x1.2.2.2.2.2.2.2.2.2.2.2.2.2.2.2.2.2.2.2.1.length:Int))) <|
  Option.bind (x1.2.2.2.2.2.2.2.2.2.2.2.2.2.2.2.2.2.2.2.1[x1.2.1.toNat]?) fun y2=>
  Option.bind (CH y2.2.2.2.1) fun r3=>
  Option.bind (pF y2.2.2.2.2.2.2.2.1) fun r4=>
  chk (decide (0≤x1.2.1)&&decide (x1.2.1<(x1.2.2.2.2.2.2.2.2.2.2.2.2.2.2.2.2.2.2.2.1.length:Int))) <|
  Option.bind (x1.2.2.2.2.2.2.2.2.2.2.2.2.2.2.2.2.2.2.2.1[x1.2.1.toNat]?) fun y5=>
  chk (decide (0≤x1.2.1)&&decide (x1.2.1<(List.length (List.set x1.2.2.2.2.2.2.2.2.2.2.2.2.2.2.2.2.2.2.2.1 x1.2.1.toNat (y5.1,y5.2.1,y5.2.2.1,r3.1,y5.2.2.2.2)):Int))) <|
  Option.bind ((List.set x1.2.2.2.2.2.2.2.2.2.2.2.2.2.2.2.2.2.2.2.1 x1.2.1.toNat (y5.1,y5.2.1,y5.2.2.1,r3.1,y5.2.2.2.2))[x1.2.1.toNat]?) fun y6=>
  again (x1.1,w64 (x1.2.1+1),x1.2.2.1,x1.2.2.2.1,x1.2.2.2.2.1,x1.2.2.2.2.2.1,x1.2.2.2.2.2.2.1,x1.2.2.2.2.2.2.2.1,x1.2.2.2.2.2.2.2.2.1,x1.2.2.2.2.2.2.2.2.2.1,x1.2.2.2.2.2.2.2.2.2.2.1,x1.2.2.2.2.2.2.2.2.2.2.2.1,x1.2.2.2.2.2.2.2.2.2.2.2.2.1,x1.2.2.2.2.2.2.2.2.2.2.2.2.2.1,x1.2.2.2.2.2.2.2.2.2.2.2.2.2.2.1,x1.2.2.2.2.2.2.2.2.2.2.2.2.2.2.2.1,x1.2.2.2.2.2.2.2.2.2.2.2.2.2.2.2.2.1,x1.2.2.2.2.2.2.2.2.2.2.2.2.2.2.2.2.2.1,x1.2.2.2.2.2.2.2.2.2.2.2.2.2.2.2.2.2.2.1,List.set (List.set x1.2.2.2.2.2.2.2.2.2.2.2.2.2.2.2.2.2.2.2.1 x1.2.1.toNat (y5.1,y5.2.1,y5.2.2.1,r3.1,y5.2.2.2.2)) x1.2.1.toNat (y6.1,y6.2.1,y6.2.2.1,y6.2.2.2.1,y6.2.2.2.2.1,y6.2.2.2.2.2.1,y6.2.2.2.2.2.2.1,r4.1,y6.2.2.2.2.2.2.2.2),())
 else
  some (Sum.inr (x1.2.2.1,x1.2.2.2.1,x1.2.2.2.2.1,x1.2.2.2.2.2.1,x1.2.2.2.2.2.2.1,x1.2.2.2.2.2.2.2.1,x1.2.2.2.2.2.2.2.2.1,x1.2.2.2.2.2.2.2.2.2.1,x1.2.2.2.2.2.2.2.2.2.2.1,x1.2.2.2.2.2.2.2.2.2.2.2.1,x1.2.2.2.2.2.2.2.2.2.2.2.2.1,x1.2.2.2.2.2.2.2.2.2.2.2.2.2.1,x1.2.2.2.2.2.2.2.2.2.2.2.2.2.2.1,x1.2.2.2.2.2.2.2.2.2.2.2.2.2.2.2.1,x1.2.2.2.2.2.2.2.2.2.2.2.2.2.2.2.2.1,x1.2.2.2.2.2.2.2.2.2.2.2.2.2.2.2.2.2.1,x1.2.2.2.2.2.2.2.2.2.2.2.2.2.2.2.2.2.2.1,x1.2.2.2.2.2.2.2.2.2.2.2.2.2.2.2.2.2.2.2.1,()))
noncomputable def AY (a0:ah) (a1:Bys) (a2:Int):Option (ah×Int×Unit):=
 Option.bind (fS a0) fun r1=>
 bif r1.1 != 0 then
  some (([],[],0,0,0,false,[],[],[]),r1.1,())
 else
  Option.bind (dI a1) fun r2=>
  bif !r2.1 then
   some (([],[],0,0,0,false,[],[],[]),5,())
  else
   bif a1==a0.1 then
    some (([],[],0,0,0,false,[],[],[]),12,())
   else
    Option.bind (b8 a2 a0.2.2.1 3652059) fun r3=>
    bif r3.1 then
     some (([],[],0,0,0,false,[],[],[]),1,())
    else
     Option.bind (fR a0.2.2.2.2.2.2.1) fun r4=>
     Option.bind (jj a0.2.2.2.2.2.2.2.1) fun r5=>
     Option.bind (pF a0.2.2.2.2.2.2.2.2) fun r6=>
     aT (β:=(ah×Int×Unit)) (γ:=(Bys×Bys×Int×Int×Int×Bool×(List aD)×(List au)×(List ax)×Bys×Bys×Int×Int×Int×Bool×(List ax)×(List aD)×(List au)×Unit)) (
      iter (X:=pL) (β:=z6) (Int.natAbs ((r5.1.length:Int))+(Int.natAbs (0:Int)+(List.length ([]:Bys)+(List.length ([]:Bys)+(Int.natAbs (0:Int)+(Int.natAbs (0:Int)+(Int.natAbs (0:Int)+(List.length ([]:List aD)+(List.length ([]:List au)+(List.length ([]:List ax)+(List.length a1+(a0.2.1.length+(Int.natAbs a2+(a0.2.2.2.1.natAbs+(a0.2.2.2.2.1.natAbs+(r6.1.length+(r4.1.length+(r5.1.length+2)))))))))))))))))) ((r5.1.length:Int),0,[],[],0,0,0,false,[],[],[],a1,a0.2.1,a2,a0.2.2.2.1,a0.2.2.2.2.1,a0.2.2.2.2.2.1,r6.1,r4.1,r5.1,()) (pK)) fun v13=>
     Option.bind (fS (v13.2.2.2.2.2.2.2.2.2.1,v13.2.2.2.2.2.2.2.2.2.2.1,v13.2.2.2.2.2.2.2.2.2.2.2.1,v13.2.2.2.2.2.2.2.2.2.2.2.2.1,v13.2.2.2.2.2.2.2.2.2.2.2.2.2.1,v13.2.2.2.2.2.2.2.2.2.2.2.2.2.2.1,v13.2.2.2.2.2.2.2.2.2.2.2.2.2.2.2.2.1,v13.2.2.2.2.2.2.2.2.2.2.2.2.2.2.2.2.2.1,v13.2.2.2.2.2.2.2.2.2.2.2.2.2.2.2.1)) fun r14=>
     bif r14.1 != 0 then
      some (([],[],0,0,0,false,[],[],[]),r14.1,())
     else
      some ((v13.2.2.2.2.2.2.2.2.2.1,v13.2.2.2.2.2.2.2.2.2.2.1,v13.2.2.2.2.2.2.2.2.2.2.2.1,v13.2.2.2.2.2.2.2.2.2.2.2.2.1,v13.2.2.2.2.2.2.2.2.2.2.2.2.2.1,v13.2.2.2.2.2.2.2.2.2.2.2.2.2.2.1,v13.2.2.2.2.2.2.2.2.2.2.2.2.2.2.2.2.1,v13.2.2.2.2.2.2.2.2.2.2.2.2.2.2.2.2.2.1,v13.2.2.2.2.2.2.2.2.2.2.2.2.2.2.2.1),0,())
end Go.Md
set_option linter.all false
namespace Go.Md
open Go.Dn
def ri:Option (Bool×Unit):=
 Option.bind (zq [(15,1),(2,0)]) fun r1=>
 bif r1.2.1==0 then
  some ((r1.1.1==35)&&((r1.1.2==1)&&true),())
 else
  some (false,())
noncomputable def jw (a0:av) (a1:List aj) (a2:ah) (a3:Int):Option (Bool×Unit):=
 Option.bind (Ej a0 a1 [105,110,118,45,49] a2) fun r1=>
 Option.bind (
  bif r1.2.1 != 0 then
   some (true,())
  else
   bif decide (a3<r1.1.2.2.1) then
    some (true,())
   else
    bif decide (((List.length a1:Int))>0) then
     Option.bind (idx a1 (w64 (((List.length a1:Int)) - 1))) fun y2=>
     some (decide (r1.1.2.2.1<y2.1),())
    else
     some (false,())) fun v3=>
 bif v3.1 then
  Option.bind (
   bif r1.2.1==0 then
    Option.bind (ri) fun r4=>
    some (r4.1,())
   else
    bif r1.1.1==[] then
     Option.bind (ri) fun r5=>
     some (r5.1,())
    else
     some (false,())) fun v6=>
  some (v6.1,())
 else
  Option.bind (AY r1.1 [105,110,118,45,50] r1.1.2.2.1) fun r7=>
  bif r7.2.1 != 0 then
   Option.bind (ri) fun r8=>
   some (r8.1,())
  else
   bif decide (a3>3652059) then
    Option.bind (ri) fun r9=>
    some (r9.1,())
   else
    Option.bind (rW a0 a1 (0,0) [] a3) fun r10=>
    Option.bind (rW a0 a1 (0,0) [r1.1,r7.1] a3) fun r11=>
    Option.bind (rW a0 a1 (0,0) [r1.1] a3) fun r12=>
    bif r10.2.1 != 0 then
     some (false,())
    else
     bif r11.2.1 != 0 then
      some (false,())
     else
      bif r12.2.1 != 0 then
       some (false,())
      else
       Option.bind (pn r10.1 r11.1) fun r13=>
       bif !r13.1 then
        some (false,())
       else
        bif ((r12.1.length:Int)) != 0 then
         some (false,())
        else
         bif ((r10.1.length:Int))==0 then
          some (false,())
         else
          Option.bind (sd a0 a1 r1.1.2.2.1) fun r14=>
          bif r14.2.1 != 0 then
           some (false,())
          else
           bif decide (((r14.1.length:Int))<((r1.1.2.2.2.2.2.2.2.1.length:Int))) then
            some (false,())
           else
            Option.bind (
             bif r1.1.2.2.2.2.1 != 1 then
              bif r1.1.2.2.2.2.1 != 2 then
               bif r1.1.2.2.2.2.1 != 3 then
                some (r1.1.2.2.2.2.1 != 4,())
               else
                some (false,())
              else
               some (false,())
             else
              some (false,())) fun v15=>
            bif v15.1 then
             Option.bind (ri) fun r16=>
             some (r16.1,())
            else
             Option.bind (AE r1.1) fun r17=>
             Option.bind (AE r7.1) fun r18=>
             bif r17.2.1 != 0 then
              Option.bind (
               bif r17.2.1==r18.2.1 then
                Option.bind (ri) fun r19=>
                some (r19.1,())
               else
                some (false,())) fun v20=>
              some (v20.1,())
             else
              bif r18.2.1 != 0 then
               Option.bind (
                bif r17.2.1==r18.2.1 then
                 Option.bind (ri) fun r21=>
                 some (r21.1,())
                else
                 some (false,())) fun v22=>
               some (v22.1,())
              else
               Option.bind (zq [r17.1.2.2.2.2,r18.1.2.2.2.2]) fun r23=>
               Option.bind (
                bif r23.2.1==0 then
                 bif r23.1.1==0 then
                  Option.bind (ri) fun r24=>
                  some (r24.1,())
                 else
                  some (false,())
                else
                 some (false,())) fun v25=>
               some (v25.1,())
end Go.Md
