/-
  The plain models of the functions that the law reaches, first part. No condition.
-/
import Derived.Test.YtfghdjdpccoleaaGreatDoorYd
import Derived.Lib.SlTrimSet
namespace Go.Md
open Go.Dn
def dY (s c:List UInt8):Option (List UInt8×Unit):=
 bif decide (s.length<=9223372036854775807)&&(decide (c.length<4294967281)&&c.all fun b=>decide (b.toNat<128)) then some (Lib.trimS s c,()) else none
abbrev bG:Ty:=(.st (.pair tI tI))
abbrev aa:Type:=Int×Int
abbrev FJ:Type:=Int×aa×(List (List UInt8))
abbrev aV:Ty:=(.st (.pair .bool (.slice tI)))
abbrev ak:Type:=Bool×(List Int)
abbrev ko:Type:=(List UInt8)×Int×aa×Int×Int×Int
abbrev k9:Type:=ko×Int×Int×Int×Int
abbrev dK:Ty:=(.st (.pair .bool (.slice (.int .u32))))
abbrev bY:Type:=Bool×(List Int)
def gP (a0:List UInt8):Option (Bool×Unit):=
 bif decide (((List.length a0:Int))<1) then
  some (false,())
 else
  bif decide (((List.length a0:Int))>40) then
   some (false,())
  else
   Option.bind (fJ a0 0) fun c1=>
   bif decide ((c1.toNat:Int)<97) then
    some (false,())
   else
    Option.bind (fJ a0 0) fun c2=>
    bif decide ((c2.toNat:Int)>122) then
     some (false,())
    else
     Option.bind (dY a0 [97,98,99,100,101,102,103,104,105,106,107,108,109,110,111,112,113,114,115,116,117,118,119,120,121,122,48,49,50,51,52,53,54,55,56,57,45]) fun r3=>
     some (r3.1==[],())
def eg (a0:Int) (a1:Int) (a2:Int):Option (Bool×Unit):=
 bif decide (a0<a1) then
  some (true,())
 else
  some (decide (a0>a2),())
def oU (a0:Int):Option (Bool×Unit):=
 Option.bind (eg a0 1 3652059) fun r1=>
 some (!r1.1,())
def eH (a0:aa):Option (Int×Unit):=
 Option.bind (eg a0.1 (-1000000000000000) 1000000000000000) fun r1=>
 bif r1.1 then
  some (1,())
 else
  Option.bind (eg a0.2 0 9) fun r2=>
  bif r2.1 then
   some (1,())
  else
   some (0,())
abbrev nR:Type:=Int×Int×Int×Unit
abbrev nQ:Type:=((Int×Unit) ⊕ (Int×Unit))
def nP (x1:nR) (again:nR->Option nQ):Option nQ:=
 bif decide (x1.2.2.1<x1.2.1) then
  again (w64 (x1.1*10),x1.2.1,w64 (x1.2.2.1+1),())
 else
  some (Sum.inr (x1.1,()))
def CI (a0:Int):Option (Int×Unit):=
 aR (β:=(Int×Unit)) (γ:=(Int×Unit)) (
  iter (X:=nR) (β:=nQ) (Int.natAbs (1:Int)+(Int.natAbs a0+(Int.natAbs (0:Int)+2))) (1,a0,0,()) (nP)) fun v2=>
 some (v2.1,())
abbrev cY:Type:=(List (List UInt8))×(List UInt8)×Int×Int×Unit
abbrev cX:Type:=((Int×Unit) ⊕ Unit)
def cG (x1:cY) (again:cY->Option cX):Option cX:=
 bif decide (x1.2.2.2.1<x1.2.2.1) then
  Option.bind (idx x1.1 x1.2.2.2.1) fun y2=>
  bif x1.2.1==y2 then
   some (Sum.inl (x1.2.2.2.1,()))
  else
   again (x1.1,x1.2.1,x1.2.2.1,w64 (x1.2.2.2.1+1),())
 else
  some (Sum.inr ())
def dM (a0:List (List UInt8)) (a1:List UInt8):Option (Int×Unit):=
 aR (β:=(Int×Unit)) (γ:=Unit) (
  iter (X:=cY) (β:=cX) (List.length a0+(List.length a1+(Int.natAbs ((List.length a0:Int))+(Int.natAbs (0:Int)+2)))) (a0,a1,(List.length a0:Int),0,()) (cG)) fun _=>
 some ((-1),())
def dJ (a0:List (List UInt8)) (a1:List UInt8):Option (Bool×Unit):=
 Option.bind (dM a0 a1) fun r1=>
 some (decide (r1.1>=0),())
abbrev iC:Type:=(List Int)×Unit
abbrev oK:Type:=(((List Int)×Unit) ⊕ ((List Int)×Unit))
def oJ (x1:iC) (again:iC->Option oK):Option oK:=
 bif decide (((x1.1.length:Int))>0) then
  Option.bind (idx x1.1 (w64 (((x1.1.length:Int)) - 1))) fun y2=>
  bif y2==0 then
   chk (decide (0<=(0:Int))&&decide ((0:Int)<=(w64 (((x1.1.length:Int)) - 1)))&&decide ((w64 (((x1.1.length:Int)) - 1))<=(x1.1.length:Int))) <|
   again (List.drop 0 (List.take (Int.toNat (w64 (((x1.1.length:Int)) - 1))) x1.1),())
  else
   some (Sum.inr (x1.1,()))
 else
  some (Sum.inr (x1.1,()))
def k8 (a0:List Int):Option ((List Int)×Unit):=
 aR (β:=((List Int)×Unit)) (γ:=((List Int)×Unit)) (
  iter (X:=iC) (β:=oK) (List.length a0+2) (a0,()) (oJ)) fun v3=>
 some (v3.1,())
def gm (a0:Bool) (a1:List Int):Option (bY×Unit):=
 Option.bind (k8 a1) fun r1=>
 bif a0 then
  some ((decide (((r1.1.length:Int))>0),r1.1),())
 else
  some ((false,r1.1),())
def qV (a0:Int):Option (bY×Unit):=
 aR (β:=(bY×Unit)) (γ:=(Int×Int×Bool×(List Int)×Unit)) (
  bif decide (a0<0) then
   some (Sum.inr (a0,bI (0 - (bI a0)),false,[],()))
  else
   some (Sum.inr (a0,bI a0,false,[],()))) fun v1=>
 Option.bind (gm (decide (v1.1<0)) [(mF v1.2.1),(mF (Int.fdiv v1.2.1 (2 ^ 32)))]) fun r2=>
 some (r2.1,())
abbrev mE:Type:=(List Int)×(List Int)×Int×(List Int)×Int×Int×Unit
abbrev mD:Type:=(((List Int)×Unit) ⊕ ((List Int)×Int×Unit))
def mC (x1:mE) (again:mE->Option mD):Option mD:=
 bif decide (x1.2.2.2.2.2.1<x1.2.2.2.2.1) then
  Option.bind (idx x1.2.2.2.1 x1.2.2.2.2.2.1) fun y2=>
  aR (β:=(((List Int)×Unit) ⊕ ((List Int)×Int×Unit))) (γ:=((List Int)×(List Int)×Int×(List Int)×Int×Int×Unit)) (
   bif decide (x1.2.2.2.2.2.1<((x1.1.length:Int))) then
    Option.bind (idx x1.1 x1.2.2.2.2.2.1) fun y3=>
    let n4:Int:=bI ((bI (x1.2.2.1+(bI y2)))+(bI y3))
    some (Sum.inr (x1.1,x1.2.1,n4,x1.2.2.2.1,x1.2.2.2.2.1,x1.2.2.2.2.2.1,()))
   else
    some (Sum.inr (x1.1,x1.2.1,bI (x1.2.2.1+(bI y2)),x1.2.2.2.1,x1.2.2.2.2.1,x1.2.2.2.2.2.1,()))) fun v5=>
  chk (decide (((v5.2.1.length)+1)*4<=140737488355328)&&decide ((v5.2.1.length)+1<=maxLen)) <|
  again (v5.1,v5.2.1++[(mF v5.2.2.1)],Int.fdiv v5.2.2.1 (2 ^ 32),v5.2.2.2.1,v5.2.2.2.2.1,w64 (v5.2.2.2.2.2.1+1),())
 else
  some (Sum.inr (x1.2.1,x1.2.2.1,()))
def Ax (a0:List Int) (a1:List Int):Option ((List Int)×Unit):=
 aR (β:=((List Int)×Unit)) (γ:=((List Int)×(List Int)×Unit)) (
  bif decide (((List.length a0:Int))<((List.length a1:Int))) then
   some (Sum.inr (a1,a0,()))
  else
   some (Sum.inr (a0,a1,()))) fun v1=>
 chk (decide (0<=(0:Int))&&decide ((0:Int)<=(w64 (((v1.1.length:Int))+1)))&&decide ((4:Int)*(w64 (((v1.1.length:Int))+1))<=281474976710656)&&decide ((w64 (((v1.1.length:Int))+1))<=9223372036854775807)) <|
 aR (β:=((List Int)×Unit)) (γ:=((List Int)×Int×Unit)) (
  iter (X:=mE) (β:=mD) (v1.2.1.length+(List.length ([]:List Int)+(Int.natAbs (0:Int)+(v1.1.length+(Int.natAbs ((v1.1.length:Int))+(Int.natAbs (0:Int)+2)))))) (v1.2.1,[],0,v1.1,(v1.1.length:Int),0,()) (mC)) fun v7=>
 chk (decide (((v7.1.length)+1)*4<=140737488355328)&&decide ((v7.1.length)+1<=maxLen)) <|
 some (v7.1++[(mF v7.2.1)],())
abbrev kS:Type:=(List Int)×(List Int)×Int×Unit
abbrev kR:Type:=((Int×Unit) ⊕ Unit)
def iB (x1:kS) (again:kS->Option kR):Option kR:=
 bif decide (x1.2.2.1>=0) then
  Option.bind (idx x1.1 x1.2.2.1) fun y2=>
  Option.bind (idx x1.2.1 x1.2.2.1) fun y3=>
  bif y2 != y3 then
   Option.bind (idx x1.1 x1.2.2.1) fun y4=>
   Option.bind (idx x1.2.1 x1.2.2.1) fun y5=>
   bif decide (y4<y5) then
    some (Sum.inl ((-1),()))
   else
    some (Sum.inl (1,()))
  else
   again (x1.1,x1.2.1,w64 (x1.2.2.1 - 1),())
 else
  some (Sum.inr ())
def om (a0:List Int) (a1:List Int):Option (Int×Unit):=
 bif ((List.length a0:Int)) != ((List.length a1:Int)) then
  some (w64 (((List.length a0:Int)) - ((List.length a1:Int))),())
 else
  aR (β:=(Int×Unit)) (γ:=Unit) (
   iter (X:=kS) (β:=kR) (List.length a0+(List.length a1+(Int.natAbs (w64 (((List.length a0:Int)) - 1))+2))) (a0,a1,w64 (((List.length a0:Int)) - 1),()) (iB)) fun _=>
  some (0,())
abbrev ou:Type:=(List Int)×(List Int)×Int×(List Int)×Int×Int×Unit
abbrev ot:Type:=(((List Int)×Unit) ⊕ ((List Int)×Unit))
def oo (x1:ou) (again:ou->Option ot):Option ot:=
 bif decide (x1.2.2.2.2.2.1<x1.2.2.2.2.1) then
  Option.bind (idx x1.2.2.2.1 x1.2.2.2.2.2.1) fun y2=>
  aR (β:=(((List Int)×Unit) ⊕ ((List Int)×Unit))) (γ:=((List Int)×(List Int)×Int×(List Int)×Int×Int×Unit)) (
   bif decide (x1.2.2.2.2.2.1<((x1.1.length:Int))) then
    Option.bind (idx x1.1 x1.2.2.2.2.2.1) fun y3=>
    let n4:Int:=bI ((bI ((bI y2) - x1.2.2.1)) - (bI y3))
    some (Sum.inr (x1.1,x1.2.1,n4,x1.2.2.2.1,x1.2.2.2.2.1,x1.2.2.2.2.2.1,()))
   else
    some (Sum.inr (x1.1,x1.2.1,bI ((bI y2) - x1.2.2.1),x1.2.2.2.1,x1.2.2.2.2.1,x1.2.2.2.2.2.1,()))) fun v5=>
  chk (decide (((v5.2.1.length)+1)*4<=140737488355328)&&decide ((v5.2.1.length)+1<=maxLen)) <|
  again (v5.1,v5.2.1++[(mF v5.2.2.1)],bI (((BitVec.ofInt (IntKind.bits .u64) (Int.fdiv v5.2.2.1 (2 ^ 32)) &&& BitVec.ofInt (IntKind.bits .u64) 1).toNat:Int)),v5.2.2.2.1,v5.2.2.2.2.1,w64 (v5.2.2.2.2.2.1+1),())
 else
  some (Sum.inr (x1.2.1,()))
def qj (a0:List Int) (a1:List Int):Option ((List Int)×Unit):=
 chk (decide (0<=(0:Int))&&decide ((0:Int)<=((List.length a0:Int)))&&decide ((4:Int)*((List.length a0:Int))<=281474976710656)&&decide (((List.length a0:Int))<=9223372036854775807)) <|
 aR (β:=((List Int)×Unit)) (γ:=((List Int)×Unit)) (
  iter (X:=ou) (β:=ot) (List.length a1+(List.length ([]:List Int)+(Int.natAbs (0:Int)+(List.length a0+(Int.natAbs ((List.length a0:Int))+(Int.natAbs (0:Int)+2)))))) (a1,[],0,a0,(List.length a0:Int),0,()) (oo)) fun v6=>
 Option.bind (k8 v6.1) fun r7=>
 some (r7.1,())
def jT (a0:bY):Option (Int×Unit):=
 bif a0.1 then
  some ((-1),())
 else
  bif ((a0.2.length:Int))==0 then
   some (0,())
  else
   some (1,())
def je (a0:bY):Option (bY×Unit):=
 Option.bind (gm (!a0.1) a0.2) fun r1=>
 some (r1.1,())
abbrev kQ:Type:=Int×Int×(List Int)×Int×Int×Bool×(List Int)×Unit
abbrev kP:Type:=((Int×Bool×Unit) ⊕ (Int×Int×Bool×(List Int)×Unit))
def kO (x1:kQ) (again:kQ->Option kP):Option kP:=
 bif decide (x1.2.2.2.2.1<x1.2.2.2.1) then
  Option.bind (idx x1.2.2.1 x1.2.2.2.2.1) fun y2=>
  chk (decide (0<=(w64 (32*x1.2.2.2.2.1)))) <|
  let n3:Int:=bI ((bI y2)*2 ^ (min (Int.toNat (w64 (32*x1.2.2.2.2.1))) (IntKind.bits .u64)))
  again (x1.1,bI (((BitVec.ofInt (IntKind.bits .u64) x1.2.1 ||| BitVec.ofInt (IntKind.bits .u64) n3).toNat:Int)),x1.2.2.1,x1.2.2.2.1,w64 (x1.2.2.2.2.1+1),x1.2.2.2.2.2.1,x1.2.2.2.2.2.2.1,())
 else
  some (Sum.inr (x1.1,x1.2.1,x1.2.2.2.2.2.1,x1.2.2.2.2.2.2.1,()))
def og (a0:bY) (a1:Int):Option (Int×Bool×Unit):=
 bif decide (((a0.2.length:Int))>2) then
  some (0,false,())
 else
  aR (β:=(Int×Bool×Unit)) (γ:=(Int×Int×Bool×(List Int)×Unit)) (
   iter (X:=kQ) (β:=kP) (Int.natAbs a1+(Int.natAbs (0:Int)+(a0.2.length+(Int.natAbs ((a0.2.length:Int))+(Int.natAbs (0:Int)+(a0.2.length+2)))))) (a1,0,a0.2,(a0.2.length:Int),0,a0.1,a0.2,()) (kO)) fun v4=>
  bif decide (v4.2.1>(bI v4.1)) then
   some (0,false,())
  else
   bif v4.2.2.1 then
    some (w64 (0 - (w64 v4.2.1)),true,())
   else
    some (w64 v4.2.1,true,())
def lf (a0:bY) (a1:Int):Option (aa×Int×Unit):=
 Option.bind (og a0 1000000000000000) fun r1=>
 bif !r1.2.1 then
  some ((0,0),1,())
 else
  some ((r1.1,a1),0,())
abbrev ug:Type:=Int×Bool×(List Int)×Bool×(List Int)×Unit
abbrev uf:Type:=((ak×Unit) ⊕ (Bool×(List Int)×Bool×(List Int)×Unit))
def oD (x1:ug) (again:ug->Option uf):Option uf:=
 bif x1.1 != 0 then
  chk (decide (((x1.2.2.2.2.1.length)+1)*8<=140737488355328)&&decide ((x1.2.2.2.2.1.length)+1<=maxLen)) <|
  again (w64 (Int.tdiv x1.1 1000000),x1.2.1,x1.2.2.1,x1.2.2.2.1,x1.2.2.2.2.1++[(if (w64 (0 - (Int.tmod x1.1 1000000)))>(Int.tmod x1.1 1000000) then (w64 (0 - (Int.tmod x1.1 1000000))) else (Int.tmod x1.1 1000000))],())
 else
  some (Sum.inr (x1.2.1,x1.2.2.1,x1.2.2.2.1,x1.2.2.2.2.1,()))
def AT (a0:Int):Option (ak×Unit):=
 aR (β:=(ak×Unit)) (γ:=(Bool×(List Int)×Bool×(List Int)×Unit)) (
  iter (X:=ug) (β:=uf) (Int.natAbs a0+(List.length ([]:List Int)+(List.length ([]:List Int)+2))) (a0,false,[],decide (a0<0),[],()) (oD)) fun v2=>
 some ((v2.2.2.1,v2.2.2.2.1),())
abbrev kX:Type:=Bool×(List Int)×Bool×(List Int)×Unit
abbrev sJ:Type:=((ak×Unit) ⊕ (Bool×(List Int)×Bool×(List Int)×Unit))
def sI (x1:kX) (again:kX->Option sJ):Option sJ:=
 bif decide (((x1.2.1.length:Int))>0) then
  Option.bind (idx x1.2.1 (w64 (((x1.2.1.length:Int)) - 1))) fun y2=>
  bif y2==0 then
   chk (decide (0<=(0:Int))&&decide ((0:Int)<=(w64 (((x1.2.1.length:Int)) - 1)))&&decide ((w64 (((x1.2.1.length:Int)) - 1))<=(x1.2.1.length:Int))) <|
   again (x1.1,List.drop 0 (List.take (Int.toNat (w64 (((x1.2.1.length:Int)) - 1))) x1.2.1),x1.2.2.1,x1.2.2.2.1,())
  else
   some (Sum.inr (x1.1,x1.2.1,x1.2.2.1,x1.2.2.2.1,()))
 else
  some (Sum.inr (x1.1,x1.2.1,x1.2.2.1,x1.2.2.2.1,()))
def jc (a0:ak):Option (ak×Unit):=
 aR (β:=(ak×Unit)) (γ:=(Bool×(List Int)×Bool×(List Int)×Unit)) (
  iter (X:=kX) (β:=sJ) (a0.2.length+(List.length ([]:List Int)+2)) (a0.1,a0.2,false,[],()) (sI)) fun v3=>
 bif ((v3.2.1.length:Int))==0 then
  some ((false,v3.2.1),())
 else
  some ((v3.1,v3.2.1),())
abbrev n7:Type:=Int×Int×(List Int)×Int×Int×(List Int)×Int×Int×Bool×(List Int)×Bool×(List Int)×Bool×(List Int)×Unit
abbrev nZ:Type:=(((ak×Unit) ⊕ (Bool×(List Int)×Bool×(List Int)×Unit)) ⊕ ((List Int)×Int×Int×Bool×(List Int)×Bool×(List Int)×Bool×(List Int)×Unit))
def nX (x1:n7) (again:n7->Option nZ):Option nZ:=
 bif decide (x1.2.2.2.2.2.2.2.1<x1.2.2.2.2.2.2.1) then
  Option.bind (idx x1.2.2.2.2.2.1 x1.2.2.2.2.2.2.2.1) fun y2=>
  chk (decide (0<=(w64 (x1.1+x1.2.2.2.2.2.2.2.1)))&&decide ((w64 (x1.1+x1.2.2.2.2.2.2.2.1))<(x1.2.2.2.2.2.2.2.2.2.2.2.2.2.1.length:Int))) <|
  Option.bind (x1.2.2.2.2.2.2.2.2.2.2.2.2.2.1[(w64 (x1.1+x1.2.2.2.2.2.2.2.1)).toNat]?) fun y3=>
  chk (decide (0<=(w64 (x1.1+x1.2.2.2.2.2.2.2.1)))&&decide ((w64 (x1.1+x1.2.2.2.2.2.2.2.1))<(x1.2.2.2.2.2.2.2.2.2.2.2.2.2.1.length:Int))) <|
  Option.bind (x1.2.2.2.2.2.2.2.2.2.2.2.2.2.1[(w64 (x1.1+x1.2.2.2.2.2.2.2.1)).toNat]?) fun _=>
  chk (decide (0<=(w64 ((w64 (x1.1+x1.2.2.2.2.2.2.2.1))+1)))&&decide ((w64 ((w64 (x1.1+x1.2.2.2.2.2.2.2.1))+1))<(List.length (List.set x1.2.2.2.2.2.2.2.2.2.2.2.2.2.1 (w64 (x1.1+x1.2.2.2.2.2.2.2.1)).toNat (w64 (y3+(w64 (x1.2.1*y2))))):Int))) <|
  Option.bind ((List.set x1.2.2.2.2.2.2.2.2.2.2.2.2.2.1 (w64 (x1.1+x1.2.2.2.2.2.2.2.1)).toNat (w64 (y3+(w64 (x1.2.1*y2)))))[(w64 ((w64 (x1.1+x1.2.2.2.2.2.2.2.1))+1)).toNat]?) fun y4=>
  chk (decide (0<=(w64 (x1.1+x1.2.2.2.2.2.2.2.1)))&&decide ((w64 (x1.1+x1.2.2.2.2.2.2.2.1))<(List.length (List.set x1.2.2.2.2.2.2.2.2.2.2.2.2.2.1 (w64 (x1.1+x1.2.2.2.2.2.2.2.1)).toNat (w64 (y3+(w64 (x1.2.1*y2))))):Int))) <|
  Option.bind ((List.set x1.2.2.2.2.2.2.2.2.2.2.2.2.2.1 (w64 (x1.1+x1.2.2.2.2.2.2.2.1)).toNat (w64 (y3+(w64 (x1.2.1*y2)))))[(w64 (x1.1+x1.2.2.2.2.2.2.2.1)).toNat]?) fun y5=>
  chk (decide (0<=(w64 ((w64 (x1.1+x1.2.2.2.2.2.2.2.1))+1)))&&decide ((w64 ((w64 (x1.1+x1.2.2.2.2.2.2.2.1))+1))<(List.length (List.set x1.2.2.2.2.2.2.2.2.2.2.2.2.2.1 (w64 (x1.1+x1.2.2.2.2.2.2.2.1)).toNat (w64 (y3+(w64 (x1.2.1*y2))))):Int))) <|
  Option.bind ((List.set x1.2.2.2.2.2.2.2.2.2.2.2.2.2.1 (w64 (x1.1+x1.2.2.2.2.2.2.2.1)).toNat (w64 (y3+(w64 (x1.2.1*y2)))))[(w64 ((w64 (x1.1+x1.2.2.2.2.2.2.2.1))+1)).toNat]?) fun _=>
  chk (decide (0<=(w64 (x1.1+x1.2.2.2.2.2.2.2.1)))&&decide ((w64 (x1.1+x1.2.2.2.2.2.2.2.1))<(List.length (List.set (List.set x1.2.2.2.2.2.2.2.2.2.2.2.2.2.1 (w64 (x1.1+x1.2.2.2.2.2.2.2.1)).toNat (w64 (y3+(w64 (x1.2.1*y2))))) (w64 ((w64 (x1.1+x1.2.2.2.2.2.2.2.1))+1)).toNat (w64 (y4+(w64 (Int.tdiv y5 1000000))))):Int))) <|
  Option.bind ((List.set (List.set x1.2.2.2.2.2.2.2.2.2.2.2.2.2.1 (w64 (x1.1+x1.2.2.2.2.2.2.2.1)).toNat (w64 (y3+(w64 (x1.2.1*y2))))) (w64 ((w64 (x1.1+x1.2.2.2.2.2.2.2.1))+1)).toNat (w64 (y4+(w64 (Int.tdiv y5 1000000)))))[(w64 (x1.1+x1.2.2.2.2.2.2.2.1)).toNat]?) fun y6=>
  chk (decide (0<=(w64 (x1.1+x1.2.2.2.2.2.2.2.1)))&&decide ((w64 (x1.1+x1.2.2.2.2.2.2.2.1))<(List.length (List.set (List.set x1.2.2.2.2.2.2.2.2.2.2.2.2.2.1 (w64 (x1.1+x1.2.2.2.2.2.2.2.1)).toNat (w64 (y3+(w64 (x1.2.1*y2))))) (w64 ((w64 (x1.1+x1.2.2.2.2.2.2.2.1))+1)).toNat (w64 (y4+(w64 (Int.tdiv y5 1000000))))):Int))) <|
  Option.bind ((List.set (List.set x1.2.2.2.2.2.2.2.2.2.2.2.2.2.1 (w64 (x1.1+x1.2.2.2.2.2.2.2.1)).toNat (w64 (y3+(w64 (x1.2.1*y2))))) (w64 ((w64 (x1.1+x1.2.2.2.2.2.2.2.1))+1)).toNat (w64 (y4+(w64 (Int.tdiv y5 1000000)))))[(w64 (x1.1+x1.2.2.2.2.2.2.2.1)).toNat]?) fun _=>
  again (x1.1,x1.2.1,x1.2.2.1,x1.2.2.2.1,x1.2.2.2.2.1,x1.2.2.2.2.2.1,x1.2.2.2.2.2.2.1,w64 (x1.2.2.2.2.2.2.2.1+1),x1.2.2.2.2.2.2.2.2.1,x1.2.2.2.2.2.2.2.2.2.1,x1.2.2.2.2.2.2.2.2.2.2.1,x1.2.2.2.2.2.2.2.2.2.2.2.1,x1.2.2.2.2.2.2.2.2.2.2.2.2.1,List.set (List.set (List.set x1.2.2.2.2.2.2.2.2.2.2.2.2.2.1 (w64 (x1.1+x1.2.2.2.2.2.2.2.1)).toNat (w64 (y3+(w64 (x1.2.1*y2))))) (w64 ((w64 (x1.1+x1.2.2.2.2.2.2.2.1))+1)).toNat (w64 (y4+(w64 (Int.tdiv y5 1000000))))) (w64 (x1.1+x1.2.2.2.2.2.2.2.1)).toNat (Int.tmod y6 1000000),())
 else
  some (Sum.inr (x1.2.2.1,x1.2.2.2.1,x1.2.2.2.2.1,x1.2.2.2.2.2.2.2.2.1,x1.2.2.2.2.2.2.2.2.2.1,x1.2.2.2.2.2.2.2.2.2.2.1,x1.2.2.2.2.2.2.2.2.2.2.2.1,x1.2.2.2.2.2.2.2.2.2.2.2.2.1,x1.2.2.2.2.2.2.2.2.2.2.2.2.2.1,()))
abbrev n6:Type:=(List Int)×Int×Int×Bool×(List Int)×Bool×(List Int)×Bool×(List Int)×Unit
abbrev nY:Type:=((ak×Unit) ⊕ (Bool×(List Int)×Bool×(List Int)×Unit))
def nW (x1:n6) (again:n6->Option nY):Option nY:=
 bif decide (x1.2.2.1<x1.2.1) then
  Option.bind (idx x1.1 x1.2.2.1) fun y2=>
  aR (β:=((ak×Unit) ⊕ (Bool×(List Int)×Bool×(List Int)×Unit))) (γ:=((List Int)×Int×Int×Bool×(List Int)×Bool×(List Int)×Bool×(List Int)×Unit)) (
   iter (X:=n7) (β:=nZ) (x1.2.2.1.natAbs+(Int.natAbs y2+(x1.1.length+(x1.2.1.natAbs+(x1.2.2.1.natAbs+(x1.2.2.2.2.1.length+(Int.natAbs ((x1.2.2.2.2.1.length:Int))+(Int.natAbs (0:Int)+(x1.2.2.2.2.1.length+(x1.2.2.2.2.2.2.1.length+(x1.2.2.2.2.2.2.2.2.1.length+2))))))))))) (x1.2.2.1,y2,x1.1,x1.2.1,x1.2.2.1,x1.2.2.2.2.1,(x1.2.2.2.2.1.length:Int),0,x1.2.2.2.1,x1.2.2.2.2.1,x1.2.2.2.2.2.1,x1.2.2.2.2.2.2.1,x1.2.2.2.2.2.2.2.1,x1.2.2.2.2.2.2.2.2.1,()) (nX)) fun v3=>
  again (v3.1,v3.2.1,w64 (v3.2.2.1+1),v3.2.2.2.1,v3.2.2.2.2.1,v3.2.2.2.2.2.1,v3.2.2.2.2.2.2.1,v3.2.2.2.2.2.2.2.1,v3.2.2.2.2.2.2.2.2.1,())
 else
  some (Sum.inr (x1.2.2.2.2.2.1,x1.2.2.2.2.2.2.1,x1.2.2.2.2.2.2.2.1,x1.2.2.2.2.2.2.2.2.1,()))
abbrev mW:Type:=Int×Int×Bool×(List Int)×Bool×(List Int)×Unit
abbrev mV:Type:=((ak×Unit) ⊕ (Bool×(List Int)×Bool×(List Int)×Unit))
def mU (x1:mW) (again:mW->Option mV):Option mV:=
 bif decide (x1.2.1<x1.1) then
  chk (decide (0<=(w64 (x1.2.1+1)))&&decide ((w64 (x1.2.1+1))<(x1.2.2.2.2.2.1.length:Int))) <|
  Option.bind (x1.2.2.2.2.2.1[(w64 (x1.2.1+1)).toNat]?) fun y2=>
  chk (decide (0<=x1.2.1)&&decide (x1.2.1<(x1.2.2.2.2.2.1.length:Int))) <|
  Option.bind (x1.2.2.2.2.2.1[x1.2.1.toNat]?) fun y3=>
  chk (decide (0<=(w64 (x1.2.1+1)))&&decide ((w64 (x1.2.1+1))<(x1.2.2.2.2.2.1.length:Int))) <|
  Option.bind (x1.2.2.2.2.2.1[(w64 (x1.2.1+1)).toNat]?) fun _=>
  chk (decide (0<=x1.2.1)&&decide (x1.2.1<(List.length (List.set x1.2.2.2.2.2.1 (w64 (x1.2.1+1)).toNat (w64 (y2+(w64 (Int.tdiv y3 1000000))))):Int))) <|
  Option.bind ((List.set x1.2.2.2.2.2.1 (w64 (x1.2.1+1)).toNat (w64 (y2+(w64 (Int.tdiv y3 1000000)))))[x1.2.1.toNat]?) fun y4=>
  chk (decide (0<=x1.2.1)&&decide (x1.2.1<(List.length (List.set x1.2.2.2.2.2.1 (w64 (x1.2.1+1)).toNat (w64 (y2+(w64 (Int.tdiv y3 1000000))))):Int))) <|
  Option.bind ((List.set x1.2.2.2.2.2.1 (w64 (x1.2.1+1)).toNat (w64 (y2+(w64 (Int.tdiv y3 1000000)))))[x1.2.1.toNat]?) fun _=>
  again (x1.1,w64 (x1.2.1+1),x1.2.2.1,x1.2.2.2.1,x1.2.2.2.2.1,List.set (List.set x1.2.2.2.2.2.1 (w64 (x1.2.1+1)).toNat (w64 (y2+(w64 (Int.tdiv y3 1000000))))) x1.2.1.toNat (Int.tmod y4 1000000),())
 else
  some (Sum.inr (x1.2.2.1,x1.2.2.2.1,x1.2.2.2.2.1,x1.2.2.2.2.2.1,()))
def mT (a0:ak) (a1:ak):Option (ak×Unit):=
 let n1:Int:=w64 ((w64 (((a0.2.length:Int))+((a1.2.length:Int))))+1)
 chk (decide (0<=n1)&&decide (n1<=n1)&&decide ((8:Int)*n1<=281474976710656)&&decide (n1<=9223372036854775807)) <|
 aR (β:=(ak×Unit)) (γ:=(Bool×(List Int)×Bool×(List Int)×Unit)) (
  iter (X:=n6) (β:=nY) (a0.2.length+(Int.natAbs ((a0.2.length:Int))+(Int.natAbs (0:Int)+(a1.2.length+(List.length ([]:List Int)+(List.length ((List.replicate (Int.toNat n1) 0):List Int)+2)))))) (a0.2,(a0.2.length:Int),0,a1.1,a1.2,false,[], !(a0.1==a1.1),List.replicate (Int.toNat n1) 0,()) (nW)) fun v14=>
 aR (β:=(ak×Unit)) (γ:=(Bool×(List Int)×Bool×(List Int)×Unit)) (
  iter (X:=mW) (β:=mV) (Int.natAbs (w64 (((v14.2.2.2.1.length:Int)) - 1))+(Int.natAbs (0:Int)+(v14.2.1.length+(v14.2.2.2.1.length+2)))) (w64 (((v14.2.2.2.1.length:Int)) - 1),0,v14.1,v14.2.1,v14.2.2.1,v14.2.2.2.1,()) (mU)) fun v21=>
 Option.bind (jc (v21.2.2.1,v21.2.2.2.1)) fun r22=>
 some (r22.1,())
abbrev rA:Type:=Int×Int×Bool×(List Int)×Bool×(List Int)×Unit
abbrev rz:Type:=((ak×Unit) ⊕ (Bool×(List Int)×Bool×(List Int)×Unit))
def ry (x1:rA) (again:rA->Option rz):Option rz:=
 bif decide (x1.2.1<x1.1) then
  Option.bind (AT 10) fun r2=>
  Option.bind (mT (x1.2.2.2.2.1,x1.2.2.2.2.2.1) r2.1) fun r3=>
  again (x1.1,w64 (x1.2.1+1),x1.2.2.1,x1.2.2.2.1,r3.1.1,r3.1.2,())
 else
  some (Sum.inr (x1.2.2.1,x1.2.2.2.1,x1.2.2.2.2.1,x1.2.2.2.2.2.1,()))
def xT (a0:Int):Option (ak×Unit):=
 Option.bind (AT 1) fun r1=>
 aR (β:=(ak×Unit)) (γ:=(Bool×(List Int)×Bool×(List Int)×Unit)) (
  iter (X:=rA) (β:=rz) (Int.natAbs a0+(Int.natAbs (0:Int)+(List.length ([]:List Int)+(r1.1.2.length+2)))) (a0,0,false,[],r1.1.1,r1.1.2,()) (ry)) fun v5=>
 some ((v5.2.2.1,v5.2.2.2.1),())
def xR (a0:aa) (a1:Int):Option (ak×Unit):=
 Option.bind (AT a0.1) fun r1=>
 Option.bind (xT (w64 (a1 - a0.2))) fun r2=>
 Option.bind (mT r1.1 r2.1) fun r3=>
 some (r3.1,())
abbrev rE:Type:=(List Int)×(List Int)×Int×Unit
abbrev rD:Type:=((Int×Unit) ⊕ Unit)
def nJ (x1:rE) (again:rE->Option rD):Option rD:=
 bif decide (x1.2.2.1>=0) then
  Option.bind (idx x1.1 x1.2.2.1) fun y2=>
  Option.bind (idx x1.2.1 x1.2.2.1) fun y3=>
  bif y2 != y3 then
   Option.bind (idx x1.1 x1.2.2.1) fun y4=>
   Option.bind (idx x1.2.1 x1.2.2.1) fun y5=>
   some (Sum.inl (w64 (y4 - y5),()))
  else
   again (x1.1,x1.2.1,w64 (x1.2.2.1 - 1),())
 else
  some (Sum.inr ())
def xU (a0:List Int) (a1:List Int):Option (Int×Unit):=
 bif ((List.length a0:Int)) != ((List.length a1:Int)) then
  some (w64 (((List.length a0:Int)) - ((List.length a1:Int))),())
 else
  aR (β:=(Int×Unit)) (γ:=Unit) (
   iter (X:=rE) (β:=rD) (List.length a0+(List.length a1+(Int.natAbs (w64 (((List.length a0:Int)) - 1))+2))) (a0,a1,w64 (((List.length a0:Int)) - 1),()) (nJ)) fun _=>
  some (0,())
def qK (a0:List Int) (a1:Int):Option (Int×Unit):=
 bif decide (a1<((List.length a0:Int))) then
  Option.bind (idx a0 a1) fun y1=>
  some (y1,())
 else
  some (0,())
abbrev pV:Type:=Int×Int×Int×Bool×(List Int)×Bool×(List Int)×Bool×(List Int)×Bool×(List Int)×Unit
abbrev pU:Type:=((ak×Unit) ⊕ (Bool×(List Int)×Bool×(List Int)×Unit))
def pT (x1:pV) (again:pV->Option pU):Option pU:=
 bif decide (x1.2.2.1<x1.2.1) then
  Option.bind (idx x1.2.2.2.2.1 x1.2.2.1) fun y2=>
  Option.bind (qK x1.2.2.2.2.2.2.1 x1.2.2.1) fun r3=>
  aR (β:=((ak×Unit) ⊕ (Bool×(List Int)×Bool×(List Int)×Unit))) (γ:=(Int×Int×Int×Int×Bool×(List Int)×Bool×(List Int)×Bool×(List Int)×Bool×(List Int)×Unit)) (
   bif decide ((w64 ((w64 (y2 - r3.1)) - x1.1))<0) then
    let n4:Int:=w64 ((w64 ((w64 (y2 - r3.1)) - x1.1))+1000000)
    some (Sum.inr (1,n4,x1.2.1,x1.2.2.1,x1.2.2.2.1,x1.2.2.2.2.1,x1.2.2.2.2.2.1,x1.2.2.2.2.2.2.1,x1.2.2.2.2.2.2.2.1,x1.2.2.2.2.2.2.2.2.1,x1.2.2.2.2.2.2.2.2.2.1,x1.2.2.2.2.2.2.2.2.2.2.1,()))
   else
    some (Sum.inr (0,w64 ((w64 (y2 - r3.1)) - x1.1),x1.2.1,x1.2.2.1,x1.2.2.2.1,x1.2.2.2.2.1,x1.2.2.2.2.2.1,x1.2.2.2.2.2.2.1,x1.2.2.2.2.2.2.2.1,x1.2.2.2.2.2.2.2.2.1,x1.2.2.2.2.2.2.2.2.2.1,x1.2.2.2.2.2.2.2.2.2.2.1,()))) fun v5=>
  chk (decide (((v5.2.2.2.2.2.2.2.2.2.2.2.1.length)+1)*8<=140737488355328)&&decide ((v5.2.2.2.2.2.2.2.2.2.2.2.1.length)+1<=maxLen)) <|
  again (v5.1,v5.2.2.1,w64 (v5.2.2.2.1+1),v5.2.2.2.2.1,v5.2.2.2.2.2.1,v5.2.2.2.2.2.2.1,v5.2.2.2.2.2.2.2.1,v5.2.2.2.2.2.2.2.2.1,v5.2.2.2.2.2.2.2.2.2.1,v5.2.2.2.2.2.2.2.2.2.2.1,v5.2.2.2.2.2.2.2.2.2.2.2.1++[v5.2.1],())
 else
  some (Sum.inr (x1.2.2.2.2.2.2.2.1,x1.2.2.2.2.2.2.2.2.1,x1.2.2.2.2.2.2.2.2.2.1,x1.2.2.2.2.2.2.2.2.2.2.1,()))
abbrev ru:Type:=Int×Int×Int×Bool×(List Int)×Bool×(List Int)×Bool×(List Int)×Bool×(List Int)×Unit
abbrev rq:Type:=((ak×Unit) ⊕ (Bool×(List Int)×Bool×(List Int)×Unit))
def rm (x1:ru) (again:ru->Option rq):Option rq:=
 bif decide (x1.2.2.1<x1.2.1) then
  Option.bind (qK x1.2.2.2.2.1 x1.2.2.1) fun r2=>
  Option.bind (qK x1.2.2.2.2.2.2.1 x1.2.2.1) fun r3=>
  let n4:Int:=Int.tmod (w64 ((w64 (r2.1+r3.1))+x1.1)) 1000000
  chk (decide (((x1.2.2.2.2.2.2.2.2.2.2.1.length)+1)*8<=140737488355328)&&decide ((x1.2.2.2.2.2.2.2.2.2.2.1.length)+1<=maxLen)) <|
  let n5:Int:=w64 (Int.tdiv (w64 ((w64 (r2.1+r3.1))+x1.1)) 1000000)
  again (n5,x1.2.1,w64 (x1.2.2.1+1),x1.2.2.2.1,x1.2.2.2.2.1,x1.2.2.2.2.2.1,x1.2.2.2.2.2.2.1,x1.2.2.2.2.2.2.2.1,x1.2.2.2.2.2.2.2.2.1,x1.2.2.2.2.2.2.2.2.2.1,x1.2.2.2.2.2.2.2.2.2.2.1++[n4],())
 else
  some (Sum.inr (x1.2.2.2.2.2.2.2.1,x1.2.2.2.2.2.2.2.2.1,x1.2.2.2.2.2.2.2.2.2.1,x1.2.2.2.2.2.2.2.2.2.2.1,()))
def AU (a0:ak) (a1:ak):Option (ak×Unit):=
 bif !(a0.1==a1.1) then
  Option.bind (xU a0.2 a1.2) fun r1=>
  aR (β:=(ak×Unit)) (γ:=(Bool×(List Int)×Bool×(List Int)×Bool×(List Int)×Unit)) (
   bif decide (r1.1<0) then
    some (Sum.inr (a1.1,a1.2,a0.1,a0.2,false,[],()))
   else
    some (Sum.inr (a0.1,a0.2,a1.1,a1.2,false,[],()))) fun v2=>
  aR (β:=(ak×Unit)) (γ:=(Bool×(List Int)×Bool×(List Int)×Unit)) (
   iter (X:=pV) (β:=pU) (Int.natAbs (0:Int)+(Int.natAbs ((v2.2.1.length:Int))+(Int.natAbs (0:Int)+(v2.2.1.length+(v2.2.2.2.1.length+(v2.2.2.2.2.2.1.length+(List.length ([]:List Int)+2))))))) (0,(v2.2.1.length:Int),0,v2.1,v2.2.1,v2.2.2.1,v2.2.2.2.1,v2.2.2.2.2.1,v2.2.2.2.2.2.1,v2.1,[],()) (pT)) fun v8=>
  Option.bind (jc (v8.2.2.1,v8.2.2.2.1)) fun r9=>
  some (r9.1,())
 else
  let n10:Int:=w64 ((if ((a1.2.length:Int))>((a0.2.length:Int)) then ((a1.2.length:Int)) else ((a0.2.length:Int)))+1)
  aR (β:=(ak×Unit)) (γ:=(Bool×(List Int)×Bool×(List Int)×Unit)) (
   iter (X:=ru) (β:=rq) (Int.natAbs (0:Int)+(Int.natAbs n10+(Int.natAbs (0:Int)+(a0.2.length+(a1.2.length+(List.length ([]:List Int)+(List.length ([]:List Int)+2))))))) (0,n10,0,a0.1,a0.2,a1.1,a1.2,false,[],a0.1,[],()) (rm)) fun v16=>
  Option.bind (jc (v16.2.2.1,v16.2.2.2.1)) fun r17=>
  some (r17.1,())
def xS (a0:ak):Option (ak×Unit):=
 bif decide (((a0.2.length:Int))>0) then
  some ((!a0.1,a0.2),())
 else
  some (a0,())
def AV (a0:ak):Option (Int×Unit):=
 bif ((a0.2.length:Int))==0 then
  some (0,())
 else
  bif a0.1 then
   some ((-1),())
  else
   some (1,())
def Ab (a0:ak) (a1:ak):Option (Int×Unit):=
 Option.bind (xS a1) fun r1=>
 Option.bind (AU a0 r1.1) fun r2=>
 Option.bind (AV r2.1) fun r3=>
 some (r3.1,())
end Go.Md
namespace Go.Md
open Go.Dn
abbrev uj:Type:=(List UInt8)×Int×Int×Unit
abbrev uh:Type:=((Bool×Unit) ⊕ Unit)
def pW (x1:uj) (again:uj->Option uh):Option uh:=
 bif decide (x1.2.2.1<x1.2.1) then
  Option.bind (fJ x1.1 x1.2.2.1) fun c2=>
  bif decide ((c2.toNat:Int)<97) then
   bif decide ((c2.toNat:Int)<48) then
    bif (c2.toNat:Int) != 45 then
     some (Sum.inl (false,()))
    else
     again (x1.1,x1.2.1,w64 (x1.2.2.1+1),())
   else
    bif decide ((c2.toNat:Int)>57) then
     bif (c2.toNat:Int) != 45 then
      some (Sum.inl (false,()))
     else
      again (x1.1,x1.2.1,w64 (x1.2.2.1+1),())
    else
     again (x1.1,x1.2.1,w64 (x1.2.2.1+1),())
  else
   bif decide ((c2.toNat:Int)>122) then
    bif decide ((c2.toNat:Int)<48) then
     bif (c2.toNat:Int) != 45 then
      some (Sum.inl (false,()))
     else
      again (x1.1,x1.2.1,w64 (x1.2.2.1+1),())
    else
     bif decide ((c2.toNat:Int)>57) then
      bif (c2.toNat:Int) != 45 then
       some (Sum.inl (false,()))
      else
       again (x1.1,x1.2.1,w64 (x1.2.2.1+1),())
     else
      again (x1.1,x1.2.1,w64 (x1.2.2.1+1),())
   else
    again (x1.1,x1.2.1,w64 (x1.2.2.1+1),())
 else
  some (Sum.inr ())
def Ac (a0:List UInt8):Option (Bool×Unit):=
 bif a0==[] then
  some (false,())
 else
  bif decide (((List.length a0:Int))>40) then
   some (false,())
  else
   Option.bind (fJ a0 0) fun c1=>
   bif decide ((c1.toNat:Int)<97) then
    some (false,())
   else
    Option.bind (fJ a0 0) fun c2=>
    bif decide ((c2.toNat:Int)>122) then
     some (false,())
    else
     aR (β:=(Bool×Unit)) (γ:=Unit) (
      iter (X:=uj) (β:=uh) (List.length a0+(Int.natAbs ((List.length a0:Int))+(Int.natAbs (0:Int)+2))) (a0,(List.length a0:Int),0,()) (pW)) fun _=>
     some (true,())
def rZ (a0:List UInt8):Option (Bool×Unit):=
 Option.bind (Ac a0) fun r1=>
 some (r1.1,())
def oX (a0:Int) (a1:Int) (a2:Int):Option (Bool×Unit):=
 bif decide (a1<=a0) then
  some (decide (a0<=a2),())
 else
  some (false,())
def Cp (a0:Int):Option (Bool×Unit):=
 Option.bind (oX a0 1 3652059) fun r1=>
 some (r1.1,())
def ud (a0:Int):Option (Bool×Unit):=
 Option.bind (Cp a0) fun r1=>
 some (r1.1,())
def gD (a0:aa):Option (Int×Unit):=
 Option.bind (oX a0.1 (-1000000000000000) 1000000000000000) fun r1=>
 bif !r1.1 then
  some (1,())
 else
  Option.bind (oX a0.2 0 9) fun r2=>
  bif !r2.1 then
   some (1,())
  else
   some (0,())
def Ju (a0:aa) (a1:aa):Option (Int×Unit):=
 Option.bind (xR a0 9) fun r1=>
 Option.bind (xR a1 9) fun r2=>
 Option.bind (Ab r1.1 r2.1) fun r3=>
 some (r3.1,())
end Go.Md
