/-
  The plain models of the functions that the law reaches, first part. No condition.
-/
import Derived.Test.YtnamfglkolhhgacGreatDoorYd
import Derived.Lib.SlTrimSet
set_option linter.all false
namespace Go.Md
open Go.Dn
def mF (s c:List UInt8):Option (List UInt8×Unit):=
 bif decide (s.length≤9223372036854775807)&&(decide (c.length<4294967281)&&c.all fun b=>decide (b.toNat<128)) then some (Lib.trimS s c,()) else none
abbrev dS:Ty:=(.st (.pair tI tI))
abbrev aj:Type:=Int×Int
abbrev JV:Type:=Int×aj×(List (List UInt8))
abbrev zS:Type:=Bool×(List Int)
abbrev mM:Type:=(List UInt8)×Int×aj×Int×Int×Int
abbrev nS:Type:=mM×Int×Int×Int×Int
abbrev aC:Ty:=(.st (.pair .bool (.slice (.int .u32))))
abbrev au:Type:=Bool×(List Int)
def fI (a0:List UInt8):Option (Bool×Unit):=
 bif decide (((List.length a0:Int))<1) then
  some (false,())
 else
  bif decide (((List.length a0:Int))>40) then
   some (false,())
  else
   Option.bind (wD a0 0) fun c1=>
   bif decide ((c1.toNat:Int)<97) then
    some (false,())
   else
    Option.bind (wD a0 0) fun c2=>
    bif decide ((c2.toNat:Int)>122) then
     some (false,())
    else
     Option.bind (mF a0 [97,98,99,100,101,102,103,104,105,106,107,108,109,110,111,112,113,114,115,116,117,118,119,120,121,122,48,49,50,51,52,53,54,55,56,57,45]) fun r3=>
     some (r3.1==[],())
def jM (a0:Int) (a1:Int) (a2:Int):Option (Bool×Unit):=
 bif decide (a0<a1) then
  some (true,())
 else
  some (decide (a0>a2),())
def yZ (a0:Int):Option (Bool×Unit):=
 Option.bind (jM a0 1 3652059) fun r1=>
 some (!r1.1,())
def ic (a0:aj):Option (Int×Unit):=
 Option.bind (jM a0.1 (-1000000000000000) 1000000000000000) fun r1=>
 bif r1.1 then
  some (1,())
 else
  Option.bind (jM a0.2 0 9) fun r2=>
  bif r2.1 then
   some (1,())
  else
   some (0,())
abbrev q7:Type:=Int×Int×Int×Unit
abbrev qZ:Type:=((Int×Unit) ⊕ (Int×Unit))
def qY (x1:q7) (again:q7→Option qZ):Option qZ:=
 bif decide (x1.2.2.1<x1.2.1) then
  again (w64 (x1.1*10),x1.2.1,w64 (x1.2.2.1+1),())
 else
  some (Sum.inr (x1.1,()))
def Gp (a0:Int):Option (Int×Unit):=
 bu (β:=(Int×Unit)) (γ:=(Int×Unit)) (
  iter (X:=q7) (β:=qZ) (Int.natAbs (1:Int)+(Int.natAbs a0+(Int.natAbs (0:Int)+2))) (1,a0,0,()) (qY)) fun v2=>
 some (v2.1,())
abbrev kj:Type:=(List Int)×Unit
abbrev sd:Type:=(((List Int)×Unit) ⊕ ((List Int)×Unit))
def rY (x1:kj) (again:kj→Option sd):Option sd:=
 bif decide (((x1.1.length:Int))>0) then
  Option.bind (idx x1.1 (w64 (((x1.1.length:Int)) - 1))) fun y2=>
  bif y2==0 then
   chk (decide (0≤(0:Int))&&decide ((0:Int)≤(w64 (((x1.1.length:Int)) - 1)))&&decide ((w64 (((x1.1.length:Int)) - 1))≤(x1.1.length:Int))) <|
   again (List.drop 0 (List.take (Int.toNat (w64 (((x1.1.length:Int)) - 1))) x1.1),())
  else
   some (Sum.inr (x1.1,()))
 else
  some (Sum.inr (x1.1,()))
def kW (a0:List Int):Option ((List Int)×Unit):=
 bu (β:=((List Int)×Unit)) (γ:=((List Int)×Unit)) (
  iter (X:=kj) (β:=sd) (List.length a0+2) (a0,()) (rY)) fun v3=>
 some (v3.1,())
def fO (a0:Bool) (a1:List Int):Option (au×Unit):=
 Option.bind (kW a1) fun r1=>
 bif a0 then
  some ((decide (((r1.1.length:Int))>0),r1.1),())
 else
  some ((false,r1.1),())
def nE (a0:Int):Option (au×Unit):=
 bu (β:=(au×Unit)) (γ:=(Int×Int×Bool×(List Int)×Unit)) (
  bif decide (a0<0) then
   some (Sum.inr (a0,bK (0 - (bK a0)),false,[],()))
  else
   some (Sum.inr (a0,bK a0,false,[],()))) fun v1=>
 Option.bind (fO (decide (v1.1<0)) [(jf v1.2.1),(jf (Int.fdiv v1.2.1 (2 ^ 32)))]) fun r2=>
 some (r2.1,())
abbrev pQ:Type:=(List Int)×(List Int)×Int×(List Int)×Int×Int×Unit
abbrev pP:Type:=(((List Int)×Unit) ⊕ ((List Int)×Int×Unit))
def pO (x1:pQ) (again:pQ→Option pP):Option pP:=
 bif decide (x1.2.2.2.2.2.1<x1.2.2.2.2.1) then
  Option.bind (idx x1.2.2.2.1 x1.2.2.2.2.2.1) fun y2=>
  bu (β:=(((List Int)×Unit) ⊕ ((List Int)×Int×Unit))) (γ:=((List Int)×(List Int)×Int×(List Int)×Int×Int×Unit)) (
   bif decide (x1.2.2.2.2.2.1<((x1.1.length:Int))) then
    Option.bind (idx x1.1 x1.2.2.2.2.2.1) fun y3=>
    let n4:Int:=bK ((bK (x1.2.2.1+(bK y2)))+(bK y3))
    some (Sum.inr (x1.1,x1.2.1,n4,x1.2.2.2.1,x1.2.2.2.2.1,x1.2.2.2.2.2.1,()))
   else
    some (Sum.inr (x1.1,x1.2.1,bK (x1.2.2.1+(bK y2)),x1.2.2.2.1,x1.2.2.2.2.1,x1.2.2.2.2.2.1,()))) fun v5=>
  chk (decide (((v5.2.1.length)+1)*4≤140737488355328)&&decide ((v5.2.1.length)+1≤maxLen)) <|
  again (v5.1,v5.2.1++[(jf v5.2.2.1)],Int.fdiv v5.2.2.1 (2 ^ 32),v5.2.2.2.1,v5.2.2.2.2.1,w64 (v5.2.2.2.2.2.1+1),())
 else
  some (Sum.inr (x1.2.1,x1.2.2.1,()))
def vY (a0:List Int) (a1:List Int):Option ((List Int)×Unit):=
 bu (β:=((List Int)×Unit)) (γ:=((List Int)×(List Int)×Unit)) (
  bif decide (((List.length a0:Int))<((List.length a1:Int))) then
   some (Sum.inr (a1,a0,()))
  else
   some (Sum.inr (a0,a1,()))) fun v1=>
 chk (decide (0≤(0:Int))&&decide ((0:Int)≤(w64 (((v1.1.length:Int))+1)))&&decide ((4:Int)*(w64 (((v1.1.length:Int))+1))≤281474976710656)&&decide ((w64 (((v1.1.length:Int))+1))≤9223372036854775807)) <|
 bu (β:=((List Int)×Unit)) (γ:=((List Int)×Int×Unit)) (
  iter (X:=pQ) (β:=pP) (v1.2.1.length+(List.length ([]:List Int)+(Int.natAbs (0:Int)+(v1.1.length+(Int.natAbs ((v1.1.length:Int))+(Int.natAbs (0:Int)+2)))))) (v1.2.1,[],0,v1.1,(v1.1.length:Int),0,()) (pO)) fun v7=>
 chk (decide (((v7.1.length)+1)*4≤140737488355328)&&decide ((v7.1.length)+1≤maxLen)) <|
 some (v7.1++[(jf v7.2.1)],())
abbrev nG:Type:=(List Int)×(List Int)×Int×Unit
abbrev nF:Type:=((Int×Unit) ⊕ Unit)
def ki (x1:nG) (again:nG→Option nF):Option nF:=
 bif decide (x1.2.2.1≥0) then
  Option.bind (idx x1.1 x1.2.2.1) fun y2=>
  Option.bind (idx x1.2.1 x1.2.2.1) fun y3=>
  bif y2 != y3 then
   Option.bind (idx x1.1 x1.2.2.1) fun y4=>
   Option.bind (idx x1.2.1 x1.2.2.1) fun y5=>
   bif decide (y4<y5) then
    some (Sum.inl ((-1),()))
   else
    some (Sum.inl (1,()))
  else
   again (x1.1,x1.2.1,w64 (x1.2.2.1 - 1),())
 else
  some (Sum.inr ())
def nR (a0:List Int) (a1:List Int):Option (Int×Unit):=
 bif ((List.length a0:Int)) != ((List.length a1:Int)) then
  some (w64 (((List.length a0:Int)) - ((List.length a1:Int))),())
 else
  bu (β:=(Int×Unit)) (γ:=Unit) (
   iter (X:=nG) (β:=nF) (List.length a0+(List.length a1+(Int.natAbs (w64 (((List.length a0:Int)) - 1))+2))) (a0,a1,w64 (((List.length a0:Int)) - 1),()) (ki)) fun _=>
  some (0,())
abbrev rB:Type:=(List Int)×(List Int)×Int×(List Int)×Int×Int×Unit
abbrev rA:Type:=(((List Int)×Unit) ⊕ ((List Int)×Unit))
def rz (x1:rB) (again:rB→Option rA):Option rA:=
 bif decide (x1.2.2.2.2.2.1<x1.2.2.2.2.1) then
  Option.bind (idx x1.2.2.2.1 x1.2.2.2.2.2.1) fun y2=>
  bu (β:=(((List Int)×Unit) ⊕ ((List Int)×Unit))) (γ:=((List Int)×(List Int)×Int×(List Int)×Int×Int×Unit)) (
   bif decide (x1.2.2.2.2.2.1<((x1.1.length:Int))) then
    Option.bind (idx x1.1 x1.2.2.2.2.2.1) fun y3=>
    let n4:Int:=bK ((bK ((bK y2) - x1.2.2.1)) - (bK y3))
    some (Sum.inr (x1.1,x1.2.1,n4,x1.2.2.2.1,x1.2.2.2.2.1,x1.2.2.2.2.2.1,()))
   else
    some (Sum.inr (x1.1,x1.2.1,bK ((bK y2) - x1.2.2.1),x1.2.2.2.1,x1.2.2.2.2.1,x1.2.2.2.2.2.1,()))) fun v5=>
  chk (decide (((v5.2.1.length)+1)*4≤140737488355328)&&decide ((v5.2.1.length)+1≤maxLen)) <|
  again (v5.1,v5.2.1++[(jf v5.2.2.1)],bK (((BitVec.ofInt (IntKind.bits .u64) (Int.fdiv v5.2.2.1 (2 ^ 32)) &&& BitVec.ofInt (IntKind.bits .u64) 1).toNat:Int)),v5.2.2.2.1,v5.2.2.2.2.1,w64 (v5.2.2.2.2.2.1+1),())
 else
  some (Sum.inr (x1.2.1,()))
def qj (a0:List Int) (a1:List Int):Option ((List Int)×Unit):=
 chk (decide (0≤(0:Int))&&decide ((0:Int)≤((List.length a0:Int)))&&decide ((4:Int)*((List.length a0:Int))≤281474976710656)&&decide (((List.length a0:Int))≤9223372036854775807)) <|
 bu (β:=((List Int)×Unit)) (γ:=((List Int)×Unit)) (
  iter (X:=rB) (β:=rA) (List.length a1+(List.length ([]:List Int)+(Int.natAbs (0:Int)+(List.length a0+(Int.natAbs ((List.length a0:Int))+(Int.natAbs (0:Int)+2)))))) (a1,[],0,a0,(List.length a0:Int),0,()) (rz)) fun v6=>
 Option.bind (kW v6.1) fun r7=>
 some (r7.1,())
abbrev oI:Type:=(List Int)×Int×Bool×(List Int)×Bool×(List Int)×Bool×(List Int)×Bool×(List Int)×(List Int)×Unit
abbrev oH:Type:=((au×au×Unit) ⊕ ((List Int)×Bool×(List Int)×Bool×(List Int)×(List Int)×Unit))
def oG (x1:oI) (again:oI→Option oH):Option oH:=
 bif decide (x1.2.1≥0) then
  Option.bind (vY x1.1 x1.1) fun r2=>
  chk (decide (0≤(0:Int))&&decide ((0:Int)<(r2.1.length:Int))) <|
  Option.bind (r2.1[0]?) fun y3=>
  Option.bind (idx x1.2.2.2.1 (w64 (Int.tdiv x1.2.1 32))) fun y4=>
  chk (decide (0≤(Int.tmod x1.2.1 32))) <|
  let n5:Int:=jf (((BitVec.ofInt (IntKind.bits .u32) (Int.fdiv y4 (2 ^ (min (Int.toNat (Int.tmod x1.2.1 32)) (IntKind.bits .u32)))) &&& BitVec.ofInt (IntKind.bits .u32) 1).toNat:Int))
  chk (decide (0≤(0:Int))&&decide ((0:Int)<(r2.1.length:Int))) <|
  Option.bind (r2.1[0]?) fun _=>
  Option.bind (kW (List.set r2.1 0 (jf (((BitVec.ofInt (IntKind.bits .u32) y3 ||| BitVec.ofInt (IntKind.bits .u32) n5).toNat:Int))))) fun r6=>
  Option.bind (nR r6.1 x1.2.2.2.2.2.1) fun r7=>
  bif decide (r7.1≥0) then
   Option.bind (qj r6.1 x1.2.2.2.2.2.1) fun r8=>
   chk (decide (0≤(w64 (Int.tdiv x1.2.1 32)))&&decide ((w64 (Int.tdiv x1.2.1 32))<(x1.2.2.2.2.2.2.2.2.2.2.1.length:Int))) <|
   Option.bind (x1.2.2.2.2.2.2.2.2.2.2.1[(w64 (Int.tdiv x1.2.1 32)).toNat]?) fun y9=>
   chk (decide (0≤(Int.tmod x1.2.1 32))) <|
   let n10:Int:=jf (((BitVec.ofInt (IntKind.bits .u32) y9 ||| BitVec.ofInt (IntKind.bits .u32) (jf (1*2 ^ (min (Int.toNat (Int.tmod x1.2.1 32)) (IntKind.bits .u32))))).toNat:Int))
   chk (decide (0≤(w64 (Int.tdiv x1.2.1 32)))&&decide ((w64 (Int.tdiv x1.2.1 32))<(x1.2.2.2.2.2.2.2.2.2.2.1.length:Int))) <|
   Option.bind (x1.2.2.2.2.2.2.2.2.2.2.1[(w64 (Int.tdiv x1.2.1 32)).toNat]?) fun _=>
   again (r8.1,w64 (x1.2.1 - 1),x1.2.2.1,x1.2.2.2.1,x1.2.2.2.2.1,x1.2.2.2.2.2.1,x1.2.2.2.2.2.2.1,x1.2.2.2.2.2.2.2.1,x1.2.2.2.2.2.2.2.2.1,x1.2.2.2.2.2.2.2.2.2.1,List.set x1.2.2.2.2.2.2.2.2.2.2.1 (w64 (Int.tdiv x1.2.1 32)).toNat n10,())
  else
   again (r6.1,w64 (x1.2.1 - 1),x1.2.2.1,x1.2.2.2.1,x1.2.2.2.2.1,x1.2.2.2.2.2.1,x1.2.2.2.2.2.2.1,x1.2.2.2.2.2.2.2.1,x1.2.2.2.2.2.2.2.2.1,x1.2.2.2.2.2.2.2.2.2.1,x1.2.2.2.2.2.2.2.2.2.2.1,())
 else
  some (Sum.inr (x1.1,x1.2.2.2.2.2.2.1,x1.2.2.2.2.2.2.2.1,x1.2.2.2.2.2.2.2.2.1,x1.2.2.2.2.2.2.2.2.2.1,x1.2.2.2.2.2.2.2.2.2.2.1,()))
def pL (a0:au) (a1:au):Option (au×au×Unit):=
 chk (decide (0≤((a0.2.length:Int)))&&decide (((a0.2.length:Int))≤((a0.2.length:Int)))&&decide ((4:Int)*((a0.2.length:Int))≤281474976710656)&&decide (((a0.2.length:Int))≤9223372036854775807)) <|
 let n1:Int:=w64 ((w64 (((a0.2.length:Int))*32)) - 1)
 bu (β:=(au×au×Unit)) (γ:=((List Int)×Bool×(List Int)×Bool×(List Int)×(List Int)×Unit)) (
  iter (X:=oI) (β:=oH) (List.length ([]:List Int)+(Int.natAbs n1+(a0.2.length+(a1.2.length+(List.length ([]:List Int)+(List.length ([]:List Int)+(List.length ((List.replicate (Int.toNat ((a0.2.length:Int))) 0):List Int)+2))))))) ([],n1,a0.1,a0.2,a1.1,a1.2,false,[],false,[],List.replicate (Int.toNat ((a0.2.length:Int))) 0,()) (oG)) fun v14=>
 Option.bind (fO false v14.2.2.2.2.2.1) fun r15=>
 Option.bind (fO false v14.1) fun r16=>
 some (r15.1,r16.1,())
def jP (a0:au):Option (Int×Unit):=
 bif a0.1 then
  some ((-1),())
 else
  bif ((a0.2.length:Int))==0 then
   some (0,())
  else
   some (1,())
def oJ (a0:au):Option (au×Unit):=
 Option.bind (fO (!a0.1) a0.2) fun r1=>
 some (r1.1,())
abbrev nD:Type:=Int×Int×(List Int)×Int×Int×Bool×(List Int)×Unit
abbrev nC:Type:=((Int×Bool×Unit) ⊕ (Int×Int×Bool×(List Int)×Unit))
def nB (x1:nD) (again:nD→Option nC):Option nC:=
 bif decide (x1.2.2.2.2.1<x1.2.2.2.1) then
  Option.bind (idx x1.2.2.1 x1.2.2.2.2.1) fun y2=>
  chk (decide (0≤(w64 (32*x1.2.2.2.2.1)))) <|
  let n3:Int:=bK ((bK y2)*2 ^ (min (Int.toNat (w64 (32*x1.2.2.2.2.1))) (IntKind.bits .u64)))
  again (x1.1,bK (((BitVec.ofInt (IntKind.bits .u64) x1.2.1 ||| BitVec.ofInt (IntKind.bits .u64) n3).toNat:Int)),x1.2.2.1,x1.2.2.2.1,w64 (x1.2.2.2.2.1+1),x1.2.2.2.2.2.1,x1.2.2.2.2.2.2.1,())
 else
  some (Sum.inr (x1.1,x1.2.1,x1.2.2.2.2.2.1,x1.2.2.2.2.2.2.1,()))
def ry (a0:au) (a1:Int):Option (Int×Bool×Unit):=
 bif decide (((a0.2.length:Int))>2) then
  some (0,false,())
 else
  bu (β:=(Int×Bool×Unit)) (γ:=(Int×Int×Bool×(List Int)×Unit)) (
   iter (X:=nD) (β:=nC) (Int.natAbs a1+(Int.natAbs (0:Int)+(a0.2.length+(Int.natAbs ((a0.2.length:Int))+(Int.natAbs (0:Int)+(a0.2.length+2)))))) (a1,0,a0.2,(a0.2.length:Int),0,a0.1,a0.2,()) (nB)) fun v4=>
  bif decide (v4.2.1>(bK v4.1)) then
   some (0,false,())
  else
   bif v4.2.2.1 then
    some (w64 (0 - (w64 v4.2.1)),true,())
   else
    some (w64 v4.2.1,true,())
def nU (a0:au) (a1:Int):Option (aj×Int×Unit):=
 Option.bind (ry a0 1000000000000000) fun r1=>
 bif !r1.2.1 then
  some ((0,0),1,())
 else
  some ((r1.1,a1),0,())
abbrev mU:Type:=Int×Bool×(List Int)×Int×Int×Bool×(List Int)×Unit
abbrev mT:Type:=((aj×Int×Unit) ⊕ (Int×Bool×(List Int)×Int×Int×Unit))
def mS (x1:mU) (again:mU→Option mT):Option mT:=
 bif decide (x1.1>0) then
  Option.bind (pL (x1.2.1,x1.2.2.1) (x1.2.2.2.2.2.1,x1.2.2.2.2.2.2.1)) fun r2=>
  Option.bind (jP r2.2.1) fun r3=>
  bif r3.1 != 0 then
   some (Sum.inr (x1.1,x1.2.1,x1.2.2.1,x1.2.2.2.1,x1.2.2.2.2.1,()))
  else
   Option.bind (jP (x1.2.1,x1.2.2.1)) fun r4=>
   bif decide (r4.1<0) then
    Option.bind (oJ r2.1) fun r5=>
    again (w64 (x1.1 - 1),r5.1.1,r5.1.2,x1.2.2.2.1,x1.2.2.2.2.1,x1.2.2.2.2.2.1,x1.2.2.2.2.2.2.1,())
   else
    again (w64 (x1.1 - 1),r2.1.1,r2.1.2,x1.2.2.2.1,x1.2.2.2.2.1,x1.2.2.2.2.2.1,x1.2.2.2.2.2.2.1,())
 else
  some (Sum.inr (x1.1,x1.2.1,x1.2.2.1,x1.2.2.2.1,x1.2.2.2.2.1,()))
def qW (a0:au) (a1:Int):Option (aj×Int×Unit):=
 Option.bind (nE 10) fun r1=>
 bu (β:=(aj×Int×Unit)) (γ:=(Int×Bool×(List Int)×Int×Int×Unit)) (
  iter (X:=mU) (β:=mT) (Int.natAbs a1+(a0.2.length+(Int.natAbs (0:Int)+(Int.natAbs (0:Int)+(r1.1.2.length+2))))) (a1,a0.1,a0.2,0,0,r1.1.1,r1.1.2,()) (mS)) fun v7=>
 Option.bind (nU (v7.2.1,v7.2.2.1) v7.1) fun r8=>
 some (r8.1,r8.2.1,())
end Go.Md
namespace Go.Md
open Go.Dn
end Go.Md
