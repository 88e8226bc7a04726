/-
  The plain models of the functions that the law reaches, first part. No condition.
-/
import Derived.Test.YtgmbmgfhpkoajacGreatDoorYd
import Derived.Lib.SlTrimSet
namespace Go.Md
open Go.Dn
def mz (s c:List UInt8):Option (List UInt8×Unit):=
 bif decide (s.length<=9223372036854775807)&&(decide (c.length<4294967281)&&c.all fun b=>decide (b.toNat<128)) then some (Lib.trimS s c,()) else none
abbrev aA:Ty:=(.st (.pair tI tI))
abbrev ah:Type:=Int×Int
abbrev Kf:Type:=Int×ah×(List (List UInt8))
abbrev bg:Ty:=(.st (.pair .bool (.slice tI)))
abbrev au:Type:=Bool×(List Int)
abbrev mI:Type:=(List UInt8)×Int×ah×Int×Int×Int
abbrev nH:Type:=mI×Int×Int×Int×Int
abbrev cF:Ty:=(.st (.pair .bool (.slice (.int .u32))))
abbrev bq:Type:=Bool×(List Int)
def eU (a0:List UInt8):Option (Bool×Unit):=
 bif decide (((List.length a0:Int))<1) then
  some (false,())
 else
  bif decide (((List.length a0:Int))>40) then
   some (false,())
  else
   Option.bind (uC a0 0) fun c1=>
   bif decide ((c1.toNat:Int)<97) then
    some (false,())
   else
    Option.bind (uC a0 0) fun c2=>
    bif decide ((c2.toNat:Int)>122) then
     some (false,())
    else
     Option.bind (mz a0 [97,98,99,100,101,102,103,104,105,106,107,108,109,110,111,112,113,114,115,116,117,118,119,120,121,122,48,49,50,51,52,53,54,55,56,57,45]) fun r3=>
     some (r3.1==[],())
def dB (a0:Int) (a1:Int) (a2:Int):Option (Bool×Unit):=
 bif decide (a0<a1) then
  some (true,())
 else
  some (decide (a0>a2),())
def kO (a0:Int):Option (Bool×Unit):=
 Option.bind (dB a0 1 3652059) fun r1=>
 some (!r1.1,())
def fm (a0:ah):Option (Int×Unit):=
 Option.bind (dB a0.1 (-1000000000000000) 1000000000000000) fun r1=>
 bif r1.1 then
  some (1,())
 else
  Option.bind (dB a0.2 0 9) fun r2=>
  bif r2.1 then
   some (1,())
  else
   some (0,())
abbrev qS:Type:=Int×Int×Int×Unit
abbrev qR:Type:=((Int×Unit) ⊕ (Int×Unit))
def qQ (x1:qS) (again:qS->Option qR):Option qR:=
 bif decide (x1.2.2.1<x1.2.1) then
  again (w64 (x1.1*10),x1.2.1,w64 (x1.2.2.1+1),())
 else
  some (Sum.inr (x1.1,()))
def Gr (a0:Int):Option (Int×Unit):=
 aI (β:=(Int×Unit)) (γ:=(Int×Unit)) (
  iter (X:=qS) (β:=qR) (Int.natAbs (1:Int)+(Int.natAbs a0+(Int.natAbs (0:Int)+2))) (1,a0,0,()) (qQ)) fun v2=>
 some (v2.1,())
abbrev lN:Type:=(List (List UInt8))×(List UInt8)×Int×Int×Unit
abbrev lM:Type:=((Int×Unit) ⊕ Unit)
def zR (x1:lN) (again:lN->Option lM):Option lM:=
 bif decide (x1.2.2.2.1<x1.2.2.1) then
  Option.bind (idx x1.1 x1.2.2.2.1) fun y2=>
  bif x1.2.1==y2 then
   some (Sum.inl (x1.2.2.2.1,()))
  else
   again (x1.1,x1.2.1,x1.2.2.1,w64 (x1.2.2.2.1+1),())
 else
  some (Sum.inr ())
def tW (a0:List (List UInt8)) (a1:List UInt8):Option (Int×Unit):=
 aI (β:=(Int×Unit)) (γ:=Unit) (
  iter (X:=lN) (β:=lM) (List.length a0+(List.length a1+(Int.natAbs ((List.length a0:Int))+(Int.natAbs (0:Int)+2)))) (a0,a1,(List.length a0:Int),0,()) (zR)) fun _=>
 some ((-1),())
abbrev jK:Type:=(List Int)×Unit
abbrev rX:Type:=(((List Int)×Unit) ⊕ ((List Int)×Unit))
def rV (x1:jK) (again:jK->Option rX):Option rX:=
 bif decide (((x1.1.length:Int))>0) then
  Option.bind (idx x1.1 (w64 (((x1.1.length:Int)) - 1))) fun y2=>
  bif y2==0 then
   chk (decide (0<=(0:Int))&&decide ((0:Int)<=(w64 (((x1.1.length:Int)) - 1)))&&decide ((w64 (((x1.1.length:Int)) - 1))<=(x1.1.length:Int))) <|
   again (List.drop 0 (List.take (Int.toNat (w64 (((x1.1.length:Int)) - 1))) x1.1),())
  else
   some (Sum.inr (x1.1,()))
 else
  some (Sum.inr (x1.1,()))
def ku (a0:List Int):Option ((List Int)×Unit):=
 aI (β:=((List Int)×Unit)) (γ:=((List Int)×Unit)) (
  iter (X:=jK) (β:=rX) (List.length a0+2) (a0,()) (rV)) fun v3=>
 some (v3.1,())
def fJ (a0:Bool) (a1:List Int):Option (bq×Unit):=
 Option.bind (ku a1) fun r1=>
 bif a0 then
  some ((decide (((r1.1.length:Int))>0),r1.1),())
 else
  some ((false,r1.1),())
def pM (a0:Int):Option (bq×Unit):=
 aI (β:=(bq×Unit)) (γ:=(Int×Int×Bool×(List Int)×Unit)) (
  bif decide (a0<0) then
   some (Sum.inr (a0,bO (0 - (bO a0)),false,[],()))
  else
   some (Sum.inr (a0,bO a0,false,[],()))) fun v1=>
 Option.bind (fJ (decide (v1.1<0)) [(iU v1.2.1),(iU (Int.fdiv v1.2.1 (2 ^ 32)))]) fun r2=>
 some (r2.1,())
abbrev pP:Type:=(List Int)×(List Int)×Int×(List Int)×Int×Int×Unit
abbrev pO:Type:=(((List Int)×Unit) ⊕ ((List Int)×Int×Unit))
def pN (x1:pP) (again:pP->Option pO):Option pO:=
 bif decide (x1.2.2.2.2.2.1<x1.2.2.2.2.1) then
  Option.bind (idx x1.2.2.2.1 x1.2.2.2.2.2.1) fun y2=>
  aI (β:=(((List Int)×Unit) ⊕ ((List Int)×Int×Unit))) (γ:=((List Int)×(List Int)×Int×(List Int)×Int×Int×Unit)) (
   bif decide (x1.2.2.2.2.2.1<((x1.1.length:Int))) then
    Option.bind (idx x1.1 x1.2.2.2.2.2.1) fun y3=>
    let n4:Int:=bO ((bO (x1.2.2.1+(bO y2)))+(bO y3))
    some (Sum.inr (x1.1,x1.2.1,n4,x1.2.2.2.1,x1.2.2.2.2.1,x1.2.2.2.2.2.1,()))
   else
    some (Sum.inr (x1.1,x1.2.1,bO (x1.2.2.1+(bO y2)),x1.2.2.2.1,x1.2.2.2.2.1,x1.2.2.2.2.2.1,()))) fun v5=>
  chk (decide (((v5.2.1.length)+1)*4<=140737488355328)&&decide ((v5.2.1.length)+1<=maxLen)) <|
  again (v5.1,v5.2.1++[(iU v5.2.2.1)],Int.fdiv v5.2.2.1 (2 ^ 32),v5.2.2.2.1,v5.2.2.2.2.1,w64 (v5.2.2.2.2.2.1+1),())
 else
  some (Sum.inr (x1.2.1,x1.2.2.1,()))
def za (a0:List Int) (a1:List Int):Option ((List Int)×Unit):=
 aI (β:=((List Int)×Unit)) (γ:=((List Int)×(List Int)×Unit)) (
  bif decide (((List.length a0:Int))<((List.length a1:Int))) then
   some (Sum.inr (a1,a0,()))
  else
   some (Sum.inr (a0,a1,()))) fun v1=>
 chk (decide (0<=(0:Int))&&decide ((0:Int)<=(w64 (((v1.1.length:Int))+1)))&&decide ((4:Int)*(w64 (((v1.1.length:Int))+1))<=281474976710656)&&decide ((w64 (((v1.1.length:Int))+1))<=9223372036854775807)) <|
 aI (β:=((List Int)×Unit)) (γ:=((List Int)×Int×Unit)) (
  iter (X:=pP) (β:=pO) (v1.2.1.length+(List.length ([]:List Int)+(Int.natAbs (0:Int)+(v1.1.length+(Int.natAbs ((v1.1.length:Int))+(Int.natAbs (0:Int)+2)))))) (v1.2.1,[],0,v1.1,(v1.1.length:Int),0,()) (pN)) fun v7=>
 chk (decide (((v7.1.length)+1)*4<=140737488355328)&&decide ((v7.1.length)+1<=maxLen)) <|
 some (v7.1++[(iU v7.2.1)],())
abbrev nj:Type:=(List Int)×(List Int)×Int×Unit
abbrev ni:Type:=((Int×Unit) ⊕ Unit)
def jJ (x1:nj) (again:nj->Option ni):Option ni:=
 bif decide (x1.2.2.1>=0) then
  Option.bind (idx x1.1 x1.2.2.1) fun y2=>
  Option.bind (idx x1.2.1 x1.2.2.1) fun y3=>
  bif y2 != y3 then
   Option.bind (idx x1.1 x1.2.2.1) fun y4=>
   Option.bind (idx x1.2.1 x1.2.2.1) fun y5=>
   bif decide (y4<y5) then
    some (Sum.inl ((-1),()))
   else
    some (Sum.inl (1,()))
  else
   again (x1.1,x1.2.1,w64 (x1.2.2.1 - 1),())
 else
  some (Sum.inr ())
def nG (a0:List Int) (a1:List Int):Option (Int×Unit):=
 bif ((List.length a0:Int)) != ((List.length a1:Int)) then
  some (w64 (((List.length a0:Int)) - ((List.length a1:Int))),())
 else
  aI (β:=(Int×Unit)) (γ:=Unit) (
   iter (X:=nj) (β:=ni) (List.length a0+(List.length a1+(Int.natAbs (w64 (((List.length a0:Int)) - 1))+2))) (a0,a1,w64 (((List.length a0:Int)) - 1),()) (jJ)) fun _=>
  some (0,())
abbrev rC:Type:=(List Int)×(List Int)×Int×(List Int)×Int×Int×Unit
abbrev rA:Type:=(((List Int)×Unit) ⊕ ((List Int)×Unit))
def rz (x1:rC) (again:rC->Option rA):Option rA:=
 bif decide (x1.2.2.2.2.2.1<x1.2.2.2.2.1) then
  Option.bind (idx x1.2.2.2.1 x1.2.2.2.2.2.1) fun y2=>
  aI (β:=(((List Int)×Unit) ⊕ ((List Int)×Unit))) (γ:=((List Int)×(List Int)×Int×(List Int)×Int×Int×Unit)) (
   bif decide (x1.2.2.2.2.2.1<((x1.1.length:Int))) then
    Option.bind (idx x1.1 x1.2.2.2.2.2.1) fun y3=>
    let n4:Int:=bO ((bO ((bO y2) - x1.2.2.1)) - (bO y3))
    some (Sum.inr (x1.1,x1.2.1,n4,x1.2.2.2.1,x1.2.2.2.2.1,x1.2.2.2.2.2.1,()))
   else
    some (Sum.inr (x1.1,x1.2.1,bO ((bO y2) - x1.2.2.1),x1.2.2.2.1,x1.2.2.2.2.1,x1.2.2.2.2.2.1,()))) fun v5=>
  chk (decide (((v5.2.1.length)+1)*4<=140737488355328)&&decide ((v5.2.1.length)+1<=maxLen)) <|
  again (v5.1,v5.2.1++[(iU v5.2.2.1)],bO (((BitVec.ofInt (IntKind.bits .u64) (Int.fdiv v5.2.2.1 (2 ^ 32)) &&& BitVec.ofInt (IntKind.bits .u64) 1).toNat:Int)),v5.2.2.2.1,v5.2.2.2.2.1,w64 (v5.2.2.2.2.2.1+1),())
 else
  some (Sum.inr (x1.2.1,()))
def qg (a0:List Int) (a1:List Int):Option ((List Int)×Unit):=
 chk (decide (0<=(0:Int))&&decide ((0:Int)<=((List.length a0:Int)))&&decide ((4:Int)*((List.length a0:Int))<=281474976710656)&&decide (((List.length a0:Int))<=9223372036854775807)) <|
 aI (β:=((List Int)×Unit)) (γ:=((List Int)×Unit)) (
  iter (X:=rC) (β:=rA) (List.length a1+(List.length ([]:List Int)+(Int.natAbs (0:Int)+(List.length a0+(Int.natAbs ((List.length a0:Int))+(Int.natAbs (0:Int)+2)))))) (a1,[],0,a0,(List.length a0:Int),0,()) (rz)) fun v6=>
 Option.bind (ku v6.1) fun r7=>
 some (r7.1,())
abbrev oD:Type:=(List Int)×Int×Bool×(List Int)×Bool×(List Int)×Bool×(List Int)×Bool×(List Int)×(List Int)×Unit
abbrev oC:Type:=((bq×bq×Unit) ⊕ ((List Int)×Bool×(List Int)×Bool×(List Int)×(List Int)×Unit))
def oB (x1:oD) (again:oD->Option oC):Option oC:=
 bif decide (x1.2.1>=0) then
  Option.bind (za x1.1 x1.1) fun r2=>
  chk (decide (0<=(0:Int))&&decide ((0:Int)<(r2.1.length:Int))) <|
  Option.bind (r2.1[0]?) fun y3=>
  Option.bind (idx x1.2.2.2.1 (w64 (Int.tdiv x1.2.1 32))) fun y4=>
  chk (decide (0<=(Int.tmod x1.2.1 32))) <|
  let n5:Int:=iU (((BitVec.ofInt (IntKind.bits .u32) (Int.fdiv y4 (2 ^ (min (Int.toNat (Int.tmod x1.2.1 32)) (IntKind.bits .u32)))) &&& BitVec.ofInt (IntKind.bits .u32) 1).toNat:Int))
  chk (decide (0<=(0:Int))&&decide ((0:Int)<(r2.1.length:Int))) <|
  Option.bind (r2.1[0]?) fun _=>
  Option.bind (ku (List.set r2.1 0 (iU (((BitVec.ofInt (IntKind.bits .u32) y3 ||| BitVec.ofInt (IntKind.bits .u32) n5).toNat:Int))))) fun r6=>
  Option.bind (nG r6.1 x1.2.2.2.2.2.1) fun r7=>
  bif decide (r7.1>=0) then
   Option.bind (qg r6.1 x1.2.2.2.2.2.1) fun r8=>
   chk (decide (0<=(w64 (Int.tdiv x1.2.1 32)))&&decide ((w64 (Int.tdiv x1.2.1 32))<(x1.2.2.2.2.2.2.2.2.2.2.1.length:Int))) <|
   Option.bind (x1.2.2.2.2.2.2.2.2.2.2.1[(w64 (Int.tdiv x1.2.1 32)).toNat]?) fun y9=>
   chk (decide (0<=(Int.tmod x1.2.1 32))) <|
   let n10:Int:=iU (((BitVec.ofInt (IntKind.bits .u32) y9 ||| BitVec.ofInt (IntKind.bits .u32) (iU (1*2 ^ (min (Int.toNat (Int.tmod x1.2.1 32)) (IntKind.bits .u32))))).toNat:Int))
   chk (decide (0<=(w64 (Int.tdiv x1.2.1 32)))&&decide ((w64 (Int.tdiv x1.2.1 32))<(x1.2.2.2.2.2.2.2.2.2.2.1.length:Int))) <|
   Option.bind (x1.2.2.2.2.2.2.2.2.2.2.1[(w64 (Int.tdiv x1.2.1 32)).toNat]?) fun _=>
   again (r8.1,w64 (x1.2.1 - 1),x1.2.2.1,x1.2.2.2.1,x1.2.2.2.2.1,x1.2.2.2.2.2.1,x1.2.2.2.2.2.2.1,x1.2.2.2.2.2.2.2.1,x1.2.2.2.2.2.2.2.2.1,x1.2.2.2.2.2.2.2.2.2.1,List.set x1.2.2.2.2.2.2.2.2.2.2.1 (w64 (Int.tdiv x1.2.1 32)).toNat n10,())
  else
   again (r6.1,w64 (x1.2.1 - 1),x1.2.2.1,x1.2.2.2.1,x1.2.2.2.2.1,x1.2.2.2.2.2.1,x1.2.2.2.2.2.2.1,x1.2.2.2.2.2.2.2.1,x1.2.2.2.2.2.2.2.2.1,x1.2.2.2.2.2.2.2.2.2.1,x1.2.2.2.2.2.2.2.2.2.2.1,())
 else
  some (Sum.inr (x1.1,x1.2.2.2.2.2.2.1,x1.2.2.2.2.2.2.2.1,x1.2.2.2.2.2.2.2.2.1,x1.2.2.2.2.2.2.2.2.2.1,x1.2.2.2.2.2.2.2.2.2.2.1,()))
def pH (a0:bq) (a1:bq):Option (bq×bq×Unit):=
 chk (decide (0<=((a0.2.length:Int)))&&decide (((a0.2.length:Int))<=((a0.2.length:Int)))&&decide ((4:Int)*((a0.2.length:Int))<=281474976710656)&&decide (((a0.2.length:Int))<=9223372036854775807)) <|
 let n1:Int:=w64 ((w64 (((a0.2.length:Int))*32)) - 1)
 aI (β:=(bq×bq×Unit)) (γ:=((List Int)×Bool×(List Int)×Bool×(List Int)×(List Int)×Unit)) (
  iter (X:=oD) (β:=oC) (List.length ([]:List Int)+(Int.natAbs n1+(a0.2.length+(a1.2.length+(List.length ([]:List Int)+(List.length ([]:List Int)+(List.length ((List.replicate (Int.toNat ((a0.2.length:Int))) 0):List Int)+2))))))) ([],n1,a0.1,a0.2,a1.1,a1.2,false,[],false,[],List.replicate (Int.toNat ((a0.2.length:Int))) 0,()) (oB)) fun v14=>
 Option.bind (fJ false v14.2.2.2.2.2.1) fun r15=>
 Option.bind (fJ false v14.1) fun r16=>
 some (r15.1,r16.1,())
def gX (a0:bq):Option (Int×Unit):=
 bif a0.1 then
  some ((-1),())
 else
  bif ((a0.2.length:Int))==0 then
   some (0,())
  else
   some (1,())
def lf (a0:bq):Option (bq×Unit):=
 Option.bind (fJ (!a0.1) a0.2) fun r1=>
 some (r1.1,())
abbrev nh:Type:=Int×Int×(List Int)×Int×Int×Bool×(List Int)×Unit
abbrev nc:Type:=((Int×Bool×Unit) ⊕ (Int×Int×Bool×(List Int)×Unit))
def mZ (x1:nh) (again:nh->Option nc):Option nc:=
 bif decide (x1.2.2.2.2.1<x1.2.2.2.1) then
  Option.bind (idx x1.2.2.1 x1.2.2.2.2.1) fun y2=>
  chk (decide (0<=(w64 (32*x1.2.2.2.2.1)))) <|
  let n3:Int:=bO ((bO y2)*2 ^ (min (Int.toNat (w64 (32*x1.2.2.2.2.1))) (IntKind.bits .u64)))
  again (x1.1,bO (((BitVec.ofInt (IntKind.bits .u64) x1.2.1 ||| BitVec.ofInt (IntKind.bits .u64) n3).toNat:Int)),x1.2.2.1,x1.2.2.2.1,w64 (x1.2.2.2.2.1+1),x1.2.2.2.2.2.1,x1.2.2.2.2.2.2.1,())
 else
  some (Sum.inr (x1.1,x1.2.1,x1.2.2.2.2.2.1,x1.2.2.2.2.2.2.1,()))
def ry (a0:bq) (a1:Int):Option (Int×Bool×Unit):=
 bif decide (((a0.2.length:Int))>2) then
  some (0,false,())
 else
  aI (β:=(Int×Bool×Unit)) (γ:=(Int×Int×Bool×(List Int)×Unit)) (
   iter (X:=nh) (β:=nc) (Int.natAbs a1+(Int.natAbs (0:Int)+(a0.2.length+(Int.natAbs ((a0.2.length:Int))+(Int.natAbs (0:Int)+(a0.2.length+2)))))) (a1,0,a0.2,(a0.2.length:Int),0,a0.1,a0.2,()) (mZ)) fun v4=>
  bif decide (v4.2.1>(bO v4.1)) then
   some (0,false,())
  else
   bif v4.2.2.1 then
    some (w64 (0 - (w64 v4.2.1)),true,())
   else
    some (w64 v4.2.1,true,())
def lp (a0:bq) (a1:Int):Option (ah×Int×Unit):=
 Option.bind (ry a0 1000000000000000) fun r1=>
 bif !r1.2.1 then
  some ((0,0),1,())
 else
  some ((r1.1,a1),0,())
abbrev mL:Type:=Int×Bool×(List Int)×Int×Int×Bool×(List Int)×Unit
abbrev mK:Type:=((ah×Int×Unit) ⊕ (Int×Bool×(List Int)×Int×Int×Unit))
def mJ (x1:mL) (again:mL->Option mK):Option mK:=
 bif decide (x1.1>0) then
  Option.bind (pH (x1.2.1,x1.2.2.1) (x1.2.2.2.2.2.1,x1.2.2.2.2.2.2.1)) fun r2=>
  Option.bind (gX r2.2.1) fun r3=>
  bif r3.1 != 0 then
   some (Sum.inr (x1.1,x1.2.1,x1.2.2.1,x1.2.2.2.1,x1.2.2.2.2.1,()))
  else
   Option.bind (gX (x1.2.1,x1.2.2.1)) fun r4=>
   bif decide (r4.1<0) then
    Option.bind (lf r2.1) fun r5=>
    again (w64 (x1.1 - 1),r5.1.1,r5.1.2,x1.2.2.2.1,x1.2.2.2.2.1,x1.2.2.2.2.2.1,x1.2.2.2.2.2.2.1,())
   else
    again (w64 (x1.1 - 1),r2.1.1,r2.1.2,x1.2.2.2.1,x1.2.2.2.2.1,x1.2.2.2.2.2.1,x1.2.2.2.2.2.2.1,())
 else
  some (Sum.inr (x1.1,x1.2.1,x1.2.2.1,x1.2.2.2.1,x1.2.2.2.2.1,()))
def qP (a0:bq) (a1:Int):Option (ah×Int×Unit):=
 Option.bind (pM 10) fun r1=>
 aI (β:=(ah×Int×Unit)) (γ:=(Int×Bool×(List Int)×Int×Int×Unit)) (
  iter (X:=mL) (β:=mK) (Int.natAbs a1+(a0.2.length+(Int.natAbs (0:Int)+(Int.natAbs (0:Int)+(r1.1.2.length+2))))) (a1,a0.1,a0.2,0,0,r1.1.1,r1.1.2,()) (mJ)) fun v7=>
 Option.bind (lp (v7.2.1,v7.2.2.1) v7.1) fun r8=>
 some (r8.1,r8.2.1,())
abbrev xY:Type:=Int×Bool×(List Int)×Bool×(List Int)×Unit
abbrev xX:Type:=((au×Unit) ⊕ (Bool×(List Int)×Bool×(List Int)×Unit))
def rO (x1:xY) (again:xY->Option xX):Option xX:=
 bif x1.1 != 0 then
  chk (decide (((x1.2.2.2.2.1.length)+1)*8<=140737488355328)&&decide ((x1.2.2.2.2.1.length)+1<=maxLen)) <|
  again (w64 (Int.tdiv x1.1 1000000),x1.2.1,x1.2.2.1,x1.2.2.2.1,x1.2.2.2.2.1++[(if (w64 (0 - (Int.tmod x1.1 1000000)))>(Int.tmod x1.1 1000000) then (w64 (0 - (Int.tmod x1.1 1000000))) else (Int.tmod x1.1 1000000))],())
 else
  some (Sum.inr (x1.2.1,x1.2.2.1,x1.2.2.2.1,x1.2.2.2.2.1,()))
def Ej (a0:Int):Option (au×Unit):=
 aI (β:=(au×Unit)) (γ:=(Bool×(List Int)×Bool×(List Int)×Unit)) (
  iter (X:=xY) (β:=xX) (Int.natAbs a0+(List.length ([]:List Int)+(List.length ([]:List Int)+2))) (a0,false,[],decide (a0<0),[],()) (rO)) fun v2=>
 some ((v2.2.2.1,v2.2.2.2.1),())
abbrev nC:Type:=Bool×(List Int)×Bool×(List Int)×Unit
abbrev wj:Type:=((au×Unit) ⊕ (Bool×(List Int)×Bool×(List Int)×Unit))
def wh (x1:nC) (again:nC->Option wj):Option wj:=
 bif decide (((x1.2.1.length:Int))>0) then
  Option.bind (idx x1.2.1 (w64 (((x1.2.1.length:Int)) - 1))) fun y2=>
  bif y2==0 then
   chk (decide (0<=(0:Int))&&decide ((0:Int)<=(w64 (((x1.2.1.length:Int)) - 1)))&&decide ((w64 (((x1.2.1.length:Int)) - 1))<=(x1.2.1.length:Int))) <|
   again (x1.1,List.drop 0 (List.take (Int.toNat (w64 (((x1.2.1.length:Int)) - 1))) x1.2.1),x1.2.2.1,x1.2.2.2.1,())
  else
   some (Sum.inr (x1.1,x1.2.1,x1.2.2.1,x1.2.2.2.1,()))
 else
  some (Sum.inr (x1.1,x1.2.1,x1.2.2.1,x1.2.2.2.1,()))
def kX (a0:au):Option (au×Unit):=
 aI (β:=(au×Unit)) (γ:=(Bool×(List Int)×Bool×(List Int)×Unit)) (
  iter (X:=nC) (β:=wj) (a0.2.length+(List.length ([]:List Int)+2)) (a0.1,a0.2,false,[],()) (wh)) fun v3=>
 bif ((v3.2.1.length:Int))==0 then
  some ((false,v3.2.1),())
 else
  some ((v3.1,v3.2.1),())
abbrev q9:Type:=Int×Int×(List Int)×Int×Int×(List Int)×Int×Int×Bool×(List Int)×Bool×(List Int)×Bool×(List Int)×Unit
abbrev q7:Type:=(((au×Unit) ⊕ (Bool×(List Int)×Bool×(List Int)×Unit)) ⊕ ((List Int)×Int×Int×Bool×(List Int)×Bool×(List Int)×Bool×(List Int)×Unit))
def qY (x1:q9) (again:q9->Option q7):Option q7:=
 bif decide (x1.2.2.2.2.2.2.2.1<x1.2.2.2.2.2.2.1) then
  Option.bind (idx x1.2.2.2.2.2.1 x1.2.2.2.2.2.2.2.1) fun y2=>
  chk (decide (0<=(w64 (x1.1+x1.2.2.2.2.2.2.2.1)))&&decide ((w64 (x1.1+x1.2.2.2.2.2.2.2.1))<(x1.2.2.2.2.2.2.2.2.2.2.2.2.2.1.length:Int))) <|
  Option.bind (x1.2.2.2.2.2.2.2.2.2.2.2.2.2.1[(w64 (x1.1+x1.2.2.2.2.2.2.2.1)).toNat]?) fun y3=>
  chk (decide (0<=(w64 (x1.1+x1.2.2.2.2.2.2.2.1)))&&decide ((w64 (x1.1+x1.2.2.2.2.2.2.2.1))<(x1.2.2.2.2.2.2.2.2.2.2.2.2.2.1.length:Int))) <|
  Option.bind (x1.2.2.2.2.2.2.2.2.2.2.2.2.2.1[(w64 (x1.1+x1.2.2.2.2.2.2.2.1)).toNat]?) fun _=>
  chk (decide (0<=(w64 ((w64 (x1.1+x1.2.2.2.2.2.2.2.1))+1)))&&decide ((w64 ((w64 (x1.1+x1.2.2.2.2.2.2.2.1))+1))<(List.length (List.set x1.2.2.2.2.2.2.2.2.2.2.2.2.2.1 (w64 (x1.1+x1.2.2.2.2.2.2.2.1)).toNat (w64 (y3+(w64 (x1.2.1*y2))))):Int))) <|
  Option.bind ((List.set x1.2.2.2.2.2.2.2.2.2.2.2.2.2.1 (w64 (x1.1+x1.2.2.2.2.2.2.2.1)).toNat (w64 (y3+(w64 (x1.2.1*y2)))))[(w64 ((w64 (x1.1+x1.2.2.2.2.2.2.2.1))+1)).toNat]?) fun y4=>
  chk (decide (0<=(w64 (x1.1+x1.2.2.2.2.2.2.2.1)))&&decide ((w64 (x1.1+x1.2.2.2.2.2.2.2.1))<(List.length (List.set x1.2.2.2.2.2.2.2.2.2.2.2.2.2.1 (w64 (x1.1+x1.2.2.2.2.2.2.2.1)).toNat (w64 (y3+(w64 (x1.2.1*y2))))):Int))) <|
  Option.bind ((List.set x1.2.2.2.2.2.2.2.2.2.2.2.2.2.1 (w64 (x1.1+x1.2.2.2.2.2.2.2.1)).toNat (w64 (y3+(w64 (x1.2.1*y2)))))[(w64 (x1.1+x1.2.2.2.2.2.2.2.1)).toNat]?) fun y5=>
  chk (decide (0<=(w64 ((w64 (x1.1+x1.2.2.2.2.2.2.2.1))+1)))&&decide ((w64 ((w64 (x1.1+x1.2.2.2.2.2.2.2.1))+1))<(List.length (List.set x1.2.2.2.2.2.2.2.2.2.2.2.2.2.1 (w64 (x1.1+x1.2.2.2.2.2.2.2.1)).toNat (w64 (y3+(w64 (x1.2.1*y2))))):Int))) <|
  Option.bind ((List.set x1.2.2.2.2.2.2.2.2.2.2.2.2.2.1 (w64 (x1.1+x1.2.2.2.2.2.2.2.1)).toNat (w64 (y3+(w64 (x1.2.1*y2)))))[(w64 ((w64 (x1.1+x1.2.2.2.2.2.2.2.1))+1)).toNat]?) fun _=>
  chk (decide (0<=(w64 (x1.1+x1.2.2.2.2.2.2.2.1)))&&decide ((w64 (x1.1+x1.2.2.2.2.2.2.2.1))<(List.length (List.set (List.set x1.2.2.2.2.2.2.2.2.2.2.2.2.2.1 (w64 (x1.1+x1.2.2.2.2.2.2.2.1)).toNat (w64 (y3+(w64 (x1.2.1*y2))))) (w64 ((w64 (x1.1+x1.2.2.2.2.2.2.2.1))+1)).toNat (w64 (y4+(w64 (Int.tdiv y5 1000000))))):Int))) <|
  Option.bind ((List.set (List.set x1.2.2.2.2.2.2.2.2.2.2.2.2.2.1 (w64 (x1.1+x1.2.2.2.2.2.2.2.1)).toNat (w64 (y3+(w64 (x1.2.1*y2))))) (w64 ((w64 (x1.1+x1.2.2.2.2.2.2.2.1))+1)).toNat (w64 (y4+(w64 (Int.tdiv y5 1000000)))))[(w64 (x1.1+x1.2.2.2.2.2.2.2.1)).toNat]?) fun y6=>
  chk (decide (0<=(w64 (x1.1+x1.2.2.2.2.2.2.2.1)))&&decide ((w64 (x1.1+x1.2.2.2.2.2.2.2.1))<(List.length (List.set (List.set x1.2.2.2.2.2.2.2.2.2.2.2.2.2.1 (w64 (x1.1+x1.2.2.2.2.2.2.2.1)).toNat (w64 (y3+(w64 (x1.2.1*y2))))) (w64 ((w64 (x1.1+x1.2.2.2.2.2.2.2.1))+1)).toNat (w64 (y4+(w64 (Int.tdiv y5 1000000))))):Int))) <|
  Option.bind ((List.set (List.set x1.2.2.2.2.2.2.2.2.2.2.2.2.2.1 (w64 (x1.1+x1.2.2.2.2.2.2.2.1)).toNat (w64 (y3+(w64 (x1.2.1*y2))))) (w64 ((w64 (x1.1+x1.2.2.2.2.2.2.2.1))+1)).toNat (w64 (y4+(w64 (Int.tdiv y5 1000000)))))[(w64 (x1.1+x1.2.2.2.2.2.2.2.1)).toNat]?) fun _=>
  again (x1.1,x1.2.1,x1.2.2.1,x1.2.2.2.1,x1.2.2.2.2.1,x1.2.2.2.2.2.1,x1.2.2.2.2.2.2.1,w64 (x1.2.2.2.2.2.2.2.1+1),x1.2.2.2.2.2.2.2.2.1,x1.2.2.2.2.2.2.2.2.2.1,x1.2.2.2.2.2.2.2.2.2.2.1,x1.2.2.2.2.2.2.2.2.2.2.2.1,x1.2.2.2.2.2.2.2.2.2.2.2.2.1,List.set (List.set (List.set x1.2.2.2.2.2.2.2.2.2.2.2.2.2.1 (w64 (x1.1+x1.2.2.2.2.2.2.2.1)).toNat (w64 (y3+(w64 (x1.2.1*y2))))) (w64 ((w64 (x1.1+x1.2.2.2.2.2.2.2.1))+1)).toNat (w64 (y4+(w64 (Int.tdiv y5 1000000))))) (w64 (x1.1+x1.2.2.2.2.2.2.2.1)).toNat (Int.tmod y6 1000000),())
 else
  some (Sum.inr (x1.2.2.1,x1.2.2.2.1,x1.2.2.2.2.1,x1.2.2.2.2.2.2.2.2.1,x1.2.2.2.2.2.2.2.2.2.1,x1.2.2.2.2.2.2.2.2.2.2.1,x1.2.2.2.2.2.2.2.2.2.2.2.1,x1.2.2.2.2.2.2.2.2.2.2.2.2.1,x1.2.2.2.2.2.2.2.2.2.2.2.2.2.1,()))
abbrev q8:Type:=(List Int)×Int×Int×Bool×(List Int)×Bool×(List Int)×Bool×(List Int)×Unit
abbrev qZ:Type:=((au×Unit) ⊕ (Bool×(List Int)×Bool×(List Int)×Unit))
def qX (x1:q8) (again:q8->Option qZ):Option qZ:=
 bif decide (x1.2.2.1<x1.2.1) then
  Option.bind (idx x1.1 x1.2.2.1) fun y2=>
  aI (β:=((au×Unit) ⊕ (Bool×(List Int)×Bool×(List Int)×Unit))) (γ:=((List Int)×Int×Int×Bool×(List Int)×Bool×(List Int)×Bool×(List Int)×Unit)) (
   iter (X:=q9) (β:=q7) (x1.2.2.1.natAbs+(Int.natAbs y2+(x1.1.length+(x1.2.1.natAbs+(x1.2.2.1.natAbs+(x1.2.2.2.2.1.length+(Int.natAbs ((x1.2.2.2.2.1.length:Int))+(Int.natAbs (0:Int)+(x1.2.2.2.2.1.length+(x1.2.2.2.2.2.2.1.length+(x1.2.2.2.2.2.2.2.2.1.length+2))))))))))) (x1.2.2.1,y2,x1.1,x1.2.1,x1.2.2.1,x1.2.2.2.2.1,(x1.2.2.2.2.1.length:Int),0,x1.2.2.2.1,x1.2.2.2.2.1,x1.2.2.2.2.2.1,x1.2.2.2.2.2.2.1,x1.2.2.2.2.2.2.2.1,x1.2.2.2.2.2.2.2.2.1,()) (qY)) fun v3=>
  again (v3.1,v3.2.1,w64 (v3.2.2.1+1),v3.2.2.2.1,v3.2.2.2.2.1,v3.2.2.2.2.2.1,v3.2.2.2.2.2.2.1,v3.2.2.2.2.2.2.2.1,v3.2.2.2.2.2.2.2.2.1,())
 else
  some (Sum.inr (x1.2.2.2.2.2.1,x1.2.2.2.2.2.2.1,x1.2.2.2.2.2.2.2.1,x1.2.2.2.2.2.2.2.2.1,()))
abbrev qb:Type:=Int×Int×Bool×(List Int)×Bool×(List Int)×Unit
abbrev qa:Type:=((au×Unit) ⊕ (Bool×(List Int)×Bool×(List Int)×Unit))
def p9 (x1:qb) (again:qb->Option qa):Option qa:=
 bif decide (x1.2.1<x1.1) then
  chk (decide (0<=(w64 (x1.2.1+1)))&&decide ((w64 (x1.2.1+1))<(x1.2.2.2.2.2.1.length:Int))) <|
  Option.bind (x1.2.2.2.2.2.1[(w64 (x1.2.1+1)).toNat]?) fun y2=>
  chk (decide (0<=x1.2.1)&&decide (x1.2.1<(x1.2.2.2.2.2.1.length:Int))) <|
  Option.bind (x1.2.2.2.2.2.1[x1.2.1.toNat]?) fun y3=>
  chk (decide (0<=(w64 (x1.2.1+1)))&&decide ((w64 (x1.2.1+1))<(x1.2.2.2.2.2.1.length:Int))) <|
  Option.bind (x1.2.2.2.2.2.1[(w64 (x1.2.1+1)).toNat]?) fun _=>
  chk (decide (0<=x1.2.1)&&decide (x1.2.1<(List.length (List.set x1.2.2.2.2.2.1 (w64 (x1.2.1+1)).toNat (w64 (y2+(w64 (Int.tdiv y3 1000000))))):Int))) <|
  Option.bind ((List.set x1.2.2.2.2.2.1 (w64 (x1.2.1+1)).toNat (w64 (y2+(w64 (Int.tdiv y3 1000000)))))[x1.2.1.toNat]?) fun y4=>
  chk (decide (0<=x1.2.1)&&decide (x1.2.1<(List.length (List.set x1.2.2.2.2.2.1 (w64 (x1.2.1+1)).toNat (w64 (y2+(w64 (Int.tdiv y3 1000000))))):Int))) <|
  Option.bind ((List.set x1.2.2.2.2.2.1 (w64 (x1.2.1+1)).toNat (w64 (y2+(w64 (Int.tdiv y3 1000000)))))[x1.2.1.toNat]?) fun _=>
  again (x1.1,w64 (x1.2.1+1),x1.2.2.1,x1.2.2.2.1,x1.2.2.2.2.1,List.set (List.set x1.2.2.2.2.2.1 (w64 (x1.2.1+1)).toNat (w64 (y2+(w64 (Int.tdiv y3 1000000))))) x1.2.1.toNat (Int.tmod y4 1000000),())
 else
  some (Sum.inr (x1.2.2.1,x1.2.2.2.1,x1.2.2.2.2.1,x1.2.2.2.2.2.1,()))
def p8 (a0:au) (a1:au):Option (au×Unit):=
 let n1:Int:=w64 ((w64 (((a0.2.length:Int))+((a1.2.length:Int))))+1)
 chk (decide (0<=n1)&&decide (n1<=n1)&&decide ((8:Int)*n1<=281474976710656)&&decide (n1<=9223372036854775807)) <|
 aI (β:=(au×Unit)) (γ:=(Bool×(List Int)×Bool×(List Int)×Unit)) (
  iter (X:=q8) (β:=qZ) (a0.2.length+(Int.natAbs ((a0.2.length:Int))+(Int.natAbs (0:Int)+(a1.2.length+(List.length ([]:List Int)+(List.length ((List.replicate (Int.toNat n1) 0):List Int)+2)))))) (a0.2,(a0.2.length:Int),0,a1.1,a1.2,false,[], !(a0.1==a1.1),List.replicate (Int.toNat n1) 0,()) (qX)) fun v14=>
 aI (β:=(au×Unit)) (γ:=(Bool×(List Int)×Bool×(List Int)×Unit)) (
  iter (X:=qb) (β:=qa) (Int.natAbs (w64 (((v14.2.2.2.1.length:Int)) - 1))+(Int.natAbs (0:Int)+(v14.2.1.length+(v14.2.2.2.1.length+2)))) (w64 (((v14.2.2.2.1.length:Int)) - 1),0,v14.1,v14.2.1,v14.2.2.1,v14.2.2.2.1,()) (p9)) fun v21=>
 Option.bind (kX (v21.2.2.1,v21.2.2.2.1)) fun r22=>
 some (r22.1,())
abbrev u5:Type:=Int×Int×Bool×(List Int)×Bool×(List Int)×Unit
abbrev uZ:Type:=((au×Unit) ⊕ (Bool×(List Int)×Bool×(List Int)×Unit))
def uY (x1:u5) (again:u5->Option uZ):Option uZ:=
 bif decide (x1.2.1<x1.1) then
  Option.bind (Ej 10) fun r2=>
  Option.bind (p8 (x1.2.2.2.2.1,x1.2.2.2.2.2.1) r2.1) fun r3=>
  again (x1.1,w64 (x1.2.1+1),x1.2.2.1,x1.2.2.2.1,r3.1.1,r3.1.2,())
 else
  some (Sum.inr (x1.2.2.1,x1.2.2.2.1,x1.2.2.2.2.1,x1.2.2.2.2.2.1,()))
def BG (a0:Int):Option (au×Unit):=
 Option.bind (Ej 1) fun r1=>
 aI (β:=(au×Unit)) (γ:=(Bool×(List Int)×Bool×(List Int)×Unit)) (
  iter (X:=u5) (β:=uZ) (Int.natAbs a0+(Int.natAbs (0:Int)+(List.length ([]:List Int)+(r1.1.2.length+2)))) (a0,0,false,[],r1.1.1,r1.1.2,()) (uY)) fun v5=>
 some ((v5.2.2.1,v5.2.2.2.1),())
def wR (a0:ah) (a1:Int):Option (au×Unit):=
 Option.bind (Ej a0.1) fun r1=>
 Option.bind (BG (w64 (a1 - a0.2))) fun r2=>
 Option.bind (p8 r1.1 r2.1) fun r3=>
 some (r3.1,())
abbrev u7:Type:=(List Int)×(List Int)×Int×Unit
abbrev u6:Type:=((Int×Unit) ⊕ Unit)
def qF (x1:u7) (again:u7->Option u6):Option u6:=
 bif decide (x1.2.2.1>=0) then
  Option.bind (idx x1.1 x1.2.2.1) fun y2=>
  Option.bind (idx x1.2.1 x1.2.2.1) fun y3=>
  bif y2 != y3 then
   Option.bind (idx x1.1 x1.2.2.1) fun y4=>
   Option.bind (idx x1.2.1 x1.2.2.1) fun y5=>
   some (Sum.inl (w64 (y4 - y5),()))
  else
   again (x1.1,x1.2.1,w64 (x1.2.2.1 - 1),())
 else
  some (Sum.inr ())
def BH (a0:List Int) (a1:List Int):Option (Int×Unit):=
 bif ((List.length a0:Int)) != ((List.length a1:Int)) then
  some (w64 (((List.length a0:Int)) - ((List.length a1:Int))),())
 else
  aI (β:=(Int×Unit)) (γ:=Unit) (
   iter (X:=u7) (β:=u6) (List.length a0+(List.length a1+(Int.natAbs (w64 (((List.length a0:Int)) - 1))+2))) (a0,a1,w64 (((List.length a0:Int)) - 1),()) (qF)) fun _=>
  some (0,())
def uA (a0:List Int) (a1:Int):Option (Int×Unit):=
 bif decide (a1<((List.length a0:Int))) then
  Option.bind (idx a0 a1) fun y1=>
  some (y1,())
 else
  some (0,())
abbrev tq:Type:=Int×Int×Int×Bool×(List Int)×Bool×(List Int)×Bool×(List Int)×Bool×(List Int)×Unit
abbrev tj:Type:=((au×Unit) ⊕ (Bool×(List Int)×Bool×(List Int)×Unit))
def th (x1:tq) (again:tq->Option tj):Option tj:=
 bif decide (x1.2.2.1<x1.2.1) then
  Option.bind (idx x1.2.2.2.2.1 x1.2.2.1) fun y2=>
  Option.bind (uA x1.2.2.2.2.2.2.1 x1.2.2.1) fun r3=>
  aI (β:=((au×Unit) ⊕ (Bool×(List Int)×Bool×(List Int)×Unit))) (γ:=(Int×Int×Int×Int×Bool×(List Int)×Bool×(List Int)×Bool×(List Int)×Bool×(List Int)×Unit)) (
   bif decide ((w64 ((w64 (y2 - r3.1)) - x1.1))<0) then
    let n4:Int:=w64 ((w64 ((w64 (y2 - r3.1)) - x1.1))+1000000)
    some (Sum.inr (1,n4,x1.2.1,x1.2.2.1,x1.2.2.2.1,x1.2.2.2.2.1,x1.2.2.2.2.2.1,x1.2.2.2.2.2.2.1,x1.2.2.2.2.2.2.2.1,x1.2.2.2.2.2.2.2.2.1,x1.2.2.2.2.2.2.2.2.2.1,x1.2.2.2.2.2.2.2.2.2.2.1,()))
   else
    some (Sum.inr (0,w64 ((w64 (y2 - r3.1)) - x1.1),x1.2.1,x1.2.2.1,x1.2.2.2.1,x1.2.2.2.2.1,x1.2.2.2.2.2.1,x1.2.2.2.2.2.2.1,x1.2.2.2.2.2.2.2.1,x1.2.2.2.2.2.2.2.2.1,x1.2.2.2.2.2.2.2.2.2.1,x1.2.2.2.2.2.2.2.2.2.2.1,()))) fun v5=>
  chk (decide (((v5.2.2.2.2.2.2.2.2.2.2.2.1.length)+1)*8<=140737488355328)&&decide ((v5.2.2.2.2.2.2.2.2.2.2.2.1.length)+1<=maxLen)) <|
  again (v5.1,v5.2.2.1,w64 (v5.2.2.2.1+1),v5.2.2.2.2.1,v5.2.2.2.2.2.1,v5.2.2.2.2.2.2.1,v5.2.2.2.2.2.2.2.1,v5.2.2.2.2.2.2.2.2.1,v5.2.2.2.2.2.2.2.2.2.1,v5.2.2.2.2.2.2.2.2.2.2.1,v5.2.2.2.2.2.2.2.2.2.2.2.1++[v5.2.1],())
 else
  some (Sum.inr (x1.2.2.2.2.2.2.2.1,x1.2.2.2.2.2.2.2.2.1,x1.2.2.2.2.2.2.2.2.2.1,x1.2.2.2.2.2.2.2.2.2.2.1,()))
abbrev uX:Type:=Int×Int×Int×Bool×(List Int)×Bool×(List Int)×Bool×(List Int)×Bool×(List Int)×Unit
abbrev uW:Type:=((au×Unit) ⊕ (Bool×(List Int)×Bool×(List Int)×Unit))
def uV (x1:uX) (again:uX->Option uW):Option uW:=
 bif decide (x1.2.2.1<x1.2.1) then
  Option.bind (uA x1.2.2.2.2.1 x1.2.2.1) fun r2=>
  Option.bind (uA x1.2.2.2.2.2.2.1 x1.2.2.1) fun r3=>
  let n4:Int:=Int.tmod (w64 ((w64 (r2.1+r3.1))+x1.1)) 1000000
  chk (decide (((x1.2.2.2.2.2.2.2.2.2.2.1.length)+1)*8<=140737488355328)&&decide ((x1.2.2.2.2.2.2.2.2.2.2.1.length)+1<=maxLen)) <|
  let n5:Int:=w64 (Int.tdiv (w64 ((w64 (r2.1+r3.1))+x1.1)) 1000000)
  again (n5,x1.2.1,w64 (x1.2.2.1+1),x1.2.2.2.1,x1.2.2.2.2.1,x1.2.2.2.2.2.1,x1.2.2.2.2.2.2.1,x1.2.2.2.2.2.2.2.1,x1.2.2.2.2.2.2.2.2.1,x1.2.2.2.2.2.2.2.2.2.1,x1.2.2.2.2.2.2.2.2.2.2.1++[n4],())
 else
  some (Sum.inr (x1.2.2.2.2.2.2.2.1,x1.2.2.2.2.2.2.2.2.1,x1.2.2.2.2.2.2.2.2.2.1,x1.2.2.2.2.2.2.2.2.2.2.1,()))
def Ek (a0:au) (a1:au):Option (au×Unit):=
 bif !(a0.1==a1.1) then
  Option.bind (BH a0.2 a1.2) fun r1=>
  aI (β:=(au×Unit)) (γ:=(Bool×(List Int)×Bool×(List Int)×Bool×(List Int)×Unit)) (
   bif decide (r1.1<0) then
    some (Sum.inr (a1.1,a1.2,a0.1,a0.2,false,[],()))
   else
    some (Sum.inr (a0.1,a0.2,a1.1,a1.2,false,[],()))) fun v2=>
  aI (β:=(au×Unit)) (γ:=(Bool×(List Int)×Bool×(List Int)×Unit)) (
   iter (X:=tq) (β:=tj) (Int.natAbs (0:Int)+(Int.natAbs ((v2.2.1.length:Int))+(Int.natAbs (0:Int)+(v2.2.1.length+(v2.2.2.2.1.length+(v2.2.2.2.2.2.1.length+(List.length ([]:List Int)+2))))))) (0,(v2.2.1.length:Int),0,v2.1,v2.2.1,v2.2.2.1,v2.2.2.2.1,v2.2.2.2.2.1,v2.2.2.2.2.2.1,v2.1,[],()) (th)) fun v8=>
  Option.bind (kX (v8.2.2.1,v8.2.2.2.1)) fun r9=>
  some (r9.1,())
 else
  let n10:Int:=w64 ((if ((a1.2.length:Int))>((a0.2.length:Int)) then ((a1.2.length:Int)) else ((a0.2.length:Int)))+1)
  aI (β:=(au×Unit)) (γ:=(Bool×(List Int)×Bool×(List Int)×Unit)) (
   iter (X:=uX) (β:=uW) (Int.natAbs (0:Int)+(Int.natAbs n10+(Int.natAbs (0:Int)+(a0.2.length+(a1.2.length+(List.length ([]:List Int)+(List.length ([]:List Int)+2))))))) (0,n10,0,a0.1,a0.2,a1.1,a1.2,false,[],a0.1,[],()) (uV)) fun v16=>
  Option.bind (kX (v16.2.2.1,v16.2.2.2.1)) fun r17=>
  some (r17.1,())
def BE (a0:au):Option (au×Unit):=
 bif decide (((a0.2.length:Int))>0) then
  some ((!a0.1,a0.2),())
 else
  some (a0,())
def El (a0:au):Option (Int×Unit):=
 bif ((a0.2.length:Int))==0 then
  some (0,())
 else
  bif a0.1 then
   some ((-1),())
  else
   some (1,())
def DB (a0:au) (a1:au):Option (Int×Unit):=
 Option.bind (BE a1) fun r1=>
 Option.bind (Ek a0 r1.1) fun r2=>
 Option.bind (El r2.1) fun r3=>
 some (r3.1,())
end Go.Md
namespace Go.Md
open Go.Dn
def N6 (a0:ah) (a1:ah):Option (Int×Unit):=
 Option.bind (wR a0 9) fun r1=>
 Option.bind (wR a1 9) fun r2=>
 Option.bind (DB r1.1 r2.1) fun r3=>
 some (r3.1,())
end Go.Md
