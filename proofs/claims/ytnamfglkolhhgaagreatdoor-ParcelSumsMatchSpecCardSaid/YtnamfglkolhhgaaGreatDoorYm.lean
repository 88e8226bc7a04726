/-
  The plain models of the functions that the law reaches, first part. No condition.
-/
import Derived.Test.YtnamfglkolhhgaaGreatDoorYd
import Derived.Lib.SlTrimSet
set_option linter.all false
namespace Go.Md
open Go.Dn
def iA (s c:List UInt8):Option (List UInt8×Unit):=
 bif decide (s.length≤9223372036854775807)&&(decide (c.length<4294967281)&&c.all fun b=>decide (b.toNat<128)) then some (Lib.trimS s c,()) else none
abbrev bR:Ty:=(.st (.pair tI tI))
abbrev ak:Type:=Int×Int
abbrev OW:Type:=Int×ak×(List (List UInt8))
abbrev av:Ty:=(.st (.pair .bool (.slice tI)))
abbrev aa:Type:=Bool×(List Int)
abbrev nu:Type:=(List UInt8)×Int×ak×Int×Int×Int
abbrev oN:Type:=nu×Int×Int×Int×Int
abbrev aI:Ty:=(.st (.pair .bool (.slice (.int .u32))))
abbrev an:Type:=Bool×(List Int)
def dQ (a0:List UInt8):Option (Bool×Unit):=
 bif decide (((List.length a0:Int))<1) then
  some (false,())
 else
  bif decide (((List.length a0:Int))>40) then
   some (false,())
  else
   Option.bind (mW a0 0) fun c1=>
   bif decide ((c1.toNat:Int)<97) then
    some (false,())
   else
    Option.bind (mW a0 0) fun c2=>
    bif decide ((c2.toNat:Int)>122) then
     some (false,())
    else
     Option.bind (iA a0 [97,98,99,100,101,102,103,104,105,106,107,108,109,110,111,112,113,114,115,116,117,118,119,120,121,122,48,49,50,51,52,53,54,55,56,57,45]) fun r3=>
     some (r3.1==[],())
def jA (a0:Int) (a1:Int) (a2:Int):Option (Bool×Unit):=
 bif decide (a0<a1) then
  some (true,())
 else
  some (decide (a0>a2),())
def B1 (a0:Int):Option (Bool×Unit):=
 Option.bind (jA a0 1 3652059) fun r1=>
 some (!r1.1,())
def gG (a0:ak):Option (Int×Unit):=
 Option.bind (jA a0.1 (-1000000000000000) 1000000000000000) fun r1=>
 bif r1.1 then
  some (1,())
 else
  Option.bind (jA a0.2 0 9) fun r2=>
  bif r2.1 then
   some (1,())
  else
   some (0,())
abbrev sI:Type:=Int×Int×Int×Unit
abbrev sH:Type:=((Int×Unit) ⊕ (Int×Unit))
def sG (x1:sI) (again:sI→Option sH):Option sH:=
 bif decide (x1.2.2.1<x1.2.1) then
  again (w64 (x1.1*10),x1.2.1,w64 (x1.2.2.1+1),())
 else
  some (Sum.inr (x1.1,()))
def KM (a0:Int):Option (Int×Unit):=
 aX (β:=(Int×Unit)) (γ:=(Int×Unit)) (
  iter (X:=sI) (β:=sH) (Int.natAbs (1:Int)+(Int.natAbs a0+(Int.natAbs (0:Int)+2))) (1,a0,0,()) (sG)) fun v2=>
 some (v2.1,())
abbrev jS:Type:=(List Int)×Unit
abbrev uf:Type:=(((List Int)×Unit) ⊕ ((List Int)×Unit))
def uc (x1:jS) (again:jS→Option uf):Option uf:=
 bif decide (((x1.1.length:Int))>0) then
  Option.bind (idx x1.1 (w64 (((x1.1.length:Int)) - 1))) fun y2=>
  bif y2==0 then
   chk (decide (0≤(0:Int))&&decide ((0:Int)≤(w64 (((x1.1.length:Int)) - 1)))&&decide ((w64 (((x1.1.length:Int)) - 1))≤(x1.1.length:Int))) <|
   again (List.drop 0 (List.take (Int.toNat (w64 (((x1.1.length:Int)) - 1))) x1.1),())
  else
   some (Sum.inr (x1.1,()))
 else
  some (Sum.inr (x1.1,()))
def kU (a0:List Int):Option ((List Int)×Unit):=
 aX (β:=((List Int)×Unit)) (γ:=((List Int)×Unit)) (
  iter (X:=jS) (β:=uf) (List.length a0+2) (a0,()) (uc)) fun v3=>
 some (v3.1,())
def fq (a0:Bool) (a1:List Int):Option (an×Unit):=
 Option.bind (kU a1) fun r1=>
 bif a0 then
  some ((decide (((r1.1.length:Int))>0),r1.1),())
 else
  some ((false,r1.1),())
def mw (a0:Int):Option (an×Unit):=
 aX (β:=(an×Unit)) (γ:=(Int×Int×Bool×(List Int)×Unit)) (
  bif decide (a0<0) then
   some (Sum.inr (a0,bQ (0 - (bQ a0)),false,[],()))
  else
   some (Sum.inr (a0,bQ a0,false,[],()))) fun v1=>
 Option.bind (fq (decide (v1.1<0)) [(iT v1.2.1),(iT (Int.fdiv v1.2.1 (2 ^ 32)))]) fun r2=>
 some (r2.1,())
abbrev qT:Type:=(List Int)×(List Int)×Int×(List Int)×Int×Int×Unit
abbrev qS:Type:=(((List Int)×Unit) ⊕ ((List Int)×Int×Unit))
def qR (x1:qT) (again:qT→Option qS):Option qS:=
 bif decide (x1.2.2.2.2.2.1<x1.2.2.2.2.1) then
  Option.bind (idx x1.2.2.2.1 x1.2.2.2.2.2.1) fun y2=>
  aX (β:=(((List Int)×Unit) ⊕ ((List Int)×Int×Unit))) (γ:=((List Int)×(List Int)×Int×(List Int)×Int×Int×Unit)) (
   bif decide (x1.2.2.2.2.2.1<((x1.1.length:Int))) then
    Option.bind (idx x1.1 x1.2.2.2.2.2.1) fun y3=>
    let n4:Int:=bQ ((bQ (x1.2.2.1+(bQ y2)))+(bQ y3))
    some (Sum.inr (x1.1,x1.2.1,n4,x1.2.2.2.1,x1.2.2.2.2.1,x1.2.2.2.2.2.1,()))
   else
    some (Sum.inr (x1.1,x1.2.1,bQ (x1.2.2.1+(bQ y2)),x1.2.2.2.1,x1.2.2.2.2.1,x1.2.2.2.2.2.1,()))) fun v5=>
  chk (decide (((v5.2.1.length)+1)*4≤140737488355328)&&decide ((v5.2.1.length)+1≤maxLen)) <|
  again (v5.1,v5.2.1++[(iT v5.2.2.1)],Int.fdiv v5.2.2.1 (2 ^ 32),v5.2.2.2.1,v5.2.2.2.2.1,w64 (v5.2.2.2.2.2.1+1),())
 else
  some (Sum.inr (x1.2.1,x1.2.2.1,()))
def yD (a0:List Int) (a1:List Int):Option ((List Int)×Unit):=
 aX (β:=((List Int)×Unit)) (γ:=((List Int)×(List Int)×Unit)) (
  bif decide (((List.length a0:Int))<((List.length a1:Int))) then
   some (Sum.inr (a1,a0,()))
  else
   some (Sum.inr (a0,a1,()))) fun v1=>
 chk (decide (0≤(0:Int))&&decide ((0:Int)≤(w64 (((v1.1.length:Int))+1)))&&decide ((4:Int)*(w64 (((v1.1.length:Int))+1))≤281474976710656)&&decide ((w64 (((v1.1.length:Int))+1))≤9223372036854775807)) <|
 aX (β:=((List Int)×Unit)) (γ:=((List Int)×Int×Unit)) (
  iter (X:=qT) (β:=qS) (v1.2.1.length+(List.length ([]:List Int)+(Int.natAbs (0:Int)+(v1.1.length+(Int.natAbs ((v1.1.length:Int))+(Int.natAbs (0:Int)+2)))))) (v1.2.1,[],0,v1.1,(v1.1.length:Int),0,()) (qR)) fun v7=>
 chk (decide (((v7.1.length)+1)*4≤140737488355328)&&decide ((v7.1.length)+1≤maxLen)) <|
 some (v7.1++[(iT v7.2.1)],())
abbrev ot:Type:=(List Int)×(List Int)×Int×Unit
abbrev oq:Type:=((Int×Unit) ⊕ Unit)
def jR (x1:ot) (again:ot→Option oq):Option oq:=
 bif decide (x1.2.2.1≥0) then
  Option.bind (idx x1.1 x1.2.2.1) fun y2=>
  Option.bind (idx x1.2.1 x1.2.2.1) fun y3=>
  bif y2 != y3 then
   Option.bind (idx x1.1 x1.2.2.1) fun y4=>
   Option.bind (idx x1.2.1 x1.2.2.1) fun y5=>
   bif decide (y4<y5) then
    some (Sum.inl ((-1),()))
   else
    some (Sum.inl (1,()))
  else
   again (x1.1,x1.2.1,w64 (x1.2.2.1 - 1),())
 else
  some (Sum.inr ())
def oM (a0:List Int) (a1:List Int):Option (Int×Unit):=
 bif ((List.length a0:Int)) != ((List.length a1:Int)) then
  some (w64 (((List.length a0:Int)) - ((List.length a1:Int))),())
 else
  aX (β:=(Int×Unit)) (γ:=Unit) (
   iter (X:=ot) (β:=oq) (List.length a0+(List.length a1+(Int.natAbs (w64 (((List.length a0:Int)) - 1))+2))) (a0,a1,w64 (((List.length a0:Int)) - 1),()) (jR)) fun _=>
  some (0,())
abbrev tj:Type:=(List Int)×(List Int)×Int×(List Int)×Int×Int×Unit
abbrev th:Type:=(((List Int)×Unit) ⊕ ((List Int)×Unit))
def tg (x1:tj) (again:tj→Option th):Option th:=
 bif decide (x1.2.2.2.2.2.1<x1.2.2.2.2.1) then
  Option.bind (idx x1.2.2.2.1 x1.2.2.2.2.2.1) fun y2=>
  aX (β:=(((List Int)×Unit) ⊕ ((List Int)×Unit))) (γ:=((List Int)×(List Int)×Int×(List Int)×Int×Int×Unit)) (
   bif decide (x1.2.2.2.2.2.1<((x1.1.length:Int))) then
    Option.bind (idx x1.1 x1.2.2.2.2.2.1) fun y3=>
    let n4:Int:=bQ ((bQ ((bQ y2) - x1.2.2.1)) - (bQ y3))
    some (Sum.inr (x1.1,x1.2.1,n4,x1.2.2.2.1,x1.2.2.2.2.1,x1.2.2.2.2.2.1,()))
   else
    some (Sum.inr (x1.1,x1.2.1,bQ ((bQ y2) - x1.2.2.1),x1.2.2.2.1,x1.2.2.2.2.1,x1.2.2.2.2.2.1,()))) fun v5=>
  chk (decide (((v5.2.1.length)+1)*4≤140737488355328)&&decide ((v5.2.1.length)+1≤maxLen)) <|
  again (v5.1,v5.2.1++[(iT v5.2.2.1)],bQ (((BitVec.ofInt (IntKind.bits .u64) (Int.fdiv v5.2.2.1 (2 ^ 32)) &&& BitVec.ofInt (IntKind.bits .u64) 1).toNat:Int)),v5.2.2.2.1,v5.2.2.2.2.1,w64 (v5.2.2.2.2.2.1+1),())
 else
  some (Sum.inr (x1.2.1,()))
def rI (a0:List Int) (a1:List Int):Option ((List Int)×Unit):=
 chk (decide (0≤(0:Int))&&decide ((0:Int)≤((List.length a0:Int)))&&decide ((4:Int)*((List.length a0:Int))≤281474976710656)&&decide (((List.length a0:Int))≤9223372036854775807)) <|
 aX (β:=((List Int)×Unit)) (γ:=((List Int)×Unit)) (
  iter (X:=tj) (β:=th) (List.length a1+(List.length ([]:List Int)+(Int.natAbs (0:Int)+(List.length a0+(Int.natAbs ((List.length a0:Int))+(Int.natAbs (0:Int)+2)))))) (a1,[],0,a0,(List.length a0:Int),0,()) (tg)) fun v6=>
 Option.bind (kU v6.1) fun r7=>
 some (r7.1,())
abbrev pX:Type:=(List Int)×Int×Bool×(List Int)×Bool×(List Int)×Bool×(List Int)×Bool×(List Int)×(List Int)×Unit
abbrev pW:Type:=((an×an×Unit) ⊕ ((List Int)×Bool×(List Int)×Bool×(List Int)×(List Int)×Unit))
def pV (x1:pX) (again:pX→Option pW):Option pW:=
 bif decide (x1.2.1≥0) then
  Option.bind (yD x1.1 x1.1) fun r2=>
  chk (decide (0≤(0:Int))&&decide ((0:Int)<(r2.1.length:Int))) <|
  Option.bind (r2.1[0]?) fun y3=>
  Option.bind (idx x1.2.2.2.1 (w64 (Int.tdiv x1.2.1 32))) fun y4=>
  chk (decide (0≤(Int.tmod x1.2.1 32))) <|
  let n5:Int:=iT (((BitVec.ofInt (IntKind.bits .u32) (Int.fdiv y4 (2 ^ (min (Int.toNat (Int.tmod x1.2.1 32)) (IntKind.bits .u32)))) &&& BitVec.ofInt (IntKind.bits .u32) 1).toNat:Int))
  chk (decide (0≤(0:Int))&&decide ((0:Int)<(r2.1.length:Int))) <|
  Option.bind (r2.1[0]?) fun _=>
  Option.bind (kU (List.set r2.1 0 (iT (((BitVec.ofInt (IntKind.bits .u32) y3 ||| BitVec.ofInt (IntKind.bits .u32) n5).toNat:Int))))) fun r6=>
  Option.bind (oM r6.1 x1.2.2.2.2.2.1) fun r7=>
  bif decide (r7.1≥0) then
   Option.bind (rI r6.1 x1.2.2.2.2.2.1) fun r8=>
   chk (decide (0≤(w64 (Int.tdiv x1.2.1 32)))&&decide ((w64 (Int.tdiv x1.2.1 32))<(x1.2.2.2.2.2.2.2.2.2.2.1.length:Int))) <|
   Option.bind (x1.2.2.2.2.2.2.2.2.2.2.1[(w64 (Int.tdiv x1.2.1 32)).toNat]?) fun y9=>
   chk (decide (0≤(Int.tmod x1.2.1 32))) <|
   let n10:Int:=iT (((BitVec.ofInt (IntKind.bits .u32) y9 ||| BitVec.ofInt (IntKind.bits .u32) (iT (1*2 ^ (min (Int.toNat (Int.tmod x1.2.1 32)) (IntKind.bits .u32))))).toNat:Int))
   chk (decide (0≤(w64 (Int.tdiv x1.2.1 32)))&&decide ((w64 (Int.tdiv x1.2.1 32))<(x1.2.2.2.2.2.2.2.2.2.2.1.length:Int))) <|
   Option.bind (x1.2.2.2.2.2.2.2.2.2.2.1[(w64 (Int.tdiv x1.2.1 32)).toNat]?) fun _=>
   again (r8.1,w64 (x1.2.1 - 1),x1.2.2.1,x1.2.2.2.1,x1.2.2.2.2.1,x1.2.2.2.2.2.1,x1.2.2.2.2.2.2.1,x1.2.2.2.2.2.2.2.1,x1.2.2.2.2.2.2.2.2.1,x1.2.2.2.2.2.2.2.2.2.1,List.set x1.2.2.2.2.2.2.2.2.2.2.1 (w64 (Int.tdiv x1.2.1 32)).toNat n10,())
  else
   again (r6.1,w64 (x1.2.1 - 1),x1.2.2.1,x1.2.2.2.1,x1.2.2.2.2.1,x1.2.2.2.2.2.1,x1.2.2.2.2.2.2.1,x1.2.2.2.2.2.2.2.1,x1.2.2.2.2.2.2.2.2.1,x1.2.2.2.2.2.2.2.2.2.1,x1.2.2.2.2.2.2.2.2.2.2.1,())
 else
  some (Sum.inr (x1.1,x1.2.2.2.2.2.2.1,x1.2.2.2.2.2.2.2.1,x1.2.2.2.2.2.2.2.2.1,x1.2.2.2.2.2.2.2.2.2.1,x1.2.2.2.2.2.2.2.2.2.2.1,()))
def qO (a0:an) (a1:an):Option (an×an×Unit):=
 chk (decide (0≤((a0.2.length:Int)))&&decide (((a0.2.length:Int))≤((a0.2.length:Int)))&&decide ((4:Int)*((a0.2.length:Int))≤281474976710656)&&decide (((a0.2.length:Int))≤9223372036854775807)) <|
 let n1:Int:=w64 ((w64 (((a0.2.length:Int))*32)) - 1)
 aX (β:=(an×an×Unit)) (γ:=((List Int)×Bool×(List Int)×Bool×(List Int)×(List Int)×Unit)) (
  iter (X:=pX) (β:=pW) (List.length ([]:List Int)+(Int.natAbs n1+(a0.2.length+(a1.2.length+(List.length ([]:List Int)+(List.length ([]:List Int)+(List.length ((List.replicate (Int.toNat ((a0.2.length:Int))) 0):List Int)+2))))))) ([],n1,a0.1,a0.2,a1.1,a1.2,false,[],false,[],List.replicate (Int.toNat ((a0.2.length:Int))) 0,()) (pV)) fun v14=>
 Option.bind (fq false v14.2.2.2.2.2.1) fun r15=>
 Option.bind (fq false v14.1) fun r16=>
 some (r15.1,r16.1,())
def jF (a0:an):Option (Int×Unit):=
 bif a0.1 then
  some ((-1),())
 else
  bif ((a0.2.length:Int))==0 then
   some (0,())
  else
   some (1,())
def pY (a0:an):Option (an×Unit):=
 Option.bind (fq (!a0.1) a0.2) fun r1=>
 some (r1.1,())
abbrev oo:Type:=Int×Int×(List Int)×Int×Int×Bool×(List Int)×Unit
abbrev om:Type:=((Int×Bool×Unit) ⊕ (Int×Int×Bool×(List Int)×Unit))
def og (x1:oo) (again:oo→Option om):Option om:=
 bif decide (x1.2.2.2.2.1<x1.2.2.2.1) then
  Option.bind (idx x1.2.2.1 x1.2.2.2.2.1) fun y2=>
  chk (decide (0≤(w64 (32*x1.2.2.2.2.1)))) <|
  let n3:Int:=bQ ((bQ y2)*2 ^ (min (Int.toNat (w64 (32*x1.2.2.2.2.1))) (IntKind.bits .u64)))
  again (x1.1,bQ (((BitVec.ofInt (IntKind.bits .u64) x1.2.1 ||| BitVec.ofInt (IntKind.bits .u64) n3).toNat:Int)),x1.2.2.1,x1.2.2.2.1,w64 (x1.2.2.2.2.1+1),x1.2.2.2.2.2.1,x1.2.2.2.2.2.2.1,())
 else
  some (Sum.inr (x1.1,x1.2.1,x1.2.2.2.2.2.1,x1.2.2.2.2.2.2.1,()))
def td (a0:an) (a1:Int):Option (Int×Bool×Unit):=
 bif decide (((a0.2.length:Int))>2) then
  some (0,false,())
 else
  aX (β:=(Int×Bool×Unit)) (γ:=(Int×Int×Bool×(List Int)×Unit)) (
   iter (X:=oo) (β:=om) (Int.natAbs a1+(Int.natAbs (0:Int)+(a0.2.length+(Int.natAbs ((a0.2.length:Int))+(Int.natAbs (0:Int)+(a0.2.length+2)))))) (a1,0,a0.2,(a0.2.length:Int),0,a0.1,a0.2,()) (og)) fun v4=>
  bif decide (v4.2.1>(bQ v4.1)) then
   some (0,false,())
  else
   bif v4.2.2.1 then
    some (w64 (0 - (w64 v4.2.1)),true,())
   else
    some (w64 v4.2.1,true,())
def rX (a0:an) (a1:Int):Option (ak×Int×Unit):=
 Option.bind (td a0 1000000000000000) fun r1=>
 bif !r1.2.1 then
  some ((0,0),1,())
 else
  some ((r1.1,a1),0,())
abbrev nD:Type:=Int×Bool×(List Int)×Int×Int×Bool×(List Int)×Unit
abbrev nC:Type:=((ak×Int×Unit) ⊕ (Int×Bool×(List Int)×Int×Int×Unit))
def nB (x1:nD) (again:nD→Option nC):Option nC:=
 bif decide (x1.1>0) then
  Option.bind (qO (x1.2.1,x1.2.2.1) (x1.2.2.2.2.2.1,x1.2.2.2.2.2.2.1)) fun r2=>
  Option.bind (jF r2.2.1) fun r3=>
  bif r3.1 != 0 then
   some (Sum.inr (x1.1,x1.2.1,x1.2.2.1,x1.2.2.2.1,x1.2.2.2.2.1,()))
  else
   Option.bind (jF (x1.2.1,x1.2.2.1)) fun r4=>
   bif decide (r4.1<0) then
    Option.bind (pY r2.1) fun r5=>
    again (w64 (x1.1 - 1),r5.1.1,r5.1.2,x1.2.2.2.1,x1.2.2.2.2.1,x1.2.2.2.2.2.1,x1.2.2.2.2.2.2.1,())
   else
    again (w64 (x1.1 - 1),r2.1.1,r2.1.2,x1.2.2.2.1,x1.2.2.2.2.1,x1.2.2.2.2.2.1,x1.2.2.2.2.2.2.1,())
 else
  some (Sum.inr (x1.1,x1.2.1,x1.2.2.1,x1.2.2.2.1,x1.2.2.2.2.1,()))
def sE (a0:an) (a1:Int):Option (ak×Int×Unit):=
 Option.bind (mw 10) fun r1=>
 aX (β:=(ak×Int×Unit)) (γ:=(Int×Bool×(List Int)×Int×Int×Unit)) (
  iter (X:=nD) (β:=nC) (Int.natAbs a1+(a0.2.length+(Int.natAbs (0:Int)+(Int.natAbs (0:Int)+(r1.1.2.length+2))))) (a1,a0.1,a0.2,0,0,r1.1.1,r1.1.2,()) (nB)) fun v7=>
 Option.bind (rX (v7.2.1,v7.2.2.1) v7.1) fun r8=>
 some (r8.1,r8.2.1,())
abbrev AZ:Type:=Int×Bool×(List Int)×Bool×(List Int)×Unit
abbrev AY:Type:=((aa×Unit) ⊕ (Bool×(List Int)×Bool×(List Int)×Unit))
def tO (x1:AZ) (again:AZ→Option AY):Option AY:=
 bif x1.1 != 0 then
  chk (decide (((x1.2.2.2.2.1.length)+1)*8≤140737488355328)&&decide ((x1.2.2.2.2.1.length)+1≤maxLen)) <|
  again (w64 (Int.tdiv x1.1 1000000),x1.2.1,x1.2.2.1,x1.2.2.2.1,x1.2.2.2.2.1++[(if (w64 (0 - (Int.tmod x1.1 1000000)))>(Int.tmod x1.1 1000000) then (w64 (0 - (Int.tmod x1.1 1000000))) else (Int.tmod x1.1 1000000))],())
 else
  some (Sum.inr (x1.2.1,x1.2.2.1,x1.2.2.2.1,x1.2.2.2.2.1,()))
def vo (a0:Int):Option (aa×Unit):=
 aX (β:=(aa×Unit)) (γ:=(Bool×(List Int)×Bool×(List Int)×Unit)) (
  iter (X:=AZ) (β:=AY) (Int.natAbs a0+(List.length ([]:List Int)+(List.length ([]:List Int)+2))) (a0,false,[],decide (a0<0),[],()) (tO)) fun v2=>
 some ((v2.2.2.1,v2.2.2.2.1),())
abbrev oH:Type:=Bool×(List Int)×Bool×(List Int)×Unit
abbrev ze:Type:=((aa×Unit) ⊕ (Bool×(List Int)×Bool×(List Int)×Unit))
def zb (x1:oH) (again:oH→Option ze):Option ze:=
 bif decide (((x1.2.1.length:Int))>0) then
  Option.bind (idx x1.2.1 (w64 (((x1.2.1.length:Int)) - 1))) fun y2=>
  bif y2==0 then
   chk (decide (0≤(0:Int))&&decide ((0:Int)≤(w64 (((x1.2.1.length:Int)) - 1)))&&decide ((w64 (((x1.2.1.length:Int)) - 1))≤(x1.2.1.length:Int))) <|
   again (x1.1,List.drop 0 (List.take (Int.toNat (w64 (((x1.2.1.length:Int)) - 1))) x1.2.1),x1.2.2.1,x1.2.2.2.1,())
  else
   some (Sum.inr (x1.1,x1.2.1,x1.2.2.1,x1.2.2.2.1,()))
 else
  some (Sum.inr (x1.1,x1.2.1,x1.2.2.1,x1.2.2.2.1,()))
def jq (a0:aa):Option (aa×Unit):=
 aX (β:=(aa×Unit)) (γ:=(Bool×(List Int)×Bool×(List Int)×Unit)) (
  iter (X:=oH) (β:=ze) (a0.2.length+(List.length ([]:List Int)+2)) (a0.1,a0.2,false,[],()) (zb)) fun v3=>
 bif ((v3.2.1.length:Int))==0 then
  some ((false,v3.2.1),())
 else
  some ((v3.1,v3.2.1),())
abbrev s5:Type:=Int×Int×(List Int)×Int×Int×(List Int)×Int×Int×Bool×(List Int)×Bool×(List Int)×Bool×(List Int)×Unit
abbrev sY:Type:=(((aa×Unit) ⊕ (Bool×(List Int)×Bool×(List Int)×Unit)) ⊕ ((List Int)×Int×Int×Bool×(List Int)×Bool×(List Int)×Bool×(List Int)×Unit))
def sW (x1:s5) (again:s5→Option sY):Option sY:=
 bif decide (x1.2.2.2.2.2.2.2.1<x1.2.2.2.2.2.2.1) then
  Option.bind (idx x1.2.2.2.2.2.1 x1.2.2.2.2.2.2.2.1) fun y2=>
  chk (decide (0≤(w64 (x1.1+x1.2.2.2.2.2.2.2.1)))&&decide ((w64 (x1.1+x1.2.2.2.2.2.2.2.1))<(x1.2.2.2.2.2.2.2.2.2.2.2.2.2.1.length:Int))) <|
  Option.bind (x1.2.2.2.2.2.2.2.2.2.2.2.2.2.1[(w64 (x1.1+x1.2.2.2.2.2.2.2.1)).toNat]?) fun y3=>
  chk (decide (0≤(w64 (x1.1+x1.2.2.2.2.2.2.2.1)))&&decide ((w64 (x1.1+x1.2.2.2.2.2.2.2.1))<(x1.2.2.2.2.2.2.2.2.2.2.2.2.2.1.length:Int))) <|
  Option.bind (x1.2.2.2.2.2.2.2.2.2.2.2.2.2.1[(w64 (x1.1+x1.2.2.2.2.2.2.2.1)).toNat]?) fun _=>
  chk (decide (0≤(w64 ((w64 (x1.1+x1.2.2.2.2.2.2.2.1))+1)))&&decide ((w64 ((w64 (x1.1+x1.2.2.2.2.2.2.2.1))+1))<(List.length (List.set x1.2.2.2.2.2.2.2.2.2.2.2.2.2.1 (w64 (x1.1+x1.2.2.2.2.2.2.2.1)).toNat (w64 (y3+(w64 (x1.2.1*y2))))):Int))) <|
  Option.bind ((List.set x1.2.2.2.2.2.2.2.2.2.2.2.2.2.1 (w64 (x1.1+x1.2.2.2.2.2.2.2.1)).toNat (w64 (y3+(w64 (x1.2.1*y2)))))[(w64 ((w64 (x1.1+x1.2.2.2.2.2.2.2.1))+1)).toNat]?) fun y4=>
  chk (decide (0≤(w64 (x1.1+x1.2.2.2.2.2.2.2.1)))&&decide ((w64 (x1.1+x1.2.2.2.2.2.2.2.1))<(List.length (List.set x1.2.2.2.2.2.2.2.2.2.2.2.2.2.1 (w64 (x1.1+x1.2.2.2.2.2.2.2.1)).toNat (w64 (y3+(w64 (x1.2.1*y2))))):Int))) <|
  Option.bind ((List.set x1.2.2.2.2.2.2.2.2.2.2.2.2.2.1 (w64 (x1.1+x1.2.2.2.2.2.2.2.1)).toNat (w64 (y3+(w64 (x1.2.1*y2)))))[(w64 (x1.1+x1.2.2.2.2.2.2.2.1)).toNat]?) fun y5=>
  chk (decide (0≤(w64 ((w64 (x1.1+x1.2.2.2.2.2.2.2.1))+1)))&&decide ((w64 ((w64 (x1.1+x1.2.2.2.2.2.2.2.1))+1))<(List.length (List.set x1.2.2.2.2.2.2.2.2.2.2.2.2.2.1 (w64 (x1.1+x1.2.2.2.2.2.2.2.1)).toNat (w64 (y3+(w64 (x1.2.1*y2))))):Int))) <|
  Option.bind ((List.set x1.2.2.2.2.2.2.2.2.2.2.2.2.2.1 (w64 (x1.1+x1.2.2.2.2.2.2.2.1)).toNat (w64 (y3+(w64 (x1.2.1*y2)))))[(w64 ((w64 (x1.1+x1.2.2.2.2.2.2.2.1))+1)).toNat]?) fun _=>
  chk (decide (0≤(w64 (x1.1+x1.2.2.2.2.2.2.2.1)))&&decide ((w64 (x1.1+x1.2.2.2.2.2.2.2.1))<(List.length (List.set (List.set x1.2.2.2.2.2.2.2.2.2.2.2.2.2.1 (w64 (x1.1+x1.2.2.2.2.2.2.2.1)).toNat (w64 (y3+(w64 (x1.2.1*y2))))) (w64 ((w64 (x1.1+x1.2.2.2.2.2.2.2.1))+1)).toNat (w64 (y4+(w64 (Int.tdiv y5 1000000))))):Int))) <|
  Option.bind ((List.set (List.set x1.2.2.2.2.2.2.2.2.2.2.2.2.2.1 (w64 (x1.1+x1.2.2.2.2.2.2.2.1)).toNat (w64 (y3+(w64 (x1.2.1*y2))))) (w64 ((w64 (x1.1+x1.2.2.2.2.2.2.2.1))+1)).toNat (w64 (y4+(w64 (Int.tdiv y5 1000000)))))[(w64 (x1.1+x1.2.2.2.2.2.2.2.1)).toNat]?) fun y6=>
  chk (decide (0≤(w64 (x1.1+x1.2.2.2.2.2.2.2.1)))&&decide ((w64 (x1.1+x1.2.2.2.2.2.2.2.1))<(List.length (List.set (List.set x1.2.2.2.2.2.2.2.2.2.2.2.2.2.1 (w64 (x1.1+x1.2.2.2.2.2.2.2.1)).toNat (w64 (y3+(w64 (x1.2.1*y2))))) (w64 ((w64 (x1.1+x1.2.2.2.2.2.2.2.1))+1)).toNat (w64 (y4+(w64 (Int.tdiv y5 1000000))))):Int))) <|
  Option.bind ((List.set (List.set x1.2.2.2.2.2.2.2.2.2.2.2.2.2.1 (w64 (x1.1+x1.2.2.2.2.2.2.2.1)).toNat (w64 (y3+(w64 (x1.2.1*y2))))) (w64 ((w64 (x1.1+x1.2.2.2.2.2.2.2.1))+1)).toNat (w64 (y4+(w64 (Int.tdiv y5 1000000)))))[(w64 (x1.1+x1.2.2.2.2.2.2.2.1)).toNat]?) fun _=>
  again (x1.1,x1.2.1,x1.2.2.1,x1.2.2.2.1,x1.2.2.2.2.1,x1.2.2.2.2.2.1,x1.2.2.2.2.2.2.1,w64 (x1.2.2.2.2.2.2.2.1+1),x1.2.2.2.2.2.2.2.2.1,x1.2.2.2.2.2.2.2.2.2.1,x1.2.2.2.2.2.2.2.2.2.2.1,x1.2.2.2.2.2.2.2.2.2.2.2.1,x1.2.2.2.2.2.2.2.2.2.2.2.2.1,List.set (List.set (List.set x1.2.2.2.2.2.2.2.2.2.2.2.2.2.1 (w64 (x1.1+x1.2.2.2.2.2.2.2.1)).toNat (w64 (y3+(w64 (x1.2.1*y2))))) (w64 ((w64 (x1.1+x1.2.2.2.2.2.2.2.1))+1)).toNat (w64 (y4+(w64 (Int.tdiv y5 1000000))))) (w64 (x1.1+x1.2.2.2.2.2.2.2.1)).toNat (Int.tmod y6 1000000),())
 else
  some (Sum.inr (x1.2.2.1,x1.2.2.2.1,x1.2.2.2.2.1,x1.2.2.2.2.2.2.2.2.1,x1.2.2.2.2.2.2.2.2.2.1,x1.2.2.2.2.2.2.2.2.2.2.1,x1.2.2.2.2.2.2.2.2.2.2.2.1,x1.2.2.2.2.2.2.2.2.2.2.2.2.1,x1.2.2.2.2.2.2.2.2.2.2.2.2.2.1,()))
abbrev sZ:Type:=(List Int)×Int×Int×Bool×(List Int)×Bool×(List Int)×Bool×(List Int)×Unit
abbrev sX:Type:=((aa×Unit) ⊕ (Bool×(List Int)×Bool×(List Int)×Unit))
def sV (x1:sZ) (again:sZ→Option sX):Option sX:=
 bif decide (x1.2.2.1<x1.2.1) then
  Option.bind (idx x1.1 x1.2.2.1) fun y2=>
  aX (β:=((aa×Unit) ⊕ (Bool×(List Int)×Bool×(List Int)×Unit))) (γ:=((List Int)×Int×Int×Bool×(List Int)×Bool×(List Int)×Bool×(List Int)×Unit)) (
   iter (X:=s5) (β:=sY) (x1.2.2.1.natAbs+(Int.natAbs y2+(x1.1.length+(x1.2.1.natAbs+(x1.2.2.1.natAbs+(x1.2.2.2.2.1.length+(Int.natAbs ((x1.2.2.2.2.1.length:Int))+(Int.natAbs (0:Int)+(x1.2.2.2.2.1.length+(x1.2.2.2.2.2.2.1.length+(x1.2.2.2.2.2.2.2.2.1.length+2))))))))))) (x1.2.2.1,y2,x1.1,x1.2.1,x1.2.2.1,x1.2.2.2.2.1,(x1.2.2.2.2.1.length:Int),0,x1.2.2.2.1,x1.2.2.2.2.1,x1.2.2.2.2.2.1,x1.2.2.2.2.2.2.1,x1.2.2.2.2.2.2.2.1,x1.2.2.2.2.2.2.2.2.1,()) (sW)) fun v3=>
  again (v3.1,v3.2.1,w64 (v3.2.2.1+1),v3.2.2.2.1,v3.2.2.2.2.1,v3.2.2.2.2.2.1,v3.2.2.2.2.2.2.1,v3.2.2.2.2.2.2.2.1,v3.2.2.2.2.2.2.2.2.1,())
 else
  some (Sum.inr (x1.2.2.2.2.2.1,x1.2.2.2.2.2.2.1,x1.2.2.2.2.2.2.2.1,x1.2.2.2.2.2.2.2.2.1,()))
abbrev rD:Type:=Int×Int×Bool×(List Int)×Bool×(List Int)×Unit
abbrev rC:Type:=((aa×Unit) ⊕ (Bool×(List Int)×Bool×(List Int)×Unit))
def rB (x1:rD) (again:rD→Option rC):Option rC:=
 bif decide (x1.2.1<x1.1) then
  chk (decide (0≤(w64 (x1.2.1+1)))&&decide ((w64 (x1.2.1+1))<(x1.2.2.2.2.2.1.length:Int))) <|
  Option.bind (x1.2.2.2.2.2.1[(w64 (x1.2.1+1)).toNat]?) fun y2=>
  chk (decide (0≤x1.2.1)&&decide (x1.2.1<(x1.2.2.2.2.2.1.length:Int))) <|
  Option.bind (x1.2.2.2.2.2.1[x1.2.1.toNat]?) fun y3=>
  chk (decide (0≤(w64 (x1.2.1+1)))&&decide ((w64 (x1.2.1+1))<(x1.2.2.2.2.2.1.length:Int))) <|
  Option.bind (x1.2.2.2.2.2.1[(w64 (x1.2.1+1)).toNat]?) fun _=>
  chk (decide (0≤x1.2.1)&&decide (x1.2.1<(List.length (List.set x1.2.2.2.2.2.1 (w64 (x1.2.1+1)).toNat (w64 (y2+(w64 (Int.tdiv y3 1000000))))):Int))) <|
  Option.bind ((List.set x1.2.2.2.2.2.1 (w64 (x1.2.1+1)).toNat (w64 (y2+(w64 (Int.tdiv y3 1000000)))))[x1.2.1.toNat]?) fun y4=>
  chk (decide (0≤x1.2.1)&&decide (x1.2.1<(List.length (List.set x1.2.2.2.2.2.1 (w64 (x1.2.1+1)).toNat (w64 (y2+(w64 (Int.tdiv y3 1000000))))):Int))) <|
  Option.bind ((List.set x1.2.2.2.2.2.1 (w64 (x1.2.1+1)).toNat (w64 (y2+(w64 (Int.tdiv y3 1000000)))))[x1.2.1.toNat]?) fun _=>
  again (x1.1,w64 (x1.2.1+1),x1.2.2.1,x1.2.2.2.1,x1.2.2.2.2.1,List.set (List.set x1.2.2.2.2.2.1 (w64 (x1.2.1+1)).toNat (w64 (y2+(w64 (Int.tdiv y3 1000000))))) x1.2.1.toNat (Int.tmod y4 1000000),())
 else
  some (Sum.inr (x1.2.2.1,x1.2.2.2.1,x1.2.2.2.2.1,x1.2.2.2.2.2.1,()))
def lS (a0:aa) (a1:aa):Option (aa×Unit):=
 let n1:Int:=w64 ((w64 (((a0.2.length:Int))+((a1.2.length:Int))))+1)
 chk (decide (0≤n1)&&decide (n1≤n1)&&decide ((8:Int)*n1≤281474976710656)&&decide (n1≤9223372036854775807)) <|
 aX (β:=(aa×Unit)) (γ:=(Bool×(List Int)×Bool×(List Int)×Unit)) (
  iter (X:=sZ) (β:=sX) (a0.2.length+(Int.natAbs ((a0.2.length:Int))+(Int.natAbs (0:Int)+(a1.2.length+(List.length ([]:List Int)+(List.length ((List.replicate (Int.toNat n1) 0):List Int)+2)))))) (a0.2,(a0.2.length:Int),0,a1.1,a1.2,false,[], !(a0.1==a1.1),List.replicate (Int.toNat n1) 0,()) (sV)) fun v14=>
 aX (β:=(aa×Unit)) (γ:=(Bool×(List Int)×Bool×(List Int)×Unit)) (
  iter (X:=rD) (β:=rC) (Int.natAbs (w64 (((v14.2.2.2.1.length:Int)) - 1))+(Int.natAbs (0:Int)+(v14.2.1.length+(v14.2.2.2.1.length+2)))) (w64 (((v14.2.2.2.1.length:Int)) - 1),0,v14.1,v14.2.1,v14.2.2.1,v14.2.2.2.1,()) (rB)) fun v21=>
 Option.bind (jq (v21.2.2.1,v21.2.2.2.1)) fun r22=>
 some (r22.1,())
abbrev xM:Type:=Int×Int×Bool×(List Int)×Bool×(List Int)×Unit
abbrev xL:Type:=((aa×Unit) ⊕ (Bool×(List Int)×Bool×(List Int)×Unit))
def xK (x1:xM) (again:xM→Option xL):Option xL:=
 bif decide (x1.2.1<x1.1) then
  Option.bind (vo 10) fun r2=>
  Option.bind (lS (x1.2.2.2.2.1,x1.2.2.2.2.2.1) r2.1) fun r3=>
  again (x1.1,w64 (x1.2.1+1),x1.2.2.1,x1.2.2.2.1,r3.1.1,r3.1.2,())
 else
  some (Sum.inr (x1.2.2.1,x1.2.2.2.1,x1.2.2.2.2.1,x1.2.2.2.2.2.1,()))
def A0 (a0:Int):Option (aa×Unit):=
 Option.bind (vo 1) fun r1=>
 aX (β:=(aa×Unit)) (γ:=(Bool×(List Int)×Bool×(List Int)×Unit)) (
  iter (X:=xM) (β:=xL) (Int.natAbs a0+(Int.natAbs (0:Int)+(List.length ([]:List Int)+(r1.1.2.length+2)))) (a0,0,false,[],r1.1.1,r1.1.2,()) (xK)) fun v5=>
 some ((v5.2.2.1,v5.2.2.2.1),())
def xG (a0:ak) (a1:Int):Option (aa×Unit):=
 Option.bind (vo a0.1) fun r1=>
 Option.bind (A0 (w64 (a1 - a0.2))) fun r2=>
 Option.bind (lS r1.1 r2.1) fun r3=>
 some (r3.1,())
abbrev xP:Type:=(List Int)×(List Int)×Int×Unit
abbrev xO:Type:=((Int×Unit) ⊕ Unit)
def su (x1:xP) (again:xP→Option xO):Option xO:=
 bif decide (x1.2.2.1≥0) then
  Option.bind (idx x1.1 x1.2.2.1) fun y2=>
  Option.bind (idx x1.2.1 x1.2.2.1) fun y3=>
  bif y2 != y3 then
   Option.bind (idx x1.1 x1.2.2.1) fun y4=>
   Option.bind (idx x1.2.1 x1.2.2.1) fun y5=>
   some (Sum.inl (w64 (y4 - y5),()))
  else
   again (x1.1,x1.2.1,w64 (x1.2.2.1 - 1),())
 else
  some (Sum.inr ())
def wM (a0:List Int) (a1:List Int):Option (Int×Unit):=
 bif ((List.length a0:Int)) != ((List.length a1:Int)) then
  some (w64 (((List.length a0:Int)) - ((List.length a1:Int))),())
 else
  aX (β:=(Int×Unit)) (γ:=Unit) (
   iter (X:=xP) (β:=xO) (List.length a0+(List.length a1+(Int.natAbs (w64 (((List.length a0:Int)) - 1))+2))) (a0,a1,w64 (((List.length a0:Int)) - 1),()) (su)) fun _=>
  some (0,())
def wK (a0:List Int) (a1:Int):Option (Int×Unit):=
 bif decide (a1<((List.length a0:Int))) then
  Option.bind (idx a0 a1) fun y1=>
  some (y1,())
 else
  some (0,())
abbrev vr:Type:=Int×Int×Int×Bool×(List Int)×Bool×(List Int)×Bool×(List Int)×Bool×(List Int)×Unit
abbrev vq:Type:=((aa×Unit) ⊕ (Bool×(List Int)×Bool×(List Int)×Unit))
def vp (x1:vr) (again:vr→Option vq):Option vq:=
 bif decide (x1.2.2.1<x1.2.1) then
  Option.bind (idx x1.2.2.2.2.1 x1.2.2.1) fun y2=>
  Option.bind (wK x1.2.2.2.2.2.2.1 x1.2.2.1) fun r3=>
  aX (β:=((aa×Unit) ⊕ (Bool×(List Int)×Bool×(List Int)×Unit))) (γ:=(Int×Int×Int×Int×Bool×(List Int)×Bool×(List Int)×Bool×(List Int)×Bool×(List Int)×Unit)) (
   bif decide ((w64 ((w64 (y2 - r3.1)) - x1.1))<0) then
    let n4:Int:=w64 ((w64 ((w64 (y2 - r3.1)) - x1.1))+1000000)
    some (Sum.inr (1,n4,x1.2.1,x1.2.2.1,x1.2.2.2.1,x1.2.2.2.2.1,x1.2.2.2.2.2.1,x1.2.2.2.2.2.2.1,x1.2.2.2.2.2.2.2.1,x1.2.2.2.2.2.2.2.2.1,x1.2.2.2.2.2.2.2.2.2.1,x1.2.2.2.2.2.2.2.2.2.2.1,()))
   else
    some (Sum.inr (0,w64 ((w64 (y2 - r3.1)) - x1.1),x1.2.1,x1.2.2.1,x1.2.2.2.1,x1.2.2.2.2.1,x1.2.2.2.2.2.1,x1.2.2.2.2.2.2.1,x1.2.2.2.2.2.2.2.1,x1.2.2.2.2.2.2.2.2.1,x1.2.2.2.2.2.2.2.2.2.1,x1.2.2.2.2.2.2.2.2.2.2.1,()))) fun v5=>
  chk (decide (((v5.2.2.2.2.2.2.2.2.2.2.2.1.length)+1)*8≤140737488355328)&&decide ((v5.2.2.2.2.2.2.2.2.2.2.2.1.length)+1≤maxLen)) <|
  again (v5.1,v5.2.2.1,w64 (v5.2.2.2.1+1),v5.2.2.2.2.1,v5.2.2.2.2.2.1,v5.2.2.2.2.2.2.1,v5.2.2.2.2.2.2.2.1,v5.2.2.2.2.2.2.2.2.1,v5.2.2.2.2.2.2.2.2.2.1,v5.2.2.2.2.2.2.2.2.2.2.1,v5.2.2.2.2.2.2.2.2.2.2.2.1++[v5.2.1],())
 else
  some (Sum.inr (x1.2.2.2.2.2.2.2.1,x1.2.2.2.2.2.2.2.2.1,x1.2.2.2.2.2.2.2.2.2.1,x1.2.2.2.2.2.2.2.2.2.2.1,()))
abbrev xJ:Type:=Int×Int×Int×Bool×(List Int)×Bool×(List Int)×Bool×(List Int)×Bool×(List Int)×Unit
abbrev xI:Type:=((aa×Unit) ⊕ (Bool×(List Int)×Bool×(List Int)×Unit))
def xH (x1:xJ) (again:xJ→Option xI):Option xI:=
 bif decide (x1.2.2.1<x1.2.1) then
  Option.bind (wK x1.2.2.2.2.1 x1.2.2.1) fun r2=>
  Option.bind (wK x1.2.2.2.2.2.2.1 x1.2.2.1) fun r3=>
  let n4:Int:=Int.tmod (w64 ((w64 (r2.1+r3.1))+x1.1)) 1000000
  chk (decide (((x1.2.2.2.2.2.2.2.2.2.2.1.length)+1)*8≤140737488355328)&&decide ((x1.2.2.2.2.2.2.2.2.2.2.1.length)+1≤maxLen)) <|
  let n5:Int:=w64 (Int.tdiv (w64 ((w64 (r2.1+r3.1))+x1.1)) 1000000)
  again (n5,x1.2.1,w64 (x1.2.2.1+1),x1.2.2.2.1,x1.2.2.2.2.1,x1.2.2.2.2.2.1,x1.2.2.2.2.2.2.1,x1.2.2.2.2.2.2.2.1,x1.2.2.2.2.2.2.2.2.1,x1.2.2.2.2.2.2.2.2.2.1,x1.2.2.2.2.2.2.2.2.2.2.1++[n4],())
 else
  some (Sum.inr (x1.2.2.2.2.2.2.2.1,x1.2.2.2.2.2.2.2.2.1,x1.2.2.2.2.2.2.2.2.2.1,x1.2.2.2.2.2.2.2.2.2.2.1,()))
def rA (a0:aa) (a1:aa):Option (aa×Unit):=
 bif !(a0.1==a1.1) then
  Option.bind (wM a0.2 a1.2) fun r1=>
  aX (β:=(aa×Unit)) (γ:=(Bool×(List Int)×Bool×(List Int)×Bool×(List Int)×Unit)) (
   bif decide (r1.1<0) then
    some (Sum.inr (a1.1,a1.2,a0.1,a0.2,false,[],()))
   else
    some (Sum.inr (a0.1,a0.2,a1.1,a1.2,false,[],()))) fun v2=>
  aX (β:=(aa×Unit)) (γ:=(Bool×(List Int)×Bool×(List Int)×Unit)) (
   iter (X:=vr) (β:=vq) (Int.natAbs (0:Int)+(Int.natAbs ((v2.2.1.length:Int))+(Int.natAbs (0:Int)+(v2.2.1.length+(v2.2.2.2.1.length+(v2.2.2.2.2.2.1.length+(List.length ([]:List Int)+2))))))) (0,(v2.2.1.length:Int),0,v2.1,v2.2.1,v2.2.2.1,v2.2.2.2.1,v2.2.2.2.2.1,v2.2.2.2.2.2.1,v2.1,[],()) (vp)) fun v8=>
  Option.bind (jq (v8.2.2.1,v8.2.2.2.1)) fun r9=>
  some (r9.1,())
 else
  let n10:Int:=w64 ((if ((a1.2.length:Int))>((a0.2.length:Int)) then ((a1.2.length:Int)) else ((a0.2.length:Int)))+1)
  aX (β:=(aa×Unit)) (γ:=(Bool×(List Int)×Bool×(List Int)×Unit)) (
   iter (X:=xJ) (β:=xI) (Int.natAbs (0:Int)+(Int.natAbs n10+(Int.natAbs (0:Int)+(a0.2.length+(a1.2.length+(List.length ([]:List Int)+(List.length ([]:List Int)+2))))))) (0,n10,0,a0.1,a0.2,a1.1,a1.2,false,[],a0.1,[],()) (xH)) fun v16=>
  Option.bind (jq (v16.2.2.1,v16.2.2.2.1)) fun r17=>
  some (r17.1,())
def AX (a0:aa):Option (aa×Unit):=
 bif decide (((a0.2.length:Int))>0) then
  some ((!a0.1,a0.2),())
 else
  some (a0,())
def wJ (a0:aa):Option (Int×Unit):=
 bif ((a0.2.length:Int))==0 then
  some (0,())
 else
  bif a0.1 then
   some ((-1),())
  else
   some (1,())
def DE (a0:aa) (a1:aa):Option (Int×Unit):=
 Option.bind (AX a1) fun r1=>
 Option.bind (rA a0 r1.1) fun r2=>
 Option.bind (wJ r2.1) fun r3=>
 some (r3.1,())
end Go.Md
namespace Go.Md
open Go.Dn
abbrev A3:Type:=(List UInt8)×Int×Int×Unit
abbrev A2:Type:=((Bool×Unit) ⊕ Unit)
def vz (x1:A3) (again:A3→Option A2):Option A2:=
 bif decide (x1.2.2.1<x1.2.1) then
  Option.bind (mW x1.1 x1.2.2.1) fun c2=>
  bif decide ((c2.toNat:Int)<97) then
   bif decide ((c2.toNat:Int)<48) then
    bif (c2.toNat:Int) != 45 then
     some (Sum.inl (false,()))
    else
     again (x1.1,x1.2.1,w64 (x1.2.2.1+1),())
   else
    bif decide ((c2.toNat:Int)>57) then
     bif (c2.toNat:Int) != 45 then
      some (Sum.inl (false,()))
     else
      again (x1.1,x1.2.1,w64 (x1.2.2.1+1),())
    else
     again (x1.1,x1.2.1,w64 (x1.2.2.1+1),())
  else
   bif decide ((c2.toNat:Int)>122) then
    bif decide ((c2.toNat:Int)<48) then
     bif (c2.toNat:Int) != 45 then
      some (Sum.inl (false,()))
     else
      again (x1.1,x1.2.1,w64 (x1.2.2.1+1),())
    else
     bif decide ((c2.toNat:Int)>57) then
      bif (c2.toNat:Int) != 45 then
       some (Sum.inl (false,()))
      else
       again (x1.1,x1.2.1,w64 (x1.2.2.1+1),())
     else
      again (x1.1,x1.2.1,w64 (x1.2.2.1+1),())
   else
    again (x1.1,x1.2.1,w64 (x1.2.2.1+1),())
 else
  some (Sum.inr ())
def HE (a0:List UInt8):Option (Bool×Unit):=
 bif a0==[] then
  some (false,())
 else
  bif decide (((List.length a0:Int))>40) then
   some (false,())
  else
   Option.bind (mW a0 0) fun c1=>
   bif decide ((c1.toNat:Int)<97) then
    some (false,())
   else
    Option.bind (mW a0 0) fun c2=>
    bif decide ((c2.toNat:Int)>122) then
     some (false,())
    else
     aX (β:=(Bool×Unit)) (γ:=Unit) (
      iter (X:=A3) (β:=A2) (List.length a0+(Int.natAbs ((List.length a0:Int))+(Int.natAbs (0:Int)+2))) (a0,(List.length a0:Int),0,()) (vz)) fun _=>
     some (true,())
def lR (a0:List UInt8):Option (Bool×Unit):=
 Option.bind (HE a0) fun r1=>
 some (r1.1,())
def nr (a0:Int) (a1:Int) (a2:Int):Option (Bool×Unit):=
 bif decide (a1≤a0) then
  some (decide (a0≤a2),())
 else
  some (false,())
def Kt (a0:Int):Option (Bool×Unit):=
 Option.bind (nr a0 1 3652059) fun r1=>
 some (r1.1,())
def EP (a0:Int):Option (Bool×Unit):=
 Option.bind (Kt a0) fun r1=>
 some (r1.1,())
def lQ (a0:ak):Option (Int×Unit):=
 Option.bind (nr a0.1 (-1000000000000000) 1000000000000000) fun r1=>
 bif !r1.1 then
  some (1,())
 else
  Option.bind (nr a0.2 0 9) fun r2=>
  bif !r2.1 then
   some (1,())
  else
   some (0,())
def Uf (a0:ak) (a1:ak):Option (Int×Unit):=
 Option.bind (xG a0 9) fun r1=>
 Option.bind (xG a1 9) fun r2=>
 Option.bind (DE r1.1 r2.1) fun r3=>
 some (r3.1,())
end Go.Md
