/-
  The plain models of the functions that the law reaches, first part. No condition.
-/
import Derived.Test.YtfeonoiibclkiabGreatDoorYd
import Derived.Lib.SlTrimSet
set_option linter.all false
namespace Go.Md
open Go.Dn
def ou (s c:List UInt8):Option (List UInt8×Unit):=
 bif decide (s.length≤9223372036854775807)&&(decide (c.length<4294967281)&&c.all fun b=>decide (b.toNat<128)) then some (Lib.trimS s c,()) else none
abbrev cz:Ty:=(.st (.pair tI tI))
abbrev az:Type:=Int×Int
abbrev L7:Type:=Int×az×(List (List UInt8))
abbrev BL:Type:=Bool×(List Int)
abbrev oI:Type:=(List UInt8)×Int×az×Int×Int×Int
abbrev qA:Type:=oI×Int×Int×Int×Int
abbrev aA:Ty:=(.st (.pair .bool (.slice (.int .u32))))
abbrev ai:Type:=Bool×(List Int)
def gp (a0:List UInt8):Option (Bool×Unit):=
 bif decide (((List.length a0:Int))<1) then
  some (false,())
 else
  bif decide (((List.length a0:Int))>40) then
   some (false,())
  else
   Option.bind (yB a0 0) fun c1=>
   bif decide ((c1.toNat:Int)<97) then
    some (false,())
   else
    Option.bind (yB a0 0) fun c2=>
    bif decide ((c2.toNat:Int)>122) then
     some (false,())
    else
     Option.bind (ou a0 [97,98,99,100,101,102,103,104,105,106,107,108,109,110,111,112,113,114,115,116,117,118,119,120,121,122,48,49,50,51,52,53,54,55,56,57,45]) fun r3=>
     some (r3.1==[],())
def kM (a0:Int) (a1:Int) (a2:Int):Option (Bool×Unit):=
 bif decide (a0<a1) then
  some (true,())
 else
  some (decide (a0>a2),())
def Ba (a0:Int):Option (Bool×Unit):=
 Option.bind (kM a0 1 3652059) fun r1=>
 some (!r1.1,())
def iF (a0:az):Option (Int×Unit):=
 Option.bind (kM a0.1 (-1000000000000000) 1000000000000000) fun r1=>
 bif r1.1 then
  some (1,())
 else
  Option.bind (kM a0.2 0 9) fun r2=>
  bif r2.1 then
   some (1,())
  else
   some (0,())
abbrev uq:Type:=Int×Int×Int×Unit
abbrev uo:Type:=((Int×Unit) ⊕ (Int×Unit))
def um (x1:uq) (again:uq→Option uo):Option uo:=
 bif decide (x1.2.2.1<x1.2.1) then
  again (w64 (x1.1*10),x1.2.1,w64 (x1.2.2.1+1),())
 else
  some (Sum.inr (x1.1,()))
def I2 (a0:Int):Option (Int×Unit):=
 aW (β:=(Int×Unit)) (γ:=(Int×Unit)) (
  iter (X:=uq) (β:=uo) (Int.natAbs (1:Int)+(Int.natAbs a0+(Int.natAbs (0:Int)+2))) (1,a0,0,()) (um)) fun v2=>
 some (v2.1,())
abbrev lC:Type:=(List Int)×Unit
abbrev vg:Type:=(((List Int)×Unit) ⊕ ((List Int)×Unit))
def ve (x1:lC) (again:lC→Option vg):Option vg:=
 bif decide (((x1.1.length:Int))>0) then
  Option.bind (idx x1.1 (w64 (((x1.1.length:Int)) - 1))) fun y2=>
  bif y2==0 then
   chk (decide (0≤(0:Int))&&decide ((0:Int)≤(w64 (((x1.1.length:Int)) - 1)))&&decide ((w64 (((x1.1.length:Int)) - 1))≤(x1.1.length:Int))) <|
   again (List.drop 0 (List.take (Int.toNat (w64 (((x1.1.length:Int)) - 1))) x1.1),())
  else
   some (Sum.inr (x1.1,()))
 else
  some (Sum.inr (x1.1,()))
def mz (a0:List Int):Option ((List Int)×Unit):=
 aW (β:=((List Int)×Unit)) (γ:=((List Int)×Unit)) (
  iter (X:=lC) (β:=vg) (List.length a0+2) (a0,()) (ve)) fun v3=>
 some (v3.1,())
def gw (a0:Bool) (a1:List Int):Option (ai×Unit):=
 Option.bind (mz a1) fun r1=>
 bif a0 then
  some ((decide (((r1.1.length:Int))>0),r1.1),())
 else
  some ((false,r1.1),())
def nG (a0:Int):Option (ai×Unit):=
 aW (β:=(ai×Unit)) (γ:=(Int×Int×Bool×(List Int)×Unit)) (
  bif decide (a0<0) then
   some (Sum.inr (a0,bI (0 - (bI a0)),false,[],()))
  else
   some (Sum.inr (a0,bI a0,false,[],()))) fun v1=>
 Option.bind (gw (decide (v1.1<0)) [(jJ v1.2.1),(jJ (Int.fdiv v1.2.1 (2 ^ 32)))]) fun r2=>
 some (r2.1,())
abbrev sL:Type:=(List Int)×(List Int)×Int×(List Int)×Int×Int×Unit
abbrev sK:Type:=(((List Int)×Unit) ⊕ ((List Int)×Int×Unit))
def sJ (x1:sL) (again:sL→Option sK):Option sK:=
 bif decide (x1.2.2.2.2.2.1<x1.2.2.2.2.1) then
  Option.bind (idx x1.2.2.2.1 x1.2.2.2.2.2.1) fun y2=>
  aW (β:=(((List Int)×Unit) ⊕ ((List Int)×Int×Unit))) (γ:=((List Int)×(List Int)×Int×(List Int)×Int×Int×Unit)) (
   bif decide (x1.2.2.2.2.2.1<((x1.1.length:Int))) then
    Option.bind (idx x1.1 x1.2.2.2.2.2.1) fun y3=>
    let n4:Int:=bI ((bI (x1.2.2.1+(bI y2)))+(bI y3))
    some (Sum.inr (x1.1,x1.2.1,n4,x1.2.2.2.1,x1.2.2.2.2.1,x1.2.2.2.2.2.1,()))
   else
    some (Sum.inr (x1.1,x1.2.1,bI (x1.2.2.1+(bI y2)),x1.2.2.2.1,x1.2.2.2.2.1,x1.2.2.2.2.2.1,()))) fun v5=>
  chk (decide (((v5.2.1.length)+1)*4≤140737488355328)&&decide ((v5.2.1.length)+1≤maxLen)) <|
  again (v5.1,v5.2.1++[(jJ v5.2.2.1)],Int.fdiv v5.2.2.1 (2 ^ 32),v5.2.2.2.1,v5.2.2.2.2.1,w64 (v5.2.2.2.2.2.1+1),())
 else
  some (Sum.inr (x1.2.1,x1.2.2.1,()))
def yf (a0:List Int) (a1:List Int):Option ((List Int)×Unit):=
 aW (β:=((List Int)×Unit)) (γ:=((List Int)×(List Int)×Unit)) (
  bif decide (((List.length a0:Int))<((List.length a1:Int))) then
   some (Sum.inr (a1,a0,()))
  else
   some (Sum.inr (a0,a1,()))) fun v1=>
 chk (decide (0≤(0:Int))&&decide ((0:Int)≤(w64 (((v1.1.length:Int))+1)))&&decide ((4:Int)*(w64 (((v1.1.length:Int))+1))≤281474976710656)&&decide ((w64 (((v1.1.length:Int))+1))≤9223372036854775807)) <|
 aW (β:=((List Int)×Unit)) (γ:=((List Int)×Int×Unit)) (
  iter (X:=sL) (β:=sK) (v1.2.1.length+(List.length ([]:List Int)+(Int.natAbs (0:Int)+(v1.1.length+(Int.natAbs ((v1.1.length:Int))+(Int.natAbs (0:Int)+2)))))) (v1.2.1,[],0,v1.1,(v1.1.length:Int),0,()) (sJ)) fun v7=>
 chk (decide (((v7.1.length)+1)*4≤140737488355328)&&decide ((v7.1.length)+1≤maxLen)) <|
 some (v7.1++[(jJ v7.2.1)],())
abbrev qb:Type:=(List Int)×(List Int)×Int×Unit
abbrev qa:Type:=((Int×Unit) ⊕ Unit)
def lB (x1:qb) (again:qb→Option qa):Option qa:=
 bif decide (x1.2.2.1≥0) then
  Option.bind (idx x1.1 x1.2.2.1) fun y2=>
  Option.bind (idx x1.2.1 x1.2.2.1) fun y3=>
  bif y2 != y3 then
   Option.bind (idx x1.1 x1.2.2.1) fun y4=>
   Option.bind (idx x1.2.1 x1.2.2.1) fun y5=>
   bif decide (y4<y5) then
    some (Sum.inl ((-1),()))
   else
    some (Sum.inl (1,()))
  else
   again (x1.1,x1.2.1,w64 (x1.2.2.1 - 1),())
 else
  some (Sum.inr ())
def qz (a0:List Int) (a1:List Int):Option (Int×Unit):=
 bif ((List.length a0:Int)) != ((List.length a1:Int)) then
  some (w64 (((List.length a0:Int)) - ((List.length a1:Int))),())
 else
  aW (β:=(Int×Unit)) (γ:=Unit) (
   iter (X:=qb) (β:=qa) (List.length a0+(List.length a1+(Int.natAbs (w64 (((List.length a0:Int)) - 1))+2))) (a0,a1,w64 (((List.length a0:Int)) - 1),()) (lB)) fun _=>
  some (0,())
abbrev uJ:Type:=(List Int)×(List Int)×Int×(List Int)×Int×Int×Unit
abbrev uI:Type:=(((List Int)×Unit) ⊕ ((List Int)×Unit))
def uH (x1:uJ) (again:uJ→Option uI):Option uI:=
 bif decide (x1.2.2.2.2.2.1<x1.2.2.2.2.1) then
  Option.bind (idx x1.2.2.2.1 x1.2.2.2.2.2.1) fun y2=>
  aW (β:=(((List Int)×Unit) ⊕ ((List Int)×Unit))) (γ:=((List Int)×(List Int)×Int×(List Int)×Int×Int×Unit)) (
   bif decide (x1.2.2.2.2.2.1<((x1.1.length:Int))) then
    Option.bind (idx x1.1 x1.2.2.2.2.2.1) fun y3=>
    let n4:Int:=bI ((bI ((bI y2) - x1.2.2.1)) - (bI y3))
    some (Sum.inr (x1.1,x1.2.1,n4,x1.2.2.2.1,x1.2.2.2.2.1,x1.2.2.2.2.2.1,()))
   else
    some (Sum.inr (x1.1,x1.2.1,bI ((bI y2) - x1.2.2.1),x1.2.2.2.1,x1.2.2.2.2.1,x1.2.2.2.2.2.1,()))) fun v5=>
  chk (decide (((v5.2.1.length)+1)*4≤140737488355328)&&decide ((v5.2.1.length)+1≤maxLen)) <|
  again (v5.1,v5.2.1++[(jJ v5.2.2.1)],bI (((BitVec.ofInt (IntKind.bits .u64) (Int.fdiv v5.2.2.1 (2 ^ 32)) &&& BitVec.ofInt (IntKind.bits .u64) 1).toNat:Int)),v5.2.2.2.1,v5.2.2.2.2.1,w64 (v5.2.2.2.2.2.1+1),())
 else
  some (Sum.inr (x1.2.1,()))
def s5 (a0:List Int) (a1:List Int):Option ((List Int)×Unit):=
 chk (decide (0≤(0:Int))&&decide ((0:Int)≤((List.length a0:Int)))&&decide ((4:Int)*((List.length a0:Int))≤281474976710656)&&decide (((List.length a0:Int))≤9223372036854775807)) <|
 aW (β:=((List Int)×Unit)) (γ:=((List Int)×Unit)) (
  iter (X:=uJ) (β:=uI) (List.length a1+(List.length ([]:List Int)+(Int.natAbs (0:Int)+(List.length a0+(Int.natAbs ((List.length a0:Int))+(Int.natAbs (0:Int)+2)))))) (a1,[],0,a0,(List.length a0:Int),0,()) (uH)) fun v6=>
 Option.bind (mz v6.1) fun r7=>
 some (r7.1,())
abbrev rI:Type:=(List Int)×Int×Bool×(List Int)×Bool×(List Int)×Bool×(List Int)×Bool×(List Int)×(List Int)×Unit
abbrev rH:Type:=((ai×ai×Unit) ⊕ ((List Int)×Bool×(List Int)×Bool×(List Int)×(List Int)×Unit))
def rG (x1:rI) (again:rI→Option rH):Option rH:=
 bif decide (x1.2.1≥0) then
  Option.bind (yf x1.1 x1.1) fun r2=>
  chk (decide (0≤(0:Int))&&decide ((0:Int)<(r2.1.length:Int))) <|
  Option.bind (r2.1[0]?) fun y3=>
  Option.bind (idx x1.2.2.2.1 (w64 (Int.tdiv x1.2.1 32))) fun y4=>
  chk (decide (0≤(Int.tmod x1.2.1 32))) <|
  let n5:Int:=jJ (((BitVec.ofInt (IntKind.bits .u32) (Int.fdiv y4 (2 ^ (min (Int.toNat (Int.tmod x1.2.1 32)) (IntKind.bits .u32)))) &&& BitVec.ofInt (IntKind.bits .u32) 1).toNat:Int))
  chk (decide (0≤(0:Int))&&decide ((0:Int)<(r2.1.length:Int))) <|
  Option.bind (r2.1[0]?) fun _=>
  Option.bind (mz (List.set r2.1 0 (jJ (((BitVec.ofInt (IntKind.bits .u32) y3 ||| BitVec.ofInt (IntKind.bits .u32) n5).toNat:Int))))) fun r6=>
  Option.bind (qz r6.1 x1.2.2.2.2.2.1) fun r7=>
  bif decide (r7.1≥0) then
   Option.bind (s5 r6.1 x1.2.2.2.2.2.1) fun r8=>
   chk (decide (0≤(w64 (Int.tdiv x1.2.1 32)))&&decide ((w64 (Int.tdiv x1.2.1 32))<(x1.2.2.2.2.2.2.2.2.2.2.1.length:Int))) <|
   Option.bind (x1.2.2.2.2.2.2.2.2.2.2.1[(w64 (Int.tdiv x1.2.1 32)).toNat]?) fun y9=>
   chk (decide (0≤(Int.tmod x1.2.1 32))) <|
   let n10:Int:=jJ (((BitVec.ofInt (IntKind.bits .u32) y9 ||| BitVec.ofInt (IntKind.bits .u32) (jJ (1*2 ^ (min (Int.toNat (Int.tmod x1.2.1 32)) (IntKind.bits .u32))))).toNat:Int))
   chk (decide (0≤(w64 (Int.tdiv x1.2.1 32)))&&decide ((w64 (Int.tdiv x1.2.1 32))<(x1.2.2.2.2.2.2.2.2.2.2.1.length:Int))) <|
   Option.bind (x1.2.2.2.2.2.2.2.2.2.2.1[(w64 (Int.tdiv x1.2.1 32)).toNat]?) fun _=>
   again (r8.1,w64 (x1.2.1 - 1),x1.2.2.1,x1.2.2.2.1,x1.2.2.2.2.1,x1.2.2.2.2.2.1,x1.2.2.2.2.2.2.1,x1.2.2.2.2.2.2.2.1,x1.2.2.2.2.2.2.2.2.1,x1.2.2.2.2.2.2.2.2.2.1,List.set x1.2.2.2.2.2.2.2.2.2.2.1 (w64 (Int.tdiv x1.2.1 32)).toNat n10,())
  else
   again (r6.1,w64 (x1.2.1 - 1),x1.2.2.1,x1.2.2.2.1,x1.2.2.2.2.1,x1.2.2.2.2.2.1,x1.2.2.2.2.2.2.1,x1.2.2.2.2.2.2.2.1,x1.2.2.2.2.2.2.2.2.1,x1.2.2.2.2.2.2.2.2.2.1,x1.2.2.2.2.2.2.2.2.2.2.1,())
 else
  some (Sum.inr (x1.1,x1.2.2.2.2.2.2.1,x1.2.2.2.2.2.2.2.1,x1.2.2.2.2.2.2.2.2.1,x1.2.2.2.2.2.2.2.2.2.1,x1.2.2.2.2.2.2.2.2.2.2.1,()))
def sG (a0:ai) (a1:ai):Option (ai×ai×Unit):=
 chk (decide (0≤((a0.2.length:Int)))&&decide (((a0.2.length:Int))≤((a0.2.length:Int)))&&decide ((4:Int)*((a0.2.length:Int))≤281474976710656)&&decide (((a0.2.length:Int))≤9223372036854775807)) <|
 let n1:Int:=w64 ((w64 (((a0.2.length:Int))*32)) - 1)
 aW (β:=(ai×ai×Unit)) (γ:=((List Int)×Bool×(List Int)×Bool×(List Int)×(List Int)×Unit)) (
  iter (X:=rI) (β:=rH) (List.length ([]:List Int)+(Int.natAbs n1+(a0.2.length+(a1.2.length+(List.length ([]:List Int)+(List.length ([]:List Int)+(List.length ((List.replicate (Int.toNat ((a0.2.length:Int))) 0):List Int)+2))))))) ([],n1,a0.1,a0.2,a1.1,a1.2,false,[],false,[],List.replicate (Int.toNat ((a0.2.length:Int))) 0,()) (rG)) fun v14=>
 Option.bind (gw false v14.2.2.2.2.2.1) fun r15=>
 Option.bind (gw false v14.1) fun r16=>
 some (r15.1,r16.1,())
def iR (a0:ai):Option (Int×Unit):=
 bif a0.1 then
  some ((-1),())
 else
  bif ((a0.2.length:Int))==0 then
   some (0,())
  else
   some (1,())
def nh (a0:ai):Option (ai×Unit):=
 Option.bind (gw (!a0.1) a0.2) fun r1=>
 some (r1.1,())
abbrev p9:Type:=Int×Int×(List Int)×Int×Int×Bool×(List Int)×Unit
abbrev p8:Type:=((Int×Bool×Unit) ⊕ (Int×Int×Bool×(List Int)×Unit))
def p4 (x1:p9) (again:p9→Option p8):Option p8:=
 bif decide (x1.2.2.2.2.1<x1.2.2.2.1) then
  Option.bind (idx x1.2.2.1 x1.2.2.2.2.1) fun y2=>
  chk (decide (0≤(w64 (32*x1.2.2.2.2.1)))) <|
  let n3:Int:=bI ((bI y2)*2 ^ (min (Int.toNat (w64 (32*x1.2.2.2.2.1))) (IntKind.bits .u64)))
  again (x1.1,bI (((BitVec.ofInt (IntKind.bits .u64) x1.2.1 ||| BitVec.ofInt (IntKind.bits .u64) n3).toNat:Int)),x1.2.2.1,x1.2.2.2.1,w64 (x1.2.2.2.2.1+1),x1.2.2.2.2.2.1,x1.2.2.2.2.2.2.1,())
 else
  some (Sum.inr (x1.1,x1.2.1,x1.2.2.2.2.2.1,x1.2.2.2.2.2.2.1,()))
def uG (a0:ai) (a1:Int):Option (Int×Bool×Unit):=
 bif decide (((a0.2.length:Int))>2) then
  some (0,false,())
 else
  aW (β:=(Int×Bool×Unit)) (γ:=(Int×Int×Bool×(List Int)×Unit)) (
   iter (X:=p9) (β:=p8) (Int.natAbs a1+(Int.natAbs (0:Int)+(a0.2.length+(Int.natAbs ((a0.2.length:Int))+(Int.natAbs (0:Int)+(a0.2.length+2)))))) (a1,0,a0.2,(a0.2.length:Int),0,a0.1,a0.2,()) (p4)) fun v4=>
  bif decide (v4.2.1>(bI v4.1)) then
   some (0,false,())
  else
   bif v4.2.2.1 then
    some (w64 (0 - (w64 v4.2.1)),true,())
   else
    some (w64 v4.2.1,true,())
def tG (a0:ai) (a1:Int):Option (az×Int×Unit):=
 Option.bind (uG a0 1000000000000000) fun r1=>
 bif !r1.2.1 then
  some ((0,0),1,())
 else
  some ((r1.1,a1),0,())
abbrev oQ:Type:=Int×Bool×(List Int)×Int×Int×Bool×(List Int)×Unit
abbrev oP:Type:=((az×Int×Unit) ⊕ (Int×Bool×(List Int)×Int×Int×Unit))
def oO (x1:oQ) (again:oQ→Option oP):Option oP:=
 bif decide (x1.1>0) then
  Option.bind (sG (x1.2.1,x1.2.2.1) (x1.2.2.2.2.2.1,x1.2.2.2.2.2.2.1)) fun r2=>
  Option.bind (iR r2.2.1) fun r3=>
  bif r3.1 != 0 then
   some (Sum.inr (x1.1,x1.2.1,x1.2.2.1,x1.2.2.2.1,x1.2.2.2.2.1,()))
  else
   Option.bind (iR (x1.2.1,x1.2.2.1)) fun r4=>
   bif decide (r4.1<0) then
    Option.bind (nh r2.1) fun r5=>
    again (w64 (x1.1 - 1),r5.1.1,r5.1.2,x1.2.2.2.1,x1.2.2.2.2.1,x1.2.2.2.2.2.1,x1.2.2.2.2.2.2.1,())
   else
    again (w64 (x1.1 - 1),r2.1.1,r2.1.2,x1.2.2.2.1,x1.2.2.2.2.1,x1.2.2.2.2.2.1,x1.2.2.2.2.2.2.1,())
 else
  some (Sum.inr (x1.1,x1.2.1,x1.2.2.1,x1.2.2.2.1,x1.2.2.2.2.1,()))
def uj (a0:ai) (a1:Int):Option (az×Int×Unit):=
 Option.bind (nG 10) fun r1=>
 aW (β:=(az×Int×Unit)) (γ:=(Int×Bool×(List Int)×Int×Int×Unit)) (
  iter (X:=oQ) (β:=oP) (Int.natAbs a1+(a0.2.length+(Int.natAbs (0:Int)+(Int.natAbs (0:Int)+(r1.1.2.length+2))))) (a1,a0.1,a0.2,0,0,r1.1.1,r1.1.2,()) (oO)) fun v7=>
 Option.bind (tG (v7.2.1,v7.2.2.1) v7.1) fun r8=>
 some (r8.1,r8.2.1,())
end Go.Md
namespace Go.Md
open Go.Dn
end Go.Md
