/-
  The plain models of the functions that the law reaches, first part. No condition.
-/
import Derived.Test.YtbjhpnieokphbaaGreatDoorYd
import Derived.Lib.SlTrimSet
set_option linter.all false
namespace Go.Md
open Go.Dn
def lP (s c:List UInt8):Option (List UInt8×Unit):=
 bif decide (s.length≤9223372036854775807)&&(decide (c.length<4294967281)&&c.all fun b=>decide (b.toNat<128)) then some (Lib.trimS s c,()) else none
abbrev bS:Ty:=(.st (.pair tI tI))
abbrev ai:Type:=Int×Int
abbrev Kl:Type:=Int×ai×(List (List UInt8))
abbrev br:Ty:=(.st (.pair .bool (.slice tI)))
abbrev ak:Type:=Bool×(List Int)
abbrev lV:Type:=(List UInt8)×Int×ai×Int×Int×Int
abbrev nw:Type:=lV×Int×Int×Int×Int
abbrev aH:Ty:=(.st (.pair .bool (.slice (.int .u32))))
abbrev au:Type:=Bool×(List Int)
def dF (a0:List UInt8):Option (Bool×Unit):=
 bif decide (((List.length a0:Int))<1) then
  some (false,())
 else
  bif decide (((List.length a0:Int))>40) then
   some (false,())
  else
   Option.bind (vW a0 0) fun c1=>
   bif decide ((c1.toNat:Int)<97) then
    some (false,())
   else
    Option.bind (vW a0 0) fun c2=>
    bif decide ((c2.toNat:Int)>122) then
     some (false,())
    else
     Option.bind (lP a0 [97,98,99,100,101,102,103,104,105,106,107,108,109,110,111,112,113,114,115,116,117,118,119,120,121,122,48,49,50,51,52,53,54,55,56,57,45]) fun r3=>
     some (r3.1==[],())
def iM (a0:Int) (a1:Int) (a2:Int):Option (Bool×Unit):=
 bif decide (a0<a1) then
  some (true,())
 else
  some (decide (a0>a2),())
def yM (a0:Int):Option (Bool×Unit):=
 Option.bind (iM a0 1 3652059) fun r1=>
 some (!r1.1,())
def fS (a0:ai):Option (Int×Unit):=
 Option.bind (iM a0.1 (-1000000000000000) 1000000000000000) fun r1=>
 bif r1.1 then
  some (1,())
 else
  Option.bind (iM a0.2 0 9) fun r2=>
  bif r2.1 then
   some (1,())
  else
   some (0,())
abbrev qI:Type:=Int×Int×Int×Unit
abbrev qH:Type:=((Int×Unit) ⊕ (Int×Unit))
def qG (x1:qI) (again:qI→Option qH):Option qH:=
 bif decide (x1.2.2.1<x1.2.1) then
  again (w64 (x1.1*10),x1.2.1,w64 (x1.2.2.1+1),())
 else
  some (Sum.inr (x1.1,()))
def Gi (a0:Int):Option (Int×Unit):=
 bw (β:=(Int×Unit)) (γ:=(Int×Unit)) (
  iter (X:=qI) (β:=qH) (Int.natAbs (1:Int)+(Int.natAbs a0+(Int.natAbs (0:Int)+2))) (1,a0,0,()) (qG)) fun v2=>
 some (v2.1,())
abbrev je:Type:=(List Int)×Unit
abbrev rM:Type:=(((List Int)×Unit) ⊕ ((List Int)×Unit))
def rK (x1:je) (again:je→Option rM):Option rM:=
 bif decide (((x1.1.length:Int))>0) then
  Option.bind (idx x1.1 (w64 (((x1.1.length:Int)) - 1))) fun y2=>
  bif y2==0 then
   chk (decide (0≤(0:Int))&&decide ((0:Int)≤(w64 (((x1.1.length:Int)) - 1)))&&decide ((w64 (((x1.1.length:Int)) - 1))≤(x1.1.length:Int))) <|
   again (List.drop 0 (List.take (Int.toNat (w64 (((x1.1.length:Int)) - 1))) x1.1),())
  else
   some (Sum.inr (x1.1,()))
 else
  some (Sum.inr (x1.1,()))
def jM (a0:List Int):Option ((List Int)×Unit):=
 bw (β:=((List Int)×Unit)) (γ:=((List Int)×Unit)) (
  iter (X:=je) (β:=rM) (List.length a0+2) (a0,()) (rK)) fun v3=>
 some (v3.1,())
def eG (a0:Bool) (a1:List Int):Option (au×Unit):=
 Option.bind (jM a1) fun r1=>
 bif a0 then
  some ((decide (((r1.1.length:Int))>0),r1.1),())
 else
  some ((false,r1.1),())
def kR (a0:Int):Option (au×Unit):=
 bw (β:=(au×Unit)) (γ:=(Int×Int×Bool×(List Int)×Unit)) (
  bif decide (a0<0) then
   some (Sum.inr (a0,bL (0 - (bL a0)),false,[],()))
  else
   some (Sum.inr (a0,bL a0,false,[],()))) fun v1=>
 Option.bind (eG (decide (v1.1<0)) [(gY v1.2.1),(gY (Int.fdiv v1.2.1 (2 ^ 32)))]) fun r2=>
 some (r2.1,())
abbrev oW:Type:=(List Int)×(List Int)×Int×(List Int)×Int×Int×Unit
abbrev oV:Type:=(((List Int)×Unit) ⊕ ((List Int)×Int×Unit))
def oU (x1:oW) (again:oW→Option oV):Option oV:=
 bif decide (x1.2.2.2.2.2.1<x1.2.2.2.2.1) then
  Option.bind (idx x1.2.2.2.1 x1.2.2.2.2.2.1) fun y2=>
  bw (β:=(((List Int)×Unit) ⊕ ((List Int)×Int×Unit))) (γ:=((List Int)×(List Int)×Int×(List Int)×Int×Int×Unit)) (
   bif decide (x1.2.2.2.2.2.1<((x1.1.length:Int))) then
    Option.bind (idx x1.1 x1.2.2.2.2.2.1) fun y3=>
    let n4:Int:=bL ((bL (x1.2.2.1+(bL y2)))+(bL y3))
    some (Sum.inr (x1.1,x1.2.1,n4,x1.2.2.2.1,x1.2.2.2.2.1,x1.2.2.2.2.2.1,()))
   else
    some (Sum.inr (x1.1,x1.2.1,bL (x1.2.2.1+(bL y2)),x1.2.2.2.1,x1.2.2.2.2.1,x1.2.2.2.2.2.1,()))) fun v5=>
  chk (decide (((v5.2.1.length)+1)*4≤140737488355328)&&decide ((v5.2.1.length)+1≤maxLen)) <|
  again (v5.1,v5.2.1++[(gY v5.2.2.1)],Int.fdiv v5.2.2.1 (2 ^ 32),v5.2.2.2.1,v5.2.2.2.2.1,w64 (v5.2.2.2.2.2.1+1),())
 else
  some (Sum.inr (x1.2.1,x1.2.2.1,()))
def vA (a0:List Int) (a1:List Int):Option ((List Int)×Unit):=
 bw (β:=((List Int)×Unit)) (γ:=((List Int)×(List Int)×Unit)) (
  bif decide (((List.length a0:Int))<((List.length a1:Int))) then
   some (Sum.inr (a1,a0,()))
  else
   some (Sum.inr (a0,a1,()))) fun v1=>
 chk (decide (0≤(0:Int))&&decide ((0:Int)≤(w64 (((v1.1.length:Int))+1)))&&decide ((4:Int)*(w64 (((v1.1.length:Int))+1))≤281474976710656)&&decide ((w64 (((v1.1.length:Int))+1))≤9223372036854775807)) <|
 bw (β:=((List Int)×Unit)) (γ:=((List Int)×Int×Unit)) (
  iter (X:=oW) (β:=oV) (v1.2.1.length+(List.length ([]:List Int)+(Int.natAbs (0:Int)+(v1.1.length+(Int.natAbs ((v1.1.length:Int))+(Int.natAbs (0:Int)+2)))))) (v1.2.1,[],0,v1.1,(v1.1.length:Int),0,()) (oU)) fun v7=>
 chk (decide (((v7.1.length)+1)*4≤140737488355328)&&decide ((v7.1.length)+1≤maxLen)) <|
 some (v7.1++[(gY v7.2.1)],())
abbrev mT:Type:=(List Int)×(List Int)×Int×Unit
abbrev mS:Type:=((Int×Unit) ⊕ Unit)
def jd (x1:mT) (again:mT→Option mS):Option mS:=
 bif decide (x1.2.2.1≥0) then
  Option.bind (idx x1.1 x1.2.2.1) fun y2=>
  Option.bind (idx x1.2.1 x1.2.2.1) fun y3=>
  bif y2 != y3 then
   Option.bind (idx x1.1 x1.2.2.1) fun y4=>
   Option.bind (idx x1.2.1 x1.2.2.1) fun y5=>
   bif decide (y4<y5) then
    some (Sum.inl ((-1),()))
   else
    some (Sum.inl (1,()))
  else
   again (x1.1,x1.2.1,w64 (x1.2.2.1 - 1),())
 else
  some (Sum.inr ())
def nv (a0:List Int) (a1:List Int):Option (Int×Unit):=
 bif ((List.length a0:Int)) != ((List.length a1:Int)) then
  some (w64 (((List.length a0:Int)) - ((List.length a1:Int))),())
 else
  bw (β:=(Int×Unit)) (γ:=Unit) (
   iter (X:=mT) (β:=mS) (List.length a0+(List.length a1+(Int.natAbs (w64 (((List.length a0:Int)) - 1))+2))) (a0,a1,w64 (((List.length a0:Int)) - 1),()) (jd)) fun _=>
  some (0,())
abbrev ri:Type:=(List Int)×(List Int)×Int×(List Int)×Int×Int×Unit
abbrev rf:Type:=(((List Int)×Unit) ⊕ ((List Int)×Unit))
def q9 (x1:ri) (again:ri→Option rf):Option rf:=
 bif decide (x1.2.2.2.2.2.1<x1.2.2.2.2.1) then
  Option.bind (idx x1.2.2.2.1 x1.2.2.2.2.2.1) fun y2=>
  bw (β:=(((List Int)×Unit) ⊕ ((List Int)×Unit))) (γ:=((List Int)×(List Int)×Int×(List Int)×Int×Int×Unit)) (
   bif decide (x1.2.2.2.2.2.1<((x1.1.length:Int))) then
    Option.bind (idx x1.1 x1.2.2.2.2.2.1) fun y3=>
    let n4:Int:=bL ((bL ((bL y2) - x1.2.2.1)) - (bL y3))
    some (Sum.inr (x1.1,x1.2.1,n4,x1.2.2.2.1,x1.2.2.2.2.1,x1.2.2.2.2.2.1,()))
   else
    some (Sum.inr (x1.1,x1.2.1,bL ((bL y2) - x1.2.2.1),x1.2.2.2.1,x1.2.2.2.2.1,x1.2.2.2.2.2.1,()))) fun v5=>
  chk (decide (((v5.2.1.length)+1)*4≤140737488355328)&&decide ((v5.2.1.length)+1≤maxLen)) <|
  again (v5.1,v5.2.1++[(gY v5.2.2.1)],bL (((BitVec.ofInt (IntKind.bits .u64) (Int.fdiv v5.2.2.1 (2 ^ 32)) &&& BitVec.ofInt (IntKind.bits .u64) 1).toNat:Int)),v5.2.2.2.1,v5.2.2.2.2.1,w64 (v5.2.2.2.2.2.1+1),())
 else
  some (Sum.inr (x1.2.1,()))
def pS (a0:List Int) (a1:List Int):Option ((List Int)×Unit):=
 chk (decide (0≤(0:Int))&&decide ((0:Int)≤((List.length a0:Int)))&&decide ((4:Int)*((List.length a0:Int))≤281474976710656)&&decide (((List.length a0:Int))≤9223372036854775807)) <|
 bw (β:=((List Int)×Unit)) (γ:=((List Int)×Unit)) (
  iter (X:=ri) (β:=rf) (List.length a1+(List.length ([]:List Int)+(Int.natAbs (0:Int)+(List.length a0+(Int.natAbs ((List.length a0:Int))+(Int.natAbs (0:Int)+2)))))) (a1,[],0,a0,(List.length a0:Int),0,()) (q9)) fun v6=>
 Option.bind (jM v6.1) fun r7=>
 some (r7.1,())
abbrev og:Type:=(List Int)×Int×Bool×(List Int)×Bool×(List Int)×Bool×(List Int)×Bool×(List Int)×(List Int)×Unit
abbrev oe:Type:=((au×au×Unit) ⊕ ((List Int)×Bool×(List Int)×Bool×(List Int)×(List Int)×Unit))
def oc (x1:og) (again:og→Option oe):Option oe:=
 bif decide (x1.2.1≥0) then
  Option.bind (vA x1.1 x1.1) fun r2=>
  chk (decide (0≤(0:Int))&&decide ((0:Int)<(r2.1.length:Int))) <|
  Option.bind (r2.1[0]?) fun y3=>
  Option.bind (idx x1.2.2.2.1 (w64 (Int.tdiv x1.2.1 32))) fun y4=>
  chk (decide (0≤(Int.tmod x1.2.1 32))) <|
  let n5:Int:=gY (((BitVec.ofInt (IntKind.bits .u32) (Int.fdiv y4 (2 ^ (min (Int.toNat (Int.tmod x1.2.1 32)) (IntKind.bits .u32)))) &&& BitVec.ofInt (IntKind.bits .u32) 1).toNat:Int))
  chk (decide (0≤(0:Int))&&decide ((0:Int)<(r2.1.length:Int))) <|
  Option.bind (r2.1[0]?) fun _=>
  Option.bind (jM (List.set r2.1 0 (gY (((BitVec.ofInt (IntKind.bits .u32) y3 ||| BitVec.ofInt (IntKind.bits .u32) n5).toNat:Int))))) fun r6=>
  Option.bind (nv r6.1 x1.2.2.2.2.2.1) fun r7=>
  bif decide (r7.1≥0) then
   Option.bind (pS r6.1 x1.2.2.2.2.2.1) fun r8=>
   chk (decide (0≤(w64 (Int.tdiv x1.2.1 32)))&&decide ((w64 (Int.tdiv x1.2.1 32))<(x1.2.2.2.2.2.2.2.2.2.2.1.length:Int))) <|
   Option.bind (x1.2.2.2.2.2.2.2.2.2.2.1[(w64 (Int.tdiv x1.2.1 32)).toNat]?) fun y9=>
   chk (decide (0≤(Int.tmod x1.2.1 32))) <|
   let n10:Int:=gY (((BitVec.ofInt (IntKind.bits .u32) y9 ||| BitVec.ofInt (IntKind.bits .u32) (gY (1*2 ^ (min (Int.toNat (Int.tmod x1.2.1 32)) (IntKind.bits .u32))))).toNat:Int))
   chk (decide (0≤(w64 (Int.tdiv x1.2.1 32)))&&decide ((w64 (Int.tdiv x1.2.1 32))<(x1.2.2.2.2.2.2.2.2.2.2.1.length:Int))) <|
   Option.bind (x1.2.2.2.2.2.2.2.2.2.2.1[(w64 (Int.tdiv x1.2.1 32)).toNat]?) fun _=>
   again (r8.1,w64 (x1.2.1 - 1),x1.2.2.1,x1.2.2.2.1,x1.2.2.2.2.1,x1.2.2.2.2.2.1,x1.2.2.2.2.2.2.1,x1.2.2.2.2.2.2.2.1,x1.2.2.2.2.2.2.2.2.1,x1.2.2.2.2.2.2.2.2.2.1,List.set x1.2.2.2.2.2.2.2.2.2.2.1 (w64 (Int.tdiv x1.2.1 32)).toNat n10,())
  else
   again (r6.1,w64 (x1.2.1 - 1),x1.2.2.1,x1.2.2.2.1,x1.2.2.2.2.1,x1.2.2.2.2.2.1,x1.2.2.2.2.2.2.1,x1.2.2.2.2.2.2.2.1,x1.2.2.2.2.2.2.2.2.1,x1.2.2.2.2.2.2.2.2.2.1,x1.2.2.2.2.2.2.2.2.2.2.1,())
 else
  some (Sum.inr (x1.1,x1.2.2.2.2.2.2.1,x1.2.2.2.2.2.2.2.1,x1.2.2.2.2.2.2.2.2.1,x1.2.2.2.2.2.2.2.2.2.1,x1.2.2.2.2.2.2.2.2.2.2.1,()))
def oQ (a0:au) (a1:au):Option (au×au×Unit):=
 chk (decide (0≤((a0.2.length:Int)))&&decide (((a0.2.length:Int))≤((a0.2.length:Int)))&&decide ((4:Int)*((a0.2.length:Int))≤281474976710656)&&decide (((a0.2.length:Int))≤9223372036854775807)) <|
 let n1:Int:=w64 ((w64 (((a0.2.length:Int))*32)) - 1)
 bw (β:=(au×au×Unit)) (γ:=((List Int)×Bool×(List Int)×Bool×(List Int)×(List Int)×Unit)) (
  iter (X:=og) (β:=oe) (List.length ([]:List Int)+(Int.natAbs n1+(a0.2.length+(a1.2.length+(List.length ([]:List Int)+(List.length ([]:List Int)+(List.length ((List.replicate (Int.toNat ((a0.2.length:Int))) 0):List Int)+2))))))) ([],n1,a0.1,a0.2,a1.1,a1.2,false,[],false,[],List.replicate (Int.toNat ((a0.2.length:Int))) 0,()) (oc)) fun v14=>
 Option.bind (eG false v14.2.2.2.2.2.1) fun r15=>
 Option.bind (eG false v14.1) fun r16=>
 some (r15.1,r16.1,())
def iP (a0:au):Option (Int×Unit):=
 bif a0.1 then
  some ((-1),())
 else
  bif ((a0.2.length:Int))==0 then
   some (0,())
  else
   some (1,())
def om (a0:au):Option (au×Unit):=
 Option.bind (eG (!a0.1) a0.2) fun r1=>
 some (r1.1,())
abbrev mR:Type:=Int×Int×(List Int)×Int×Int×Bool×(List Int)×Unit
abbrev mQ:Type:=((Int×Bool×Unit) ⊕ (Int×Int×Bool×(List Int)×Unit))
def mP (x1:mR) (again:mR→Option mQ):Option mQ:=
 bif decide (x1.2.2.2.2.1<x1.2.2.2.1) then
  Option.bind (idx x1.2.2.1 x1.2.2.2.2.1) fun y2=>
  chk (decide (0≤(w64 (32*x1.2.2.2.2.1)))) <|
  let n3:Int:=bL ((bL y2)*2 ^ (min (Int.toNat (w64 (32*x1.2.2.2.2.1))) (IntKind.bits .u64)))
  again (x1.1,bL (((BitVec.ofInt (IntKind.bits .u64) x1.2.1 ||| BitVec.ofInt (IntKind.bits .u64) n3).toNat:Int)),x1.2.2.1,x1.2.2.2.1,w64 (x1.2.2.2.2.1+1),x1.2.2.2.2.2.1,x1.2.2.2.2.2.2.1,())
 else
  some (Sum.inr (x1.1,x1.2.1,x1.2.2.2.2.2.1,x1.2.2.2.2.2.2.1,()))
def nu (a0:au) (a1:Int):Option (Int×Bool×Unit):=
 bif decide (((a0.2.length:Int))>2) then
  some (0,false,())
 else
  bw (β:=(Int×Bool×Unit)) (γ:=(Int×Int×Bool×(List Int)×Unit)) (
   iter (X:=mR) (β:=mQ) (Int.natAbs a1+(Int.natAbs (0:Int)+(a0.2.length+(Int.natAbs ((a0.2.length:Int))+(Int.natAbs (0:Int)+(a0.2.length+2)))))) (a1,0,a0.2,(a0.2.length:Int),0,a0.1,a0.2,()) (mP)) fun v4=>
  bif decide (v4.2.1>(bL v4.1)) then
   some (0,false,())
  else
   bif v4.2.2.1 then
    some (w64 (0 - (w64 v4.2.1)),true,())
   else
    some (w64 v4.2.1,true,())
def qm (a0:au) (a1:Int):Option (ai×Int×Unit):=
 Option.bind (nu a0 1000000000000000) fun r1=>
 bif !r1.2.1 then
  some ((0,0),1,())
 else
  some ((r1.1,a1),0,())
abbrev l8:Type:=Int×Bool×(List Int)×Int×Int×Bool×(List Int)×Unit
abbrev l7:Type:=((ai×Int×Unit) ⊕ (Int×Bool×(List Int)×Int×Int×Unit))
def l6 (x1:l8) (again:l8→Option l7):Option l7:=
 bif decide (x1.1>0) then
  Option.bind (oQ (x1.2.1,x1.2.2.1) (x1.2.2.2.2.2.1,x1.2.2.2.2.2.2.1)) fun r2=>
  Option.bind (iP r2.2.1) fun r3=>
  bif r3.1 != 0 then
   some (Sum.inr (x1.1,x1.2.1,x1.2.2.1,x1.2.2.2.1,x1.2.2.2.2.1,()))
  else
   Option.bind (iP (x1.2.1,x1.2.2.1)) fun r4=>
   bif decide (r4.1<0) then
    Option.bind (om r2.1) fun r5=>
    again (w64 (x1.1 - 1),r5.1.1,r5.1.2,x1.2.2.2.1,x1.2.2.2.2.1,x1.2.2.2.2.2.1,x1.2.2.2.2.2.2.1,())
   else
    again (w64 (x1.1 - 1),r2.1.1,r2.1.2,x1.2.2.2.1,x1.2.2.2.2.1,x1.2.2.2.2.2.1,x1.2.2.2.2.2.2.1,())
 else
  some (Sum.inr (x1.1,x1.2.1,x1.2.2.1,x1.2.2.2.1,x1.2.2.2.2.1,()))
def mV (a0:au) (a1:Int):Option (ai×Int×Unit):=
 Option.bind (kR 10) fun r1=>
 bw (β:=(ai×Int×Unit)) (γ:=(Int×Bool×(List Int)×Int×Int×Unit)) (
  iter (X:=l8) (β:=l7) (Int.natAbs a1+(a0.2.length+(Int.natAbs (0:Int)+(Int.natAbs (0:Int)+(r1.1.2.length+2))))) (a1,a0.1,a0.2,0,0,r1.1.1,r1.1.2,()) (l6)) fun v7=>
 Option.bind (qm (v7.2.1,v7.2.2.1) v7.1) fun r8=>
 some (r8.1,r8.2.1,())
abbrev xS:Type:=Int×Bool×(List Int)×Bool×(List Int)×Unit
abbrev xR:Type:=((ak×Unit) ⊕ (Bool×(List Int)×Bool×(List Int)×Unit))
def rC (x1:xS) (again:xS→Option xR):Option xR:=
 bif x1.1 != 0 then
  chk (decide (((x1.2.2.2.2.1.length)+1)*8≤140737488355328)&&decide ((x1.2.2.2.2.1.length)+1≤maxLen)) <|
  again (w64 (Int.tdiv x1.1 1000000),x1.2.1,x1.2.2.1,x1.2.2.2.1,x1.2.2.2.2.1++[(if (w64 (0 - (Int.tmod x1.1 1000000)))>(Int.tmod x1.1 1000000) then (w64 (0 - (Int.tmod x1.1 1000000))) else (Int.tmod x1.1 1000000))],())
 else
  some (Sum.inr (x1.2.1,x1.2.2.1,x1.2.2.2.1,x1.2.2.2.2.1,()))
def DX (a0:Int):Option (ak×Unit):=
 bw (β:=(ak×Unit)) (γ:=(Bool×(List Int)×Bool×(List Int)×Unit)) (
  iter (X:=xS) (β:=xR) (Int.natAbs a0+(List.length ([]:List Int)+(List.length ([]:List Int)+2))) (a0,false,[],decide (a0<0),[],()) (rC)) fun v2=>
 some ((v2.2.2.1,v2.2.2.2.1),())
abbrev nq:Type:=Bool×(List Int)×Bool×(List Int)×Unit
abbrev vV:Type:=((ak×Unit) ⊕ (Bool×(List Int)×Bool×(List Int)×Unit))
def vU (x1:nq) (again:nq→Option vV):Option vV:=
 bif decide (((x1.2.1.length:Int))>0) then
  Option.bind (idx x1.2.1 (w64 (((x1.2.1.length:Int)) - 1))) fun y2=>
  bif y2==0 then
   chk (decide (0≤(0:Int))&&decide ((0:Int)≤(w64 (((x1.2.1.length:Int)) - 1)))&&decide ((w64 (((x1.2.1.length:Int)) - 1))≤(x1.2.1.length:Int))) <|
   again (x1.1,List.drop 0 (List.take (Int.toNat (w64 (((x1.2.1.length:Int)) - 1))) x1.2.1),x1.2.2.1,x1.2.2.2.1,())
  else
   some (Sum.inr (x1.1,x1.2.1,x1.2.2.1,x1.2.2.2.1,()))
 else
  some (Sum.inr (x1.1,x1.2.1,x1.2.2.1,x1.2.2.2.1,()))
def kj (a0:ak):Option (ak×Unit):=
 bw (β:=(ak×Unit)) (γ:=(Bool×(List Int)×Bool×(List Int)×Unit)) (
  iter (X:=nq) (β:=vV) (a0.2.length+(List.length ([]:List Int)+2)) (a0.1,a0.2,false,[],()) (vU)) fun v3=>
 bif ((v3.2.1.length:Int))==0 then
  some ((false,v3.2.1),())
 else
  some ((v3.1,v3.2.1),())
abbrev qW:Type:=Int×Int×(List Int)×Int×Int×(List Int)×Int×Int×Bool×(List Int)×Bool×(List Int)×Bool×(List Int)×Unit
abbrev qU:Type:=(((ak×Unit) ⊕ (Bool×(List Int)×Bool×(List Int)×Unit)) ⊕ ((List Int)×Int×Int×Bool×(List Int)×Bool×(List Int)×Bool×(List Int)×Unit))
def qS (x1:qW) (again:qW→Option qU):Option qU:=
 bif decide (x1.2.2.2.2.2.2.2.1<x1.2.2.2.2.2.2.1) then
  Option.bind (idx x1.2.2.2.2.2.1 x1.2.2.2.2.2.2.2.1) fun y2=>
  chk (decide (0≤(w64 (x1.1+x1.2.2.2.2.2.2.2.1)))&&decide ((w64 (x1.1+x1.2.2.2.2.2.2.2.1))<(x1.2.2.2.2.2.2.2.2.2.2.2.2.2.1.length:Int))) <|
  Option.bind (x1.2.2.2.2.2.2.2.2.2.2.2.2.2.1[(w64 (x1.1+x1.2.2.2.2.2.2.2.1)).toNat]?) fun y3=>
  chk (decide (0≤(w64 (x1.1+x1.2.2.2.2.2.2.2.1)))&&decide ((w64 (x1.1+x1.2.2.2.2.2.2.2.1))<(x1.2.2.2.2.2.2.2.2.2.2.2.2.2.1.length:Int))) <|
  Option.bind (x1.2.2.2.2.2.2.2.2.2.2.2.2.2.1[(w64 (x1.1+x1.2.2.2.2.2.2.2.1)).toNat]?) fun _=>
  chk (decide (0≤(w64 ((w64 (x1.1+x1.2.2.2.2.2.2.2.1))+1)))&&decide ((w64 ((w64 (x1.1+x1.2.2.2.2.2.2.2.1))+1))<(List.length (List.set x1.2.2.2.2.2.2.2.2.2.2.2.2.2.1 (w64 (x1.1+x1.2.2.2.2.2.2.2.1)).toNat (w64 (y3+(w64 (x1.2.1*y2))))):Int))) <|
  Option.bind ((List.set x1.2.2.2.2.2.2.2.2.2.2.2.2.2.1 (w64 (x1.1+x1.2.2.2.2.2.2.2.1)).toNat (w64 (y3+(w64 (x1.2.1*y2)))))[(w64 ((w64 (x1.1+x1.2.2.2.2.2.2.2.1))+1)).toNat]?) fun y4=>
  chk (decide (0≤(w64 (x1.1+x1.2.2.2.2.2.2.2.1)))&&decide ((w64 (x1.1+x1.2.2.2.2.2.2.2.1))<(List.length (List.set x1.2.2.2.2.2.2.2.2.2.2.2.2.2.1 (w64 (x1.1+x1.2.2.2.2.2.2.2.1)).toNat (w64 (y3+(w64 (x1.2.1*y2))))):Int))) <|
  Option.bind ((List.set x1.2.2.2.2.2.2.2.2.2.2.2.2.2.1 (w64 (x1.1+x1.2.2.2.2.2.2.2.1)).toNat (w64 (y3+(w64 (x1.2.1*y2)))))[(w64 (x1.1+x1.2.2.2.2.2.2.2.1)).toNat]?) fun y5=>
  chk (decide (0≤(w64 ((w64 (x1.1+x1.2.2.2.2.2.2.2.1))+1)))&&decide ((w64 ((w64 (x1.1+x1.2.2.2.2.2.2.2.1))+1))<(List.length (List.set x1.2.2.2.2.2.2.2.2.2.2.2.2.2.1 (w64 (x1.1+x1.2.2.2.2.2.2.2.1)).toNat (w64 (y3+(w64 (x1.2.1*y2))))):Int))) <|
  Option.bind ((List.set x1.2.2.2.2.2.2.2.2.2.2.2.2.2.1 (w64 (x1.1+x1.2.2.2.2.2.2.2.1)).toNat (w64 (y3+(w64 (x1.2.1*y2)))))[(w64 ((w64 (x1.1+x1.2.2.2.2.2.2.2.1))+1)).toNat]?) fun _=>
  chk (decide (0≤(w64 (x1.1+x1.2.2.2.2.2.2.2.1)))&&decide ((w64 (x1.1+x1.2.2.2.2.2.2.2.1))<(List.length (List.set (List.set x1.2.2.2.2.2.2.2.2.2.2.2.2.2.1 (w64 (x1.1+x1.2.2.2.2.2.2.2.1)).toNat (w64 (y3+(w64 (x1.2.1*y2))))) (w64 ((w64 (x1.1+x1.2.2.2.2.2.2.2.1))+1)).toNat (w64 (y4+(w64 (Int.tdiv y5 1000000))))):Int))) <|
  Option.bind ((List.set (List.set x1.2.2.2.2.2.2.2.2.2.2.2.2.2.1 (w64 (x1.1+x1.2.2.2.2.2.2.2.1)).toNat (w64 (y3+(w64 (x1.2.1*y2))))) (w64 ((w64 (x1.1+x1.2.2.2.2.2.2.2.1))+1)).toNat (w64 (y4+(w64 (Int.tdiv y5 1000000)))))[(w64 (x1.1+x1.2.2.2.2.2.2.2.1)).toNat]?) fun y6=>
  chk (decide (0≤(w64 (x1.1+x1.2.2.2.2.2.2.2.1)))&&decide ((w64 (x1.1+x1.2.2.2.2.2.2.2.1))<(List.length (List.set (List.set x1.2.2.2.2.2.2.2.2.2.2.2.2.2.1 (w64 (x1.1+x1.2.2.2.2.2.2.2.1)).toNat (w64 (y3+(w64 (x1.2.1*y2))))) (w64 ((w64 (x1.1+x1.2.2.2.2.2.2.2.1))+1)).toNat (w64 (y4+(w64 (Int.tdiv y5 1000000))))):Int))) <|
  Option.bind ((List.set (List.set x1.2.2.2.2.2.2.2.2.2.2.2.2.2.1 (w64 (x1.1+x1.2.2.2.2.2.2.2.1)).toNat (w64 (y3+(w64 (x1.2.1*y2))))) (w64 ((w64 (x1.1+x1.2.2.2.2.2.2.2.1))+1)).toNat (w64 (y4+(w64 (Int.tdiv y5 1000000)))))[(w64 (x1.1+x1.2.2.2.2.2.2.2.1)).toNat]?) fun _=>
  again (x1.1,x1.2.1,x1.2.2.1,x1.2.2.2.1,x1.2.2.2.2.1,x1.2.2.2.2.2.1,x1.2.2.2.2.2.2.1,w64 (x1.2.2.2.2.2.2.2.1+1),x1.2.2.2.2.2.2.2.2.1,x1.2.2.2.2.2.2.2.2.2.1,x1.2.2.2.2.2.2.2.2.2.2.1,x1.2.2.2.2.2.2.2.2.2.2.2.1,x1.2.2.2.2.2.2.2.2.2.2.2.2.1,List.set (List.set (List.set x1.2.2.2.2.2.2.2.2.2.2.2.2.2.1 (w64 (x1.1+x1.2.2.2.2.2.2.2.1)).toNat (w64 (y3+(w64 (x1.2.1*y2))))) (w64 ((w64 (x1.1+x1.2.2.2.2.2.2.2.1))+1)).toNat (w64 (y4+(w64 (Int.tdiv y5 1000000))))) (w64 (x1.1+x1.2.2.2.2.2.2.2.1)).toNat (Int.tmod y6 1000000),())
 else
  some (Sum.inr (x1.2.2.1,x1.2.2.2.1,x1.2.2.2.2.1,x1.2.2.2.2.2.2.2.2.1,x1.2.2.2.2.2.2.2.2.2.1,x1.2.2.2.2.2.2.2.2.2.2.1,x1.2.2.2.2.2.2.2.2.2.2.2.1,x1.2.2.2.2.2.2.2.2.2.2.2.2.1,x1.2.2.2.2.2.2.2.2.2.2.2.2.2.1,()))
abbrev qV:Type:=(List Int)×Int×Int×Bool×(List Int)×Bool×(List Int)×Bool×(List Int)×Unit
abbrev qT:Type:=((ak×Unit) ⊕ (Bool×(List Int)×Bool×(List Int)×Unit))
def qR (x1:qV) (again:qV→Option qT):Option qT:=
 bif decide (x1.2.2.1<x1.2.1) then
  Option.bind (idx x1.1 x1.2.2.1) fun y2=>
  bw (β:=((ak×Unit) ⊕ (Bool×(List Int)×Bool×(List Int)×Unit))) (γ:=((List Int)×Int×Int×Bool×(List Int)×Bool×(List Int)×Bool×(List Int)×Unit)) (
   iter (X:=qW) (β:=qU) (x1.2.2.1.natAbs+(Int.natAbs y2+(x1.1.length+(x1.2.1.natAbs+(x1.2.2.1.natAbs+(x1.2.2.2.2.1.length+(Int.natAbs ((x1.2.2.2.2.1.length:Int))+(Int.natAbs (0:Int)+(x1.2.2.2.2.1.length+(x1.2.2.2.2.2.2.1.length+(x1.2.2.2.2.2.2.2.2.1.length+2))))))))))) (x1.2.2.1,y2,x1.1,x1.2.1,x1.2.2.1,x1.2.2.2.2.1,(x1.2.2.2.2.1.length:Int),0,x1.2.2.2.1,x1.2.2.2.2.1,x1.2.2.2.2.2.1,x1.2.2.2.2.2.2.1,x1.2.2.2.2.2.2.2.1,x1.2.2.2.2.2.2.2.2.1,()) (qS)) fun v3=>
  again (v3.1,v3.2.1,w64 (v3.2.2.1+1),v3.2.2.2.1,v3.2.2.2.2.1,v3.2.2.2.2.2.1,v3.2.2.2.2.2.2.1,v3.2.2.2.2.2.2.2.1,v3.2.2.2.2.2.2.2.2.1,())
 else
  some (Sum.inr (x1.2.2.2.2.2.1,x1.2.2.2.2.2.2.1,x1.2.2.2.2.2.2.2.1,x1.2.2.2.2.2.2.2.2.1,()))
abbrev pN:Type:=Int×Int×Bool×(List Int)×Bool×(List Int)×Unit
abbrev pM:Type:=((ak×Unit) ⊕ (Bool×(List Int)×Bool×(List Int)×Unit))
def pL (x1:pN) (again:pN→Option pM):Option pM:=
 bif decide (x1.2.1<x1.1) then
  chk (decide (0≤(w64 (x1.2.1+1)))&&decide ((w64 (x1.2.1+1))<(x1.2.2.2.2.2.1.length:Int))) <|
  Option.bind (x1.2.2.2.2.2.1[(w64 (x1.2.1+1)).toNat]?) fun y2=>
  chk (decide (0≤x1.2.1)&&decide (x1.2.1<(x1.2.2.2.2.2.1.length:Int))) <|
  Option.bind (x1.2.2.2.2.2.1[x1.2.1.toNat]?) fun y3=>
  chk (decide (0≤(w64 (x1.2.1+1)))&&decide ((w64 (x1.2.1+1))<(x1.2.2.2.2.2.1.length:Int))) <|
  Option.bind (x1.2.2.2.2.2.1[(w64 (x1.2.1+1)).toNat]?) fun _=>
  chk (decide (0≤x1.2.1)&&decide (x1.2.1<(List.length (List.set x1.2.2.2.2.2.1 (w64 (x1.2.1+1)).toNat (w64 (y2+(w64 (Int.tdiv y3 1000000))))):Int))) <|
  Option.bind ((List.set x1.2.2.2.2.2.1 (w64 (x1.2.1+1)).toNat (w64 (y2+(w64 (Int.tdiv y3 1000000)))))[x1.2.1.toNat]?) fun y4=>
  chk (decide (0≤x1.2.1)&&decide (x1.2.1<(List.length (List.set x1.2.2.2.2.2.1 (w64 (x1.2.1+1)).toNat (w64 (y2+(w64 (Int.tdiv y3 1000000))))):Int))) <|
  Option.bind ((List.set x1.2.2.2.2.2.1 (w64 (x1.2.1+1)).toNat (w64 (y2+(w64 (Int.tdiv y3 1000000)))))[x1.2.1.toNat]?) fun _=>
  again (x1.1,w64 (x1.2.1+1),x1.2.2.1,x1.2.2.2.1,x1.2.2.2.2.1,List.set (List.set x1.2.2.2.2.2.1 (w64 (x1.2.1+1)).toNat (w64 (y2+(w64 (Int.tdiv y3 1000000))))) x1.2.1.toNat (Int.tmod y4 1000000),())
 else
  some (Sum.inr (x1.2.2.1,x1.2.2.2.1,x1.2.2.2.2.1,x1.2.2.2.2.2.1,()))
def pK (a0:ak) (a1:ak):Option (ak×Unit):=
 let n1:Int:=w64 ((w64 (((a0.2.length:Int))+((a1.2.length:Int))))+1)
 chk (decide (0≤n1)&&decide (n1≤n1)&&decide ((8:Int)*n1≤281474976710656)&&decide (n1≤9223372036854775807)) <|
 bw (β:=(ak×Unit)) (γ:=(Bool×(List Int)×Bool×(List Int)×Unit)) (
  iter (X:=qV) (β:=qT) (a0.2.length+(Int.natAbs ((a0.2.length:Int))+(Int.natAbs (0:Int)+(a1.2.length+(List.length ([]:List Int)+(List.length ((List.replicate (Int.toNat n1) 0):List Int)+2)))))) (a0.2,(a0.2.length:Int),0,a1.1,a1.2,false,[], !(a0.1==a1.1),List.replicate (Int.toNat n1) 0,()) (qR)) fun v14=>
 bw (β:=(ak×Unit)) (γ:=(Bool×(List Int)×Bool×(List Int)×Unit)) (
  iter (X:=pN) (β:=pM) (Int.natAbs (w64 (((v14.2.2.2.1.length:Int)) - 1))+(Int.natAbs (0:Int)+(v14.2.1.length+(v14.2.2.2.1.length+2)))) (w64 (((v14.2.2.2.1.length:Int)) - 1),0,v14.1,v14.2.1,v14.2.2.1,v14.2.2.2.1,()) (pL)) fun v21=>
 Option.bind (kj (v21.2.2.1,v21.2.2.2.1)) fun r22=>
 some (r22.1,())
abbrev uN:Type:=Int×Int×Bool×(List Int)×Bool×(List Int)×Unit
abbrev uK:Type:=((ak×Unit) ⊕ (Bool×(List Int)×Bool×(List Int)×Unit))
def uJ (x1:uN) (again:uN→Option uK):Option uK:=
 bif decide (x1.2.1<x1.1) then
  Option.bind (DX 10) fun r2=>
  Option.bind (pK (x1.2.2.2.2.1,x1.2.2.2.2.2.1) r2.1) fun r3=>
  again (x1.1,w64 (x1.2.1+1),x1.2.2.1,x1.2.2.2.1,r3.1.1,r3.1.2,())
 else
  some (Sum.inr (x1.2.2.1,x1.2.2.2.1,x1.2.2.2.2.1,x1.2.2.2.2.2.1,()))
def xT (a0:Int):Option (ak×Unit):=
 Option.bind (DX 1) fun r1=>
 bw (β:=(ak×Unit)) (γ:=(Bool×(List Int)×Bool×(List Int)×Unit)) (
  iter (X:=uN) (β:=uK) (Int.natAbs a0+(Int.natAbs (0:Int)+(List.length ([]:List Int)+(r1.1.2.length+2)))) (a0,0,false,[],r1.1.1,r1.1.2,()) (uJ)) fun v5=>
 some ((v5.2.2.1,v5.2.2.2.1),())
def HA (a0:ai) (a1:Int):Option (ak×Unit):=
 Option.bind (DX a0.1) fun r1=>
 Option.bind (xT (w64 (a1 - a0.2))) fun r2=>
 Option.bind (pK r1.1 r2.1) fun r3=>
 some (r3.1,())
abbrev uP:Type:=(List Int)×(List Int)×Int×Unit
abbrev uO:Type:=((Int×Unit) ⊕ Unit)
def qA (x1:uP) (again:uP→Option uO):Option uO:=
 bif decide (x1.2.2.1≥0) then
  Option.bind (idx x1.1 x1.2.2.1) fun y2=>
  Option.bind (idx x1.2.1 x1.2.2.1) fun y3=>
  bif y2 != y3 then
   Option.bind (idx x1.1 x1.2.2.1) fun y4=>
   Option.bind (idx x1.2.1 x1.2.2.1) fun y5=>
   some (Sum.inl (w64 (y4 - y5),()))
  else
   again (x1.1,x1.2.1,w64 (x1.2.2.1 - 1),())
 else
  some (Sum.inr ())
def Bi (a0:List Int) (a1:List Int):Option (Int×Unit):=
 bif ((List.length a0:Int)) != ((List.length a1:Int)) then
  some (w64 (((List.length a0:Int)) - ((List.length a1:Int))),())
 else
  bw (β:=(Int×Unit)) (γ:=Unit) (
   iter (X:=uP) (β:=uO) (List.length a0+(List.length a1+(Int.natAbs (w64 (((List.length a0:Int)) - 1))+2))) (a0,a1,w64 (((List.length a0:Int)) - 1),()) (qA)) fun _=>
  some (0,())
def tW (a0:List Int) (a1:Int):Option (Int×Unit):=
 bif decide (a1<((List.length a0:Int))) then
  Option.bind (idx a0 a1) fun y1=>
  some (y1,())
 else
  some (0,())
abbrev sU:Type:=Int×Int×Int×Bool×(List Int)×Bool×(List Int)×Bool×(List Int)×Bool×(List Int)×Unit
abbrev sS:Type:=((ak×Unit) ⊕ (Bool×(List Int)×Bool×(List Int)×Unit))
def sR (x1:sU) (again:sU→Option sS):Option sS:=
 bif decide (x1.2.2.1<x1.2.1) then
  Option.bind (idx x1.2.2.2.2.1 x1.2.2.1) fun y2=>
  Option.bind (tW x1.2.2.2.2.2.2.1 x1.2.2.1) fun r3=>
  bw (β:=((ak×Unit) ⊕ (Bool×(List Int)×Bool×(List Int)×Unit))) (γ:=(Int×Int×Int×Int×Bool×(List Int)×Bool×(List Int)×Bool×(List Int)×Bool×(List Int)×Unit)) (
   bif decide ((w64 ((w64 (y2 - r3.1)) - x1.1))<0) then
    let n4:Int:=w64 ((w64 ((w64 (y2 - r3.1)) - x1.1))+1000000)
    some (Sum.inr (1,n4,x1.2.1,x1.2.2.1,x1.2.2.2.1,x1.2.2.2.2.1,x1.2.2.2.2.2.1,x1.2.2.2.2.2.2.1,x1.2.2.2.2.2.2.2.1,x1.2.2.2.2.2.2.2.2.1,x1.2.2.2.2.2.2.2.2.2.1,x1.2.2.2.2.2.2.2.2.2.2.1,()))
   else
    some (Sum.inr (0,w64 ((w64 (y2 - r3.1)) - x1.1),x1.2.1,x1.2.2.1,x1.2.2.2.1,x1.2.2.2.2.1,x1.2.2.2.2.2.1,x1.2.2.2.2.2.2.1,x1.2.2.2.2.2.2.2.1,x1.2.2.2.2.2.2.2.2.1,x1.2.2.2.2.2.2.2.2.2.1,x1.2.2.2.2.2.2.2.2.2.2.1,()))) fun v5=>
  chk (decide (((v5.2.2.2.2.2.2.2.2.2.2.2.1.length)+1)*8≤140737488355328)&&decide ((v5.2.2.2.2.2.2.2.2.2.2.2.1.length)+1≤maxLen)) <|
  again (v5.1,v5.2.2.1,w64 (v5.2.2.2.1+1),v5.2.2.2.2.1,v5.2.2.2.2.2.1,v5.2.2.2.2.2.2.1,v5.2.2.2.2.2.2.2.1,v5.2.2.2.2.2.2.2.2.1,v5.2.2.2.2.2.2.2.2.2.1,v5.2.2.2.2.2.2.2.2.2.2.1,v5.2.2.2.2.2.2.2.2.2.2.2.1++[v5.2.1],())
 else
  some (Sum.inr (x1.2.2.2.2.2.2.2.1,x1.2.2.2.2.2.2.2.2.1,x1.2.2.2.2.2.2.2.2.2.1,x1.2.2.2.2.2.2.2.2.2.2.1,()))
abbrev uI:Type:=Int×Int×Int×Bool×(List Int)×Bool×(List Int)×Bool×(List Int)×Bool×(List Int)×Unit
abbrev uH:Type:=((ak×Unit) ⊕ (Bool×(List Int)×Bool×(List Int)×Unit))
def uG (x1:uI) (again:uI→Option uH):Option uH:=
 bif decide (x1.2.2.1<x1.2.1) then
  Option.bind (tW x1.2.2.2.2.1 x1.2.2.1) fun r2=>
  Option.bind (tW x1.2.2.2.2.2.2.1 x1.2.2.1) fun r3=>
  let n4:Int:=Int.tmod (w64 ((w64 (r2.1+r3.1))+x1.1)) 1000000
  chk (decide (((x1.2.2.2.2.2.2.2.2.2.2.1.length)+1)*8≤140737488355328)&&decide ((x1.2.2.2.2.2.2.2.2.2.2.1.length)+1≤maxLen)) <|
  let n5:Int:=w64 (Int.tdiv (w64 ((w64 (r2.1+r3.1))+x1.1)) 1000000)
  again (n5,x1.2.1,w64 (x1.2.2.1+1),x1.2.2.2.1,x1.2.2.2.2.1,x1.2.2.2.2.2.1,x1.2.2.2.2.2.2.1,x1.2.2.2.2.2.2.2.1,x1.2.2.2.2.2.2.2.2.1,x1.2.2.2.2.2.2.2.2.2.1,x1.2.2.2.2.2.2.2.2.2.2.1++[n4],())
 else
  some (Sum.inr (x1.2.2.2.2.2.2.2.1,x1.2.2.2.2.2.2.2.2.1,x1.2.2.2.2.2.2.2.2.2.1,x1.2.2.2.2.2.2.2.2.2.2.1,()))
def DY (a0:ak) (a1:ak):Option (ak×Unit):=
 bif !(a0.1==a1.1) then
  Option.bind (Bi a0.2 a1.2) fun r1=>
  bw (β:=(ak×Unit)) (γ:=(Bool×(List Int)×Bool×(List Int)×Bool×(List Int)×Unit)) (
   bif decide (r1.1<0) then
    some (Sum.inr (a1.1,a1.2,a0.1,a0.2,false,[],()))
   else
    some (Sum.inr (a0.1,a0.2,a1.1,a1.2,false,[],()))) fun v2=>
  bw (β:=(ak×Unit)) (γ:=(Bool×(List Int)×Bool×(List Int)×Unit)) (
   iter (X:=sU) (β:=sS) (Int.natAbs (0:Int)+(Int.natAbs ((v2.2.1.length:Int))+(Int.natAbs (0:Int)+(v2.2.1.length+(v2.2.2.2.1.length+(v2.2.2.2.2.2.1.length+(List.length ([]:List Int)+2))))))) (0,(v2.2.1.length:Int),0,v2.1,v2.2.1,v2.2.2.1,v2.2.2.2.1,v2.2.2.2.2.1,v2.2.2.2.2.2.1,v2.1,[],()) (sR)) fun v8=>
  Option.bind (kj (v8.2.2.1,v8.2.2.2.1)) fun r9=>
  some (r9.1,())
 else
  let n10:Int:=w64 ((if ((a1.2.length:Int))>((a0.2.length:Int)) then ((a1.2.length:Int)) else ((a0.2.length:Int)))+1)
  bw (β:=(ak×Unit)) (γ:=(Bool×(List Int)×Bool×(List Int)×Unit)) (
   iter (X:=uI) (β:=uH) (Int.natAbs (0:Int)+(Int.natAbs n10+(Int.natAbs (0:Int)+(a0.2.length+(a1.2.length+(List.length ([]:List Int)+(List.length ([]:List Int)+2))))))) (0,n10,0,a0.1,a0.2,a1.1,a1.2,false,[],a0.1,[],()) (uG)) fun v16=>
  Option.bind (kj (v16.2.2.1,v16.2.2.2.1)) fun r17=>
  some (r17.1,())
def Bh (a0:ak):Option (ak×Unit):=
 bif decide (((a0.2.length:Int))>0) then
  some ((!a0.1,a0.2),())
 else
  some (a0,())
def DZ (a0:ak):Option (Int×Unit):=
 bif ((a0.2.length:Int))==0 then
  some (0,())
 else
  bif a0.1 then
   some ((-1),())
  else
   some (1,())
def HB (a0:ak) (a1:ak):Option (Int×Unit):=
 Option.bind (Bh a1) fun r1=>
 Option.bind (DY a0 r1.1) fun r2=>
 Option.bind (DZ r2.1) fun r3=>
 some (r3.1,())
end Go.Md
namespace Go.Md
open Go.Dn
end Go.Md
