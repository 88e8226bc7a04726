/-
  The plain models of the functions that the law reaches, first part. No condition.
-/
import Derived.Test.YtnamfglkolhhgabGreatDoorYd
import Derived.Lib.SlTrimSet
set_option linter.all false
namespace Go.Md
open Go.Dn
def jd (s c:List UInt8):Option (List UInt8×Unit):=
 bif decide (s.length≤9223372036854775807)&&(decide (c.length<4294967281)&&c.all fun b=>decide (b.toNat<128)) then some (Lib.trimS s c,()) else none
abbrev bK:Ty:=(.st (.pair tI tI))
abbrev ai:Type:=Int×Int
abbrev N3:Type:=Int×ai×(List (List UInt8))
abbrev bf:Ty:=(.st (.pair .bool (.slice tI)))
abbrev au:Type:=Bool×(List Int)
abbrev nQ:Type:=(List UInt8)×Int×ai×Int×Int×Int
abbrev o8:Type:=nQ×Int×Int×Int×Int
abbrev eS:Ty:=(.st (.pair .bool (.slice (.int .u32))))
abbrev bY:Type:=Bool×(List Int)
def gH (a0:List UInt8):Option (Bool×Unit):=
 bif decide (((List.length a0:Int))<1) then
  some (false,())
 else
  bif decide (((List.length a0:Int))>40) then
   some (false,())
  else
   Option.bind (nA a0 0) fun c1=>
   bif decide ((c1.toNat:Int)<97) then
    some (false,())
   else
    Option.bind (nA a0 0) fun c2=>
    bif decide ((c2.toNat:Int)>122) then
     some (false,())
    else
     Option.bind (jd a0 [97,98,99,100,101,102,103,104,105,106,107,108,109,110,111,112,113,114,115,116,117,118,119,120,121,122,48,49,50,51,52,53,54,55,56,57,45]) fun r3=>
     some (r3.1==[],())
def kr (a0:Int) (a1:Int) (a2:Int):Option (Bool×Unit):=
 bif decide (a0<a1) then
  some (true,())
 else
  some (decide (a0>a2),())
def Bq (a0:Int):Option (Bool×Unit):=
 Option.bind (kr a0 1 3652059) fun r1=>
 some (!r1.1,())
def iA (a0:ai):Option (Int×Unit):=
 Option.bind (kr a0.1 (-1000000000000000) 1000000000000000) fun r1=>
 bif r1.1 then
  some (1,())
 else
  Option.bind (kr a0.2 0 9) fun r2=>
  bif r2.1 then
   some (1,())
  else
   some (0,())
abbrev su:Type:=Int×Int×Int×Unit
abbrev sr:Type:=((Int×Unit) ⊕ (Int×Unit))
def sk (x1:su) (again:su→Option sr):Option sr:=
 bif decide (x1.2.2.1<x1.2.1) then
  again (w64 (x1.1*10),x1.2.1,w64 (x1.2.2.1+1),())
 else
  some (Sum.inr (x1.1,()))
def JW (a0:Int):Option (Int×Unit):=
 aR (β:=(Int×Unit)) (γ:=(Int×Unit)) (
  iter (X:=su) (β:=sr) (Int.natAbs (1:Int)+(Int.natAbs a0+(Int.natAbs (0:Int)+2))) (1,a0,0,()) (sk)) fun v2=>
 some (v2.1,())
abbrev fI:Type:=(List (List UInt8))×(List UInt8)×Int×Int×Unit
abbrev fH:Type:=((Int×Unit) ⊕ Unit)
def fG (x1:fI) (again:fI→Option fH):Option fH:=
 bif decide (x1.2.2.2.1<x1.2.2.1) then
  Option.bind (idx x1.1 x1.2.2.2.1) fun y2=>
  bif x1.2.1==y2 then
   some (Sum.inl (x1.2.2.2.1,()))
  else
   again (x1.1,x1.2.1,x1.2.2.1,w64 (x1.2.2.2.1+1),())
 else
  some (Sum.inr ())
def pL (a0:List (List UInt8)) (a1:List UInt8):Option (Int×Unit):=
 aR (β:=(Int×Unit)) (γ:=Unit) (
  iter (X:=fI) (β:=fH) (List.length a0+(List.length a1+(Int.natAbs ((List.length a0:Int))+(Int.natAbs (0:Int)+2)))) (a0,a1,(List.length a0:Int),0,()) (fG)) fun _=>
 some ((-1),())
def iO (a0:List (List UInt8)) (a1:List UInt8):Option (Bool×Unit):=
 Option.bind (pL a0 a1) fun r1=>
 some (decide (r1.1≥0),())
abbrev kM:Type:=(List Int)×Unit
abbrev tW:Type:=(((List Int)×Unit) ⊕ ((List Int)×Unit))
def tV (x1:kM) (again:kM→Option tW):Option tW:=
 bif decide (((x1.1.length:Int))>0) then
  Option.bind (idx x1.1 (w64 (((x1.1.length:Int)) - 1))) fun y2=>
  bif y2==0 then
   chk (decide (0≤(0:Int))&&decide ((0:Int)≤(w64 (((x1.1.length:Int)) - 1)))&&decide ((w64 (((x1.1.length:Int)) - 1))≤(x1.1.length:Int))) <|
   again (List.drop 0 (List.take (Int.toNat (w64 (((x1.1.length:Int)) - 1))) x1.1),())
  else
   some (Sum.inr (x1.1,()))
 else
  some (Sum.inr (x1.1,()))
def oZ (a0:List Int):Option ((List Int)×Unit):=
 aR (β:=((List Int)×Unit)) (γ:=((List Int)×Unit)) (
  iter (X:=kM) (β:=tW) (List.length a0+2) (a0,()) (tV)) fun v3=>
 some (v3.1,())
def kj (a0:Bool) (a1:List Int):Option (bY×Unit):=
 Option.bind (oZ a1) fun r1=>
 bif a0 then
  some ((decide (((r1.1.length:Int))>0),r1.1),())
 else
  some ((false,r1.1),())
def wJ (a0:Int):Option (bY×Unit):=
 aR (β:=(bY×Unit)) (γ:=(Int×Int×Bool×(List Int)×Unit)) (
  bif decide (a0<0) then
   some (Sum.inr (a0,bH (0 - (bH a0)),false,[],()))
  else
   some (Sum.inr (a0,bH a0,false,[],()))) fun v1=>
 Option.bind (kj (decide (v1.1<0)) [(qS v1.2.1),(qS (Int.fdiv v1.2.1 (2 ^ 32)))]) fun r2=>
 some (r2.1,())
abbrev qR:Type:=(List Int)×(List Int)×Int×(List Int)×Int×Int×Unit
abbrev qQ:Type:=(((List Int)×Unit) ⊕ ((List Int)×Int×Unit))
def qP (x1:qR) (again:qR→Option qQ):Option qQ:=
 bif decide (x1.2.2.2.2.2.1<x1.2.2.2.2.1) then
  Option.bind (idx x1.2.2.2.1 x1.2.2.2.2.2.1) fun y2=>
  aR (β:=(((List Int)×Unit) ⊕ ((List Int)×Int×Unit))) (γ:=((List Int)×(List Int)×Int×(List Int)×Int×Int×Unit)) (
   bif decide (x1.2.2.2.2.2.1<((x1.1.length:Int))) then
    Option.bind (idx x1.1 x1.2.2.2.2.2.1) fun y3=>
    let n4:Int:=bH ((bH (x1.2.2.1+(bH y2)))+(bH y3))
    some (Sum.inr (x1.1,x1.2.1,n4,x1.2.2.2.1,x1.2.2.2.2.1,x1.2.2.2.2.2.1,()))
   else
    some (Sum.inr (x1.1,x1.2.1,bH (x1.2.2.1+(bH y2)),x1.2.2.2.1,x1.2.2.2.2.1,x1.2.2.2.2.2.1,()))) fun v5=>
  chk (decide (((v5.2.1.length)+1)*4≤140737488355328)&&decide ((v5.2.1.length)+1≤maxLen)) <|
  again (v5.1,v5.2.1++[(qS v5.2.2.1)],Int.fdiv v5.2.2.1 (2 ^ 32),v5.2.2.2.1,v5.2.2.2.2.1,w64 (v5.2.2.2.2.2.1+1),())
 else
  some (Sum.inr (x1.2.1,x1.2.2.1,()))
def G7 (a0:List Int) (a1:List Int):Option ((List Int)×Unit):=
 aR (β:=((List Int)×Unit)) (γ:=((List Int)×(List Int)×Unit)) (
  bif decide (((List.length a0:Int))<((List.length a1:Int))) then
   some (Sum.inr (a1,a0,()))
  else
   some (Sum.inr (a0,a1,()))) fun v1=>
 chk (decide (0≤(0:Int))&&decide ((0:Int)≤(w64 (((v1.1.length:Int))+1)))&&decide ((4:Int)*(w64 (((v1.1.length:Int))+1))≤281474976710656)&&decide ((w64 (((v1.1.length:Int))+1))≤9223372036854775807)) <|
 aR (β:=((List Int)×Unit)) (γ:=((List Int)×Int×Unit)) (
  iter (X:=qR) (β:=qQ) (v1.2.1.length+(List.length ([]:List Int)+(Int.natAbs (0:Int)+(v1.1.length+(Int.natAbs ((v1.1.length:Int))+(Int.natAbs (0:Int)+2)))))) (v1.2.1,[],0,v1.1,(v1.1.length:Int),0,()) (qP)) fun v7=>
 chk (decide (((v7.1.length)+1)*4≤140737488355328)&&decide ((v7.1.length)+1≤maxLen)) <|
 some (v7.1++[(qS v7.2.1)],())
abbrev oF:Type:=(List Int)×(List Int)×Int×Unit
abbrev oE:Type:=((Int×Unit) ⊕ Unit)
def kL (x1:oF) (again:oF→Option oE):Option oE:=
 bif decide (x1.2.2.1≥0) then
  Option.bind (idx x1.1 x1.2.2.1) fun y2=>
  Option.bind (idx x1.2.1 x1.2.2.1) fun y3=>
  bif y2 != y3 then
   Option.bind (idx x1.1 x1.2.2.1) fun y4=>
   Option.bind (idx x1.2.1 x1.2.2.1) fun y5=>
   bif decide (y4<y5) then
    some (Sum.inl ((-1),()))
   else
    some (Sum.inl (1,()))
  else
   again (x1.1,x1.2.1,w64 (x1.2.2.1 - 1),())
 else
  some (Sum.inr ())
def tc (a0:List Int) (a1:List Int):Option (Int×Unit):=
 bif ((List.length a0:Int)) != ((List.length a1:Int)) then
  some (w64 (((List.length a0:Int)) - ((List.length a1:Int))),())
 else
  aR (β:=(Int×Unit)) (γ:=Unit) (
   iter (X:=oF) (β:=oE) (List.length a0+(List.length a1+(Int.natAbs (w64 (((List.length a0:Int)) - 1))+2))) (a0,a1,w64 (((List.length a0:Int)) - 1),()) (kL)) fun _=>
  some (0,())
abbrev th:Type:=(List Int)×(List Int)×Int×(List Int)×Int×Int×Unit
abbrev tg:Type:=(((List Int)×Unit) ⊕ ((List Int)×Unit))
def td (x1:th) (again:th→Option tg):Option tg:=
 bif decide (x1.2.2.2.2.2.1<x1.2.2.2.2.1) then
  Option.bind (idx x1.2.2.2.1 x1.2.2.2.2.2.1) fun y2=>
  aR (β:=(((List Int)×Unit) ⊕ ((List Int)×Unit))) (γ:=((List Int)×(List Int)×Int×(List Int)×Int×Int×Unit)) (
   bif decide (x1.2.2.2.2.2.1<((x1.1.length:Int))) then
    Option.bind (idx x1.1 x1.2.2.2.2.2.1) fun y3=>
    let n4:Int:=bH ((bH ((bH y2) - x1.2.2.1)) - (bH y3))
    some (Sum.inr (x1.1,x1.2.1,n4,x1.2.2.2.1,x1.2.2.2.2.1,x1.2.2.2.2.2.1,()))
   else
    some (Sum.inr (x1.1,x1.2.1,bH ((bH y2) - x1.2.2.1),x1.2.2.2.1,x1.2.2.2.2.1,x1.2.2.2.2.2.1,()))) fun v5=>
  chk (decide (((v5.2.1.length)+1)*4≤140737488355328)&&decide ((v5.2.1.length)+1≤maxLen)) <|
  again (v5.1,v5.2.1++[(qS v5.2.2.1)],bH (((BitVec.ofInt (IntKind.bits .u64) (Int.fdiv v5.2.2.1 (2 ^ 32)) &&& BitVec.ofInt (IntKind.bits .u64) 1).toNat:Int)),v5.2.2.2.1,v5.2.2.2.2.1,w64 (v5.2.2.2.2.2.1+1),())
 else
  some (Sum.inr (x1.2.1,()))
def vn (a0:List Int) (a1:List Int):Option ((List Int)×Unit):=
 chk (decide (0≤(0:Int))&&decide ((0:Int)≤((List.length a0:Int)))&&decide ((4:Int)*((List.length a0:Int))≤281474976710656)&&decide (((List.length a0:Int))≤9223372036854775807)) <|
 aR (β:=((List Int)×Unit)) (γ:=((List Int)×Unit)) (
  iter (X:=th) (β:=tg) (List.length a1+(List.length ([]:List Int)+(Int.natAbs (0:Int)+(List.length a0+(Int.natAbs ((List.length a0:Int))+(Int.natAbs (0:Int)+2)))))) (a1,[],0,a0,(List.length a0:Int),0,()) (td)) fun v6=>
 Option.bind (oZ v6.1) fun r7=>
 some (r7.1,())
abbrev oD:Type:=Int×Int×(List Int)×Int×Int×Bool×(List Int)×Unit
abbrev oC:Type:=((Int×Bool×Unit) ⊕ (Int×Int×Bool×(List Int)×Unit))
def oB (x1:oD) (again:oD→Option oC):Option oC:=
 bif decide (x1.2.2.2.2.1<x1.2.2.2.1) then
  Option.bind (idx x1.2.2.1 x1.2.2.2.2.1) fun y2=>
  chk (decide (0≤(w64 (32*x1.2.2.2.2.1)))) <|
  let n3:Int:=bH ((bH y2)*2 ^ (min (Int.toNat (w64 (32*x1.2.2.2.2.1))) (IntKind.bits .u64)))
  again (x1.1,bH (((BitVec.ofInt (IntKind.bits .u64) x1.2.1 ||| BitVec.ofInt (IntKind.bits .u64) n3).toNat:Int)),x1.2.2.1,x1.2.2.2.1,w64 (x1.2.2.2.2.1+1),x1.2.2.2.2.2.1,x1.2.2.2.2.2.2.1,())
 else
  some (Sum.inr (x1.1,x1.2.1,x1.2.2.2.2.2.1,x1.2.2.2.2.2.2.1,()))
def s9 (a0:bY) (a1:Int):Option (Int×Bool×Unit):=
 bif decide (((a0.2.length:Int))>2) then
  some (0,false,())
 else
  aR (β:=(Int×Bool×Unit)) (γ:=(Int×Int×Bool×(List Int)×Unit)) (
   iter (X:=oD) (β:=oC) (Int.natAbs a1+(Int.natAbs (0:Int)+(a0.2.length+(Int.natAbs ((a0.2.length:Int))+(Int.natAbs (0:Int)+(a0.2.length+2)))))) (a1,0,a0.2,(a0.2.length:Int),0,a0.1,a0.2,()) (oB)) fun v4=>
  bif decide (v4.2.1>(bH v4.1)) then
   some (0,false,())
  else
   bif v4.2.2.1 then
    some (w64 (0 - (w64 v4.2.1)),true,())
   else
    some (w64 v4.2.1,true,())
def wQ (a0:bY) (a1:Int):Option (ai×Int×Unit):=
 Option.bind (s9 a0 1000000000000000) fun r1=>
 bif !r1.2.1 then
  some ((0,0),1,())
 else
  some ((r1.1,a1),0,())
abbrev As:Type:=Int×Bool×(List Int)×Bool×(List Int)×Unit
abbrev Ar:Type:=((au×Unit) ⊕ (Bool×(List Int)×Bool×(List Int)×Unit))
def tJ (x1:As) (again:As→Option Ar):Option Ar:=
 bif x1.1 != 0 then
  chk (decide (((x1.2.2.2.2.1.length)+1)*8≤140737488355328)&&decide ((x1.2.2.2.2.1.length)+1≤maxLen)) <|
  again (w64 (Int.tdiv x1.1 1000000),x1.2.1,x1.2.2.1,x1.2.2.2.1,x1.2.2.2.2.1++[(if (w64 (0 - (Int.tmod x1.1 1000000)))>(Int.tmod x1.1 1000000) then (w64 (0 - (Int.tmod x1.1 1000000))) else (Int.tmod x1.1 1000000))],())
 else
  some (Sum.inr (x1.2.1,x1.2.2.1,x1.2.2.2.1,x1.2.2.2.2.1,()))
def Ed (a0:Int):Option (au×Unit):=
 aR (β:=(au×Unit)) (γ:=(Bool×(List Int)×Bool×(List Int)×Unit)) (
  iter (X:=As) (β:=Ar) (Int.natAbs a0+(List.length ([]:List Int)+(List.length ([]:List Int)+2))) (a0,false,[],decide (a0<0),[],()) (tJ)) fun v2=>
 some ((v2.2.2.1,v2.2.2.2.1),())
abbrev oU:Type:=Bool×(List Int)×Bool×(List Int)×Unit
abbrev yA:Type:=((au×Unit) ⊕ (Bool×(List Int)×Bool×(List Int)×Unit))
def yz (x1:oU) (again:oU→Option yA):Option yA:=
 bif decide (((x1.2.1.length:Int))>0) then
  Option.bind (idx x1.2.1 (w64 (((x1.2.1.length:Int)) - 1))) fun y2=>
  bif y2==0 then
   chk (decide (0≤(0:Int))&&decide ((0:Int)≤(w64 (((x1.2.1.length:Int)) - 1)))&&decide ((w64 (((x1.2.1.length:Int)) - 1))≤(x1.2.1.length:Int))) <|
   again (x1.1,List.drop 0 (List.take (Int.toNat (w64 (((x1.2.1.length:Int)) - 1))) x1.2.1),x1.2.2.1,x1.2.2.2.1,())
  else
   some (Sum.inr (x1.1,x1.2.1,x1.2.2.1,x1.2.2.2.1,()))
 else
  some (Sum.inr (x1.1,x1.2.1,x1.2.2.1,x1.2.2.2.1,()))
def mc (a0:au):Option (au×Unit):=
 aR (β:=(au×Unit)) (γ:=(Bool×(List Int)×Bool×(List Int)×Unit)) (
  iter (X:=oU) (β:=yA) (a0.2.length+(List.length ([]:List Int)+2)) (a0.1,a0.2,false,[],()) (yz)) fun v3=>
 bif ((v3.2.1.length:Int))==0 then
  some ((false,v3.2.1),())
 else
  some ((v3.1,v3.2.1),())
abbrev sV:Type:=Int×Int×(List Int)×Int×Int×(List Int)×Int×Int×Bool×(List Int)×Bool×(List Int)×Bool×(List Int)×Unit
abbrev sS:Type:=(((au×Unit) ⊕ (Bool×(List Int)×Bool×(List Int)×Unit)) ⊕ ((List Int)×Int×Int×Bool×(List Int)×Bool×(List Int)×Bool×(List Int)×Unit))
def sQ (x1:sV) (again:sV→Option sS):Option sS:=
 bif decide (x1.2.2.2.2.2.2.2.1<x1.2.2.2.2.2.2.1) then
  Option.bind (idx x1.2.2.2.2.2.1 x1.2.2.2.2.2.2.2.1) fun y2=>
  chk (decide (0≤(w64 (x1.1+x1.2.2.2.2.2.2.2.1)))&&decide ((w64 (x1.1+x1.2.2.2.2.2.2.2.1))<(x1.2.2.2.2.2.2.2.2.2.2.2.2.2.1.length:Int))) <|
  Option.bind (x1.2.2.2.2.2.2.2.2.2.2.2.2.2.1[(w64 (x1.1+x1.2.2.2.2.2.2.2.1)).toNat]?) fun y3=>
  chk (decide (0≤(w64 (x1.1+x1.2.2.2.2.2.2.2.1)))&&decide ((w64 (x1.1+x1.2.2.2.2.2.2.2.1))<(x1.2.2.2.2.2.2.2.2.2.2.2.2.2.1.length:Int))) <|
  Option.bind (x1.2.2.2.2.2.2.2.2.2.2.2.2.2.1[(w64 (x1.1+x1.2.2.2.2.2.2.2.1)).toNat]?) fun _=>
  chk (decide (0≤(w64 ((w64 (x1.1+x1.2.2.2.2.2.2.2.1))+1)))&&decide ((w64 ((w64 (x1.1+x1.2.2.2.2.2.2.2.1))+1))<(List.length (List.set x1.2.2.2.2.2.2.2.2.2.2.2.2.2.1 (w64 (x1.1+x1.2.2.2.2.2.2.2.1)).toNat (w64 (y3+(w64 (x1.2.1*y2))))):Int))) <|
  Option.bind ((List.set x1.2.2.2.2.2.2.2.2.2.2.2.2.2.1 (w64 (x1.1+x1.2.2.2.2.2.2.2.1)).toNat (w64 (y3+(w64 (x1.2.1*y2)))))[(w64 ((w64 (x1.1+x1.2.2.2.2.2.2.2.1))+1)).toNat]?) fun y4=>
  chk (decide (0≤(w64 (x1.1+x1.2.2.2.2.2.2.2.1)))&&decide ((w64 (x1.1+x1.2.2.2.2.2.2.2.1))<(List.length (List.set x1.2.2.2.2.2.2.2.2.2.2.2.2.2.1 (w64 (x1.1+x1.2.2.2.2.2.2.2.1)).toNat (w64 (y3+(w64 (x1.2.1*y2))))):Int))) <|
  Option.bind ((List.set x1.2.2.2.2.2.2.2.2.2.2.2.2.2.1 (w64 (x1.1+x1.2.2.2.2.2.2.2.1)).toNat (w64 (y3+(w64 (x1.2.1*y2)))))[(w64 (x1.1+x1.2.2.2.2.2.2.2.1)).toNat]?) fun y5=>
  chk (decide (0≤(w64 ((w64 (x1.1+x1.2.2.2.2.2.2.2.1))+1)))&&decide ((w64 ((w64 (x1.1+x1.2.2.2.2.2.2.2.1))+1))<(List.length (List.set x1.2.2.2.2.2.2.2.2.2.2.2.2.2.1 (w64 (x1.1+x1.2.2.2.2.2.2.2.1)).toNat (w64 (y3+(w64 (x1.2.1*y2))))):Int))) <|
  Option.bind ((List.set x1.2.2.2.2.2.2.2.2.2.2.2.2.2.1 (w64 (x1.1+x1.2.2.2.2.2.2.2.1)).toNat (w64 (y3+(w64 (x1.2.1*y2)))))[(w64 ((w64 (x1.1+x1.2.2.2.2.2.2.2.1))+1)).toNat]?) fun _=>
  chk (decide (0≤(w64 (x1.1+x1.2.2.2.2.2.2.2.1)))&&decide ((w64 (x1.1+x1.2.2.2.2.2.2.2.1))<(List.length (List.set (List.set x1.2.2.2.2.2.2.2.2.2.2.2.2.2.1 (w64 (x1.1+x1.2.2.2.2.2.2.2.1)).toNat (w64 (y3+(w64 (x1.2.1*y2))))) (w64 ((w64 (x1.1+x1.2.2.2.2.2.2.2.1))+1)).toNat (w64 (y4+(w64 (Int.tdiv y5 1000000))))):Int))) <|
  Option.bind ((List.set (List.set x1.2.2.2.2.2.2.2.2.2.2.2.2.2.1 (w64 (x1.1+x1.2.2.2.2.2.2.2.1)).toNat (w64 (y3+(w64 (x1.2.1*y2))))) (w64 ((w64 (x1.1+x1.2.2.2.2.2.2.2.1))+1)).toNat (w64 (y4+(w64 (Int.tdiv y5 1000000)))))[(w64 (x1.1+x1.2.2.2.2.2.2.2.1)).toNat]?) fun y6=>
  chk (decide (0≤(w64 (x1.1+x1.2.2.2.2.2.2.2.1)))&&decide ((w64 (x1.1+x1.2.2.2.2.2.2.2.1))<(List.length (List.set (List.set x1.2.2.2.2.2.2.2.2.2.2.2.2.2.1 (w64 (x1.1+x1.2.2.2.2.2.2.2.1)).toNat (w64 (y3+(w64 (x1.2.1*y2))))) (w64 ((w64 (x1.1+x1.2.2.2.2.2.2.2.1))+1)).toNat (w64 (y4+(w64 (Int.tdiv y5 1000000))))):Int))) <|
  Option.bind ((List.set (List.set x1.2.2.2.2.2.2.2.2.2.2.2.2.2.1 (w64 (x1.1+x1.2.2.2.2.2.2.2.1)).toNat (w64 (y3+(w64 (x1.2.1*y2))))) (w64 ((w64 (x1.1+x1.2.2.2.2.2.2.2.1))+1)).toNat (w64 (y4+(w64 (Int.tdiv y5 1000000)))))[(w64 (x1.1+x1.2.2.2.2.2.2.2.1)).toNat]?) fun _=>
  again (x1.1,x1.2.1,x1.2.2.1,x1.2.2.2.1,x1.2.2.2.2.1,x1.2.2.2.2.2.1,x1.2.2.2.2.2.2.1,w64 (x1.2.2.2.2.2.2.2.1+1),x1.2.2.2.2.2.2.2.2.1,x1.2.2.2.2.2.2.2.2.2.1,x1.2.2.2.2.2.2.2.2.2.2.1,x1.2.2.2.2.2.2.2.2.2.2.2.1,x1.2.2.2.2.2.2.2.2.2.2.2.2.1,List.set (List.set (List.set x1.2.2.2.2.2.2.2.2.2.2.2.2.2.1 (w64 (x1.1+x1.2.2.2.2.2.2.2.1)).toNat (w64 (y3+(w64 (x1.2.1*y2))))) (w64 ((w64 (x1.1+x1.2.2.2.2.2.2.2.1))+1)).toNat (w64 (y4+(w64 (Int.tdiv y5 1000000))))) (w64 (x1.1+x1.2.2.2.2.2.2.2.1)).toNat (Int.tmod y6 1000000),())
 else
  some (Sum.inr (x1.2.2.1,x1.2.2.2.1,x1.2.2.2.2.1,x1.2.2.2.2.2.2.2.2.1,x1.2.2.2.2.2.2.2.2.2.1,x1.2.2.2.2.2.2.2.2.2.2.1,x1.2.2.2.2.2.2.2.2.2.2.2.1,x1.2.2.2.2.2.2.2.2.2.2.2.2.1,x1.2.2.2.2.2.2.2.2.2.2.2.2.2.1,()))
abbrev sU:Type:=(List Int)×Int×Int×Bool×(List Int)×Bool×(List Int)×Bool×(List Int)×Unit
abbrev sR:Type:=((au×Unit) ⊕ (Bool×(List Int)×Bool×(List Int)×Unit))
def sP (x1:sU) (again:sU→Option sR):Option sR:=
 bif decide (x1.2.2.1<x1.2.1) then
  Option.bind (idx x1.1 x1.2.2.1) fun y2=>
  aR (β:=((au×Unit) ⊕ (Bool×(List Int)×Bool×(List Int)×Unit))) (γ:=((List Int)×Int×Int×Bool×(List Int)×Bool×(List Int)×Bool×(List Int)×Unit)) (
   iter (X:=sV) (β:=sS) (x1.2.2.1.natAbs+(Int.natAbs y2+(x1.1.length+(x1.2.1.natAbs+(x1.2.2.1.natAbs+(x1.2.2.2.2.1.length+(Int.natAbs ((x1.2.2.2.2.1.length:Int))+(Int.natAbs (0:Int)+(x1.2.2.2.2.1.length+(x1.2.2.2.2.2.2.1.length+(x1.2.2.2.2.2.2.2.2.1.length+2))))))))))) (x1.2.2.1,y2,x1.1,x1.2.1,x1.2.2.1,x1.2.2.2.2.1,(x1.2.2.2.2.1.length:Int),0,x1.2.2.2.1,x1.2.2.2.2.1,x1.2.2.2.2.2.1,x1.2.2.2.2.2.2.1,x1.2.2.2.2.2.2.2.1,x1.2.2.2.2.2.2.2.2.1,()) (sQ)) fun v3=>
  again (v3.1,v3.2.1,w64 (v3.2.2.1+1),v3.2.2.2.1,v3.2.2.2.2.1,v3.2.2.2.2.2.1,v3.2.2.2.2.2.2.1,v3.2.2.2.2.2.2.2.1,v3.2.2.2.2.2.2.2.2.1,())
 else
  some (Sum.inr (x1.2.2.2.2.2.1,x1.2.2.2.2.2.2.1,x1.2.2.2.2.2.2.2.1,x1.2.2.2.2.2.2.2.2.1,()))
abbrev rB:Type:=Int×Int×Bool×(List Int)×Bool×(List Int)×Unit
abbrev rA:Type:=((au×Unit) ⊕ (Bool×(List Int)×Bool×(List Int)×Unit))
def rz (x1:rB) (again:rB→Option rA):Option rA:=
 bif decide (x1.2.1<x1.1) then
  chk (decide (0≤(w64 (x1.2.1+1)))&&decide ((w64 (x1.2.1+1))<(x1.2.2.2.2.2.1.length:Int))) <|
  Option.bind (x1.2.2.2.2.2.1[(w64 (x1.2.1+1)).toNat]?) fun y2=>
  chk (decide (0≤x1.2.1)&&decide (x1.2.1<(x1.2.2.2.2.2.1.length:Int))) <|
  Option.bind (x1.2.2.2.2.2.1[x1.2.1.toNat]?) fun y3=>
  chk (decide (0≤(w64 (x1.2.1+1)))&&decide ((w64 (x1.2.1+1))<(x1.2.2.2.2.2.1.length:Int))) <|
  Option.bind (x1.2.2.2.2.2.1[(w64 (x1.2.1+1)).toNat]?) fun _=>
  chk (decide (0≤x1.2.1)&&decide (x1.2.1<(List.length (List.set x1.2.2.2.2.2.1 (w64 (x1.2.1+1)).toNat (w64 (y2+(w64 (Int.tdiv y3 1000000))))):Int))) <|
  Option.bind ((List.set x1.2.2.2.2.2.1 (w64 (x1.2.1+1)).toNat (w64 (y2+(w64 (Int.tdiv y3 1000000)))))[x1.2.1.toNat]?) fun y4=>
  chk (decide (0≤x1.2.1)&&decide (x1.2.1<(List.length (List.set x1.2.2.2.2.2.1 (w64 (x1.2.1+1)).toNat (w64 (y2+(w64 (Int.tdiv y3 1000000))))):Int))) <|
  Option.bind ((List.set x1.2.2.2.2.2.1 (w64 (x1.2.1+1)).toNat (w64 (y2+(w64 (Int.tdiv y3 1000000)))))[x1.2.1.toNat]?) fun _=>
  again (x1.1,w64 (x1.2.1+1),x1.2.2.1,x1.2.2.2.1,x1.2.2.2.2.1,List.set (List.set x1.2.2.2.2.2.1 (w64 (x1.2.1+1)).toNat (w64 (y2+(w64 (Int.tdiv y3 1000000))))) x1.2.1.toNat (Int.tmod y4 1000000),())
 else
  some (Sum.inr (x1.2.2.1,x1.2.2.2.1,x1.2.2.2.2.1,x1.2.2.2.2.2.1,()))
def ry (a0:au) (a1:au):Option (au×Unit):=
 let n1:Int:=w64 ((w64 (((a0.2.length:Int))+((a1.2.length:Int))))+1)
 chk (decide (0≤n1)&&decide (n1≤n1)&&decide ((8:Int)*n1≤281474976710656)&&decide (n1≤9223372036854775807)) <|
 aR (β:=(au×Unit)) (γ:=(Bool×(List Int)×Bool×(List Int)×Unit)) (
  iter (X:=sU) (β:=sR) (a0.2.length+(Int.natAbs ((a0.2.length:Int))+(Int.natAbs (0:Int)+(a1.2.length+(List.length ([]:List Int)+(List.length ((List.replicate (Int.toNat n1) 0):List Int)+2)))))) (a0.2,(a0.2.length:Int),0,a1.1,a1.2,false,[], !(a0.1==a1.1),List.replicate (Int.toNat n1) 0,()) (sP)) fun v14=>
 aR (β:=(au×Unit)) (γ:=(Bool×(List Int)×Bool×(List Int)×Unit)) (
  iter (X:=rB) (β:=rA) (Int.natAbs (w64 (((v14.2.2.2.1.length:Int)) - 1))+(Int.natAbs (0:Int)+(v14.2.1.length+(v14.2.2.2.1.length+2)))) (w64 (((v14.2.2.2.1.length:Int)) - 1),0,v14.1,v14.2.1,v14.2.2.1,v14.2.2.2.1,()) (rz)) fun v21=>
 Option.bind (mc (v21.2.2.1,v21.2.2.2.1)) fun r22=>
 some (r22.1,())
abbrev w6:Type:=Int×Int×Bool×(List Int)×Bool×(List Int)×Unit
abbrev w5:Type:=((au×Unit) ⊕ (Bool×(List Int)×Bool×(List Int)×Unit))
def wZ (x1:w6) (again:w6→Option w5):Option w5:=
 bif decide (x1.2.1<x1.1) then
  Option.bind (Ed 10) fun r2=>
  Option.bind (ry (x1.2.2.2.2.1,x1.2.2.2.2.2.1) r2.1) fun r3=>
  again (x1.1,w64 (x1.2.1+1),x1.2.2.1,x1.2.2.2.1,r3.1.1,r3.1.2,())
 else
  some (Sum.inr (x1.2.2.1,x1.2.2.2.1,x1.2.2.2.2.1,x1.2.2.2.2.2.1,()))
def Au (a0:Int):Option (au×Unit):=
 Option.bind (Ed 1) fun r1=>
 aR (β:=(au×Unit)) (γ:=(Bool×(List Int)×Bool×(List Int)×Unit)) (
  iter (X:=w6) (β:=w5) (Int.natAbs a0+(Int.natAbs (0:Int)+(List.length ([]:List Int)+(r1.1.2.length+2)))) (a0,0,false,[],r1.1.1,r1.1.2,()) (wZ)) fun v5=>
 some ((v5.2.2.1,v5.2.2.2.1),())
def wV (a0:ai) (a1:Int):Option (au×Unit):=
 Option.bind (Ed a0.1) fun r1=>
 Option.bind (Au (w64 (a1 - a0.2))) fun r2=>
 Option.bind (ry r1.1 r2.1) fun r3=>
 some (r3.1,())
abbrev xb:Type:=(List Int)×(List Int)×Int×Unit
abbrev w9:Type:=((Int×Unit) ⊕ Unit)
def rY (x1:xb) (again:xb→Option w9):Option w9:=
 bif decide (x1.2.2.1≥0) then
  Option.bind (idx x1.1 x1.2.2.1) fun y2=>
  Option.bind (idx x1.2.1 x1.2.2.1) fun y3=>
  bif y2 != y3 then
   Option.bind (idx x1.1 x1.2.2.1) fun y4=>
   Option.bind (idx x1.2.1 x1.2.2.1) fun y5=>
   some (Sum.inl (w64 (y4 - y5),()))
  else
   again (x1.1,x1.2.1,w64 (x1.2.2.1 - 1),())
 else
  some (Sum.inr ())
def wh (a0:List Int) (a1:List Int):Option (Int×Unit):=
 bif ((List.length a0:Int)) != ((List.length a1:Int)) then
  some (w64 (((List.length a0:Int)) - ((List.length a1:Int))),())
 else
  aR (β:=(Int×Unit)) (γ:=Unit) (
   iter (X:=xb) (β:=w9) (List.length a0+(List.length a1+(Int.natAbs (w64 (((List.length a0:Int)) - 1))+2))) (a0,a1,w64 (((List.length a0:Int)) - 1),()) (rY)) fun _=>
  some (0,())
def we (a0:List Int) (a1:Int):Option (Int×Unit):=
 bif decide (a1<((List.length a0:Int))) then
  Option.bind (idx a0 a1) fun y1=>
  some (y1,())
 else
  some (0,())
abbrev u7:Type:=Int×Int×Int×Bool×(List Int)×Bool×(List Int)×Bool×(List Int)×Bool×(List Int)×Unit
abbrev u6:Type:=((au×Unit) ⊕ (Bool×(List Int)×Bool×(List Int)×Unit))
def u5 (x1:u7) (again:u7→Option u6):Option u6:=
 bif decide (x1.2.2.1<x1.2.1) then
  Option.bind (idx x1.2.2.2.2.1 x1.2.2.1) fun y2=>
  Option.bind (we x1.2.2.2.2.2.2.1 x1.2.2.1) fun r3=>
  aR (β:=((au×Unit) ⊕ (Bool×(List Int)×Bool×(List Int)×Unit))) (γ:=(Int×Int×Int×Int×Bool×(List Int)×Bool×(List Int)×Bool×(List Int)×Bool×(List Int)×Unit)) (
   bif decide ((w64 ((w64 (y2 - r3.1)) - x1.1))<0) then
    let n4:Int:=w64 ((w64 ((w64 (y2 - r3.1)) - x1.1))+1000000)
    some (Sum.inr (1,n4,x1.2.1,x1.2.2.1,x1.2.2.2.1,x1.2.2.2.2.1,x1.2.2.2.2.2.1,x1.2.2.2.2.2.2.1,x1.2.2.2.2.2.2.2.1,x1.2.2.2.2.2.2.2.2.1,x1.2.2.2.2.2.2.2.2.2.1,x1.2.2.2.2.2.2.2.2.2.2.1,()))
   else
    some (Sum.inr (0,w64 ((w64 (y2 - r3.1)) - x1.1),x1.2.1,x1.2.2.1,x1.2.2.2.1,x1.2.2.2.2.1,x1.2.2.2.2.2.1,x1.2.2.2.2.2.2.1,x1.2.2.2.2.2.2.2.1,x1.2.2.2.2.2.2.2.2.1,x1.2.2.2.2.2.2.2.2.2.1,x1.2.2.2.2.2.2.2.2.2.2.1,()))) fun v5=>
  chk (decide (((v5.2.2.2.2.2.2.2.2.2.2.2.1.length)+1)*8≤140737488355328)&&decide ((v5.2.2.2.2.2.2.2.2.2.2.2.1.length)+1≤maxLen)) <|
  again (v5.1,v5.2.2.1,w64 (v5.2.2.2.1+1),v5.2.2.2.2.1,v5.2.2.2.2.2.1,v5.2.2.2.2.2.2.1,v5.2.2.2.2.2.2.2.1,v5.2.2.2.2.2.2.2.2.1,v5.2.2.2.2.2.2.2.2.2.1,v5.2.2.2.2.2.2.2.2.2.2.1,v5.2.2.2.2.2.2.2.2.2.2.2.1++[v5.2.1],())
 else
  some (Sum.inr (x1.2.2.2.2.2.2.2.1,x1.2.2.2.2.2.2.2.2.1,x1.2.2.2.2.2.2.2.2.2.1,x1.2.2.2.2.2.2.2.2.2.2.1,()))
abbrev wY:Type:=Int×Int×Int×Bool×(List Int)×Bool×(List Int)×Bool×(List Int)×Bool×(List Int)×Unit
abbrev wX:Type:=((au×Unit) ⊕ (Bool×(List Int)×Bool×(List Int)×Unit))
def wW (x1:wY) (again:wY→Option wX):Option wX:=
 bif decide (x1.2.2.1<x1.2.1) then
  Option.bind (we x1.2.2.2.2.1 x1.2.2.1) fun r2=>
  Option.bind (we x1.2.2.2.2.2.2.1 x1.2.2.1) fun r3=>
  let n4:Int:=Int.tmod (w64 ((w64 (r2.1+r3.1))+x1.1)) 1000000
  chk (decide (((x1.2.2.2.2.2.2.2.2.2.2.1.length)+1)*8≤140737488355328)&&decide ((x1.2.2.2.2.2.2.2.2.2.2.1.length)+1≤maxLen)) <|
  let n5:Int:=w64 (Int.tdiv (w64 ((w64 (r2.1+r3.1))+x1.1)) 1000000)
  again (n5,x1.2.1,w64 (x1.2.2.1+1),x1.2.2.2.1,x1.2.2.2.2.1,x1.2.2.2.2.2.1,x1.2.2.2.2.2.2.1,x1.2.2.2.2.2.2.2.1,x1.2.2.2.2.2.2.2.2.1,x1.2.2.2.2.2.2.2.2.2.1,x1.2.2.2.2.2.2.2.2.2.2.1++[n4],())
 else
  some (Sum.inr (x1.2.2.2.2.2.2.2.1,x1.2.2.2.2.2.2.2.2.1,x1.2.2.2.2.2.2.2.2.2.1,x1.2.2.2.2.2.2.2.2.2.2.1,()))
def C6 (a0:au) (a1:au):Option (au×Unit):=
 bif !(a0.1==a1.1) then
  Option.bind (wh a0.2 a1.2) fun r1=>
  aR (β:=(au×Unit)) (γ:=(Bool×(List Int)×Bool×(List Int)×Bool×(List Int)×Unit)) (
   bif decide (r1.1<0) then
    some (Sum.inr (a1.1,a1.2,a0.1,a0.2,false,[],()))
   else
    some (Sum.inr (a0.1,a0.2,a1.1,a1.2,false,[],()))) fun v2=>
  aR (β:=(au×Unit)) (γ:=(Bool×(List Int)×Bool×(List Int)×Unit)) (
   iter (X:=u7) (β:=u6) (Int.natAbs (0:Int)+(Int.natAbs ((v2.2.1.length:Int))+(Int.natAbs (0:Int)+(v2.2.1.length+(v2.2.2.2.1.length+(v2.2.2.2.2.2.1.length+(List.length ([]:List Int)+2))))))) (0,(v2.2.1.length:Int),0,v2.1,v2.2.1,v2.2.2.1,v2.2.2.2.1,v2.2.2.2.2.1,v2.2.2.2.2.2.1,v2.1,[],()) (u5)) fun v8=>
  Option.bind (mc (v8.2.2.1,v8.2.2.2.1)) fun r9=>
  some (r9.1,())
 else
  let n10:Int:=w64 ((if ((a1.2.length:Int))>((a0.2.length:Int)) then ((a1.2.length:Int)) else ((a0.2.length:Int)))+1)
  aR (β:=(au×Unit)) (γ:=(Bool×(List Int)×Bool×(List Int)×Unit)) (
   iter (X:=wY) (β:=wX) (Int.natAbs (0:Int)+(Int.natAbs n10+(Int.natAbs (0:Int)+(a0.2.length+(a1.2.length+(List.length ([]:List Int)+(List.length ([]:List Int)+2))))))) (0,n10,0,a0.1,a0.2,a1.1,a1.2,false,[],a0.1,[],()) (wW)) fun v16=>
  Option.bind (mc (v16.2.2.1,v16.2.2.2.1)) fun r17=>
  some (r17.1,())
def Ec (a0:au):Option (au×Unit):=
 bif decide (((a0.2.length:Int))>0) then
  some ((!a0.1,a0.2),())
 else
  some (a0,())
def HA (a0:au):Option (Int×Unit):=
 bif ((a0.2.length:Int))==0 then
  some (0,())
 else
  bif a0.1 then
   some ((-1),())
  else
   some (1,())
def GI (a0:au) (a1:au):Option (Int×Unit):=
 Option.bind (Ec a1) fun r1=>
 Option.bind (C6 a0 r1.1) fun r2=>
 Option.bind (HA r2.1) fun r3=>
 some (r3.1,())
end Go.Md
namespace Go.Md
open Go.Dn
abbrev Ax:Type:=(List UInt8)×Int×Int×Unit
abbrev Aw:Type:=((Bool×Unit) ⊕ Unit)
def u9 (x1:Ax) (again:Ax→Option Aw):Option Aw:=
 bif decide (x1.2.2.1<x1.2.1) then
  Option.bind (nA x1.1 x1.2.2.1) fun c2=>
  bif decide ((c2.toNat:Int)<97) then
   bif decide ((c2.toNat:Int)<48) then
    bif (c2.toNat:Int) != 45 then
     some (Sum.inl (false,()))
    else
     again (x1.1,x1.2.1,w64 (x1.2.2.1+1),())
   else
    bif decide ((c2.toNat:Int)>57) then
     bif (c2.toNat:Int) != 45 then
      some (Sum.inl (false,()))
     else
      again (x1.1,x1.2.1,w64 (x1.2.2.1+1),())
    else
     again (x1.1,x1.2.1,w64 (x1.2.2.1+1),())
  else
   bif decide ((c2.toNat:Int)>122) then
    bif decide ((c2.toNat:Int)<48) then
     bif (c2.toNat:Int) != 45 then
      some (Sum.inl (false,()))
     else
      again (x1.1,x1.2.1,w64 (x1.2.2.1+1),())
    else
     bif decide ((c2.toNat:Int)>57) then
      bif (c2.toNat:Int) != 45 then
       some (Sum.inl (false,()))
      else
       again (x1.1,x1.2.1,w64 (x1.2.2.1+1),())
     else
      again (x1.1,x1.2.1,w64 (x1.2.2.1+1),())
   else
    again (x1.1,x1.2.1,w64 (x1.2.2.1+1),())
 else
  some (Sum.inr ())
def GM (a0:List UInt8):Option (Bool×Unit):=
 bif a0==[] then
  some (false,())
 else
  bif decide (((List.length a0:Int))>40) then
   some (false,())
  else
   Option.bind (nA a0 0) fun c1=>
   bif decide ((c1.toNat:Int)<97) then
    some (false,())
   else
    Option.bind (nA a0 0) fun c2=>
    bif decide ((c2.toNat:Int)>122) then
     some (false,())
    else
     aR (β:=(Bool×Unit)) (γ:=Unit) (
      iter (X:=Ax) (β:=Aw) (List.length a0+(Int.natAbs ((List.length a0:Int))+(Int.natAbs (0:Int)+2))) (a0,(List.length a0:Int),0,()) (u9)) fun _=>
     some (true,())
def nK (a0:List UInt8):Option (Bool×Unit):=
 Option.bind (GM a0) fun r1=>
 some (r1.1,())
def nM (a0:Int) (a1:Int) (a2:Int):Option (Bool×Unit):=
 bif decide (a1≤a0) then
  some (decide (a0≤a2),())
 else
  some (false,())
def Jx (a0:Int):Option (Bool×Unit):=
 Option.bind (nM a0 1 3652059) fun r1=>
 some (r1.1,())
def Eb (a0:Int):Option (Bool×Unit):=
 Option.bind (Jx a0) fun r1=>
 some (r1.1,())
def jq (a0:ai):Option (Int×Unit):=
 Option.bind (nM a0.1 (-1000000000000000) 1000000000000000) fun r1=>
 bif !r1.1 then
  some (1,())
 else
  Option.bind (nM a0.2 0 9) fun r2=>
  bif !r2.1 then
   some (1,())
  else
   some (0,())
def TD (a0:ai) (a1:ai):Option (Int×Unit):=
 Option.bind (wV a0 9) fun r1=>
 Option.bind (wV a1 9) fun r2=>
 Option.bind (GI r1.1 r2.1) fun r3=>
 some (r3.1,())
end Go.Md
