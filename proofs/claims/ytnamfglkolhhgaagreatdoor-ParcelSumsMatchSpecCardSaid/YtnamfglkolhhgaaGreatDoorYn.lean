/-
  The plain models of the functions that the law reaches, second part. No condition.
-/
import Derived.Test.YtnamfglkolhhgaaGreatDoorYm
import Derived.Lib.Bytealg
import Derived.Lib.Repeat
import Derived.Lib.ItoaNum
set_option linter.all false
namespace Go.Md
open Go.Dn
def strings_Compare (a b:List UInt8):Option (Int×Unit):=some (Lib.compareBytes a b,())
abbrev zu:Type:=(List UInt8)×ak
abbrev rV:Type:=Bool×ak×(List UInt8)
abbrev C2:Type:=Int×Int×(List UInt8)×ak×(List UInt8)×ak×Int×(List rV)×(List UInt8)
abbrev OV:Type:=(List UInt8)×(List UInt8)×Int×Int×Int×Bool×(List zu)×(List C2)×(List rV)
abbrev wE:Type:=Int×Int×Int×Unit
abbrev wD:Type:=((Int×Unit) ⊕ (Int×Unit))
def ND (x1:wE) (again:wE→Option wD):Option wD:=
 bif decide (x1.2.2.1<x1.2.1) then
  again (w64 (x1.1*10),x1.2.1,w64 (x1.2.2.1+1),())
 else
  some (Sum.inr (x1.1,()))
def CJ (a0:Int):Option (Int×Unit):=
 aX (β:=(Int×Unit)) (γ:=(Int×Unit)) (
  iter (X:=wE) (β:=wD) (Int.natAbs (1:Int)+(Int.natAbs a0+(Int.natAbs (0:Int)+2))) (1,a0,0,()) (ND)) fun v2=>
 some (v2.1,())
def u6 (a0:ak) (a1:Int) (a2:Int):Option (Bool×Unit):=
 bif decide (a0.2≤a1) then
  bif decide (a0.1≥0) then
   Option.bind (CJ a0.2) fun r1=>
   some (decide (a0.1≤(w64 (a2*r1.1))),())
  else
   some (false,())
 else
  some (false,())
abbrev iD:Type:=Int×Int×Int×(List Int)×Int×Int×(List Int)×Int×Int×Bool×(List Int)×Bool×(List Int)×Bool×(List Int)×(List Int)×Unit
abbrev qQ:Type:=(((an×Unit) ⊕ (Bool×(List Int)×Bool×(List Int)×Bool×(List Int)×(List Int)×Unit)) ⊕ (Int×Int×(List Int)×Int×Int×Bool×(List Int)×Bool×(List Int)×Bool×(List Int)×(List Int)×Unit))
def lY (x1:iD) (again:iD→Option qQ):Option qQ:=
 bif decide (x1.2.2.2.2.2.2.2.2.1<x1.2.2.2.2.2.2.2.1) then
  Option.bind (idx x1.2.2.2.2.2.2.1 x1.2.2.2.2.2.2.2.2.1) fun y2=>
  chk (decide (0≤(w64 (x1.1+x1.2.2.2.2.2.2.2.2.1)))&&decide ((w64 (x1.1+x1.2.2.2.2.2.2.2.2.1))<(x1.2.2.2.2.2.2.2.2.2.2.2.2.2.2.2.1.length:Int))) <|
  Option.bind (x1.2.2.2.2.2.2.2.2.2.2.2.2.2.2.2.1[(w64 (x1.1+x1.2.2.2.2.2.2.2.2.1)).toNat]?) fun y3=>
  let n4:Int:=bQ ((bQ y3)+(bQ ((bQ x1.2.1)*(bQ y2))))
  chk (decide (0≤(w64 (x1.1+x1.2.2.2.2.2.2.2.2.1)))&&decide ((w64 (x1.1+x1.2.2.2.2.2.2.2.2.1))<(x1.2.2.2.2.2.2.2.2.2.2.2.2.2.2.2.1.length:Int))) <|
  Option.bind (x1.2.2.2.2.2.2.2.2.2.2.2.2.2.2.2.1[(w64 (x1.1+x1.2.2.2.2.2.2.2.2.1)).toNat]?) fun _=>
  again (x1.1,x1.2.1,Int.fdiv (bQ (x1.2.2.1+n4)) (2 ^ 32),x1.2.2.2.1,x1.2.2.2.2.1,x1.2.2.2.2.2.1,x1.2.2.2.2.2.2.1,x1.2.2.2.2.2.2.2.1,w64 (x1.2.2.2.2.2.2.2.2.1+1),x1.2.2.2.2.2.2.2.2.2.1,x1.2.2.2.2.2.2.2.2.2.2.1,x1.2.2.2.2.2.2.2.2.2.2.2.1,x1.2.2.2.2.2.2.2.2.2.2.2.2.1,x1.2.2.2.2.2.2.2.2.2.2.2.2.2.1,x1.2.2.2.2.2.2.2.2.2.2.2.2.2.2.1,List.set x1.2.2.2.2.2.2.2.2.2.2.2.2.2.2.2.1 (w64 (x1.1+x1.2.2.2.2.2.2.2.2.1)).toNat (iT (bQ (x1.2.2.1+n4))),())
 else
  some (Sum.inr (x1.1,x1.2.2.1,x1.2.2.2.1,x1.2.2.2.2.1,x1.2.2.2.2.2.1,x1.2.2.2.2.2.2.2.2.2.1,x1.2.2.2.2.2.2.2.2.2.2.1,x1.2.2.2.2.2.2.2.2.2.2.2.1,x1.2.2.2.2.2.2.2.2.2.2.2.2.1,x1.2.2.2.2.2.2.2.2.2.2.2.2.2.1,x1.2.2.2.2.2.2.2.2.2.2.2.2.2.2.1,x1.2.2.2.2.2.2.2.2.2.2.2.2.2.2.2.1,()))
abbrev iC:Type:=(List Int)×Int×Int×Bool×(List Int)×Bool×(List Int)×Bool×(List Int)×(List Int)×Unit
abbrev qP:Type:=((an×Unit) ⊕ (Bool×(List Int)×Bool×(List Int)×Bool×(List Int)×(List Int)×Unit))
def lX (x1:iC) (again:iC→Option qP):Option qP:=
 bif decide (x1.2.2.1<x1.2.1) then
  Option.bind (idx x1.1 x1.2.2.1) fun y2=>
  aX (β:=((an×Unit) ⊕ (Bool×(List Int)×Bool×(List Int)×Bool×(List Int)×(List Int)×Unit))) (γ:=(Int×Int×(List Int)×Int×Int×Bool×(List Int)×Bool×(List Int)×Bool×(List Int)×(List Int)×Unit)) (
   iter (X:=iD) (β:=qQ) (x1.2.2.1.natAbs+(Int.natAbs y2+(Int.natAbs (0:Int)+(x1.1.length+(x1.2.1.natAbs+(x1.2.2.1.natAbs+(x1.2.2.2.2.2.2.1.length+(Int.natAbs ((x1.2.2.2.2.2.2.1.length:Int))+(Int.natAbs (0:Int)+(x1.2.2.2.2.1.length+(x1.2.2.2.2.2.2.1.length+(x1.2.2.2.2.2.2.2.2.1.length+(x1.2.2.2.2.2.2.2.2.2.1.length+2))))))))))))) (x1.2.2.1,y2,0,x1.1,x1.2.1,x1.2.2.1,x1.2.2.2.2.2.2.1,(x1.2.2.2.2.2.2.1.length:Int),0,x1.2.2.2.1,x1.2.2.2.2.1,x1.2.2.2.2.2.1,x1.2.2.2.2.2.2.1,x1.2.2.2.2.2.2.2.1,x1.2.2.2.2.2.2.2.2.1,x1.2.2.2.2.2.2.2.2.2.1,()) (lY)) fun v3=>
  chk (decide (0≤(w64 (v3.1+((v3.2.2.2.2.2.2.2.2.1.length:Int)))))&&decide ((w64 (v3.1+((v3.2.2.2.2.2.2.2.2.1.length:Int))))<(v3.2.2.2.2.2.2.2.2.2.2.2.1.length:Int))) <|
  Option.bind (v3.2.2.2.2.2.2.2.2.2.2.2.1[(w64 (v3.1+((v3.2.2.2.2.2.2.2.2.1.length:Int)))).toNat]?) fun _=>
  again (v3.2.2.1,v3.2.2.2.1,w64 (v3.2.2.2.2.1+1),v3.2.2.2.2.2.1,v3.2.2.2.2.2.2.1,v3.2.2.2.2.2.2.2.1,v3.2.2.2.2.2.2.2.2.1,v3.2.2.2.2.2.2.2.2.2.1,v3.2.2.2.2.2.2.2.2.2.2.1,List.set v3.2.2.2.2.2.2.2.2.2.2.2.1 (w64 (v3.1+((v3.2.2.2.2.2.2.2.2.1.length:Int)))).toNat (iT v3.2.1),())
 else
  some (Sum.inr (x1.2.2.2.1,x1.2.2.2.2.1,x1.2.2.2.2.2.1,x1.2.2.2.2.2.2.1,x1.2.2.2.2.2.2.2.1,x1.2.2.2.2.2.2.2.2.1,x1.2.2.2.2.2.2.2.2.2.1,()))
def lW (a0:an) (a1:an):Option (an×Unit):=
 chk (decide (0≤(w64 (((a0.2.length:Int))+((a1.2.length:Int)))))&&decide ((w64 (((a0.2.length:Int))+((a1.2.length:Int))))≤(w64 (((a0.2.length:Int))+((a1.2.length:Int)))))&&decide ((4:Int)*(w64 (((a0.2.length:Int))+((a1.2.length:Int))))≤281474976710656)&&decide ((w64 (((a0.2.length:Int))+((a1.2.length:Int))))≤9223372036854775807)) <|
 aX (β:=(an×Unit)) (γ:=(Bool×(List Int)×Bool×(List Int)×Bool×(List Int)×(List Int)×Unit)) (
  iter (X:=iC) (β:=qP) (a0.2.length+(Int.natAbs ((a0.2.length:Int))+(Int.natAbs (0:Int)+(a0.2.length+(a1.2.length+(List.length ([]:List Int)+(List.length ((List.replicate (Int.toNat (w64 (((a0.2.length:Int))+((a1.2.length:Int))))) 0):List Int)+2))))))) (a0.2,(a0.2.length:Int),0,a0.1,a0.2,a1.1,a1.2,false,[],List.replicate (Int.toNat (w64 (((a0.2.length:Int))+((a1.2.length:Int))))) 0,()) (lX)) fun v10=>
 Option.bind (fq (!(v10.1==v10.2.2.1)) v10.2.2.2.2.2.2.1) fun r11=>
 some (r11.1,())
abbrev nc:Type:=Int×Int×Bool×(List Int)×Bool×(List Int)×Unit
abbrev xg:Type:=((an×Unit) ⊕ (Bool×(List Int)×Bool×(List Int)×Unit))
def rH (x1:nc) (again:nc→Option xg):Option xg:=
 bif decide (x1.2.1<x1.1) then
  Option.bind (mw 10) fun r2=>
  Option.bind (lW (x1.2.2.2.2.1,x1.2.2.2.2.2.1) r2.1) fun r3=>
  again (x1.1,w64 (x1.2.1+1),x1.2.2.1,x1.2.2.2.1,r3.1.1,r3.1.2,())
 else
  some (Sum.inr (x1.2.2.1,x1.2.2.2.1,x1.2.2.2.2.1,x1.2.2.2.2.2.1,()))
def xV (a0:Int):Option (an×Unit):=
 Option.bind (mw 1) fun r1=>
 aX (β:=(an×Unit)) (γ:=(Bool×(List Int)×Bool×(List Int)×Unit)) (
  iter (X:=nc) (β:=xg) (Int.natAbs a0+(Int.natAbs (0:Int)+(List.length ([]:List Int)+(r1.1.2.length+2)))) (a0,0,false,[],r1.1.1,r1.1.2,()) (rH)) fun v5=>
 some ((v5.2.2.1,v5.2.2.2.1),())
abbrev xk:Type:=(List Int)×(List Int)×Int×(List Int)×Int×Int×Unit
abbrev xh:Type:=(((List Int)×Unit) ⊕ ((List Int)×Int×Unit))
def N3 (x1:xk) (again:xk→Option xh):Option xh:=
 bif decide (x1.2.2.2.2.2.1<x1.2.2.2.2.1) then
  Option.bind (idx x1.2.2.2.1 x1.2.2.2.2.2.1) fun y2=>
  aX (β:=(((List Int)×Unit) ⊕ ((List Int)×Int×Unit))) (γ:=((List Int)×(List Int)×Int×(List Int)×Int×Int×Unit)) (
   bif decide (x1.2.2.2.2.2.1<((x1.1.length:Int))) then
    Option.bind (idx x1.1 x1.2.2.2.2.2.1) fun y3=>
    let n4:Int:=bQ ((bQ (x1.2.2.1+(bQ y2)))+(bQ y3))
    some (Sum.inr (x1.1,x1.2.1,n4,x1.2.2.2.1,x1.2.2.2.2.1,x1.2.2.2.2.2.1,()))
   else
    some (Sum.inr (x1.1,x1.2.1,bQ (x1.2.2.1+(bQ y2)),x1.2.2.2.1,x1.2.2.2.2.1,x1.2.2.2.2.2.1,()))) fun v5=>
  chk (decide (((v5.2.1.length)+1)*4≤140737488355328)&&decide ((v5.2.1.length)+1≤maxLen)) <|
  again (v5.1,v5.2.1++[(iT v5.2.2.1)],Int.fdiv v5.2.2.1 (2 ^ 32),v5.2.2.2.1,v5.2.2.2.2.1,w64 (v5.2.2.2.2.2.1+1),())
 else
  some (Sum.inr (x1.2.1,x1.2.2.1,()))
def C1 (a0:List Int) (a1:List Int):Option ((List Int)×Unit):=
 aX (β:=((List Int)×Unit)) (γ:=((List Int)×(List Int)×Unit)) (
  bif decide (((List.length a0:Int))<((List.length a1:Int))) then
   some (Sum.inr (a1,a0,()))
  else
   some (Sum.inr (a0,a1,()))) fun v1=>
 chk (decide (0≤(0:Int))&&decide ((0:Int)≤(w64 (((v1.1.length:Int))+1)))&&decide ((4:Int)*(w64 (((v1.1.length:Int))+1))≤281474976710656)&&decide ((w64 (((v1.1.length:Int))+1))≤9223372036854775807)) <|
 aX (β:=((List Int)×Unit)) (γ:=((List Int)×Int×Unit)) (
  iter (X:=xk) (β:=xh) (v1.2.1.length+(List.length ([]:List Int)+(Int.natAbs (0:Int)+(v1.1.length+(Int.natAbs ((v1.1.length:Int))+(Int.natAbs (0:Int)+2)))))) (v1.2.1,[],0,v1.1,(v1.1.length:Int),0,()) (N3)) fun v7=>
 chk (decide (((v7.1.length)+1)*4≤140737488355328)&&decide ((v7.1.length)+1≤maxLen)) <|
 some (v7.1++[(iT v7.2.1)],())
def eD (a0:an) (a1:an):Option (an×Unit):=
 bif a0.1==a1.1 then
  Option.bind (C1 a0.2 a1.2) fun r1=>
  Option.bind (fq a0.1 r1.1) fun r2=>
  some (r2.1,())
 else
  Option.bind (oM a0.2 a1.2) fun r3=>
  bif decide (r3.1≥0) then
   Option.bind (rI a0.2 a1.2) fun r4=>
   Option.bind (fq a0.1 r4.1) fun r5=>
   some (r5.1,())
  else
   Option.bind (rI a1.2 a0.2) fun r6=>
   Option.bind (fq a1.1 r6.1) fun r7=>
   some (r7.1,())
def ew (a0:ak) (a1:Int):Option (an×Unit):=
 Option.bind (mw a0.1) fun r1=>
 Option.bind (xV (w64 (a1 - a0.2))) fun r2=>
 Option.bind (lW r1.1 r2.1) fun r3=>
 some (r3.1,())
abbrev vw:Type:=Int×Int×Bool×(List Int)×Bool×(List Int)×Bool×(List Int)×Unit
abbrev ES:Type:=((aa×Int×Unit) ⊕ (Int×Bool×(List Int)×Bool×(List Int)×Unit))
def zW (x1:vw) (again:vw→Option ES):Option ES:=
 bif decide (x1.2.1≥0) then
  Option.bind (idx x1.2.2.2.1 x1.2.1) fun y2=>
  let n3:Int:=w64 (Int.tdiv (w64 ((w64 (x1.1*1000000))+y2)) 2)
  let n4:Int:=Int.tmod (w64 ((w64 (x1.1*1000000))+y2)) 2
  chk (decide (0≤x1.2.1)&&decide (x1.2.1<(x1.2.2.2.2.2.2.2.1.length:Int))) <|
  Option.bind (x1.2.2.2.2.2.2.2.1[x1.2.1.toNat]?) fun _=>
  again (n4,w64 (x1.2.1 - 1),x1.2.2.1,x1.2.2.2.1,x1.2.2.2.2.1,x1.2.2.2.2.2.1,x1.2.2.2.2.2.2.1,List.set x1.2.2.2.2.2.2.2.1 x1.2.1.toNat n3,())
 else
  some (Sum.inr (x1.1,x1.2.2.2.2.1,x1.2.2.2.2.2.1,x1.2.2.2.2.2.2.1,x1.2.2.2.2.2.2.2.1,()))
def Ih (a0:aa):Option (aa×Int×Unit):=
 chk (decide (0≤((a0.2.length:Int)))&&decide (((a0.2.length:Int))≤((a0.2.length:Int)))&&decide ((8:Int)*((a0.2.length:Int))≤281474976710656)&&decide (((a0.2.length:Int))≤9223372036854775807)) <|
 aX (β:=(aa×Int×Unit)) (γ:=(Int×Bool×(List Int)×Bool×(List Int)×Unit)) (
  iter (X:=vw) (β:=ES) (Int.natAbs (0:Int)+(Int.natAbs (w64 (((a0.2.length:Int)) - 1))+(a0.2.length+(List.length ([]:List Int)+(List.length ((List.replicate (Int.toNat ((a0.2.length:Int))) 0):List Int)+2))))) (0,w64 (((a0.2.length:Int)) - 1),a0.1,a0.2,false,[],false,List.replicate (Int.toNat ((a0.2.length:Int))) 0,()) (zW)) fun v6=>
 Option.bind (jq (v6.2.2.2.1,v6.2.2.2.2.1)) fun r7=>
 some (r7.1,v6.1,())
abbrev qz:Type:=(List Int)×Bool×(List Int)×Bool×(List Int)×Bool×(List Int)×Bool×(List Int)×Unit
abbrev AV:Type:=((aa×aa×Unit) ⊕ ((List Int)×Bool×(List Int)×Bool×(List Int)×Bool×(List Int)×Unit))
def ir (x1:qz) (again:qz→Option AV):Option AV:=
 Option.bind (wJ (x1.2.2.2.2.2.2.2.1,x1.2.2.2.2.2.2.2.2.1)) fun r2=>
 bif decide (r2.1>0) then
  Option.bind (Ih (x1.2.2.2.2.2.2.2.1,x1.2.2.2.2.2.2.2.2.1)) fun r3=>
  chk (decide (((x1.1.length)+1)*8≤140737488355328)&&decide ((x1.1.length)+1≤maxLen)) <|
  again (x1.1++[r3.2.1],x1.2.1,x1.2.2.1,x1.2.2.2.1,x1.2.2.2.2.1,x1.2.2.2.2.2.1,x1.2.2.2.2.2.2.1,r3.1.1,r3.1.2,())
 else
  some (Sum.inr (x1.1,x1.2.1,x1.2.2.1,x1.2.2.2.1,x1.2.2.2.2.1,x1.2.2.2.2.2.1,x1.2.2.2.2.2.2.1,()))
abbrev oF:Type:=(List Int)×Int×Bool×(List Int)×Bool×(List Int)×Bool×(List Int)×Bool×(List Int)×Bool×(List Int)×Bool×(List Int)×Unit
abbrev za:Type:=((aa×aa×Unit) ⊕ (Bool×(List Int)×Bool×(List Int)×Bool×(List Int)×Bool×(List Int)×Unit))
def sU (x1:oF) (again:oF→Option za):Option za:=
 bif decide (x1.2.1≥0) then
  Option.bind (lS (x1.2.2.2.2.2.2.2.2.1,x1.2.2.2.2.2.2.2.2.2.1) (x1.2.2.2.2.2.2.2.2.2.2.2.2.1,x1.2.2.2.2.2.2.2.2.2.2.2.2.2.1)) fun r2=>
  Option.bind (lS (x1.2.2.2.2.2.2.2.2.2.2.1,x1.2.2.2.2.2.2.2.2.2.2.2.1) (x1.2.2.2.2.2.2.2.2.2.2.2.2.1,x1.2.2.2.2.2.2.2.2.2.2.2.2.2.1)) fun r3=>
  chk (decide (0≤x1.2.1)&&decide (x1.2.1<(x1.1.length:Int))) <|
  Option.bind (x1.1[x1.2.1.toNat]?) fun y4=>
  Option.bind (vo y4) fun r5=>
  Option.bind (rA r3.1 r5.1) fun r6=>
  Option.bind (DE r6.1 (x1.2.2.1,x1.2.2.2.1)) fun r7=>
  bif decide (r7.1≥0) then
   Option.bind (vo 1) fun r8=>
   Option.bind (rA r2.1 r8.1) fun r9=>
   Option.bind (AX (x1.2.2.1,x1.2.2.2.1)) fun r10=>
   Option.bind (rA r6.1 r10.1) fun r11=>
   again (x1.1,w64 (x1.2.1 - 1),x1.2.2.1,x1.2.2.2.1,x1.2.2.2.2.1,x1.2.2.2.2.2.1,x1.2.2.2.2.2.2.1,x1.2.2.2.2.2.2.2.1,r9.1.1,r9.1.2,r11.1.1,r11.1.2,x1.2.2.2.2.2.2.2.2.2.2.2.2.1,x1.2.2.2.2.2.2.2.2.2.2.2.2.2.1,())
  else
   again (x1.1,w64 (x1.2.1 - 1),x1.2.2.1,x1.2.2.2.1,x1.2.2.2.2.1,x1.2.2.2.2.2.1,x1.2.2.2.2.2.2.1,x1.2.2.2.2.2.2.2.1,r2.1.1,r2.1.2,r6.1.1,r6.1.2,x1.2.2.2.2.2.2.2.2.2.2.2.2.1,x1.2.2.2.2.2.2.2.2.2.2.2.2.2.1,())
 else
  some (Sum.inr (x1.2.2.2.2.1,x1.2.2.2.2.2.1,x1.2.2.2.2.2.2.1,x1.2.2.2.2.2.2.2.1,x1.2.2.2.2.2.2.2.2.1,x1.2.2.2.2.2.2.2.2.2.1,x1.2.2.2.2.2.2.2.2.2.2.1,x1.2.2.2.2.2.2.2.2.2.2.2.1,()))
def Ca (a0:aa) (a1:aa):Option (aa×aa×Unit):=
 aX (β:=(aa×aa×Unit)) (γ:=((List Int)×Bool×(List Int)×Bool×(List Int)×Bool×(List Int)×Unit)) (
  iter (X:=qz) (β:=AV) ((20*List.length (([],a1.1,a1.2,false,[],false,[],a0.1,a0.2,()):qz).2.2.2.2.2.2.2.2.1+2)) ([],a1.1,a1.2,false,[],false,[],a0.1,a0.2,()) (ir)) fun v4=>
 Option.bind (vo 2) fun r5=>
 aX (β:=(aa×aa×Unit)) (γ:=(Bool×(List Int)×Bool×(List Int)×Bool×(List Int)×Bool×(List Int)×Unit)) (
  iter (X:=oF) (β:=za) (v4.1.length+(Int.natAbs (w64 (((v4.1.length:Int)) - 1))+(v4.2.2.1.length+(v4.2.2.2.2.1.length+(v4.2.2.2.2.2.2.1.length+(List.length ([]:List Int)+(List.length ([]:List Int)+(r5.1.2.length+2)))))))) (v4.1,w64 (((v4.1.length:Int)) - 1),v4.2.1,v4.2.2.1,v4.2.2.2.1,v4.2.2.2.2.1,v4.2.2.2.2.2.1,v4.2.2.2.2.2.2.1,false,[],false,[],r5.1.1,r5.1.2,()) (sU)) fun v17=>
 some ((v17.2.2.2.2.1,v17.2.2.2.2.2.1),(v17.2.2.2.2.2.2.1,v17.2.2.2.2.2.2.2.1),())
abbrev sr:Type:=Int×Int×Bool×(List Int)×Unit
abbrev CP:Type:=((Int×Bool×Unit) ⊕ (Int×Bool×(List Int)×Unit))
def xN (x1:sr) (again:sr→Option CP):Option CP:=
 bif decide (x1.2.1≥0) then
  Option.bind (idx x1.2.2.2.1 x1.2.1) fun y2=>
  again (w64 ((w64 (x1.1*1000000))+y2),w64 (x1.2.1 - 1),x1.2.2.1,x1.2.2.2.1,())
 else
  some (Sum.inr (x1.1,x1.2.2.1,x1.2.2.2.1,()))
def ER (a0:aa) (a1:Int):Option (Int×Bool×Unit):=
 Option.bind (vo a1) fun r1=>
 Option.bind (wM a0.2 r1.1.2) fun r2=>
 bif decide (r2.1>0) then
  some (0,false,())
 else
  aX (β:=(Int×Bool×Unit)) (γ:=(Int×Bool×(List Int)×Unit)) (
   iter (X:=sr) (β:=CP) (Int.natAbs (0:Int)+(Int.natAbs (w64 (((a0.2.length:Int)) - 1))+(a0.2.length+2))) (0,w64 (((a0.2.length:Int)) - 1),a0.1,a0.2,()) (xN)) fun v5=>
  bif v5.2.1 then
   some (w64 (0 - v5.1),true,())
  else
   some (v5.1,true,())
end Go.Md
namespace Go.Md
open Go.Dn
def WR (n:Nat):List UInt8:=if n<10 then [UInt8.ofNat (48+n)] else [UInt8.ofNat (48+n / 10),UInt8.ofNat (48+n % 10)]
def strconv_Itoa (n:Int):Option (List UInt8×Unit):=bif decide (0≤n)&&decide (n<100) then some (WR n.toNat,()) else bif decide (-9223372036854775808≤n)&&decide (n≤9223372036854775807) then some (Lib.itoa n,()) else none
def strings_Repeat (s:List UInt8) (n:Int):Option (List UInt8×Unit):=bif decide (0≤n)&&(decide (n≤9223372036854775807)&&decide (s.length*n.toNat≤140737488355328)) then some (Lib.repeatL s n.toNat,()) else none
def zj (_a:List UInt8):Option (Int×Unit):=none
def yH (_a:List UInt8):Option (Bool×Unit):=none
def E8 (_a:List UInt8):Option (Bool×Unit):=none
def F0 (_a:List UInt8):Option (Bool×Unit):=none
def E9 (_a _b:Int):Option (List UInt8×Unit):=none
def A1 (_a:List UInt8) (_b:Bool):Option (Bool×Unit):=none
def HF (_a:List UInt8) (_b:Int):Option (Int×Unit):=none
def Jv (_a:List UInt8):Option (Int×Unit):=none
def OK (_a:List UInt8):Option (List UInt8×Unit):=none
abbrev bA:Ty:=(.st (.pair .str (.pair .str (.pair .str bR))))
abbrev ai:Type:=(List UInt8)×(List UInt8)×(List UInt8)×ak
abbrev bh:Ty:=(.st (.pair .str (.pair .str (.pair bR (.slice bA)))))
abbrev ah:Type:=(List UInt8)×(List UInt8)×ak×(List ai)
abbrev bV:Ty:=(.st (.pair .str (.pair .str (.pair tI (.slice bh)))))
abbrev aS:Type:=(List UInt8)×(List UInt8)×Int×(List ah)
abbrev DS:Type:=Int×ak×Int
abbrev rW:Type:=Int×(List UInt8)×(List UInt8)×ak×ak×Int×ak×ak×ak×ak
abbrev DR:Type:=(List UInt8)×(List UInt8)×ak
abbrev aG:Ty:=(.st (.pair .str .str))
abbrev aU:Type:=(List UInt8)×(List UInt8)
def sF (a0:Int):Option (Bool×Unit):=
 Option.bind (jA a0 1 5) fun r1=>
 some (!r1.1,())
def wg (a0:Int):Option ((List Int)×Unit):=
 bif a0==1 then
  some ([8,12,13,14],())
 else
  bif a0==2 then
   some ([13],())
  else
   some ([18],())
abbrev gI:Type:=(List Int)×Int×Int×Int×Unit
abbrev pn:Type:=((Int×Unit) ⊕ Unit)
def kz (x1:gI) (again:gI→Option pn):Option pn:=
 bif decide (x1.2.2.2.1<x1.2.2.1) then
  Option.bind (idx x1.1 x1.2.2.2.1) fun y2=>
  bif x1.2.1==y2 then
   some (Sum.inl (x1.2.2.2.1,()))
  else
   again (x1.1,x1.2.1,x1.2.2.1,w64 (x1.2.2.2.1+1),())
 else
  some (Sum.inr ())
def tP (a0:List Int) (a1:Int):Option (Int×Unit):=
 aX (β:=(Int×Unit)) (γ:=Unit) (
  iter (X:=gI) (β:=pn) (List.length a0+(Int.natAbs a1+(Int.natAbs ((List.length a0:Int))+(Int.natAbs (0:Int)+2)))) (a0,a1,(List.length a0:Int),0,()) (kz)) fun _=>
 some ((-1),())
def eN (a0:List Int) (a1:Int):Option (Bool×Unit):=
 Option.bind (tP a0 a1) fun r1=>
 some (decide (r1.1≥0),())
abbrev mI:Type:=(List UInt8)×Int×Int×Int×Int×Unit
abbrev wB:Type:=((Bool×Unit) ⊕ Unit)
def qY (x1:mI) (again:mI→Option wB):Option wB:=
 bif decide (x1.2.2.2.2.1<x1.2.2.2.1) then
  Option.bind (mW x1.1 x1.2.2.2.2.1) fun c2=>
  bif decide ((c2.toNat:Int)<x1.2.1) then
   some (Sum.inl (false,()))
  else
   Option.bind (mW x1.1 x1.2.2.2.2.1) fun c3=>
   bif decide ((c3.toNat:Int)>x1.2.2.1) then
    some (Sum.inl (false,()))
   else
    again (x1.1,x1.2.1,x1.2.2.1,x1.2.2.2.1,w64 (x1.2.2.2.2.1+1),())
 else
  some (Sum.inr ())
def CA (a0:List UInt8) (a1:Int) (a2:Int):Option (Bool×Unit):=
 aX (β:=(Bool×Unit)) (γ:=Unit) (
  iter (X:=mI) (β:=wB) (List.length a0+(Int.natAbs a1+(Int.natAbs a2+(Int.natAbs ((List.length a0:Int))+(Int.natAbs (0:Int)+2))))) (a0,a1,a2,(List.length a0:Int),0,()) (qY)) fun _=>
 some (true,())
def qh (a0:List UInt8):Option (Bool×Unit):=
 bif !(a0==[]) then
  Option.bind (CA a0 48 57) fun r1=>
  some (r1.1,())
 else
  some (false,())
abbrev uO:Type:=(List UInt8)×Int×Int×Int×Unit
abbrev uN:Type:=((Bool×Unit) ⊕ (Int×Unit))
def KE (x1:uO) (again:uO→Option uN):Option uN:=
 bif decide (x1.2.2.2.1<x1.2.2.1) then
  let n2:Int:=w64 ((w64 (((x1.1.length:Int)) - 1)) - x1.2.2.2.1)
  Option.bind (mW x1.1 n2) fun c3=>
  bif (Int.tmod x1.2.2.2.1 2)==1 then
   let n4:Int:=w64 ((w64 (wu8 ((c3.toNat:Int) - 48)))*3)
   again (x1.1,w64 (x1.2.1+n4),x1.2.2.1,w64 (x1.2.2.2.1+1),())
  else
   let n5:Int:=w64 (x1.2.1+(w64 (wu8 ((c3.toNat:Int) - 48))))
   again (x1.1,n5,x1.2.2.1,w64 (x1.2.2.2.1+1),())
 else
  some (Sum.inr (x1.2.1,()))
def Ag (a0:List UInt8):Option (Bool×Unit):=
 aX (β:=(Bool×Unit)) (γ:=(Int×Unit)) (
  iter (X:=uO) (β:=uN) (List.length a0+(Int.natAbs (0:Int)+(Int.natAbs ((List.length a0:Int))+(Int.natAbs (0:Int)+2)))) (a0,0,(List.length a0:Int),0,()) (KE)) fun v6=>
 some ((Int.tmod v6.1 10)==0,())
def pG (a0:Int) (a1:List UInt8):Option (Bool×Unit):=
 bif a0==4 then
  Option.bind (yH a1) fun r1=>
  some (r1.1,())
 else
  bif a0==5 then
   Option.bind (F0 a1) fun r2=>
   some (r2.1,())
  else
   Option.bind (wg a0) fun r3=>
   Option.bind (eN r3.1 ((List.length a1:Int))) fun r4=>
   bif r4.1 then
    Option.bind (qh a1) fun r5=>
    bif r5.1 then
     Option.bind (Ag a1) fun r6=>
     some (r6.1,())
    else
     some (false,())
   else
    some (false,())
def uK (a0:Int) (a1:List UInt8):Option (Bool×Int×Unit):=
 Option.bind (sF a0) fun r1=>
 bif !r1.1 then
  some (false,4,())
 else
  Option.bind (pG a0 a1) fun r2=>
  some (r2.1,0,())
def rq (a0:List UInt8):Option (Bool×Unit):=
 Option.bind (uK 3 a0) fun r1=>
 some (r1.1,())
def cL (a0:ak) (a1:Bool):Option (Int×Unit):=
 Option.bind (gG a0) fun r1=>
 bif r1.1 != 0 then
  some (r1.1,())
 else
  Option.bind (u6 a0 3 1000000000) fun r2=>
  bif !r2.1 then
   some (1,())
  else
   bif a0.1==0 then
    bif !a1 then
     some (1,())
    else
     some (0,())
   else
    some (0,())
abbrev sK:Type:=Int×(List Int)×Int×Int×Unit
abbrev yI:Type:=((Int×Unit) ⊕ (Int×Unit))
def sJ (x1:sK) (again:sK→Option yI):Option yI:=
 bif decide (x1.2.2.2.1<x1.2.2.1) then
  Option.bind (idx x1.2.1 x1.2.2.2.1) fun y2=>
  bif y2 != x1.1 then
   some (Sum.inl (y2,()))
  else
   again (x1.1,x1.2.1,x1.2.2.1,w64 (x1.2.2.2.1+1),())
 else
  some (Sum.inr (x1.1,()))
def zA (a0:List Int):Option (Int×Unit):=
 aX (β:=(Int×Unit)) (γ:=(Int×Unit)) (
  iter (X:=sK) (β:=yI) (Int.natAbs (0:Int)+(List.length a0+(Int.natAbs ((List.length a0:Int))+(Int.natAbs (0:Int)+2)))) (0,a0,(List.length a0:Int),0,()) (sJ)) fun v3=>
 some (v3.1,())
def fe (a0:ai) (a1:ai):Option (Int×Unit):=
 Option.bind (strings_Compare a0.1 a1.1) fun r1=>
 Option.bind (strings_Compare a0.2.1 a1.2.1) fun r2=>
 Option.bind (strings_Compare a0.2.2.1 a1.2.2.1) fun r3=>
 Option.bind (zA [r1.1,r2.1,r3.1]) fun r4=>
 some (r4.1,())
abbrev gC:Type:=(List ai)×(List ai)×Int×Int×Unit
abbrev kH:Type:=((Int×Unit) ⊕ Unit)
def gB (x1:gC) (again:gC→Option kH):Option kH:=
 bif decide (x1.2.2.2.1<x1.2.2.1) then
  Option.bind (idx x1.2.1 x1.2.2.2.1) fun y2=>
  Option.bind (dQ y2.1) fun r3=>
  bif !r3.1 then
   some (Sum.inl (5,()))
  else
   Option.bind (dQ y2.2.1) fun r4=>
   bif !r4.1 then
    some (Sum.inl (5,()))
   else
    bif !(y2.2.2.1==[]) then
     Option.bind (dQ y2.2.2.1) fun r5=>
     bif !r5.1 then
      some (Sum.inl (5,()))
     else
      bif decide (x1.2.2.2.1>0) then
       Option.bind (idx x1.1 (w64 (x1.2.2.2.1 - 1))) fun y6=>
       Option.bind (fe y6 y2) fun r7=>
       bif decide (r7.1≥0) then
        some (Sum.inl (8,()))
       else
        Option.bind (cL y2.2.2.2 false) fun r8=>
        bif r8.1 != 0 then
         some (Sum.inl (r8.1,()))
        else
         again (x1.1,x1.2.1,x1.2.2.1,w64 (x1.2.2.2.1+1),())
      else
       Option.bind (cL y2.2.2.2 false) fun r9=>
       bif r9.1 != 0 then
        some (Sum.inl (r9.1,()))
       else
        again (x1.1,x1.2.1,x1.2.2.1,w64 (x1.2.2.2.1+1),())
    else
     bif decide (x1.2.2.2.1>0) then
      Option.bind (idx x1.1 (w64 (x1.2.2.2.1 - 1))) fun y10=>
      Option.bind (fe y10 y2) fun r11=>
      bif decide (r11.1≥0) then
       some (Sum.inl (8,()))
      else
       Option.bind (cL y2.2.2.2 false) fun r12=>
       bif r12.1 != 0 then
        some (Sum.inl (r12.1,()))
       else
        again (x1.1,x1.2.1,x1.2.2.1,w64 (x1.2.2.2.1+1),())
     else
      Option.bind (cL y2.2.2.2 false) fun r13=>
      bif r13.1 != 0 then
       some (Sum.inl (r13.1,()))
      else
       again (x1.1,x1.2.1,x1.2.2.1,w64 (x1.2.2.2.1+1),())
 else
  some (Sum.inr ())
def gf (a0:List ai):Option (Int×Unit):=
 bif decide (((List.length a0:Int))>100) then
  some (2,())
 else
  aX (β:=(Int×Unit)) (γ:=Unit) (
   iter (X:=gC) (β:=kH) (List.length a0+(List.length a0+(Int.natAbs ((List.length a0:Int))+(Int.natAbs (0:Int)+2)))) (a0,a0,(List.length a0:Int),0,()) (gB)) fun _=>
  some (0,())
def lG (a0:List ah) (a1:Int):Option (Int×Unit):=
 Option.bind (idx a0 a1) fun y1=>
 Option.bind (rq y1.1) fun r2=>
 bif !r2.1 then
  some (3,())
 else
  bif decide (a1>0) then
   Option.bind (idx a0 (w64 (a1 - 1))) fun y3=>
   bif Op.bytesLess y1.1 y3.1||y1.1==y3.1 then
    some (8,())
   else
    Option.bind (cL y1.2.2.1 true) fun r4=>
    bif r4.1 != 0 then
     some (r4.1,())
    else
     Option.bind (gf y1.2.2.2) fun r5=>
     some (r5.1,())
  else
   Option.bind (cL y1.2.2.1 true) fun r6=>
   bif r6.1 != 0 then
    some (r6.1,())
   else
    Option.bind (gf y1.2.2.2) fun r7=>
    some (r7.1,())
def rL (a0:ah) (a1:List UInt8):Option (Int×Unit):=
 Option.bind (strings_Compare a0.1 a1) fun r1=>
 some (r1.1,())
abbrev bP:Type:=(List ah)×(List UInt8)×Unit×Int×Int×Int×Unit
abbrev dx:Type:=((Int×Bool×Unit) ⊕ ((List ah)×(List UInt8)×Unit×Int×Int×Unit))
def dw (x1:bP) (again:bP→Option dx):Option dx:=
 bif decide (x1.2.2.2.2.1<x1.2.2.2.2.2.1) then
  let n2:Int:=w64 (Int.fdiv (bQ (w64 (x1.2.2.2.2.1+x1.2.2.2.2.2.1))) (2 ^ 1))
  Option.bind (idx x1.1 n2) fun y3=>
  Option.bind (rL y3 x1.2.1) fun r4=>
  bif decide (r4.1<0) then
   again (x1.1,x1.2.1,x1.2.2.1,x1.2.2.2.1,w64 (n2+1),x1.2.2.2.2.2.1,())
  else
   again (x1.1,x1.2.1,x1.2.2.1,x1.2.2.2.1,x1.2.2.2.2.1,n2,())
 else
  some (Sum.inr (x1.1,x1.2.1,x1.2.2.1,x1.2.2.2.1,x1.2.2.2.2.1,()))
def cw (a0:List ah) (a1:List UInt8) (a2:Unit):Option (Int×Bool×Unit):=
 aX (β:=(Int×Bool×Unit)) (γ:=((List ah)×(List UInt8)×Unit×Int×Int×Unit)) (
  iter (X:=bP) (β:=dx) (List.length a0+(List.length a1+(Int.natAbs ((List.length a0:Int))+(Int.natAbs (0:Int)+(Int.natAbs ((List.length a0:Int))+2))))) (a0,a1,a2,(List.length a0:Int),0,(List.length a0:Int),()) (dw)) fun v5=>
 bif decide (v5.2.2.2.2.1<v5.2.2.2.1) then
  Option.bind (idx v5.1 v5.2.2.2.2.1) fun y6=>
  Option.bind (rL y6 v5.2.1) fun r7=>
  some (v5.2.2.2.2.1,r7.1==0,())
 else
  some (v5.2.2.2.2.1,false,())
def iK (a0:aS) (a1:List UInt8):Option (Int×Bool×Unit):=
 Option.bind (cw a0.2.2.2 a1 ()) fun r1=>
 some (r1.1,r1.2.1,())
abbrev gL:Type:=Int×(List Int)×Int×(List UInt8)×(List UInt8)×Int×(List ah)×Unit
abbrev fD:Type:=(((List Int)×Bool×Unit) ⊕ ((List Int)×Unit))
def nM (x1:gL) (again:gL→Option fD):Option fD:=
 Option.bind (idx x1.2.2.2.2.2.2.1 x1.2.2.1) fun y2=>
 bif !(y2.2.1==[]) then
  Option.bind (idx x1.2.2.2.2.2.2.1 x1.2.2.1) fun y3=>
  Option.bind (iK (x1.2.2.2.1,x1.2.2.2.2.1,x1.2.2.2.2.2.1,x1.2.2.2.2.2.2.1) y3.2.1) fun r4=>
  bif r4.1==x1.1 then
   some (Sum.inl ([],false,()))
  else
   Option.bind (eN x1.2.1 r4.1) fun r5=>
   bif r5.1 then
    some (Sum.inl (x1.2.1,true,()))
   else
    chk (decide (((x1.2.1.length)+1)*8≤140737488355328)&&decide ((x1.2.1.length)+1≤maxLen)) <|
    again (x1.1,x1.2.1++[r4.1],r4.1,x1.2.2.2.1,x1.2.2.2.2.1,x1.2.2.2.2.2.1,x1.2.2.2.2.2.2.1,())
 else
  some (Sum.inr (x1.2.1,()))
def iO (a0:aS) (a1:Int):Option ((List Int)×Bool×Unit):=
 aX (β:=((List Int)×Bool×Unit)) (γ:=((List Int)×Unit)) (
  iter (X:=gL) (β:=fD) (Int.natAbs a1+(List.length ([]:List Int)+(Int.natAbs a1+(a0.1.length+(a0.2.1.length+(a0.2.2.1.natAbs+(a0.2.2.2.length+2))))))) (a1,[],a1,a0.1,a0.2.1,a0.2.2.1,a0.2.2.2,()) (nM)) fun v6=>
 some (v6.1,true,())
abbrev ki:Type:=(List ah)×Int×Int×(List UInt8)×(List UInt8)×Int×(List ah)×Unit
abbrev o8:Type:=((Int×Unit) ⊕ ((List UInt8)×(List UInt8)×Int×(List ah)×Unit))
def jZ (x1:ki) (again:ki→Option o8):Option o8:=
 bif decide (x1.2.2.1<x1.2.1) then
  Option.bind (idx x1.1 x1.2.2.1) fun y2=>
  Option.bind (iK (x1.2.2.2.1,x1.2.2.2.2.1,x1.2.2.2.2.2.1,x1.2.2.2.2.2.2.1) y2.2.1) fun r3=>
  bif !(y2.2.1==[]) then
   bif !r3.2.1 then
    some (Sum.inl (9,()))
   else
    again (x1.1,x1.2.1,w64 (x1.2.2.1+1),x1.2.2.2.1,x1.2.2.2.2.1,x1.2.2.2.2.2.1,x1.2.2.2.2.2.2.1,())
  else
   again (x1.1,x1.2.1,w64 (x1.2.2.1+1),x1.2.2.2.1,x1.2.2.2.2.1,x1.2.2.2.2.2.1,x1.2.2.2.2.2.2.1,())
 else
  some (Sum.inr (x1.2.2.2.1,x1.2.2.2.2.1,x1.2.2.2.2.2.1,x1.2.2.2.2.2.2.1,()))
abbrev kj:Type:=Int×Int×(List UInt8)×(List UInt8)×Int×(List ah)×Unit
abbrev o9:Type:=((Int×Unit) ⊕ ((List UInt8)×(List UInt8)×Int×(List ah)×Unit))
def kg (x1:kj) (again:kj→Option o9):Option o9:=
 bif decide (x1.2.1<x1.1) then
  Option.bind (iO (x1.2.2.1,x1.2.2.2.1,x1.2.2.2.2.1,x1.2.2.2.2.2.1) x1.2.1) fun r2=>
  bif !r2.2.1 then
   some (Sum.inl (17,()))
  else
   again (x1.1,w64 (x1.2.1+1),x1.2.2.1,x1.2.2.2.1,x1.2.2.2.2.1,x1.2.2.2.2.2.1,())
 else
  some (Sum.inr (x1.2.2.1,x1.2.2.2.1,x1.2.2.2.2.1,x1.2.2.2.2.2.1,()))
abbrev jj:Type:=Int×Int×(List UInt8)×(List UInt8)×Int×(List ah)×Unit
abbrev nO:Type:=((Int×Unit) ⊕ Unit)
def ji (x1:jj) (again:jj→Option nO):Option nO:=
 bif decide (x1.2.1<x1.1) then
  Option.bind (iO (x1.2.2.1,x1.2.2.2.1,x1.2.2.2.2.1,x1.2.2.2.2.2.1) x1.2.1) fun r2=>
  bif decide (((r2.1.length:Int))>5) then
   some (Sum.inl (2,()))
  else
   again (x1.1,w64 (x1.2.1+1),x1.2.2.1,x1.2.2.2.1,x1.2.2.2.2.1,x1.2.2.2.2.2.1,())
 else
  some (Sum.inr ())
def nN (a0:aS):Option (Int×Unit):=
 aX (β:=(Int×Unit)) (γ:=((List UInt8)×(List UInt8)×Int×(List ah)×Unit)) (
  iter (X:=ki) (β:=o8) (a0.2.2.2.length+(Int.natAbs ((a0.2.2.2.length:Int))+(Int.natAbs (0:Int)+(a0.1.length+(a0.2.1.length+(a0.2.2.1.natAbs+(a0.2.2.2.length+2))))))) (a0.2.2.2,(a0.2.2.2.length:Int),0,a0.1,a0.2.1,a0.2.2.1,a0.2.2.2,()) (jZ)) fun v4=>
 aX (β:=(Int×Unit)) (γ:=((List UInt8)×(List UInt8)×Int×(List ah)×Unit)) (
  iter (X:=kj) (β:=o9) (Int.natAbs ((v4.2.2.2.1.length:Int))+(Int.natAbs (0:Int)+(v4.1.length+(v4.2.1.length+(v4.2.2.1.natAbs+(v4.2.2.2.1.length+2)))))) ((v4.2.2.2.1.length:Int),0,v4.1,v4.2.1,v4.2.2.1,v4.2.2.2.1,()) (kg)) fun v7=>
 aX (β:=(Int×Unit)) (γ:=Unit) (
  iter (X:=jj) (β:=nO) (Int.natAbs ((v7.2.2.2.1.length:Int))+(Int.natAbs (0:Int)+(v7.1.length+(v7.2.1.length+(v7.2.2.1.natAbs+(v7.2.2.2.1.length+2)))))) ((v7.2.2.2.1.length:Int),0,v7.1,v7.2.1,v7.2.2.1,v7.2.2.2.1,()) (ji)) fun _=>
 some (0,())
abbrev iI:Type:=Int×Int×(List UInt8)×(List UInt8)×Int×(List ah)×Unit
abbrev mP:Type:=((Int×Unit) ⊕ ((List UInt8)×(List UInt8)×Int×(List ah)×Unit))
def iH (x1:iI) (again:iI→Option mP):Option mP:=
 bif decide (x1.2.1<x1.1) then
  Option.bind (lG x1.2.2.2.2.2.1 x1.2.1) fun r2=>
  bif r2.1 != 0 then
   some (Sum.inl (r2.1,()))
  else
   again (x1.1,w64 (x1.2.1+1),x1.2.2.1,x1.2.2.2.1,x1.2.2.2.2.1,x1.2.2.2.2.2.1,())
 else
  some (Sum.inr (x1.2.2.1,x1.2.2.2.1,x1.2.2.2.2.1,x1.2.2.2.2.2.1,()))
def iq (a0:aS):Option (Int×Unit):=
 Option.bind (dQ a0.1) fun r1=>
 bif !r1.1 then
  some (5,())
 else
  Option.bind (dQ a0.2.1) fun r2=>
  bif !r2.1 then
   some (5,())
  else
   Option.bind (B1 a0.2.2.1) fun r3=>
   bif !r3.1 then
    some (1,())
   else
    bif decide (((a0.2.2.2.length:Int))>500) then
     some (2,())
    else
     aX (β:=(Int×Unit)) (γ:=((List UInt8)×(List UInt8)×Int×(List ah)×Unit)) (
      iter (X:=iI) (β:=mP) (Int.natAbs ((a0.2.2.2.length:Int))+(Int.natAbs (0:Int)+(a0.1.length+(a0.2.1.length+(a0.2.2.1.natAbs+(a0.2.2.2.length+2)))))) ((a0.2.2.2.length:Int),0,a0.1,a0.2.1,a0.2.2.1,a0.2.2.2,()) (iH)) fun v6=>
     Option.bind (nN (v6.1,v6.2.1,v6.2.2.1,v6.2.2.2.1)) fun r7=>
     some (r7.1,())
def jc (a0:aS) (a1:List UInt8) (a2:Bool):Option (Int×Unit):=
 Option.bind (iq a0) fun r1=>
 bif r1.1 != 0 then
  some (r1.1,())
 else
  Option.bind (iK a0 a1) fun r2=>
  bif !r2.2.1 then
   bif a2 then
    bif !(a1==[]) then
     some (9,())
    else
     some (0,())
   else
    some (9,())
  else
   some (0,())
def rK (a0:Int) (a1:aS) (a2:List UInt8):Option (Bool×Unit):=
 Option.bind (idx a1.2.2.2 a0) fun y1=>
 some (y1.1==a2,())
abbrev eG:Type:=(List Int)×(aS×(List UInt8))×Int×Int×Unit
abbrev kJ:Type:=((Int×Unit) ⊕ Unit)
def gD (x1:eG) (again:eG→Option kJ):Option kJ:=
 bif decide (x1.2.2.2.1<x1.2.2.1) then
  Option.bind (idx x1.1 x1.2.2.2.1) fun y2=>
  Option.bind (rK y2 x1.2.1.1 x1.2.1.2) fun r3=>
  bif r3.1 then
   some (Sum.inl (x1.2.2.2.1,()))
  else
   again (x1.1,x1.2.1,x1.2.2.1,w64 (x1.2.2.2.1+1),())
 else
  some (Sum.inr ())
def nT (a0:List Int) (a1:aS×(List UInt8)):Option (Int×Unit):=
 aX (β:=(Int×Unit)) (γ:=Unit) (
  iter (X:=eG) (β:=kJ) (List.length a0+(Int.natAbs ((List.length a0:Int))+(Int.natAbs (0:Int)+2))) (a0,a1,(List.length a0:Int),0,()) (gD)) fun _=>
 some ((-1),())
def kI (a0:List Int) (a1:aS×(List UInt8)):Option (Bool×Unit):=
 Option.bind (nT a0 a1) fun r1=>
 some (decide (r1.1≥0),())
def pM (a0:aS) (a1:Int) (a2:List UInt8):Option (Bool×Unit):=
 Option.bind (iO a0 a1) fun r1=>
 Option.bind (kI r1.1 (a0,a2)) fun r2=>
 some (r2.1,())
def HD (a0:Int):Option (Bool×Unit):=
 Option.bind (nr a0 1 5) fun r1=>
 some (r1.1,())
abbrev mU:Type:=(List UInt8)×Int×Int×Unit
abbrev wL:Type:=((Bool×Unit) ⊕ Unit)
def rE (x1:mU) (again:mU→Option wL):Option wL:=
 bif decide (x1.2.2.1<x1.2.1) then
  Option.bind (mW x1.1 x1.2.2.1) fun c2=>
  bif decide ((c2.toNat:Int)<48) then
   some (Sum.inl (false,()))
  else
   Option.bind (mW x1.1 x1.2.2.1) fun c3=>
   bif decide ((c3.toNat:Int)>57) then
    some (Sum.inl (false,()))
   else
    again (x1.1,x1.2.1,w64 (x1.2.2.1+1),())
 else
  some (Sum.inr ())
def jC (a0:List UInt8):Option (Bool×Unit):=
 bif a0==[] then
  some (false,())
 else
  aX (β:=(Bool×Unit)) (γ:=Unit) (
   iter (X:=mU) (β:=wL) (List.length a0+(Int.natAbs ((List.length a0:Int))+(Int.natAbs (0:Int)+2))) (a0,(List.length a0:Int),0,()) (rE)) fun _=>
  some (true,())
abbrev qA:Type:=(List UInt8)×Int×Int×Int×Unit
abbrev A4:Type:=((Bool×Unit) ⊕ (Int×Unit))
def vA (x1:qA) (again:qA→Option A4):Option A4:=
 bif decide (x1.2.2.2.1<x1.2.2.1) then
  let n2:Int:=w64 ((w64 (((x1.1.length:Int)) - 1)) - x1.2.2.2.1)
  Option.bind (mW x1.1 n2) fun c3=>
  bif (Int.tmod x1.2.2.2.1 2)==1 then
   let n4:Int:=w64 ((w64 (wu8 ((c3.toNat:Int) - 48)))*3)
   again (x1.1,w64 (x1.2.1+n4),x1.2.2.1,w64 (x1.2.2.2.1+1),())
  else
   let n5:Int:=w64 (x1.2.1+(w64 (wu8 ((c3.toNat:Int) - 48))))
   again (x1.1,n5,x1.2.2.1,w64 (x1.2.2.2.1+1),())
 else
  some (Sum.inr (x1.2.1,()))
def nq (a0:List UInt8):Option (Bool×Unit):=
 aX (β:=(Bool×Unit)) (γ:=(Int×Unit)) (
  iter (X:=qA) (β:=A4) (List.length a0+(Int.natAbs (0:Int)+(Int.natAbs ((List.length a0:Int))+(Int.natAbs (0:Int)+2)))) (a0,0,(List.length a0:Int),0,()) (vA)) fun v6=>
 some ((Int.tmod v6.1 10)==0,())
def CR (a0:Int) (a1:List UInt8):Option (Bool×Unit):=
 bif a0==1 then
  Option.bind (jC a1) fun r1=>
  bif r1.1 then
   bif ((List.length a1:Int))==8 then
    Option.bind (nq a1) fun r2=>
    some (r2.1,())
   else
    bif decide (((List.length a1:Int))≥12) then
     bif decide (((List.length a1:Int))≤14) then
      Option.bind (nq a1) fun r3=>
      some (r3.1,())
     else
      some (false,())
    else
     some (false,())
  else
   some (false,())
 else
  bif a0==2 then
   Option.bind (jC a1) fun r4=>
   bif r4.1 then
    bif ((List.length a1:Int))==13 then
     Option.bind (nq a1) fun r5=>
     some (r5.1,())
    else
     some (false,())
   else
    some (false,())
  else
   bif a0==3 then
    Option.bind (jC a1) fun r6=>
    bif r6.1 then
     bif ((List.length a1:Int))==18 then
      Option.bind (nq a1) fun r7=>
      some (r7.1,())
     else
      some (false,())
    else
     some (false,())
   else
    bif a0==4 then
     Option.bind (nr ((List.length a1:Int)) 15 34) fun r8=>
     bif !r8.1 then
      some (false,())
     else
      chk (decide (0≤(0:Int))&&decide ((0:Int)≤2)&&decide (2≤(List.length a1:Int))) <|
      Option.bind (A1 (List.drop 0 (List.take (Int.toNat 2) a1)) false) fun r9=>
      bif !r9.1 then
       some (false,())
      else
       chk (decide (0≤(2:Int))&&decide ((2:Int)≤4)&&decide (4≤(List.length a1:Int))) <|
       Option.bind (jC (List.drop 2 (List.take (Int.toNat 4) a1))) fun r10=>
       bif !r10.1 then
        some (false,())
       else
        chk (decide (0≤(4:Int))&&decide ((4:Int)≤((List.length a1:Int)))&&decide (((List.length a1:Int))≤(List.length a1:Int))) <|
        Option.bind (A1 (List.drop 4 (List.take (Int.toNat ((List.length a1:Int))) a1)) true) fun r11=>
        bif !r11.1 then
         some (false,())
        else
         chk (decide (0≤(2:Int))&&decide ((2:Int)≤4)&&decide (4≤(List.length a1:Int))) <|
         bif !(Op.bytesLess (List.drop 2 (List.take (Int.toNat 4) a1)) [48,50]) then
          chk (decide (0≤(2:Int))&&decide ((2:Int)≤4)&&decide (4≤(List.length a1:Int))) <|
          bif Op.bytesLess (List.drop 2 (List.take (Int.toNat 4) a1)) [57,56]||(List.drop 2 (List.take (Int.toNat 4) a1))==[57,56] then
           chk (decide (0≤(4:Int))&&decide ((4:Int)≤((List.length a1:Int)))&&decide (((List.length a1:Int))≤(List.length a1:Int))) <|
           chk (decide (0≤(0:Int))&&decide ((0:Int)≤4)&&decide (4≤(List.length a1:Int))) <|
           chk (decide (List.length (List.drop 4 (List.take (Int.toNat ((List.length a1:Int))) a1))+List.length (List.drop 0 (List.take (Int.toNat 4) a1))≤maxLen)) <|
           Option.bind (OK ((List.drop 4 (List.take (Int.toNat ((List.length a1:Int))) a1))++(List.drop 0 (List.take (Int.toNat 4) a1)))) fun r12=>
           Option.bind (HF r12.1 97) fun r13=>
           some (r13.1==1,())
          else
           some (false,())
         else
          some (false,())
    else
     Option.bind (jC a1) fun r14=>
     bif r14.1 then
      bif ((List.length a1:Int))==11 then
       Option.bind (mW a1 0) fun c15=>
       bif (c15.toNat:Int) != 48 then
        Option.bind (mW a1 10) fun c16=>
        Option.bind (Jv a1) fun r17=>
        some ((c16.toNat:Int)==r17.1,())
       else
        some (false,())
      else
       some (false,())
     else
      some (false,())
def CO (a0:Int) (a1:List UInt8):Option (Bool×Int×Unit):=
 Option.bind (HD a0) fun r1=>
 bif !r1.1 then
  some (false,4,())
 else
  Option.bind (CR a0 a1) fun r2=>
  some (r2.1,0,())
def xE (a0:List UInt8):Option (Bool×Unit):=
 Option.bind (CO 3 a0) fun r1=>
 some (r1.1,())
def Ig (a0:ak) (a1:ak):Option (Int×Unit):=
 Option.bind (xG a0 9) fun r1=>
 Option.bind (xG a1 9) fun r2=>
 Option.bind (DE r1.1 r2.1) fun r3=>
 some (r3.1,())
def jm (a0:ak) (a1:Bool):Option (Bool×Unit):=
 Option.bind (lQ a0) fun r1=>
 bif r1.1==0 then
  bif decide (a0.1≥0) then
   bif decide (a0.1>0) then
    Option.bind (Ig a0 (1000000000,0)) fun r2=>
    bif decide (r2.1≤0) then
     some (decide (a0.2≤3),())
    else
     some (false,())
   else
    bif !a1 then
     Option.bind (Ig a0 (1000000000,0)) fun r3=>
     bif decide (r3.1≤0) then
      some (decide (a0.2≤3),())
     else
      some (false,())
    else
     some (false,())
  else
   some (false,())
 else
  some (false,())
abbrev kr:Type:=(List Int)×Int×Int×Unit
abbrev pg:Type:=((Int×Unit) ⊕ Unit)
def ko (x1:kr) (again:kr→Option pg):Option pg:=
 bif decide (x1.2.2.1<x1.2.1) then
  Option.bind (idx x1.1 x1.2.2.1) fun y2=>
  bif y2 != 0 then
   some (Sum.inl (y2,()))
  else
   again (x1.1,x1.2.1,w64 (x1.2.2.1+1),())
 else
  some (Sum.inr ())
def fE (a0:ai) (a1:ai):Option (Int×Unit):=
 Option.bind (strings_Compare a0.1 a1.1) fun r1=>
 Option.bind (strings_Compare a0.2.1 a1.2.1) fun r2=>
 Option.bind (strings_Compare a0.2.2.1 a1.2.2.1) fun r3=>
 aX (β:=(Int×Unit)) (γ:=Unit) (
  iter (X:=kr) (β:=pg) (List.length [r1.1,r2.1,r3.1]+(Int.natAbs ((List.length [r1.1,r2.1,r3.1]:Int))+(Int.natAbs (0:Int)+2))) ([r1.1,r2.1,r3.1],(List.length [r1.1,r2.1,r3.1]:Int),0,()) (ko)) fun _=>
 some (0,())
abbrev jl:Type:=(List ai)×(List ai)×Int×Int×Unit
abbrev nP:Type:=((Int×Unit) ⊕ Unit)
def jk (x1:jl) (again:jl→Option nP):Option nP:=
 bif decide (x1.2.2.2.1<x1.2.2.1) then
  Option.bind (idx x1.2.1 x1.2.2.2.1) fun y2=>
  Option.bind (lR y2.1) fun r3=>
  bif !r3.1 then
   some (Sum.inl (5,()))
  else
   Option.bind (lR y2.2.1) fun r4=>
   bif !r4.1 then
    some (Sum.inl (5,()))
   else
    bif !(y2.2.2.1==[]) then
     Option.bind (lR y2.2.2.1) fun r5=>
     bif !r5.1 then
      some (Sum.inl (5,()))
     else
      bif decide (x1.2.2.2.1>0) then
       Option.bind (idx x1.1 (w64 (x1.2.2.2.1 - 1))) fun y6=>
       Option.bind (fE y6 y2) fun r7=>
       bif decide (r7.1≥0) then
        some (Sum.inl (8,()))
       else
        Option.bind (jm y2.2.2.2 true) fun r8=>
        bif !r8.1 then
         some (Sum.inl (1,()))
        else
         again (x1.1,x1.2.1,x1.2.2.1,w64 (x1.2.2.2.1+1),())
      else
       Option.bind (jm y2.2.2.2 true) fun r9=>
       bif !r9.1 then
        some (Sum.inl (1,()))
       else
        again (x1.1,x1.2.1,x1.2.2.1,w64 (x1.2.2.2.1+1),())
    else
     bif decide (x1.2.2.2.1>0) then
      Option.bind (idx x1.1 (w64 (x1.2.2.2.1 - 1))) fun y10=>
      Option.bind (fE y10 y2) fun r11=>
      bif decide (r11.1≥0) then
       some (Sum.inl (8,()))
      else
       Option.bind (jm y2.2.2.2 true) fun r12=>
       bif !r12.1 then
        some (Sum.inl (1,()))
       else
        again (x1.1,x1.2.1,x1.2.2.1,w64 (x1.2.2.2.1+1),())
     else
      Option.bind (jm y2.2.2.2 true) fun r13=>
      bif !r13.1 then
       some (Sum.inl (1,()))
      else
       again (x1.1,x1.2.1,x1.2.2.1,w64 (x1.2.2.2.1+1),())
 else
  some (Sum.inr ())
def jd (a0:List ai):Option (Int×Unit):=
 bif decide (((List.length a0:Int))>100) then
  some (2,())
 else
  aX (β:=(Int×Unit)) (γ:=Unit) (
   iter (X:=jl) (β:=nP) (List.length a0+(List.length a0+(Int.natAbs ((List.length a0:Int))+(Int.natAbs (0:Int)+2)))) (a0,a0,(List.length a0:Int),0,()) (jk)) fun _=>
  some (0,())
abbrev lN:Type:=(List UInt8)×(List ah)×Int×Int×Unit
abbrev vn:Type:=((Int×Unit) ⊕ Unit)
def pN (x1:lN) (again:lN→Option vn):Option vn:=
 bif decide (x1.2.2.2.1<x1.2.2.1) then
  Option.bind (idx x1.2.1 x1.2.2.2.1) fun y2=>
  bif y2.1==x1.1 then
   some (Sum.inl (x1.2.2.2.1,()))
  else
   again (x1.1,x1.2.1,x1.2.2.1,w64 (x1.2.2.2.1+1),())
 else
  some (Sum.inr ())
def gh (a0:List ah) (a1:List UInt8):Option (Int×Unit):=
 aX (β:=(Int×Unit)) (γ:=Unit) (
  iter (X:=lN) (β:=vn) (List.length a1+(List.length a0+(Int.natAbs ((List.length a0:Int))+(Int.natAbs (0:Int)+2)))) (a1,a0,(List.length a0:Int),0,()) (pN)) fun _=>
 some ((-1),())
abbrev mS:Type:=(List ah)×Int×Int×Int×Int×Unit
abbrev AR:Type:=((Bool×Unit) ⊕ Unit)
def qx (x1:mS) (again:mS→Option AR):Option AR:=
 bif decide (x1.2.2.2.2.1<x1.2.2.2.1) then
  Option.bind (idx x1.1 x1.2.2.1) fun y2=>
  bif y2.2.1==[] then
   some (Sum.inl (false,()))
  else
   Option.bind (idx x1.1 x1.2.2.1) fun y3=>
   Option.bind (gh x1.1 y3.2.1) fun r4=>
   bif r4.1==x1.2.1 then
    some (Sum.inl (true,()))
   else
    again (x1.1,x1.2.1,r4.1,x1.2.2.2.1,w64 (x1.2.2.2.2.1+1),())
 else
  some (Sum.inr ())
def B8 (a0:List ah) (a1:Int):Option (Bool×Unit):=
 aX (β:=(Bool×Unit)) (γ:=Unit) (
  iter (X:=mS) (β:=AR) (List.length a0+(Int.natAbs a1+(Int.natAbs a1+(Int.natAbs ((List.length a0:Int))+(Int.natAbs (0:Int)+2))))) (a0,a1,a1,(List.length a0:Int),0,()) (qx)) fun _=>
 some (false,())
abbrev yx:Type:=(List ah)×Int×(List Int)×Unit
abbrev HB:Type:=(((List Int)×Bool×Unit) ⊕ ((List Int)×Unit))
def Hz (x1:yx) (again:yx→Option HB):Option HB:=
 Option.bind (idx x1.1 x1.2.1) fun y2=>
 bif !(y2.2.1==[]) then
  Option.bind (idx x1.1 x1.2.1) fun y3=>
  Option.bind (gh x1.1 y3.2.1) fun r4=>
  bif decide (((x1.2.2.1.length:Int))>((x1.1.length:Int))) then
   some (Sum.inl ([],false,()))
  else
   chk (decide (((x1.2.2.1.length)+1)*8≤140737488355328)&&decide ((x1.2.2.1.length)+1≤maxLen)) <|
   again (x1.1,r4.1,x1.2.2.1++[r4.1],())
 else
  some (Sum.inr (x1.2.2.1,()))
def Hy (a0:List ah) (a1:Int):Option ((List Int)×Bool×Unit):=
 aX (β:=((List Int)×Bool×Unit)) (γ:=((List Int)×Unit)) (
  iter (X:=yx) (β:=HB) (List.length a0+(Int.natAbs a1+(List.length ([a1]:List Int)+2))) (a0,a1,[a1],()) (Hz)) fun v5=>
 some (v5.1,true,())
abbrev vl:Type:=(List ah)×(List ah)×Int×Int×Unit
abbrev AS:Type:=((Int×Unit) ⊕ ((List ah)×Unit))
def vj (x1:vl) (again:vl→Option AS):Option AS:=
 bif decide (x1.2.2.2.1<x1.2.2.1) then
  Option.bind (idx x1.2.1 x1.2.2.2.1) fun y2=>
  bif !(y2.2.1==[]) then
   Option.bind (gh x1.1 y2.2.1) fun r3=>
   bif decide (r3.1<0) then
    some (Sum.inl (9,()))
   else
    again (x1.1,x1.2.1,x1.2.2.1,w64 (x1.2.2.2.1+1),())
  else
   again (x1.1,x1.2.1,x1.2.2.1,w64 (x1.2.2.2.1+1),())
 else
  some (Sum.inr (x1.1,()))
abbrev vm:Type:=(List ah)×Int×Int×Unit
abbrev AT:Type:=((Int×Unit) ⊕ ((List ah)×Unit))
def vk (x1:vm) (again:vm→Option AT):Option AT:=
 bif decide (x1.2.2.1<x1.2.1) then
  Option.bind (B8 x1.1 x1.2.2.1) fun r2=>
  bif r2.1 then
   some (Sum.inl (17,()))
  else
   again (x1.1,x1.2.1,w64 (x1.2.2.1+1),())
 else
  some (Sum.inr (x1.1,()))
abbrev sS:Type:=(List ah)×Int×Int×Unit
abbrev y8:Type:=((Int×Unit) ⊕ Unit)
def sR (x1:sS) (again:sS→Option y8):Option y8:=
 bif decide (x1.2.2.1<x1.2.1) then
  Option.bind (Hy x1.1 x1.2.2.1) fun r2=>
  bif !r2.2.1 then
   some (Sum.inl (2,()))
  else
   bif decide ((w64 (((r2.1.length:Int)) - 1))>5) then
    some (Sum.inl (2,()))
   else
    again (x1.1,x1.2.1,w64 (x1.2.2.1+1),())
 else
  some (Sum.inr ())
def B9 (a0:List ah):Option (Int×Unit):=
 aX (β:=(Int×Unit)) (γ:=((List ah)×Unit)) (
  iter (X:=vl) (β:=AS) (List.length a0+(List.length a0+(Int.natAbs ((List.length a0:Int))+(Int.natAbs (0:Int)+2)))) (a0,a0,(List.length a0:Int),0,()) (vj)) fun v4=>
 aX (β:=(Int×Unit)) (γ:=((List ah)×Unit)) (
  iter (X:=vm) (β:=AT) (v4.1.length+(Int.natAbs ((v4.1.length:Int))+(Int.natAbs (0:Int)+2))) (v4.1,(v4.1.length:Int),0,()) (vk)) fun v7=>
 aX (β:=(Int×Unit)) (γ:=Unit) (
  iter (X:=sS) (β:=y8) (v7.1.length+(Int.natAbs ((v7.1.length:Int))+(Int.natAbs (0:Int)+2))) (v7.1,(v7.1.length:Int),0,()) (sR)) fun _=>
 some (0,())
abbrev lK:Type:=(List ah)×Int×Int×(List UInt8)×(List UInt8)×Int×(List ah)×Unit
abbrev qv:Type:=((Int×Unit) ⊕ ((List UInt8)×(List UInt8)×Int×(List ah)×Unit))
def lJ (x1:lK) (again:lK→Option qv):Option qv:=
 bif decide (x1.2.2.1<x1.2.1) then
  Option.bind (idx x1.1 x1.2.2.1) fun y2=>
  Option.bind (xE y2.1) fun r3=>
  bif !r3.1 then
   some (Sum.inl (3,()))
  else
   bif decide (x1.2.2.1>0) then
    Option.bind (idx x1.2.2.2.2.2.2.1 (w64 (x1.2.2.1 - 1))) fun y4=>
    bif Op.bytesLess y2.1 y4.1||y2.1==y4.1 then
     some (Sum.inl (8,()))
    else
     Option.bind (jm y2.2.2.1 false) fun r5=>
     bif !r5.1 then
      some (Sum.inl (1,()))
     else
      Option.bind (jd y2.2.2.2) fun r6=>
      bif r6.1 != 0 then
       some (Sum.inl (r6.1,()))
      else
       again (x1.1,x1.2.1,w64 (x1.2.2.1+1),x1.2.2.2.1,x1.2.2.2.2.1,x1.2.2.2.2.2.1,x1.2.2.2.2.2.2.1,())
   else
    Option.bind (jm y2.2.2.1 false) fun r7=>
    bif !r7.1 then
     some (Sum.inl (1,()))
    else
     Option.bind (jd y2.2.2.2) fun r8=>
     bif r8.1 != 0 then
      some (Sum.inl (r8.1,()))
     else
      again (x1.1,x1.2.1,w64 (x1.2.2.1+1),x1.2.2.2.1,x1.2.2.2.2.1,x1.2.2.2.2.2.1,x1.2.2.2.2.2.2.1,())
 else
  some (Sum.inr (x1.2.2.2.1,x1.2.2.2.2.1,x1.2.2.2.2.2.1,x1.2.2.2.2.2.2.1,()))
def lI (a0:aS):Option (Int×Unit):=
 Option.bind (lR a0.1) fun r1=>
 bif !r1.1 then
  some (5,())
 else
  Option.bind (lR a0.2.1) fun r2=>
  bif !r2.1 then
   some (5,())
  else
   Option.bind (EP a0.2.2.1) fun r3=>
   bif !r3.1 then
    some (1,())
   else
    bif decide (((a0.2.2.2.length:Int))>500) then
     some (2,())
    else
     aX (β:=(Int×Unit)) (γ:=((List UInt8)×(List UInt8)×Int×(List ah)×Unit)) (
      iter (X:=lK) (β:=qv) (a0.2.2.2.length+(Int.natAbs ((a0.2.2.2.length:Int))+(Int.natAbs (0:Int)+(a0.1.length+(a0.2.1.length+(a0.2.2.1.natAbs+(a0.2.2.2.length+2))))))) (a0.2.2.2,(a0.2.2.2.length:Int),0,a0.1,a0.2.1,a0.2.2.1,a0.2.2.2,()) (lJ)) fun v12=>
     Option.bind (B9 v12.2.2.2.1) fun r13=>
     some (r13.1,())
abbrev iQ:Type:=(List ah)×(List UInt8)×(List Int)×Int×Int×Unit
abbrev y7:Type:=(((List Int)×Unit) ⊕ ((List Int)×Unit))
def iP (x1:iQ) (again:iQ→Option y7):Option y7:=
 bif decide (x1.2.2.2.2.1<x1.2.2.2.1) then
  Option.bind (Hy x1.1 x1.2.2.2.2.1) fun r2=>
  bif x1.2.1==[] then
   chk (decide (((x1.2.2.1.length)+1)*8≤140737488355328)&&decide ((x1.2.2.1.length)+1≤maxLen)) <|
   again (x1.1,x1.2.1,x1.2.2.1++[x1.2.2.2.2.1],x1.2.2.2.1,w64 (x1.2.2.2.2.1+1),())
  else
   Option.bind (gh x1.1 x1.2.1) fun r3=>
   Option.bind (eN r2.1 r3.1) fun r4=>
   bif r4.1 then
    chk (decide (((x1.2.2.1.length)+1)*8≤140737488355328)&&decide ((x1.2.2.1.length)+1≤maxLen)) <|
    again (x1.1,x1.2.1,x1.2.2.1++[x1.2.2.2.2.1],x1.2.2.2.1,w64 (x1.2.2.2.2.1+1),())
   else
    again (x1.1,x1.2.1,x1.2.2.1,x1.2.2.2.1,w64 (x1.2.2.2.2.1+1),())
 else
  some (Sum.inr (x1.2.2.1,()))
def nQ (a0:List ah) (a1:List UInt8):Option ((List Int)×Unit):=
 aX (β:=((List Int)×Unit)) (γ:=((List Int)×Unit)) (
  iter (X:=iQ) (β:=y7) (List.length a0+(List.length a1+(List.length ([]:List Int)+(Int.natAbs ((List.length a0:Int))+(Int.natAbs (0:Int)+2))))) (a0,a1,[],(List.length a0:Int),0,()) (iP)) fun v5=>
 some (v5.1,())
abbrev wI:Type:=Int×Int×Int×Unit
abbrev wH:Type:=((Int×Bool×Unit) ⊕ (Int×Unit))
def NK (x1:wI) (again:wI→Option wH):Option wH:=
 bif decide (x1.2.2.1<x1.2.1) then
  again (w64 (x1.1*10),x1.2.1,w64 (x1.2.2.1+1),())
 else
  some (Sum.inr (x1.1,()))
def Jq (a0:List UInt8):Option (Int×Bool×Unit):=
 bif decide (((List.length a0:Int))>15) then
  some (0,false,())
 else
  Option.bind (qh a0) fun r1=>
  bif !r1.1 then
   some (0,false,())
  else
   aX (β:=(Int×Bool×Unit)) (γ:=(Int×Unit)) (
    iter (X:=wI) (β:=wH) (Int.natAbs (1:Int)+(Int.natAbs (w64 (17 - ((List.length a0:Int))))+(Int.natAbs (0:Int)+2))) (1,w64 (17 - ((List.length a0:Int))),0,()) (NK)) fun v3=>
   some (v3.1,true,())
abbrev nA:Type:=Int×(List UInt8)×Int×Unit
abbrev ny:Type:=(((List UInt8)×Int×Unit) ⊕ Unit)
def DU (x1:nA) (again:nA→Option ny):Option ny:=
 bif decide (x1.2.2.1<10) then
  Option.bind (strconv_Itoa x1.2.2.1) fun r2=>
  chk (decide (x1.2.1.length+r2.1.length≤maxLen)) <|
  Option.bind (pG x1.1 (x1.2.1++r2.1)) fun r3=>
  bif r3.1 then
   some (Sum.inl (x1.2.1++r2.1,0,()))
  else
   again (x1.1,x1.2.1,w64 (x1.2.2.1+1),())
 else
  some (Sum.inr ())
def Af (a0:Int) (a1:List UInt8):Option ((List UInt8)×Int×Unit):=
 Option.bind (sF a0) fun r1=>
 bif !r1.1 then
  some ([],4,())
 else
  bif decide (((List.length a1:Int))>34) then
   some ([],3,())
  else
   bif a0==4 then
    bif decide (((List.length a1:Int))<2) then
     some ([],3,())
    else
     Option.bind (E8 a1) fun r2=>
     bif !r2.1 then
      some ([],3,())
     else
      bif decide (((List.length a1:Int))<13) then
       some ([],3,())
      else
       chk (decide (0≤(0:Int))&&decide ((0:Int)≤2)&&decide (2≤(List.length a1:Int))) <|
       chk (decide (List.length (List.drop 0 (List.take (Int.toNat 2) a1))+List.length [48,48]≤maxLen)) <|
       chk (decide (0≤(2:Int))&&decide ((2:Int)≤((List.length a1:Int)))&&decide (((List.length a1:Int))≤(List.length a1:Int))) <|
       chk (decide (List.length ((List.drop 0 (List.take (Int.toNat 2) a1))++[48,48])+List.length (List.drop 2 (List.take (Int.toNat ((List.length a1:Int))) a1))≤maxLen)) <|
       Option.bind (zj (((List.drop 0 (List.take (Int.toNat 2) a1))++[48,48])++(List.drop 2 (List.take (Int.toNat ((List.length a1:Int))) a1)))) fun r3=>
       chk (decide (0≤(0:Int))&&decide ((0:Int)≤2)&&decide (2≤(List.length a1:Int))) <|
       Option.bind (E9 (w64 (98 - r3.1)) 2) fun r4=>
       chk (decide (List.length (List.drop 0 (List.take (Int.toNat 2) a1))+r4.1.length≤maxLen)) <|
       chk (decide (0≤(2:Int))&&decide ((2:Int)≤((List.length a1:Int)))&&decide (((List.length a1:Int))≤(List.length a1:Int))) <|
       chk (decide (List.length ((List.drop 0 (List.take (Int.toNat 2) a1))++r4.1)+List.length (List.drop 2 (List.take (Int.toNat ((List.length a1:Int))) a1))≤maxLen)) <|
       Option.bind (yH (((List.drop 0 (List.take (Int.toNat 2) a1))++r4.1)++(List.drop 2 (List.take (Int.toNat ((List.length a1:Int))) a1)))) fun r5=>
       bif !r5.1 then
        some ([],3,())
       else
        some (((List.drop 0 (List.take (Int.toNat 2) a1))++r4.1)++(List.drop 2 (List.take (Int.toNat ((List.length a1:Int))) a1)),0,())
   else
    aX (β:=((List UInt8)×Int×Unit)) (γ:=Unit) (
     iter (X:=nA) (β:=ny) (Int.natAbs a0+(List.length a1+(Int.natAbs (0:Int)+2))) (a0,a1,0,()) (DU)) fun _=>
    some ([],3,())
def Dz (a0:List UInt8) (a1:Int):Option ((List UInt8)×Int×Unit):=
 Option.bind (Jq a0) fun r1=>
 bif !r1.2.1 then
  some ([],3,())
 else
  Option.bind (jA a1 0 (w64 (r1.1 - 1))) fun r2=>
  bif r2.1 then
   some ([],1,())
  else
   Option.bind (strconv_Itoa a1) fun r3=>
   let n4:Int:=w64 ((w64 (17 - ((List.length a0:Int)))) - ((r3.1.length:Int)))
   Option.bind (strings_Repeat [48] n4) fun r5=>
   chk (decide (List.length a0+r5.1.length≤maxLen)) <|
   chk (decide (List.length (a0++r5.1)+r3.1.length≤maxLen)) <|
   Option.bind (Af 3 ((a0++r5.1)++r3.1)) fun r6=>
   some (r6.1,r6.2.1,())
def G6:Option (Bool×Unit):=
 Option.bind (Dz [51,52,48,49,50,51,52,53] 1) fun r1=>
 bif r1.2.1==0 then
  some (r1.1==[51,52,48,49,50,51,52,53,48,48,48,48,48,48,48,48,49,55],())
 else
  some (false,())
end Go.Md
namespace Go.Md
open Go.Dn
def gM (a0:aS) (a1:Int) (a2:List UInt8):Option (Bool×Unit):=
 bif a2==[] then
  some (true,())
 else
  Option.bind (idx a0.2.2.2 a1) fun y1=>
  bif y1.1==a2 then
   some (true,())
  else
   Option.bind (pM a0 a1 a2) fun r2=>
   some (r2.1,())
def qy (a0:ak):Option (aa×Unit):=
 Option.bind (xG a0 9) fun r1=>
 some (r1.1,())
abbrev xF:Type:=Int×Bool×(List Int)×Int×Int×Unit
abbrev CN:Type:=((ak×Int×Unit) ⊕ (Int×Bool×(List Int)×Int×Int×Unit))
def oU (x1:xF) (again:xF→Option CN):Option CN:=
 bif decide (x1.1>0) then
  Option.bind (vo 10) fun r2=>
  Option.bind (Ca (false,x1.2.2.1) r2.1) fun r3=>
  Option.bind (wJ r3.2.1) fun r4=>
  bif r4.1 != 0 then
   some (Sum.inr (x1.1,x1.2.1,x1.2.2.1,x1.2.2.2.1,x1.2.2.2.2.1,()))
  else
   bif x1.2.1 then
    Option.bind (wJ r3.1) fun r5=>
    again (w64 (x1.1 - 1),r5.1 != 0,r3.1.2,x1.2.2.2.1,x1.2.2.2.2.1,())
   else
    again (w64 (x1.1 - 1),false,r3.1.2,x1.2.2.2.1,x1.2.2.2.2.1,())
 else
  some (Sum.inr (x1.1,x1.2.1,x1.2.2.1,x1.2.2.2.1,x1.2.2.2.2.1,()))
def AU (a0:aa):Option (ak×Int×Unit):=
 aX (β:=(ak×Int×Unit)) (γ:=(Int×Bool×(List Int)×Int×Int×Unit)) (
  iter (X:=xF) (β:=CN) (Int.natAbs (9:Int)+(a0.2.length+(Int.natAbs (0:Int)+(Int.natAbs (0:Int)+2)))) (9,a0.1,a0.2,0,0,()) (oU)) fun v6=>
 Option.bind (ER (v6.2.1,v6.2.2.1) 1000000000000000) fun r7=>
 bif !r7.2.1 then
  some ((0,0),1,())
 else
  some ((r7.1,v6.1),0,())
end Go.Md
namespace Go.Md
open Go.Dn
def sj (a0:an):Option (ak×Int×Unit):=
 Option.bind (sE a0 9) fun r1=>
 some (r1.1,r1.2.1,())
end Go.Md
