/-
  The plain models of the functions that the law reaches, second part. No condition.
-/
import Derived.Test.YtfeonoiibclkiaaGreatDoorYm
import Derived.Lib.Bytealg
import Derived.Lib.Repeat
import Derived.Lib.ItoaNum
set_option linter.all false
namespace Go.Md
open Go.Dn
def strings_Compare (a b:List UInt8):Option (Int×Unit):=some (Lib.compareBytes a b,())
abbrev vu:Type:=(List UInt8)×ak
abbrev pJ:Type:=Bool×ak×(List UInt8)
abbrev yY:Type:=Int×Int×(List UInt8)×ak×(List UInt8)×ak×Int×(List pJ)×(List UInt8)
abbrev Jg:Type:=(List UInt8)×(List UInt8)×Int×Int×Int×Bool×(List vu)×(List yY)×(List pJ)
abbrev sR:Type:=Int×Int×Int×Unit
abbrev sQ:Type:=((Int×Unit) ⊕ (Int×Unit))
def HU (x1:sR) (again:sR→Option sQ):Option sQ:=
 bif decide (x1.2.2.1<x1.2.1) then
  again (w64 (x1.1*10),x1.2.1,w64 (x1.2.2.1+1),())
 else
  some (Sum.inr (x1.1,()))
def yP (a0:Int):Option (Int×Unit):=
 bu (β:=(Int×Unit)) (γ:=(Int×Unit)) (
  iter (X:=sR) (β:=sQ) (Int.natAbs (1:Int)+(Int.natAbs a0+(Int.natAbs (0:Int)+2))) (1,a0,0,()) (HU)) fun v2=>
 some (v2.1,())
def rS (a0:ak) (a1:Int) (a2:Int):Option (Bool×Unit):=
 bif decide (a0.2≤a1) then
  bif decide (a0.1≥0) then
   Option.bind (yP a0.2) fun r1=>
   some (decide (a0.1≤(w64 (a2*r1.1))),())
  else
   some (false,())
 else
  some (false,())
abbrev gJ:Type:=Int×Int×Int×(List Int)×Int×Int×(List Int)×Int×Int×Bool×(List Int)×Bool×(List Int)×Bool×(List Int)×(List Int)×Unit
abbrev ov:Type:=(((an×Unit) ⊕ (Bool×(List Int)×Bool×(List Int)×Bool×(List Int)×(List Int)×Unit)) ⊕ (Int×Int×(List Int)×Int×Int×Bool×(List Int)×Bool×(List Int)×Bool×(List Int)×(List Int)×Unit))
def kz (x1:gJ) (again:gJ→Option ov):Option ov:=
 bif decide (x1.2.2.2.2.2.2.2.2.1<x1.2.2.2.2.2.2.2.1) then
  Option.bind (idx x1.2.2.2.2.2.2.1 x1.2.2.2.2.2.2.2.2.1) fun y2=>
  chk (decide (0≤(w64 (x1.1+x1.2.2.2.2.2.2.2.2.1)))&&decide ((w64 (x1.1+x1.2.2.2.2.2.2.2.2.1))<(x1.2.2.2.2.2.2.2.2.2.2.2.2.2.2.2.1.length:Int))) <|
  Option.bind (x1.2.2.2.2.2.2.2.2.2.2.2.2.2.2.2.1[(w64 (x1.1+x1.2.2.2.2.2.2.2.2.1)).toNat]?) fun y3=>
  let n4:Int:=bI ((bI y3)+(bI ((bI x1.2.1)*(bI y2))))
  chk (decide (0≤(w64 (x1.1+x1.2.2.2.2.2.2.2.2.1)))&&decide ((w64 (x1.1+x1.2.2.2.2.2.2.2.2.1))<(x1.2.2.2.2.2.2.2.2.2.2.2.2.2.2.2.1.length:Int))) <|
  Option.bind (x1.2.2.2.2.2.2.2.2.2.2.2.2.2.2.2.1[(w64 (x1.1+x1.2.2.2.2.2.2.2.2.1)).toNat]?) fun _=>
  again (x1.1,x1.2.1,Int.fdiv (bI (x1.2.2.1+n4)) (2 ^ 32),x1.2.2.2.1,x1.2.2.2.2.1,x1.2.2.2.2.2.1,x1.2.2.2.2.2.2.1,x1.2.2.2.2.2.2.2.1,w64 (x1.2.2.2.2.2.2.2.2.1+1),x1.2.2.2.2.2.2.2.2.2.1,x1.2.2.2.2.2.2.2.2.2.2.1,x1.2.2.2.2.2.2.2.2.2.2.2.1,x1.2.2.2.2.2.2.2.2.2.2.2.2.1,x1.2.2.2.2.2.2.2.2.2.2.2.2.2.1,x1.2.2.2.2.2.2.2.2.2.2.2.2.2.2.1,List.set x1.2.2.2.2.2.2.2.2.2.2.2.2.2.2.2.1 (w64 (x1.1+x1.2.2.2.2.2.2.2.2.1)).toNat (gY (bI (x1.2.2.1+n4))),())
 else
  some (Sum.inr (x1.1,x1.2.2.1,x1.2.2.2.1,x1.2.2.2.2.1,x1.2.2.2.2.2.1,x1.2.2.2.2.2.2.2.2.2.1,x1.2.2.2.2.2.2.2.2.2.2.1,x1.2.2.2.2.2.2.2.2.2.2.2.1,x1.2.2.2.2.2.2.2.2.2.2.2.2.1,x1.2.2.2.2.2.2.2.2.2.2.2.2.2.1,x1.2.2.2.2.2.2.2.2.2.2.2.2.2.2.1,x1.2.2.2.2.2.2.2.2.2.2.2.2.2.2.2.1,()))
abbrev gI:Type:=(List Int)×Int×Int×Bool×(List Int)×Bool×(List Int)×Bool×(List Int)×(List Int)×Unit
abbrev ou:Type:=((an×Unit) ⊕ (Bool×(List Int)×Bool×(List Int)×Bool×(List Int)×(List Int)×Unit))
def ku (x1:gI) (again:gI→Option ou):Option ou:=
 bif decide (x1.2.2.1<x1.2.1) then
  Option.bind (idx x1.1 x1.2.2.1) fun y2=>
  bu (β:=((an×Unit) ⊕ (Bool×(List Int)×Bool×(List Int)×Bool×(List Int)×(List Int)×Unit))) (γ:=(Int×Int×(List Int)×Int×Int×Bool×(List Int)×Bool×(List Int)×Bool×(List Int)×(List Int)×Unit)) (
   iter (X:=gJ) (β:=ov) (x1.2.2.1.natAbs+(Int.natAbs y2+(Int.natAbs (0:Int)+(x1.1.length+(x1.2.1.natAbs+(x1.2.2.1.natAbs+(x1.2.2.2.2.2.2.1.length+(Int.natAbs ((x1.2.2.2.2.2.2.1.length:Int))+(Int.natAbs (0:Int)+(x1.2.2.2.2.1.length+(x1.2.2.2.2.2.2.1.length+(x1.2.2.2.2.2.2.2.2.1.length+(x1.2.2.2.2.2.2.2.2.2.1.length+2))))))))))))) (x1.2.2.1,y2,0,x1.1,x1.2.1,x1.2.2.1,x1.2.2.2.2.2.2.1,(x1.2.2.2.2.2.2.1.length:Int),0,x1.2.2.2.1,x1.2.2.2.2.1,x1.2.2.2.2.2.1,x1.2.2.2.2.2.2.1,x1.2.2.2.2.2.2.2.1,x1.2.2.2.2.2.2.2.2.1,x1.2.2.2.2.2.2.2.2.2.1,()) (kz)) fun v3=>
  chk (decide (0≤(w64 (v3.1+((v3.2.2.2.2.2.2.2.2.1.length:Int)))))&&decide ((w64 (v3.1+((v3.2.2.2.2.2.2.2.2.1.length:Int))))<(v3.2.2.2.2.2.2.2.2.2.2.2.1.length:Int))) <|
  Option.bind (v3.2.2.2.2.2.2.2.2.2.2.2.1[(w64 (v3.1+((v3.2.2.2.2.2.2.2.2.1.length:Int)))).toNat]?) fun _=>
  again (v3.2.2.1,v3.2.2.2.1,w64 (v3.2.2.2.2.1+1),v3.2.2.2.2.2.1,v3.2.2.2.2.2.2.1,v3.2.2.2.2.2.2.2.1,v3.2.2.2.2.2.2.2.2.1,v3.2.2.2.2.2.2.2.2.2.1,v3.2.2.2.2.2.2.2.2.2.2.1,List.set v3.2.2.2.2.2.2.2.2.2.2.2.1 (w64 (v3.1+((v3.2.2.2.2.2.2.2.2.1.length:Int)))).toNat (gY v3.2.1),())
 else
  some (Sum.inr (x1.2.2.2.1,x1.2.2.2.2.1,x1.2.2.2.2.2.1,x1.2.2.2.2.2.2.1,x1.2.2.2.2.2.2.2.1,x1.2.2.2.2.2.2.2.2.1,x1.2.2.2.2.2.2.2.2.2.1,()))
def kr (a0:an) (a1:an):Option (an×Unit):=
 chk (decide (0≤(w64 (((a0.2.length:Int))+((a1.2.length:Int)))))&&decide ((w64 (((a0.2.length:Int))+((a1.2.length:Int))))≤(w64 (((a0.2.length:Int))+((a1.2.length:Int)))))&&decide ((4:Int)*(w64 (((a0.2.length:Int))+((a1.2.length:Int))))≤281474976710656)&&decide ((w64 (((a0.2.length:Int))+((a1.2.length:Int))))≤9223372036854775807)) <|
 bu (β:=(an×Unit)) (γ:=(Bool×(List Int)×Bool×(List Int)×Bool×(List Int)×(List Int)×Unit)) (
  iter (X:=gI) (β:=ou) (a0.2.length+(Int.natAbs ((a0.2.length:Int))+(Int.natAbs (0:Int)+(a0.2.length+(a1.2.length+(List.length ([]:List Int)+(List.length ((List.replicate (Int.toNat (w64 (((a0.2.length:Int))+((a1.2.length:Int))))) 0):List Int)+2))))))) (a0.2,(a0.2.length:Int),0,a0.1,a0.2,a1.1,a1.2,false,[],List.replicate (Int.toNat (w64 (((a0.2.length:Int))+((a1.2.length:Int))))) 0,()) (ku)) fun v10=>
 Option.bind (eN (!(v10.1==v10.2.2.1)) v10.2.2.2.2.2.2.1) fun r11=>
 some (r11.1,())
abbrev lB:Type:=Int×Int×Bool×(List Int)×Bool×(List Int)×Unit
abbrev tD:Type:=((an×Unit) ⊕ (Bool×(List Int)×Bool×(List Int)×Unit))
def oW (x1:lB) (again:lB→Option tD):Option tD:=
 bif decide (x1.2.1<x1.1) then
  Option.bind (mB 10) fun r2=>
  Option.bind (kr (x1.2.2.2.2.1,x1.2.2.2.2.2.1) r2.1) fun r3=>
  again (x1.1,w64 (x1.2.1+1),x1.2.2.1,x1.2.2.2.1,r3.1.1,r3.1.2,())
 else
  some (Sum.inr (x1.2.2.1,x1.2.2.2.1,x1.2.2.2.2.1,x1.2.2.2.2.2.1,()))
def uj (a0:Int):Option (an×Unit):=
 Option.bind (mB 1) fun r1=>
 bu (β:=(an×Unit)) (γ:=(Bool×(List Int)×Bool×(List Int)×Unit)) (
  iter (X:=lB) (β:=tD) (Int.natAbs a0+(Int.natAbs (0:Int)+(List.length ([]:List Int)+(r1.1.2.length+2)))) (a0,0,false,[],r1.1.1,r1.1.2,()) (oW)) fun v5=>
 some ((v5.2.2.1,v5.2.2.2.1),())
abbrev tG:Type:=(List Int)×(List Int)×Int×(List Int)×Int×Int×Unit
abbrev tF:Type:=(((List Int)×Unit) ⊕ ((List Int)×Int×Unit))
def Ir (x1:tG) (again:tG→Option tF):Option tF:=
 bif decide (x1.2.2.2.2.2.1<x1.2.2.2.2.1) then
  Option.bind (idx x1.2.2.2.1 x1.2.2.2.2.2.1) fun y2=>
  bu (β:=(((List Int)×Unit) ⊕ ((List Int)×Int×Unit))) (γ:=((List Int)×(List Int)×Int×(List Int)×Int×Int×Unit)) (
   bif decide (x1.2.2.2.2.2.1<((x1.1.length:Int))) then
    Option.bind (idx x1.1 x1.2.2.2.2.2.1) fun y3=>
    let n4:Int:=bI ((bI (x1.2.2.1+(bI y2)))+(bI y3))
    some (Sum.inr (x1.1,x1.2.1,n4,x1.2.2.2.1,x1.2.2.2.2.1,x1.2.2.2.2.2.1,()))
   else
    some (Sum.inr (x1.1,x1.2.1,bI (x1.2.2.1+(bI y2)),x1.2.2.2.1,x1.2.2.2.2.1,x1.2.2.2.2.2.1,()))) fun v5=>
  chk (decide (((v5.2.1.length)+1)*4≤140737488355328)&&decide ((v5.2.1.length)+1≤maxLen)) <|
  again (v5.1,v5.2.1++[(gY v5.2.2.1)],Int.fdiv v5.2.2.1 (2 ^ 32),v5.2.2.2.1,v5.2.2.2.2.1,w64 (v5.2.2.2.2.2.1+1),())
 else
  some (Sum.inr (x1.2.1,x1.2.2.1,()))
def yX (a0:List Int) (a1:List Int):Option ((List Int)×Unit):=
 bu (β:=((List Int)×Unit)) (γ:=((List Int)×(List Int)×Unit)) (
  bif decide (((List.length a0:Int))<((List.length a1:Int))) then
   some (Sum.inr (a1,a0,()))
  else
   some (Sum.inr (a0,a1,()))) fun v1=>
 chk (decide (0≤(0:Int))&&decide ((0:Int)≤(w64 (((v1.1.length:Int))+1)))&&decide ((4:Int)*(w64 (((v1.1.length:Int))+1))≤281474976710656)&&decide ((w64 (((v1.1.length:Int))+1))≤9223372036854775807)) <|
 bu (β:=((List Int)×Unit)) (γ:=((List Int)×Int×Unit)) (
  iter (X:=tG) (β:=tF) (v1.2.1.length+(List.length ([]:List Int)+(Int.natAbs (0:Int)+(v1.1.length+(Int.natAbs ((v1.1.length:Int))+(Int.natAbs (0:Int)+2)))))) (v1.2.1,[],0,v1.1,(v1.1.length:Int),0,()) (Ir)) fun v7=>
 chk (decide (((v7.1.length)+1)*4≤140737488355328)&&decide ((v7.1.length)+1≤maxLen)) <|
 some (v7.1++[(gY v7.2.1)],())
def gu (a0:an) (a1:an):Option (an×Unit):=
 bif a0.1==a1.1 then
  Option.bind (yX a0.2 a1.2) fun r1=>
  Option.bind (eN a0.1 r1.1) fun r2=>
  some (r2.1,())
 else
  Option.bind (mP a0.2 a1.2) fun r3=>
  bif decide (r3.1≥0) then
   Option.bind (oZ a0.2 a1.2) fun r4=>
   Option.bind (eN a0.1 r4.1) fun r5=>
   some (r5.1,())
  else
   Option.bind (oZ a1.2 a0.2) fun r6=>
   Option.bind (eN a1.1 r6.1) fun r7=>
   some (r7.1,())
def fL (a0:ak) (a1:Int):Option (an×Unit):=
 Option.bind (mB a0.1) fun r1=>
 Option.bind (uj (w64 (a1 - a0.2))) fun r2=>
 Option.bind (kr r1.1 r2.1) fun r3=>
 some (r3.1,())
end Go.Md
namespace Go.Md
open Go.Dn
def PL (n:Nat):List UInt8:=if n<10 then [UInt8.ofNat (48+n)] else [UInt8.ofNat (48+n / 10),UInt8.ofNat (48+n % 10)]
def strconv_Itoa (n:Int):Option (List UInt8×Unit):=bif decide (0≤n)&&decide (n<100) then some (PL n.toNat,()) else bif decide (-9223372036854775808≤n)&&decide (n≤9223372036854775807) then some (Lib.itoa n,()) else none
def strings_Repeat (s:List UInt8) (n:Int):Option (List UInt8×Unit):=bif decide (0≤n)&&(decide (n≤9223372036854775807)&&decide (s.length*n.toNat≤140737488355328)) then some (Lib.repeatL s n.toNat,()) else none
def vo (_a:List UInt8):Option (Int×Unit):=none
def u5 (_a:List UInt8):Option (Bool×Unit):=none
def A1 (_a:List UInt8):Option (Bool×Unit):=none
def BL (_a:List UInt8):Option (Bool×Unit):=none
def A2 (_a _b:Int):Option (List UInt8×Unit):=none
abbrev fO:Ty:=(.st (.pair .str (.pair .str (.pair .str cL))))
abbrev aX:Type:=(List UInt8)×(List UInt8)×(List UInt8)×ak
abbrev bQ:Ty:=(.st (.pair .str (.pair .str (.pair cL (.slice fO)))))
abbrev aa:Type:=(List UInt8)×(List UInt8)×ak×(List aX)
abbrev bU:Ty:=(.st (.pair .str (.pair .str (.pair tI (.slice bQ)))))
abbrev aC:Type:=(List UInt8)×(List UInt8)×Int×(List aa)
abbrev zW:Type:=Int×ak×Int
abbrev pK:Type:=Int×(List UInt8)×(List UInt8)×ak×ak×Int×ak×ak×ak×ak
abbrev fh:Type:=(List UInt8)×(List UInt8)×ak
abbrev aI:Ty:=(.st (.pair .str .str))
abbrev bA:Type:=(List UInt8)×(List UInt8)
def qb (a0:Int):Option (Bool×Unit):=
 Option.bind (iJ a0 1 5) fun r1=>
 some (!r1.1,())
def sE (a0:Int):Option ((List Int)×Unit):=
 bif a0==1 then
  some ([8,12,13,14],())
 else
  bif a0==2 then
   some ([13],())
  else
   some ([18],())
abbrev gh:Type:=(List Int)×Int×Int×Int×Unit
abbrev nr:Type:=((Int×Unit) ⊕ Unit)
def jm (x1:gh) (again:gh→Option nr):Option nr:=
 bif decide (x1.2.2.2.1<x1.2.2.1) then
  Option.bind (idx x1.1 x1.2.2.2.1) fun y2=>
  bif x1.2.1==y2 then
   some (Sum.inl (x1.2.2.2.1,()))
  else
   again (x1.1,x1.2.1,x1.2.2.1,w64 (x1.2.2.2.1+1),())
 else
  some (Sum.inr ())
def qT (a0:List Int) (a1:Int):Option (Int×Unit):=
 bu (β:=(Int×Unit)) (γ:=Unit) (
  iter (X:=gh) (β:=nr) (List.length a0+(Int.natAbs a1+(Int.natAbs ((List.length a0:Int))+(Int.natAbs (0:Int)+2)))) (a0,a1,(List.length a0:Int),0,()) (jm)) fun _=>
 some ((-1),())
def gf (a0:List Int) (a1:Int):Option (Bool×Unit):=
 Option.bind (qT a0 a1) fun r1=>
 some (decide (r1.1≥0),())
abbrev kS:Type:=(List UInt8)×Int×Int×Int×Int×Unit
abbrev sN:Type:=((Bool×Unit) ⊕ Unit)
def oG (x1:kS) (again:kS→Option sN):Option sN:=
 bif decide (x1.2.2.2.2.1<x1.2.2.2.1) then
  Option.bind (vk x1.1 x1.2.2.2.2.1) fun c2=>
  bif decide ((c2.toNat:Int)<x1.2.1) then
   some (Sum.inl (false,()))
  else
   Option.bind (vk x1.1 x1.2.2.2.2.1) fun c3=>
   bif decide ((c3.toNat:Int)>x1.2.2.1) then
    some (Sum.inl (false,()))
   else
    again (x1.1,x1.2.1,x1.2.2.1,x1.2.2.2.1,w64 (x1.2.2.2.2.1+1),())
 else
  some (Sum.inr ())
def yK (a0:List UInt8) (a1:Int) (a2:Int):Option (Bool×Unit):=
 bu (β:=(Bool×Unit)) (γ:=Unit) (
  iter (X:=kS) (β:=sN) (List.length a0+(Int.natAbs a1+(Int.natAbs a2+(Int.natAbs ((List.length a0:Int))+(Int.natAbs (0:Int)+2))))) (a0,a1,a2,(List.length a0:Int),0,()) (oG)) fun _=>
 some (true,())
def nR (a0:List UInt8):Option (Bool×Unit):=
 bif !(a0==[]) then
  Option.bind (yK a0 48 57) fun r1=>
  some (r1.1,())
 else
  some (false,())
abbrev rH:Type:=(List UInt8)×Int×Int×Int×Unit
abbrev rG:Type:=((Bool×Unit) ⊕ (Int×Unit))
def Fw (x1:rH) (again:rH→Option rG):Option rG:=
 bif decide (x1.2.2.2.1<x1.2.2.1) then
  let n2:Int:=w64 ((w64 (((x1.1.length:Int)) - 1)) - x1.2.2.2.1)
  Option.bind (vk x1.1 n2) fun c3=>
  bif (Int.tmod x1.2.2.2.1 2)==1 then
   let n4:Int:=w64 ((w64 (wu8 ((c3.toNat:Int) - 48)))*3)
   again (x1.1,w64 (x1.2.1+n4),x1.2.2.1,w64 (x1.2.2.2.1+1),())
  else
   let n5:Int:=w64 (x1.2.1+(w64 (wu8 ((c3.toNat:Int) - 48))))
   again (x1.1,n5,x1.2.2.1,w64 (x1.2.2.2.1+1),())
 else
  some (Sum.inr (x1.2.1,()))
def wB (a0:List UInt8):Option (Bool×Unit):=
 bu (β:=(Bool×Unit)) (γ:=(Int×Unit)) (
  iter (X:=rH) (β:=rG) (List.length a0+(Int.natAbs (0:Int)+(Int.natAbs ((List.length a0:Int))+(Int.natAbs (0:Int)+2)))) (a0,0,(List.length a0:Int),0,()) (Fw)) fun v6=>
 some ((Int.tmod v6.1 10)==0,())
def nA (a0:Int) (a1:List UInt8):Option (Bool×Unit):=
 bif a0==4 then
  Option.bind (u5 a1) fun r1=>
  some (r1.1,())
 else
  bif a0==5 then
   Option.bind (BL a1) fun r2=>
   some (r2.1,())
  else
   Option.bind (sE a0) fun r3=>
   Option.bind (gf r3.1 ((List.length a1:Int))) fun r4=>
   bif r4.1 then
    Option.bind (nR a1) fun r5=>
    bif r5.1 then
     Option.bind (wB a1) fun r6=>
     some (r6.1,())
    else
     some (false,())
   else
    some (false,())
def rF (a0:Int) (a1:List UInt8):Option (Bool×Int×Unit):=
 Option.bind (qb a0) fun r1=>
 bif !r1.1 then
  some (false,4,())
 else
  Option.bind (nA a0 a1) fun r2=>
  some (r2.1,0,())
def oO (a0:List UInt8):Option (Bool×Unit):=
 Option.bind (rF 3 a0) fun r1=>
 some (r1.1,())
def cu (a0:ak) (a1:Bool):Option (Int×Unit):=
 Option.bind (gd a0) fun r1=>
 bif r1.1 != 0 then
  some (r1.1,())
 else
  Option.bind (rS a0 3 1000000000) fun r2=>
  bif !r2.1 then
   some (1,())
  else
   bif a0.1==0 then
    bif !a1 then
     some (1,())
    else
     some (0,())
   else
    some (0,())
abbrev qi:Type:=Int×(List Int)×Int×Int×Unit
abbrev u7:Type:=((Int×Unit) ⊕ (Int×Unit))
def qh (x1:qi) (again:qi→Option u7):Option u7:=
 bif decide (x1.2.2.2.1<x1.2.2.1) then
  Option.bind (idx x1.2.1 x1.2.2.2.1) fun y2=>
  bif y2 != x1.1 then
   some (Sum.inl (y2,()))
  else
   again (x1.1,x1.2.1,x1.2.2.1,w64 (x1.2.2.2.1+1),())
 else
  some (Sum.inr (x1.1,()))
def vB (a0:List Int):Option (Int×Unit):=
 bu (β:=(Int×Unit)) (γ:=(Int×Unit)) (
  iter (X:=qi) (β:=u7) (Int.natAbs (0:Int)+(List.length a0+(Int.natAbs ((List.length a0:Int))+(Int.natAbs (0:Int)+2)))) (0,a0,(List.length a0:Int),0,()) (qh)) fun v3=>
 some (v3.1,())
def ez (a0:aX) (a1:aX):Option (Int×Unit):=
 Option.bind (strings_Compare a0.1 a1.1) fun r1=>
 Option.bind (strings_Compare a0.2.1 a1.2.1) fun r2=>
 Option.bind (strings_Compare a0.2.2.1 a1.2.2.1) fun r3=>
 Option.bind (vB [r1.1,r2.1,r3.1]) fun r4=>
 some (r4.1,())
abbrev fV:Type:=(List aX)×(List aX)×Int×Int×Unit
abbrev jv:Type:=((Int×Unit) ⊕ Unit)
def fU (x1:fV) (again:fV→Option jv):Option jv:=
 bif decide (x1.2.2.2.1<x1.2.2.1) then
  Option.bind (idx x1.2.1 x1.2.2.2.1) fun y2=>
  Option.bind (eL y2.1) fun r3=>
  bif !r3.1 then
   some (Sum.inl (5,()))
  else
   Option.bind (eL y2.2.1) fun r4=>
   bif !r4.1 then
    some (Sum.inl (5,()))
   else
    bif !(y2.2.2.1==[]) then
     Option.bind (eL y2.2.2.1) fun r5=>
     bif !r5.1 then
      some (Sum.inl (5,()))
     else
      bif decide (x1.2.2.2.1>0) then
       Option.bind (idx x1.1 (w64 (x1.2.2.2.1 - 1))) fun y6=>
       Option.bind (ez y6 y2) fun r7=>
       bif decide (r7.1≥0) then
        some (Sum.inl (8,()))
       else
        Option.bind (cu y2.2.2.2 false) fun r8=>
        bif r8.1 != 0 then
         some (Sum.inl (r8.1,()))
        else
         again (x1.1,x1.2.1,x1.2.2.1,w64 (x1.2.2.2.1+1),())
      else
       Option.bind (cu y2.2.2.2 false) fun r9=>
       bif r9.1 != 0 then
        some (Sum.inl (r9.1,()))
       else
        again (x1.1,x1.2.1,x1.2.2.1,w64 (x1.2.2.2.1+1),())
    else
     bif decide (x1.2.2.2.1>0) then
      Option.bind (idx x1.1 (w64 (x1.2.2.2.1 - 1))) fun y10=>
      Option.bind (ez y10 y2) fun r11=>
      bif decide (r11.1≥0) then
       some (Sum.inl (8,()))
      else
       Option.bind (cu y2.2.2.2 false) fun r12=>
       bif r12.1 != 0 then
        some (Sum.inl (r12.1,()))
       else
        again (x1.1,x1.2.1,x1.2.2.1,w64 (x1.2.2.2.1+1),())
     else
      Option.bind (cu y2.2.2.2 false) fun r13=>
      bif r13.1 != 0 then
       some (Sum.inl (r13.1,()))
      else
       again (x1.1,x1.2.1,x1.2.2.1,w64 (x1.2.2.2.1+1),())
 else
  some (Sum.inr ())
def fD (a0:List aX):Option (Int×Unit):=
 bif decide (((List.length a0:Int))>100) then
  some (2,())
 else
  bu (β:=(Int×Unit)) (γ:=Unit) (
   iter (X:=fV) (β:=jv) (List.length a0+(List.length a0+(Int.natAbs ((List.length a0:Int))+(Int.natAbs (0:Int)+2)))) (a0,a0,(List.length a0:Int),0,()) (fU)) fun _=>
  some (0,())
def jX (a0:List aa) (a1:Int):Option (Int×Unit):=
 Option.bind (idx a0 a1) fun y1=>
 Option.bind (oO y1.1) fun r2=>
 bif !r2.1 then
  some (3,())
 else
  bif decide (a1>0) then
   Option.bind (idx a0 (w64 (a1 - 1))) fun y3=>
   bif Op.bytesLess y1.1 y3.1||y1.1==y3.1 then
    some (8,())
   else
    Option.bind (cu y1.2.2.1 true) fun r4=>
    bif r4.1 != 0 then
     some (r4.1,())
    else
     Option.bind (fD y1.2.2.2) fun r5=>
     some (r5.1,())
  else
   Option.bind (cu y1.2.2.1 true) fun r6=>
   bif r6.1 != 0 then
    some (r6.1,())
   else
    Option.bind (fD y1.2.2.2) fun r7=>
    some (r7.1,())
def pe (a0:aa) (a1:List UInt8):Option (Int×Unit):=
 Option.bind (strings_Compare a0.1 a1) fun r1=>
 some (r1.1,())
abbrev bH:Type:=(List aa)×(List UInt8)×Unit×Int×Int×Int×Unit
abbrev cT:Type:=((Int×Bool×Unit) ⊕ ((List aa)×(List UInt8)×Unit×Int×Int×Unit))
def cS (x1:bH) (again:bH→Option cT):Option cT:=
 bif decide (x1.2.2.2.2.1<x1.2.2.2.2.2.1) then
  let n2:Int:=w64 (Int.fdiv (bI (w64 (x1.2.2.2.2.1+x1.2.2.2.2.2.1))) (2 ^ 1))
  Option.bind (idx x1.1 n2) fun y3=>
  Option.bind (pe y3 x1.2.1) fun r4=>
  bif decide (r4.1<0) then
   again (x1.1,x1.2.1,x1.2.2.1,x1.2.2.2.1,w64 (n2+1),x1.2.2.2.2.2.1,())
  else
   again (x1.1,x1.2.1,x1.2.2.1,x1.2.2.2.1,x1.2.2.2.2.1,n2,())
 else
  some (Sum.inr (x1.1,x1.2.1,x1.2.2.1,x1.2.2.2.1,x1.2.2.2.2.1,()))
def b8 (a0:List aa) (a1:List UInt8) (a2:Unit):Option (Int×Bool×Unit):=
 bu (β:=(Int×Bool×Unit)) (γ:=((List aa)×(List UInt8)×Unit×Int×Int×Unit)) (
  iter (X:=bH) (β:=cT) (List.length a0+(List.length a1+(Int.natAbs ((List.length a0:Int))+(Int.natAbs (0:Int)+(Int.natAbs ((List.length a0:Int))+2))))) (a0,a1,a2,(List.length a0:Int),0,(List.length a0:Int),()) (cS)) fun v5=>
 bif decide (v5.2.2.2.2.1<v5.2.2.2.1) then
  Option.bind (idx v5.1 v5.2.2.2.2.1) fun y6=>
  Option.bind (pe y6 v5.2.1) fun r7=>
  some (v5.2.2.2.2.1,r7.1==0,())
 else
  some (v5.2.2.2.2.1,false,())
def fE (a0:aC) (a1:List UInt8):Option (Int×Bool×Unit):=
 Option.bind (b8 a0.2.2.2 a1 ()) fun r1=>
 some (r1.1,r1.2.1,())
abbrev gm:Type:=Int×(List Int)×Int×(List UInt8)×(List UInt8)×Int×(List aa)×Unit
abbrev eU:Type:=(((List Int)×Bool×Unit) ⊕ ((List Int)×Unit))
def l9 (x1:gm) (again:gm→Option eU):Option eU:=
 Option.bind (idx x1.2.2.2.2.2.2.1 x1.2.2.1) fun y2=>
 bif !(y2.2.1==[]) then
  Option.bind (idx x1.2.2.2.2.2.2.1 x1.2.2.1) fun y3=>
  Option.bind (fE (x1.2.2.2.1,x1.2.2.2.2.1,x1.2.2.2.2.2.1,x1.2.2.2.2.2.2.1) y3.2.1) fun r4=>
  bif r4.1==x1.1 then
   some (Sum.inl ([],false,()))
  else
   Option.bind (gf x1.2.1 r4.1) fun r5=>
   bif r5.1 then
    some (Sum.inl (x1.2.1,true,()))
   else
    chk (decide (((x1.2.1.length)+1)*8≤140737488355328)&&decide ((x1.2.1.length)+1≤maxLen)) <|
    again (x1.1,x1.2.1++[r4.1],r4.1,x1.2.2.2.1,x1.2.2.2.2.1,x1.2.2.2.2.2.1,x1.2.2.2.2.2.2.1,())
 else
  some (Sum.inr (x1.2.1,()))
def fN (a0:aC) (a1:Int):Option ((List Int)×Bool×Unit):=
 bu (β:=((List Int)×Bool×Unit)) (γ:=((List Int)×Unit)) (
  iter (X:=gm) (β:=eU) (Int.natAbs a1+(List.length ([]:List Int)+(Int.natAbs a1+(a0.1.length+(a0.2.1.length+(a0.2.2.1.natAbs+(a0.2.2.2.length+2))))))) (a1,[],a1,a0.1,a0.2.1,a0.2.2.1,a0.2.2.2,()) (l9)) fun v6=>
 some (v6.1,true,())
abbrev jj:Type:=(List aa)×Int×Int×(List UInt8)×(List UInt8)×Int×(List aa)×Unit
abbrev nk:Type:=((Int×Unit) ⊕ ((List UInt8)×(List UInt8)×Int×(List aa)×Unit))
def jh (x1:jj) (again:jj→Option nk):Option nk:=
 bif decide (x1.2.2.1<x1.2.1) then
  Option.bind (idx x1.1 x1.2.2.1) fun y2=>
  Option.bind (fE (x1.2.2.2.1,x1.2.2.2.2.1,x1.2.2.2.2.2.1,x1.2.2.2.2.2.2.1) y2.2.1) fun r3=>
  bif !(y2.2.1==[]) then
   bif !r3.2.1 then
    some (Sum.inl (9,()))
   else
    again (x1.1,x1.2.1,w64 (x1.2.2.1+1),x1.2.2.2.1,x1.2.2.2.2.1,x1.2.2.2.2.2.1,x1.2.2.2.2.2.2.1,())
  else
   again (x1.1,x1.2.1,w64 (x1.2.2.1+1),x1.2.2.2.1,x1.2.2.2.2.1,x1.2.2.2.2.2.1,x1.2.2.2.2.2.2.1,())
 else
  some (Sum.inr (x1.2.2.2.1,x1.2.2.2.2.1,x1.2.2.2.2.2.1,x1.2.2.2.2.2.2.1,()))
abbrev jk:Type:=Int×Int×(List UInt8)×(List UInt8)×Int×(List aa)×Unit
abbrev nq:Type:=((Int×Unit) ⊕ ((List UInt8)×(List UInt8)×Int×(List aa)×Unit))
def ji (x1:jk) (again:jk→Option nq):Option nq:=
 bif decide (x1.2.1<x1.1) then
  Option.bind (fN (x1.2.2.1,x1.2.2.2.1,x1.2.2.2.2.1,x1.2.2.2.2.2.1) x1.2.1) fun r2=>
  bif !r2.2.1 then
   some (Sum.inl (17,()))
  else
   again (x1.1,w64 (x1.2.1+1),x1.2.2.1,x1.2.2.2.1,x1.2.2.2.2.1,x1.2.2.2.2.2.1,())
 else
  some (Sum.inr (x1.2.2.1,x1.2.2.2.1,x1.2.2.2.2.1,x1.2.2.2.2.2.1,()))
abbrev iB:Type:=Int×Int×(List UInt8)×(List UInt8)×Int×(List aa)×Unit
abbrev me:Type:=((Int×Unit) ⊕ Unit)
def iA (x1:iB) (again:iB→Option me):Option me:=
 bif decide (x1.2.1<x1.1) then
  Option.bind (fN (x1.2.2.1,x1.2.2.2.1,x1.2.2.2.2.1,x1.2.2.2.2.2.1) x1.2.1) fun r2=>
  bif decide (((r2.1.length:Int))>5) then
   some (Sum.inl (2,()))
  else
   again (x1.1,w64 (x1.2.1+1),x1.2.2.1,x1.2.2.2.1,x1.2.2.2.2.1,x1.2.2.2.2.2.1,())
 else
  some (Sum.inr ())
def mc (a0:aC):Option (Int×Unit):=
 bu (β:=(Int×Unit)) (γ:=((List UInt8)×(List UInt8)×Int×(List aa)×Unit)) (
  iter (X:=jj) (β:=nk) (a0.2.2.2.length+(Int.natAbs ((a0.2.2.2.length:Int))+(Int.natAbs (0:Int)+(a0.1.length+(a0.2.1.length+(a0.2.2.1.natAbs+(a0.2.2.2.length+2))))))) (a0.2.2.2,(a0.2.2.2.length:Int),0,a0.1,a0.2.1,a0.2.2.1,a0.2.2.2,()) (jh)) fun v4=>
 bu (β:=(Int×Unit)) (γ:=((List UInt8)×(List UInt8)×Int×(List aa)×Unit)) (
  iter (X:=jk) (β:=nq) (Int.natAbs ((v4.2.2.2.1.length:Int))+(Int.natAbs (0:Int)+(v4.1.length+(v4.2.1.length+(v4.2.2.1.natAbs+(v4.2.2.2.1.length+2)))))) ((v4.2.2.2.1.length:Int),0,v4.1,v4.2.1,v4.2.2.1,v4.2.2.2.1,()) (ji)) fun v7=>
 bu (β:=(Int×Unit)) (γ:=Unit) (
  iter (X:=iB) (β:=me) (Int.natAbs ((v7.2.2.2.1.length:Int))+(Int.natAbs (0:Int)+(v7.1.length+(v7.2.1.length+(v7.2.2.1.natAbs+(v7.2.2.2.1.length+2)))))) ((v7.2.2.2.1.length:Int),0,v7.1,v7.2.1,v7.2.2.1,v7.2.2.2.1,()) (iA)) fun _=>
 some (0,())
abbrev gN:Type:=Int×Int×(List UInt8)×(List UInt8)×Int×(List aa)×Unit
abbrev lg:Type:=((Int×Unit) ⊕ ((List UInt8)×(List UInt8)×Int×(List aa)×Unit))
def gM (x1:gN) (again:gN→Option lg):Option lg:=
 bif decide (x1.2.1<x1.1) then
  Option.bind (jX x1.2.2.2.2.2.1 x1.2.1) fun r2=>
  bif r2.1 != 0 then
   some (Sum.inl (r2.1,()))
  else
   again (x1.1,w64 (x1.2.1+1),x1.2.2.1,x1.2.2.2.1,x1.2.2.2.2.1,x1.2.2.2.2.2.1,())
 else
  some (Sum.inr (x1.2.2.1,x1.2.2.2.1,x1.2.2.2.2.1,x1.2.2.2.2.2.1,()))
def jW (a0:aC):Option (Int×Unit):=
 Option.bind (eL a0.1) fun r1=>
 bif !r1.1 then
  some (5,())
 else
  Option.bind (eL a0.2.1) fun r2=>
  bif !r2.1 then
   some (5,())
  else
   Option.bind (yl a0.2.2.1) fun r3=>
   bif !r3.1 then
    some (1,())
   else
    bif decide (((a0.2.2.2.length:Int))>500) then
     some (2,())
    else
     bu (β:=(Int×Unit)) (γ:=((List UInt8)×(List UInt8)×Int×(List aa)×Unit)) (
      iter (X:=gN) (β:=lg) (Int.natAbs ((a0.2.2.2.length:Int))+(Int.natAbs (0:Int)+(a0.1.length+(a0.2.1.length+(a0.2.2.1.natAbs+(a0.2.2.2.length+2)))))) ((a0.2.2.2.length:Int),0,a0.1,a0.2.1,a0.2.2.1,a0.2.2.2,()) (gM)) fun v6=>
     Option.bind (mc (v6.1,v6.2.1,v6.2.2.1,v6.2.2.2.1)) fun r7=>
     some (r7.1,())
def cZ (a0:aC) (a1:List UInt8) (a2:Bool):Option (Int×Unit):=
 Option.bind (jW a0) fun r1=>
 bif r1.1 != 0 then
  some (r1.1,())
 else
  Option.bind (fE a0 a1) fun r2=>
  bif !r2.2.1 then
   bif a2 then
    bif !(a1==[]) then
     some (9,())
    else
     some (0,())
   else
    some (9,())
  else
   some (0,())
def o9 (a0:Int) (a1:aC) (a2:List UInt8):Option (Bool×Unit):=
 Option.bind (idx a1.2.2.2 a0) fun y1=>
 some (y1.1==a2,())
abbrev dV:Type:=(List Int)×(aC×(List UInt8))×Int×Int×Unit
abbrev jx:Type:=((Int×Unit) ⊕ Unit)
def fW (x1:dV) (again:dV→Option jx):Option jx:=
 bif decide (x1.2.2.2.1<x1.2.2.1) then
  Option.bind (idx x1.1 x1.2.2.2.1) fun y2=>
  Option.bind (o9 y2 x1.2.1.1 x1.2.1.2) fun r3=>
  bif r3.1 then
   some (Sum.inl (x1.2.2.2.1,()))
  else
   again (x1.1,x1.2.1,x1.2.2.1,w64 (x1.2.2.2.1+1),())
 else
  some (Sum.inr ())
def mg (a0:List Int) (a1:aC×(List UInt8)):Option (Int×Unit):=
 bu (β:=(Int×Unit)) (γ:=Unit) (
  iter (X:=dV) (β:=jx) (List.length a0+(Int.natAbs ((List.length a0:Int))+(Int.natAbs (0:Int)+2))) (a0,a1,(List.length a0:Int),0,()) (fW)) fun _=>
 some ((-1),())
def jw (a0:List Int) (a1:aC×(List UInt8)):Option (Bool×Unit):=
 Option.bind (mg a0 a1) fun r1=>
 some (decide (r1.1≥0),())
def gO (a0:aC) (a1:Int) (a2:List UInt8):Option (Bool×Unit):=
 Option.bind (fN a0 a1) fun r1=>
 Option.bind (jw r1.1 (a0,a2)) fun r2=>
 some (r2.1,())
abbrev iT:Type:=(List UInt8)×(List (List UInt8))×(List aa)×Int×Int×(List UInt8)×(List UInt8)×Int×(List aa)×Unit
abbrev qQ:Type:=(((List (List UInt8))×Int×Unit) ⊕ ((List (List UInt8))×Unit))
def l8 (x1:iT) (again:iT→Option qQ):Option qQ:=
 bif decide (x1.2.2.2.2.1<x1.2.2.2.1) then
  Option.bind (idx x1.2.2.1 x1.2.2.2.2.1) fun y2=>
  Option.bind (gO (x1.2.2.2.2.2.1,x1.2.2.2.2.2.2.1,x1.2.2.2.2.2.2.2.1,x1.2.2.2.2.2.2.2.2.1) x1.2.2.2.2.1 x1.1) fun r3=>
  bif r3.1 then
   chk (decide (((x1.2.1.length)+1)*16≤140737488355328)&&decide ((x1.2.1.length)+1≤maxLen)) <|
   again (x1.1,x1.2.1++[y2.1],x1.2.2.1,x1.2.2.2.1,w64 (x1.2.2.2.2.1+1),x1.2.2.2.2.2.1,x1.2.2.2.2.2.2.1,x1.2.2.2.2.2.2.2.1,x1.2.2.2.2.2.2.2.2.1,())
  else
   again (x1.1,x1.2.1,x1.2.2.1,x1.2.2.2.1,w64 (x1.2.2.2.2.1+1),x1.2.2.2.2.2.1,x1.2.2.2.2.2.2.1,x1.2.2.2.2.2.2.2.1,x1.2.2.2.2.2.2.2.2.1,())
 else
  some (Sum.inr (x1.2.1,()))
def mN (a0:aC) (a1:List UInt8):Option ((List (List UInt8))×Int×Unit):=
 Option.bind (cZ a0 a1 false) fun r1=>
 bif r1.1 != 0 then
  some ([],r1.1,())
 else
  bu (β:=((List (List UInt8))×Int×Unit)) (γ:=((List (List UInt8))×Unit)) (
   iter (X:=iT) (β:=qQ) (List.length a1+(List.length ([]:List (List UInt8))+(a0.2.2.2.length+(Int.natAbs ((a0.2.2.2.length:Int))+(Int.natAbs (0:Int)+(a0.1.length+(a0.2.1.length+(a0.2.2.1.natAbs+(a0.2.2.2.length+2))))))))) (a1,[],a0.2.2.2,(a0.2.2.2.length:Int),0,a0.1,a0.2.1,a0.2.2.1,a0.2.2.2,()) (l8)) fun v5=>
  some (v5.1,0,())
abbrev nY:Type:=(List UInt8)×Int×Int×Int×Unit
abbrev xh:Type:=((Bool×Unit) ⊕ (Int×Unit))
def se (x1:nY) (again:nY→Option xh):Option xh:=
 bif decide (x1.2.2.2.1<x1.2.2.1) then
  let n2:Int:=w64 ((w64 (((x1.1.length:Int)) - 1)) - x1.2.2.2.1)
  Option.bind (vk x1.1 n2) fun c3=>
  bif (Int.tmod x1.2.2.2.1 2)==1 then
   let n4:Int:=w64 ((w64 (wu8 ((c3.toNat:Int) - 48)))*3)
   again (x1.1,w64 (x1.2.1+n4),x1.2.2.1,w64 (x1.2.2.2.1+1),())
  else
   let n5:Int:=w64 (x1.2.1+(w64 (wu8 ((c3.toNat:Int) - 48))))
   again (x1.1,n5,x1.2.2.1,w64 (x1.2.2.2.1+1),())
 else
  some (Sum.inr (x1.2.1,()))
def CJ (a0:List UInt8):Option (Bool×Unit):=
 bu (β:=(Bool×Unit)) (γ:=(Int×Unit)) (
  iter (X:=nY) (β:=xh) (List.length a0+(Int.natAbs (0:Int)+(Int.natAbs ((List.length a0:Int))+(Int.natAbs (0:Int)+2)))) (a0,0,(List.length a0:Int),0,()) (se)) fun v6=>
 some ((Int.tmod v6.1 10)==0,())
abbrev dK:Type:=Int×Int×(List (List UInt8))×Unit
abbrev iV:Type:=(((List (List UInt8))×Unit) ⊕ ((List (List UInt8))×Unit))
def fF (x1:dK) (again:dK→Option iV):Option iV:=
 bif decide (x1.1<x1.2.1) then
  chk (decide (0≤x1.2.1)&&decide (x1.2.1<(x1.2.2.1.length:Int))) <|
  Option.bind (x1.2.2.1[x1.2.1.toNat]?) fun y2=>
  chk (decide (0≤x1.1)&&decide (x1.1<(x1.2.2.1.length:Int))) <|
  Option.bind (x1.2.2.1[x1.1.toNat]?) fun y3=>
  chk (decide (0≤x1.1)&&decide (x1.1<(x1.2.2.1.length:Int))) <|
  Option.bind (x1.2.2.1[x1.1.toNat]?) fun _=>
  chk (decide (0≤x1.2.1)&&decide (x1.2.1<(List.length (List.set x1.2.2.1 x1.1.toNat y2):Int))) <|
  Option.bind ((List.set x1.2.2.1 x1.1.toNat y2)[x1.2.1.toNat]?) fun _=>
  again (w64 (x1.1+1),w64 (x1.2.1 - 1),List.set (List.set x1.2.2.1 x1.1.toNat y2) x1.2.1.toNat y3,())
 else
  some (Sum.inr (x1.2.2.1,()))
def gQ (a0:List (List UInt8)):Option ((List (List UInt8))×Unit):=
 bu (β:=((List (List UInt8))×Unit)) (γ:=((List (List UInt8))×Unit)) (
  iter (X:=dK) (β:=iV) (Int.natAbs (0:Int)+(Int.natAbs (w64 (((List.length a0:Int)) - 1))+(List.length a0+2))) (0,w64 (((List.length a0:Int)) - 1),a0,()) (fF)) fun v6=>
 some (v6.1,())
abbrev lp:Type:=(List (List UInt8))×(List Int)×Int×Int×(List UInt8)×(List UInt8)×Int×(List aa)×Unit
abbrev sW:Type:=(((List (List UInt8))×Int×Unit) ⊕ ((List (List UInt8))×Unit))
def oM (x1:lp) (again:lp→Option sW):Option sW:=
 bif decide (x1.2.2.2.1<x1.2.2.1) then
  Option.bind (idx x1.2.1 x1.2.2.2.1) fun y2=>
  Option.bind (idx x1.2.2.2.2.2.2.2.1 y2) fun y3=>
  chk (decide (((x1.1.length)+1)*16≤140737488355328)&&decide ((x1.1.length)+1≤maxLen)) <|
  again (x1.1++[y3.1],x1.2.1,x1.2.2.1,w64 (x1.2.2.2.1+1),x1.2.2.2.2.1,x1.2.2.2.2.2.1,x1.2.2.2.2.2.2.1,x1.2.2.2.2.2.2.2.1,())
 else
  some (Sum.inr (x1.1,()))
def pV (a0:aC) (a1:List UInt8):Option ((List (List UInt8))×Int×Unit):=
 Option.bind (cZ a0 a1 false) fun r1=>
 bif r1.1 != 0 then
  some ([],r1.1,())
 else
  Option.bind (fE a0 a1) fun r2=>
  Option.bind (fN a0 r2.1) fun r3=>
  bu (β:=((List (List UInt8))×Int×Unit)) (γ:=((List (List UInt8))×Unit)) (
   iter (X:=lp) (β:=sW) (List.length ([a1]:List (List UInt8))+(r3.1.length+(Int.natAbs ((r3.1.length:Int))+(Int.natAbs (0:Int)+(a0.1.length+(a0.2.1.length+(a0.2.2.1.natAbs+(a0.2.2.2.length+2)))))))) ([a1],r3.1,(r3.1.length:Int),0,a0.1,a0.2.1,a0.2.2.1,a0.2.2.2,()) (oM)) fun v7=>
  Option.bind (gQ v7.1) fun r8=>
  some (r8.1,0,())
abbrev sY:Type:=Int×Int×Int×Unit
abbrev sX:Type:=((Int×Bool×Unit) ⊕ (Int×Unit))
def HZ (x1:sY) (again:sY→Option sX):Option sX:=
 bif decide (x1.2.2.1<x1.2.1) then
  again (w64 (x1.1*10),x1.2.1,w64 (x1.2.2.1+1),())
 else
  some (Sum.inr (x1.1,()))
def Eg (a0:List UInt8):Option (Int×Bool×Unit):=
 bif decide (((List.length a0:Int))>15) then
  some (0,false,())
 else
  Option.bind (nR a0) fun r1=>
  bif !r1.1 then
   some (0,false,())
  else
   bu (β:=(Int×Bool×Unit)) (γ:=(Int×Unit)) (
    iter (X:=sY) (β:=sX) (Int.natAbs (1:Int)+(Int.natAbs (w64 (17 - ((List.length a0:Int))))+(Int.natAbs (0:Int)+2))) (1,w64 (17 - ((List.length a0:Int))),0,()) (HZ)) fun v3=>
   some (v3.1,true,())
abbrev lM:Type:=Int×(List UInt8)×Int×Unit
abbrev lK:Type:=(((List UInt8)×Int×Unit) ⊕ Unit)
def zY (x1:lM) (again:lM→Option lK):Option lK:=
 bif decide (x1.2.2.1<10) then
  Option.bind (strconv_Itoa x1.2.2.1) fun r2=>
  chk (decide (x1.2.1.length+r2.1.length≤maxLen)) <|
  Option.bind (nA x1.1 (x1.2.1++r2.1)) fun r3=>
  bif r3.1 then
   some (Sum.inl (x1.2.1++r2.1,0,()))
  else
   again (x1.1,x1.2.1,w64 (x1.2.2.1+1),())
 else
  some (Sum.inr ())
def wA (a0:Int) (a1:List UInt8):Option ((List UInt8)×Int×Unit):=
 Option.bind (qb a0) fun r1=>
 bif !r1.1 then
  some ([],4,())
 else
  bif decide (((List.length a1:Int))>34) then
   some ([],3,())
  else
   bif a0==4 then
    bif decide (((List.length a1:Int))<2) then
     some ([],3,())
    else
     Option.bind (A1 a1) fun r2=>
     bif !r2.1 then
      some ([],3,())
     else
      bif decide (((List.length a1:Int))<13) then
       some ([],3,())
      else
       chk (decide (0≤(0:Int))&&decide ((0:Int)≤2)&&decide (2≤(List.length a1:Int))) <|
       chk (decide (List.length (List.drop 0 (List.take (Int.toNat 2) a1))+List.length [48,48]≤maxLen)) <|
       chk (decide (0≤(2:Int))&&decide ((2:Int)≤((List.length a1:Int)))&&decide (((List.length a1:Int))≤(List.length a1:Int))) <|
       chk (decide (List.length ((List.drop 0 (List.take (Int.toNat 2) a1))++[48,48])+List.length (List.drop 2 (List.take (Int.toNat ((List.length a1:Int))) a1))≤maxLen)) <|
       Option.bind (vo (((List.drop 0 (List.take (Int.toNat 2) a1))++[48,48])++(List.drop 2 (List.take (Int.toNat ((List.length a1:Int))) a1)))) fun r3=>
       chk (decide (0≤(0:Int))&&decide ((0:Int)≤2)&&decide (2≤(List.length a1:Int))) <|
       Option.bind (A2 (w64 (98 - r3.1)) 2) fun r4=>
       chk (decide (List.length (List.drop 0 (List.take (Int.toNat 2) a1))+r4.1.length≤maxLen)) <|
       chk (decide (0≤(2:Int))&&decide ((2:Int)≤((List.length a1:Int)))&&decide (((List.length a1:Int))≤(List.length a1:Int))) <|
       chk (decide (List.length ((List.drop 0 (List.take (Int.toNat 2) a1))++r4.1)+List.length (List.drop 2 (List.take (Int.toNat ((List.length a1:Int))) a1))≤maxLen)) <|
       Option.bind (u5 (((List.drop 0 (List.take (Int.toNat 2) a1))++r4.1)++(List.drop 2 (List.take (Int.toNat ((List.length a1:Int))) a1)))) fun r5=>
       bif !r5.1 then
        some ([],3,())
       else
        some (((List.drop 0 (List.take (Int.toNat 2) a1))++r4.1)++(List.drop 2 (List.take (Int.toNat ((List.length a1:Int))) a1)),0,())
   else
    bu (β:=((List UInt8)×Int×Unit)) (γ:=Unit) (
     iter (X:=lM) (β:=lK) (Int.natAbs a0+(List.length a1+(Int.natAbs (0:Int)+2))) (a0,a1,0,()) (zY)) fun _=>
    some ([],3,())
def zF (a0:List UInt8) (a1:Int):Option ((List UInt8)×Int×Unit):=
 Option.bind (Eg a0) fun r1=>
 bif !r1.2.1 then
  some ([],3,())
 else
  Option.bind (iJ a1 0 (w64 (r1.1 - 1))) fun r2=>
  bif r2.1 then
   some ([],1,())
  else
   Option.bind (strconv_Itoa a1) fun r3=>
   let n4:Int:=w64 ((w64 (17 - ((List.length a0:Int)))) - ((r3.1.length:Int)))
   Option.bind (strings_Repeat [48] n4) fun r5=>
   chk (decide (List.length a0+r5.1.length≤maxLen)) <|
   chk (decide (List.length (a0++r5.1)+r3.1.length≤maxLen)) <|
   Option.bind (wA 3 ((a0++r5.1)++r3.1)) fun r6=>
   some (r6.1,r6.2.1,())
def uB:Option (Bool×Unit):=
 Option.bind (zF [51,52,48,49,50,51,52,53] 1) fun r1=>
 bif r1.2.1==0 then
  some (r1.1==[51,52,48,49,50,51,52,53,48,48,48,48,48,48,48,48,49,55],())
 else
  some (false,())
end Go.Md
namespace Go.Md
open Go.Dn
def gp (a0:aC) (a1:Int) (a2:List UInt8):Option (Bool×Unit):=
 bif a2==[] then
  some (true,())
 else
  Option.bind (idx a0.2.2.2 a1) fun y1=>
  bif y1.1==a2 then
   some (true,())
  else
   Option.bind (gO a0 a1 a2) fun r2=>
   some (r2.1,())
def yt (a0:ak):Option (ah×Unit):=
 Option.bind (JZ a0 9) fun r1=>
 some (r1.1,())
end Go.Md
namespace Go.Md
open Go.Dn
def tW (a0:an):Option (ak×Int×Unit):=
 Option.bind (qa a0 9) fun r1=>
 some (r1.1,r1.2.1,())
abbrev nX:Type:=(List fh)×Int×Int×Bool×(List Int)×Bool×(List Int)×Unit
abbrev xb:Type:=((ah×Unit) ⊕ (Bool×(List Int)×Bool×(List Int)×Unit))
def rX (x1:nX) (again:nX→Option xb):Option xb:=
 bif decide (x1.2.2.1<x1.2.1) then
  Option.bind (idx x1.1 x1.2.2.1) fun y2=>
  Option.bind (yt y2.2.2) fun r3=>
  Option.bind (wm (x1.2.2.2.2.2.1,x1.2.2.2.2.2.2.1) r3.1) fun r4=>
  again (x1.1,x1.2.1,w64 (x1.2.2.1+1),x1.2.2.2.1,x1.2.2.2.2.1,r4.1.1,r4.1.2,())
 else
  some (Sum.inr (x1.2.2.2.1,x1.2.2.2.2.1,x1.2.2.2.2.2.1,x1.2.2.2.2.2.2.1,()))
def uU (a0:List fh):Option (ah×Unit):=
 bu (β:=(ah×Unit)) (γ:=(Bool×(List Int)×Bool×(List Int)×Unit)) (
  iter (X:=nX) (β:=xb) (List.length a0+(Int.natAbs ((List.length a0:Int))+(Int.natAbs (0:Int)+(List.length ([]:List Int)+(List.length ([]:List Int)+2))))) (a0,(List.length a0:Int),0,false,[],false,[],()) (rX)) fun v5=>
 some ((v5.2.2.1,v5.2.2.2.1),())
end Go.Md
