/-
  The plain models of the functions that the law reaches, second part. No condition.
-/
import Derived.Test.YtjlkkapojeldlaaGreatDoorYm
import Derived.Lib.Bytealg
import Derived.Lib.Repeat
import Derived.Lib.ItoaNum
namespace Go.Md
open Go.Dn
def strings_Compare (a b:List UInt8):Option (Int×Unit):=some (Lib.compareBytes a b,())
abbrev uf:Type:=Int×Int×Int×Unit
abbrev ud:Type:=((Int×Unit) ⊕ (Int×Unit))
def Kg (x1:uf) (again:uf->Option ud):Option ud:=
 bif decide (x1.2.2.1<x1.2.1) then
  again (w64 (x1.1*10),x1.2.1,w64 (x1.2.2.1+1),())
 else
  some (Sum.inr (x1.1,()))
def zm (a0:Int):Option (Int×Unit):=
 aP (β:=(Int×Unit)) (γ:=(Int×Unit)) (
  iter (X:=uf) (β:=ud) (Int.natAbs (1:Int)+(Int.natAbs a0+(Int.natAbs (0:Int)+2))) (1,a0,0,()) (Kg)) fun v2=>
 some (v2.1,())
def sG (a0:ah) (a1:Int) (a2:Int):Option (Bool×Unit):=
 bif decide (a0.2<=a1) then
  bif decide (a0.1>=0) then
   Option.bind (zm a0.2) fun r1=>
   some (decide (a0.1<=(w64 (a2*r1.1))),())
  else
   some (false,())
 else
  some (false,())
abbrev gP:Type:=Int×Int×Int×(List Int)×Int×Int×(List Int)×Int×Int×Bool×(List Int)×Bool×(List Int)×Bool×(List Int)×(List Int)×Unit
abbrev oC:Type:=(((bI×Unit) ⊕ (Bool×(List Int)×Bool×(List Int)×Bool×(List Int)×(List Int)×Unit)) ⊕ (Int×Int×(List Int)×Int×Int×Bool×(List Int)×Bool×(List Int)×Bool×(List Int)×(List Int)×Unit))
def kz (x1:gP) (again:gP->Option oC):Option oC:=
 bif decide (x1.2.2.2.2.2.2.2.2.1<x1.2.2.2.2.2.2.2.1) then
  Option.bind (idx x1.2.2.2.2.2.2.1 x1.2.2.2.2.2.2.2.2.1) fun y2=>
  chk (decide (0<=(w64 (x1.1+x1.2.2.2.2.2.2.2.2.1)))&&decide ((w64 (x1.1+x1.2.2.2.2.2.2.2.2.1))<(x1.2.2.2.2.2.2.2.2.2.2.2.2.2.2.2.1.length:Int))) <|
  Option.bind (x1.2.2.2.2.2.2.2.2.2.2.2.2.2.2.2.1[(w64 (x1.1+x1.2.2.2.2.2.2.2.2.1)).toNat]?) fun y3=>
  let n4:Int:=bp ((bp y3)+(bp ((bp x1.2.1)*(bp y2))))
  chk (decide (0<=(w64 (x1.1+x1.2.2.2.2.2.2.2.2.1)))&&decide ((w64 (x1.1+x1.2.2.2.2.2.2.2.2.1))<(x1.2.2.2.2.2.2.2.2.2.2.2.2.2.2.2.1.length:Int))) <|
  Option.bind (x1.2.2.2.2.2.2.2.2.2.2.2.2.2.2.2.1[(w64 (x1.1+x1.2.2.2.2.2.2.2.2.1)).toNat]?) fun _=>
  again (x1.1,x1.2.1,Int.fdiv (bp (x1.2.2.1+n4)) (2 ^ 32),x1.2.2.2.1,x1.2.2.2.2.1,x1.2.2.2.2.2.1,x1.2.2.2.2.2.2.1,x1.2.2.2.2.2.2.2.1,w64 (x1.2.2.2.2.2.2.2.2.1+1),x1.2.2.2.2.2.2.2.2.2.1,x1.2.2.2.2.2.2.2.2.2.2.1,x1.2.2.2.2.2.2.2.2.2.2.2.1,x1.2.2.2.2.2.2.2.2.2.2.2.2.1,x1.2.2.2.2.2.2.2.2.2.2.2.2.2.1,x1.2.2.2.2.2.2.2.2.2.2.2.2.2.2.1,List.set x1.2.2.2.2.2.2.2.2.2.2.2.2.2.2.2.1 (w64 (x1.1+x1.2.2.2.2.2.2.2.2.1)).toNat (mF (bp (x1.2.2.1+n4))),())
 else
  some (Sum.inr (x1.1,x1.2.2.1,x1.2.2.2.1,x1.2.2.2.2.1,x1.2.2.2.2.2.1,x1.2.2.2.2.2.2.2.2.2.1,x1.2.2.2.2.2.2.2.2.2.2.1,x1.2.2.2.2.2.2.2.2.2.2.2.1,x1.2.2.2.2.2.2.2.2.2.2.2.2.1,x1.2.2.2.2.2.2.2.2.2.2.2.2.2.1,x1.2.2.2.2.2.2.2.2.2.2.2.2.2.2.1,x1.2.2.2.2.2.2.2.2.2.2.2.2.2.2.2.1,()))
abbrev gO:Type:=(List Int)×Int×Int×Bool×(List Int)×Bool×(List Int)×Bool×(List Int)×(List Int)×Unit
abbrev oB:Type:=((bI×Unit) ⊕ (Bool×(List Int)×Bool×(List Int)×Bool×(List Int)×(List Int)×Unit))
def ku (x1:gO) (again:gO->Option oB):Option oB:=
 bif decide (x1.2.2.1<x1.2.1) then
  Option.bind (idx x1.1 x1.2.2.1) fun y2=>
  aP (β:=((bI×Unit) ⊕ (Bool×(List Int)×Bool×(List Int)×Bool×(List Int)×(List Int)×Unit))) (γ:=(Int×Int×(List Int)×Int×Int×Bool×(List Int)×Bool×(List Int)×Bool×(List Int)×(List Int)×Unit)) (
   iter (X:=gP) (β:=oC) (x1.2.2.1.natAbs+(Int.natAbs y2+(Int.natAbs (0:Int)+(x1.1.length+(x1.2.1.natAbs+(x1.2.2.1.natAbs+(x1.2.2.2.2.2.2.1.length+(Int.natAbs ((x1.2.2.2.2.2.2.1.length:Int))+(Int.natAbs (0:Int)+(x1.2.2.2.2.1.length+(x1.2.2.2.2.2.2.1.length+(x1.2.2.2.2.2.2.2.2.1.length+(x1.2.2.2.2.2.2.2.2.2.1.length+2))))))))))))) (x1.2.2.1,y2,0,x1.1,x1.2.1,x1.2.2.1,x1.2.2.2.2.2.2.1,(x1.2.2.2.2.2.2.1.length:Int),0,x1.2.2.2.1,x1.2.2.2.2.1,x1.2.2.2.2.2.1,x1.2.2.2.2.2.2.1,x1.2.2.2.2.2.2.2.1,x1.2.2.2.2.2.2.2.2.1,x1.2.2.2.2.2.2.2.2.2.1,()) (kz)) fun v3=>
  chk (decide (0<=(w64 (v3.1+((v3.2.2.2.2.2.2.2.2.1.length:Int)))))&&decide ((w64 (v3.1+((v3.2.2.2.2.2.2.2.2.1.length:Int))))<(v3.2.2.2.2.2.2.2.2.2.2.2.1.length:Int))) <|
  Option.bind (v3.2.2.2.2.2.2.2.2.2.2.2.1[(w64 (v3.1+((v3.2.2.2.2.2.2.2.2.1.length:Int)))).toNat]?) fun _=>
  again (v3.2.2.1,v3.2.2.2.1,w64 (v3.2.2.2.2.1+1),v3.2.2.2.2.2.1,v3.2.2.2.2.2.2.1,v3.2.2.2.2.2.2.2.1,v3.2.2.2.2.2.2.2.2.1,v3.2.2.2.2.2.2.2.2.2.1,v3.2.2.2.2.2.2.2.2.2.2.1,List.set v3.2.2.2.2.2.2.2.2.2.2.2.1 (w64 (v3.1+((v3.2.2.2.2.2.2.2.2.1.length:Int)))).toNat (mF v3.2.1),())
 else
  some (Sum.inr (x1.2.2.2.1,x1.2.2.2.2.1,x1.2.2.2.2.2.1,x1.2.2.2.2.2.2.1,x1.2.2.2.2.2.2.2.1,x1.2.2.2.2.2.2.2.2.1,x1.2.2.2.2.2.2.2.2.2.1,()))
def kr (a0:bI) (a1:bI):Option (bI×Unit):=
 chk (decide (0<=(w64 (((a0.2.length:Int))+((a1.2.length:Int)))))&&decide ((w64 (((a0.2.length:Int))+((a1.2.length:Int))))<=(w64 (((a0.2.length:Int))+((a1.2.length:Int)))))&&decide ((4:Int)*(w64 (((a0.2.length:Int))+((a1.2.length:Int))))<=281474976710656)&&decide ((w64 (((a0.2.length:Int))+((a1.2.length:Int))))<=9223372036854775807)) <|
 aP (β:=(bI×Unit)) (γ:=(Bool×(List Int)×Bool×(List Int)×Bool×(List Int)×(List Int)×Unit)) (
  iter (X:=gO) (β:=oB) (a0.2.length+(Int.natAbs ((a0.2.length:Int))+(Int.natAbs (0:Int)+(a0.2.length+(a1.2.length+(List.length ([]:List Int)+(List.length ((List.replicate (Int.toNat (w64 (((a0.2.length:Int))+((a1.2.length:Int))))) 0):List Int)+2))))))) (a0.2,(a0.2.length:Int),0,a0.1,a0.2,a1.1,a1.2,false,[],List.replicate (Int.toNat (w64 (((a0.2.length:Int))+((a1.2.length:Int))))) 0,()) (ku)) fun v10=>
 Option.bind (fP (!(v10.1==v10.2.2.1)) v10.2.2.2.2.2.2.1) fun r11=>
 some (r11.1,())
abbrev uD:Type:=(List Int)×(List Int)×Int×(List Int)×Int×Int×Unit
abbrev uC:Type:=(((List Int)×Unit) ⊕ ((List Int)×Int×Unit))
def KH (x1:uD) (again:uD->Option uC):Option uC:=
 bif decide (x1.2.2.2.2.2.1<x1.2.2.2.2.1) then
  Option.bind (idx x1.2.2.2.1 x1.2.2.2.2.2.1) fun y2=>
  aP (β:=(((List Int)×Unit) ⊕ ((List Int)×Int×Unit))) (γ:=((List Int)×(List Int)×Int×(List Int)×Int×Int×Unit)) (
   bif decide (x1.2.2.2.2.2.1<((x1.1.length:Int))) then
    Option.bind (idx x1.1 x1.2.2.2.2.2.1) fun y3=>
    let n4:Int:=bp ((bp (x1.2.2.1+(bp y2)))+(bp y3))
    some (Sum.inr (x1.1,x1.2.1,n4,x1.2.2.2.1,x1.2.2.2.2.1,x1.2.2.2.2.2.1,()))
   else
    some (Sum.inr (x1.1,x1.2.1,bp (x1.2.2.1+(bp y2)),x1.2.2.2.1,x1.2.2.2.2.1,x1.2.2.2.2.2.1,()))) fun v5=>
  chk (decide (((v5.2.1.length)+1)*4<=140737488355328)&&decide ((v5.2.1.length)+1<=maxLen)) <|
  again (v5.1,v5.2.1++[(mF v5.2.2.1)],Int.fdiv v5.2.2.1 (2 ^ 32),v5.2.2.2.1,v5.2.2.2.2.1,w64 (v5.2.2.2.2.2.1+1),())
 else
  some (Sum.inr (x1.2.1,x1.2.2.1,()))
def zG (a0:List Int) (a1:List Int):Option ((List Int)×Unit):=
 aP (β:=((List Int)×Unit)) (γ:=((List Int)×(List Int)×Unit)) (
  bif decide (((List.length a0:Int))<((List.length a1:Int))) then
   some (Sum.inr (a1,a0,()))
  else
   some (Sum.inr (a0,a1,()))) fun v1=>
 chk (decide (0<=(0:Int))&&decide ((0:Int)<=(w64 (((v1.1.length:Int))+1)))&&decide ((4:Int)*(w64 (((v1.1.length:Int))+1))<=281474976710656)&&decide ((w64 (((v1.1.length:Int))+1))<=9223372036854775807)) <|
 aP (β:=((List Int)×Unit)) (γ:=((List Int)×Int×Unit)) (
  iter (X:=uD) (β:=uC) (v1.2.1.length+(List.length ([]:List Int)+(Int.natAbs (0:Int)+(v1.1.length+(Int.natAbs ((v1.1.length:Int))+(Int.natAbs (0:Int)+2)))))) (v1.2.1,[],0,v1.1,(v1.1.length:Int),0,()) (KH)) fun v7=>
 chk (decide (((v7.1.length)+1)*4<=140737488355328)&&decide ((v7.1.length)+1<=maxLen)) <|
 some (v7.1++[(mF v7.2.1)],())
def lH (a0:bI) (a1:bI):Option (bI×Unit):=
 bif a0.1==a1.1 then
  Option.bind (zG a0.2 a1.2) fun r1=>
  Option.bind (fP a0.1 r1.1) fun r2=>
  some (r2.1,())
 else
  Option.bind (qQ a0.2 a1.2) fun r3=>
  bif decide (r3.1>=0) then
   Option.bind (tq a0.2 a1.2) fun r4=>
   Option.bind (fP a0.1 r4.1) fun r5=>
   some (r5.1,())
  else
   Option.bind (tq a1.2 a0.2) fun r6=>
   Option.bind (fP a1.1 r6.1) fun r7=>
   some (r7.1,())
end Go.Md
namespace Go.Md
open Go.Dn
def M0 (n:Nat):List UInt8:=if n<10 then [UInt8.ofNat (48+n)] else [UInt8.ofNat (48+n / 10),UInt8.ofNat (48+n % 10)]
def strconv_Itoa (n:Int):Option (List UInt8×Unit):=bif decide (0<=n)&&decide (n<100) then some (M0 n.toNat,()) else bif decide (-9223372036854775808<=n)&&decide (n<=9223372036854775807) then some (Lib.itoa n,()) else none
def strings_Repeat (s:List UInt8) (n:Int):Option (List UInt8×Unit):=bif decide (0<=n)&&(decide (n<=9223372036854775807)&&decide (s.length*n.toNat<=140737488355328)) then some (Lib.repeatL s n.toNat,()) else none
def wj (_a:List UInt8):Option (Int×Unit):=none
def vS (_a:List UInt8):Option (Bool×Unit):=none
def B6 (_a:List UInt8):Option (Bool×Unit):=none
def CL (_a:List UInt8):Option (Bool×Unit):=none
def B7 (_a _b:Int):Option (List UInt8×Unit):=none
def xL (_a:List UInt8) (_b:Bool):Option (Bool×Unit):=none
def D3 (_a:List UInt8) (_b:Int):Option (Int×Unit):=none
def FK (_a:List UInt8):Option (Int×Unit):=none
def Lc (_a:List UInt8):Option (List UInt8×Unit):=none
abbrev bh:Ty:=(.st (.pair .str (.pair .str (.pair .str bM))))
abbrev ay:Type:=(List UInt8)×(List UInt8)×(List UInt8)×ah
abbrev az:Ty:=(.st (.pair .str (.pair .str (.pair bM (.slice bh)))))
abbrev aa:Type:=(List UInt8)×(List UInt8)×ah×(List ay)
abbrev cH:Ty:=(.st (.pair .str (.pair .str (.pair tI (.slice az)))))
abbrev ai:Type:=(List UInt8)×(List UInt8)×Int×(List aa)
abbrev Fp:Type:=Int×(List UInt8)×(List UInt8)×ah×ah×Int×ah×ah×ah×ah
def qw (a0:Int):Option (Bool×Unit):=
 Option.bind (iI a0 1 5) fun r1=>
 some (!r1.1,())
def tL (a0:Int):Option ((List Int)×Unit):=
 bif a0==1 then
  some ([8,12,13,14],())
 else
  bif a0==2 then
   some ([13],())
  else
   some ([18],())
abbrev gm:Type:=(List Int)×Int×Int×Int×Unit
abbrev nr:Type:=((Int×Unit) ⊕ Unit)
def jm (x1:gm) (again:gm->Option nr):Option nr:=
 bif decide (x1.2.2.2.1<x1.2.2.1) then
  Option.bind (idx x1.1 x1.2.2.2.1) fun y2=>
  bif x1.2.1==y2 then
   some (Sum.inl (x1.2.2.2.1,()))
  else
   again (x1.1,x1.2.1,x1.2.2.1,w64 (x1.2.2.2.1+1),())
 else
  some (Sum.inr ())
def rf (a0:List Int) (a1:Int):Option (Int×Unit):=
 aP (β:=(Int×Unit)) (γ:=Unit) (
  iter (X:=gm) (β:=nr) (List.length a0+(Int.natAbs a1+(Int.natAbs ((List.length a0:Int))+(Int.natAbs (0:Int)+2)))) (a0,a1,(List.length a0:Int),0,()) (jm)) fun _=>
 some ((-1),())
def gk (a0:List Int) (a1:Int):Option (Bool×Unit):=
 Option.bind (rf a0 a1) fun r1=>
 some (decide (r1.1>=0),())
abbrev lf:Type:=(List UInt8)×Int×Int×Int×Int×Unit
abbrev tZ:Type:=((Bool×Unit) ⊕ Unit)
def oP (x1:lf) (again:lf->Option tZ):Option tZ:=
 bif decide (x1.2.2.2.2.1<x1.2.2.2.1) then
  Option.bind (eN x1.1 x1.2.2.2.2.1) fun c2=>
  bif decide ((c2.toNat:Int)<x1.2.1) then
   some (Sum.inl (false,()))
  else
   Option.bind (eN x1.1 x1.2.2.2.2.1) fun c3=>
   bif decide ((c3.toNat:Int)>x1.2.2.1) then
    some (Sum.inl (false,()))
   else
    again (x1.1,x1.2.1,x1.2.2.1,x1.2.2.2.1,w64 (x1.2.2.2.2.1+1),())
 else
  some (Sum.inr ())
def zj (a0:List UInt8) (a1:Int) (a2:Int):Option (Bool×Unit):=
 aP (β:=(Bool×Unit)) (γ:=Unit) (
  iter (X:=lf) (β:=tZ) (List.length a0+(Int.natAbs a1+(Int.natAbs a2+(Int.natAbs ((List.length a0:Int))+(Int.natAbs (0:Int)+2))))) (a0,a1,a2,(List.length a0:Int),0,()) (oP)) fun _=>
 some (true,())
def gG (a0:List UInt8):Option (Bool×Unit):=
 bif !(a0==[]) then
  Option.bind (zj a0 48 57) fun r1=>
  some (r1.1,())
 else
  some (false,())
abbrev rY:Type:=(List UInt8)×Int×Int×Int×Unit
abbrev rX:Type:=((Bool×Unit) ⊕ (Int×Unit))
def He (x1:rY) (again:rY->Option rX):Option rX:=
 bif decide (x1.2.2.2.1<x1.2.2.1) then
  let n2:Int:=w64 ((w64 (((x1.1.length:Int)) - 1)) - x1.2.2.2.1)
  Option.bind (eN x1.1 n2) fun c3=>
  bif (Int.tmod x1.2.2.2.1 2)==1 then
   let n4:Int:=w64 ((w64 (wu8 ((c3.toNat:Int) - 48)))*3)
   again (x1.1,w64 (x1.2.1+n4),x1.2.2.1,w64 (x1.2.2.2.1+1),())
  else
   let n5:Int:=w64 (x1.2.1+(w64 (wu8 ((c3.toNat:Int) - 48))))
   again (x1.1,n5,x1.2.2.1,w64 (x1.2.2.2.1+1),())
 else
  some (Sum.inr (x1.2.1,()))
def xb (a0:List UInt8):Option (Bool×Unit):=
 aP (β:=(Bool×Unit)) (γ:=(Int×Unit)) (
  iter (X:=rY) (β:=rX) (List.length a0+(Int.natAbs (0:Int)+(Int.natAbs ((List.length a0:Int))+(Int.natAbs (0:Int)+2)))) (a0,0,(List.length a0:Int),0,()) (He)) fun v6=>
 some ((Int.tmod v6.1 10)==0,())
def nx (a0:Int) (a1:List UInt8):Option (Bool×Unit):=
 bif a0==4 then
  Option.bind (vS a1) fun r1=>
  some (r1.1,())
 else
  bif a0==5 then
   Option.bind (CL a1) fun r2=>
   some (r2.1,())
  else
   Option.bind (tL a0) fun r3=>
   Option.bind (gk r3.1 ((List.length a1:Int))) fun r4=>
   bif r4.1 then
    Option.bind (gG a1) fun r5=>
    bif r5.1 then
     Option.bind (xb a1) fun r6=>
     some (r6.1,())
    else
     some (false,())
   else
    some (false,())
def rW (a0:Int) (a1:List UInt8):Option (Bool×Int×Unit):=
 Option.bind (qw a0) fun r1=>
 bif !r1.1 then
  some (false,4,())
 else
  Option.bind (nx a0 a1) fun r2=>
  some (r2.1,0,())
def oV (a0:List UInt8):Option (Bool×Unit):=
 Option.bind (rW 3 a0) fun r1=>
 some (r1.1,())
def cJ (a0:ah) (a1:Bool):Option (Int×Unit):=
 Option.bind (eD a0) fun r1=>
 bif r1.1 != 0 then
  some (r1.1,())
 else
  Option.bind (sG a0 3 1000000000) fun r2=>
  bif !r2.1 then
   some (1,())
  else
   bif a0.1==0 then
    bif !a1 then
     some (1,())
    else
     some (0,())
   else
    some (0,())
abbrev qB:Type:=Int×(List Int)×Int×Int×Unit
abbrev vT:Type:=((Int×Unit) ⊕ (Int×Unit))
def qA (x1:qB) (again:qB->Option vT):Option vT:=
 bif decide (x1.2.2.2.1<x1.2.2.1) then
  Option.bind (idx x1.2.1 x1.2.2.2.1) fun y2=>
  bif y2 != x1.1 then
   some (Sum.inl (y2,()))
  else
   again (x1.1,x1.2.1,x1.2.2.1,w64 (x1.2.2.2.1+1),())
 else
  some (Sum.inr (x1.1,()))
def wK (a0:List Int):Option (Int×Unit):=
 aP (β:=(Int×Unit)) (γ:=(Int×Unit)) (
  iter (X:=qB) (β:=vT) (Int.natAbs (0:Int)+(List.length a0+(Int.natAbs ((List.length a0:Int))+(Int.natAbs (0:Int)+2)))) (0,a0,(List.length a0:Int),0,()) (qA)) fun v3=>
 some (v3.1,())
def eK (a0:ay) (a1:ay):Option (Int×Unit):=
 Option.bind (strings_Compare a0.1 a1.1) fun r1=>
 Option.bind (strings_Compare a0.2.1 a1.2.1) fun r2=>
 Option.bind (strings_Compare a0.2.2.1 a1.2.2.1) fun r3=>
 Option.bind (wK [r1.1,r2.1,r3.1]) fun r4=>
 some (r4.1,())
abbrev fZ:Type:=(List ay)×(List ay)×Int×Int×Unit
abbrev ju:Type:=((Int×Unit) ⊕ Unit)
def fY (x1:fZ) (again:fZ->Option ju):Option ju:=
 bif decide (x1.2.2.2.1<x1.2.2.1) then
  Option.bind (idx x1.2.1 x1.2.2.2.1) fun y2=>
  Option.bind (eX y2.1) fun r3=>
  bif !r3.1 then
   some (Sum.inl (5,()))
  else
   Option.bind (eX y2.2.1) fun r4=>
   bif !r4.1 then
    some (Sum.inl (5,()))
   else
    bif !(y2.2.2.1==[]) then
     Option.bind (eX y2.2.2.1) fun r5=>
     bif !r5.1 then
      some (Sum.inl (5,()))
     else
      bif decide (x1.2.2.2.1>0) then
       Option.bind (idx x1.1 (w64 (x1.2.2.2.1 - 1))) fun y6=>
       Option.bind (eK y6 y2) fun r7=>
       bif decide (r7.1>=0) then
        some (Sum.inl (8,()))
       else
        Option.bind (cJ y2.2.2.2 false) fun r8=>
        bif r8.1 != 0 then
         some (Sum.inl (r8.1,()))
        else
         again (x1.1,x1.2.1,x1.2.2.1,w64 (x1.2.2.2.1+1),())
      else
       Option.bind (cJ y2.2.2.2 false) fun r9=>
       bif r9.1 != 0 then
        some (Sum.inl (r9.1,()))
       else
        again (x1.1,x1.2.1,x1.2.2.1,w64 (x1.2.2.2.1+1),())
    else
     bif decide (x1.2.2.2.1>0) then
      Option.bind (idx x1.1 (w64 (x1.2.2.2.1 - 1))) fun y10=>
      Option.bind (eK y10 y2) fun r11=>
      bif decide (r11.1>=0) then
       some (Sum.inl (8,()))
      else
       Option.bind (cJ y2.2.2.2 false) fun r12=>
       bif r12.1 != 0 then
        some (Sum.inl (r12.1,()))
       else
        again (x1.1,x1.2.1,x1.2.2.1,w64 (x1.2.2.2.1+1),())
     else
      Option.bind (cJ y2.2.2.2 false) fun r13=>
      bif r13.1 != 0 then
       some (Sum.inl (r13.1,()))
      else
       again (x1.1,x1.2.1,x1.2.2.1,w64 (x1.2.2.2.1+1),())
 else
  some (Sum.inr ())
def fN (a0:List ay):Option (Int×Unit):=
 bif decide (((List.length a0:Int))>100) then
  some (2,())
 else
  aP (β:=(Int×Unit)) (γ:=Unit) (
   iter (X:=fZ) (β:=ju) (List.length a0+(List.length a0+(Int.natAbs ((List.length a0:Int))+(Int.natAbs (0:Int)+2)))) (a0,a0,(List.length a0:Int),0,()) (fY)) fun _=>
  some (0,())
def jU (a0:List aa) (a1:Int):Option (Int×Unit):=
 Option.bind (idx a0 a1) fun y1=>
 Option.bind (oV y1.1) fun r2=>
 bif !r2.1 then
  some (3,())
 else
  bif decide (a1>0) then
   Option.bind (idx a0 (w64 (a1 - 1))) fun y3=>
   bif Op.bytesLess y1.1 y3.1||y1.1==y3.1 then
    some (8,())
   else
    Option.bind (cJ y1.2.2.1 true) fun r4=>
    bif r4.1 != 0 then
     some (r4.1,())
    else
     Option.bind (fN y1.2.2.2) fun r5=>
     some (r5.1,())
  else
   Option.bind (cJ y1.2.2.1 true) fun r6=>
   bif r6.1 != 0 then
    some (r6.1,())
   else
    Option.bind (fN y1.2.2.2) fun r7=>
    some (r7.1,())
def pI (a0:aa) (a1:List UInt8):Option (Int×Unit):=
 Option.bind (strings_Compare a0.1 a1) fun r1=>
 some (r1.1,())
abbrev bG:Type:=(List aa)×(List UInt8)×Unit×Int×Int×Int×Unit
abbrev cZ:Type:=((Int×Bool×Unit) ⊕ ((List aa)×(List UInt8)×Unit×Int×Int×Unit))
def cY (x1:bG) (again:bG->Option cZ):Option cZ:=
 bif decide (x1.2.2.2.2.1<x1.2.2.2.2.2.1) then
  let n2:Int:=w64 (Int.fdiv (bp (w64 (x1.2.2.2.2.1+x1.2.2.2.2.2.1))) (2 ^ 1))
  Option.bind (idx x1.1 n2) fun y3=>
  Option.bind (pI y3 x1.2.1) fun r4=>
  bif decide (r4.1<0) then
   again (x1.1,x1.2.1,x1.2.2.1,x1.2.2.2.1,w64 (n2+1),x1.2.2.2.2.2.1,())
  else
   again (x1.1,x1.2.1,x1.2.2.1,x1.2.2.2.1,x1.2.2.2.2.1,n2,())
 else
  some (Sum.inr (x1.1,x1.2.1,x1.2.2.1,x1.2.2.2.1,x1.2.2.2.2.1,()))
def cA (a0:List aa) (a1:List UInt8) (a2:Unit):Option (Int×Bool×Unit):=
 aP (β:=(Int×Bool×Unit)) (γ:=((List aa)×(List UInt8)×Unit×Int×Int×Unit)) (
  iter (X:=bG) (β:=cZ) (List.length a0+(List.length a1+(Int.natAbs ((List.length a0:Int))+(Int.natAbs (0:Int)+(Int.natAbs ((List.length a0:Int))+2))))) (a0,a1,a2,(List.length a0:Int),0,(List.length a0:Int),()) (cY)) fun v5=>
 bif decide (v5.2.2.2.2.1<v5.2.2.2.1) then
  Option.bind (idx v5.1 v5.2.2.2.2.1) fun y6=>
  Option.bind (pI y6 v5.2.1) fun r7=>
  some (v5.2.2.2.2.1,r7.1==0,())
 else
  some (v5.2.2.2.2.1,false,())
def jT (a0:ai) (a1:List UInt8):Option (Int×Bool×Unit):=
 Option.bind (cA a0.2.2.2 a1 ()) fun r1=>
 some (r1.1,r1.2.1,())
abbrev gw:Type:=Int×(List Int)×Int×(List UInt8)×(List UInt8)×Int×(List aa)×Unit
abbrev ff:Type:=(((List Int)×Bool×Unit) ⊕ ((List Int)×Unit))
def mm (x1:gw) (again:gw->Option ff):Option ff:=
 Option.bind (idx x1.2.2.2.2.2.2.1 x1.2.2.1) fun y2=>
 bif !(y2.2.1==[]) then
  Option.bind (idx x1.2.2.2.2.2.2.1 x1.2.2.1) fun y3=>
  Option.bind (jT (x1.2.2.2.1,x1.2.2.2.2.1,x1.2.2.2.2.2.1,x1.2.2.2.2.2.2.1) y3.2.1) fun r4=>
  bif r4.1==x1.1 then
   some (Sum.inl ([],false,()))
  else
   Option.bind (gk x1.2.1 r4.1) fun r5=>
   bif r5.1 then
    some (Sum.inl (x1.2.1,true,()))
   else
    chk (decide (((x1.2.1.length)+1)*8<=140737488355328)&&decide ((x1.2.1.length)+1<=maxLen)) <|
    again (x1.1,x1.2.1++[r4.1],r4.1,x1.2.2.2.1,x1.2.2.2.2.1,x1.2.2.2.2.2.1,x1.2.2.2.2.2.2.1,())
 else
  some (Sum.inr (x1.2.1,()))
def mL (a0:ai) (a1:Int):Option ((List Int)×Bool×Unit):=
 aP (β:=((List Int)×Bool×Unit)) (γ:=((List Int)×Unit)) (
  iter (X:=gw) (β:=ff) (Int.natAbs a1+(List.length ([]:List Int)+(Int.natAbs a1+(a0.1.length+(a0.2.1.length+(a0.2.2.1.natAbs+(a0.2.2.2.length+2))))))) (a1,[],a1,a0.1,a0.2.1,a0.2.2.1,a0.2.2.2,()) (mm)) fun v6=>
 some (v6.1,true,())
abbrev jg:Type:=(List aa)×Int×Int×(List UInt8)×(List UInt8)×Int×(List aa)×Unit
abbrev nj:Type:=((Int×Unit) ⊕ ((List UInt8)×(List UInt8)×Int×(List aa)×Unit))
def je (x1:jg) (again:jg->Option nj):Option nj:=
 bif decide (x1.2.2.1<x1.2.1) then
  Option.bind (idx x1.1 x1.2.2.1) fun y2=>
  Option.bind (jT (x1.2.2.2.1,x1.2.2.2.2.1,x1.2.2.2.2.2.1,x1.2.2.2.2.2.2.1) y2.2.1) fun r3=>
  bif !(y2.2.1==[]) then
   bif !r3.2.1 then
    some (Sum.inl (9,()))
   else
    again (x1.1,x1.2.1,w64 (x1.2.2.1+1),x1.2.2.2.1,x1.2.2.2.2.1,x1.2.2.2.2.2.1,x1.2.2.2.2.2.2.1,())
  else
   again (x1.1,x1.2.1,w64 (x1.2.2.1+1),x1.2.2.2.1,x1.2.2.2.2.1,x1.2.2.2.2.2.1,x1.2.2.2.2.2.2.1,())
 else
  some (Sum.inr (x1.2.2.2.1,x1.2.2.2.2.1,x1.2.2.2.2.2.1,x1.2.2.2.2.2.2.1,()))
abbrev jh:Type:=Int×Int×(List UInt8)×(List UInt8)×Int×(List aa)×Unit
abbrev nk:Type:=((Int×Unit) ⊕ ((List UInt8)×(List UInt8)×Int×(List aa)×Unit))
def jf (x1:jh) (again:jh->Option nk):Option nk:=
 bif decide (x1.2.1<x1.1) then
  Option.bind (mL (x1.2.2.1,x1.2.2.2.1,x1.2.2.2.2.1,x1.2.2.2.2.2.1) x1.2.1) fun r2=>
  bif !r2.2.1 then
   some (Sum.inl (17,()))
  else
   again (x1.1,w64 (x1.2.1+1),x1.2.2.1,x1.2.2.2.1,x1.2.2.2.2.1,x1.2.2.2.2.2.1,())
 else
  some (Sum.inr (x1.2.2.1,x1.2.2.2.1,x1.2.2.2.2.1,x1.2.2.2.2.2.1,()))
abbrev iE:Type:=Int×Int×(List UInt8)×(List UInt8)×Int×(List aa)×Unit
abbrev mq:Type:=((Int×Unit) ⊕ Unit)
def iD (x1:iE) (again:iE->Option mq):Option mq:=
 bif decide (x1.2.1<x1.1) then
  Option.bind (mL (x1.2.2.1,x1.2.2.2.1,x1.2.2.2.2.1,x1.2.2.2.2.2.1) x1.2.1) fun r2=>
  bif decide (((r2.1.length:Int))>5) then
   some (Sum.inl (2,()))
  else
   again (x1.1,w64 (x1.2.1+1),x1.2.2.1,x1.2.2.2.1,x1.2.2.2.2.1,x1.2.2.2.2.2.1,())
 else
  some (Sum.inr ())
def mo (a0:ai):Option (Int×Unit):=
 aP (β:=(Int×Unit)) (γ:=((List UInt8)×(List UInt8)×Int×(List aa)×Unit)) (
  iter (X:=jg) (β:=nj) (a0.2.2.2.length+(Int.natAbs ((a0.2.2.2.length:Int))+(Int.natAbs (0:Int)+(a0.1.length+(a0.2.1.length+(a0.2.2.1.natAbs+(a0.2.2.2.length+2))))))) (a0.2.2.2,(a0.2.2.2.length:Int),0,a0.1,a0.2.1,a0.2.2.1,a0.2.2.2,()) (je)) fun v4=>
 aP (β:=(Int×Unit)) (γ:=((List UInt8)×(List UInt8)×Int×(List aa)×Unit)) (
  iter (X:=jh) (β:=nk) (Int.natAbs ((v4.2.2.2.1.length:Int))+(Int.natAbs (0:Int)+(v4.1.length+(v4.2.1.length+(v4.2.2.1.natAbs+(v4.2.2.2.1.length+2)))))) ((v4.2.2.2.1.length:Int),0,v4.1,v4.2.1,v4.2.2.1,v4.2.2.2.1,()) (jf)) fun v7=>
 aP (β:=(Int×Unit)) (γ:=Unit) (
  iter (X:=iE) (β:=mq) (Int.natAbs ((v7.2.2.2.1.length:Int))+(Int.natAbs (0:Int)+(v7.1.length+(v7.2.1.length+(v7.2.2.1.natAbs+(v7.2.2.2.1.length+2)))))) ((v7.2.2.2.1.length:Int),0,v7.1,v7.2.1,v7.2.2.1,v7.2.2.2.1,()) (iD)) fun _=>
 some (0,())
abbrev gS:Type:=Int×Int×(List UInt8)×(List UInt8)×Int×(List aa)×Unit
abbrev lz:Type:=((Int×Unit) ⊕ ((List UInt8)×(List UInt8)×Int×(List aa)×Unit))
def gR (x1:gS) (again:gS->Option lz):Option lz:=
 bif decide (x1.2.1<x1.1) then
  Option.bind (jU x1.2.2.2.2.2.1 x1.2.1) fun r2=>
  bif r2.1 != 0 then
   some (Sum.inl (r2.1,()))
  else
   again (x1.1,w64 (x1.2.1+1),x1.2.2.1,x1.2.2.2.1,x1.2.2.2.2.1,x1.2.2.2.2.2.1,())
 else
  some (Sum.inr (x1.2.2.1,x1.2.2.2.1,x1.2.2.2.2.1,x1.2.2.2.2.2.1,()))
def cg (a0:ai):Option (Int×Unit):=
 Option.bind (eX a0.1) fun r1=>
 bif !r1.1 then
  some (5,())
 else
  Option.bind (eX a0.2.1) fun r2=>
  bif !r2.1 then
   some (5,())
  else
   Option.bind (yz a0.2.2.1) fun r3=>
   bif !r3.1 then
    some (1,())
   else
    bif decide (((a0.2.2.2.length:Int))>500) then
     some (2,())
    else
     aP (β:=(Int×Unit)) (γ:=((List UInt8)×(List UInt8)×Int×(List aa)×Unit)) (
      iter (X:=gS) (β:=lz) (Int.natAbs ((a0.2.2.2.length:Int))+(Int.natAbs (0:Int)+(a0.1.length+(a0.2.1.length+(a0.2.2.1.natAbs+(a0.2.2.2.length+2)))))) ((a0.2.2.2.length:Int),0,a0.1,a0.2.1,a0.2.2.1,a0.2.2.2,()) (gR)) fun v6=>
     Option.bind (mo (v6.1,v6.2.1,v6.2.2.1,v6.2.2.2.1)) fun r7=>
     some (r7.1,())
def D1 (a0:Int):Option (Bool×Unit):=
 Option.bind (lR a0 1 5) fun r1=>
 some (r1.1,())
abbrev lD:Type:=(List UInt8)×Int×Int×Unit
abbrev uq:Type:=((Bool×Unit) ⊕ Unit)
def o3 (x1:lD) (again:lD->Option uq):Option uq:=
 bif decide (x1.2.2.1<x1.2.1) then
  Option.bind (eN x1.1 x1.2.2.1) fun c2=>
  bif decide ((c2.toNat:Int)<48) then
   some (Sum.inl (false,()))
  else
   Option.bind (eN x1.1 x1.2.2.1) fun c3=>
   bif decide ((c3.toNat:Int)>57) then
    some (Sum.inl (false,()))
   else
    again (x1.1,x1.2.1,w64 (x1.2.2.1+1),())
 else
  some (Sum.inr ())
def eL (a0:List UInt8):Option (Bool×Unit):=
 bif a0==[] then
  some (false,())
 else
  aP (β:=(Bool×Unit)) (γ:=Unit) (
   iter (X:=lD) (β:=uq) (List.length a0+(Int.natAbs ((List.length a0:Int))+(Int.natAbs (0:Int)+2))) (a0,(List.length a0:Int),0,()) (o3)) fun _=>
  some (true,())
abbrev n9:Type:=(List UInt8)×Int×Int×Int×Unit
abbrev xO:Type:=((Bool×Unit) ⊕ (Int×Unit))
def sY (x1:n9) (again:n9->Option xO):Option xO:=
 bif decide (x1.2.2.2.1<x1.2.2.1) then
  let n2:Int:=w64 ((w64 (((x1.1.length:Int)) - 1)) - x1.2.2.2.1)
  Option.bind (eN x1.1 n2) fun c3=>
  bif (Int.tmod x1.2.2.2.1 2)==1 then
   let n4:Int:=w64 ((w64 (wu8 ((c3.toNat:Int) - 48)))*3)
   again (x1.1,w64 (x1.2.1+n4),x1.2.2.1,w64 (x1.2.2.2.1+1),())
  else
   let n5:Int:=w64 (x1.2.1+(w64 (wu8 ((c3.toNat:Int) - 48))))
   again (x1.1,n5,x1.2.2.1,w64 (x1.2.2.2.1+1),())
 else
  some (Sum.inr (x1.2.1,()))
def lQ (a0:List UInt8):Option (Bool×Unit):=
 aP (β:=(Bool×Unit)) (γ:=(Int×Unit)) (
  iter (X:=n9) (β:=xO) (List.length a0+(Int.natAbs (0:Int)+(Int.natAbs ((List.length a0:Int))+(Int.natAbs (0:Int)+2)))) (a0,0,(List.length a0:Int),0,()) (sY)) fun v6=>
 some ((Int.tmod v6.1 10)==0,())
def zw (a0:Int) (a1:List UInt8):Option (Bool×Unit):=
 bif a0==1 then
  Option.bind (eL a1) fun r1=>
  bif r1.1 then
   bif ((List.length a1:Int))==8 then
    Option.bind (lQ a1) fun r2=>
    some (r2.1,())
   else
    bif decide (((List.length a1:Int))>=12) then
     bif decide (((List.length a1:Int))<=14) then
      Option.bind (lQ a1) fun r3=>
      some (r3.1,())
     else
      some (false,())
    else
     some (false,())
  else
   some (false,())
 else
  bif a0==2 then
   Option.bind (eL a1) fun r4=>
   bif r4.1 then
    bif ((List.length a1:Int))==13 then
     Option.bind (lQ a1) fun r5=>
     some (r5.1,())
    else
     some (false,())
   else
    some (false,())
  else
   bif a0==3 then
    Option.bind (eL a1) fun r6=>
    bif r6.1 then
     bif ((List.length a1:Int))==18 then
      Option.bind (lQ a1) fun r7=>
      some (r7.1,())
     else
      some (false,())
    else
     some (false,())
   else
    bif a0==4 then
     Option.bind (lR ((List.length a1:Int)) 15 34) fun r8=>
     bif !r8.1 then
      some (false,())
     else
      chk (decide (0<=(0:Int))&&decide ((0:Int)<=2)&&decide (2<=(List.length a1:Int))) <|
      Option.bind (xL (List.drop 0 (List.take (Int.toNat 2) a1)) false) fun r9=>
      bif !r9.1 then
       some (false,())
      else
       chk (decide (0<=(2:Int))&&decide ((2:Int)<=4)&&decide (4<=(List.length a1:Int))) <|
       Option.bind (eL (List.drop 2 (List.take (Int.toNat 4) a1))) fun r10=>
       bif !r10.1 then
        some (false,())
       else
        chk (decide (0<=(4:Int))&&decide ((4:Int)<=((List.length a1:Int)))&&decide (((List.length a1:Int))<=(List.length a1:Int))) <|
        Option.bind (xL (List.drop 4 (List.take (Int.toNat ((List.length a1:Int))) a1)) true) fun r11=>
        bif !r11.1 then
         some (false,())
        else
         chk (decide (0<=(2:Int))&&decide ((2:Int)<=4)&&decide (4<=(List.length a1:Int))) <|
         bif !(Op.bytesLess (List.drop 2 (List.take (Int.toNat 4) a1)) [48,50]) then
          chk (decide (0<=(2:Int))&&decide ((2:Int)<=4)&&decide (4<=(List.length a1:Int))) <|
          bif Op.bytesLess (List.drop 2 (List.take (Int.toNat 4) a1)) [57,56]||(List.drop 2 (List.take (Int.toNat 4) a1))==[57,56] then
           chk (decide (0<=(4:Int))&&decide ((4:Int)<=((List.length a1:Int)))&&decide (((List.length a1:Int))<=(List.length a1:Int))) <|
           chk (decide (0<=(0:Int))&&decide ((0:Int)<=4)&&decide (4<=(List.length a1:Int))) <|
           chk (decide (List.length (List.drop 4 (List.take (Int.toNat ((List.length a1:Int))) a1))+List.length (List.drop 0 (List.take (Int.toNat 4) a1))<=maxLen)) <|
           Option.bind (Lc ((List.drop 4 (List.take (Int.toNat ((List.length a1:Int))) a1))++(List.drop 0 (List.take (Int.toNat 4) a1)))) fun r12=>
           Option.bind (D3 r12.1 97) fun r13=>
           some (r13.1==1,())
          else
           some (false,())
         else
          some (false,())
    else
     Option.bind (eL a1) fun r14=>
     bif r14.1 then
      bif ((List.length a1:Int))==11 then
       Option.bind (eN a1 0) fun c15=>
       bif (c15.toNat:Int) != 48 then
        Option.bind (eN a1 10) fun c16=>
        Option.bind (FK a1) fun r17=>
        some ((c16.toNat:Int)==r17.1,())
       else
        some (false,())
      else
       some (false,())
     else
      some (false,())
def zq (a0:Int) (a1:List UInt8):Option (Bool×Int×Unit):=
 Option.bind (D1 a0) fun r1=>
 bif !r1.1 then
  some (false,4,())
 else
  Option.bind (zw a0 a1) fun r2=>
  some (r2.1,0,())
def uR (a0:List UInt8):Option (Bool×Unit):=
 Option.bind (zq 3 a0) fun r1=>
 some (r1.1,())
def ER (a0:ah) (a1:ah):Option (Int×Unit):=
 Option.bind (BR a0 9) fun r1=>
 Option.bind (BR a1 9) fun r2=>
 Option.bind (DY r1.1 r2.1) fun r3=>
 some (r3.1,())
def iH (a0:ah) (a1:Bool):Option (Bool×Unit):=
 Option.bind (gT a0) fun r1=>
 bif r1.1==0 then
  bif decide (a0.1>=0) then
   bif decide (a0.1>0) then
    Option.bind (ER a0 (1000000000,0)) fun r2=>
    bif decide (r2.1<=0) then
     some (decide (a0.2<=3),())
    else
     some (false,())
   else
    bif !a1 then
     Option.bind (ER a0 (1000000000,0)) fun r3=>
     bif decide (r3.1<=0) then
      some (decide (a0.2<=3),())
     else
      some (false,())
    else
     some (false,())
  else
   some (false,())
 else
  some (false,())
abbrev jj:Type:=(List Int)×Int×Int×Unit
abbrev nq:Type:=((Int×Unit) ⊕ Unit)
def ji (x1:jj) (again:jj->Option nq):Option nq:=
 bif decide (x1.2.2.1<x1.2.1) then
  Option.bind (idx x1.1 x1.2.2.1) fun y2=>
  bif y2 != 0 then
   some (Sum.inl (y2,()))
  else
   again (x1.1,x1.2.1,w64 (x1.2.2.1+1),())
 else
  some (Sum.inr ())
def iX (a0:ay) (a1:ay):Option (Int×Unit):=
 Option.bind (strings_Compare a0.1 a1.1) fun r1=>
 Option.bind (strings_Compare a0.2.1 a1.2.1) fun r2=>
 Option.bind (strings_Compare a0.2.2.1 a1.2.2.1) fun r3=>
 aP (β:=(Int×Unit)) (γ:=Unit) (
  iter (X:=jj) (β:=nq) (List.length [r1.1,r2.1,r3.1]+(Int.natAbs ((List.length [r1.1,r2.1,r3.1]:Int))+(Int.natAbs (0:Int)+2))) ([r1.1,r2.1,r3.1],(List.length [r1.1,r2.1,r3.1]:Int),0,()) (ji)) fun _=>
 some (0,())
abbrev iG:Type:=(List ay)×(List ay)×Int×Int×Unit
abbrev mu:Type:=((Int×Unit) ⊕ Unit)
def iF (x1:iG) (again:iG->Option mu):Option mu:=
 bif decide (x1.2.2.2.1<x1.2.2.1) then
  Option.bind (idx x1.2.1 x1.2.2.2.1) fun y2=>
  Option.bind (lP y2.1) fun r3=>
  bif !r3.1 then
   some (Sum.inl (5,()))
  else
   Option.bind (lP y2.2.1) fun r4=>
   bif !r4.1 then
    some (Sum.inl (5,()))
   else
    bif !(y2.2.2.1==[]) then
     Option.bind (lP y2.2.2.1) fun r5=>
     bif !r5.1 then
      some (Sum.inl (5,()))
     else
      bif decide (x1.2.2.2.1>0) then
       Option.bind (idx x1.1 (w64 (x1.2.2.2.1 - 1))) fun y6=>
       Option.bind (iX y6 y2) fun r7=>
       bif decide (r7.1>=0) then
        some (Sum.inl (8,()))
       else
        Option.bind (iH y2.2.2.2 true) fun r8=>
        bif !r8.1 then
         some (Sum.inl (1,()))
        else
         again (x1.1,x1.2.1,x1.2.2.1,w64 (x1.2.2.2.1+1),())
      else
       Option.bind (iH y2.2.2.2 true) fun r9=>
       bif !r9.1 then
        some (Sum.inl (1,()))
       else
        again (x1.1,x1.2.1,x1.2.2.1,w64 (x1.2.2.2.1+1),())
    else
     bif decide (x1.2.2.2.1>0) then
      Option.bind (idx x1.1 (w64 (x1.2.2.2.1 - 1))) fun y10=>
      Option.bind (iX y10 y2) fun r11=>
      bif decide (r11.1>=0) then
       some (Sum.inl (8,()))
      else
       Option.bind (iH y2.2.2.2 true) fun r12=>
       bif !r12.1 then
        some (Sum.inl (1,()))
       else
        again (x1.1,x1.2.1,x1.2.2.1,w64 (x1.2.2.2.1+1),())
     else
      Option.bind (iH y2.2.2.2 true) fun r13=>
      bif !r13.1 then
       some (Sum.inl (1,()))
      else
       again (x1.1,x1.2.1,x1.2.2.1,w64 (x1.2.2.2.1+1),())
 else
  some (Sum.inr ())
def ig (a0:List ay):Option (Int×Unit):=
 bif decide (((List.length a0:Int))>100) then
  some (2,())
 else
  aP (β:=(Int×Unit)) (γ:=Unit) (
   iter (X:=iG) (β:=mu) (List.length a0+(List.length a0+(Int.natAbs ((List.length a0:Int))+(Int.natAbs (0:Int)+2)))) (a0,a0,(List.length a0:Int),0,()) (iF)) fun _=>
  some (0,())
abbrev jZ:Type:=(List UInt8)×(List aa)×Int×Int×Unit
abbrev sS:Type:=((Int×Unit) ⊕ Unit)
def nJ (x1:jZ) (again:jZ->Option sS):Option sS:=
 bif decide (x1.2.2.2.1<x1.2.2.1) then
  Option.bind (idx x1.2.1 x1.2.2.2.1) fun y2=>
  bif y2.1==x1.1 then
   some (Sum.inl (x1.2.2.2.1,()))
  else
   again (x1.1,x1.2.1,x1.2.2.1,w64 (x1.2.2.2.1+1),())
 else
  some (Sum.inr ())
def lC (a0:List aa) (a1:List UInt8):Option (Int×Unit):=
 aP (β:=(Int×Unit)) (γ:=Unit) (
  iter (X:=jZ) (β:=sS) (List.length a1+(List.length a0+(Int.natAbs ((List.length a0:Int))+(Int.natAbs (0:Int)+2)))) (a1,a0,(List.length a0:Int),0,()) (nJ)) fun _=>
 some ((-1),())
abbrev lB:Type:=(List aa)×Int×Int×Int×Int×Unit
abbrev xG:Type:=((Bool×Unit) ⊕ Unit)
def n8 (x1:lB) (again:lB->Option xG):Option xG:=
 bif decide (x1.2.2.2.2.1<x1.2.2.2.1) then
  Option.bind (idx x1.1 x1.2.2.1) fun y2=>
  bif y2.2.1==[] then
   some (Sum.inl (false,()))
  else
   Option.bind (idx x1.1 x1.2.2.1) fun y3=>
   Option.bind (lC x1.1 y3.2.1) fun r4=>
   bif r4.1==x1.2.1 then
    some (Sum.inl (true,()))
   else
    again (x1.1,x1.2.1,r4.1,x1.2.2.2.1,w64 (x1.2.2.2.2.1+1),())
 else
  some (Sum.inr ())
def yE (a0:List aa) (a1:Int):Option (Bool×Unit):=
 aP (β:=(Bool×Unit)) (γ:=Unit) (
  iter (X:=lB) (β:=xG) (List.length a0+(Int.natAbs a1+(Int.natAbs a1+(Int.natAbs ((List.length a0:Int))+(Int.natAbs (0:Int)+2))))) (a0,a1,a1,(List.length a0:Int),0,()) (n8)) fun _=>
 some (false,())
abbrev vG:Type:=(List aa)×Int×(List Int)×Unit
abbrev DW:Type:=(((List Int)×Bool×Unit) ⊕ ((List Int)×Unit))
def DV (x1:vG) (again:vG->Option DW):Option DW:=
 Option.bind (idx x1.1 x1.2.1) fun y2=>
 bif !(y2.2.1==[]) then
  Option.bind (idx x1.1 x1.2.1) fun y3=>
  Option.bind (lC x1.1 y3.2.1) fun r4=>
  bif decide (((x1.2.2.1.length:Int))>((x1.1.length:Int))) then
   some (Sum.inl ([],false,()))
  else
   chk (decide (((x1.2.2.1.length)+1)*8<=140737488355328)&&decide ((x1.2.2.1.length)+1<=maxLen)) <|
   again (x1.1,r4.1,x1.2.2.1++[r4.1],())
 else
  some (Sum.inr (x1.2.2.1,()))
def ID (a0:List aa) (a1:Int):Option ((List Int)×Bool×Unit):=
 aP (β:=((List Int)×Bool×Unit)) (γ:=((List Int)×Unit)) (
  iter (X:=vG) (β:=DW) (List.length a0+(Int.natAbs a1+(List.length ([a1]:List Int)+2))) (a0,a1,[a1],()) (DV)) fun v5=>
 some (v5.1,true,())
abbrev sP:Type:=(List aa)×(List aa)×Int×Int×Unit
abbrev xH:Type:=((Int×Unit) ⊕ ((List aa)×Unit))
def sN (x1:sP) (again:sP->Option xH):Option xH:=
 bif decide (x1.2.2.2.1<x1.2.2.1) then
  Option.bind (idx x1.2.1 x1.2.2.2.1) fun y2=>
  bif !(y2.2.1==[]) then
   Option.bind (lC x1.1 y2.2.1) fun r3=>
   bif decide (r3.1<0) then
    some (Sum.inl (9,()))
   else
    again (x1.1,x1.2.1,x1.2.2.1,w64 (x1.2.2.2.1+1),())
  else
   again (x1.1,x1.2.1,x1.2.2.1,w64 (x1.2.2.2.1+1),())
 else
  some (Sum.inr (x1.1,()))
abbrev sQ:Type:=(List aa)×Int×Int×Unit
abbrev xI:Type:=((Int×Unit) ⊕ ((List aa)×Unit))
def sO (x1:sQ) (again:sQ->Option xI):Option xI:=
 bif decide (x1.2.2.1<x1.2.1) then
  Option.bind (yE x1.1 x1.2.2.1) fun r2=>
  bif r2.1 then
   some (Sum.inl (17,()))
  else
   again (x1.1,x1.2.1,w64 (x1.2.2.1+1),())
 else
  some (Sum.inr (x1.1,()))
abbrev qF:Type:=(List aa)×Int×Int×Unit
abbrev vW:Type:=((Int×Unit) ⊕ Unit)
def qE (x1:qF) (again:qF->Option vW):Option vW:=
 bif decide (x1.2.2.1<x1.2.1) then
  Option.bind (ID x1.1 x1.2.2.1) fun r2=>
  bif !r2.2.1 then
   some (Sum.inl (2,()))
  else
   bif decide ((w64 (((r2.1.length:Int)) - 1))>5) then
    some (Sum.inl (2,()))
   else
    again (x1.1,x1.2.1,w64 (x1.2.2.1+1),())
 else
  some (Sum.inr ())
def yF (a0:List aa):Option (Int×Unit):=
 aP (β:=(Int×Unit)) (γ:=((List aa)×Unit)) (
  iter (X:=sP) (β:=xH) (List.length a0+(List.length a0+(Int.natAbs ((List.length a0:Int))+(Int.natAbs (0:Int)+2)))) (a0,a0,(List.length a0:Int),0,()) (sN)) fun v4=>
 aP (β:=(Int×Unit)) (γ:=((List aa)×Unit)) (
  iter (X:=sQ) (β:=xI) (v4.1.length+(Int.natAbs ((v4.1.length:Int))+(Int.natAbs (0:Int)+2))) (v4.1,(v4.1.length:Int),0,()) (sO)) fun v7=>
 aP (β:=(Int×Unit)) (γ:=Unit) (
  iter (X:=qF) (β:=vW) (v7.1.length+(Int.natAbs ((v7.1.length:Int))+(Int.natAbs (0:Int)+2))) (v7.1,(v7.1.length:Int),0,()) (qE)) fun _=>
 some (0,())
abbrev jW:Type:=(List aa)×Int×Int×(List UInt8)×(List UInt8)×Int×(List aa)×Unit
abbrev n7:Type:=((Int×Unit) ⊕ ((List UInt8)×(List UInt8)×Int×(List aa)×Unit))
def jV (x1:jW) (again:jW->Option n7):Option n7:=
 bif decide (x1.2.2.1<x1.2.1) then
  Option.bind (idx x1.1 x1.2.2.1) fun y2=>
  Option.bind (uR y2.1) fun r3=>
  bif !r3.1 then
   some (Sum.inl (3,()))
  else
   bif decide (x1.2.2.1>0) then
    Option.bind (idx x1.2.2.2.2.2.2.1 (w64 (x1.2.2.1 - 1))) fun y4=>
    bif Op.bytesLess y2.1 y4.1||y2.1==y4.1 then
     some (Sum.inl (8,()))
    else
     Option.bind (iH y2.2.2.1 false) fun r5=>
     bif !r5.1 then
      some (Sum.inl (1,()))
     else
      Option.bind (ig y2.2.2.2) fun r6=>
      bif r6.1 != 0 then
       some (Sum.inl (r6.1,()))
      else
       again (x1.1,x1.2.1,w64 (x1.2.2.1+1),x1.2.2.2.1,x1.2.2.2.2.1,x1.2.2.2.2.2.1,x1.2.2.2.2.2.2.1,())
   else
    Option.bind (iH y2.2.2.1 false) fun r7=>
    bif !r7.1 then
     some (Sum.inl (1,()))
    else
     Option.bind (ig y2.2.2.2) fun r8=>
     bif r8.1 != 0 then
      some (Sum.inl (r8.1,()))
     else
      again (x1.1,x1.2.1,w64 (x1.2.2.1+1),x1.2.2.2.1,x1.2.2.2.2.1,x1.2.2.2.2.2.1,x1.2.2.2.2.2.2.1,())
 else
  some (Sum.inr (x1.2.2.2.1,x1.2.2.2.2.1,x1.2.2.2.2.2.1,x1.2.2.2.2.2.2.1,()))
def nH (a0:ai):Option (Int×Unit):=
 Option.bind (lP a0.1) fun r1=>
 bif !r1.1 then
  some (5,())
 else
  Option.bind (lP a0.2.1) fun r2=>
  bif !r2.1 then
   some (5,())
  else
   Option.bind (BS a0.2.2.1) fun r3=>
   bif !r3.1 then
    some (1,())
   else
    bif decide (((a0.2.2.2.length:Int))>500) then
     some (2,())
    else
     aP (β:=(Int×Unit)) (γ:=((List UInt8)×(List UInt8)×Int×(List aa)×Unit)) (
      iter (X:=jW) (β:=n7) (a0.2.2.2.length+(Int.natAbs ((a0.2.2.2.length:Int))+(Int.natAbs (0:Int)+(a0.1.length+(a0.2.1.length+(a0.2.2.1.natAbs+(a0.2.2.2.length+2))))))) (a0.2.2.2,(a0.2.2.2.length:Int),0,a0.1,a0.2.1,a0.2.2.1,a0.2.2.2,()) (jV)) fun v12=>
     Option.bind (yF v12.2.2.2.1) fun r13=>
     some (r13.1,())
abbrev um:Type:=Int×Int×Int×Unit
abbrev uk:Type:=((Int×Bool×Unit) ⊕ (Int×Unit))
def Kn (x1:um) (again:um->Option uk):Option uk:=
 bif decide (x1.2.2.1<x1.2.1) then
  again (w64 (x1.1*10),x1.2.1,w64 (x1.2.2.1+1),())
 else
  some (Sum.inr (x1.1,()))
def FJ (a0:List UInt8):Option (Int×Bool×Unit):=
 bif decide (((List.length a0:Int))>15) then
  some (0,false,())
 else
  Option.bind (gG a0) fun r1=>
  bif !r1.1 then
   some (0,false,())
  else
   aP (β:=(Int×Bool×Unit)) (γ:=(Int×Unit)) (
    iter (X:=um) (β:=uk) (Int.natAbs (1:Int)+(Int.natAbs (w64 (17 - ((List.length a0:Int))))+(Int.natAbs (0:Int)+2))) (1,w64 (17 - ((List.length a0:Int))),0,()) (Kn)) fun v3=>
   some (v3.1,true,())
abbrev l7:Type:=Int×(List UInt8)×Int×Unit
abbrev l6:Type:=(((List UInt8)×Int×Unit) ⊕ Unit)
def AT (x1:l7) (again:l7->Option l6):Option l6:=
 bif decide (x1.2.2.1<10) then
  Option.bind (strconv_Itoa x1.2.2.1) fun r2=>
  chk (decide (x1.2.1.length+r2.1.length<=maxLen)) <|
  Option.bind (nx x1.1 (x1.2.1++r2.1)) fun r3=>
  bif r3.1 then
   some (Sum.inl (x1.2.1++r2.1,0,()))
  else
   again (x1.1,x1.2.1,w64 (x1.2.2.1+1),())
 else
  some (Sum.inr ())
def w9 (a0:Int) (a1:List UInt8):Option ((List UInt8)×Int×Unit):=
 Option.bind (qw a0) fun r1=>
 bif !r1.1 then
  some ([],4,())
 else
  bif decide (((List.length a1:Int))>34) then
   some ([],3,())
  else
   bif a0==4 then
    bif decide (((List.length a1:Int))<2) then
     some ([],3,())
    else
     Option.bind (B6 a1) fun r2=>
     bif !r2.1 then
      some ([],3,())
     else
      bif decide (((List.length a1:Int))<13) then
       some ([],3,())
      else
       chk (decide (0<=(0:Int))&&decide ((0:Int)<=2)&&decide (2<=(List.length a1:Int))) <|
       chk (decide (List.length (List.drop 0 (List.take (Int.toNat 2) a1))+List.length [48,48]<=maxLen)) <|
       chk (decide (0<=(2:Int))&&decide ((2:Int)<=((List.length a1:Int)))&&decide (((List.length a1:Int))<=(List.length a1:Int))) <|
       chk (decide (List.length ((List.drop 0 (List.take (Int.toNat 2) a1))++[48,48])+List.length (List.drop 2 (List.take (Int.toNat ((List.length a1:Int))) a1))<=maxLen)) <|
       Option.bind (wj (((List.drop 0 (List.take (Int.toNat 2) a1))++[48,48])++(List.drop 2 (List.take (Int.toNat ((List.length a1:Int))) a1)))) fun r3=>
       chk (decide (0<=(0:Int))&&decide ((0:Int)<=2)&&decide (2<=(List.length a1:Int))) <|
       Option.bind (B7 (w64 (98 - r3.1)) 2) fun r4=>
       chk (decide (List.length (List.drop 0 (List.take (Int.toNat 2) a1))+r4.1.length<=maxLen)) <|
       chk (decide (0<=(2:Int))&&decide ((2:Int)<=((List.length a1:Int)))&&decide (((List.length a1:Int))<=(List.length a1:Int))) <|
       chk (decide (List.length ((List.drop 0 (List.take (Int.toNat 2) a1))++r4.1)+List.length (List.drop 2 (List.take (Int.toNat ((List.length a1:Int))) a1))<=maxLen)) <|
       Option.bind (vS (((List.drop 0 (List.take (Int.toNat 2) a1))++r4.1)++(List.drop 2 (List.take (Int.toNat ((List.length a1:Int))) a1)))) fun r5=>
       bif !r5.1 then
        some ([],3,())
       else
        some (((List.drop 0 (List.take (Int.toNat 2) a1))++r4.1)++(List.drop 2 (List.take (Int.toNat ((List.length a1:Int))) a1)),0,())
   else
    aP (β:=((List UInt8)×Int×Unit)) (γ:=Unit) (
     iter (X:=l7) (β:=l6) (Int.natAbs a0+(List.length a1+(Int.natAbs (0:Int)+2))) (a0,a1,0,()) (AT)) fun _=>
    some ([],3,())
def An (a0:List UInt8) (a1:Int):Option ((List UInt8)×Int×Unit):=
 Option.bind (FJ a0) fun r1=>
 bif !r1.2.1 then
  some ([],3,())
 else
  Option.bind (iI a1 0 (w64 (r1.1 - 1))) fun r2=>
  bif r2.1 then
   some ([],1,())
  else
   Option.bind (strconv_Itoa a1) fun r3=>
   let n4:Int:=w64 ((w64 (17 - ((List.length a0:Int)))) - ((r3.1.length:Int)))
   Option.bind (strings_Repeat [48] n4) fun r5=>
   chk (decide (List.length a0+r5.1.length<=maxLen)) <|
   chk (decide (List.length (a0++r5.1)+r3.1.length<=maxLen)) <|
   Option.bind (w9 3 ((a0++r5.1)++r3.1)) fun r6=>
   some (r6.1,r6.2.1,())
def DD:Option (Bool×Unit):=
 Option.bind (An [51,52,48,49,50,51,52,53] 1) fun r1=>
 bif r1.2.1==0 then
  some (r1.1==[51,52,48,49,50,51,52,53,48,48,48,48,48,48,48,48,49,55],())
 else
  some (false,())
end Go.Md
namespace Go.Md
open Go.Dn
end Go.Md
namespace Go.Md
open Go.Dn
end Go.Md
