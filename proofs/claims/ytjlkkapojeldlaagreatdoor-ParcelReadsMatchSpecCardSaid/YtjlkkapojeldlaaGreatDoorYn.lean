/-
  The plain models of the functions that the law reaches, second part. No condition.
-/
import Derived.Test.YtjlkkapojeldlaaGreatDoorYm
import Derived.Lib.Bytealg
import Derived.Lib.Repeat
import Derived.Lib.ItoaNum
namespace Go.Md
open Go.Dn
def strings_Compare (a b:List UInt8):Option (Int×Unit):=some (Lib.compareBytes a b,())
abbrev td:Type:=Int×Int×Int×Unit
abbrev tc:Type:=((Int×Unit) ⊕ (Int×Unit))
def IL (x1:td) (again:td->Option tc):Option tc:=
 bif decide (x1.2.2.1<x1.2.1) then
  again (w64 (x1.1*10),x1.2.1,w64 (x1.2.2.1+1),())
 else
  some (Sum.inr (x1.1,()))
def yx (a0:Int):Option (Int×Unit):=
 aT (β:=(Int×Unit)) (γ:=(Int×Unit)) (
  iter (X:=td) (β:=tc) (Int.natAbs (1:Int)+(Int.natAbs a0+(Int.natAbs (0:Int)+2))) (1,a0,0,()) (IL)) fun v2=>
 some (v2.1,())
def rL (a0:ah) (a1:Int) (a2:Int):Option (Bool×Unit):=
 bif decide (a0.2<=a1) then
  bif decide (a0.1>=0) then
   Option.bind (yx a0.2) fun r1=>
   some (decide (a0.1<=(w64 (a2*r1.1))),())
  else
   some (false,())
 else
  some (false,())
abbrev gL:Type:=Int×Int×Int×(List Int)×Int×Int×(List Int)×Int×Int×Bool×(List Int)×Bool×(List Int)×Bool×(List Int)×(List Int)×Unit
abbrev n6:Type:=(((bY×Unit) ⊕ (Bool×(List Int)×Bool×(List Int)×Bool×(List Int)×(List Int)×Unit)) ⊕ (Int×Int×(List Int)×Int×Int×Bool×(List Int)×Bool×(List Int)×Bool×(List Int)×(List Int)×Unit))
def jS (x1:gL) (again:gL->Option n6):Option n6:=
 bif decide (x1.2.2.2.2.2.2.2.2.1<x1.2.2.2.2.2.2.2.1) then
  Option.bind (idx x1.2.2.2.2.2.2.1 x1.2.2.2.2.2.2.2.2.1) fun y2=>
  chk (decide (0<=(w64 (x1.1+x1.2.2.2.2.2.2.2.2.1)))&&decide ((w64 (x1.1+x1.2.2.2.2.2.2.2.2.1))<(x1.2.2.2.2.2.2.2.2.2.2.2.2.2.2.2.1.length:Int))) <|
  Option.bind (x1.2.2.2.2.2.2.2.2.2.2.2.2.2.2.2.1[(w64 (x1.1+x1.2.2.2.2.2.2.2.2.1)).toNat]?) fun y3=>
  let n4:Int:=bG ((bG y3)+(bG ((bG x1.2.1)*(bG y2))))
  chk (decide (0<=(w64 (x1.1+x1.2.2.2.2.2.2.2.2.1)))&&decide ((w64 (x1.1+x1.2.2.2.2.2.2.2.2.1))<(x1.2.2.2.2.2.2.2.2.2.2.2.2.2.2.2.1.length:Int))) <|
  Option.bind (x1.2.2.2.2.2.2.2.2.2.2.2.2.2.2.2.1[(w64 (x1.1+x1.2.2.2.2.2.2.2.2.1)).toNat]?) fun _=>
  again (x1.1,x1.2.1,Int.fdiv (bG (x1.2.2.1+n4)) (2 ^ 32),x1.2.2.2.1,x1.2.2.2.2.1,x1.2.2.2.2.2.1,x1.2.2.2.2.2.2.1,x1.2.2.2.2.2.2.2.1,w64 (x1.2.2.2.2.2.2.2.2.1+1),x1.2.2.2.2.2.2.2.2.2.1,x1.2.2.2.2.2.2.2.2.2.2.1,x1.2.2.2.2.2.2.2.2.2.2.2.1,x1.2.2.2.2.2.2.2.2.2.2.2.2.1,x1.2.2.2.2.2.2.2.2.2.2.2.2.2.1,x1.2.2.2.2.2.2.2.2.2.2.2.2.2.2.1,List.set x1.2.2.2.2.2.2.2.2.2.2.2.2.2.2.2.1 (w64 (x1.1+x1.2.2.2.2.2.2.2.2.1)).toNat (oa (bG (x1.2.2.1+n4))),())
 else
  some (Sum.inr (x1.1,x1.2.2.1,x1.2.2.2.1,x1.2.2.2.2.1,x1.2.2.2.2.2.1,x1.2.2.2.2.2.2.2.2.2.1,x1.2.2.2.2.2.2.2.2.2.2.1,x1.2.2.2.2.2.2.2.2.2.2.2.1,x1.2.2.2.2.2.2.2.2.2.2.2.2.1,x1.2.2.2.2.2.2.2.2.2.2.2.2.2.1,x1.2.2.2.2.2.2.2.2.2.2.2.2.2.2.1,x1.2.2.2.2.2.2.2.2.2.2.2.2.2.2.2.1,()))
abbrev gK:Type:=(List Int)×Int×Int×Bool×(List Int)×Bool×(List Int)×Bool×(List Int)×(List Int)×Unit
abbrev nZ:Type:=((bY×Unit) ⊕ (Bool×(List Int)×Bool×(List Int)×Bool×(List Int)×(List Int)×Unit))
def jR (x1:gK) (again:gK->Option nZ):Option nZ:=
 bif decide (x1.2.2.1<x1.2.1) then
  Option.bind (idx x1.1 x1.2.2.1) fun y2=>
  aT (β:=((bY×Unit) ⊕ (Bool×(List Int)×Bool×(List Int)×Bool×(List Int)×(List Int)×Unit))) (γ:=(Int×Int×(List Int)×Int×Int×Bool×(List Int)×Bool×(List Int)×Bool×(List Int)×(List Int)×Unit)) (
   iter (X:=gL) (β:=n6) (x1.2.2.1.natAbs+(Int.natAbs y2+(Int.natAbs (0:Int)+(x1.1.length+(x1.2.1.natAbs+(x1.2.2.1.natAbs+(x1.2.2.2.2.2.2.1.length+(Int.natAbs ((x1.2.2.2.2.2.2.1.length:Int))+(Int.natAbs (0:Int)+(x1.2.2.2.2.1.length+(x1.2.2.2.2.2.2.1.length+(x1.2.2.2.2.2.2.2.2.1.length+(x1.2.2.2.2.2.2.2.2.2.1.length+2))))))))))))) (x1.2.2.1,y2,0,x1.1,x1.2.1,x1.2.2.1,x1.2.2.2.2.2.2.1,(x1.2.2.2.2.2.2.1.length:Int),0,x1.2.2.2.1,x1.2.2.2.2.1,x1.2.2.2.2.2.1,x1.2.2.2.2.2.2.1,x1.2.2.2.2.2.2.2.1,x1.2.2.2.2.2.2.2.2.1,x1.2.2.2.2.2.2.2.2.2.1,()) (jS)) fun v3=>
  chk (decide (0<=(w64 (v3.1+((v3.2.2.2.2.2.2.2.2.1.length:Int)))))&&decide ((w64 (v3.1+((v3.2.2.2.2.2.2.2.2.1.length:Int))))<(v3.2.2.2.2.2.2.2.2.2.2.2.1.length:Int))) <|
  Option.bind (v3.2.2.2.2.2.2.2.2.2.2.2.1[(w64 (v3.1+((v3.2.2.2.2.2.2.2.2.1.length:Int)))).toNat]?) fun _=>
  again (v3.2.2.1,v3.2.2.2.1,w64 (v3.2.2.2.2.1+1),v3.2.2.2.2.2.1,v3.2.2.2.2.2.2.1,v3.2.2.2.2.2.2.2.1,v3.2.2.2.2.2.2.2.2.1,v3.2.2.2.2.2.2.2.2.2.1,v3.2.2.2.2.2.2.2.2.2.2.1,List.set v3.2.2.2.2.2.2.2.2.2.2.2.1 (w64 (v3.1+((v3.2.2.2.2.2.2.2.2.1.length:Int)))).toNat (oa v3.2.1),())
 else
  some (Sum.inr (x1.2.2.2.1,x1.2.2.2.2.1,x1.2.2.2.2.2.1,x1.2.2.2.2.2.2.1,x1.2.2.2.2.2.2.2.1,x1.2.2.2.2.2.2.2.2.1,x1.2.2.2.2.2.2.2.2.2.1,()))
def jQ (a0:bY) (a1:bY):Option (bY×Unit):=
 chk (decide (0<=(w64 (((a0.2.length:Int))+((a1.2.length:Int)))))&&decide ((w64 (((a0.2.length:Int))+((a1.2.length:Int))))<=(w64 (((a0.2.length:Int))+((a1.2.length:Int)))))&&decide ((4:Int)*(w64 (((a0.2.length:Int))+((a1.2.length:Int))))<=281474976710656)&&decide ((w64 (((a0.2.length:Int))+((a1.2.length:Int))))<=9223372036854775807)) <|
 aT (β:=(bY×Unit)) (γ:=(Bool×(List Int)×Bool×(List Int)×Bool×(List Int)×(List Int)×Unit)) (
  iter (X:=gK) (β:=nZ) (a0.2.length+(Int.natAbs ((a0.2.length:Int))+(Int.natAbs (0:Int)+(a0.2.length+(a1.2.length+(List.length ([]:List Int)+(List.length ((List.replicate (Int.toNat (w64 (((a0.2.length:Int))+((a1.2.length:Int))))) 0):List Int)+2))))))) (a0.2,(a0.2.length:Int),0,a0.1,a0.2,a1.1,a1.2,false,[],List.replicate (Int.toNat (w64 (((a0.2.length:Int))+((a1.2.length:Int))))) 0,()) (jR)) fun v10=>
 Option.bind (gz (!(v10.1==v10.2.2.1)) v10.2.2.2.2.2.2.1) fun r11=>
 some (r11.1,())
abbrev tP:Type:=(List Int)×(List Int)×Int×(List Int)×Int×Int×Unit
abbrev tO:Type:=(((List Int)×Unit) ⊕ ((List Int)×Int×Unit))
def I8 (x1:tP) (again:tP->Option tO):Option tO:=
 bif decide (x1.2.2.2.2.2.1<x1.2.2.2.2.1) then
  Option.bind (idx x1.2.2.2.1 x1.2.2.2.2.2.1) fun y2=>
  aT (β:=(((List Int)×Unit) ⊕ ((List Int)×Int×Unit))) (γ:=((List Int)×(List Int)×Int×(List Int)×Int×Int×Unit)) (
   bif decide (x1.2.2.2.2.2.1<((x1.1.length:Int))) then
    Option.bind (idx x1.1 x1.2.2.2.2.2.1) fun y3=>
    let n4:Int:=bG ((bG (x1.2.2.1+(bG y2)))+(bG y3))
    some (Sum.inr (x1.1,x1.2.1,n4,x1.2.2.2.1,x1.2.2.2.2.1,x1.2.2.2.2.2.1,()))
   else
    some (Sum.inr (x1.1,x1.2.1,bG (x1.2.2.1+(bG y2)),x1.2.2.2.1,x1.2.2.2.2.1,x1.2.2.2.2.2.1,()))) fun v5=>
  chk (decide (((v5.2.1.length)+1)*4<=140737488355328)&&decide ((v5.2.1.length)+1<=maxLen)) <|
  again (v5.1,v5.2.1++[(oa v5.2.2.1)],Int.fdiv v5.2.2.1 (2 ^ 32),v5.2.2.2.1,v5.2.2.2.2.1,w64 (v5.2.2.2.2.2.1+1),())
 else
  some (Sum.inr (x1.2.1,x1.2.2.1,()))
def yJ (a0:List Int) (a1:List Int):Option ((List Int)×Unit):=
 aT (β:=((List Int)×Unit)) (γ:=((List Int)×(List Int)×Unit)) (
  bif decide (((List.length a0:Int))<((List.length a1:Int))) then
   some (Sum.inr (a1,a0,()))
  else
   some (Sum.inr (a0,a1,()))) fun v1=>
 chk (decide (0<=(0:Int))&&decide ((0:Int)<=(w64 (((v1.1.length:Int))+1)))&&decide ((4:Int)*(w64 (((v1.1.length:Int))+1))<=281474976710656)&&decide ((w64 (((v1.1.length:Int))+1))<=9223372036854775807)) <|
 aT (β:=((List Int)×Unit)) (γ:=((List Int)×Int×Unit)) (
  iter (X:=tP) (β:=tO) (v1.2.1.length+(List.length ([]:List Int)+(Int.natAbs (0:Int)+(v1.1.length+(Int.natAbs ((v1.1.length:Int))+(Int.natAbs (0:Int)+2)))))) (v1.2.1,[],0,v1.1,(v1.1.length:Int),0,()) (I8)) fun v7=>
 chk (decide (((v7.1.length)+1)*4<=140737488355328)&&decide ((v7.1.length)+1<=maxLen)) <|
 some (v7.1++[(oa v7.2.1)],())
def k9 (a0:bY) (a1:bY):Option (bY×Unit):=
 bif a0.1==a1.1 then
  Option.bind (yJ a0.2 a1.2) fun r1=>
  Option.bind (gz a0.1 r1.1) fun r2=>
  some (r2.1,())
 else
  Option.bind (qo a0.2 a1.2) fun r3=>
  bif decide (r3.1>=0) then
   Option.bind (sE a0.2 a1.2) fun r4=>
   Option.bind (gz a0.1 r4.1) fun r5=>
   some (r5.1,())
  else
   Option.bind (sE a1.2 a0.2) fun r6=>
   Option.bind (gz a1.1 r6.1) fun r7=>
   some (r7.1,())
end Go.Md
namespace Go.Md
open Go.Dn
def QT (n:Nat):List UInt8:=if n<10 then [UInt8.ofNat (48+n)] else [UInt8.ofNat (48+n / 10),UInt8.ofNat (48+n % 10)]
def strconv_Itoa (n:Int):Option (List UInt8×Unit):=bif decide (0<=n)&&decide (n<100) then some (QT n.toNat,()) else bif decide (-9223372036854775808<=n)&&decide (n<=9223372036854775807) then some (Lib.itoa n,()) else none
def strings_Repeat (s:List UInt8) (n:Int):Option (List UInt8×Unit):=bif decide (0<=n)&&(decide (n<=9223372036854775807)&&decide (s.length*n.toNat<=140737488355328)) then some (Lib.repeatL s n.toNat,()) else none
def vq (_a:List UInt8):Option (Int×Unit):=none
def u9 (_a:List UInt8):Option (Bool×Unit):=none
def A8 (_a:List UInt8):Option (Bool×Unit):=none
def BL (_a:List UInt8):Option (Bool×Unit):=none
def A9 (_a _b:Int):Option (List UInt8×Unit):=none
def wV (_a:List UInt8) (_b:Bool):Option (Bool×Unit):=none
def C0 (_a:List UInt8) (_b:Int):Option (Int×Unit):=none
def EA (_a:List UInt8):Option (Int×Unit):=none
def JG (_a:List UInt8):Option (List UInt8×Unit):=none
abbrev bL:Ty:=(.st (.pair .str (.pair .str (.pair .str cD))))
abbrev aJ:Type:=(List UInt8)×(List UInt8)×(List UInt8)×ah
abbrev aK:Ty:=(.st (.pair .str (.pair .str (.pair cD (.slice bL)))))
abbrev aa:Type:=(List UInt8)×(List UInt8)×ah×(List aJ)
abbrev eM:Ty:=(.st (.pair .str (.pair .str (.pair tI (.slice aK)))))
abbrev ai:Type:=(List UInt8)×(List UInt8)×Int×(List aa)
abbrev Ee:Type:=Int×(List UInt8)×(List UInt8)×ah×ah×Int×ah×ah×ah×ah
def pT (a0:Int):Option (Bool×Unit):=
 Option.bind (iw a0 1 5) fun r1=>
 some (!r1.1,())
def sO (a0:Int):Option ((List Int)×Unit):=
 bif a0==1 then
  some ([8,12,13,14],())
 else
  bif a0==2 then
   some ([13],())
  else
   some ([18],())
abbrev gj:Type:=(List Int)×Int×Int×Int×Unit
abbrev mR:Type:=((Int×Unit) ⊕ Unit)
def jb (x1:gj) (again:gj->Option mR):Option mR:=
 bif decide (x1.2.2.2.1<x1.2.2.1) then
  Option.bind (idx x1.1 x1.2.2.2.1) fun y2=>
  bif x1.2.1==y2 then
   some (Sum.inl (x1.2.2.2.1,()))
  else
   again (x1.1,x1.2.1,x1.2.2.1,w64 (x1.2.2.2.1+1),())
 else
  some (Sum.inr ())
def qF (a0:List Int) (a1:Int):Option (Int×Unit):=
 aT (β:=(Int×Unit)) (γ:=Unit) (
  iter (X:=gj) (β:=mR) (List.length a0+(Int.natAbs a1+(Int.natAbs ((List.length a0:Int))+(Int.natAbs (0:Int)+2)))) (a0,a1,(List.length a0:Int),0,()) (jb)) fun _=>
 some ((-1),())
def gh (a0:List Int) (a1:Int):Option (Bool×Unit):=
 Option.bind (qF a0 a1) fun r1=>
 some (decide (r1.1>=0),())
abbrev kO:Type:=(List UInt8)×Int×Int×Int×Int×Unit
abbrev s5:Type:=((Bool×Unit) ⊕ Unit)
def oy (x1:kO) (again:kO->Option s5):Option s5:=
 bif decide (x1.2.2.2.2.1<x1.2.2.2.1) then
  Option.bind (dI x1.1 x1.2.2.2.2.1) fun c2=>
  bif decide ((c2.toNat:Int)<x1.2.1) then
   some (Sum.inl (false,()))
  else
   Option.bind (dI x1.1 x1.2.2.2.2.1) fun c3=>
   bif decide ((c3.toNat:Int)>x1.2.2.1) then
    some (Sum.inl (false,()))
   else
    again (x1.1,x1.2.1,x1.2.2.1,x1.2.2.2.1,w64 (x1.2.2.2.2.1+1),())
 else
  some (Sum.inr ())
def yt (a0:List UInt8) (a1:Int) (a2:Int):Option (Bool×Unit):=
 aT (β:=(Bool×Unit)) (γ:=Unit) (
  iter (X:=kO) (β:=s5) (List.length a0+(Int.natAbs a1+(Int.natAbs a2+(Int.natAbs ((List.length a0:Int))+(Int.natAbs (0:Int)+2))))) (a0,a1,a2,(List.length a0:Int),0,()) (oy)) fun _=>
 some (true,())
def gC (a0:List UInt8):Option (Bool×Unit):=
 bif !(a0==[]) then
  Option.bind (yt a0 48 57) fun r1=>
  some (r1.1,())
 else
  some (false,())
abbrev rm:Type:=(List UInt8)×Int×Int×Int×Unit
abbrev rj:Type:=((Bool×Unit) ⊕ (Int×Unit))
def FU (x1:rm) (again:rm->Option rj):Option rj:=
 bif decide (x1.2.2.2.1<x1.2.2.1) then
  let n2:Int:=w64 ((w64 (((x1.1.length:Int)) - 1)) - x1.2.2.2.1)
  Option.bind (dI x1.1 n2) fun c3=>
  bif (Int.tmod x1.2.2.2.1 2)==1 then
   let n4:Int:=w64 ((w64 (wu8 ((c3.toNat:Int) - 48)))*3)
   again (x1.1,w64 (x1.2.1+n4),x1.2.2.1,w64 (x1.2.2.2.1+1),())
  else
   let n5:Int:=w64 (x1.2.1+(w64 (wu8 ((c3.toNat:Int) - 48))))
   again (x1.1,n5,x1.2.2.1,w64 (x1.2.2.2.1+1),())
 else
  some (Sum.inr (x1.2.1,()))
def wu (a0:List UInt8):Option (Bool×Unit):=
 aT (β:=(Bool×Unit)) (γ:=(Int×Unit)) (
  iter (X:=rm) (β:=rj) (List.length a0+(Int.natAbs (0:Int)+(Int.natAbs ((List.length a0:Int))+(Int.natAbs (0:Int)+2)))) (a0,0,(List.length a0:Int),0,()) (FU)) fun v6=>
 some ((Int.tmod v6.1 10)==0,())
def mT (a0:Int) (a1:List UInt8):Option (Bool×Unit):=
 bif a0==4 then
  Option.bind (u9 a1) fun r1=>
  some (r1.1,())
 else
  bif a0==5 then
   Option.bind (BL a1) fun r2=>
   some (r2.1,())
  else
   Option.bind (sO a0) fun r3=>
   Option.bind (gh r3.1 ((List.length a1:Int))) fun r4=>
   bif r4.1 then
    Option.bind (gC a1) fun r5=>
    bif r5.1 then
     Option.bind (wu a1) fun r6=>
     some (r6.1,())
    else
     some (false,())
   else
    some (false,())
def ri (a0:Int) (a1:List UInt8):Option (Bool×Int×Unit):=
 Option.bind (pT a0) fun r1=>
 bif !r1.1 then
  some (false,4,())
 else
  Option.bind (mT a0 a1) fun r2=>
  some (r2.1,0,())
def oD (a0:List UInt8):Option (Bool×Unit):=
 Option.bind (ri 3 a0) fun r1=>
 some (r1.1,())
def cF (a0:ah) (a1:Bool):Option (Int×Unit):=
 Option.bind (fZ a0) fun r1=>
 bif r1.1 != 0 then
  some (r1.1,())
 else
  Option.bind (rL a0 3 1000000000) fun r2=>
  bif !r2.1 then
   some (1,())
  else
   bif a0.1==0 then
    bif !a1 then
     some (1,())
    else
     some (0,())
   else
    some (0,())
abbrev pY:Type:=Int×(List Int)×Int×Int×Unit
abbrev ve:Type:=((Int×Unit) ⊕ (Int×Unit))
def pX (x1:pY) (again:pY->Option ve):Option ve:=
 bif decide (x1.2.2.2.1<x1.2.2.1) then
  Option.bind (idx x1.2.1 x1.2.2.2.1) fun y2=>
  bif y2 != x1.1 then
   some (Sum.inl (y2,()))
  else
   again (x1.1,x1.2.1,x1.2.2.1,w64 (x1.2.2.2.1+1),())
 else
  some (Sum.inr (x1.1,()))
def vI (a0:List Int):Option (Int×Unit):=
 aT (β:=(Int×Unit)) (γ:=(Int×Unit)) (
  iter (X:=pY) (β:=ve) (Int.natAbs (0:Int)+(List.length a0+(Int.natAbs ((List.length a0:Int))+(Int.natAbs (0:Int)+2)))) (0,a0,(List.length a0:Int),0,()) (pX)) fun v3=>
 some (v3.1,())
def eE (a0:aJ) (a1:aJ):Option (Int×Unit):=
 Option.bind (strings_Compare a0.1 a1.1) fun r1=>
 Option.bind (strings_Compare a0.2.1 a1.2.1) fun r2=>
 Option.bind (strings_Compare a0.2.2.1 a1.2.2.1) fun r3=>
 Option.bind (vI [r1.1,r2.1,r3.1]) fun r4=>
 some (r4.1,())
abbrev fW:Type:=(List aJ)×(List aJ)×Int×Int×Unit
abbrev jf:Type:=((Int×Unit) ⊕ Unit)
def fV (x1:fW) (again:fW->Option jf):Option jf:=
 bif decide (x1.2.2.2.1<x1.2.2.1) then
  Option.bind (idx x1.2.1 x1.2.2.2.1) fun y2=>
  Option.bind (fI y2.1) fun r3=>
  bif !r3.1 then
   some (Sum.inl (5,()))
  else
   Option.bind (fI y2.2.1) fun r4=>
   bif !r4.1 then
    some (Sum.inl (5,()))
   else
    bif !(y2.2.2.1==[]) then
     Option.bind (fI y2.2.2.1) fun r5=>
     bif !r5.1 then
      some (Sum.inl (5,()))
     else
      bif decide (x1.2.2.2.1>0) then
       Option.bind (idx x1.1 (w64 (x1.2.2.2.1 - 1))) fun y6=>
       Option.bind (eE y6 y2) fun r7=>
       bif decide (r7.1>=0) then
        some (Sum.inl (8,()))
       else
        Option.bind (cF y2.2.2.2 false) fun r8=>
        bif r8.1 != 0 then
         some (Sum.inl (r8.1,()))
        else
         again (x1.1,x1.2.1,x1.2.2.1,w64 (x1.2.2.2.1+1),())
      else
       Option.bind (cF y2.2.2.2 false) fun r9=>
       bif r9.1 != 0 then
        some (Sum.inl (r9.1,()))
       else
        again (x1.1,x1.2.1,x1.2.2.1,w64 (x1.2.2.2.1+1),())
    else
     bif decide (x1.2.2.2.1>0) then
      Option.bind (idx x1.1 (w64 (x1.2.2.2.1 - 1))) fun y10=>
      Option.bind (eE y10 y2) fun r11=>
      bif decide (r11.1>=0) then
       some (Sum.inl (8,()))
      else
       Option.bind (cF y2.2.2.2 false) fun r12=>
       bif r12.1 != 0 then
        some (Sum.inl (r12.1,()))
       else
        again (x1.1,x1.2.1,x1.2.2.1,w64 (x1.2.2.2.1+1),())
     else
      Option.bind (cF y2.2.2.2 false) fun r13=>
      bif r13.1 != 0 then
       some (Sum.inl (r13.1,()))
      else
       again (x1.1,x1.2.1,x1.2.2.1,w64 (x1.2.2.2.1+1),())
 else
  some (Sum.inr ())
def fN (a0:List aJ):Option (Int×Unit):=
 bif decide (((List.length a0:Int))>100) then
  some (2,())
 else
  aT (β:=(Int×Unit)) (γ:=Unit) (
   iter (X:=fW) (β:=jf) (List.length a0+(List.length a0+(Int.natAbs ((List.length a0:Int))+(Int.natAbs (0:Int)+2)))) (a0,a0,(List.length a0:Int),0,()) (fV)) fun _=>
  some (0,())
def jE (a0:List aa) (a1:Int):Option (Int×Unit):=
 Option.bind (idx a0 a1) fun y1=>
 Option.bind (oD y1.1) fun r2=>
 bif !r2.1 then
  some (3,())
 else
  bif decide (a1>0) then
   Option.bind (idx a0 (w64 (a1 - 1))) fun y3=>
   bif Op.bytesLess y1.1 y3.1||y1.1==y3.1 then
    some (8,())
   else
    Option.bind (cF y1.2.2.1 true) fun r4=>
    bif r4.1 != 0 then
     some (r4.1,())
    else
     Option.bind (fN y1.2.2.2) fun r5=>
     some (r5.1,())
  else
   Option.bind (cF y1.2.2.1 true) fun r6=>
   bif r6.1 != 0 then
    some (r6.1,())
   else
    Option.bind (fN y1.2.2.2) fun r7=>
    some (r7.1,())
def oQ (a0:aa) (a1:List UInt8):Option (Int×Unit):=
 Option.bind (strings_Compare a0.1 a1) fun r1=>
 some (r1.1,())
abbrev bF:Type:=(List aa)×(List UInt8)×Unit×Int×Int×Int×Unit
abbrev cT:Type:=((Int×Bool×Unit) ⊕ ((List aa)×(List UInt8)×Unit×Int×Int×Unit))
def cS (x1:bF) (again:bF->Option cT):Option cT:=
 bif decide (x1.2.2.2.2.1<x1.2.2.2.2.2.1) then
  let n2:Int:=w64 (Int.fdiv (bG (w64 (x1.2.2.2.2.1+x1.2.2.2.2.2.1))) (2 ^ 1))
  Option.bind (idx x1.1 n2) fun y3=>
  Option.bind (oQ y3 x1.2.1) fun r4=>
  bif decide (r4.1<0) then
   again (x1.1,x1.2.1,x1.2.2.1,x1.2.2.2.1,w64 (n2+1),x1.2.2.2.2.2.1,())
  else
   again (x1.1,x1.2.1,x1.2.2.1,x1.2.2.2.1,x1.2.2.2.2.1,n2,())
 else
  some (Sum.inr (x1.1,x1.2.1,x1.2.2.1,x1.2.2.2.1,x1.2.2.2.2.1,()))
def cw (a0:List aa) (a1:List UInt8) (a2:Unit):Option (Int×Bool×Unit):=
 aT (β:=(Int×Bool×Unit)) (γ:=((List aa)×(List UInt8)×Unit×Int×Int×Unit)) (
  iter (X:=bF) (β:=cT) (List.length a0+(List.length a1+(Int.natAbs ((List.length a0:Int))+(Int.natAbs (0:Int)+(Int.natAbs ((List.length a0:Int))+2))))) (a0,a1,a2,(List.length a0:Int),0,(List.length a0:Int),()) (cS)) fun v5=>
 bif decide (v5.2.2.2.2.1<v5.2.2.2.1) then
  Option.bind (idx v5.1 v5.2.2.2.2.1) fun y6=>
  Option.bind (oQ y6 v5.2.1) fun r7=>
  some (v5.2.2.2.2.1,r7.1==0,())
 else
  some (v5.2.2.2.2.1,false,())
def jD (a0:ai) (a1:List UInt8):Option (Int×Bool×Unit):=
 Option.bind (cw a0.2.2.2 a1 ()) fun r1=>
 some (r1.1,r1.2.1,())
abbrev gp:Type:=Int×(List Int)×Int×(List UInt8)×(List UInt8)×Int×(List aa)×Unit
abbrev fe:Type:=(((List Int)×Bool×Unit) ⊕ ((List Int)×Unit))
def lW (x1:gp) (again:gp->Option fe):Option fe:=
 Option.bind (idx x1.2.2.2.2.2.2.1 x1.2.2.1) fun y2=>
 bif !(y2.2.1==[]) then
  Option.bind (idx x1.2.2.2.2.2.2.1 x1.2.2.1) fun y3=>
  Option.bind (jD (x1.2.2.2.1,x1.2.2.2.2.1,x1.2.2.2.2.2.1,x1.2.2.2.2.2.2.1) y3.2.1) fun r4=>
  bif r4.1==x1.1 then
   some (Sum.inl ([],false,()))
  else
   Option.bind (gh x1.2.1 r4.1) fun r5=>
   bif r5.1 then
    some (Sum.inl (x1.2.1,true,()))
   else
    chk (decide (((x1.2.1.length)+1)*8<=140737488355328)&&decide ((x1.2.1.length)+1<=maxLen)) <|
    again (x1.1,x1.2.1++[r4.1],r4.1,x1.2.2.2.1,x1.2.2.2.2.1,x1.2.2.2.2.2.1,x1.2.2.2.2.2.2.1,())
 else
  some (Sum.inr (x1.2.1,()))
def mq (a0:ai) (a1:Int):Option ((List Int)×Bool×Unit):=
 aT (β:=((List Int)×Bool×Unit)) (γ:=((List Int)×Unit)) (
  iter (X:=gp) (β:=fe) (Int.natAbs a1+(List.length ([]:List Int)+(Int.natAbs a1+(a0.1.length+(a0.2.1.length+(a0.2.2.1.natAbs+(a0.2.2.2.length+2))))))) (a1,[],a1,a0.1,a0.2.1,a0.2.2.1,a0.2.2.2,()) (lW)) fun v6=>
 some (v6.1,true,())
abbrev iW:Type:=(List aa)×Int×Int×(List UInt8)×(List UInt8)×Int×(List aa)×Unit
abbrev mO:Type:=((Int×Unit) ⊕ ((List UInt8)×(List UInt8)×Int×(List aa)×Unit))
def iU (x1:iW) (again:iW->Option mO):Option mO:=
 bif decide (x1.2.2.1<x1.2.1) then
  Option.bind (idx x1.1 x1.2.2.1) fun y2=>
  Option.bind (jD (x1.2.2.2.1,x1.2.2.2.2.1,x1.2.2.2.2.2.1,x1.2.2.2.2.2.2.1) y2.2.1) fun r3=>
  bif !(y2.2.1==[]) then
   bif !r3.2.1 then
    some (Sum.inl (9,()))
   else
    again (x1.1,x1.2.1,w64 (x1.2.2.1+1),x1.2.2.2.1,x1.2.2.2.2.1,x1.2.2.2.2.2.1,x1.2.2.2.2.2.2.1,())
  else
   again (x1.1,x1.2.1,w64 (x1.2.2.1+1),x1.2.2.2.1,x1.2.2.2.2.1,x1.2.2.2.2.2.1,x1.2.2.2.2.2.2.1,())
 else
  some (Sum.inr (x1.2.2.2.1,x1.2.2.2.2.1,x1.2.2.2.2.2.1,x1.2.2.2.2.2.2.1,()))
abbrev iX:Type:=Int×Int×(List UInt8)×(List UInt8)×Int×(List aa)×Unit
abbrev mP:Type:=((Int×Unit) ⊕ ((List UInt8)×(List UInt8)×Int×(List aa)×Unit))
def iV (x1:iX) (again:iX->Option mP):Option mP:=
 bif decide (x1.2.1<x1.1) then
  Option.bind (mq (x1.2.2.1,x1.2.2.2.1,x1.2.2.2.2.1,x1.2.2.2.2.2.1) x1.2.1) fun r2=>
  bif !r2.2.1 then
   some (Sum.inl (17,()))
  else
   again (x1.1,w64 (x1.2.1+1),x1.2.2.1,x1.2.2.2.1,x1.2.2.2.2.1,x1.2.2.2.2.2.1,())
 else
  some (Sum.inr (x1.2.2.1,x1.2.2.2.1,x1.2.2.2.2.1,x1.2.2.2.2.2.1,()))
abbrev ia:Type:=Int×Int×(List UInt8)×(List UInt8)×Int×(List aa)×Unit
abbrev lY:Type:=((Int×Unit) ⊕ Unit)
def hY (x1:ia) (again:ia->Option lY):Option lY:=
 bif decide (x1.2.1<x1.1) then
  Option.bind (mq (x1.2.2.1,x1.2.2.2.1,x1.2.2.2.2.1,x1.2.2.2.2.2.1) x1.2.1) fun r2=>
  bif decide (((r2.1.length:Int))>5) then
   some (Sum.inl (2,()))
  else
   again (x1.1,w64 (x1.2.1+1),x1.2.2.1,x1.2.2.2.1,x1.2.2.2.2.1,x1.2.2.2.2.2.1,())
 else
  some (Sum.inr ())
def lX (a0:ai):Option (Int×Unit):=
 aT (β:=(Int×Unit)) (γ:=((List UInt8)×(List UInt8)×Int×(List aa)×Unit)) (
  iter (X:=iW) (β:=mO) (a0.2.2.2.length+(Int.natAbs ((a0.2.2.2.length:Int))+(Int.natAbs (0:Int)+(a0.1.length+(a0.2.1.length+(a0.2.2.1.natAbs+(a0.2.2.2.length+2))))))) (a0.2.2.2,(a0.2.2.2.length:Int),0,a0.1,a0.2.1,a0.2.2.1,a0.2.2.2,()) (iU)) fun v4=>
 aT (β:=(Int×Unit)) (γ:=((List UInt8)×(List UInt8)×Int×(List aa)×Unit)) (
  iter (X:=iX) (β:=mP) (Int.natAbs ((v4.2.2.2.1.length:Int))+(Int.natAbs (0:Int)+(v4.1.length+(v4.2.1.length+(v4.2.2.1.natAbs+(v4.2.2.2.1.length+2)))))) ((v4.2.2.2.1.length:Int),0,v4.1,v4.2.1,v4.2.2.1,v4.2.2.2.1,()) (iV)) fun v7=>
 aT (β:=(Int×Unit)) (γ:=Unit) (
  iter (X:=ia) (β:=lY) (Int.natAbs ((v7.2.2.2.1.length:Int))+(Int.natAbs (0:Int)+(v7.1.length+(v7.2.1.length+(v7.2.2.1.natAbs+(v7.2.2.2.1.length+2)))))) ((v7.2.2.2.1.length:Int),0,v7.1,v7.2.1,v7.2.2.1,v7.2.2.2.1,()) (hY)) fun _=>
 some (0,())
abbrev gO:Type:=Int×Int×(List UInt8)×(List UInt8)×Int×(List aa)×Unit
abbrev kT:Type:=((Int×Unit) ⊕ ((List UInt8)×(List UInt8)×Int×(List aa)×Unit))
def gN (x1:gO) (again:gO->Option kT):Option kT:=
 bif decide (x1.2.1<x1.1) then
  Option.bind (jE x1.2.2.2.2.2.1 x1.2.1) fun r2=>
  bif r2.1 != 0 then
   some (Sum.inl (r2.1,()))
  else
   again (x1.1,w64 (x1.2.1+1),x1.2.2.1,x1.2.2.2.1,x1.2.2.2.2.1,x1.2.2.2.2.2.1,())
 else
  some (Sum.inr (x1.2.2.1,x1.2.2.2.1,x1.2.2.2.2.1,x1.2.2.2.2.2.1,()))
def dQ (a0:ai):Option (Int×Unit):=
 Option.bind (fI a0.1) fun r1=>
 bif !r1.1 then
  some (5,())
 else
  Option.bind (fI a0.2.1) fun r2=>
  bif !r2.1 then
   some (5,())
  else
   Option.bind (xO a0.2.2.1) fun r3=>
   bif !r3.1 then
    some (1,())
   else
    bif decide (((a0.2.2.2.length:Int))>500) then
     some (2,())
    else
     aT (β:=(Int×Unit)) (γ:=((List UInt8)×(List UInt8)×Int×(List aa)×Unit)) (
      iter (X:=gO) (β:=kT) (Int.natAbs ((a0.2.2.2.length:Int))+(Int.natAbs (0:Int)+(a0.1.length+(a0.2.1.length+(a0.2.2.1.natAbs+(a0.2.2.2.length+2)))))) ((a0.2.2.2.length:Int),0,a0.1,a0.2.1,a0.2.2.1,a0.2.2.2,()) (gN)) fun v6=>
     Option.bind (lX (v6.1,v6.2.1,v6.2.2.1,v6.2.2.2.1)) fun r7=>
     some (r7.1,())
def CY (a0:Int):Option (Bool×Unit):=
 Option.bind (lE a0 1 5) fun r1=>
 some (r1.1,())
abbrev kW:Type:=(List UInt8)×Int×Int×Unit
abbrev tC:Type:=((Bool×Unit) ⊕ Unit)
def oI (x1:kW) (again:kW->Option tC):Option tC:=
 bif decide (x1.2.2.1<x1.2.1) then
  Option.bind (dI x1.1 x1.2.2.1) fun c2=>
  bif decide ((c2.toNat:Int)<48) then
   some (Sum.inl (false,()))
  else
   Option.bind (dI x1.1 x1.2.2.1) fun c3=>
   bif decide ((c3.toNat:Int)>57) then
    some (Sum.inl (false,()))
   else
    again (x1.1,x1.2.1,w64 (x1.2.2.1+1),())
 else
  some (Sum.inr ())
def dw (a0:List UInt8):Option (Bool×Unit):=
 bif a0==[] then
  some (false,())
 else
  aT (β:=(Bool×Unit)) (γ:=Unit) (
   iter (X:=kW) (β:=tC) (List.length a0+(Int.natAbs ((List.length a0:Int))+(Int.natAbs (0:Int)+2))) (a0,(List.length a0:Int),0,()) (oI)) fun _=>
  some (true,())
abbrev nN:Type:=(List UInt8)×Int×Int×Int×Unit
abbrev wY:Type:=((Bool×Unit) ⊕ (Int×Unit))
def sg (x1:nN) (again:nN->Option wY):Option wY:=
 bif decide (x1.2.2.2.1<x1.2.2.1) then
  let n2:Int:=w64 ((w64 (((x1.1.length:Int)) - 1)) - x1.2.2.2.1)
  Option.bind (dI x1.1 n2) fun c3=>
  bif (Int.tmod x1.2.2.2.1 2)==1 then
   let n4:Int:=w64 ((w64 (wu8 ((c3.toNat:Int) - 48)))*3)
   again (x1.1,w64 (x1.2.1+n4),x1.2.2.1,w64 (x1.2.2.2.1+1),())
  else
   let n5:Int:=w64 (x1.2.1+(w64 (wu8 ((c3.toNat:Int) - 48))))
   again (x1.1,n5,x1.2.2.1,w64 (x1.2.2.2.1+1),())
 else
  some (Sum.inr (x1.2.1,()))
def lD (a0:List UInt8):Option (Bool×Unit):=
 aT (β:=(Bool×Unit)) (γ:=(Int×Unit)) (
  iter (X:=nN) (β:=wY) (List.length a0+(Int.natAbs (0:Int)+(Int.natAbs ((List.length a0:Int))+(Int.natAbs (0:Int)+2)))) (a0,0,(List.length a0:Int),0,()) (sg)) fun v6=>
 some ((Int.tmod v6.1 10)==0,())
def yB (a0:Int) (a1:List UInt8):Option (Bool×Unit):=
 bif a0==1 then
  Option.bind (dw a1) fun r1=>
  bif r1.1 then
   bif ((List.length a1:Int))==8 then
    Option.bind (lD a1) fun r2=>
    some (r2.1,())
   else
    bif decide (((List.length a1:Int))>=12) then
     bif decide (((List.length a1:Int))<=14) then
      Option.bind (lD a1) fun r3=>
      some (r3.1,())
     else
      some (false,())
    else
     some (false,())
  else
   some (false,())
 else
  bif a0==2 then
   Option.bind (dw a1) fun r4=>
   bif r4.1 then
    bif ((List.length a1:Int))==13 then
     Option.bind (lD a1) fun r5=>
     some (r5.1,())
    else
     some (false,())
   else
    some (false,())
  else
   bif a0==3 then
    Option.bind (dw a1) fun r6=>
    bif r6.1 then
     bif ((List.length a1:Int))==18 then
      Option.bind (lD a1) fun r7=>
      some (r7.1,())
     else
      some (false,())
    else
     some (false,())
   else
    bif a0==4 then
     Option.bind (lE ((List.length a1:Int)) 15 34) fun r8=>
     bif !r8.1 then
      some (false,())
     else
      chk (decide (0<=(0:Int))&&decide ((0:Int)<=2)&&decide (2<=(List.length a1:Int))) <|
      Option.bind (wV (List.drop 0 (List.take (Int.toNat 2) a1)) false) fun r9=>
      bif !r9.1 then
       some (false,())
      else
       chk (decide (0<=(2:Int))&&decide ((2:Int)<=4)&&decide (4<=(List.length a1:Int))) <|
       Option.bind (dw (List.drop 2 (List.take (Int.toNat 4) a1))) fun r10=>
       bif !r10.1 then
        some (false,())
       else
        chk (decide (0<=(4:Int))&&decide ((4:Int)<=((List.length a1:Int)))&&decide (((List.length a1:Int))<=(List.length a1:Int))) <|
        Option.bind (wV (List.drop 4 (List.take (Int.toNat ((List.length a1:Int))) a1)) true) fun r11=>
        bif !r11.1 then
         some (false,())
        else
         chk (decide (0<=(2:Int))&&decide ((2:Int)<=4)&&decide (4<=(List.length a1:Int))) <|
         bif !(Op.bytesLess (List.drop 2 (List.take (Int.toNat 4) a1)) [48,50]) then
          chk (decide (0<=(2:Int))&&decide ((2:Int)<=4)&&decide (4<=(List.length a1:Int))) <|
          bif Op.bytesLess (List.drop 2 (List.take (Int.toNat 4) a1)) [57,56]||(List.drop 2 (List.take (Int.toNat 4) a1))==[57,56] then
           chk (decide (0<=(4:Int))&&decide ((4:Int)<=((List.length a1:Int)))&&decide (((List.length a1:Int))<=(List.length a1:Int))) <|
           chk (decide (0<=(0:Int))&&decide ((0:Int)<=4)&&decide (4<=(List.length a1:Int))) <|
           chk (decide (List.length (List.drop 4 (List.take (Int.toNat ((List.length a1:Int))) a1))+List.length (List.drop 0 (List.take (Int.toNat 4) a1))<=maxLen)) <|
           Option.bind (JG ((List.drop 4 (List.take (Int.toNat ((List.length a1:Int))) a1))++(List.drop 0 (List.take (Int.toNat 4) a1)))) fun r12=>
           Option.bind (C0 r12.1 97) fun r13=>
           some (r13.1==1,())
          else
           some (false,())
         else
          some (false,())
    else
     Option.bind (dw a1) fun r14=>
     bif r14.1 then
      bif ((List.length a1:Int))==11 then
       Option.bind (dI a1 0) fun c15=>
       bif (c15.toNat:Int) != 48 then
        Option.bind (dI a1 10) fun c16=>
        Option.bind (EA a1) fun r17=>
        some ((c16.toNat:Int)==r17.1,())
       else
        some (false,())
      else
       some (false,())
     else
      some (false,())
def yz (a0:Int) (a1:List UInt8):Option (Bool×Int×Unit):=
 Option.bind (CY a0) fun r1=>
 bif !r1.1 then
  some (false,4,())
 else
  Option.bind (yB a0 a1) fun r2=>
  some (r2.1,0,())
def ud (a0:List UInt8):Option (Bool×Unit):=
 Option.bind (yz 3 a0) fun r1=>
 some (r1.1,())
def DK (a0:ah) (a1:ah):Option (Int×Unit):=
 Option.bind (AS a0 9) fun r1=>
 Option.bind (AS a1 9) fun r2=>
 Option.bind (CW r1.1 r2.1) fun r3=>
 some (r3.1,())
def iq (a0:ah) (a1:Bool):Option (Bool×Unit):=
 Option.bind (jK a0) fun r1=>
 bif r1.1==0 then
  bif decide (a0.1>=0) then
   bif decide (a0.1>0) then
    Option.bind (DK a0 (1000000000,0)) fun r2=>
    bif decide (r2.1<=0) then
     some (decide (a0.2<=3),())
    else
     some (false,())
   else
    bif !a1 then
     Option.bind (DK a0 (1000000000,0)) fun r3=>
     bif decide (r3.1<=0) then
      some (decide (a0.2<=3),())
     else
      some (false,())
    else
     some (false,())
  else
   some (false,())
 else
  some (false,())
abbrev iZ:Type:=(List Int)×Int×Int×Unit
abbrev mQ:Type:=((Int×Unit) ⊕ Unit)
def iY (x1:iZ) (again:iZ->Option mQ):Option mQ:=
 bif decide (x1.2.2.1<x1.2.1) then
  Option.bind (idx x1.1 x1.2.2.1) fun y2=>
  bif y2 != 0 then
   some (Sum.inl (y2,()))
  else
   again (x1.1,x1.2.1,w64 (x1.2.2.1+1),())
 else
  some (Sum.inr ())
def iM (a0:aJ) (a1:aJ):Option (Int×Unit):=
 Option.bind (strings_Compare a0.1 a1.1) fun r1=>
 Option.bind (strings_Compare a0.2.1 a1.2.1) fun r2=>
 Option.bind (strings_Compare a0.2.2.1 a1.2.2.1) fun r3=>
 aT (β:=(Int×Unit)) (γ:=Unit) (
  iter (X:=iZ) (β:=mQ) (List.length [r1.1,r2.1,r3.1]+(Int.natAbs ((List.length [r1.1,r2.1,r3.1]:Int))+(Int.natAbs (0:Int)+2))) ([r1.1,r2.1,r3.1],(List.length [r1.1,r2.1,r3.1]:Int),0,()) (iY)) fun _=>
 some (0,())
abbrev ij:Type:=(List aJ)×(List aJ)×Int×Int×Unit
abbrev lZ:Type:=((Int×Unit) ⊕ Unit)
def ig (x1:ij) (again:ij->Option lZ):Option lZ:=
 bif decide (x1.2.2.2.1<x1.2.2.1) then
  Option.bind (idx x1.2.1 x1.2.2.2.1) fun y2=>
  Option.bind (lC y2.1) fun r3=>
  bif !r3.1 then
   some (Sum.inl (5,()))
  else
   Option.bind (lC y2.2.1) fun r4=>
   bif !r4.1 then
    some (Sum.inl (5,()))
   else
    bif !(y2.2.2.1==[]) then
     Option.bind (lC y2.2.2.1) fun r5=>
     bif !r5.1 then
      some (Sum.inl (5,()))
     else
      bif decide (x1.2.2.2.1>0) then
       Option.bind (idx x1.1 (w64 (x1.2.2.2.1 - 1))) fun y6=>
       Option.bind (iM y6 y2) fun r7=>
       bif decide (r7.1>=0) then
        some (Sum.inl (8,()))
       else
        Option.bind (iq y2.2.2.2 true) fun r8=>
        bif !r8.1 then
         some (Sum.inl (1,()))
        else
         again (x1.1,x1.2.1,x1.2.2.1,w64 (x1.2.2.2.1+1),())
      else
       Option.bind (iq y2.2.2.2 true) fun r9=>
       bif !r9.1 then
        some (Sum.inl (1,()))
       else
        again (x1.1,x1.2.1,x1.2.2.1,w64 (x1.2.2.2.1+1),())
    else
     bif decide (x1.2.2.2.1>0) then
      Option.bind (idx x1.1 (w64 (x1.2.2.2.1 - 1))) fun y10=>
      Option.bind (iM y10 y2) fun r11=>
      bif decide (r11.1>=0) then
       some (Sum.inl (8,()))
      else
       Option.bind (iq y2.2.2.2 true) fun r12=>
       bif !r12.1 then
        some (Sum.inl (1,()))
       else
        again (x1.1,x1.2.1,x1.2.2.1,w64 (x1.2.2.2.1+1),())
     else
      Option.bind (iq y2.2.2.2 true) fun r13=>
      bif !r13.1 then
       some (Sum.inl (1,()))
      else
       again (x1.1,x1.2.1,x1.2.2.1,w64 (x1.2.2.2.1+1),())
 else
  some (Sum.inr ())
def gU (a0:List aJ):Option (Int×Unit):=
 bif decide (((List.length a0:Int))>100) then
  some (2,())
 else
  aT (β:=(Int×Unit)) (γ:=Unit) (
   iter (X:=ij) (β:=lZ) (List.length a0+(List.length a0+(Int.natAbs ((List.length a0:Int))+(Int.natAbs (0:Int)+2)))) (a0,a0,(List.length a0:Int),0,()) (ig)) fun _=>
  some (0,())
abbrev jJ:Type:=(List UInt8)×(List aa)×Int×Int×Unit
abbrev rX:Type:=((Int×Unit) ⊕ Unit)
def mZ (x1:jJ) (again:jJ->Option rX):Option rX:=
 bif decide (x1.2.2.2.1<x1.2.2.1) then
  Option.bind (idx x1.2.1 x1.2.2.2.1) fun y2=>
  bif y2.1==x1.1 then
   some (Sum.inl (x1.2.2.2.1,()))
  else
   again (x1.1,x1.2.1,x1.2.2.1,w64 (x1.2.2.2.1+1),())
 else
  some (Sum.inr ())
def kV (a0:List aa) (a1:List UInt8):Option (Int×Unit):=
 aT (β:=(Int×Unit)) (γ:=Unit) (
  iter (X:=jJ) (β:=rX) (List.length a1+(List.length a0+(Int.natAbs ((List.length a0:Int))+(Int.natAbs (0:Int)+2)))) (a1,a0,(List.length a0:Int),0,()) (mZ)) fun _=>
 some ((-1),())
abbrev kU:Type:=(List aa)×Int×Int×Int×Int×Unit
abbrev wQ:Type:=((Bool×Unit) ⊕ Unit)
def nM (x1:kU) (again:kU->Option wQ):Option wQ:=
 bif decide (x1.2.2.2.2.1<x1.2.2.2.1) then
  Option.bind (idx x1.1 x1.2.2.1) fun y2=>
  bif y2.2.1==[] then
   some (Sum.inl (false,()))
  else
   Option.bind (idx x1.1 x1.2.2.1) fun y3=>
   Option.bind (kV x1.1 y3.2.1) fun r4=>
   bif r4.1==x1.2.1 then
    some (Sum.inl (true,()))
   else
    again (x1.1,x1.2.1,r4.1,x1.2.2.2.1,w64 (x1.2.2.2.2.1+1),())
 else
  some (Sum.inr ())
def xW (a0:List aa) (a1:Int):Option (Bool×Unit):=
 aT (β:=(Bool×Unit)) (γ:=Unit) (
  iter (X:=kU) (β:=wQ) (List.length a0+(Int.natAbs a1+(Int.natAbs a1+(Int.natAbs ((List.length a0:Int))+(Int.natAbs (0:Int)+2))))) (a0,a1,a1,(List.length a0:Int),0,()) (nM)) fun _=>
 some (false,())
abbrev uS:Type:=(List aa)×Int×(List Int)×Unit
abbrev CT:Type:=(((List Int)×Bool×Unit) ⊕ ((List Int)×Unit))
def CS (x1:uS) (again:uS->Option CT):Option CT:=
 Option.bind (idx x1.1 x1.2.1) fun y2=>
 bif !(y2.2.1==[]) then
  Option.bind (idx x1.1 x1.2.1) fun y3=>
  Option.bind (kV x1.1 y3.2.1) fun r4=>
  bif decide (((x1.2.2.1.length:Int))>((x1.1.length:Int))) then
   some (Sum.inl ([],false,()))
  else
   chk (decide (((x1.2.2.1.length)+1)*8<=140737488355328)&&decide ((x1.2.2.1.length)+1<=maxLen)) <|
   again (x1.1,r4.1,x1.2.2.1++[r4.1],())
 else
  some (Sum.inr (x1.2.2.1,()))
def GX (a0:List aa) (a1:Int):Option ((List Int)×Bool×Unit):=
 aT (β:=((List Int)×Bool×Unit)) (γ:=((List Int)×Unit)) (
  iter (X:=uS) (β:=CT) (List.length a0+(Int.natAbs a1+(List.length ([a1]:List Int)+2))) (a0,a1,[a1],()) (CS)) fun v5=>
 some (v5.1,true,())
abbrev rT:Type:=(List aa)×(List aa)×Int×Int×Unit
abbrev wR:Type:=((Int×Unit) ⊕ ((List aa)×Unit))
def rR (x1:rT) (again:rT->Option wR):Option wR:=
 bif decide (x1.2.2.2.1<x1.2.2.1) then
  Option.bind (idx x1.2.1 x1.2.2.2.1) fun y2=>
  bif !(y2.2.1==[]) then
   Option.bind (kV x1.1 y2.2.1) fun r3=>
   bif decide (r3.1<0) then
    some (Sum.inl (9,()))
   else
    again (x1.1,x1.2.1,x1.2.2.1,w64 (x1.2.2.2.1+1),())
  else
   again (x1.1,x1.2.1,x1.2.2.1,w64 (x1.2.2.2.1+1),())
 else
  some (Sum.inr (x1.1,()))
abbrev rU:Type:=(List aa)×Int×Int×Unit
abbrev wS:Type:=((Int×Unit) ⊕ ((List aa)×Unit))
def rS (x1:rU) (again:rU->Option wS):Option wS:=
 bif decide (x1.2.2.1<x1.2.1) then
  Option.bind (xW x1.1 x1.2.2.1) fun r2=>
  bif r2.1 then
   some (Sum.inl (17,()))
  else
   again (x1.1,x1.2.1,w64 (x1.2.2.1+1),())
 else
  some (Sum.inr (x1.1,()))
abbrev qa:Type:=(List aa)×Int×Int×Unit
abbrev vh:Type:=((Int×Unit) ⊕ Unit)
def p9 (x1:qa) (again:qa->Option vh):Option vh:=
 bif decide (x1.2.2.1<x1.2.1) then
  Option.bind (GX x1.1 x1.2.2.1) fun r2=>
  bif !r2.2.1 then
   some (Sum.inl (2,()))
  else
   bif decide ((w64 (((r2.1.length:Int)) - 1))>5) then
    some (Sum.inl (2,()))
   else
    again (x1.1,x1.2.1,w64 (x1.2.2.1+1),())
 else
  some (Sum.inr ())
def xX (a0:List aa):Option (Int×Unit):=
 aT (β:=(Int×Unit)) (γ:=((List aa)×Unit)) (
  iter (X:=rT) (β:=wR) (List.length a0+(List.length a0+(Int.natAbs ((List.length a0:Int))+(Int.natAbs (0:Int)+2)))) (a0,a0,(List.length a0:Int),0,()) (rR)) fun v4=>
 aT (β:=(Int×Unit)) (γ:=((List aa)×Unit)) (
  iter (X:=rU) (β:=wS) (v4.1.length+(Int.natAbs ((v4.1.length:Int))+(Int.natAbs (0:Int)+2))) (v4.1,(v4.1.length:Int),0,()) (rS)) fun v7=>
 aT (β:=(Int×Unit)) (γ:=Unit) (
  iter (X:=qa) (β:=vh) (v7.1.length+(Int.natAbs ((v7.1.length:Int))+(Int.natAbs (0:Int)+2))) (v7.1,(v7.1.length:Int),0,()) (p9)) fun _=>
 some (0,())
abbrev jG:Type:=(List aa)×Int×Int×(List UInt8)×(List UInt8)×Int×(List aa)×Unit
abbrev nL:Type:=((Int×Unit) ⊕ ((List UInt8)×(List UInt8)×Int×(List aa)×Unit))
def jF (x1:jG) (again:jG->Option nL):Option nL:=
 bif decide (x1.2.2.1<x1.2.1) then
  Option.bind (idx x1.1 x1.2.2.1) fun y2=>
  Option.bind (ud y2.1) fun r3=>
  bif !r3.1 then
   some (Sum.inl (3,()))
  else
   bif decide (x1.2.2.1>0) then
    Option.bind (idx x1.2.2.2.2.2.2.1 (w64 (x1.2.2.1 - 1))) fun y4=>
    bif Op.bytesLess y2.1 y4.1||y2.1==y4.1 then
     some (Sum.inl (8,()))
    else
     Option.bind (iq y2.2.2.1 false) fun r5=>
     bif !r5.1 then
      some (Sum.inl (1,()))
     else
      Option.bind (gU y2.2.2.2) fun r6=>
      bif r6.1 != 0 then
       some (Sum.inl (r6.1,()))
      else
       again (x1.1,x1.2.1,w64 (x1.2.2.1+1),x1.2.2.2.1,x1.2.2.2.2.1,x1.2.2.2.2.2.1,x1.2.2.2.2.2.2.1,())
   else
    Option.bind (iq y2.2.2.1 false) fun r7=>
    bif !r7.1 then
     some (Sum.inl (1,()))
    else
     Option.bind (gU y2.2.2.2) fun r8=>
     bif r8.1 != 0 then
      some (Sum.inl (r8.1,()))
     else
      again (x1.1,x1.2.1,w64 (x1.2.2.1+1),x1.2.2.2.1,x1.2.2.2.2.1,x1.2.2.2.2.2.1,x1.2.2.2.2.2.2.1,())
 else
  some (Sum.inr (x1.2.2.2.1,x1.2.2.2.2.1,x1.2.2.2.2.2.1,x1.2.2.2.2.2.2.1,()))
def fO (a0:ai):Option (Int×Unit):=
 Option.bind (lC a0.1) fun r1=>
 bif !r1.1 then
  some (5,())
 else
  Option.bind (lC a0.2.1) fun r2=>
  bif !r2.1 then
   some (5,())
  else
   Option.bind (AT a0.2.2.1) fun r3=>
   bif !r3.1 then
    some (1,())
   else
    bif decide (((a0.2.2.2.length:Int))>500) then
     some (2,())
    else
     aT (β:=(Int×Unit)) (γ:=((List UInt8)×(List UInt8)×Int×(List aa)×Unit)) (
      iter (X:=jG) (β:=nL) (a0.2.2.2.length+(Int.natAbs ((a0.2.2.2.length:Int))+(Int.natAbs (0:Int)+(a0.1.length+(a0.2.1.length+(a0.2.2.1.natAbs+(a0.2.2.2.length+2))))))) (a0.2.2.2,(a0.2.2.2.length:Int),0,a0.1,a0.2.1,a0.2.2.1,a0.2.2.2,()) (jF)) fun v12=>
     Option.bind (xX v12.2.2.2.1) fun r13=>
     some (r13.1,())
abbrev tq:Type:=Int×Int×Int×Unit
abbrev tj:Type:=((Int×Bool×Unit) ⊕ (Int×Unit))
def IT (x1:tq) (again:tq->Option tj):Option tj:=
 bif decide (x1.2.2.1<x1.2.1) then
  again (w64 (x1.1*10),x1.2.1,w64 (x1.2.2.1+1),())
 else
  some (Sum.inr (x1.1,()))
def Ey (a0:List UInt8):Option (Int×Bool×Unit):=
 bif decide (((List.length a0:Int))>15) then
  some (0,false,())
 else
  Option.bind (gC a0) fun r1=>
  bif !r1.1 then
   some (0,false,())
  else
   aT (β:=(Int×Bool×Unit)) (γ:=(Int×Unit)) (
    iter (X:=tq) (β:=tj) (Int.natAbs (1:Int)+(Int.natAbs (w64 (17 - ((List.length a0:Int))))+(Int.natAbs (0:Int)+2))) (1,w64 (17 - ((List.length a0:Int))),0,()) (IT)) fun v3=>
   some (v3.1,true,())
abbrev lO:Type:=Int×(List UInt8)×Int×Unit
abbrev lN:Type:=(((List UInt8)×Int×Unit) ⊕ Unit)
def zY (x1:lO) (again:lO->Option lN):Option lN:=
 bif decide (x1.2.2.1<10) then
  Option.bind (strconv_Itoa x1.2.2.1) fun r2=>
  chk (decide (x1.2.1.length+r2.1.length<=maxLen)) <|
  Option.bind (mT x1.1 (x1.2.1++r2.1)) fun r3=>
  bif r3.1 then
   some (Sum.inl (x1.2.1++r2.1,0,()))
  else
   again (x1.1,x1.2.1,w64 (x1.2.2.1+1),())
 else
  some (Sum.inr ())
def wq (a0:Int) (a1:List UInt8):Option ((List UInt8)×Int×Unit):=
 Option.bind (pT a0) fun r1=>
 bif !r1.1 then
  some ([],4,())
 else
  bif decide (((List.length a1:Int))>34) then
   some ([],3,())
  else
   bif a0==4 then
    bif decide (((List.length a1:Int))<2) then
     some ([],3,())
    else
     Option.bind (A8 a1) fun r2=>
     bif !r2.1 then
      some ([],3,())
     else
      bif decide (((List.length a1:Int))<13) then
       some ([],3,())
      else
       chk (decide (0<=(0:Int))&&decide ((0:Int)<=2)&&decide (2<=(List.length a1:Int))) <|
       chk (decide (List.length (List.drop 0 (List.take (Int.toNat 2) a1))+List.length [48,48]<=maxLen)) <|
       chk (decide (0<=(2:Int))&&decide ((2:Int)<=((List.length a1:Int)))&&decide (((List.length a1:Int))<=(List.length a1:Int))) <|
       chk (decide (List.length ((List.drop 0 (List.take (Int.toNat 2) a1))++[48,48])+List.length (List.drop 2 (List.take (Int.toNat ((List.length a1:Int))) a1))<=maxLen)) <|
       Option.bind (vq (((List.drop 0 (List.take (Int.toNat 2) a1))++[48,48])++(List.drop 2 (List.take (Int.toNat ((List.length a1:Int))) a1)))) fun r3=>
       chk (decide (0<=(0:Int))&&decide ((0:Int)<=2)&&decide (2<=(List.length a1:Int))) <|
       Option.bind (A9 (w64 (98 - r3.1)) 2) fun r4=>
       chk (decide (List.length (List.drop 0 (List.take (Int.toNat 2) a1))+r4.1.length<=maxLen)) <|
       chk (decide (0<=(2:Int))&&decide ((2:Int)<=((List.length a1:Int)))&&decide (((List.length a1:Int))<=(List.length a1:Int))) <|
       chk (decide (List.length ((List.drop 0 (List.take (Int.toNat 2) a1))++r4.1)+List.length (List.drop 2 (List.take (Int.toNat ((List.length a1:Int))) a1))<=maxLen)) <|
       Option.bind (u9 (((List.drop 0 (List.take (Int.toNat 2) a1))++r4.1)++(List.drop 2 (List.take (Int.toNat ((List.length a1:Int))) a1)))) fun r5=>
       bif !r5.1 then
        some ([],3,())
       else
        some (((List.drop 0 (List.take (Int.toNat 2) a1))++r4.1)++(List.drop 2 (List.take (Int.toNat ((List.length a1:Int))) a1)),0,())
   else
    aT (β:=((List UInt8)×Int×Unit)) (γ:=Unit) (
     iter (X:=lO) (β:=lN) (Int.natAbs a0+(List.length a1+(Int.natAbs (0:Int)+2))) (a0,a1,0,()) (zY)) fun _=>
    some ([],3,())
def zy (a0:List UInt8) (a1:Int):Option ((List UInt8)×Int×Unit):=
 Option.bind (Ey a0) fun r1=>
 bif !r1.2.1 then
  some ([],3,())
 else
  Option.bind (iw a1 0 (w64 (r1.1 - 1))) fun r2=>
  bif r2.1 then
   some ([],1,())
  else
   Option.bind (strconv_Itoa a1) fun r3=>
   let n4:Int:=w64 ((w64 (17 - ((List.length a0:Int)))) - ((r3.1.length:Int)))
   Option.bind (strings_Repeat [48] n4) fun r5=>
   chk (decide (List.length a0+r5.1.length<=maxLen)) <|
   chk (decide (List.length (a0++r5.1)+r3.1.length<=maxLen)) <|
   Option.bind (wq 3 ((a0++r5.1)++r3.1)) fun r6=>
   some (r6.1,r6.2.1,())
def Cz:Option (Bool×Unit):=
 Option.bind (zy [51,52,48,49,50,51,52,53] 1) fun r1=>
 bif r1.2.1==0 then
  some (r1.1==[51,52,48,49,50,51,52,53,48,48,48,48,48,48,48,48,49,55],())
 else
  some (false,())
end Go.Md
namespace Go.Md
open Go.Dn
end Go.Md
namespace Go.Md
open Go.Dn
end Go.Md
