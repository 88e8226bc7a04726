/-
  The plain models of the functions that the law reaches, second part. No condition.
-/
import Derived.Test.YtnamfglkolhhgacGreatDoorYm
import Derived.Lib.Bytealg
import Derived.Lib.Repeat
import Derived.Lib.ItoaNum
set_option linter.all false
namespace Go.Md
open Go.Dn
def strings_Compare (a b:List UInt8):Option (Int×Unit):=some (Lib.compareBytes a b,())
abbrev wQ:Type:=(List UInt8)×aj
abbrev qC:Type:=Bool×aj×(List UInt8)
abbrev zR:Type:=Int×Int×(List UInt8)×aj×(List UInt8)×aj×Int×(List qC)×(List UInt8)
abbrev JU:Type:=(List UInt8)×(List UInt8)×Int×Int×Int×Bool×(List wQ)×(List zR)×(List qC)
abbrev uh:Type:=Int×Int×Int×Unit
abbrev ug:Type:=((Int×Unit) ⊕ (Int×Unit))
def IT (x1:uh) (again:uh→Option ug):Option ug:=
 bif decide (x1.2.2.1<x1.2.1) then
  again (w64 (x1.1*10),x1.2.1,w64 (x1.2.2.1+1),())
 else
  some (Sum.inr (x1.1,()))
def zI (a0:Int):Option (Int×Unit):=
 bu (β:=(Int×Unit)) (γ:=(Int×Unit)) (
  iter (X:=uh) (β:=ug) (Int.natAbs (1:Int)+(Int.natAbs a0+(Int.natAbs (0:Int)+2))) (1,a0,0,()) (IT)) fun v2=>
 some (v2.1,())
def sY (a0:aj) (a1:Int) (a2:Int):Option (Bool×Unit):=
 bif decide (a0.2≤a1) then
  bif decide (a0.1≥0) then
   Option.bind (zI a0.2) fun r1=>
   some (decide (a0.1≤(w64 (a2*r1.1))),())
  else
   some (false,())
 else
  some (false,())
abbrev iP:Type:=Int×Int×Int×(List Int)×Int×Int×(List Int)×Int×Int×Bool×(List Int)×Bool×(List Int)×Bool×(List Int)×(List Int)×Unit
abbrev pN:Type:=(((au×Unit) ⊕ (Bool×(List Int)×Bool×(List Int)×Bool×(List Int)×(List Int)×Unit)) ⊕ (Int×Int×(List Int)×Int×Int×Bool×(List Int)×Bool×(List Int)×Bool×(List Int)×(List Int)×Unit))
def lR (x1:iP) (again:iP→Option pN):Option pN:=
 bif decide (x1.2.2.2.2.2.2.2.2.1<x1.2.2.2.2.2.2.2.1) then
  Option.bind (idx x1.2.2.2.2.2.2.1 x1.2.2.2.2.2.2.2.2.1) fun y2=>
  chk (decide (0≤(w64 (x1.1+x1.2.2.2.2.2.2.2.2.1)))&&decide ((w64 (x1.1+x1.2.2.2.2.2.2.2.2.1))<(x1.2.2.2.2.2.2.2.2.2.2.2.2.2.2.2.1.length:Int))) <|
  Option.bind (x1.2.2.2.2.2.2.2.2.2.2.2.2.2.2.2.1[(w64 (x1.1+x1.2.2.2.2.2.2.2.2.1)).toNat]?) fun y3=>
  let n4:Int:=bK ((bK y3)+(bK ((bK x1.2.1)*(bK y2))))
  chk (decide (0≤(w64 (x1.1+x1.2.2.2.2.2.2.2.2.1)))&&decide ((w64 (x1.1+x1.2.2.2.2.2.2.2.2.1))<(x1.2.2.2.2.2.2.2.2.2.2.2.2.2.2.2.1.length:Int))) <|
  Option.bind (x1.2.2.2.2.2.2.2.2.2.2.2.2.2.2.2.1[(w64 (x1.1+x1.2.2.2.2.2.2.2.2.1)).toNat]?) fun _=>
  again (x1.1,x1.2.1,Int.fdiv (bK (x1.2.2.1+n4)) (2 ^ 32),x1.2.2.2.1,x1.2.2.2.2.1,x1.2.2.2.2.2.1,x1.2.2.2.2.2.2.1,x1.2.2.2.2.2.2.2.1,w64 (x1.2.2.2.2.2.2.2.2.1+1),x1.2.2.2.2.2.2.2.2.2.1,x1.2.2.2.2.2.2.2.2.2.2.1,x1.2.2.2.2.2.2.2.2.2.2.2.1,x1.2.2.2.2.2.2.2.2.2.2.2.2.1,x1.2.2.2.2.2.2.2.2.2.2.2.2.2.1,x1.2.2.2.2.2.2.2.2.2.2.2.2.2.2.1,List.set x1.2.2.2.2.2.2.2.2.2.2.2.2.2.2.2.1 (w64 (x1.1+x1.2.2.2.2.2.2.2.2.1)).toNat (jf (bK (x1.2.2.1+n4))),())
 else
  some (Sum.inr (x1.1,x1.2.2.1,x1.2.2.2.1,x1.2.2.2.2.1,x1.2.2.2.2.2.1,x1.2.2.2.2.2.2.2.2.2.1,x1.2.2.2.2.2.2.2.2.2.2.1,x1.2.2.2.2.2.2.2.2.2.2.2.1,x1.2.2.2.2.2.2.2.2.2.2.2.2.1,x1.2.2.2.2.2.2.2.2.2.2.2.2.2.1,x1.2.2.2.2.2.2.2.2.2.2.2.2.2.2.1,x1.2.2.2.2.2.2.2.2.2.2.2.2.2.2.2.1,()))
abbrev iO:Type:=(List Int)×Int×Int×Bool×(List Int)×Bool×(List Int)×Bool×(List Int)×(List Int)×Unit
abbrev pM:Type:=((au×Unit) ⊕ (Bool×(List Int)×Bool×(List Int)×Bool×(List Int)×(List Int)×Unit))
def lQ (x1:iO) (again:iO→Option pM):Option pM:=
 bif decide (x1.2.2.1<x1.2.1) then
  Option.bind (idx x1.1 x1.2.2.1) fun y2=>
  bu (β:=((au×Unit) ⊕ (Bool×(List Int)×Bool×(List Int)×Bool×(List Int)×(List Int)×Unit))) (γ:=(Int×Int×(List Int)×Int×Int×Bool×(List Int)×Bool×(List Int)×Bool×(List Int)×(List Int)×Unit)) (
   iter (X:=iP) (β:=pN) (x1.2.2.1.natAbs+(Int.natAbs y2+(Int.natAbs (0:Int)+(x1.1.length+(x1.2.1.natAbs+(x1.2.2.1.natAbs+(x1.2.2.2.2.2.2.1.length+(Int.natAbs ((x1.2.2.2.2.2.2.1.length:Int))+(Int.natAbs (0:Int)+(x1.2.2.2.2.1.length+(x1.2.2.2.2.2.2.1.length+(x1.2.2.2.2.2.2.2.2.1.length+(x1.2.2.2.2.2.2.2.2.2.1.length+2))))))))))))) (x1.2.2.1,y2,0,x1.1,x1.2.1,x1.2.2.1,x1.2.2.2.2.2.2.1,(x1.2.2.2.2.2.2.1.length:Int),0,x1.2.2.2.1,x1.2.2.2.2.1,x1.2.2.2.2.2.1,x1.2.2.2.2.2.2.1,x1.2.2.2.2.2.2.2.1,x1.2.2.2.2.2.2.2.2.1,x1.2.2.2.2.2.2.2.2.2.1,()) (lR)) fun v3=>
  chk (decide (0≤(w64 (v3.1+((v3.2.2.2.2.2.2.2.2.1.length:Int)))))&&decide ((w64 (v3.1+((v3.2.2.2.2.2.2.2.2.1.length:Int))))<(v3.2.2.2.2.2.2.2.2.2.2.2.1.length:Int))) <|
  Option.bind (v3.2.2.2.2.2.2.2.2.2.2.2.1[(w64 (v3.1+((v3.2.2.2.2.2.2.2.2.1.length:Int)))).toNat]?) fun _=>
  again (v3.2.2.1,v3.2.2.2.1,w64 (v3.2.2.2.2.1+1),v3.2.2.2.2.2.1,v3.2.2.2.2.2.2.1,v3.2.2.2.2.2.2.2.1,v3.2.2.2.2.2.2.2.2.1,v3.2.2.2.2.2.2.2.2.2.1,v3.2.2.2.2.2.2.2.2.2.2.1,List.set v3.2.2.2.2.2.2.2.2.2.2.2.1 (w64 (v3.1+((v3.2.2.2.2.2.2.2.2.1.length:Int)))).toNat (jf v3.2.1),())
 else
  some (Sum.inr (x1.2.2.2.1,x1.2.2.2.2.1,x1.2.2.2.2.2.1,x1.2.2.2.2.2.2.1,x1.2.2.2.2.2.2.2.1,x1.2.2.2.2.2.2.2.2.1,x1.2.2.2.2.2.2.2.2.2.1,()))
def lP (a0:au) (a1:au):Option (au×Unit):=
 chk (decide (0≤(w64 (((a0.2.length:Int))+((a1.2.length:Int)))))&&decide ((w64 (((a0.2.length:Int))+((a1.2.length:Int))))≤(w64 (((a0.2.length:Int))+((a1.2.length:Int)))))&&decide ((4:Int)*(w64 (((a0.2.length:Int))+((a1.2.length:Int))))≤281474976710656)&&decide ((w64 (((a0.2.length:Int))+((a1.2.length:Int))))≤9223372036854775807)) <|
 bu (β:=(au×Unit)) (γ:=(Bool×(List Int)×Bool×(List Int)×Bool×(List Int)×(List Int)×Unit)) (
  iter (X:=iO) (β:=pM) (a0.2.length+(Int.natAbs ((a0.2.length:Int))+(Int.natAbs (0:Int)+(a0.2.length+(a1.2.length+(List.length ([]:List Int)+(List.length ((List.replicate (Int.toNat (w64 (((a0.2.length:Int))+((a1.2.length:Int))))) 0):List Int)+2))))))) (a0.2,(a0.2.length:Int),0,a0.1,a0.2,a1.1,a1.2,false,[],List.replicate (Int.toNat (w64 (((a0.2.length:Int))+((a1.2.length:Int))))) 0,()) (lQ)) fun v10=>
 Option.bind (fO (!(v10.1==v10.2.2.1)) v10.2.2.2.2.2.2.1) fun r11=>
 some (r11.1,())
abbrev mG:Type:=Int×Int×Bool×(List Int)×Bool×(List Int)×Unit
abbrev uJ:Type:=((au×Unit) ⊕ (Bool×(List Int)×Bool×(List Int)×Unit))
def qi (x1:mG) (again:mG→Option uJ):Option uJ:=
 bif decide (x1.2.1<x1.1) then
  Option.bind (nE 10) fun r2=>
  Option.bind (lP (x1.2.2.2.2.1,x1.2.2.2.2.2.1) r2.1) fun r3=>
  again (x1.1,w64 (x1.2.1+1),x1.2.2.1,x1.2.2.2.1,r3.1.1,r3.1.2,())
 else
  some (Sum.inr (x1.2.2.1,x1.2.2.2.1,x1.2.2.2.2.1,x1.2.2.2.2.2.1,()))
def u5 (a0:Int):Option (au×Unit):=
 Option.bind (nE 1) fun r1=>
 bu (β:=(au×Unit)) (γ:=(Bool×(List Int)×Bool×(List Int)×Unit)) (
  iter (X:=mG) (β:=uJ) (Int.natAbs a0+(Int.natAbs (0:Int)+(List.length ([]:List Int)+(r1.1.2.length+2)))) (a0,0,false,[],r1.1.1,r1.1.2,()) (qi)) fun v5=>
 some ((v5.2.2.1,v5.2.2.2.1),())
abbrev uN:Type:=(List Int)×(List Int)×Int×(List Int)×Int×Int×Unit
abbrev uK:Type:=(((List Int)×Unit) ⊕ ((List Int)×Int×Unit))
def Jc (x1:uN) (again:uN→Option uK):Option uK:=
 bif decide (x1.2.2.2.2.2.1<x1.2.2.2.2.1) then
  Option.bind (idx x1.2.2.2.1 x1.2.2.2.2.2.1) fun y2=>
  bu (β:=(((List Int)×Unit) ⊕ ((List Int)×Int×Unit))) (γ:=((List Int)×(List Int)×Int×(List Int)×Int×Int×Unit)) (
   bif decide (x1.2.2.2.2.2.1<((x1.1.length:Int))) then
    Option.bind (idx x1.1 x1.2.2.2.2.2.1) fun y3=>
    let n4:Int:=bK ((bK (x1.2.2.1+(bK y2)))+(bK y3))
    some (Sum.inr (x1.1,x1.2.1,n4,x1.2.2.2.1,x1.2.2.2.2.1,x1.2.2.2.2.2.1,()))
   else
    some (Sum.inr (x1.1,x1.2.1,bK (x1.2.2.1+(bK y2)),x1.2.2.2.1,x1.2.2.2.2.1,x1.2.2.2.2.2.1,()))) fun v5=>
  chk (decide (((v5.2.1.length)+1)*4≤140737488355328)&&decide ((v5.2.1.length)+1≤maxLen)) <|
  again (v5.1,v5.2.1++[(jf v5.2.2.1)],Int.fdiv v5.2.2.1 (2 ^ 32),v5.2.2.2.1,v5.2.2.2.2.1,w64 (v5.2.2.2.2.2.1+1),())
 else
  some (Sum.inr (x1.2.1,x1.2.2.1,()))
def zO (a0:List Int) (a1:List Int):Option ((List Int)×Unit):=
 bu (β:=((List Int)×Unit)) (γ:=((List Int)×(List Int)×Unit)) (
  bif decide (((List.length a0:Int))<((List.length a1:Int))) then
   some (Sum.inr (a1,a0,()))
  else
   some (Sum.inr (a0,a1,()))) fun v1=>
 chk (decide (0≤(0:Int))&&decide ((0:Int)≤(w64 (((v1.1.length:Int))+1)))&&decide ((4:Int)*(w64 (((v1.1.length:Int))+1))≤281474976710656)&&decide ((w64 (((v1.1.length:Int))+1))≤9223372036854775807)) <|
 bu (β:=((List Int)×Unit)) (γ:=((List Int)×Int×Unit)) (
  iter (X:=uN) (β:=uK) (v1.2.1.length+(List.length ([]:List Int)+(Int.natAbs (0:Int)+(v1.1.length+(Int.natAbs ((v1.1.length:Int))+(Int.natAbs (0:Int)+2)))))) (v1.2.1,[],0,v1.1,(v1.1.length:Int),0,()) (Jc)) fun v7=>
 chk (decide (((v7.1.length)+1)*4≤140737488355328)&&decide ((v7.1.length)+1≤maxLen)) <|
 some (v7.1++[(jf v7.2.1)],())
def eW (a0:au) (a1:au):Option (au×Unit):=
 bif a0.1==a1.1 then
  Option.bind (zO a0.2 a1.2) fun r1=>
  Option.bind (fO a0.1 r1.1) fun r2=>
  some (r2.1,())
 else
  Option.bind (nR a0.2 a1.2) fun r3=>
  bif decide (r3.1≥0) then
   Option.bind (qj a0.2 a1.2) fun r4=>
   Option.bind (fO a0.1 r4.1) fun r5=>
   some (r5.1,())
  else
   Option.bind (qj a1.2 a0.2) fun r6=>
   Option.bind (fO a1.1 r6.1) fun r7=>
   some (r7.1,())
def dG (a0:aj) (a1:Int):Option (au×Unit):=
 Option.bind (nE a0.1) fun r1=>
 Option.bind (u5 (w64 (a1 - a0.2))) fun r2=>
 Option.bind (lP r1.1 r2.1) fun r3=>
 some (r3.1,())
end Go.Md
namespace Go.Md
open Go.Dn
def PR (n:Nat):List UInt8:=if n<10 then [UInt8.ofNat (48+n)] else [UInt8.ofNat (48+n / 10),UInt8.ofNat (48+n % 10)]
def strconv_Itoa (n:Int):Option (List UInt8×Unit):=bif decide (0≤n)&&decide (n<100) then some (PR n.toNat,()) else bif decide (-9223372036854775808≤n)&&decide (n≤9223372036854775807) then some (Lib.itoa n,()) else none
def strings_Repeat (s:List UInt8) (n:Int):Option (List UInt8×Unit):=bif decide (0≤n)&&(decide (n≤9223372036854775807)&&decide (s.length*n.toNat≤140737488355328)) then some (Lib.repeatL s n.toNat,()) else none
def wJ (_a:List UInt8):Option (Int×Unit):=none
def wg (_a:List UInt8):Option (Bool×Unit):=none
def BH (_a:List UInt8):Option (Bool×Unit):=none
def Cn (_a:List UInt8):Option (Bool×Unit):=none
def BI (_a _b:Int):Option (List UInt8×Unit):=none
abbrev aS:Ty:=(.st (.pair .str (.pair .str (.pair .str dS))))
abbrev ah:Type:=(List UInt8)×(List UInt8)×(List UInt8)×aj
abbrev bp:Ty:=(.st (.pair .str (.pair .str (.pair dS (.slice aS)))))
abbrev aa:Type:=(List UInt8)×(List UInt8)×aj×(List ah)
abbrev bG:Ty:=(.st (.pair .str (.pair .str (.pair tI (.slice bp)))))
abbrev ak:Type:=(List UInt8)×(List UInt8)×Int×(List aa)
abbrev AJ:Type:=Int×aj×Int
abbrev qD:Type:=Int×(List UInt8)×(List UInt8)×aj×aj×Int×aj×aj×aj×aj
abbrev AI:Type:=(List UInt8)×(List UInt8)×aj
abbrev aF:Ty:=(.st (.pair .str .str))
abbrev bB:Type:=(List UInt8)×(List UInt8)
def qX (a0:Int):Option (Bool×Unit):=
 Option.bind (jM a0 1 5) fun r1=>
 some (!r1.1,())
def tN (a0:Int):Option ((List Int)×Unit):=
 bif a0==1 then
  some ([8,12,13,14],())
 else
  bif a0==2 then
   some ([13],())
  else
   some ([18],())
abbrev iq:Type:=(List Int)×Int×Int×Int×Unit
abbrev om:Type:=((Int×Unit) ⊕ Unit)
def kI (x1:iq) (again:iq→Option om):Option om:=
 bif decide (x1.2.2.2.1<x1.2.2.1) then
  Option.bind (idx x1.1 x1.2.2.2.1) fun y2=>
  bif x1.2.1==y2 then
   some (Sum.inl (x1.2.2.2.1,()))
  else
   again (x1.1,x1.2.1,x1.2.2.1,w64 (x1.2.2.2.1+1),())
 else
  some (Sum.inr ())
def rQ (a0:List Int) (a1:Int):Option (Int×Unit):=
 bu (β:=(Int×Unit)) (γ:=Unit) (
  iter (X:=iq) (β:=om) (List.length a0+(Int.natAbs a1+(Int.natAbs ((List.length a0:Int))+(Int.natAbs (0:Int)+2)))) (a0,a1,(List.length a0:Int),0,()) (kI)) fun _=>
 some ((-1),())
def ij (a0:List Int) (a1:Int):Option (Bool×Unit):=
 Option.bind (rQ a0 a1) fun r1=>
 some (decide (r1.1≥0),())
abbrev mm:Type:=(List UInt8)×Int×Int×Int×Int×Unit
abbrev ud:Type:=((Bool×Unit) ⊕ Unit)
def pX (x1:mm) (again:mm→Option ud):Option ud:=
 bif decide (x1.2.2.2.2.1<x1.2.2.2.1) then
  Option.bind (wD x1.1 x1.2.2.2.2.1) fun c2=>
  bif decide ((c2.toNat:Int)<x1.2.1) then
   some (Sum.inl (false,()))
  else
   Option.bind (wD x1.1 x1.2.2.2.2.1) fun c3=>
   bif decide ((c3.toNat:Int)>x1.2.2.1) then
    some (Sum.inl (false,()))
   else
    again (x1.1,x1.2.1,x1.2.2.1,x1.2.2.2.1,w64 (x1.2.2.2.2.1+1),())
 else
  some (Sum.inr ())
def zD (a0:List UInt8) (a1:Int) (a2:Int):Option (Bool×Unit):=
 bu (β:=(Bool×Unit)) (γ:=Unit) (
  iter (X:=mm) (β:=ud) (List.length a0+(Int.natAbs a1+(Int.natAbs a2+(Int.natAbs ((List.length a0:Int))+(Int.natAbs (0:Int)+2))))) (a0,a1,a2,(List.length a0:Int),0,()) (pX)) fun _=>
 some (true,())
def oV (a0:List UInt8):Option (Bool×Unit):=
 bif !(a0==[]) then
  Option.bind (zD a0 48 57) fun r1=>
  some (r1.1,())
 else
  some (false,())
abbrev sN:Type:=(List UInt8)×Int×Int×Int×Unit
abbrev sM:Type:=((Bool×Unit) ⊕ (Int×Unit))
def Gj (x1:sN) (again:sN→Option sM):Option sM:=
 bif decide (x1.2.2.2.1<x1.2.2.1) then
  let n2:Int:=w64 ((w64 (((x1.1.length:Int)) - 1)) - x1.2.2.2.1)
  Option.bind (wD x1.1 n2) fun c3=>
  bif (Int.tmod x1.2.2.2.1 2)==1 then
   let n4:Int:=w64 ((w64 (wu8 ((c3.toNat:Int) - 48)))*3)
   again (x1.1,w64 (x1.2.1+n4),x1.2.2.1,w64 (x1.2.2.2.1+1),())
  else
   let n5:Int:=w64 (x1.2.1+(w64 (wu8 ((c3.toNat:Int) - 48))))
   again (x1.1,n5,x1.2.2.1,w64 (x1.2.2.2.1+1),())
 else
  some (Sum.inr (x1.2.1,()))
def xE (a0:List UInt8):Option (Bool×Unit):=
 bu (β:=(Bool×Unit)) (γ:=(Int×Unit)) (
  iter (X:=sN) (β:=sM) (List.length a0+(Int.natAbs (0:Int)+(Int.natAbs ((List.length a0:Int))+(Int.natAbs (0:Int)+2)))) (a0,0,(List.length a0:Int),0,()) (Gj)) fun v6=>
 some ((Int.tmod v6.1 10)==0,())
def ov (a0:Int) (a1:List UInt8):Option (Bool×Unit):=
 bif a0==4 then
  Option.bind (wg a1) fun r1=>
  some (r1.1,())
 else
  bif a0==5 then
   Option.bind (Cn a1) fun r2=>
   some (r2.1,())
  else
   Option.bind (tN a0) fun r3=>
   Option.bind (ij r3.1 ((List.length a1:Int))) fun r4=>
   bif r4.1 then
    Option.bind (oV a1) fun r5=>
    bif r5.1 then
     Option.bind (xE a1) fun r6=>
     some (r6.1,())
    else
     some (false,())
   else
    some (false,())
def sL (a0:Int) (a1:List UInt8):Option (Bool×Int×Unit):=
 Option.bind (qX a0) fun r1=>
 bif !r1.1 then
  some (false,4,())
 else
  Option.bind (ov a0 a1) fun r2=>
  some (r2.1,0,())
def qd (a0:List UInt8):Option (Bool×Unit):=
 Option.bind (sL 3 a0) fun r1=>
 some (r1.1,())
def cL (a0:aj) (a1:Bool):Option (Int×Unit):=
 Option.bind (ic a0) fun r1=>
 bif r1.1 != 0 then
  some (r1.1,())
 else
  Option.bind (sY a0 3 1000000000) fun r2=>
  bif !r2.1 then
   some (1,())
  else
   bif a0.1==0 then
    bif !a1 then
     some (1,())
    else
     some (0,())
   else
    some (0,())
abbrev q9:Type:=Int×(List Int)×Int×Int×Unit
abbrev wk:Type:=((Int×Unit) ⊕ (Int×Unit))
def q8 (x1:q9) (again:q9→Option wk):Option wk:=
 bif decide (x1.2.2.2.1<x1.2.2.1) then
  Option.bind (idx x1.2.1 x1.2.2.2.1) fun y2=>
  bif y2 != x1.1 then
   some (Sum.inl (y2,()))
  else
   again (x1.1,x1.2.1,x1.2.2.1,w64 (x1.2.2.2.1+1),())
 else
  some (Sum.inr (x1.1,()))
def wV (a0:List Int):Option (Int×Unit):=
 bu (β:=(Int×Unit)) (γ:=(Int×Unit)) (
  iter (X:=q9) (β:=wk) (Int.natAbs (0:Int)+(List.length a0+(Int.natAbs ((List.length a0:Int))+(Int.natAbs (0:Int)+2)))) (0,a0,(List.length a0:Int),0,()) (q8)) fun v3=>
 some (v3.1,())
def dw (a0:ah) (a1:ah):Option (Int×Unit):=
 Option.bind (strings_Compare a0.1 a1.1) fun r1=>
 Option.bind (strings_Compare a0.2.1 a1.2.1) fun r2=>
 Option.bind (strings_Compare a0.2.2.1 a1.2.2.1) fun r3=>
 Option.bind (wV [r1.1,r2.1,r3.1]) fun r4=>
 some (r4.1,())
abbrev gX:Type:=(List ah)×(List ah)×Int×Int×Unit
abbrev kM:Type:=((Int×Unit) ⊕ Unit)
def gW (x1:gX) (again:gX→Option kM):Option kM:=
 bif decide (x1.2.2.2.1<x1.2.2.1) then
  Option.bind (idx x1.2.1 x1.2.2.2.1) fun y2=>
  Option.bind (fI y2.1) fun r3=>
  bif !r3.1 then
   some (Sum.inl (5,()))
  else
   Option.bind (fI y2.2.1) fun r4=>
   bif !r4.1 then
    some (Sum.inl (5,()))
   else
    bif !(y2.2.2.1==[]) then
     Option.bind (fI y2.2.2.1) fun r5=>
     bif !r5.1 then
      some (Sum.inl (5,()))
     else
      bif decide (x1.2.2.2.1>0) then
       Option.bind (idx x1.1 (w64 (x1.2.2.2.1 - 1))) fun y6=>
       Option.bind (dw y6 y2) fun r7=>
       bif decide (r7.1≥0) then
        some (Sum.inl (8,()))
       else
        Option.bind (cL y2.2.2.2 false) fun r8=>
        bif r8.1 != 0 then
         some (Sum.inl (r8.1,()))
        else
         again (x1.1,x1.2.1,x1.2.2.1,w64 (x1.2.2.2.1+1),())
      else
       Option.bind (cL y2.2.2.2 false) fun r9=>
       bif r9.1 != 0 then
        some (Sum.inl (r9.1,()))
       else
        again (x1.1,x1.2.1,x1.2.2.1,w64 (x1.2.2.2.1+1),())
    else
     bif decide (x1.2.2.2.1>0) then
      Option.bind (idx x1.1 (w64 (x1.2.2.2.1 - 1))) fun y10=>
      Option.bind (dw y10 y2) fun r11=>
      bif decide (r11.1≥0) then
       some (Sum.inl (8,()))
      else
       Option.bind (cL y2.2.2.2 false) fun r12=>
       bif r12.1 != 0 then
        some (Sum.inl (r12.1,()))
       else
        again (x1.1,x1.2.1,x1.2.2.1,w64 (x1.2.2.2.1+1),())
     else
      Option.bind (cL y2.2.2.2 false) fun r13=>
      bif r13.1 != 0 then
       some (Sum.inl (r13.1,()))
      else
       again (x1.1,x1.2.1,x1.2.2.1,w64 (x1.2.2.2.1+1),())
 else
  some (Sum.inr ())
def gB (a0:List ah):Option (Int×Unit):=
 bif decide (((List.length a0:Int))>100) then
  some (2,())
 else
  bu (β:=(Int×Unit)) (γ:=Unit) (
   iter (X:=gX) (β:=kM) (List.length a0+(List.length a0+(Int.natAbs ((List.length a0:Int))+(Int.natAbs (0:Int)+2)))) (a0,a0,(List.length a0:Int),0,()) (gW)) fun _=>
  some (0,())
def lE (a0:List aa) (a1:Int):Option (Int×Unit):=
 Option.bind (idx a0 a1) fun y1=>
 Option.bind (qd y1.1) fun r2=>
 bif !r2.1 then
  some (3,())
 else
  bif decide (a1>0) then
   Option.bind (idx a0 (w64 (a1 - 1))) fun y3=>
   bif Op.bytesLess y1.1 y3.1||y1.1==y3.1 then
    some (8,())
   else
    Option.bind (cL y1.2.2.1 true) fun r4=>
    bif r4.1 != 0 then
     some (r4.1,())
    else
     Option.bind (gB y1.2.2.2) fun r5=>
     some (r5.1,())
  else
   Option.bind (cL y1.2.2.1 true) fun r6=>
   bif r6.1 != 0 then
    some (r6.1,())
   else
    Option.bind (gB y1.2.2.2) fun r7=>
    some (r7.1,())
def qs (a0:aa) (a1:List UInt8):Option (Int×Unit):=
 Option.bind (strings_Compare a0.1 a1) fun r1=>
 some (r1.1,())
abbrev bM:Type:=(List aa)×(List UInt8)×Unit×Int×Int×Int×Unit
abbrev dy:Type:=((Int×Bool×Unit) ⊕ ((List aa)×(List UInt8)×Unit×Int×Int×Unit))
def dx (x1:bM) (again:bM→Option dy):Option dy:=
 bif decide (x1.2.2.2.2.1<x1.2.2.2.2.2.1) then
  let n2:Int:=w64 (Int.fdiv (bK (w64 (x1.2.2.2.2.1+x1.2.2.2.2.2.1))) (2 ^ 1))
  Option.bind (idx x1.1 n2) fun y3=>
  Option.bind (qs y3 x1.2.1) fun r4=>
  bif decide (r4.1<0) then
   again (x1.1,x1.2.1,x1.2.2.1,x1.2.2.2.1,w64 (n2+1),x1.2.2.2.2.2.1,())
  else
   again (x1.1,x1.2.1,x1.2.2.1,x1.2.2.2.1,x1.2.2.2.2.1,n2,())
 else
  some (Sum.inr (x1.1,x1.2.1,x1.2.2.1,x1.2.2.2.1,x1.2.2.2.2.1,()))
def cn (a0:List aa) (a1:List UInt8) (a2:Unit):Option (Int×Bool×Unit):=
 bu (β:=(Int×Bool×Unit)) (γ:=((List aa)×(List UInt8)×Unit×Int×Int×Unit)) (
  iter (X:=bM) (β:=dy) (List.length a0+(List.length a1+(Int.natAbs ((List.length a0:Int))+(Int.natAbs (0:Int)+(Int.natAbs ((List.length a0:Int))+2))))) (a0,a1,a2,(List.length a0:Int),0,(List.length a0:Int),()) (dx)) fun v5=>
 bif decide (v5.2.2.2.2.1<v5.2.2.2.1) then
  Option.bind (idx v5.1 v5.2.2.2.2.1) fun y6=>
  Option.bind (qs y6 v5.2.1) fun r7=>
  some (v5.2.2.2.2.1,r7.1==0,())
 else
  some (v5.2.2.2.2.1,false,())
def b9 (a0:ak) (a1:List UInt8):Option (Int×Bool×Unit):=
 Option.bind (cn a0.2.2.2 a1 ()) fun r1=>
 some (r1.1,r1.2.1,())
abbrev iu:Type:=Int×(List Int)×Int×(List UInt8)×(List UInt8)×Int×(List aa)×Unit
abbrev fS:Type:=(((List Int)×Bool×Unit) ⊕ ((List Int)×Unit))
def nj (x1:iu) (again:iu→Option fS):Option fS:=
 Option.bind (idx x1.2.2.2.2.2.2.1 x1.2.2.1) fun y2=>
 bif !(y2.2.1==[]) then
  Option.bind (idx x1.2.2.2.2.2.2.1 x1.2.2.1) fun y3=>
  Option.bind (b9 (x1.2.2.2.1,x1.2.2.2.2.1,x1.2.2.2.2.2.1,x1.2.2.2.2.2.2.1) y3.2.1) fun r4=>
  bif r4.1==x1.1 then
   some (Sum.inl ([],false,()))
  else
   Option.bind (ij x1.2.1 r4.1) fun r5=>
   bif r5.1 then
    some (Sum.inl (x1.2.1,true,()))
   else
    chk (decide (((x1.2.1.length)+1)*8≤140737488355328)&&decide ((x1.2.1.length)+1≤maxLen)) <|
    again (x1.1,x1.2.1++[r4.1],r4.1,x1.2.2.2.1,x1.2.2.2.2.1,x1.2.2.2.2.2.1,x1.2.2.2.2.2.2.1,())
 else
  some (Sum.inr (x1.2.1,()))
def gO (a0:ak) (a1:Int):Option ((List Int)×Bool×Unit):=
 bu (β:=((List Int)×Bool×Unit)) (γ:=((List Int)×Unit)) (
  iter (X:=iu) (β:=fS) (Int.natAbs a1+(List.length ([]:List Int)+(Int.natAbs a1+(a0.1.length+(a0.2.1.length+(a0.2.2.1.natAbs+(a0.2.2.2.length+2))))))) (a1,[],a1,a0.1,a0.2.1,a0.2.2.1,a0.2.2.2,()) (nj)) fun v6=>
 some (v6.1,true,())
abbrev kF:Type:=(List aa)×Int×Int×(List UInt8)×(List UInt8)×Int×(List aa)×Unit
abbrev oe:Type:=((Int×Unit) ⊕ ((List UInt8)×(List UInt8)×Int×(List aa)×Unit))
def kD (x1:kF) (again:kF→Option oe):Option oe:=
 bif decide (x1.2.2.1<x1.2.1) then
  Option.bind (idx x1.1 x1.2.2.1) fun y2=>
  Option.bind (b9 (x1.2.2.2.1,x1.2.2.2.2.1,x1.2.2.2.2.2.1,x1.2.2.2.2.2.2.1) y2.2.1) fun r3=>
  bif !(y2.2.1==[]) then
   bif !r3.2.1 then
    some (Sum.inl (9,()))
   else
    again (x1.1,x1.2.1,w64 (x1.2.2.1+1),x1.2.2.2.1,x1.2.2.2.2.1,x1.2.2.2.2.2.1,x1.2.2.2.2.2.2.1,())
  else
   again (x1.1,x1.2.1,w64 (x1.2.2.1+1),x1.2.2.2.1,x1.2.2.2.2.1,x1.2.2.2.2.2.1,x1.2.2.2.2.2.2.1,())
 else
  some (Sum.inr (x1.2.2.2.1,x1.2.2.2.2.1,x1.2.2.2.2.2.1,x1.2.2.2.2.2.2.1,()))
abbrev kG:Type:=Int×Int×(List UInt8)×(List UInt8)×Int×(List aa)×Unit
abbrev og:Type:=((Int×Unit) ⊕ ((List UInt8)×(List UInt8)×Int×(List aa)×Unit))
def kE (x1:kG) (again:kG→Option og):Option og:=
 bif decide (x1.2.1<x1.1) then
  Option.bind (gO (x1.2.2.1,x1.2.2.2.1,x1.2.2.2.2.1,x1.2.2.2.2.2.1) x1.2.1) fun r2=>
  bif !r2.2.1 then
   some (Sum.inl (17,()))
  else
   again (x1.1,w64 (x1.2.1+1),x1.2.2.1,x1.2.2.2.1,x1.2.2.2.2.1,x1.2.2.2.2.2.1,())
 else
  some (Sum.inr (x1.2.2.1,x1.2.2.2.1,x1.2.2.2.2.1,x1.2.2.2.2.2.1,()))
abbrev jF:Type:=Int×Int×(List UInt8)×(List UInt8)×Int×(List aa)×Unit
abbrev nq:Type:=((Int×Unit) ⊕ Unit)
def jE (x1:jF) (again:jF→Option nq):Option nq:=
 bif decide (x1.2.1<x1.1) then
  Option.bind (gO (x1.2.2.1,x1.2.2.2.1,x1.2.2.2.2.1,x1.2.2.2.2.2.1) x1.2.1) fun r2=>
  bif decide (((r2.1.length:Int))>5) then
   some (Sum.inl (2,()))
  else
   again (x1.1,w64 (x1.2.1+1),x1.2.2.1,x1.2.2.2.1,x1.2.2.2.2.1,x1.2.2.2.2.2.1,())
 else
  some (Sum.inr ())
def nk (a0:ak):Option (Int×Unit):=
 bu (β:=(Int×Unit)) (γ:=((List UInt8)×(List UInt8)×Int×(List aa)×Unit)) (
  iter (X:=kF) (β:=oe) (a0.2.2.2.length+(Int.natAbs ((a0.2.2.2.length:Int))+(Int.natAbs (0:Int)+(a0.1.length+(a0.2.1.length+(a0.2.2.1.natAbs+(a0.2.2.2.length+2))))))) (a0.2.2.2,(a0.2.2.2.length:Int),0,a0.1,a0.2.1,a0.2.2.1,a0.2.2.2,()) (kD)) fun v4=>
 bu (β:=(Int×Unit)) (γ:=((List UInt8)×(List UInt8)×Int×(List aa)×Unit)) (
  iter (X:=kG) (β:=og) (Int.natAbs ((v4.2.2.2.1.length:Int))+(Int.natAbs (0:Int)+(v4.1.length+(v4.2.1.length+(v4.2.2.1.natAbs+(v4.2.2.2.1.length+2)))))) ((v4.2.2.2.1.length:Int),0,v4.1,v4.2.1,v4.2.2.1,v4.2.2.2.1,()) (kE)) fun v7=>
 bu (β:=(Int×Unit)) (γ:=Unit) (
  iter (X:=jF) (β:=nq) (Int.natAbs ((v7.2.2.2.1.length:Int))+(Int.natAbs (0:Int)+(v7.1.length+(v7.2.1.length+(v7.2.2.1.natAbs+(v7.2.2.2.1.length+2)))))) ((v7.2.2.2.1.length:Int),0,v7.1,v7.2.1,v7.2.2.1,v7.2.2.2.1,()) (jE)) fun _=>
 some (0,())
abbrev iT:Type:=Int×Int×(List UInt8)×(List UInt8)×Int×(List aa)×Unit
abbrev mB:Type:=((Int×Unit) ⊕ ((List UInt8)×(List UInt8)×Int×(List aa)×Unit))
def iS (x1:iT) (again:iT→Option mB):Option mB:=
 bif decide (x1.2.1<x1.1) then
  Option.bind (lE x1.2.2.2.2.2.1 x1.2.1) fun r2=>
  bif r2.1 != 0 then
   some (Sum.inl (r2.1,()))
  else
   again (x1.1,w64 (x1.2.1+1),x1.2.2.1,x1.2.2.2.1,x1.2.2.2.2.1,x1.2.2.2.2.2.1,())
 else
  some (Sum.inr (x1.2.2.1,x1.2.2.2.1,x1.2.2.2.2.1,x1.2.2.2.2.2.1,()))
def b6 (a0:ak):Option (Int×Unit):=
 Option.bind (fI a0.1) fun r1=>
 bif !r1.1 then
  some (5,())
 else
  Option.bind (fI a0.2.1) fun r2=>
  bif !r2.1 then
   some (5,())
  else
   Option.bind (yZ a0.2.2.1) fun r3=>
   bif !r3.1 then
    some (1,())
   else
    bif decide (((a0.2.2.2.length:Int))>500) then
     some (2,())
    else
     bu (β:=(Int×Unit)) (γ:=((List UInt8)×(List UInt8)×Int×(List aa)×Unit)) (
      iter (X:=iT) (β:=mB) (Int.natAbs ((a0.2.2.2.length:Int))+(Int.natAbs (0:Int)+(a0.1.length+(a0.2.1.length+(a0.2.2.1.natAbs+(a0.2.2.2.length+2)))))) ((a0.2.2.2.length:Int),0,a0.1,a0.2.1,a0.2.2.1,a0.2.2.2,()) (iS)) fun v6=>
     Option.bind (nk (v6.1,v6.2.1,v6.2.2.1,v6.2.2.2.1)) fun r7=>
     some (r7.1,())
def cR (a0:ak) (a1:List UInt8) (a2:Bool):Option (Int×Unit):=
 Option.bind (b6 a0) fun r1=>
 bif r1.1 != 0 then
  some (r1.1,())
 else
  Option.bind (b9 a0 a1) fun r2=>
  bif !r2.2.1 then
   bif a2 then
    bif !(a1==[]) then
     some (9,())
    else
     some (0,())
   else
    some (9,())
  else
   some (0,())
def qq (a0:Int) (a1:ak) (a2:List UInt8):Option (Bool×Unit):=
 Option.bind (idx a1.2.2.2 a0) fun y1=>
 some (y1.1==a2,())
abbrev eY:Type:=(List Int)×(ak×(List UInt8))×Int×Int×Unit
abbrev kO:Type:=((Int×Unit) ⊕ Unit)
def gZ (x1:eY) (again:eY→Option kO):Option kO:=
 bif decide (x1.2.2.2.1<x1.2.2.1) then
  Option.bind (idx x1.1 x1.2.2.2.1) fun y2=>
  Option.bind (qq y2 x1.2.1.1 x1.2.1.2) fun r3=>
  bif r3.1 then
   some (Sum.inl (x1.2.2.2.1,()))
  else
   again (x1.1,x1.2.1,x1.2.2.1,w64 (x1.2.2.2.1+1),())
 else
  some (Sum.inr ())
def nr (a0:List Int) (a1:ak×(List UInt8)):Option (Int×Unit):=
 bu (β:=(Int×Unit)) (γ:=Unit) (
  iter (X:=eY) (β:=kO) (List.length a0+(Int.natAbs ((List.length a0:Int))+(Int.natAbs (0:Int)+2))) (a0,a1,(List.length a0:Int),0,()) (gZ)) fun _=>
 some ((-1),())
def kN (a0:List Int) (a1:ak×(List UInt8)):Option (Bool×Unit):=
 Option.bind (nr a0 a1) fun r1=>
 some (decide (r1.1≥0),())
def lD (a0:ak) (a1:Int) (a2:List UInt8):Option (Bool×Unit):=
 Option.bind (gO a0 a1) fun r1=>
 Option.bind (kN r1.1 (a0,a2)) fun r2=>
 some (r2.1,())
abbrev pe:Type:=(List UInt8)×Int×Int×Int×Unit
abbrev yf:Type:=((Bool×Unit) ⊕ (Int×Unit))
def s7 (x1:pe) (again:pe→Option yf):Option yf:=
 bif decide (x1.2.2.2.1<x1.2.2.1) then
  let n2:Int:=w64 ((w64 (((x1.1.length:Int)) - 1)) - x1.2.2.2.1)
  Option.bind (wD x1.1 n2) fun c3=>
  bif (Int.tmod x1.2.2.2.1 2)==1 then
   let n4:Int:=w64 ((w64 (wu8 ((c3.toNat:Int) - 48)))*3)
   again (x1.1,w64 (x1.2.1+n4),x1.2.2.1,w64 (x1.2.2.2.1+1),())
  else
   let n5:Int:=w64 (x1.2.1+(w64 (wu8 ((c3.toNat:Int) - 48))))
   again (x1.1,n5,x1.2.2.1,w64 (x1.2.2.2.1+1),())
 else
  some (Sum.inr (x1.2.1,()))
def DA (a0:List UInt8):Option (Bool×Unit):=
 bu (β:=(Bool×Unit)) (γ:=(Int×Unit)) (
  iter (X:=pe) (β:=yf) (List.length a0+(Int.natAbs (0:Int)+(Int.natAbs ((List.length a0:Int))+(Int.natAbs (0:Int)+2)))) (a0,0,(List.length a0:Int),0,()) (s7)) fun v6=>
 some ((Int.tmod v6.1 10)==0,())
abbrev eL:Type:=Int×Int×(List (List UInt8))×Unit
abbrev jW:Type:=(((List (List UInt8))×Unit) ⊕ ((List (List UInt8))×Unit))
def gE (x1:eL) (again:eL→Option jW):Option jW:=
 bif decide (x1.1<x1.2.1) then
  chk (decide (0≤x1.2.1)&&decide (x1.2.1<(x1.2.2.1.length:Int))) <|
  Option.bind (x1.2.2.1[x1.2.1.toNat]?) fun y2=>
  chk (decide (0≤x1.1)&&decide (x1.1<(x1.2.2.1.length:Int))) <|
  Option.bind (x1.2.2.1[x1.1.toNat]?) fun y3=>
  chk (decide (0≤x1.1)&&decide (x1.1<(x1.2.2.1.length:Int))) <|
  Option.bind (x1.2.2.1[x1.1.toNat]?) fun _=>
  chk (decide (0≤x1.2.1)&&decide (x1.2.1<(List.length (List.set x1.2.2.1 x1.1.toNat y2):Int))) <|
  Option.bind ((List.set x1.2.2.1 x1.1.toNat y2)[x1.2.1.toNat]?) fun _=>
  again (w64 (x1.1+1),w64 (x1.2.1 - 1),List.set (List.set x1.2.2.1 x1.1.toNat y2) x1.2.1.toNat y3,())
 else
  some (Sum.inr (x1.2.2.1,()))
def iV (a0:List (List UInt8)):Option ((List (List UInt8))×Unit):=
 bu (β:=((List (List UInt8))×Unit)) (γ:=((List (List UInt8))×Unit)) (
  iter (X:=eL) (β:=jW) (Int.natAbs (0:Int)+(Int.natAbs (w64 (((List.length a0:Int)) - 1))+(List.length a0+2))) (0,w64 (((List.length a0:Int)) - 1),a0,()) (gE)) fun v6=>
 some (v6.1,())
abbrev mC:Type:=(List (List UInt8))×(List Int)×Int×Int×(List UInt8)×(List UInt8)×Int×(List aa)×Unit
abbrev um:Type:=(((List (List UInt8))×Int×Unit) ⊕ ((List (List UInt8))×Unit))
def qb (x1:mC) (again:mC→Option um):Option um:=
 bif decide (x1.2.2.2.1<x1.2.2.1) then
  Option.bind (idx x1.2.1 x1.2.2.2.1) fun y2=>
  Option.bind (idx x1.2.2.2.2.2.2.2.1 y2) fun y3=>
  chk (decide (((x1.1.length)+1)*16≤140737488355328)&&decide ((x1.1.length)+1≤maxLen)) <|
  again (x1.1++[y3.1],x1.2.1,x1.2.2.1,w64 (x1.2.2.2.1+1),x1.2.2.2.2.1,x1.2.2.2.2.2.1,x1.2.2.2.2.2.2.1,x1.2.2.2.2.2.2.2.1,())
 else
  some (Sum.inr (x1.1,()))
def nZ (a0:ak) (a1:List UInt8):Option ((List (List UInt8))×Int×Unit):=
 Option.bind (cR a0 a1 false) fun r1=>
 bif r1.1 != 0 then
  some ([],r1.1,())
 else
  Option.bind (b9 a0 a1) fun r2=>
  Option.bind (gO a0 r2.1) fun r3=>
  bu (β:=((List (List UInt8))×Int×Unit)) (γ:=((List (List UInt8))×Unit)) (
   iter (X:=mC) (β:=um) (List.length ([a1]:List (List UInt8))+(r3.1.length+(Int.natAbs ((r3.1.length:Int))+(Int.natAbs (0:Int)+(a0.1.length+(a0.2.1.length+(a0.2.2.1.natAbs+(a0.2.2.2.length+2)))))))) ([a1],r3.1,(r3.1.length:Int),0,a0.1,a0.2.1,a0.2.2.1,a0.2.2.2,()) (qb)) fun v7=>
  Option.bind (iV v7.1) fun r8=>
  some (r8.1,0,())
abbrev uq:Type:=Int×Int×Int×Unit
abbrev uo:Type:=((Int×Bool×Unit) ⊕ (Int×Unit))
def IY (x1:uq) (again:uq→Option uo):Option uo:=
 bif decide (x1.2.2.1<x1.2.1) then
  again (w64 (x1.1*10),x1.2.1,w64 (x1.2.2.1+1),())
 else
  some (Sum.inr (x1.1,()))
def E2 (a0:List UInt8):Option (Int×Bool×Unit):=
 bif decide (((List.length a0:Int))>15) then
  some (0,false,())
 else
  Option.bind (oV a0) fun r1=>
  bif !r1.1 then
   some (0,false,())
  else
   bu (β:=(Int×Bool×Unit)) (γ:=(Int×Unit)) (
    iter (X:=uq) (β:=uo) (Int.natAbs (1:Int)+(Int.natAbs (w64 (17 - ((List.length a0:Int))))+(Int.natAbs (0:Int)+2))) (1,w64 (17 - ((List.length a0:Int))),0,()) (IY)) fun v3=>
   some (v3.1,true,())
abbrev mR:Type:=Int×(List UInt8)×Int×Unit
abbrev mQ:Type:=(((List UInt8)×Int×Unit) ⊕ Unit)
def AK (x1:mR) (again:mR→Option mQ):Option mQ:=
 bif decide (x1.2.2.1<10) then
  Option.bind (strconv_Itoa x1.2.2.1) fun r2=>
  chk (decide (x1.2.1.length+r2.1.length≤maxLen)) <|
  Option.bind (ov x1.1 (x1.2.1++r2.1)) fun r3=>
  bif r3.1 then
   some (Sum.inl (x1.2.1++r2.1,0,()))
  else
   again (x1.1,x1.2.1,w64 (x1.2.2.1+1),())
 else
  some (Sum.inr ())
def xD (a0:Int) (a1:List UInt8):Option ((List UInt8)×Int×Unit):=
 Option.bind (qX a0) fun r1=>
 bif !r1.1 then
  some ([],4,())
 else
  bif decide (((List.length a1:Int))>34) then
   some ([],3,())
  else
   bif a0==4 then
    bif decide (((List.length a1:Int))<2) then
     some ([],3,())
    else
     Option.bind (BH a1) fun r2=>
     bif !r2.1 then
      some ([],3,())
     else
      bif decide (((List.length a1:Int))<13) then
       some ([],3,())
      else
       chk (decide (0≤(0:Int))&&decide ((0:Int)≤2)&&decide (2≤(List.length a1:Int))) <|
       chk (decide (List.length (List.drop 0 (List.take (Int.toNat 2) a1))+List.length [48,48]≤maxLen)) <|
       chk (decide (0≤(2:Int))&&decide ((2:Int)≤((List.length a1:Int)))&&decide (((List.length a1:Int))≤(List.length a1:Int))) <|
       chk (decide (List.length ((List.drop 0 (List.take (Int.toNat 2) a1))++[48,48])+List.length (List.drop 2 (List.take (Int.toNat ((List.length a1:Int))) a1))≤maxLen)) <|
       Option.bind (wJ (((List.drop 0 (List.take (Int.toNat 2) a1))++[48,48])++(List.drop 2 (List.take (Int.toNat ((List.length a1:Int))) a1)))) fun r3=>
       chk (decide (0≤(0:Int))&&decide ((0:Int)≤2)&&decide (2≤(List.length a1:Int))) <|
       Option.bind (BI (w64 (98 - r3.1)) 2) fun r4=>
       chk (decide (List.length (List.drop 0 (List.take (Int.toNat 2) a1))+r4.1.length≤maxLen)) <|
       chk (decide (0≤(2:Int))&&decide ((2:Int)≤((List.length a1:Int)))&&decide (((List.length a1:Int))≤(List.length a1:Int))) <|
       chk (decide (List.length ((List.drop 0 (List.take (Int.toNat 2) a1))++r4.1)+List.length (List.drop 2 (List.take (Int.toNat ((List.length a1:Int))) a1))≤maxLen)) <|
       Option.bind (wg (((List.drop 0 (List.take (Int.toNat 2) a1))++r4.1)++(List.drop 2 (List.take (Int.toNat ((List.length a1:Int))) a1)))) fun r5=>
       bif !r5.1 then
        some ([],3,())
       else
        some (((List.drop 0 (List.take (Int.toNat 2) a1))++r4.1)++(List.drop 2 (List.take (Int.toNat ((List.length a1:Int))) a1)),0,())
   else
    bu (β:=((List UInt8)×Int×Unit)) (γ:=Unit) (
     iter (X:=mR) (β:=mQ) (Int.natAbs a0+(List.length a1+(Int.natAbs (0:Int)+2))) (a0,a1,0,()) (AK)) fun _=>
    some ([],3,())
def Aq (a0:List UInt8) (a1:Int):Option ((List UInt8)×Int×Unit):=
 Option.bind (E2 a0) fun r1=>
 bif !r1.2.1 then
  some ([],3,())
 else
  Option.bind (jM a1 0 (w64 (r1.1 - 1))) fun r2=>
  bif r2.1 then
   some ([],1,())
  else
   Option.bind (strconv_Itoa a1) fun r3=>
   let n4:Int:=w64 ((w64 (17 - ((List.length a0:Int)))) - ((r3.1.length:Int)))
   Option.bind (strings_Repeat [48] n4) fun r5=>
   chk (decide (List.length a0+r5.1.length≤maxLen)) <|
   chk (decide (List.length (a0++r5.1)+r3.1.length≤maxLen)) <|
   Option.bind (xD 3 ((a0++r5.1)++r3.1)) fun r6=>
   some (r6.1,r6.2.1,())
def lz:Option (Bool×Unit):=
 Option.bind (Aq [51,52,48,49,50,51,52,53] 1) fun r1=>
 bif r1.2.1==0 then
  some (r1.1==[51,52,48,49,50,51,52,53,48,48,48,48,48,48,48,48,49,55],())
 else
  some (false,())
end Go.Md
namespace Go.Md
open Go.Dn
def iw (a0:ak) (a1:Int) (a2:List UInt8):Option (Bool×Unit):=
 bif a2==[] then
  some (true,())
 else
  Option.bind (idx a0.2.2.2 a1) fun y1=>
  bif y1.1==a2 then
   some (true,())
  else
   Option.bind (lD a0 a1 a2) fun r2=>
   some (r2.1,())
end Go.Md
namespace Go.Md
open Go.Dn
def uX (a0:au):Option (aj×Int×Unit):=
 Option.bind (qW a0 9) fun r1=>
 some (r1.1,r1.2.1,())
end Go.Md
