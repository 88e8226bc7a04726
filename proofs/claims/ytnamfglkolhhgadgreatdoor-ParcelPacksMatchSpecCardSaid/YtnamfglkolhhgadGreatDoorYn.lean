/-
  The plain models of the functions that the law reaches, second part. No condition.
-/
import Derived.Test.YtnamfglkolhhgadGreatDoorYm
import Derived.Lib.Bytealg
import Derived.Lib.Repeat
import Derived.Lib.ItoaNum
set_option linter.all false
namespace Go.Md
open Go.Dn
def strings_Compare (a b:List UInt8):Option (Int×Unit):=some (Lib.compareBytes a b,())
abbrev Eb:Type:=(List UInt8)×ak
abbrev xT:Type:=Bool×ak×(List UInt8)
abbrev HG:Type:=Int×Int×(List UInt8)×ak×(List UInt8)×ak×Int×(List xT)×(List UInt8)
abbrev Vi:Type:=(List UInt8)×(List UInt8)×Int×Int×Int×Bool×(List Eb)×(List HG)×(List xT)
abbrev B2:Type:=Int×Int×Int×Unit
abbrev B1:Type:=((Int×Unit) ⊕ (Int×Unit))
def T3 (x1:B2) (again:B2→Option B1):Option B1:=
 bif decide (x1.2.2.1<x1.2.1) then
  again (w64 (x1.1*10),x1.2.1,w64 (x1.2.2.1+1),())
 else
  some (Sum.inr (x1.1,()))
def Hu (a0:Int):Option (Int×Unit):=
 aK (β:=(Int×Unit)) (γ:=(Int×Unit)) (
  iter (X:=B2) (β:=B1) (Int.natAbs (1:Int)+(Int.natAbs a0+(Int.natAbs (0:Int)+2))) (1,a0,0,()) (T3)) fun v2=>
 some (v2.1,())
def AL (a0:ak) (a1:Int) (a2:Int):Option (Bool×Unit):=
 bif decide (a0.2≤a1) then
  bif decide (a0.1≥0) then
   Option.bind (Hu a0.2) fun r1=>
   some (decide (a0.1≤(w64 (a2*r1.1))),())
  else
   some (false,())
 else
  some (false,())
abbrev mc:Type:=Int×Int×Int×(List Int)×Int×Int×(List Int)×Int×Int×Bool×(List Int)×Bool×(List Int)×Bool×(List Int)×(List Int)×Unit
abbrev wD:Type:=(((aL×Unit) ⊕ (Bool×(List Int)×Bool×(List Int)×Bool×(List Int)×(List Int)×Unit)) ⊕ (Int×Int×(List Int)×Int×Int×Bool×(List Int)×Bool×(List Int)×Bool×(List Int)×(List Int)×Unit))
def pZ (x1:mc) (again:mc→Option wD):Option wD:=
 bif decide (x1.2.2.2.2.2.2.2.2.1<x1.2.2.2.2.2.2.2.1) then
  Option.bind (idx x1.2.2.2.2.2.2.1 x1.2.2.2.2.2.2.2.2.1) fun y2=>
  chk (decide (0≤(w64 (x1.1+x1.2.2.2.2.2.2.2.2.1)))&&decide ((w64 (x1.1+x1.2.2.2.2.2.2.2.2.1))<(x1.2.2.2.2.2.2.2.2.2.2.2.2.2.2.2.1.length:Int))) <|
  Option.bind (x1.2.2.2.2.2.2.2.2.2.2.2.2.2.2.2.1[(w64 (x1.1+x1.2.2.2.2.2.2.2.2.1)).toNat]?) fun y3=>
  let n4:Int:=bR ((bR y3)+(bR ((bR x1.2.1)*(bR y2))))
  chk (decide (0≤(w64 (x1.1+x1.2.2.2.2.2.2.2.2.1)))&&decide ((w64 (x1.1+x1.2.2.2.2.2.2.2.2.1))<(x1.2.2.2.2.2.2.2.2.2.2.2.2.2.2.2.1.length:Int))) <|
  Option.bind (x1.2.2.2.2.2.2.2.2.2.2.2.2.2.2.2.1[(w64 (x1.1+x1.2.2.2.2.2.2.2.2.1)).toNat]?) fun _=>
  again (x1.1,x1.2.1,Int.fdiv (bR (x1.2.2.1+n4)) (2 ^ 32),x1.2.2.2.1,x1.2.2.2.2.1,x1.2.2.2.2.2.1,x1.2.2.2.2.2.2.1,x1.2.2.2.2.2.2.2.1,w64 (x1.2.2.2.2.2.2.2.2.1+1),x1.2.2.2.2.2.2.2.2.2.1,x1.2.2.2.2.2.2.2.2.2.2.1,x1.2.2.2.2.2.2.2.2.2.2.2.1,x1.2.2.2.2.2.2.2.2.2.2.2.2.1,x1.2.2.2.2.2.2.2.2.2.2.2.2.2.1,x1.2.2.2.2.2.2.2.2.2.2.2.2.2.2.1,List.set x1.2.2.2.2.2.2.2.2.2.2.2.2.2.2.2.1 (w64 (x1.1+x1.2.2.2.2.2.2.2.2.1)).toNat (mE (bR (x1.2.2.1+n4))),())
 else
  some (Sum.inr (x1.1,x1.2.2.1,x1.2.2.2.1,x1.2.2.2.2.1,x1.2.2.2.2.2.1,x1.2.2.2.2.2.2.2.2.2.1,x1.2.2.2.2.2.2.2.2.2.2.1,x1.2.2.2.2.2.2.2.2.2.2.2.1,x1.2.2.2.2.2.2.2.2.2.2.2.2.1,x1.2.2.2.2.2.2.2.2.2.2.2.2.2.1,x1.2.2.2.2.2.2.2.2.2.2.2.2.2.2.1,x1.2.2.2.2.2.2.2.2.2.2.2.2.2.2.2.1,()))
abbrev l9:Type:=(List Int)×Int×Int×Bool×(List Int)×Bool×(List Int)×Bool×(List Int)×(List Int)×Unit
abbrev wB:Type:=((aL×Unit) ⊕ (Bool×(List Int)×Bool×(List Int)×Bool×(List Int)×(List Int)×Unit))
def pY (x1:l9) (again:l9→Option wB):Option wB:=
 bif decide (x1.2.2.1<x1.2.1) then
  Option.bind (idx x1.1 x1.2.2.1) fun y2=>
  aK (β:=((aL×Unit) ⊕ (Bool×(List Int)×Bool×(List Int)×Bool×(List Int)×(List Int)×Unit))) (γ:=(Int×Int×(List Int)×Int×Int×Bool×(List Int)×Bool×(List Int)×Bool×(List Int)×(List Int)×Unit)) (
   iter (X:=mc) (β:=wD) (x1.2.2.1.natAbs+(Int.natAbs y2+(Int.natAbs (0:Int)+(x1.1.length+(x1.2.1.natAbs+(x1.2.2.1.natAbs+(x1.2.2.2.2.2.2.1.length+(Int.natAbs ((x1.2.2.2.2.2.2.1.length:Int))+(Int.natAbs (0:Int)+(x1.2.2.2.2.1.length+(x1.2.2.2.2.2.2.1.length+(x1.2.2.2.2.2.2.2.2.1.length+(x1.2.2.2.2.2.2.2.2.2.1.length+2))))))))))))) (x1.2.2.1,y2,0,x1.1,x1.2.1,x1.2.2.1,x1.2.2.2.2.2.2.1,(x1.2.2.2.2.2.2.1.length:Int),0,x1.2.2.2.1,x1.2.2.2.2.1,x1.2.2.2.2.2.1,x1.2.2.2.2.2.2.1,x1.2.2.2.2.2.2.2.1,x1.2.2.2.2.2.2.2.2.1,x1.2.2.2.2.2.2.2.2.2.1,()) (pZ)) fun v3=>
  chk (decide (0≤(w64 (v3.1+((v3.2.2.2.2.2.2.2.2.1.length:Int)))))&&decide ((w64 (v3.1+((v3.2.2.2.2.2.2.2.2.1.length:Int))))<(v3.2.2.2.2.2.2.2.2.2.2.2.1.length:Int))) <|
  Option.bind (v3.2.2.2.2.2.2.2.2.2.2.2.1[(w64 (v3.1+((v3.2.2.2.2.2.2.2.2.1.length:Int)))).toNat]?) fun _=>
  again (v3.2.2.1,v3.2.2.2.1,w64 (v3.2.2.2.2.1+1),v3.2.2.2.2.2.1,v3.2.2.2.2.2.2.1,v3.2.2.2.2.2.2.2.1,v3.2.2.2.2.2.2.2.2.1,v3.2.2.2.2.2.2.2.2.2.1,v3.2.2.2.2.2.2.2.2.2.2.1,List.set v3.2.2.2.2.2.2.2.2.2.2.2.1 (w64 (v3.1+((v3.2.2.2.2.2.2.2.2.1.length:Int)))).toNat (mE v3.2.1),())
 else
  some (Sum.inr (x1.2.2.2.1,x1.2.2.2.2.1,x1.2.2.2.2.2.1,x1.2.2.2.2.2.2.1,x1.2.2.2.2.2.2.2.1,x1.2.2.2.2.2.2.2.2.1,x1.2.2.2.2.2.2.2.2.2.1,()))
def iP (a0:aL) (a1:aL):Option (aL×Unit):=
 chk (decide (0≤(w64 (((a0.2.length:Int))+((a1.2.length:Int)))))&&decide ((w64 (((a0.2.length:Int))+((a1.2.length:Int))))≤(w64 (((a0.2.length:Int))+((a1.2.length:Int)))))&&decide ((4:Int)*(w64 (((a0.2.length:Int))+((a1.2.length:Int))))≤281474976710656)&&decide ((w64 (((a0.2.length:Int))+((a1.2.length:Int))))≤9223372036854775807)) <|
 aK (β:=(aL×Unit)) (γ:=(Bool×(List Int)×Bool×(List Int)×Bool×(List Int)×(List Int)×Unit)) (
  iter (X:=l9) (β:=wB) (a0.2.length+(Int.natAbs ((a0.2.length:Int))+(Int.natAbs (0:Int)+(a0.2.length+(a1.2.length+(List.length ([]:List Int)+(List.length ((List.replicate (Int.toNat (w64 (((a0.2.length:Int))+((a1.2.length:Int))))) 0):List Int)+2))))))) (a0.2,(a0.2.length:Int),0,a0.1,a0.2,a1.1,a1.2,false,[],List.replicate (Int.toNat (w64 (((a0.2.length:Int))+((a1.2.length:Int))))) 0,()) (pY)) fun v10=>
 Option.bind (je (!(v10.1==v10.2.2.1)) v10.2.2.2.2.2.2.1) fun r11=>
 some (r11.1,())
abbrev rQ:Type:=Int×Int×Bool×(List Int)×Bool×(List Int)×Unit
abbrev Ct:Type:=((aL×Unit) ⊕ (Bool×(List Int)×Bool×(List Int)×Unit))
def xB (x1:rQ) (again:rQ→Option Ct):Option Ct:=
 bif decide (x1.2.1<x1.1) then
  Option.bind (qw 10) fun r2=>
  Option.bind (iP (x1.2.2.2.2.1,x1.2.2.2.2.2.1) r2.1) fun r3=>
  again (x1.1,w64 (x1.2.1+1),x1.2.2.1,x1.2.2.2.1,r3.1.1,r3.1.2,())
 else
  some (Sum.inr (x1.2.2.1,x1.2.2.2.1,x1.2.2.2.2.1,x1.2.2.2.2.2.1,()))
def yl (a0:Int):Option (aL×Unit):=
 Option.bind (qw 1) fun r1=>
 aK (β:=(aL×Unit)) (γ:=(Bool×(List Int)×Bool×(List Int)×Unit)) (
  iter (X:=rQ) (β:=Ct) (Int.natAbs a0+(Int.natAbs (0:Int)+(List.length ([]:List Int)+(r1.1.2.length+2)))) (a0,0,false,[],r1.1.1,r1.1.2,()) (xB)) fun v5=>
 some ((v5.2.2.1,v5.2.2.2.1),())
abbrev Cv:Type:=(List Int)×(List Int)×Int×(List Int)×Int×Int×Unit
abbrev Cu:Type:=(((List Int)×Unit) ⊕ ((List Int)×Int×Unit))
def Ur (x1:Cv) (again:Cv→Option Cu):Option Cu:=
 bif decide (x1.2.2.2.2.2.1<x1.2.2.2.2.1) then
  Option.bind (idx x1.2.2.2.1 x1.2.2.2.2.2.1) fun y2=>
  aK (β:=(((List Int)×Unit) ⊕ ((List Int)×Int×Unit))) (γ:=((List Int)×(List Int)×Int×(List Int)×Int×Int×Unit)) (
   bif decide (x1.2.2.2.2.2.1<((x1.1.length:Int))) then
    Option.bind (idx x1.1 x1.2.2.2.2.2.1) fun y3=>
    let n4:Int:=bR ((bR (x1.2.2.1+(bR y2)))+(bR y3))
    some (Sum.inr (x1.1,x1.2.1,n4,x1.2.2.2.1,x1.2.2.2.2.1,x1.2.2.2.2.2.1,()))
   else
    some (Sum.inr (x1.1,x1.2.1,bR (x1.2.2.1+(bR y2)),x1.2.2.2.1,x1.2.2.2.2.1,x1.2.2.2.2.2.1,()))) fun v5=>
  chk (decide (((v5.2.1.length)+1)*4≤140737488355328)&&decide ((v5.2.1.length)+1≤maxLen)) <|
  again (v5.1,v5.2.1++[(mE v5.2.2.1)],Int.fdiv v5.2.2.1 (2 ^ 32),v5.2.2.2.1,v5.2.2.2.2.1,w64 (v5.2.2.2.2.2.1+1),())
 else
  some (Sum.inr (x1.2.1,x1.2.2.1,()))
def HF (a0:List Int) (a1:List Int):Option ((List Int)×Unit):=
 aK (β:=((List Int)×Unit)) (γ:=((List Int)×(List Int)×Unit)) (
  bif decide (((List.length a0:Int))<((List.length a1:Int))) then
   some (Sum.inr (a1,a0,()))
  else
   some (Sum.inr (a0,a1,()))) fun v1=>
 chk (decide (0≤(0:Int))&&decide ((0:Int)≤(w64 (((v1.1.length:Int))+1)))&&decide ((4:Int)*(w64 (((v1.1.length:Int))+1))≤281474976710656)&&decide ((w64 (((v1.1.length:Int))+1))≤9223372036854775807)) <|
 aK (β:=((List Int)×Unit)) (γ:=((List Int)×Int×Unit)) (
  iter (X:=Cv) (β:=Cu) (v1.2.1.length+(List.length ([]:List Int)+(Int.natAbs (0:Int)+(v1.1.length+(Int.natAbs ((v1.1.length:Int))+(Int.natAbs (0:Int)+2)))))) (v1.2.1,[],0,v1.1,(v1.1.length:Int),0,()) (Ur)) fun v7=>
 chk (decide (((v7.1.length)+1)*4≤140737488355328)&&decide ((v7.1.length)+1≤maxLen)) <|
 some (v7.1++[(mE v7.2.1)],())
def fQ (a0:aL) (a1:aL):Option (aL×Unit):=
 bif a0.1==a1.1 then
  Option.bind (HF a0.2 a1.2) fun r1=>
  Option.bind (je a0.1 r1.1) fun r2=>
  some (r2.1,())
 else
  Option.bind (tX a0.2 a1.2) fun r3=>
  bif decide (r3.1≥0) then
   Option.bind (xC a0.2 a1.2) fun r4=>
   Option.bind (je a0.1 r4.1) fun r5=>
   some (r5.1,())
  else
   Option.bind (xC a1.2 a0.2) fun r6=>
   Option.bind (je a1.1 r6.1) fun r7=>
   some (r7.1,())
def xA (a0:aL) (a1:aL):Option (aL×Unit):=
 Option.bind (pX a1) fun r1=>
 Option.bind (fQ a0 r1.1) fun r2=>
 some (r2.1,())
def gO (a0:aL) (a1:aL):Option (Int×Unit):=
 Option.bind (xA a0 a1) fun r1=>
 Option.bind (lD r1.1) fun r2=>
 some (r2.1,())
def iC (a0:ak) (a1:Int):Option (aL×Unit):=
 Option.bind (qw a0.1) fun r1=>
 Option.bind (yl (w64 (a1 - a0.2))) fun r2=>
 Option.bind (iP r1.1 r2.1) fun r3=>
 some (r3.1,())
end Go.Md
namespace Go.Md
open Go.Dn
def W6 (n:Nat):List UInt8:=if n<10 then [UInt8.ofNat (48+n)] else [UInt8.ofNat (48+n / 10),UInt8.ofNat (48+n % 10)]
def strconv_Itoa (n:Int):Option (List UInt8×Unit):=bif decide (0≤n)&&decide (n<100) then some (W6 n.toNat,()) else bif decide (-9223372036854775808≤n)&&decide (n≤9223372036854775807) then some (Lib.itoa n,()) else none
def strings_Repeat (s:List UInt8) (n:Int):Option (List UInt8×Unit):=bif decide (0≤n)&&(decide (n≤9223372036854775807)&&decide (s.length*n.toNat≤140737488355328)) then some (Lib.repeatL s n.toNat,()) else none
def D3 (_a:List UInt8):Option (Int×Unit):=none
def DN (_a:List UInt8):Option (Bool×Unit):=none
def Kn (_a:List UInt8):Option (Bool×Unit):=none
def Lj (_a:List UInt8):Option (Bool×Unit):=none
def Ko (_a _b:Int):Option (List UInt8×Unit):=none
def Fk (_a:List UInt8) (_b:Bool):Option (Bool×Unit):=none
def MU (_a:List UInt8) (_b:Int):Option (Int×Unit):=none
def ON (_a:List UInt8):Option (Int×Unit):=none
def U7 (_a:List UInt8):Option (List UInt8×Unit):=none
abbrev bU:Ty:=(.st (.pair .str (.pair .str (.pair .str aY))))
abbrev aW:Type:=(List UInt8)×(List UInt8)×(List UInt8)×ak
abbrev an:Ty:=(.st (.pair .str (.pair .str (.pair aY (.slice bU)))))
abbrev aa:Type:=(List UInt8)×(List UInt8)×ak×(List aW)
abbrev wq:Ty:=(.st (.pair .str (.pair .str (.pair tI (.slice an)))))
abbrev di:Type:=(List UInt8)×(List UInt8)×Int×(List aa)
abbrev IY:Type:=Int×ak×Int
abbrev xU:Type:=Int×(List UInt8)×(List UInt8)×ak×ak×Int×ak×ak×ak×ak
abbrev aR:Type:=(List UInt8)×(List UInt8)×ak
abbrev bN:Ty:=(.st (.pair .str .str))
abbrev bD:Type:=(List UInt8)×(List UInt8)
def kI (a0:Int):Option (Bool×Unit):=
 Option.bind (nc a0 1 5) fun r1=>
 some (!r1.1,())
def BO (a0:Int):Option ((List Int)×Unit):=
 bif a0==1 then
  some ([8,12,13,14],())
 else
  bif a0==2 then
   some ([13],())
  else
   some ([18],())
abbrev lg:Type:=(List Int)×Int×Int×Int×Unit
abbrev uB:Type:=((Int×Unit) ⊕ Unit)
def nY (x1:lg) (again:lg→Option uB):Option uB:=
 bif decide (x1.2.2.2.1<x1.2.2.1) then
  Option.bind (idx x1.1 x1.2.2.2.1) fun y2=>
  bif x1.2.1==y2 then
   some (Sum.inl (x1.2.2.2.1,()))
  else
   again (x1.1,x1.2.1,x1.2.2.1,w64 (x1.2.2.2.1+1),())
 else
  some (Sum.inr ())
def zD (a0:List Int) (a1:Int):Option (Int×Unit):=
 aK (β:=(Int×Unit)) (γ:=Unit) (
  iter (X:=lg) (β:=uB) (List.length a0+(Int.natAbs a1+(Int.natAbs ((List.length a0:Int))+(Int.natAbs (0:Int)+2)))) (a0,a1,(List.length a0:Int),0,()) (nY)) fun _=>
 some ((-1),())
def kZ (a0:List Int) (a1:Int):Option (Bool×Unit):=
 Option.bind (zD a0 a1) fun r1=>
 some (decide (r1.1≥0),())
abbrev qV:Type:=(List UInt8)×Int×Int×Int×Int×Unit
abbrev BZ:Type:=((Bool×Unit) ⊕ Unit)
def wQ (x1:qV) (again:qV→Option BZ):Option BZ:=
 bif decide (x1.2.2.2.2.1<x1.2.2.2.1) then
  Option.bind (rI x1.1 x1.2.2.2.2.1) fun c2=>
  bif decide ((c2.toNat:Int)<x1.2.1) then
   some (Sum.inl (false,()))
  else
   Option.bind (rI x1.1 x1.2.2.2.2.1) fun c3=>
   bif decide ((c3.toNat:Int)>x1.2.2.1) then
    some (Sum.inl (false,()))
   else
    again (x1.1,x1.2.1,x1.2.2.1,x1.2.2.2.1,w64 (x1.2.2.2.2.1+1),())
 else
  some (Sum.inr ())
def Hl (a0:List UInt8) (a1:Int) (a2:Int):Option (Bool×Unit):=
 aK (β:=(Bool×Unit)) (γ:=Unit) (
  iter (X:=qV) (β:=BZ) (List.length a0+(Int.natAbs a1+(Int.natAbs a2+(Int.natAbs ((List.length a0:Int))+(Int.natAbs (0:Int)+2))))) (a0,a1,a2,(List.length a0:Int),0,()) (wQ)) fun _=>
 some (true,())
def vu (a0:List UInt8):Option (Bool×Unit):=
 bif !(a0==[]) then
  Option.bind (Hl a0 48 57) fun r1=>
  some (r1.1,())
 else
  some (false,())
abbrev Ao:Type:=(List UInt8)×Int×Int×Int×Unit
abbrev An:Type:=((Bool×Unit) ⊕ (Int×Unit))
def Qk (x1:Ao) (again:Ao→Option An):Option An:=
 bif decide (x1.2.2.2.1<x1.2.2.1) then
  let n2:Int:=w64 ((w64 (((x1.1.length:Int)) - 1)) - x1.2.2.2.1)
  Option.bind (rI x1.1 n2) fun c3=>
  bif (Int.tmod x1.2.2.2.1 2)==1 then
   let n4:Int:=w64 ((w64 (wu8 ((c3.toNat:Int) - 48)))*3)
   again (x1.1,w64 (x1.2.1+n4),x1.2.2.1,w64 (x1.2.2.2.1+1),())
  else
   let n5:Int:=w64 (x1.2.1+(w64 (wu8 ((c3.toNat:Int) - 48))))
   again (x1.1,n5,x1.2.2.1,w64 (x1.2.2.2.1+1),())
 else
  some (Sum.inr (x1.2.1,()))
def EI (a0:List UInt8):Option (Bool×Unit):=
 aK (β:=(Bool×Unit)) (γ:=(Int×Unit)) (
  iter (X:=Ao) (β:=An) (List.length a0+(Int.natAbs (0:Int)+(Int.natAbs ((List.length a0:Int))+(Int.natAbs (0:Int)+2)))) (a0,0,(List.length a0:Int),0,()) (Qk)) fun v6=>
 some ((Int.tmod v6.1 10)==0,())
def me (a0:Int) (a1:List UInt8):Option (Bool×Unit):=
 bif a0==4 then
  Option.bind (DN a1) fun r1=>
  some (r1.1,())
 else
  bif a0==5 then
   Option.bind (Lj a1) fun r2=>
   some (r2.1,())
  else
   Option.bind (BO a0) fun r3=>
   Option.bind (kZ r3.1 ((List.length a1:Int))) fun r4=>
   bif r4.1 then
    Option.bind (vu a1) fun r5=>
    bif r5.1 then
     Option.bind (EI a1) fun r6=>
     some (r6.1,())
    else
     some (false,())
   else
    some (false,())
def uI (a0:Int) (a1:List UInt8):Option (Bool×Int×Unit):=
 Option.bind (kI a0) fun r1=>
 bif !r1.1 then
  some (false,4,())
 else
  Option.bind (me a0 a1) fun r2=>
  some (r2.1,0,())
def ri (a0:List UInt8):Option (Bool×Unit):=
 Option.bind (uI 3 a0) fun r1=>
 some (r1.1,())
def ck (a0:ak) (a1:Bool):Option (Int×Unit):=
 Option.bind (iQ a0) fun r1=>
 bif r1.1 != 0 then
  some (r1.1,())
 else
  Option.bind (AL a0 3 1000000000) fun r2=>
  bif !r2.1 then
   some (1,())
  else
   bif a0.1==0 then
    bif !a1 then
     some (1,())
    else
     some (0,())
   else
    some (0,())
abbrev yy:Type:=Int×(List Int)×Int×Int×Unit
abbrev DO:Type:=((Int×Unit) ⊕ (Int×Unit))
def yx (x1:yy) (again:yy→Option DO):Option DO:=
 bif decide (x1.2.2.2.1<x1.2.2.1) then
  Option.bind (idx x1.2.1 x1.2.2.2.1) fun y2=>
  bif y2 != x1.1 then
   some (Sum.inl (y2,()))
  else
   again (x1.1,x1.2.1,x1.2.2.1,w64 (x1.2.2.2.1+1),())
 else
  some (Sum.inr (x1.1,()))
def Ap (a0:List Int):Option (Int×Unit):=
 aK (β:=(Int×Unit)) (γ:=(Int×Unit)) (
  iter (X:=yy) (β:=DO) (Int.natAbs (0:Int)+(List.length a0+(Int.natAbs ((List.length a0:Int))+(Int.natAbs (0:Int)+2)))) (0,a0,(List.length a0:Int),0,()) (yx)) fun v3=>
 some (v3.1,())
def iZ (a0:aW) (a1:aW):Option (Int×Unit):=
 Option.bind (strings_Compare a0.1 a1.1) fun r1=>
 Option.bind (strings_Compare a0.2.1 a1.2.1) fun r2=>
 Option.bind (strings_Compare a0.2.2.1 a1.2.2.1) fun r3=>
 Option.bind (Ap [r1.1,r2.1,r3.1]) fun r4=>
 some (r4.1,())
abbrev kU:Type:=(List aW)×(List aW)×Int×Int×Unit
abbrev oe:Type:=((Int×Unit) ⊕ Unit)
def kT (x1:kU) (again:kU→Option oe):Option oe:=
 bif decide (x1.2.2.2.1<x1.2.2.1) then
  Option.bind (idx x1.2.1 x1.2.2.2.1) fun y2=>
  Option.bind (gj y2.1) fun r3=>
  bif !r3.1 then
   some (Sum.inl (5,()))
  else
   Option.bind (gj y2.2.1) fun r4=>
   bif !r4.1 then
    some (Sum.inl (5,()))
   else
    bif !(y2.2.2.1==[]) then
     Option.bind (gj y2.2.2.1) fun r5=>
     bif !r5.1 then
      some (Sum.inl (5,()))
     else
      bif decide (x1.2.2.2.1>0) then
       Option.bind (idx x1.1 (w64 (x1.2.2.2.1 - 1))) fun y6=>
       Option.bind (iZ y6 y2) fun r7=>
       bif decide (r7.1≥0) then
        some (Sum.inl (8,()))
       else
        Option.bind (ck y2.2.2.2 false) fun r8=>
        bif r8.1 != 0 then
         some (Sum.inl (r8.1,()))
        else
         again (x1.1,x1.2.1,x1.2.2.1,w64 (x1.2.2.2.1+1),())
      else
       Option.bind (ck y2.2.2.2 false) fun r9=>
       bif r9.1 != 0 then
        some (Sum.inl (r9.1,()))
       else
        again (x1.1,x1.2.1,x1.2.2.1,w64 (x1.2.2.2.1+1),())
    else
     bif decide (x1.2.2.2.1>0) then
      Option.bind (idx x1.1 (w64 (x1.2.2.2.1 - 1))) fun y10=>
      Option.bind (iZ y10 y2) fun r11=>
      bif decide (r11.1≥0) then
       some (Sum.inl (8,()))
      else
       Option.bind (ck y2.2.2.2 false) fun r12=>
       bif r12.1 != 0 then
        some (Sum.inl (r12.1,()))
       else
        again (x1.1,x1.2.1,x1.2.2.1,w64 (x1.2.2.2.1+1),())
     else
      Option.bind (ck y2.2.2.2 false) fun r13=>
      bif r13.1 != 0 then
       some (Sum.inl (r13.1,()))
      else
       again (x1.1,x1.2.1,x1.2.2.1,w64 (x1.2.2.2.1+1),())
 else
  some (Sum.inr ())
def jX (a0:List aW):Option (Int×Unit):=
 bif decide (((List.length a0:Int))>100) then
  some (2,())
 else
  aK (β:=(Int×Unit)) (γ:=Unit) (
   iter (X:=kU) (β:=oe) (List.length a0+(List.length a0+(Int.natAbs ((List.length a0:Int))+(Int.natAbs (0:Int)+2)))) (a0,a0,(List.length a0:Int),0,()) (kT)) fun _=>
  some (0,())
def pq (a0:List aa) (a1:Int):Option (Int×Unit):=
 Option.bind (idx a0 a1) fun y1=>
 Option.bind (ri y1.1) fun r2=>
 bif !r2.1 then
  some (3,())
 else
  bif decide (a1>0) then
   Option.bind (idx a0 (w64 (a1 - 1))) fun y3=>
   bif Op.bytesLess y1.1 y3.1||y1.1==y3.1 then
    some (8,())
   else
    Option.bind (ck y1.2.2.1 true) fun r4=>
    bif r4.1 != 0 then
     some (r4.1,())
    else
     Option.bind (jX y1.2.2.2) fun r5=>
     some (r5.1,())
  else
   Option.bind (ck y1.2.2.1 true) fun r6=>
   bif r6.1 != 0 then
    some (r6.1,())
   else
    Option.bind (jX y1.2.2.2) fun r7=>
    some (r7.1,())
def xH (a0:aa) (a1:List UInt8):Option (Int×Unit):=
 Option.bind (strings_Compare a0.1 a1) fun r1=>
 some (r1.1,())
abbrev bX:Type:=(List aa)×(List UInt8)×Unit×Int×Int×Int×Unit
abbrev fG:Type:=((Int×Bool×Unit) ⊕ ((List aa)×(List UInt8)×Unit×Int×Int×Unit))
def fF (x1:bX) (again:bX→Option fG):Option fG:=
 bif decide (x1.2.2.2.2.1<x1.2.2.2.2.2.1) then
  let n2:Int:=w64 (Int.fdiv (bR (w64 (x1.2.2.2.2.1+x1.2.2.2.2.2.1))) (2 ^ 1))
  Option.bind (idx x1.1 n2) fun y3=>
  Option.bind (xH y3 x1.2.1) fun r4=>
  bif decide (r4.1<0) then
   again (x1.1,x1.2.1,x1.2.2.1,x1.2.2.2.1,w64 (n2+1),x1.2.2.2.2.2.1,())
  else
   again (x1.1,x1.2.1,x1.2.2.1,x1.2.2.2.1,x1.2.2.2.2.1,n2,())
 else
  some (Sum.inr (x1.1,x1.2.1,x1.2.2.1,x1.2.2.2.1,x1.2.2.2.2.1,()))
def dh (a0:List aa) (a1:List UInt8) (a2:Unit):Option (Int×Bool×Unit):=
 aK (β:=(Int×Bool×Unit)) (γ:=((List aa)×(List UInt8)×Unit×Int×Int×Unit)) (
  iter (X:=bX) (β:=fG) (List.length a0+(List.length a1+(Int.natAbs ((List.length a0:Int))+(Int.natAbs (0:Int)+(Int.natAbs ((List.length a0:Int))+2))))) (a0,a1,a2,(List.length a0:Int),0,(List.length a0:Int),()) (fF)) fun v5=>
 bif decide (v5.2.2.2.2.1<v5.2.2.2.1) then
  Option.bind (idx v5.1 v5.2.2.2.2.1) fun y6=>
  Option.bind (xH y6 v5.2.1) fun r7=>
  some (v5.2.2.2.2.1,r7.1==0,())
 else
  some (v5.2.2.2.2.1,false,())
def pn (a0:di) (a1:List UInt8):Option (Int×Bool×Unit):=
 Option.bind (dh a0.2.2.2 a1 ()) fun r1=>
 some (r1.1,r1.2.1,())
abbrev lB:Type:=Int×(List Int)×Int×(List UInt8)×(List UInt8)×Int×(List aa)×Unit
abbrev jw:Type:=(((List Int)×Bool×Unit) ⊕ ((List Int)×Unit))
def sG (x1:lB) (again:lB→Option jw):Option jw:=
 Option.bind (idx x1.2.2.2.2.2.2.1 x1.2.2.1) fun y2=>
 bif !(y2.2.1==[]) then
  Option.bind (idx x1.2.2.2.2.2.2.1 x1.2.2.1) fun y3=>
  Option.bind (pn (x1.2.2.2.1,x1.2.2.2.2.1,x1.2.2.2.2.2.1,x1.2.2.2.2.2.2.1) y3.2.1) fun r4=>
  bif r4.1==x1.1 then
   some (Sum.inl ([],false,()))
  else
   Option.bind (kZ x1.2.1 r4.1) fun r5=>
   bif r5.1 then
    some (Sum.inl (x1.2.1,true,()))
   else
    chk (decide (((x1.2.1.length)+1)*8≤140737488355328)&&decide ((x1.2.1.length)+1≤maxLen)) <|
    again (x1.1,x1.2.1++[r4.1],r4.1,x1.2.2.2.1,x1.2.2.2.2.1,x1.2.2.2.2.2.1,x1.2.2.2.2.2.2.1,())
 else
  some (Sum.inr (x1.2.1,()))
def tG (a0:di) (a1:Int):Option ((List Int)×Bool×Unit):=
 aK (β:=((List Int)×Bool×Unit)) (γ:=((List Int)×Unit)) (
  iter (X:=lB) (β:=jw) (Int.natAbs a1+(List.length ([]:List Int)+(Int.natAbs a1+(a0.1.length+(a0.2.1.length+(a0.2.2.1.natAbs+(a0.2.2.2.length+2))))))) (a1,[],a1,a0.1,a0.2.1,a0.2.2.1,a0.2.2.2,()) (sG)) fun v6=>
 some (v6.1,true,())
abbrev nT:Type:=(List aa)×Int×Int×(List UInt8)×(List UInt8)×Int×(List aa)×Unit
abbrev ux:Type:=((Int×Unit) ⊕ ((List UInt8)×(List UInt8)×Int×(List aa)×Unit))
def nR (x1:nT) (again:nT→Option ux):Option ux:=
 bif decide (x1.2.2.1<x1.2.1) then
  Option.bind (idx x1.1 x1.2.2.1) fun y2=>
  Option.bind (pn (x1.2.2.2.1,x1.2.2.2.2.1,x1.2.2.2.2.2.1,x1.2.2.2.2.2.2.1) y2.2.1) fun r3=>
  bif !(y2.2.1==[]) then
   bif !r3.2.1 then
    some (Sum.inl (9,()))
   else
    again (x1.1,x1.2.1,w64 (x1.2.2.1+1),x1.2.2.2.1,x1.2.2.2.2.1,x1.2.2.2.2.2.1,x1.2.2.2.2.2.2.1,())
  else
   again (x1.1,x1.2.1,w64 (x1.2.2.1+1),x1.2.2.2.1,x1.2.2.2.2.1,x1.2.2.2.2.2.1,x1.2.2.2.2.2.2.1,())
 else
  some (Sum.inr (x1.2.2.2.1,x1.2.2.2.2.1,x1.2.2.2.2.2.1,x1.2.2.2.2.2.2.1,()))
abbrev nU:Type:=Int×Int×(List UInt8)×(List UInt8)×Int×(List aa)×Unit
abbrev uy:Type:=((Int×Unit) ⊕ ((List UInt8)×(List UInt8)×Int×(List aa)×Unit))
def nS (x1:nU) (again:nU→Option uy):Option uy:=
 bif decide (x1.2.1<x1.1) then
  Option.bind (tG (x1.2.2.1,x1.2.2.2.1,x1.2.2.2.2.1,x1.2.2.2.2.2.1) x1.2.1) fun r2=>
  bif !r2.2.1 then
   some (Sum.inl (17,()))
  else
   again (x1.1,w64 (x1.2.1+1),x1.2.2.1,x1.2.2.2.1,x1.2.2.2.2.1,x1.2.2.2.2.2.1,())
 else
  some (Sum.inr (x1.2.2.1,x1.2.2.2.1,x1.2.2.2.2.1,x1.2.2.2.2.2.1,()))
abbrev mU:Type:=Int×Int×(List UInt8)×(List UInt8)×Int×(List aa)×Unit
abbrev sJ:Type:=((Int×Unit) ⊕ Unit)
def mT (x1:mU) (again:mU→Option sJ):Option sJ:=
 bif decide (x1.2.1<x1.1) then
  Option.bind (tG (x1.2.2.1,x1.2.2.2.1,x1.2.2.2.2.1,x1.2.2.2.2.2.1) x1.2.1) fun r2=>
  bif decide (((r2.1.length:Int))>5) then
   some (Sum.inl (2,()))
  else
   again (x1.1,w64 (x1.2.1+1),x1.2.2.1,x1.2.2.2.1,x1.2.2.2.2.1,x1.2.2.2.2.2.1,())
 else
  some (Sum.inr ())
def sI (a0:di):Option (Int×Unit):=
 aK (β:=(Int×Unit)) (γ:=((List UInt8)×(List UInt8)×Int×(List aa)×Unit)) (
  iter (X:=nT) (β:=ux) (a0.2.2.2.length+(Int.natAbs ((a0.2.2.2.length:Int))+(Int.natAbs (0:Int)+(a0.1.length+(a0.2.1.length+(a0.2.2.1.natAbs+(a0.2.2.2.length+2))))))) (a0.2.2.2,(a0.2.2.2.length:Int),0,a0.1,a0.2.1,a0.2.2.1,a0.2.2.2,()) (nR)) fun v4=>
 aK (β:=(Int×Unit)) (γ:=((List UInt8)×(List UInt8)×Int×(List aa)×Unit)) (
  iter (X:=nU) (β:=uy) (Int.natAbs ((v4.2.2.2.1.length:Int))+(Int.natAbs (0:Int)+(v4.1.length+(v4.2.1.length+(v4.2.2.1.natAbs+(v4.2.2.2.1.length+2)))))) ((v4.2.2.2.1.length:Int),0,v4.1,v4.2.1,v4.2.2.1,v4.2.2.2.1,()) (nS)) fun v7=>
 aK (β:=(Int×Unit)) (γ:=Unit) (
  iter (X:=mU) (β:=sJ) (Int.natAbs ((v7.2.2.2.1.length:Int))+(Int.natAbs (0:Int)+(v7.1.length+(v7.2.1.length+(v7.2.2.1.natAbs+(v7.2.2.2.1.length+2)))))) ((v7.2.2.2.1.length:Int),0,v7.1,v7.2.1,v7.2.2.1,v7.2.2.2.1,()) (mT)) fun _=>
 some (0,())
abbrev mj:Type:=Int×Int×(List UInt8)×(List UInt8)×Int×(List aa)×Unit
abbrev q8:Type:=((Int×Unit) ⊕ ((List UInt8)×(List UInt8)×Int×(List aa)×Unit))
def mh (x1:mj) (again:mj→Option q8):Option q8:=
 bif decide (x1.2.1<x1.1) then
  Option.bind (pq x1.2.2.2.2.2.1 x1.2.1) fun r2=>
  bif r2.1 != 0 then
   some (Sum.inl (r2.1,()))
  else
   again (x1.1,w64 (x1.2.1+1),x1.2.2.1,x1.2.2.2.1,x1.2.2.2.2.1,x1.2.2.2.2.2.1,())
 else
  some (Sum.inr (x1.2.2.1,x1.2.2.2.1,x1.2.2.2.2.1,x1.2.2.2.2.2.1,()))
def oV (a0:di):Option (Int×Unit):=
 Option.bind (gj a0.1) fun r1=>
 bif !r1.1 then
  some (5,())
 else
  Option.bind (gj a0.2.1) fun r2=>
  bif !r2.1 then
   some (5,())
  else
   Option.bind (Gu a0.2.2.1) fun r3=>
   bif !r3.1 then
    some (1,())
   else
    bif decide (((a0.2.2.2.length:Int))>500) then
     some (2,())
    else
     aK (β:=(Int×Unit)) (γ:=((List UInt8)×(List UInt8)×Int×(List aa)×Unit)) (
      iter (X:=mj) (β:=q8) (Int.natAbs ((a0.2.2.2.length:Int))+(Int.natAbs (0:Int)+(a0.1.length+(a0.2.1.length+(a0.2.2.1.natAbs+(a0.2.2.2.length+2)))))) ((a0.2.2.2.length:Int),0,a0.1,a0.2.1,a0.2.2.1,a0.2.2.2,()) (mh)) fun v6=>
     Option.bind (sI (v6.1,v6.2.1,v6.2.2.1,v6.2.2.2.1)) fun r7=>
     some (r7.1,())
def Ad (a0:Int):Option (Bool×Unit):=
 Option.bind (rV a0 1 5) fun r1=>
 some (r1.1,())
abbrev rG:Type:=(List UInt8)×Int×Int×Unit
abbrev Ca:Type:=((Bool×Unit) ⊕ Unit)
def xo (x1:rG) (again:rG→Option Ca):Option Ca:=
 bif decide (x1.2.2.1<x1.2.1) then
  Option.bind (rI x1.1 x1.2.2.1) fun c2=>
  bif decide ((c2.toNat:Int)<48) then
   some (Sum.inl (false,()))
  else
   Option.bind (rI x1.1 x1.2.2.1) fun c3=>
   bif decide ((c3.toNat:Int)>57) then
    some (Sum.inl (false,()))
   else
    again (x1.1,x1.2.1,w64 (x1.2.2.1+1),())
 else
  some (Sum.inr ())
def nh (a0:List UInt8):Option (Bool×Unit):=
 bif a0==[] then
  some (false,())
 else
  aK (β:=(Bool×Unit)) (γ:=Unit) (
   iter (X:=rG) (β:=Ca) (List.length a0+(Int.natAbs ((List.length a0:Int))+(Int.natAbs (0:Int)+2))) (a0,(List.length a0:Int),0,()) (xo)) fun _=>
  some (true,())
abbrev kg:Type:=(List UInt8)×Int×Int×Int×Unit
abbrev Fo:Type:=((Bool×Unit) ⊕ (Int×Unit))
def nF (x1:kg) (again:kg→Option Fo):Option Fo:=
 bif decide (x1.2.2.2.1<x1.2.2.1) then
  let n2:Int:=w64 ((w64 (((x1.1.length:Int)) - 1)) - x1.2.2.2.1)
  Option.bind (rI x1.1 n2) fun c3=>
  bif (Int.tmod x1.2.2.2.1 2)==1 then
   let n4:Int:=w64 ((w64 (wu8 ((c3.toNat:Int) - 48)))*3)
   again (x1.1,w64 (x1.2.1+n4),x1.2.2.1,w64 (x1.2.2.2.1+1),())
  else
   let n5:Int:=w64 (x1.2.1+(w64 (wu8 ((c3.toNat:Int) - 48))))
   again (x1.1,n5,x1.2.2.1,w64 (x1.2.2.2.1+1),())
 else
  some (Sum.inr (x1.2.1,()))
def ni (a0:List UInt8):Option (Bool×Unit):=
 aK (β:=(Bool×Unit)) (γ:=(Int×Unit)) (
  iter (X:=kg) (β:=Fo) (List.length a0+(Int.natAbs (0:Int)+(Int.natAbs ((List.length a0:Int))+(Int.natAbs (0:Int)+2)))) (a0,0,(List.length a0:Int),0,()) (nF)) fun v6=>
 some ((Int.tmod v6.1 10)==0,())
def qq (a0:Int) (a1:List UInt8):Option (Bool×Unit):=
 bif a0==1 then
  Option.bind (nh a1) fun r1=>
  bif r1.1 then
   bif ((List.length a1:Int))==8 then
    Option.bind (ni a1) fun r2=>
    some (r2.1,())
   else
    bif decide (((List.length a1:Int))≥12) then
     bif decide (((List.length a1:Int))≤14) then
      Option.bind (ni a1) fun r3=>
      some (r3.1,())
     else
      some (false,())
    else
     some (false,())
  else
   some (false,())
 else
  bif a0==2 then
   Option.bind (nh a1) fun r4=>
   bif r4.1 then
    bif ((List.length a1:Int))==13 then
     Option.bind (ni a1) fun r5=>
     some (r5.1,())
    else
     some (false,())
   else
    some (false,())
  else
   bif a0==3 then
    Option.bind (nh a1) fun r6=>
    bif r6.1 then
     bif ((List.length a1:Int))==18 then
      Option.bind (ni a1) fun r7=>
      some (r7.1,())
     else
      some (false,())
    else
     some (false,())
   else
    bif a0==4 then
     Option.bind (rV ((List.length a1:Int)) 15 34) fun r8=>
     bif !r8.1 then
      some (false,())
     else
      chk (decide (0≤(0:Int))&&decide ((0:Int)≤2)&&decide (2≤(List.length a1:Int))) <|
      Option.bind (Fk (List.drop 0 (List.take (Int.toNat 2) a1)) false) fun r9=>
      bif !r9.1 then
       some (false,())
      else
       chk (decide (0≤(2:Int))&&decide ((2:Int)≤4)&&decide (4≤(List.length a1:Int))) <|
       Option.bind (nh (List.drop 2 (List.take (Int.toNat 4) a1))) fun r10=>
       bif !r10.1 then
        some (false,())
       else
        chk (decide (0≤(4:Int))&&decide ((4:Int)≤((List.length a1:Int)))&&decide (((List.length a1:Int))≤(List.length a1:Int))) <|
        Option.bind (Fk (List.drop 4 (List.take (Int.toNat ((List.length a1:Int))) a1)) true) fun r11=>
        bif !r11.1 then
         some (false,())
        else
         chk (decide (0≤(2:Int))&&decide ((2:Int)≤4)&&decide (4≤(List.length a1:Int))) <|
         bif !(Op.bytesLess (List.drop 2 (List.take (Int.toNat 4) a1)) [48,50]) then
          chk (decide (0≤(2:Int))&&decide ((2:Int)≤4)&&decide (4≤(List.length a1:Int))) <|
          bif Op.bytesLess (List.drop 2 (List.take (Int.toNat 4) a1)) [57,56]||(List.drop 2 (List.take (Int.toNat 4) a1))==[57,56] then
           chk (decide (0≤(4:Int))&&decide ((4:Int)≤((List.length a1:Int)))&&decide (((List.length a1:Int))≤(List.length a1:Int))) <|
           chk (decide (0≤(0:Int))&&decide ((0:Int)≤4)&&decide (4≤(List.length a1:Int))) <|
           chk (decide (List.length (List.drop 4 (List.take (Int.toNat ((List.length a1:Int))) a1))+List.length (List.drop 0 (List.take (Int.toNat 4) a1))≤maxLen)) <|
           Option.bind (U7 ((List.drop 4 (List.take (Int.toNat ((List.length a1:Int))) a1))++(List.drop 0 (List.take (Int.toNat 4) a1)))) fun r12=>
           Option.bind (MU r12.1 97) fun r13=>
           some (r13.1==1,())
          else
           some (false,())
         else
          some (false,())
    else
     Option.bind (nh a1) fun r14=>
     bif r14.1 then
      bif ((List.length a1:Int))==11 then
       Option.bind (rI a1 0) fun c15=>
       bif (c15.toNat:Int) != 48 then
        Option.bind (rI a1 10) fun c16=>
        Option.bind (ON a1) fun r17=>
        some ((c16.toNat:Int)==r17.1,())
       else
        some (false,())
      else
       some (false,())
     else
      some (false,())
def CJ (a0:Int) (a1:List UInt8):Option (Bool×Int×Unit):=
 Option.bind (Ad a0) fun r1=>
 bif !r1.1 then
  some (false,4,())
 else
  Option.bind (qq a0 a1) fun r2=>
  some (r2.1,0,())
def yc (a0:List UInt8):Option (Bool×Unit):=
 Option.bind (CJ 3 a0) fun r1=>
 some (r1.1,())
def Nz (a0:ak) (a1:ak):Option (Int×Unit):=
 Option.bind (CI a0 9) fun r1=>
 Option.bind (CI a1 9) fun r2=>
 Option.bind (A9 r1.1 r2.1) fun r3=>
 some (r3.1,())
def iF (a0:ak) (a1:Bool):Option (Bool×Unit):=
 Option.bind (jZ a0) fun r1=>
 bif r1.1==0 then
  bif decide (a0.1≥0) then
   bif decide (a0.1>0) then
    Option.bind (Nz a0 (1000000000,0)) fun r2=>
    bif decide (r2.1≤0) then
     some (decide (a0.2≤3),())
    else
     some (false,())
   else
    bif !a1 then
     Option.bind (Nz a0 (1000000000,0)) fun r3=>
     bif decide (r3.1≤0) then
      some (decide (a0.2≤3),())
     else
      some (false,())
    else
     some (false,())
  else
   some (false,())
 else
  some (false,())
abbrev nW:Type:=(List Int)×Int×Int×Unit
abbrev uA:Type:=((Int×Unit) ⊕ Unit)
def nV (x1:nW) (again:nW→Option uA):Option uA:=
 bif decide (x1.2.2.1<x1.2.1) then
  Option.bind (idx x1.1 x1.2.2.1) fun y2=>
  bif y2 != 0 then
   some (Sum.inl (y2,()))
  else
   again (x1.1,x1.2.1,w64 (x1.2.2.1+1),())
 else
  some (Sum.inr ())
def nD (a0:aW) (a1:aW):Option (Int×Unit):=
 Option.bind (strings_Compare a0.1 a1.1) fun r1=>
 Option.bind (strings_Compare a0.2.1 a1.2.1) fun r2=>
 Option.bind (strings_Compare a0.2.2.1 a1.2.2.1) fun r3=>
 aK (β:=(Int×Unit)) (γ:=Unit) (
  iter (X:=nW) (β:=uA) (List.length [r1.1,r2.1,r3.1]+(Int.natAbs ((List.length [r1.1,r2.1,r3.1]:Int))+(Int.natAbs (0:Int)+2))) ([r1.1,r2.1,r3.1],(List.length [r1.1,r2.1,r3.1]:Int),0,()) (nV)) fun _=>
 some (0,())
abbrev mW:Type:=(List aW)×(List aW)×Int×Int×Unit
abbrev sK:Type:=((Int×Unit) ⊕ Unit)
def mV (x1:mW) (again:mW→Option sK):Option sK:=
 bif decide (x1.2.2.2.1<x1.2.2.1) then
  Option.bind (idx x1.2.1 x1.2.2.2.1) fun y2=>
  Option.bind (kL y2.1) fun r3=>
  bif !r3.1 then
   some (Sum.inl (5,()))
  else
   Option.bind (kL y2.2.1) fun r4=>
   bif !r4.1 then
    some (Sum.inl (5,()))
   else
    bif !(y2.2.2.1==[]) then
     Option.bind (kL y2.2.2.1) fun r5=>
     bif !r5.1 then
      some (Sum.inl (5,()))
     else
      bif decide (x1.2.2.2.1>0) then
       Option.bind (idx x1.1 (w64 (x1.2.2.2.1 - 1))) fun y6=>
       Option.bind (nD y6 y2) fun r7=>
       bif decide (r7.1≥0) then
        some (Sum.inl (8,()))
       else
        Option.bind (iF y2.2.2.2 true) fun r8=>
        bif !r8.1 then
         some (Sum.inl (1,()))
        else
         again (x1.1,x1.2.1,x1.2.2.1,w64 (x1.2.2.2.1+1),())
      else
       Option.bind (iF y2.2.2.2 true) fun r9=>
       bif !r9.1 then
        some (Sum.inl (1,()))
       else
        again (x1.1,x1.2.1,x1.2.2.1,w64 (x1.2.2.2.1+1),())
    else
     bif decide (x1.2.2.2.1>0) then
      Option.bind (idx x1.1 (w64 (x1.2.2.2.1 - 1))) fun y10=>
      Option.bind (nD y10 y2) fun r11=>
      bif decide (r11.1≥0) then
       some (Sum.inl (8,()))
      else
       Option.bind (iF y2.2.2.2 true) fun r12=>
       bif !r12.1 then
        some (Sum.inl (1,()))
       else
        again (x1.1,x1.2.1,x1.2.2.1,w64 (x1.2.2.2.1+1),())
     else
      Option.bind (iF y2.2.2.2 true) fun r13=>
      bif !r13.1 then
       some (Sum.inl (1,()))
      else
       again (x1.1,x1.2.1,x1.2.2.1,w64 (x1.2.2.2.1+1),())
 else
  some (Sum.inr ())
def mM (a0:List aW):Option (Int×Unit):=
 bif decide (((List.length a0:Int))>100) then
  some (2,())
 else
  aK (β:=(Int×Unit)) (γ:=Unit) (
   iter (X:=mW) (β:=sK) (List.length a0+(List.length a0+(Int.natAbs ((List.length a0:Int))+(Int.natAbs (0:Int)+2)))) (a0,a0,(List.length a0:Int),0,()) (mV)) fun _=>
  some (0,())
abbrev pM:Type:=(List UInt8)×(List aa)×Int×Int×Unit
abbrev A8:Type:=((Int×Unit) ⊕ Unit)
def uS (x1:pM) (again:pM→Option A8):Option A8:=
 bif decide (x1.2.2.2.1<x1.2.2.1) then
  Option.bind (idx x1.2.1 x1.2.2.2.1) fun y2=>
  bif y2.1==x1.1 then
   some (Sum.inl (x1.2.2.2.1,()))
  else
   again (x1.1,x1.2.1,x1.2.2.1,w64 (x1.2.2.2.1+1),())
 else
  some (Sum.inr ())
def nE (a0:List aa) (a1:List UInt8):Option (Int×Unit):=
 aK (β:=(Int×Unit)) (γ:=Unit) (
  iter (X:=pM) (β:=A8) (List.length a1+(List.length a0+(Int.natAbs ((List.length a0:Int))+(Int.natAbs (0:Int)+2)))) (a1,a0,(List.length a0:Int),0,()) (uS)) fun _=>
 some ((-1),())
abbrev rD:Type:=(List aa)×Int×Int×Int×Int×Unit
abbrev Fc:Type:=((Bool×Unit) ⊕ Unit)
def vQ (x1:rD) (again:rD→Option Fc):Option Fc:=
 bif decide (x1.2.2.2.2.1<x1.2.2.2.1) then
  Option.bind (idx x1.1 x1.2.2.1) fun y2=>
  bif y2.2.1==[] then
   some (Sum.inl (false,()))
  else
   Option.bind (idx x1.1 x1.2.2.1) fun y3=>
   Option.bind (nE x1.1 y3.2.1) fun r4=>
   bif r4.1==x1.2.1 then
    some (Sum.inl (true,()))
   else
    again (x1.1,x1.2.1,r4.1,x1.2.2.2.1,w64 (x1.2.2.2.2.1+1),())
 else
  some (Sum.inr ())
def GG (a0:List aa) (a1:Int):Option (Bool×Unit):=
 aK (β:=(Bool×Unit)) (γ:=Unit) (
  iter (X:=rD) (β:=Fc) (List.length a0+(Int.natAbs a1+(Int.natAbs a1+(Int.natAbs ((List.length a0:Int))+(Int.natAbs (0:Int)+2))))) (a0,a1,a1,(List.length a0:Int),0,()) (vQ)) fun _=>
 some (false,())
abbrev DG:Type:=(List aa)×Int×(List Int)×Unit
abbrev MQ:Type:=(((List Int)×Bool×Unit) ⊕ ((List Int)×Unit))
def MP (x1:DG) (again:DG→Option MQ):Option MQ:=
 Option.bind (idx x1.1 x1.2.1) fun y2=>
 bif !(y2.2.1==[]) then
  Option.bind (idx x1.1 x1.2.1) fun y3=>
  Option.bind (nE x1.1 y3.2.1) fun r4=>
  bif decide (((x1.2.2.1.length:Int))>((x1.1.length:Int))) then
   some (Sum.inl ([],false,()))
  else
   chk (decide (((x1.2.2.1.length)+1)*8≤140737488355328)&&decide ((x1.2.2.1.length)+1≤maxLen)) <|
   again (x1.1,r4.1,x1.2.2.1++[r4.1],())
 else
  some (Sum.inr (x1.2.2.1,()))
def R5 (a0:List aa) (a1:Int):Option ((List Int)×Bool×Unit):=
 aK (β:=((List Int)×Bool×Unit)) (γ:=((List Int)×Unit)) (
  iter (X:=DG) (β:=MQ) (List.length a0+(Int.natAbs a1+(List.length ([a1]:List Int)+2))) (a0,a1,[a1],()) (MP)) fun v5=>
 some (v5.1,true,())
abbrev A6:Type:=(List aa)×(List aa)×Int×Int×Unit
abbrev Fe:Type:=((Int×Unit) ⊕ ((List aa)×Unit))
def A4 (x1:A6) (again:A6→Option Fe):Option Fe:=
 bif decide (x1.2.2.2.1<x1.2.2.1) then
  Option.bind (idx x1.2.1 x1.2.2.2.1) fun y2=>
  bif !(y2.2.1==[]) then
   Option.bind (nE x1.1 y2.2.1) fun r3=>
   bif decide (r3.1<0) then
    some (Sum.inl (9,()))
   else
    again (x1.1,x1.2.1,x1.2.2.1,w64 (x1.2.2.2.1+1),())
  else
   again (x1.1,x1.2.1,x1.2.2.1,w64 (x1.2.2.2.1+1),())
 else
  some (Sum.inr (x1.1,()))
abbrev A7:Type:=(List aa)×Int×Int×Unit
abbrev Ff:Type:=((Int×Unit) ⊕ ((List aa)×Unit))
def A5 (x1:A7) (again:A7→Option Ff):Option Ff:=
 bif decide (x1.2.2.1<x1.2.1) then
  Option.bind (GG x1.1 x1.2.2.1) fun r2=>
  bif r2.1 then
   some (Sum.inl (17,()))
  else
   again (x1.1,x1.2.1,w64 (x1.2.2.1+1),())
 else
  some (Sum.inr (x1.1,()))
abbrev yO:Type:=(List aa)×Int×Int×Unit
abbrev DV:Type:=((Int×Unit) ⊕ Unit)
def yN (x1:yO) (again:yO→Option DV):Option DV:=
 bif decide (x1.2.2.1<x1.2.1) then
  Option.bind (R5 x1.1 x1.2.2.1) fun r2=>
  bif !r2.2.1 then
   some (Sum.inl (2,()))
  else
   bif decide ((w64 (((r2.1.length:Int)) - 1))>5) then
    some (Sum.inl (2,()))
   else
    again (x1.1,x1.2.1,w64 (x1.2.2.1+1),())
 else
  some (Sum.inr ())
def GH (a0:List aa):Option (Int×Unit):=
 aK (β:=(Int×Unit)) (γ:=((List aa)×Unit)) (
  iter (X:=A6) (β:=Fe) (List.length a0+(List.length a0+(Int.natAbs ((List.length a0:Int))+(Int.natAbs (0:Int)+2)))) (a0,a0,(List.length a0:Int),0,()) (A4)) fun v4=>
 aK (β:=(Int×Unit)) (γ:=((List aa)×Unit)) (
  iter (X:=A7) (β:=Ff) (v4.1.length+(Int.natAbs ((v4.1.length:Int))+(Int.natAbs (0:Int)+2))) (v4.1,(v4.1.length:Int),0,()) (A5)) fun v7=>
 aK (β:=(Int×Unit)) (γ:=Unit) (
  iter (X:=yO) (β:=DV) (v7.1.length+(Int.natAbs ((v7.1.length:Int))+(Int.natAbs (0:Int)+2))) (v7.1,(v7.1.length:Int),0,()) (yN)) fun _=>
 some (0,())
abbrev pG:Type:=(List aa)×Int×Int×(List UInt8)×(List UInt8)×Int×(List aa)×Unit
abbrev vF:Type:=((Int×Unit) ⊕ ((List UInt8)×(List UInt8)×Int×(List aa)×Unit))
def pF (x1:pG) (again:pG→Option vF):Option vF:=
 bif decide (x1.2.2.1<x1.2.1) then
  Option.bind (idx x1.1 x1.2.2.1) fun y2=>
  Option.bind (yc y2.1) fun r3=>
  bif !r3.1 then
   some (Sum.inl (3,()))
  else
   bif decide (x1.2.2.1>0) then
    Option.bind (idx x1.2.2.2.2.2.2.1 (w64 (x1.2.2.1 - 1))) fun y4=>
    bif Op.bytesLess y2.1 y4.1||y2.1==y4.1 then
     some (Sum.inl (8,()))
    else
     Option.bind (iF y2.2.2.1 false) fun r5=>
     bif !r5.1 then
      some (Sum.inl (1,()))
     else
      Option.bind (mM y2.2.2.2) fun r6=>
      bif r6.1 != 0 then
       some (Sum.inl (r6.1,()))
      else
       again (x1.1,x1.2.1,w64 (x1.2.2.1+1),x1.2.2.2.1,x1.2.2.2.2.1,x1.2.2.2.2.2.1,x1.2.2.2.2.2.2.1,())
   else
    Option.bind (iF y2.2.2.1 false) fun r7=>
    bif !r7.1 then
     some (Sum.inl (1,()))
    else
     Option.bind (mM y2.2.2.2) fun r8=>
     bif r8.1 != 0 then
      some (Sum.inl (r8.1,()))
     else
      again (x1.1,x1.2.1,w64 (x1.2.2.1+1),x1.2.2.2.1,x1.2.2.2.2.1,x1.2.2.2.2.2.1,x1.2.2.2.2.2.2.1,())
 else
  some (Sum.inr (x1.2.2.2.1,x1.2.2.2.2.1,x1.2.2.2.2.2.1,x1.2.2.2.2.2.2.1,()))
def uQ (a0:di):Option (Int×Unit):=
 Option.bind (kL a0.1) fun r1=>
 bif !r1.1 then
  some (5,())
 else
  Option.bind (kL a0.2.1) fun r2=>
  bif !r2.1 then
   some (5,())
  else
   Option.bind (J4 a0.2.2.1) fun r3=>
   bif !r3.1 then
    some (1,())
   else
    bif decide (((a0.2.2.2.length:Int))>500) then
     some (2,())
    else
     aK (β:=(Int×Unit)) (γ:=((List UInt8)×(List UInt8)×Int×(List aa)×Unit)) (
      iter (X:=pG) (β:=vF) (a0.2.2.2.length+(Int.natAbs ((a0.2.2.2.length:Int))+(Int.natAbs (0:Int)+(a0.1.length+(a0.2.1.length+(a0.2.2.1.natAbs+(a0.2.2.2.length+2))))))) (a0.2.2.2,(a0.2.2.2.length:Int),0,a0.1,a0.2.1,a0.2.2.1,a0.2.2.2,()) (pF)) fun v12=>
     Option.bind (GH v12.2.2.2.1) fun r13=>
     some (r13.1,())
abbrev rj:Type:=Int×Int×Int×Unit
abbrev w6:Type:=((Int×Bool×Unit) ⊕ (Int×Unit))
def w5 (x1:rj) (again:rj→Option w6):Option w6:=
 bif decide (x1.2.2.1<x1.2.1) then
  again (w64 (x1.1*10),x1.2.1,w64 (x1.2.2.1+1),())
 else
  some (Sum.inr (x1.1,()))
def yb (a0:List UInt8):Option (Int×Bool×Unit):=
 bif decide (((List.length a0:Int))>15) then
  some (0,false,())
 else
  Option.bind (vu a0) fun r1=>
  bif !r1.1 then
   some (0,false,())
  else
   aK (β:=(Int×Bool×Unit)) (γ:=(Int×Unit)) (
    iter (X:=rj) (β:=w6) (Int.natAbs (1:Int)+(Int.natAbs (w64 (17 - ((List.length a0:Int))))+(Int.natAbs (0:Int)+2))) (1,w64 (17 - ((List.length a0:Int))),0,()) (w5)) fun v3=>
   some (v3.1,true,())
abbrev cK:Type:=Int×(List UInt8)×Int×Unit
abbrev gh:Type:=(((List UInt8)×Int×Unit) ⊕ Unit)
def cH (x1:cK) (again:cK→Option gh):Option gh:=
 bif decide (x1.2.2.1<10) then
  Option.bind (strconv_Itoa x1.2.2.1) fun r2=>
  chk (decide (x1.2.1.length+r2.1.length≤maxLen)) <|
  Option.bind (me x1.1 (x1.2.1++r2.1)) fun r3=>
  bif r3.1 then
   some (Sum.inl (x1.2.1++r2.1,0,()))
  else
   again (x1.1,x1.2.1,w64 (x1.2.2.1+1),())
 else
  some (Sum.inr ())
def gZ (a0:Int) (a1:List UInt8):Option ((List UInt8)×Int×Unit):=
 Option.bind (kI a0) fun r1=>
 bif !r1.1 then
  some ([],4,())
 else
  bif decide (((List.length a1:Int))>34) then
   some ([],3,())
  else
   bif a0==4 then
    bif decide (((List.length a1:Int))<2) then
     some ([],3,())
    else
     Option.bind (Kn a1) fun r2=>
     bif !r2.1 then
      some ([],3,())
     else
      bif decide (((List.length a1:Int))<13) then
       some ([],3,())
      else
       chk (decide (0≤(0:Int))&&decide ((0:Int)≤2)&&decide (2≤(List.length a1:Int))) <|
       chk (decide (List.length (List.drop 0 (List.take (Int.toNat 2) a1))+List.length [48,48]≤maxLen)) <|
       chk (decide (0≤(2:Int))&&decide ((2:Int)≤((List.length a1:Int)))&&decide (((List.length a1:Int))≤(List.length a1:Int))) <|
       chk (decide (List.length ((List.drop 0 (List.take (Int.toNat 2) a1))++[48,48])+List.length (List.drop 2 (List.take (Int.toNat ((List.length a1:Int))) a1))≤maxLen)) <|
       Option.bind (D3 (((List.drop 0 (List.take (Int.toNat 2) a1))++[48,48])++(List.drop 2 (List.take (Int.toNat ((List.length a1:Int))) a1)))) fun r3=>
       chk (decide (0≤(0:Int))&&decide ((0:Int)≤2)&&decide (2≤(List.length a1:Int))) <|
       Option.bind (Ko (w64 (98 - r3.1)) 2) fun r4=>
       chk (decide (List.length (List.drop 0 (List.take (Int.toNat 2) a1))+r4.1.length≤maxLen)) <|
       chk (decide (0≤(2:Int))&&decide ((2:Int)≤((List.length a1:Int)))&&decide (((List.length a1:Int))≤(List.length a1:Int))) <|
       chk (decide (List.length ((List.drop 0 (List.take (Int.toNat 2) a1))++r4.1)+List.length (List.drop 2 (List.take (Int.toNat ((List.length a1:Int))) a1))≤maxLen)) <|
       Option.bind (DN (((List.drop 0 (List.take (Int.toNat 2) a1))++r4.1)++(List.drop 2 (List.take (Int.toNat ((List.length a1:Int))) a1)))) fun r5=>
       bif !r5.1 then
        some ([],3,())
       else
        some (((List.drop 0 (List.take (Int.toNat 2) a1))++r4.1)++(List.drop 2 (List.take (Int.toNat ((List.length a1:Int))) a1)),0,())
   else
    aK (β:=((List UInt8)×Int×Unit)) (γ:=Unit) (
     iter (X:=cK) (β:=gh) (Int.natAbs a0+(List.length a1+(Int.natAbs (0:Int)+2))) (a0,a1,0,()) (cH)) fun _=>
    some ([],3,())
def bB (a0:List UInt8) (a1:Int):Option ((List UInt8)×Int×Unit):=
 Option.bind (yb a0) fun r1=>
 bif !r1.2.1 then
  some ([],3,())
 else
  Option.bind (nc a1 0 (w64 (r1.1 - 1))) fun r2=>
  bif r2.1 then
   some ([],1,())
  else
   Option.bind (strconv_Itoa a1) fun r3=>
   let n4:Int:=w64 ((w64 (17 - ((List.length a0:Int)))) - ((r3.1.length:Int)))
   Option.bind (strings_Repeat [48] n4) fun r5=>
   chk (decide (List.length a0+r5.1.length≤maxLen)) <|
   chk (decide (List.length (a0++r5.1)+r3.1.length≤maxLen)) <|
   Option.bind (gZ 3 ((a0++r5.1)++r3.1)) fun r6=>
   some (r6.1,r6.2.1,())
def Mp:Option (Bool×Unit):=
 Option.bind (bB [51,52,48,49,50,51,52,53] 1) fun r1=>
 bif r1.2.1==0 then
  some (r1.1==[51,52,48,49,50,51,52,53,48,48,48,48,48,48,48,48,49,55],())
 else
  some (false,())
end Go.Md
namespace Go.Md
open Go.Dn
abbrev mo:Type:=(List aR)×(List aR)×Int×Int×Unit
abbrev q9:Type:=((Int×Unit) ⊕ Unit)
def mm (x1:mo) (again:mo→Option q9):Option q9:=
 bif decide (x1.2.2.2.1<x1.2.2.1) then
  Option.bind (idx x1.2.1 x1.2.2.2.1) fun y2=>
  Option.bind (gj y2.1) fun r3=>
  bif !r3.1 then
   some (Sum.inl (5,()))
  else
   Option.bind (gj y2.2.1) fun r4=>
   bif !r4.1 then
    some (Sum.inl (5,()))
   else
    bif decide (x1.2.2.2.1>0) then
     Option.bind (idx x1.1 (w64 (x1.2.2.2.1 - 1))) fun y5=>
     Option.bind (strings_Compare y5.1 y2.1) fun r6=>
     Option.bind (idx x1.1 (w64 (x1.2.2.2.1 - 1))) fun y7=>
     Option.bind (strings_Compare y7.2.1 y2.2.1) fun r8=>
     Option.bind (Ap [r6.1,r8.1]) fun r9=>
     bif decide (r9.1≥0) then
      some (Sum.inl (8,()))
     else
      Option.bind (ck y2.2.2 true) fun r10=>
      bif r10.1 != 0 then
       some (Sum.inl (r10.1,()))
      else
       again (x1.1,x1.2.1,x1.2.2.1,w64 (x1.2.2.2.1+1),())
    else
     Option.bind (ck y2.2.2 true) fun r11=>
     bif r11.1 != 0 then
      some (Sum.inl (r11.1,()))
     else
      again (x1.1,x1.2.1,x1.2.2.1,w64 (x1.2.2.2.1+1),())
 else
  some (Sum.inr ())
def oW (a0:List aR):Option (Int×Unit):=
 bif decide (((List.length a0:Int))>500) then
  some (2,())
 else
  aK (β:=(Int×Unit)) (γ:=Unit) (
   iter (X:=mo) (β:=q9) (List.length a0+(List.length a0+(Int.natAbs ((List.length a0:Int))+(Int.natAbs (0:Int)+2)))) (a0,a0,(List.length a0:Int),0,()) (mm)) fun _=>
  some (0,())
abbrev iJ:Type:=(List aa)×(List aR)×Int×Int×Bool×(List Int)×(List (bD×ak))×Unit
abbrev qH:Type:=((aL×Bool×Unit) ⊕ ((List aa)×Bool×(List Int)×(List (bD×ak))×Unit))
def qG (x1:iJ) (again:iJ→Option qH):Option qH:=
 bif decide (x1.2.2.2.1<x1.2.2.1) then
  Option.bind (idx x1.2.1 x1.2.2.2.1) fun y2=>
  again (x1.1,x1.2.1,x1.2.2.1,w64 (x1.2.2.2.1+1),x1.2.2.2.2.1,x1.2.2.2.2.2.1,oa (k:=bN) (v:=aY) x1.2.2.2.2.2.2.1 (y2.1,y2.2.1) y2.2.2,())
 else
  some (Sum.inr (x1.1,x1.2.2.2.2.1,x1.2.2.2.2.2.1,x1.2.2.2.2.2.2.1,()))
abbrev fV:Type:=(List aa)×Int×Int×(List aW)×Int×Int×Bool×(List Int)×Bool×(List Int)×(List (bD×ak))×Unit
abbrev pz:Type:=(((aL×Bool×Unit) ⊕ (Bool×(List Int)×Bool×(List Int)×Unit)) ⊕ ((List aa)×Int×Int×Bool×(List Int)×Bool×(List Int)×(List (bD×ak))×Unit))
def lX (x1:fV) (again:fV→Option pz):Option pz:=
 bif decide (x1.2.2.2.2.2.1<x1.2.2.2.2.1) then
  Option.bind (idx x1.2.2.2.1 x1.2.2.2.2.2.1) fun y2=>
  bif !(Option.isSome (cw (k:=bN) (v:=aY) x1.2.2.2.2.2.2.2.2.2.2.1 (y2.1,y2.2.1))) then
   DS <|
    some (Sum.inl ((x1.2.2.2.2.2.2.2.2.1,x1.2.2.2.2.2.2.2.2.2.1),false,()))
  else
   Option.bind (iC y2.2.2.2 3) fun r3=>
   Option.bind (iC (Option.getD (cw (k:=bN) (v:=aY) x1.2.2.2.2.2.2.2.2.2.2.1 (y2.1,y2.2.1)) (0,0)) 3) fun r4=>
   Option.bind (iP r3.1 r4.1) fun r5=>
   Option.bind (fQ (x1.2.2.2.2.2.2.2.2.1,x1.2.2.2.2.2.2.2.2.2.1) r5.1) fun r6=>
   again (x1.1,x1.2.1,x1.2.2.1,x1.2.2.2.1,x1.2.2.2.2.1,w64 (x1.2.2.2.2.2.1+1),x1.2.2.2.2.2.2.1,x1.2.2.2.2.2.2.2.1,r6.1.1,r6.1.2,x1.2.2.2.2.2.2.2.2.2.2.1,())
 else
  some (Sum.inr (x1.1,x1.2.1,x1.2.2.1,x1.2.2.2.2.2.2.1,x1.2.2.2.2.2.2.2.1,x1.2.2.2.2.2.2.2.2.1,x1.2.2.2.2.2.2.2.2.2.1,x1.2.2.2.2.2.2.2.2.2.2.1,()))
abbrev kD:Type:=(List aa)×Int×Int×Bool×(List Int)×Bool×(List Int)×(List (bD×ak))×Unit
abbrev xI:Type:=((aL×Bool×Unit) ⊕ (Bool×(List Int)×Bool×(List Int)×Unit))
def mL (x1:kD) (again:kD→Option xI):Option xI:=
 bif decide (x1.2.2.1<x1.2.1) then
  Option.bind (idx x1.1 x1.2.2.1) fun y2=>
  Option.bind (iC y2.2.2.1 6) fun r3=>
  Option.bind (fQ (x1.2.2.2.2.2.1,x1.2.2.2.2.2.2.1) r3.1) fun r4=>
  aK (β:=((aL×Bool×Unit) ⊕ (Bool×(List Int)×Bool×(List Int)×Unit))) (γ:=((List aa)×Int×Int×Bool×(List Int)×Bool×(List Int)×(List (bD×ak))×Unit)) (
   iter (X:=fV) (β:=pz) (x1.1.length+(x1.2.1.natAbs+(x1.2.2.1.natAbs+(y2.2.2.2.length+(Int.natAbs ((y2.2.2.2.length:Int))+(Int.natAbs (0:Int)+(x1.2.2.2.2.1.length+(r4.1.2.length+(x1.2.2.2.2.2.2.2.1.length+2))))))))) (x1.1,x1.2.1,x1.2.2.1,y2.2.2.2,(y2.2.2.2.length:Int),0,x1.2.2.2.1,x1.2.2.2.2.1,r4.1.1,r4.1.2,x1.2.2.2.2.2.2.2.1,()) (lX)) fun v5=>
  again (v5.1,v5.2.1,w64 (v5.2.2.1+1),v5.2.2.2.1,v5.2.2.2.2.1,v5.2.2.2.2.2.1,v5.2.2.2.2.2.2.1,v5.2.2.2.2.2.2.2.1,())
 else
  some (Sum.inr (x1.2.2.2.1,x1.2.2.2.2.1,x1.2.2.2.2.2.1,x1.2.2.2.2.2.2.1,()))
def rm (a0:List aa) (a1:List aR):Option (aL×Bool×Unit):=
 aK (β:=(aL×Bool×Unit)) (γ:=((List aa)×Bool×(List Int)×(List (bD×ak))×Unit)) (
  iter (X:=iJ) (β:=qH) (List.length a0+(List.length a1+(Int.natAbs ((List.length a1:Int))+(Int.natAbs (0:Int)+(List.length ([]:List Int)+(List.length ([]:List (bD×ak))+2)))))) (a0,a1,(List.length a1:Int),0,false,[],[],()) (qG)) fun v3=>
 Option.bind (qw 0) fun r4=>
 aK (β:=(aL×Bool×Unit)) (γ:=(Bool×(List Int)×Bool×(List Int)×Unit)) (
  iter (X:=kD) (β:=xI) (v3.1.length+(Int.natAbs ((v3.1.length:Int))+(Int.natAbs (0:Int)+(v3.2.2.1.length+(r4.1.2.length+(v3.2.2.2.1.length+2)))))) (v3.1,(v3.1.length:Int),0,v3.2.1,v3.2.2.1,r4.1.1,r4.1.2,v3.2.2.2.1,()) (mL)) fun v16=>
 some ((v16.2.2.1,v16.2.2.2.1),true,())
abbrev pI:Type:=(List aR)×(List aR)×Int×Int×Unit
abbrev vG:Type:=((Int×Unit) ⊕ Unit)
def pH (x1:pI) (again:pI→Option vG):Option vG:=
 bif decide (x1.2.2.2.1<x1.2.2.1) then
  Option.bind (idx x1.2.1 x1.2.2.2.1) fun y2=>
  Option.bind (kL y2.1) fun r3=>
  bif !r3.1 then
   some (Sum.inl (5,()))
  else
   Option.bind (kL y2.2.1) fun r4=>
   bif !r4.1 then
    some (Sum.inl (5,()))
   else
    bif decide (x1.2.2.2.1>0) then
     Option.bind (idx x1.1 (w64 (x1.2.2.2.1 - 1))) fun y5=>
     bif Op.bytesLess y2.1 y5.1 then
      some (Sum.inl (8,()))
     else
      Option.bind (idx x1.1 (w64 (x1.2.2.2.1 - 1))) fun y6=>
      bif y2.1==y6.1 then
       Option.bind (idx x1.1 (w64 (x1.2.2.2.1 - 1))) fun y7=>
       bif Op.bytesLess y2.2.1 y7.2.1||y2.2.1==y7.2.1 then
        some (Sum.inl (8,()))
       else
        Option.bind (iF y2.2.2 false) fun r8=>
        bif !r8.1 then
         some (Sum.inl (1,()))
        else
         again (x1.1,x1.2.1,x1.2.2.1,w64 (x1.2.2.2.1+1),())
      else
       Option.bind (iF y2.2.2 false) fun r9=>
       bif !r9.1 then
        some (Sum.inl (1,()))
       else
        again (x1.1,x1.2.1,x1.2.2.1,w64 (x1.2.2.2.1+1),())
    else
     Option.bind (iF y2.2.2 false) fun r10=>
     bif !r10.1 then
      some (Sum.inl (1,()))
     else
      again (x1.1,x1.2.1,x1.2.2.1,w64 (x1.2.2.2.1+1),())
 else
  some (Sum.inr ())
def uR (a0:List aR):Option (Int×Unit):=
 bif decide (((List.length a0:Int))>500) then
  some (2,())
 else
  aK (β:=(Int×Unit)) (γ:=Unit) (
   iter (X:=pI) (β:=vG) (List.length a0+(List.length a0+(Int.natAbs ((List.length a0:Int))+(Int.natAbs (0:Int)+2)))) (a0,a0,(List.length a0:Int),0,()) (pH)) fun _=>
  some (0,())
def pN (a0:ak):Option (aj×Unit):=
 Option.bind (CI a0 9) fun r1=>
 some (r1.1,())
abbrev tP:Type:=(List UInt8)×(List UInt8)×(List aR)×Int×Int×Unit
abbrev DU:Type:=((Int×Unit) ⊕ Unit)
def yM (x1:tP) (again:tP→Option DU):Option DU:=
 bif decide (x1.2.2.2.2.1<x1.2.2.2.1) then
  Option.bind (idx x1.2.2.1 x1.2.2.2.2.1) fun y2=>
  bif y2.1==x1.1 then
   bif y2.2.1==x1.2.1 then
    some (Sum.inl (x1.2.2.2.2.1,()))
   else
    again (x1.1,x1.2.1,x1.2.2.1,x1.2.2.2.1,w64 (x1.2.2.2.2.1+1),())
  else
   again (x1.1,x1.2.1,x1.2.2.1,x1.2.2.2.1,w64 (x1.2.2.2.2.1+1),())
 else
  some (Sum.inr ())
def En (a0:List aR) (a1:List UInt8) (a2:List UInt8):Option (Int×Unit):=
 aK (β:=(Int×Unit)) (γ:=Unit) (
  iter (X:=tP) (β:=DU) (List.length a1+(List.length a2+(List.length a0+(Int.natAbs ((List.length a0:Int))+(Int.natAbs (0:Int)+2))))) (a1,a2,a0,(List.length a0:Int),0,()) (yM)) fun _=>
 some ((-1),())
abbrev rF:Type:=(List aa)×(List aR)×(List Int)×Int×Int×(List aW)×Int×Int×Bool×(List Int)×Bool×(List Int)×Unit
abbrev Fh:Type:=(((aj×Bool×Unit) ⊕ (Bool×(List Int)×Bool×(List Int)×Unit)) ⊕ ((List aa)×(List aR)×(List Int)×Int×Int×Bool×(List Int)×Bool×(List Int)×Unit))
def vV (x1:rF) (again:rF→Option Fh):Option Fh:=
 bif decide (x1.2.2.2.2.2.2.2.1<x1.2.2.2.2.2.2.1) then
  Option.bind (idx x1.2.2.2.2.2.1 x1.2.2.2.2.2.2.2.1) fun y2=>
  Option.bind (En x1.2.1 y2.1 y2.2.1) fun r3=>
  bif decide (r3.1<0) then
   DS <|
    some (Sum.inl ((x1.2.2.2.2.2.2.2.2.2.2.1,x1.2.2.2.2.2.2.2.2.2.2.2.1),false,()))
  else
   Option.bind (idx x1.2.1 r3.1) fun y4=>
   Option.bind (GK y2.2.2.2.1) fun r5=>
   Option.bind (GK y4.2.2.1) fun r6=>
   Option.bind (pP r5.1 r6.1) fun r7=>
   Option.bind (B8 (w64 ((w64 (9 - y2.2.2.2.2)) - y4.2.2.2))) fun r8=>
   Option.bind (pP r7.1 r8.1) fun r9=>
   Option.bind (Ac (x1.2.2.2.2.2.2.2.2.2.2.1,x1.2.2.2.2.2.2.2.2.2.2.2.1) r9.1) fun r10=>
   again (x1.1,x1.2.1,x1.2.2.1,x1.2.2.2.1,x1.2.2.2.2.1,x1.2.2.2.2.2.1,x1.2.2.2.2.2.2.1,w64 (x1.2.2.2.2.2.2.2.1+1),x1.2.2.2.2.2.2.2.2.1,x1.2.2.2.2.2.2.2.2.2.1,r10.1.1,r10.1.2,())
 else
  some (Sum.inr (x1.1,x1.2.1,x1.2.2.1,x1.2.2.2.1,x1.2.2.2.2.1,x1.2.2.2.2.2.2.2.2.1,x1.2.2.2.2.2.2.2.2.2.1,x1.2.2.2.2.2.2.2.2.2.2.1,x1.2.2.2.2.2.2.2.2.2.2.2.1,()))
abbrev rE:Type:=(List aa)×(List aR)×(List Int)×Int×Int×Bool×(List Int)×Bool×(List Int)×Unit
abbrev Fg:Type:=((aj×Bool×Unit) ⊕ (Bool×(List Int)×Bool×(List Int)×Unit))
def vU (x1:rE) (again:rE→Option Fg):Option Fg:=
 bif decide (x1.2.2.2.2.1<x1.2.2.2.1) then
  Option.bind (idx x1.2.2.1 x1.2.2.2.2.1) fun y2=>
  Option.bind (idx x1.1 y2) fun y3=>
  Option.bind (pN y3.2.2.1) fun r4=>
  Option.bind (Ac (x1.2.2.2.2.2.2.2.1,x1.2.2.2.2.2.2.2.2.1) r4.1) fun r5=>
  Option.bind (idx x1.1 y2) fun y6=>
  aK (β:=((aj×Bool×Unit) ⊕ (Bool×(List Int)×Bool×(List Int)×Unit))) (γ:=((List aa)×(List aR)×(List Int)×Int×Int×Bool×(List Int)×Bool×(List Int)×Unit)) (
   iter (X:=rF) (β:=Fh) (x1.1.length+(x1.2.1.length+(x1.2.2.1.length+(x1.2.2.2.1.natAbs+(x1.2.2.2.2.1.natAbs+(y6.2.2.2.length+(Int.natAbs ((y6.2.2.2.length:Int))+(Int.natAbs (0:Int)+(x1.2.2.2.2.2.2.1.length+(r5.1.2.length+2)))))))))) (x1.1,x1.2.1,x1.2.2.1,x1.2.2.2.1,x1.2.2.2.2.1,y6.2.2.2,(y6.2.2.2.length:Int),0,x1.2.2.2.2.2.1,x1.2.2.2.2.2.2.1,r5.1.1,r5.1.2,()) (vV)) fun v7=>
  again (v7.1,v7.2.1,v7.2.2.1,v7.2.2.2.1,w64 (v7.2.2.2.2.1+1),v7.2.2.2.2.2.1,v7.2.2.2.2.2.2.1,v7.2.2.2.2.2.2.2.1,v7.2.2.2.2.2.2.2.2.1,())
 else
  some (Sum.inr (x1.2.2.2.2.2.1,x1.2.2.2.2.2.2.1,x1.2.2.2.2.2.2.2.1,x1.2.2.2.2.2.2.2.2.1,()))
def DH (a0:List aa) (a1:List aR) (a2:List Int):Option (aj×Bool×Unit):=
 aK (β:=(aj×Bool×Unit)) (γ:=(Bool×(List Int)×Bool×(List Int)×Unit)) (
  iter (X:=rE) (β:=Fg) (List.length a0+(List.length a1+(List.length a2+(Int.natAbs ((List.length a2:Int))+(Int.natAbs (0:Int)+(List.length ([]:List Int)+(List.length ([]:List Int)+2))))))) (a0,a1,a2,(List.length a2:Int),0,false,[],false,[],()) (vU)) fun v18=>
 some ((v18.2.2.1,v18.2.2.2.1),true,())
end Go.Md
namespace Go.Md
open Go.Dn
def vk (a0:ak):Option (aL×Unit):=
 Option.bind (iC a0 9) fun r1=>
 some (r1.1,())
end Go.Md
