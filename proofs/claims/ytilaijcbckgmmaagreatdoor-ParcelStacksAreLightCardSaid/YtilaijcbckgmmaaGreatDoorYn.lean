/-
  The plain models of the functions that the law reaches, second part. No condition.
-/
import Derived.Test.YtilaijcbckgmmaaGreatDoorYm
import Derived.Lib.Bytealg
import Derived.Lib.Repeat
import Derived.Lib.ItoaNum
set_option linter.all false
namespace Go.Md
open Go.Dn
def strings_Compare (a b:List UInt8):Option (Int×Unit):=some (Lib.compareBytes a b,())
abbrev zN:Type:=(List UInt8)×ai
abbrev tT:Type:=Bool×ai×(List UInt8)
abbrev Cf:Type:=Int×Int×(List UInt8)×ai×(List UInt8)×ai×Int×(List tT)×(List UInt8)
abbrev MS:Type:=(List UInt8)×(List UInt8)×Int×Int×Int×Bool×(List zN)×(List Cf)×(List tT)
abbrev xI:Type:=Int×Int×Int×Unit
abbrev xH:Type:=((Int×Unit) ⊕ (Int×Unit))
def LD (x1:xI) (again:xI→Option xH):Option xH:=
 bif decide (x1.2.2.1<x1.2.1) then
  again (w64 (x1.1*10),x1.2.1,w64 (x1.2.2.1+1),())
 else
  some (Sum.inr (x1.1,()))
def B5 (a0:Int):Option (Int×Unit):=
 aO (β:=(Int×Unit)) (γ:=(Int×Unit)) (
  iter (X:=xI) (β:=xH) (Int.natAbs (1:Int)+(Int.natAbs a0+(Int.natAbs (0:Int)+2))) (1,a0,0,()) (LD)) fun v2=>
 some (v2.1,())
def wE (a0:ai) (a1:Int) (a2:Int):Option (Bool×Unit):=
 bif decide (a0.2≤a1) then
  bif decide (a0.1≥0) then
   Option.bind (B5 a0.2) fun r1=>
   some (decide (a0.1≤(w64 (a2*r1.1))),())
  else
   some (false,())
 else
  some (false,())
abbrev kH:Type:=Int×Int×Int×(List Int)×Int×Int×(List Int)×Int×Int×Bool×(List Int)×Bool×(List Int)×Bool×(List Int)×(List Int)×Unit
abbrev sG:Type:=(((ay×Unit) ⊕ (Bool×(List Int)×Bool×(List Int)×Bool×(List Int)×(List Int)×Unit)) ⊕ (Int×Int×(List Int)×Int×Int×Bool×(List Int)×Bool×(List Int)×Bool×(List Int)×(List Int)×Unit))
def nB (x1:kH) (again:kH→Option sG):Option sG:=
 bif decide (x1.2.2.2.2.2.2.2.2.1<x1.2.2.2.2.2.2.2.1) then
  Option.bind (idx x1.2.2.2.2.2.2.1 x1.2.2.2.2.2.2.2.2.1) fun y2=>
  chk (decide (0≤(w64 (x1.1+x1.2.2.2.2.2.2.2.2.1)))&&decide ((w64 (x1.1+x1.2.2.2.2.2.2.2.2.1))<(x1.2.2.2.2.2.2.2.2.2.2.2.2.2.2.2.1.length:Int))) <|
  Option.bind (x1.2.2.2.2.2.2.2.2.2.2.2.2.2.2.2.1[(w64 (x1.1+x1.2.2.2.2.2.2.2.2.1)).toNat]?) fun y3=>
  let n4:Int:=bK ((bK y3)+(bK ((bK x1.2.1)*(bK y2))))
  chk (decide (0≤(w64 (x1.1+x1.2.2.2.2.2.2.2.2.1)))&&decide ((w64 (x1.1+x1.2.2.2.2.2.2.2.2.1))<(x1.2.2.2.2.2.2.2.2.2.2.2.2.2.2.2.1.length:Int))) <|
  Option.bind (x1.2.2.2.2.2.2.2.2.2.2.2.2.2.2.2.1[(w64 (x1.1+x1.2.2.2.2.2.2.2.2.1)).toNat]?) fun _=>
  again (x1.1,x1.2.1,Int.fdiv (bK (x1.2.2.1+n4)) (2 ^ 32),x1.2.2.2.1,x1.2.2.2.2.1,x1.2.2.2.2.2.1,x1.2.2.2.2.2.2.1,x1.2.2.2.2.2.2.2.1,w64 (x1.2.2.2.2.2.2.2.2.1+1),x1.2.2.2.2.2.2.2.2.2.1,x1.2.2.2.2.2.2.2.2.2.2.1,x1.2.2.2.2.2.2.2.2.2.2.2.1,x1.2.2.2.2.2.2.2.2.2.2.2.2.1,x1.2.2.2.2.2.2.2.2.2.2.2.2.2.1,x1.2.2.2.2.2.2.2.2.2.2.2.2.2.2.1,List.set x1.2.2.2.2.2.2.2.2.2.2.2.2.2.2.2.1 (w64 (x1.1+x1.2.2.2.2.2.2.2.2.1)).toNat (lu (bK (x1.2.2.1+n4))),())
 else
  some (Sum.inr (x1.1,x1.2.2.1,x1.2.2.2.1,x1.2.2.2.2.1,x1.2.2.2.2.2.1,x1.2.2.2.2.2.2.2.2.2.1,x1.2.2.2.2.2.2.2.2.2.2.1,x1.2.2.2.2.2.2.2.2.2.2.2.1,x1.2.2.2.2.2.2.2.2.2.2.2.2.1,x1.2.2.2.2.2.2.2.2.2.2.2.2.2.1,x1.2.2.2.2.2.2.2.2.2.2.2.2.2.2.1,x1.2.2.2.2.2.2.2.2.2.2.2.2.2.2.2.1,()))
abbrev kG:Type:=(List Int)×Int×Int×Bool×(List Int)×Bool×(List Int)×Bool×(List Int)×(List Int)×Unit
abbrev sF:Type:=((ay×Unit) ⊕ (Bool×(List Int)×Bool×(List Int)×Bool×(List Int)×(List Int)×Unit))
def nA (x1:kG) (again:kG→Option sF):Option sF:=
 bif decide (x1.2.2.1<x1.2.1) then
  Option.bind (idx x1.1 x1.2.2.1) fun y2=>
  aO (β:=((ay×Unit) ⊕ (Bool×(List Int)×Bool×(List Int)×Bool×(List Int)×(List Int)×Unit))) (γ:=(Int×Int×(List Int)×Int×Int×Bool×(List Int)×Bool×(List Int)×Bool×(List Int)×(List Int)×Unit)) (
   iter (X:=kH) (β:=sG) (x1.2.2.1.natAbs+(Int.natAbs y2+(Int.natAbs (0:Int)+(x1.1.length+(x1.2.1.natAbs+(x1.2.2.1.natAbs+(x1.2.2.2.2.2.2.1.length+(Int.natAbs ((x1.2.2.2.2.2.2.1.length:Int))+(Int.natAbs (0:Int)+(x1.2.2.2.2.1.length+(x1.2.2.2.2.2.2.1.length+(x1.2.2.2.2.2.2.2.2.1.length+(x1.2.2.2.2.2.2.2.2.2.1.length+2))))))))))))) (x1.2.2.1,y2,0,x1.1,x1.2.1,x1.2.2.1,x1.2.2.2.2.2.2.1,(x1.2.2.2.2.2.2.1.length:Int),0,x1.2.2.2.1,x1.2.2.2.2.1,x1.2.2.2.2.2.1,x1.2.2.2.2.2.2.1,x1.2.2.2.2.2.2.2.1,x1.2.2.2.2.2.2.2.2.1,x1.2.2.2.2.2.2.2.2.2.1,()) (nB)) fun v3=>
  chk (decide (0≤(w64 (v3.1+((v3.2.2.2.2.2.2.2.2.1.length:Int)))))&&decide ((w64 (v3.1+((v3.2.2.2.2.2.2.2.2.1.length:Int))))<(v3.2.2.2.2.2.2.2.2.2.2.2.1.length:Int))) <|
  Option.bind (v3.2.2.2.2.2.2.2.2.2.2.2.1[(w64 (v3.1+((v3.2.2.2.2.2.2.2.2.1.length:Int)))).toNat]?) fun _=>
  again (v3.2.2.1,v3.2.2.2.1,w64 (v3.2.2.2.2.1+1),v3.2.2.2.2.2.1,v3.2.2.2.2.2.2.1,v3.2.2.2.2.2.2.2.1,v3.2.2.2.2.2.2.2.2.1,v3.2.2.2.2.2.2.2.2.2.1,v3.2.2.2.2.2.2.2.2.2.2.1,List.set v3.2.2.2.2.2.2.2.2.2.2.2.1 (w64 (v3.1+((v3.2.2.2.2.2.2.2.2.1.length:Int)))).toNat (lu v3.2.1),())
 else
  some (Sum.inr (x1.2.2.2.1,x1.2.2.2.2.1,x1.2.2.2.2.2.1,x1.2.2.2.2.2.2.1,x1.2.2.2.2.2.2.2.1,x1.2.2.2.2.2.2.2.2.1,x1.2.2.2.2.2.2.2.2.2.1,()))
def gO (a0:ay) (a1:ay):Option (ay×Unit):=
 chk (decide (0≤(w64 (((a0.2.length:Int))+((a1.2.length:Int)))))&&decide ((w64 (((a0.2.length:Int))+((a1.2.length:Int))))≤(w64 (((a0.2.length:Int))+((a1.2.length:Int)))))&&decide ((4:Int)*(w64 (((a0.2.length:Int))+((a1.2.length:Int))))≤281474976710656)&&decide ((w64 (((a0.2.length:Int))+((a1.2.length:Int))))≤9223372036854775807)) <|
 aO (β:=(ay×Unit)) (γ:=(Bool×(List Int)×Bool×(List Int)×Bool×(List Int)×(List Int)×Unit)) (
  iter (X:=kG) (β:=sF) (a0.2.length+(Int.natAbs ((a0.2.length:Int))+(Int.natAbs (0:Int)+(a0.2.length+(a1.2.length+(List.length ([]:List Int)+(List.length ((List.replicate (Int.toNat (w64 (((a0.2.length:Int))+((a1.2.length:Int))))) 0):List Int)+2))))))) (a0.2,(a0.2.length:Int),0,a0.1,a0.2,a1.1,a1.2,false,[],List.replicate (Int.toNat (w64 (((a0.2.length:Int))+((a1.2.length:Int))))) 0,()) (nA)) fun v10=>
 Option.bind (iu (!(v10.1==v10.2.2.1)) v10.2.2.2.2.2.2.1) fun r11=>
 some (r11.1,())
abbrev oL:Type:=Int×Int×Bool×(List Int)×Bool×(List Int)×Unit
abbrev xZ:Type:=((ay×Unit) ⊕ (Bool×(List Int)×Bool×(List Int)×Unit))
def tj (x1:oL) (again:oL→Option xZ):Option xZ:=
 bif decide (x1.2.1<x1.1) then
  Option.bind (qc 10) fun r2=>
  Option.bind (gO (x1.2.2.2.2.1,x1.2.2.2.2.2.1) r2.1) fun r3=>
  again (x1.1,w64 (x1.2.1+1),x1.2.2.1,x1.2.2.2.1,r3.1.1,r3.1.2,())
 else
  some (Sum.inr (x1.2.2.1,x1.2.2.2.1,x1.2.2.2.2.1,x1.2.2.2.2.2.1,()))
def uy (a0:Int):Option (ay×Unit):=
 Option.bind (qc 1) fun r1=>
 aO (β:=(ay×Unit)) (γ:=(Bool×(List Int)×Bool×(List Int)×Unit)) (
  iter (X:=oL) (β:=xZ) (Int.natAbs a0+(Int.natAbs (0:Int)+(List.length ([]:List Int)+(r1.1.2.length+2)))) (a0,0,false,[],r1.1.1,r1.1.2,()) (tj)) fun v5=>
 some ((v5.2.2.1,v5.2.2.2.1),())
abbrev x5:Type:=(List Int)×(List Int)×Int×(List Int)×Int×Int×Unit
abbrev x4:Type:=(((List Int)×Unit) ⊕ ((List Int)×Int×Unit))
def L3 (x1:x5) (again:x5→Option x4):Option x4:=
 bif decide (x1.2.2.2.2.2.1<x1.2.2.2.2.1) then
  Option.bind (idx x1.2.2.2.1 x1.2.2.2.2.2.1) fun y2=>
  aO (β:=(((List Int)×Unit) ⊕ ((List Int)×Int×Unit))) (γ:=((List Int)×(List Int)×Int×(List Int)×Int×Int×Unit)) (
   bif decide (x1.2.2.2.2.2.1<((x1.1.length:Int))) then
    Option.bind (idx x1.1 x1.2.2.2.2.2.1) fun y3=>
    let n4:Int:=bK ((bK (x1.2.2.1+(bK y2)))+(bK y3))
    some (Sum.inr (x1.1,x1.2.1,n4,x1.2.2.2.1,x1.2.2.2.2.1,x1.2.2.2.2.2.1,()))
   else
    some (Sum.inr (x1.1,x1.2.1,bK (x1.2.2.1+(bK y2)),x1.2.2.2.1,x1.2.2.2.2.1,x1.2.2.2.2.2.1,()))) fun v5=>
  chk (decide (((v5.2.1.length)+1)*4≤140737488355328)&&decide ((v5.2.1.length)+1≤maxLen)) <|
  again (v5.1,v5.2.1++[(lu v5.2.2.1)],Int.fdiv v5.2.2.1 (2 ^ 32),v5.2.2.2.1,v5.2.2.2.2.1,w64 (v5.2.2.2.2.2.1+1),())
 else
  some (Sum.inr (x1.2.1,x1.2.2.1,()))
def Ce (a0:List Int) (a1:List Int):Option ((List Int)×Unit):=
 aO (β:=((List Int)×Unit)) (γ:=((List Int)×(List Int)×Unit)) (
  bif decide (((List.length a0:Int))<((List.length a1:Int))) then
   some (Sum.inr (a1,a0,()))
  else
   some (Sum.inr (a0,a1,()))) fun v1=>
 chk (decide (0≤(0:Int))&&decide ((0:Int)≤(w64 (((v1.1.length:Int))+1)))&&decide ((4:Int)*(w64 (((v1.1.length:Int))+1))≤281474976710656)&&decide ((w64 (((v1.1.length:Int))+1))≤9223372036854775807)) <|
 aO (β:=((List Int)×Unit)) (γ:=((List Int)×Int×Unit)) (
  iter (X:=x5) (β:=x4) (v1.2.1.length+(List.length ([]:List Int)+(Int.natAbs (0:Int)+(v1.1.length+(Int.natAbs ((v1.1.length:Int))+(Int.natAbs (0:Int)+2)))))) (v1.2.1,[],0,v1.1,(v1.1.length:Int),0,()) (L3)) fun v7=>
 chk (decide (((v7.1.length)+1)*4≤140737488355328)&&decide ((v7.1.length)+1≤maxLen)) <|
 some (v7.1++[(lu v7.2.1)],())
def fk (a0:ay) (a1:ay):Option (ay×Unit):=
 bif a0.1==a1.1 then
  Option.bind (Ce a0.2 a1.2) fun r1=>
  Option.bind (iu a0.1 r1.1) fun r2=>
  some (r2.1,())
 else
  Option.bind (qC a0.2 a1.2) fun r3=>
  bif decide (r3.1≥0) then
   Option.bind (tq a0.2 a1.2) fun r4=>
   Option.bind (iu a0.1 r4.1) fun r5=>
   some (r5.1,())
  else
   Option.bind (tq a1.2 a0.2) fun r6=>
   Option.bind (iu a1.1 r6.1) fun r7=>
   some (r7.1,())
def th (a0:ay) (a1:ay):Option (ay×Unit):=
 Option.bind (ny a1) fun r1=>
 Option.bind (fk a0 r1.1) fun r2=>
 some (r2.1,())
def fS (a0:ay) (a1:ay):Option (Int×Unit):=
 Option.bind (th a0 a1) fun r1=>
 Option.bind (jP r1.1) fun r2=>
 some (r2.1,())
def ig (a0:ai) (a1:Int):Option (ay×Unit):=
 Option.bind (qc a0.1) fun r1=>
 Option.bind (uy (w64 (a1 - a0.2))) fun r2=>
 Option.bind (gO r1.1 r2.1) fun r3=>
 some (r3.1,())
end Go.Md
namespace Go.Md
open Go.Dn
def N4 (n:Nat):List UInt8:=if n<10 then [UInt8.ofNat (48+n)] else [UInt8.ofNat (48+n / 10),UInt8.ofNat (48+n % 10)]
def strconv_Itoa (n:Int):Option (List UInt8×Unit):=bif decide (0≤n)&&decide (n<100) then some (N4 n.toNat,()) else bif decide (-9223372036854775808≤n)&&decide (n≤9223372036854775807) then some (Lib.itoa n,()) else none
def strings_Repeat (s:List UInt8) (n:Int):Option (List UInt8×Unit):=bif decide (0≤n)&&(decide (n≤9223372036854775807)&&decide (s.length*n.toNat≤140737488355328)) then some (Lib.repeatL s n.toNat,()) else none
def zD (_a:List UInt8):Option (Int×Unit):=none
def zg (_a:List UInt8):Option (Bool×Unit):=none
def D9 (_a:List UInt8):Option (Bool×Unit):=none
def ES (_a:List UInt8):Option (Bool×Unit):=none
def Ea (_a _b:Int):Option (List UInt8×Unit):=none
abbrev iq:Ty:=(.st (.pair .str (.pair .str (.pair .str aR))))
abbrev bz:Type:=(List UInt8)×(List UInt8)×(List UInt8)×ai
abbrev aq:Ty:=(.st (.pair .str (.pair .str (.pair aR (.slice iq)))))
abbrev aa:Type:=(List UInt8)×(List UInt8)×ai×(List bz)
abbrev fP:Ty:=(.st (.pair .str (.pair .str (.pair tI (.slice aq)))))
abbrev bn:Type:=(List UInt8)×(List UInt8)×Int×(List aa)
abbrev CX:Type:=Int×ai×Int
abbrev tU:Type:=Int×(List UInt8)×(List UInt8)×ai×ai×Int×ai×ai×ai×ai
abbrev cN:Ty:=(.st (.pair .str (.pair .str aR)))
abbrev aC:Type:=(List UInt8)×(List UInt8)×ai
abbrev fh:Ty:=(.st (.pair .str .str))
abbrev bC:Type:=(List UInt8)×(List UInt8)
def mL (a0:Int):Option (Bool×Unit):=
 Option.bind (lS a0 1 5) fun r1=>
 some (!r1.1,())
def xm (a0:Int):Option ((List Int)×Unit):=
 bif a0==1 then
  some ([8,12,13,14],())
 else
  bif a0==2 then
   some ([13],())
  else
   some ([18],())
abbrev jI:Type:=(List Int)×Int×Int×Int×Unit
abbrev qV:Type:=((Int×Unit) ⊕ Unit)
def mB (x1:jI) (again:jI→Option qV):Option qV:=
 bif decide (x1.2.2.2.1<x1.2.2.1) then
  Option.bind (idx x1.1 x1.2.2.2.1) fun y2=>
  bif x1.2.1==y2 then
   some (Sum.inl (x1.2.2.2.1,()))
  else
   again (x1.1,x1.2.1,x1.2.2.1,w64 (x1.2.2.2.1+1),())
 else
  some (Sum.inr ())
def vp (a0:List Int) (a1:Int):Option (Int×Unit):=
 aO (β:=(Int×Unit)) (γ:=Unit) (
  iter (X:=jI) (β:=qV) (List.length a0+(Int.natAbs a1+(Int.natAbs ((List.length a0:Int))+(Int.natAbs (0:Int)+2)))) (a0,a1,(List.length a0:Int),0,()) (mB)) fun _=>
 some ((-1),())
def jH (a0:List Int) (a1:Int):Option (Bool×Unit):=
 Option.bind (vp a0 a1) fun r1=>
 some (decide (r1.1≥0),())
abbrev ox:Type:=(List UInt8)×Int×Int×Int×Int×Unit
abbrev xE:Type:=((Bool×Unit) ⊕ Unit)
def sU (x1:ox) (again:ox→Option xE):Option xE:=
 bif decide (x1.2.2.2.2.1<x1.2.2.2.1) then
  Option.bind (zA x1.1 x1.2.2.2.2.1) fun c2=>
  bif decide ((c2.toNat:Int)<x1.2.1) then
   some (Sum.inl (false,()))
  else
   Option.bind (zA x1.1 x1.2.2.2.2.1) fun c3=>
   bif decide ((c3.toNat:Int)>x1.2.2.1) then
    some (Sum.inl (false,()))
   else
    again (x1.1,x1.2.1,x1.2.2.1,x1.2.2.2.1,w64 (x1.2.2.2.2.1+1),())
 else
  some (Sum.inr ())
def B0 (a0:List UInt8) (a1:Int) (a2:Int):Option (Bool×Unit):=
 aO (β:=(Bool×Unit)) (γ:=Unit) (
  iter (X:=ox) (β:=xE) (List.length a0+(Int.natAbs a1+(Int.natAbs a2+(Int.natAbs ((List.length a0:Int))+(Int.natAbs (0:Int)+2))))) (a0,a1,a2,(List.length a0:Int),0,()) (sU)) fun _=>
 some (true,())
def rQ (a0:List UInt8):Option (Bool×Unit):=
 bif !(a0==[]) then
  Option.bind (B0 a0 48 57) fun r1=>
  some (r1.1,())
 else
  some (false,())
abbrev vV:Type:=(List UInt8)×Int×Int×Int×Unit
abbrev vU:Type:=((Bool×Unit) ⊕ (Int×Unit))
def Jc (x1:vV) (again:vV→Option vU):Option vU:=
 bif decide (x1.2.2.2.1<x1.2.2.1) then
  let n2:Int:=w64 ((w64 (((x1.1.length:Int)) - 1)) - x1.2.2.2.1)
  Option.bind (zA x1.1 n2) fun c3=>
  bif (Int.tmod x1.2.2.2.1 2)==1 then
   let n4:Int:=w64 ((w64 (wu8 ((c3.toNat:Int) - 48)))*3)
   again (x1.1,w64 (x1.2.1+n4),x1.2.2.1,w64 (x1.2.2.2.1+1),())
  else
   let n5:Int:=w64 (x1.2.1+(w64 (wu8 ((c3.toNat:Int) - 48))))
   again (x1.1,n5,x1.2.2.1,w64 (x1.2.2.2.1+1),())
 else
  some (Sum.inr (x1.2.1,()))
def Ao (a0:List UInt8):Option (Bool×Unit):=
 aO (β:=(Bool×Unit)) (γ:=(Int×Unit)) (
  iter (X:=vV) (β:=vU) (List.length a0+(Int.natAbs (0:Int)+(Int.natAbs ((List.length a0:Int))+(Int.natAbs (0:Int)+2)))) (a0,0,(List.length a0:Int),0,()) (Jc)) fun v6=>
 some ((Int.tmod v6.1 10)==0,())
def kI (a0:Int) (a1:List UInt8):Option (Bool×Unit):=
 bif a0==4 then
  Option.bind (zg a1) fun r1=>
  some (r1.1,())
 else
  bif a0==5 then
   Option.bind (ES a1) fun r2=>
   some (r2.1,())
  else
   Option.bind (xm a0) fun r3=>
   Option.bind (jH r3.1 ((List.length a1:Int))) fun r4=>
   bif r4.1 then
    Option.bind (rQ a1) fun r5=>
    bif r5.1 then
     Option.bind (Ao a1) fun r6=>
     some (r6.1,())
    else
     some (false,())
   else
    some (false,())
def q7 (a0:Int) (a1:List UInt8):Option (Bool×Int×Unit):=
 Option.bind (mL a0) fun r1=>
 bif !r1.1 then
  some (false,4,())
 else
  Option.bind (kI a0 a1) fun r2=>
  some (r2.1,0,())
def oH (a0:List UInt8):Option (Bool×Unit):=
 Option.bind (q7 3 a0) fun r1=>
 some (r1.1,())
def cc (a0:ai) (a1:Bool):Option (Int×Unit):=
 Option.bind (gP a0) fun r1=>
 bif r1.1 != 0 then
  some (r1.1,())
 else
  Option.bind (wE a0 3 1000000000) fun r2=>
  bif !r2.1 then
   some (1,())
  else
   bif a0.1==0 then
    bif !a1 then
     some (1,())
    else
     some (0,())
   else
    some (0,())
abbrev uH:Type:=Int×(List Int)×Int×Int×Unit
abbrev zh:Type:=((Int×Unit) ⊕ (Int×Unit))
def uG (x1:uH) (again:uH→Option zh):Option zh:=
 bif decide (x1.2.2.2.1<x1.2.2.1) then
  Option.bind (idx x1.2.1 x1.2.2.2.1) fun y2=>
  bif y2 != x1.1 then
   some (Sum.inl (y2,()))
  else
   again (x1.1,x1.2.1,x1.2.2.1,w64 (x1.2.2.2.1+1),())
 else
  some (Sum.inr (x1.1,()))
def vY (a0:List Int):Option (Int×Unit):=
 aO (β:=(Int×Unit)) (γ:=(Int×Unit)) (
  iter (X:=uH) (β:=zh) (Int.natAbs (0:Int)+(List.length a0+(Int.natAbs ((List.length a0:Int))+(Int.natAbs (0:Int)+2)))) (0,a0,(List.length a0:Int),0,()) (uG)) fun v3=>
 some (v3.1,())
def gX (a0:bz) (a1:bz):Option (Int×Unit):=
 Option.bind (strings_Compare a0.1 a1.1) fun r1=>
 Option.bind (strings_Compare a0.2.1 a1.2.1) fun r2=>
 Option.bind (strings_Compare a0.2.2.1 a1.2.2.1) fun r3=>
 Option.bind (vY [r1.1,r2.1,r3.1]) fun r4=>
 some (r4.1,())
abbrev jC:Type:=(List bz)×(List bz)×Int×Int×Unit
abbrev mG:Type:=((Int×Unit) ⊕ Unit)
def jB (x1:jC) (again:jC→Option mG):Option mG:=
 bif decide (x1.2.2.2.1<x1.2.2.1) then
  Option.bind (idx x1.2.1 x1.2.2.2.1) fun y2=>
  Option.bind (ij y2.1) fun r3=>
  bif !r3.1 then
   some (Sum.inl (5,()))
  else
   Option.bind (ij y2.2.1) fun r4=>
   bif !r4.1 then
    some (Sum.inl (5,()))
   else
    bif !(y2.2.2.1==[]) then
     Option.bind (ij y2.2.2.1) fun r5=>
     bif !r5.1 then
      some (Sum.inl (5,()))
     else
      bif decide (x1.2.2.2.1>0) then
       Option.bind (idx x1.1 (w64 (x1.2.2.2.1 - 1))) fun y6=>
       Option.bind (gX y6 y2) fun r7=>
       bif decide (r7.1≥0) then
        some (Sum.inl (8,()))
       else
        Option.bind (cc y2.2.2.2 false) fun r8=>
        bif r8.1 != 0 then
         some (Sum.inl (r8.1,()))
        else
         again (x1.1,x1.2.1,x1.2.2.1,w64 (x1.2.2.2.1+1),())
      else
       Option.bind (cc y2.2.2.2 false) fun r9=>
       bif r9.1 != 0 then
        some (Sum.inl (r9.1,()))
       else
        again (x1.1,x1.2.1,x1.2.2.1,w64 (x1.2.2.2.1+1),())
    else
     bif decide (x1.2.2.2.1>0) then
      Option.bind (idx x1.1 (w64 (x1.2.2.2.1 - 1))) fun y10=>
      Option.bind (gX y10 y2) fun r11=>
      bif decide (r11.1≥0) then
       some (Sum.inl (8,()))
      else
       Option.bind (cc y2.2.2.2 false) fun r12=>
       bif r12.1 != 0 then
        some (Sum.inl (r12.1,()))
       else
        again (x1.1,x1.2.1,x1.2.2.1,w64 (x1.2.2.2.1+1),())
     else
      Option.bind (cc y2.2.2.2 false) fun r13=>
      bif r13.1 != 0 then
       some (Sum.inl (r13.1,()))
      else
       again (x1.1,x1.2.1,x1.2.2.1,w64 (x1.2.2.2.1+1),())
 else
  some (Sum.inr ())
def je (a0:List bz):Option (Int×Unit):=
 bif decide (((List.length a0:Int))>100) then
  some (2,())
 else
  aO (β:=(Int×Unit)) (γ:=Unit) (
   iter (X:=jC) (β:=mG) (List.length a0+(List.length a0+(Int.natAbs ((List.length a0:Int))+(Int.natAbs (0:Int)+2)))) (a0,a0,(List.length a0:Int),0,()) (jB)) fun _=>
  some (0,())
def nk (a0:List aa) (a1:Int):Option (Int×Unit):=
 Option.bind (idx a0 a1) fun y1=>
 Option.bind (oH y1.1) fun r2=>
 bif !r2.1 then
  some (3,())
 else
  bif decide (a1>0) then
   Option.bind (idx a0 (w64 (a1 - 1))) fun y3=>
   bif Op.bytesLess y1.1 y3.1||y1.1==y3.1 then
    some (8,())
   else
    Option.bind (cc y1.2.2.1 true) fun r4=>
    bif r4.1 != 0 then
     some (r4.1,())
    else
     Option.bind (je y1.2.2.2) fun r5=>
     some (r5.1,())
  else
   Option.bind (cc y1.2.2.1 true) fun r6=>
   bif r6.1 != 0 then
    some (r6.1,())
   else
    Option.bind (je y1.2.2.2) fun r7=>
    some (r7.1,())
def tF (a0:aa) (a1:List UInt8):Option (Int×Unit):=
 Option.bind (strings_Compare a0.1 a1) fun r1=>
 some (r1.1,())
abbrev bP:Type:=(List aa)×(List UInt8)×Unit×Int×Int×Int×Unit
abbrev eP:Type:=((Int×Bool×Unit) ⊕ ((List aa)×(List UInt8)×Unit×Int×Int×Unit))
def eN (x1:bP) (again:bP→Option eP):Option eP:=
 bif decide (x1.2.2.2.2.1<x1.2.2.2.2.2.1) then
  let n2:Int:=w64 (Int.fdiv (bK (w64 (x1.2.2.2.2.1+x1.2.2.2.2.2.1))) (2 ^ 1))
  Option.bind (idx x1.1 n2) fun y3=>
  Option.bind (tF y3 x1.2.1) fun r4=>
  bif decide (r4.1<0) then
   again (x1.1,x1.2.1,x1.2.2.1,x1.2.2.2.1,w64 (n2+1),x1.2.2.2.2.2.1,())
  else
   again (x1.1,x1.2.1,x1.2.2.1,x1.2.2.2.1,x1.2.2.2.2.1,n2,())
 else
  some (Sum.inr (x1.1,x1.2.1,x1.2.2.1,x1.2.2.2.1,x1.2.2.2.2.1,()))
def cG (a0:List aa) (a1:List UInt8) (a2:Unit):Option (Int×Bool×Unit):=
 aO (β:=(Int×Bool×Unit)) (γ:=((List aa)×(List UInt8)×Unit×Int×Int×Unit)) (
  iter (X:=bP) (β:=eP) (List.length a0+(List.length a1+(Int.natAbs ((List.length a0:Int))+(Int.natAbs (0:Int)+(Int.natAbs ((List.length a0:Int))+2))))) (a0,a1,a2,(List.length a0:Int),0,(List.length a0:Int),()) (eN)) fun v5=>
 bif decide (v5.2.2.2.2.1<v5.2.2.2.1) then
  Option.bind (idx v5.1 v5.2.2.2.2.1) fun y6=>
  Option.bind (tF y6 v5.2.1) fun r7=>
  some (v5.2.2.2.2.1,r7.1==0,())
 else
  some (v5.2.2.2.2.1,false,())
def kS (a0:bn) (a1:List UInt8):Option (Int×Bool×Unit):=
 Option.bind (cG a0.2.2.2 a1 ()) fun r1=>
 some (r1.1,r1.2.1,())
abbrev jM:Type:=Int×(List Int)×Int×(List UInt8)×(List UInt8)×Int×(List aa)×Unit
abbrev iJ:Type:=(((List Int)×Bool×Unit) ⊕ ((List Int)×Unit))
def pL (x1:jM) (again:jM→Option iJ):Option iJ:=
 Option.bind (idx x1.2.2.2.2.2.2.1 x1.2.2.1) fun y2=>
 bif !(y2.2.1==[]) then
  Option.bind (idx x1.2.2.2.2.2.2.1 x1.2.2.1) fun y3=>
  Option.bind (kS (x1.2.2.2.1,x1.2.2.2.2.1,x1.2.2.2.2.2.1,x1.2.2.2.2.2.2.1) y3.2.1) fun r4=>
  bif r4.1==x1.1 then
   some (Sum.inl ([],false,()))
  else
   Option.bind (jH x1.2.1 r4.1) fun r5=>
   bif r5.1 then
    some (Sum.inl (x1.2.1,true,()))
   else
    chk (decide (((x1.2.1.length)+1)*8≤140737488355328)&&decide ((x1.2.1.length)+1≤maxLen)) <|
    again (x1.1,x1.2.1++[r4.1],r4.1,x1.2.2.2.1,x1.2.2.2.2.1,x1.2.2.2.2.2.1,x1.2.2.2.2.2.2.1,())
 else
  some (Sum.inr (x1.2.1,()))
def kW (a0:bn) (a1:Int):Option ((List Int)×Bool×Unit):=
 aO (β:=((List Int)×Bool×Unit)) (γ:=((List Int)×Unit)) (
  iter (X:=jM) (β:=iJ) (Int.natAbs a1+(List.length ([]:List Int)+(Int.natAbs a1+(a0.1.length+(a0.2.1.length+(a0.2.2.1.natAbs+(a0.2.2.2.length+2))))))) (a1,[],a1,a0.1,a0.2.1,a0.2.2.1,a0.2.2.2,()) (pL)) fun v6=>
 some (v6.1,true,())
abbrev mw:Type:=(List aa)×Int×Int×(List UInt8)×(List UInt8)×Int×(List aa)×Unit
abbrev qS:Type:=((Int×Unit) ⊕ ((List UInt8)×(List UInt8)×Int×(List aa)×Unit))
def mq (x1:mw) (again:mw→Option qS):Option qS:=
 bif decide (x1.2.2.1<x1.2.1) then
  Option.bind (idx x1.1 x1.2.2.1) fun y2=>
  Option.bind (kS (x1.2.2.2.1,x1.2.2.2.2.1,x1.2.2.2.2.2.1,x1.2.2.2.2.2.2.1) y2.2.1) fun r3=>
  bif !(y2.2.1==[]) then
   bif !r3.2.1 then
    some (Sum.inl (9,()))
   else
    again (x1.1,x1.2.1,w64 (x1.2.2.1+1),x1.2.2.2.1,x1.2.2.2.2.1,x1.2.2.2.2.2.1,x1.2.2.2.2.2.2.1,())
  else
   again (x1.1,x1.2.1,w64 (x1.2.2.1+1),x1.2.2.2.1,x1.2.2.2.2.1,x1.2.2.2.2.2.1,x1.2.2.2.2.2.2.1,())
 else
  some (Sum.inr (x1.2.2.2.1,x1.2.2.2.2.1,x1.2.2.2.2.2.1,x1.2.2.2.2.2.2.1,()))
abbrev mz:Type:=Int×Int×(List UInt8)×(List UInt8)×Int×(List aa)×Unit
abbrev qT:Type:=((Int×Unit) ⊕ ((List UInt8)×(List UInt8)×Int×(List aa)×Unit))
def mu (x1:mz) (again:mz→Option qT):Option qT:=
 bif decide (x1.2.1<x1.1) then
  Option.bind (kW (x1.2.2.1,x1.2.2.2.1,x1.2.2.2.2.1,x1.2.2.2.2.2.1) x1.2.1) fun r2=>
  bif !r2.2.1 then
   some (Sum.inl (17,()))
  else
   again (x1.1,w64 (x1.2.1+1),x1.2.2.1,x1.2.2.2.1,x1.2.2.2.2.1,x1.2.2.2.2.2.1,())
 else
  some (Sum.inr (x1.2.2.1,x1.2.2.2.1,x1.2.2.2.2.1,x1.2.2.2.2.2.1,()))
abbrev lM:Type:=Int×Int×(List UInt8)×(List UInt8)×Int×(List aa)×Unit
abbrev pN:Type:=((Int×Unit) ⊕ Unit)
def lK (x1:lM) (again:lM→Option pN):Option pN:=
 bif decide (x1.2.1<x1.1) then
  Option.bind (kW (x1.2.2.1,x1.2.2.2.1,x1.2.2.2.2.1,x1.2.2.2.2.2.1) x1.2.1) fun r2=>
  bif decide (((r2.1.length:Int))>5) then
   some (Sum.inl (2,()))
  else
   again (x1.1,w64 (x1.2.1+1),x1.2.2.1,x1.2.2.2.1,x1.2.2.2.2.1,x1.2.2.2.2.2.1,())
 else
  some (Sum.inr ())
def pM (a0:bn):Option (Int×Unit):=
 aO (β:=(Int×Unit)) (γ:=((List UInt8)×(List UInt8)×Int×(List aa)×Unit)) (
  iter (X:=mw) (β:=qS) (a0.2.2.2.length+(Int.natAbs ((a0.2.2.2.length:Int))+(Int.natAbs (0:Int)+(a0.1.length+(a0.2.1.length+(a0.2.2.1.natAbs+(a0.2.2.2.length+2))))))) (a0.2.2.2,(a0.2.2.2.length:Int),0,a0.1,a0.2.1,a0.2.2.1,a0.2.2.2,()) (mq)) fun v4=>
 aO (β:=(Int×Unit)) (γ:=((List UInt8)×(List UInt8)×Int×(List aa)×Unit)) (
  iter (X:=mz) (β:=qT) (Int.natAbs ((v4.2.2.2.1.length:Int))+(Int.natAbs (0:Int)+(v4.1.length+(v4.2.1.length+(v4.2.2.1.natAbs+(v4.2.2.2.1.length+2)))))) ((v4.2.2.2.1.length:Int),0,v4.1,v4.2.1,v4.2.2.1,v4.2.2.2.1,()) (mu)) fun v7=>
 aO (β:=(Int×Unit)) (γ:=Unit) (
  iter (X:=lM) (β:=pN) (Int.natAbs ((v7.2.2.2.1.length:Int))+(Int.natAbs (0:Int)+(v7.1.length+(v7.2.1.length+(v7.2.2.1.natAbs+(v7.2.2.2.1.length+2)))))) ((v7.2.2.2.1.length:Int),0,v7.1,v7.2.1,v7.2.2.1,v7.2.2.2.1,()) (lK)) fun _=>
 some (0,())
abbrev kP:Type:=Int×Int×(List UInt8)×(List UInt8)×Int×(List aa)×Unit
abbrev oE:Type:=((Int×Unit) ⊕ ((List UInt8)×(List UInt8)×Int×(List aa)×Unit))
def kN (x1:kP) (again:kP→Option oE):Option oE:=
 bif decide (x1.2.1<x1.1) then
  Option.bind (nk x1.2.2.2.2.2.1 x1.2.1) fun r2=>
  bif r2.1 != 0 then
   some (Sum.inl (r2.1,()))
  else
   again (x1.1,w64 (x1.2.1+1),x1.2.2.1,x1.2.2.2.1,x1.2.2.2.2.1,x1.2.2.2.2.2.1,())
 else
  some (Sum.inr (x1.2.2.1,x1.2.2.2.1,x1.2.2.2.2.1,x1.2.2.2.2.2.1,()))
def gu (a0:bn):Option (Int×Unit):=
 Option.bind (ij a0.1) fun r1=>
 bif !r1.1 then
  some (5,())
 else
  Option.bind (ij a0.2.1) fun r2=>
  bif !r2.1 then
   some (5,())
  else
   Option.bind (BA a0.2.2.1) fun r3=>
   bif !r3.1 then
    some (1,())
   else
    bif decide (((a0.2.2.2.length:Int))>500) then
     some (2,())
    else
     aO (β:=(Int×Unit)) (γ:=((List UInt8)×(List UInt8)×Int×(List aa)×Unit)) (
      iter (X:=kP) (β:=oE) (Int.natAbs ((a0.2.2.2.length:Int))+(Int.natAbs (0:Int)+(a0.1.length+(a0.2.1.length+(a0.2.2.1.natAbs+(a0.2.2.2.length+2)))))) ((a0.2.2.2.length:Int),0,a0.1,a0.2.1,a0.2.2.1,a0.2.2.2,()) (kN)) fun v6=>
     Option.bind (pM (v6.1,v6.2.1,v6.2.2.1,v6.2.2.2.1)) fun r7=>
     some (r7.1,())
def oa (a0:bn) (a1:List UInt8) (a2:Bool):Option (Int×Unit):=
 Option.bind (gu a0) fun r1=>
 bif r1.1 != 0 then
  some (r1.1,())
 else
  Option.bind (kS a0 a1) fun r2=>
  bif !r2.2.1 then
   bif a2 then
    bif !(a1==[]) then
     some (9,())
    else
     some (0,())
   else
    some (9,())
  else
   some (0,())
def tE (a0:Int) (a1:bn) (a2:List UInt8):Option (Bool×Unit):=
 Option.bind (idx a1.2.2.2 a0) fun y1=>
 some (y1.1==a2,())
abbrev gL:Type:=(List Int)×(bn×(List UInt8))×Int×Int×Unit
abbrev mI:Type:=((Int×Unit) ⊕ Unit)
def jE (x1:gL) (again:gL→Option mI):Option mI:=
 bif decide (x1.2.2.2.1<x1.2.2.1) then
  Option.bind (idx x1.1 x1.2.2.2.1) fun y2=>
  Option.bind (tE y2 x1.2.1.1 x1.2.1.2) fun r3=>
  bif r3.1 then
   some (Sum.inl (x1.2.2.2.1,()))
  else
   again (x1.1,x1.2.1,x1.2.2.1,w64 (x1.2.2.2.1+1),())
 else
  some (Sum.inr ())
def pO (a0:List Int) (a1:bn×(List UInt8)):Option (Int×Unit):=
 aO (β:=(Int×Unit)) (γ:=Unit) (
  iter (X:=gL) (β:=mI) (List.length a0+(Int.natAbs ((List.length a0:Int))+(Int.natAbs (0:Int)+2))) (a0,a1,(List.length a0:Int),0,()) (jE)) fun _=>
 some ((-1),())
def mH (a0:List Int) (a1:bn×(List UInt8)):Option (Bool×Unit):=
 Option.bind (pO a0 a1) fun r1=>
 some (decide (r1.1≥0),())
def rf (a0:bn) (a1:Int) (a2:List UInt8):Option (Bool×Unit):=
 Option.bind (kW a0 a1) fun r1=>
 Option.bind (mH r1.1 (a0,a2)) fun r2=>
 some (r2.1,())
abbrev sj:Type:=(List UInt8)×Int×Int×Int×Unit
abbrev AR:Type:=((Bool×Unit) ⊕ (Int×Unit))
def wO (x1:sj) (again:sj→Option AR):Option AR:=
 bif decide (x1.2.2.2.1<x1.2.2.1) then
  let n2:Int:=w64 ((w64 (((x1.1.length:Int)) - 1)) - x1.2.2.2.1)
  Option.bind (zA x1.1 n2) fun c3=>
  bif (Int.tmod x1.2.2.2.1 2)==1 then
   let n4:Int:=w64 ((w64 (wu8 ((c3.toNat:Int) - 48)))*3)
   again (x1.1,w64 (x1.2.1+n4),x1.2.2.1,w64 (x1.2.2.2.1+1),())
  else
   let n5:Int:=w64 (x1.2.1+(w64 (wu8 ((c3.toNat:Int) - 48))))
   again (x1.1,n5,x1.2.2.1,w64 (x1.2.2.2.1+1),())
 else
  some (Sum.inr (x1.2.1,()))
def F4 (a0:List UInt8):Option (Bool×Unit):=
 aO (β:=(Bool×Unit)) (γ:=(Int×Unit)) (
  iter (X:=sj) (β:=AR) (List.length a0+(Int.natAbs (0:Int)+(Int.natAbs ((List.length a0:Int))+(Int.natAbs (0:Int)+2)))) (a0,0,(List.length a0:Int),0,()) (wO)) fun v6=>
 some ((Int.tmod v6.1 10)==0,())
def LL (a0:ai) (a1:ai):Option (Int×Unit):=
 Option.bind (BH a0 9) fun r1=>
 Option.bind (BH a1 9) fun r2=>
 Option.bind (F3 r1.1 r2.1) fun r3=>
 some (r3.1,())
abbrev nt:Type:=(List UInt8)×(List aa)×Int×Int×Unit
abbrev wK:Type:=((Int×Unit) ⊕ Unit)
def ri (x1:nt) (again:nt→Option wK):Option wK:=
 bif decide (x1.2.2.2.1<x1.2.2.1) then
  Option.bind (idx x1.2.1 x1.2.2.2.1) fun y2=>
  bif y2.1==x1.1 then
   some (Sum.inl (x1.2.2.2.1,()))
  else
   again (x1.1,x1.2.1,x1.2.2.1,w64 (x1.2.2.2.1+1),())
 else
  some (Sum.inr ())
def wJ (a0:List aa) (a1:List UInt8):Option (Int×Unit):=
 aO (β:=(Int×Unit)) (γ:=Unit) (
  iter (X:=nt) (β:=wK) (List.length a1+(List.length a0+(Int.natAbs ((List.length a0:Int))+(Int.natAbs (0:Int)+2)))) (a1,a0,(List.length a0:Int),0,()) (ri)) fun _=>
 some ((-1),())
abbrev oI:Type:=Int×Int×Int×Unit
abbrev s6:Type:=((Int×Bool×Unit) ⊕ (Int×Unit))
def s5 (x1:oI) (again:oI→Option s6):Option s6:=
 bif decide (x1.2.2.1<x1.2.1) then
  again (w64 (x1.1*10),x1.2.1,w64 (x1.2.2.1+1),())
 else
  some (Sum.inr (x1.1,()))
def yc (a0:List UInt8):Option (Int×Bool×Unit):=
 bif decide (((List.length a0:Int))>15) then
  some (0,false,())
 else
  Option.bind (rQ a0) fun r1=>
  bif !r1.1 then
   some (0,false,())
  else
   aO (β:=(Int×Bool×Unit)) (γ:=(Int×Unit)) (
    iter (X:=oI) (β:=s6) (Int.natAbs (1:Int)+(Int.natAbs (w64 (17 - ((List.length a0:Int))))+(Int.natAbs (0:Int)+2))) (1,w64 (17 - ((List.length a0:Int))),0,()) (s5)) fun v3=>
   some (v3.1,true,())
abbrev gF:Type:=Int×(List UInt8)×Int×Unit
abbrev iX:Type:=(((List UInt8)×Int×Unit) ⊕ Unit)
def iW (x1:gF) (again:gF→Option iX):Option iX:=
 bif decide (x1.2.2.1<10) then
  Option.bind (strconv_Itoa x1.2.2.1) fun r2=>
  chk (decide (x1.2.1.length+r2.1.length≤maxLen)) <|
  Option.bind (kI x1.1 (x1.2.1++r2.1)) fun r3=>
  bif r3.1 then
   some (Sum.inl (x1.2.1++r2.1,0,()))
  else
   again (x1.1,x1.2.1,w64 (x1.2.2.1+1),())
 else
  some (Sum.inr ())
def oW (a0:Int) (a1:List UInt8):Option ((List UInt8)×Int×Unit):=
 Option.bind (mL a0) fun r1=>
 bif !r1.1 then
  some ([],4,())
 else
  bif decide (((List.length a1:Int))>34) then
   some ([],3,())
  else
   bif a0==4 then
    bif decide (((List.length a1:Int))<2) then
     some ([],3,())
    else
     Option.bind (D9 a1) fun r2=>
     bif !r2.1 then
      some ([],3,())
     else
      bif decide (((List.length a1:Int))<13) then
       some ([],3,())
      else
       chk (decide (0≤(0:Int))&&decide ((0:Int)≤2)&&decide (2≤(List.length a1:Int))) <|
       chk (decide (List.length (List.drop 0 (List.take (Int.toNat 2) a1))+List.length [48,48]≤maxLen)) <|
       chk (decide (0≤(2:Int))&&decide ((2:Int)≤((List.length a1:Int)))&&decide (((List.length a1:Int))≤(List.length a1:Int))) <|
       chk (decide (List.length ((List.drop 0 (List.take (Int.toNat 2) a1))++[48,48])+List.length (List.drop 2 (List.take (Int.toNat ((List.length a1:Int))) a1))≤maxLen)) <|
       Option.bind (zD (((List.drop 0 (List.take (Int.toNat 2) a1))++[48,48])++(List.drop 2 (List.take (Int.toNat ((List.length a1:Int))) a1)))) fun r3=>
       chk (decide (0≤(0:Int))&&decide ((0:Int)≤2)&&decide (2≤(List.length a1:Int))) <|
       Option.bind (Ea (w64 (98 - r3.1)) 2) fun r4=>
       chk (decide (List.length (List.drop 0 (List.take (Int.toNat 2) a1))+r4.1.length≤maxLen)) <|
       chk (decide (0≤(2:Int))&&decide ((2:Int)≤((List.length a1:Int)))&&decide (((List.length a1:Int))≤(List.length a1:Int))) <|
       chk (decide (List.length ((List.drop 0 (List.take (Int.toNat 2) a1))++r4.1)+List.length (List.drop 2 (List.take (Int.toNat ((List.length a1:Int))) a1))≤maxLen)) <|
       Option.bind (zg (((List.drop 0 (List.take (Int.toNat 2) a1))++r4.1)++(List.drop 2 (List.take (Int.toNat ((List.length a1:Int))) a1)))) fun r5=>
       bif !r5.1 then
        some ([],3,())
       else
        some (((List.drop 0 (List.take (Int.toNat 2) a1))++r4.1)++(List.drop 2 (List.take (Int.toNat ((List.length a1:Int))) a1)),0,())
   else
    aO (β:=((List UInt8)×Int×Unit)) (γ:=Unit) (
     iter (X:=gF) (β:=iX) (Int.natAbs a0+(List.length a1+(Int.natAbs (0:Int)+2))) (a0,a1,0,()) (iW)) fun _=>
    some ([],3,())
def oG (a0:List UInt8) (a1:Int):Option ((List UInt8)×Int×Unit):=
 Option.bind (yc a0) fun r1=>
 bif !r1.2.1 then
  some ([],3,())
 else
  Option.bind (lS a1 0 (w64 (r1.1 - 1))) fun r2=>
  bif r2.1 then
   some ([],1,())
  else
   Option.bind (strconv_Itoa a1) fun r3=>
   let n4:Int:=w64 ((w64 (17 - ((List.length a0:Int)))) - ((r3.1.length:Int)))
   Option.bind (strings_Repeat [48] n4) fun r5=>
   chk (decide (List.length a0+r5.1.length≤maxLen)) <|
   chk (decide (List.length (a0++r5.1)+r3.1.length≤maxLen)) <|
   Option.bind (oW 3 ((a0++r5.1)++r3.1)) fun r6=>
   some (r6.1,r6.2.1,())
def BC:Option (Bool×Unit):=
 Option.bind (oG [51,52,48,49,50,51,52,53] 1) fun r1=>
 bif r1.2.1==0 then
  some (r1.1==[51,52,48,49,50,51,52,53,48,48,48,48,48,48,48,48,49,55],())
 else
  some (false,())
end Go.Md
namespace Go.Md
open Go.Dn
abbrev kR:Type:=(List aC)×(List aC)×Int×Int×Unit
abbrev oF:Type:=((Int×Unit) ⊕ Unit)
def kQ (x1:kR) (again:kR→Option oF):Option oF:=
 bif decide (x1.2.2.2.1<x1.2.2.1) then
  Option.bind (idx x1.2.1 x1.2.2.2.1) fun y2=>
  Option.bind (ij y2.1) fun r3=>
  bif !r3.1 then
   some (Sum.inl (5,()))
  else
   Option.bind (ij y2.2.1) fun r4=>
   bif !r4.1 then
    some (Sum.inl (5,()))
   else
    bif decide (x1.2.2.2.1>0) then
     Option.bind (idx x1.1 (w64 (x1.2.2.2.1 - 1))) fun y5=>
     Option.bind (strings_Compare y5.1 y2.1) fun r6=>
     Option.bind (idx x1.1 (w64 (x1.2.2.2.1 - 1))) fun y7=>
     Option.bind (strings_Compare y7.2.1 y2.2.1) fun r8=>
     Option.bind (vY [r6.1,r8.1]) fun r9=>
     bif decide (r9.1≥0) then
      some (Sum.inl (8,()))
     else
      Option.bind (cc y2.2.2 true) fun r10=>
      bif r10.1 != 0 then
       some (Sum.inl (r10.1,()))
      else
       again (x1.1,x1.2.1,x1.2.2.1,w64 (x1.2.2.2.1+1),())
    else
     Option.bind (cc y2.2.2 true) fun r11=>
     bif r11.1 != 0 then
      some (Sum.inl (r11.1,()))
     else
      again (x1.1,x1.2.1,x1.2.2.1,w64 (x1.2.2.2.1+1),())
 else
  some (Sum.inr ())
def ku (a0:List aC):Option (Int×Unit):=
 bif decide (((List.length a0:Int))>500) then
  some (2,())
 else
  aO (β:=(Int×Unit)) (γ:=Unit) (
   iter (X:=kR) (β:=oF) (List.length a0+(List.length a0+(Int.natAbs ((List.length a0:Int))+(Int.natAbs (0:Int)+2)))) (a0,a0,(List.length a0:Int),0,()) (kQ)) fun _=>
  some (0,())
def lT (a0:bn) (a1:Int) (a2:List UInt8):Option (Bool×Unit):=
 bif a2==[] then
  some (true,())
 else
  Option.bind (idx a0.2.2.2 a1) fun y1=>
  bif y1.1==a2 then
   some (true,())
  else
   Option.bind (rf a0 a1 a2) fun r2=>
   some (r2.1,())
abbrev gM:Type:=(List aa)×(List aC)×Int×Int×Bool×(List Int)×(List (bC×ai))×Unit
abbrev oe:Type:=((ay×Bool×Unit) ⊕ ((List aa)×Bool×(List Int)×(List (bC×ai))×Unit))
def oc (x1:gM) (again:gM→Option oe):Option oe:=
 bif decide (x1.2.2.2.1<x1.2.2.1) then
  Option.bind (idx x1.2.1 x1.2.2.2.1) fun y2=>
  again (x1.1,x1.2.1,x1.2.2.1,w64 (x1.2.2.2.1+1),x1.2.2.2.2.1,x1.2.2.2.2.2.1,rS (k:=fh) (v:=aR) x1.2.2.2.2.2.2.1 (y2.1,y2.2.1) y2.2.2,())
 else
  some (Sum.inr (x1.1,x1.2.2.2.2.1,x1.2.2.2.2.2.1,x1.2.2.2.2.2.2.1,()))
abbrev fE:Type:=(List aa)×Int×Int×(List bz)×Int×Int×Bool×(List Int)×Bool×(List Int)×(List (bC×ai))×Unit
abbrev nq:Type:=(((ay×Bool×Unit) ⊕ (Bool×(List Int)×Bool×(List Int)×Unit)) ⊕ ((List aa)×Int×Int×Bool×(List Int)×Bool×(List Int)×(List (bC×ai))×Unit))
def kz (x1:fE) (again:fE→Option nq):Option nq:=
 bif decide (x1.2.2.2.2.2.1<x1.2.2.2.2.1) then
  Option.bind (idx x1.2.2.2.1 x1.2.2.2.2.2.1) fun y2=>
  bif !(Option.isSome (cD (k:=fh) (v:=aR) x1.2.2.2.2.2.2.2.2.2.2.1 (y2.1,y2.2.1))) then
   AE <|
    some (Sum.inl ((x1.2.2.2.2.2.2.2.2.1,x1.2.2.2.2.2.2.2.2.2.1),false,()))
  else
   Option.bind (ig y2.2.2.2 3) fun r3=>
   Option.bind (ig (Option.getD (cD (k:=fh) (v:=aR) x1.2.2.2.2.2.2.2.2.2.2.1 (y2.1,y2.2.1)) (0,0)) 3) fun r4=>
   Option.bind (gO r3.1 r4.1) fun r5=>
   Option.bind (fk (x1.2.2.2.2.2.2.2.2.1,x1.2.2.2.2.2.2.2.2.2.1) r5.1) fun r6=>
   again (x1.1,x1.2.1,x1.2.2.1,x1.2.2.2.1,x1.2.2.2.2.1,w64 (x1.2.2.2.2.2.1+1),x1.2.2.2.2.2.2.1,x1.2.2.2.2.2.2.2.1,r6.1.1,r6.1.2,x1.2.2.2.2.2.2.2.2.2.2.1,())
 else
  some (Sum.inr (x1.1,x1.2.1,x1.2.2.1,x1.2.2.2.2.2.2.1,x1.2.2.2.2.2.2.2.1,x1.2.2.2.2.2.2.2.2.1,x1.2.2.2.2.2.2.2.2.2.1,x1.2.2.2.2.2.2.2.2.2.2.1,()))
abbrev jl:Type:=(List aa)×Int×Int×Bool×(List Int)×Bool×(List Int)×(List (bC×ai))×Unit
abbrev tG:Type:=((ay×Bool×Unit) ⊕ (Bool×(List Int)×Bool×(List Int)×Unit))
def lF (x1:jl) (again:jl→Option tG):Option tG:=
 bif decide (x1.2.2.1<x1.2.1) then
  Option.bind (idx x1.1 x1.2.2.1) fun y2=>
  Option.bind (ig y2.2.2.1 6) fun r3=>
  Option.bind (fk (x1.2.2.2.2.2.1,x1.2.2.2.2.2.2.1) r3.1) fun r4=>
  aO (β:=((ay×Bool×Unit) ⊕ (Bool×(List Int)×Bool×(List Int)×Unit))) (γ:=((List aa)×Int×Int×Bool×(List Int)×Bool×(List Int)×(List (bC×ai))×Unit)) (
   iter (X:=fE) (β:=nq) (x1.1.length+(x1.2.1.natAbs+(x1.2.2.1.natAbs+(y2.2.2.2.length+(Int.natAbs ((y2.2.2.2.length:Int))+(Int.natAbs (0:Int)+(x1.2.2.2.2.1.length+(r4.1.2.length+(x1.2.2.2.2.2.2.2.1.length+2))))))))) (x1.1,x1.2.1,x1.2.2.1,y2.2.2.2,(y2.2.2.2.length:Int),0,x1.2.2.2.1,x1.2.2.2.2.1,r4.1.1,r4.1.2,x1.2.2.2.2.2.2.2.1,()) (kz)) fun v5=>
  again (v5.1,v5.2.1,w64 (v5.2.2.1+1),v5.2.2.2.1,v5.2.2.2.2.1,v5.2.2.2.2.2.1,v5.2.2.2.2.2.2.1,v5.2.2.2.2.2.2.2.1,())
 else
  some (Sum.inr (x1.2.2.2.1,x1.2.2.2.2.1,x1.2.2.2.2.2.1,x1.2.2.2.2.2.2.1,()))
def jN (a0:List aa) (a1:List aC):Option (ay×Bool×Unit):=
 aO (β:=(ay×Bool×Unit)) (γ:=((List aa)×Bool×(List Int)×(List (bC×ai))×Unit)) (
  iter (X:=gM) (β:=oe) (List.length a0+(List.length a1+(Int.natAbs ((List.length a1:Int))+(Int.natAbs (0:Int)+(List.length ([]:List Int)+(List.length ([]:List (bC×ai))+2)))))) (a0,a1,(List.length a1:Int),0,false,[],[],()) (oc)) fun v3=>
 Option.bind (qc 0) fun r4=>
 aO (β:=(ay×Bool×Unit)) (γ:=(Bool×(List Int)×Bool×(List Int)×Unit)) (
  iter (X:=jl) (β:=tG) (v3.1.length+(Int.natAbs ((v3.1.length:Int))+(Int.natAbs (0:Int)+(v3.2.2.1.length+(r4.1.2.length+(v3.2.2.2.1.length+2)))))) (v3.1,(v3.1.length:Int),0,v3.2.1,v3.2.2.1,r4.1.1,r4.1.2,v3.2.2.2.1,()) (lF)) fun v16=>
 some ((v16.2.2.1,v16.2.2.2.1),true,())
abbrev lE:Type:=(List aC)×(List UInt8)×(List aa)×(List aa)×Int×Int×(List UInt8)×(List UInt8)×Int×(List aa)×Int×Int×Unit
abbrev tD:Type:=((ai×Int×Unit) ⊕ ((List aC)×(List aa)×Int×Int×Unit))
def n9 (x1:lE) (again:lE→Option tD):Option tD:=
 bif decide (x1.2.2.2.2.2.1<x1.2.2.2.2.1) then
  Option.bind (idx x1.2.2.2.1 x1.2.2.2.2.2.1) fun y2=>
  Option.bind (lT (x1.2.2.2.2.2.2.1,x1.2.2.2.2.2.2.2.1,x1.2.2.2.2.2.2.2.2.1,x1.2.2.2.2.2.2.2.2.2.1) x1.2.2.2.2.2.1 x1.2.1) fun r3=>
  bif r3.1 then
   chk (decide (((x1.2.2.1.length)+1)*72≤140737488355328)&&decide ((x1.2.2.1.length)+1≤maxLen)) <|
   again (x1.1,x1.2.1,x1.2.2.1++[y2],x1.2.2.2.1,x1.2.2.2.2.1,w64 (x1.2.2.2.2.2.1+1),x1.2.2.2.2.2.2.1,x1.2.2.2.2.2.2.2.1,x1.2.2.2.2.2.2.2.2.1,x1.2.2.2.2.2.2.2.2.2.1,x1.2.2.2.2.2.2.2.2.2.2.1,x1.2.2.2.2.2.2.2.2.2.2.2.1,())
  else
   again (x1.1,x1.2.1,x1.2.2.1,x1.2.2.2.1,x1.2.2.2.2.1,w64 (x1.2.2.2.2.2.1+1),x1.2.2.2.2.2.2.1,x1.2.2.2.2.2.2.2.1,x1.2.2.2.2.2.2.2.2.1,x1.2.2.2.2.2.2.2.2.2.1,x1.2.2.2.2.2.2.2.2.2.2.1,x1.2.2.2.2.2.2.2.2.2.2.2.1,())
 else
  some (Sum.inr (x1.1,x1.2.2.1,x1.2.2.2.2.2.2.2.2.2.2.1,x1.2.2.2.2.2.2.2.2.2.2.2.1,()))
def uK (a0:bn) (a1:List aC) (a2:List UInt8):Option (ai×Int×Unit):=
 Option.bind (gu a0) fun r1=>
 bif r1.1 != 0 then
  some ((0,0),r1.1,())
 else
  Option.bind (ku a1) fun r2=>
  bif r2.1 != 0 then
   some ((0,0),r2.1,())
  else
   Option.bind (oa a0 a2 true) fun r3=>
   bif r3.1 != 0 then
    some ((0,0),r3.1,())
   else
    aO (β:=(ai×Int×Unit)) (γ:=((List aC)×(List aa)×Int×Int×Unit)) (
     iter (X:=lE) (β:=tD) (List.length a1+(List.length a2+(List.length ([]:List aa)+(a0.2.2.2.length+(Int.natAbs ((a0.2.2.2.length:Int))+(Int.natAbs (0:Int)+(a0.1.length+(a0.2.1.length+(a0.2.2.1.natAbs+(a0.2.2.2.length+(Int.natAbs (0:Int)+(Int.natAbs (0:Int)+2)))))))))))) (a1,a2,[],a0.2.2.2,(a0.2.2.2.length:Int),0,a0.1,a0.2.1,a0.2.2.1,a0.2.2.2,0,0,()) (n9)) fun v7=>
    Option.bind (jN v7.2.1 v7.1) fun r8=>
    bif !r8.2.1 then
     some ((0,0),5,())
    else
     Option.bind (qj r8.1 6) fun r9=>
     some (r9.1,r9.2.1,())
end Go.Md
namespace Go.Md
open Go.Dn
def rG (a0:ai):Option (ay×Unit):=
 Option.bind (ig a0 9) fun r1=>
 some (r1.1,())
def wI (a0:ai) (a1:ai):Option (Bool×Unit):=
 Option.bind (LL a0 a1) fun r1=>
 some (decide (r1.1≤0),())
end Go.Md
