/-
  The plain models of the functions that the law reaches, second part. No condition.
-/
import Derived.Test.YtnamfglkolhhgabGreatDoorYm
import Derived.Lib.Bytealg
import Derived.Lib.Repeat
import Derived.Lib.ItoaNum
set_option linter.all false
namespace Go.Md
open Go.Dn
def strings_Compare (a b:List UInt8):Option (Int×Unit):=some (Lib.compareBytes a b,())
abbrev yN:Type:=(List UInt8)×ai
abbrev rP:Type:=Bool×ai×(List UInt8)
abbrev Co:Type:=Int×Int×(List UInt8)×ai×(List UInt8)×ai×Int×(List rP)×(List UInt8)
abbrev N0:Type:=(List UInt8)×(List UInt8)×Int×Int×Int×Bool×(List yN)×(List Co)×(List rP)
abbrev vV:Type:=Int×Int×Int×Unit
abbrev vU:Type:=((Int×Unit) ⊕ (Int×Unit))
def MM (x1:vV) (again:vV→Option vU):Option vU:=
 bif decide (x1.2.2.1<x1.2.1) then
  again (w64 (x1.1*10),x1.2.1,w64 (x1.2.2.1+1),())
 else
  some (Sum.inr (x1.1,()))
def B7 (a0:Int):Option (Int×Unit):=
 aR (β:=(Int×Unit)) (γ:=(Int×Unit)) (
  iter (X:=vV) (β:=vU) (Int.natAbs (1:Int)+(Int.natAbs a0+(Int.natAbs (0:Int)+2))) (1,a0,0,()) (MM)) fun v2=>
 some (v2.1,())
def uN (a0:ai) (a1:Int) (a2:Int):Option (Bool×Unit):=
 bif decide (a0.2≤a1) then
  bif decide (a0.1≥0) then
   Option.bind (B7 a0.2) fun r1=>
   some (decide (a0.1≤(w64 (a2*r1.1))),())
  else
   some (false,())
 else
  some (false,())
abbrev jg:Type:=Int×Int×Int×(List Int)×Int×Int×(List Int)×Int×Int×Bool×(List Int)×Bool×(List Int)×Bool×(List Int)×(List Int)×Unit
abbrev qO:Type:=(((bY×Unit) ⊕ (Bool×(List Int)×Bool×(List Int)×Bool×(List Int)×(List Int)×Unit)) ⊕ (Int×Int×(List Int)×Int×Int×Bool×(List Int)×Bool×(List Int)×Bool×(List Int)×(List Int)×Unit))
def mq (x1:jg) (again:jg→Option qO):Option qO:=
 bif decide (x1.2.2.2.2.2.2.2.2.1<x1.2.2.2.2.2.2.2.1) then
  Option.bind (idx x1.2.2.2.2.2.2.1 x1.2.2.2.2.2.2.2.2.1) fun y2=>
  chk (decide (0≤(w64 (x1.1+x1.2.2.2.2.2.2.2.2.1)))&&decide ((w64 (x1.1+x1.2.2.2.2.2.2.2.2.1))<(x1.2.2.2.2.2.2.2.2.2.2.2.2.2.2.2.1.length:Int))) <|
  Option.bind (x1.2.2.2.2.2.2.2.2.2.2.2.2.2.2.2.1[(w64 (x1.1+x1.2.2.2.2.2.2.2.2.1)).toNat]?) fun y3=>
  let n4:Int:=bH ((bH y3)+(bH ((bH x1.2.1)*(bH y2))))
  chk (decide (0≤(w64 (x1.1+x1.2.2.2.2.2.2.2.2.1)))&&decide ((w64 (x1.1+x1.2.2.2.2.2.2.2.2.1))<(x1.2.2.2.2.2.2.2.2.2.2.2.2.2.2.2.1.length:Int))) <|
  Option.bind (x1.2.2.2.2.2.2.2.2.2.2.2.2.2.2.2.1[(w64 (x1.1+x1.2.2.2.2.2.2.2.2.1)).toNat]?) fun _=>
  again (x1.1,x1.2.1,Int.fdiv (bH (x1.2.2.1+n4)) (2 ^ 32),x1.2.2.2.1,x1.2.2.2.2.1,x1.2.2.2.2.2.1,x1.2.2.2.2.2.2.1,x1.2.2.2.2.2.2.2.1,w64 (x1.2.2.2.2.2.2.2.2.1+1),x1.2.2.2.2.2.2.2.2.2.1,x1.2.2.2.2.2.2.2.2.2.2.1,x1.2.2.2.2.2.2.2.2.2.2.2.1,x1.2.2.2.2.2.2.2.2.2.2.2.2.1,x1.2.2.2.2.2.2.2.2.2.2.2.2.2.1,x1.2.2.2.2.2.2.2.2.2.2.2.2.2.2.1,List.set x1.2.2.2.2.2.2.2.2.2.2.2.2.2.2.2.1 (w64 (x1.1+x1.2.2.2.2.2.2.2.2.1)).toNat (qS (bH (x1.2.2.1+n4))),())
 else
  some (Sum.inr (x1.1,x1.2.2.1,x1.2.2.2.1,x1.2.2.2.2.1,x1.2.2.2.2.2.1,x1.2.2.2.2.2.2.2.2.2.1,x1.2.2.2.2.2.2.2.2.2.2.1,x1.2.2.2.2.2.2.2.2.2.2.2.1,x1.2.2.2.2.2.2.2.2.2.2.2.2.1,x1.2.2.2.2.2.2.2.2.2.2.2.2.2.1,x1.2.2.2.2.2.2.2.2.2.2.2.2.2.2.1,x1.2.2.2.2.2.2.2.2.2.2.2.2.2.2.2.1,()))
abbrev je:Type:=(List Int)×Int×Int×Bool×(List Int)×Bool×(List Int)×Bool×(List Int)×(List Int)×Unit
abbrev qN:Type:=((bY×Unit) ⊕ (Bool×(List Int)×Bool×(List Int)×Bool×(List Int)×(List Int)×Unit))
def mo (x1:je) (again:je→Option qN):Option qN:=
 bif decide (x1.2.2.1<x1.2.1) then
  Option.bind (idx x1.1 x1.2.2.1) fun y2=>
  aR (β:=((bY×Unit) ⊕ (Bool×(List Int)×Bool×(List Int)×Bool×(List Int)×(List Int)×Unit))) (γ:=(Int×Int×(List Int)×Int×Int×Bool×(List Int)×Bool×(List Int)×Bool×(List Int)×(List Int)×Unit)) (
   iter (X:=jg) (β:=qO) (x1.2.2.1.natAbs+(Int.natAbs y2+(Int.natAbs (0:Int)+(x1.1.length+(x1.2.1.natAbs+(x1.2.2.1.natAbs+(x1.2.2.2.2.2.2.1.length+(Int.natAbs ((x1.2.2.2.2.2.2.1.length:Int))+(Int.natAbs (0:Int)+(x1.2.2.2.2.1.length+(x1.2.2.2.2.2.2.1.length+(x1.2.2.2.2.2.2.2.2.1.length+(x1.2.2.2.2.2.2.2.2.2.1.length+2))))))))))))) (x1.2.2.1,y2,0,x1.1,x1.2.1,x1.2.2.1,x1.2.2.2.2.2.2.1,(x1.2.2.2.2.2.2.1.length:Int),0,x1.2.2.2.1,x1.2.2.2.2.1,x1.2.2.2.2.2.1,x1.2.2.2.2.2.2.1,x1.2.2.2.2.2.2.2.1,x1.2.2.2.2.2.2.2.2.1,x1.2.2.2.2.2.2.2.2.2.1,()) (mq)) fun v3=>
  chk (decide (0≤(w64 (v3.1+((v3.2.2.2.2.2.2.2.2.1.length:Int)))))&&decide ((w64 (v3.1+((v3.2.2.2.2.2.2.2.2.1.length:Int))))<(v3.2.2.2.2.2.2.2.2.2.2.2.1.length:Int))) <|
  Option.bind (v3.2.2.2.2.2.2.2.2.2.2.2.1[(w64 (v3.1+((v3.2.2.2.2.2.2.2.2.1.length:Int)))).toNat]?) fun _=>
  again (v3.2.2.1,v3.2.2.2.1,w64 (v3.2.2.2.2.1+1),v3.2.2.2.2.2.1,v3.2.2.2.2.2.2.1,v3.2.2.2.2.2.2.2.1,v3.2.2.2.2.2.2.2.2.1,v3.2.2.2.2.2.2.2.2.2.1,v3.2.2.2.2.2.2.2.2.2.2.1,List.set v3.2.2.2.2.2.2.2.2.2.2.2.1 (w64 (v3.1+((v3.2.2.2.2.2.2.2.2.1.length:Int)))).toNat (qS v3.2.1),())
 else
  some (Sum.inr (x1.2.2.2.1,x1.2.2.2.2.1,x1.2.2.2.2.2.1,x1.2.2.2.2.2.2.1,x1.2.2.2.2.2.2.2.1,x1.2.2.2.2.2.2.2.2.1,x1.2.2.2.2.2.2.2.2.2.1,()))
def mm (a0:bY) (a1:bY):Option (bY×Unit):=
 chk (decide (0≤(w64 (((a0.2.length:Int))+((a1.2.length:Int)))))&&decide ((w64 (((a0.2.length:Int))+((a1.2.length:Int))))≤(w64 (((a0.2.length:Int))+((a1.2.length:Int)))))&&decide ((4:Int)*(w64 (((a0.2.length:Int))+((a1.2.length:Int))))≤281474976710656)&&decide ((w64 (((a0.2.length:Int))+((a1.2.length:Int))))≤9223372036854775807)) <|
 aR (β:=(bY×Unit)) (γ:=(Bool×(List Int)×Bool×(List Int)×Bool×(List Int)×(List Int)×Unit)) (
  iter (X:=je) (β:=qN) (a0.2.length+(Int.natAbs ((a0.2.length:Int))+(Int.natAbs (0:Int)+(a0.2.length+(a1.2.length+(List.length ([]:List Int)+(List.length ((List.replicate (Int.toNat (w64 (((a0.2.length:Int))+((a1.2.length:Int))))) 0):List Int)+2))))))) (a0.2,(a0.2.length:Int),0,a0.1,a0.2,a1.1,a1.2,false,[],List.replicate (Int.toNat (w64 (((a0.2.length:Int))+((a1.2.length:Int))))) 0,()) (mo)) fun v10=>
 Option.bind (kj (!(v10.1==v10.2.2.1)) v10.2.2.2.2.2.2.1) fun r11=>
 some (r11.1,())
abbrev nE:Type:=Int×Int×Bool×(List Int)×Bool×(List Int)×Unit
abbrev wK:Type:=((bY×Unit) ⊕ (Bool×(List Int)×Bool×(List Int)×Unit))
def rE (x1:nE) (again:nE→Option wK):Option wK:=
 bif decide (x1.2.1<x1.1) then
  Option.bind (wJ 10) fun r2=>
  Option.bind (mm (x1.2.2.2.2.1,x1.2.2.2.2.2.1) r2.1) fun r3=>
  again (x1.1,w64 (x1.2.1+1),x1.2.2.1,x1.2.2.2.1,r3.1.1,r3.1.2,())
 else
  some (Sum.inr (x1.2.2.1,x1.2.2.2.1,x1.2.2.2.2.1,x1.2.2.2.2.2.1,()))
def xk (a0:Int):Option (bY×Unit):=
 Option.bind (wJ 1) fun r1=>
 aR (β:=(bY×Unit)) (γ:=(Bool×(List Int)×Bool×(List Int)×Unit)) (
  iter (X:=nE) (β:=wK) (Int.natAbs a0+(Int.natAbs (0:Int)+(List.length ([]:List Int)+(r1.1.2.length+2)))) (a0,0,false,[],r1.1.1,r1.1.2,()) (rE)) fun v5=>
 some ((v5.2.2.1,v5.2.2.2.1),())
abbrev wM:Type:=(List Int)×(List Int)×Int×(List Int)×Int×Int×Unit
abbrev wL:Type:=(((List Int)×Unit) ⊕ ((List Int)×Int×Unit))
def Nc (x1:wM) (again:wM→Option wL):Option wL:=
 bif decide (x1.2.2.2.2.2.1<x1.2.2.2.2.1) then
  Option.bind (idx x1.2.2.2.1 x1.2.2.2.2.2.1) fun y2=>
  aR (β:=(((List Int)×Unit) ⊕ ((List Int)×Int×Unit))) (γ:=((List Int)×(List Int)×Int×(List Int)×Int×Int×Unit)) (
   bif decide (x1.2.2.2.2.2.1<((x1.1.length:Int))) then
    Option.bind (idx x1.1 x1.2.2.2.2.2.1) fun y3=>
    let n4:Int:=bH ((bH (x1.2.2.1+(bH y2)))+(bH y3))
    some (Sum.inr (x1.1,x1.2.1,n4,x1.2.2.2.1,x1.2.2.2.2.1,x1.2.2.2.2.2.1,()))
   else
    some (Sum.inr (x1.1,x1.2.1,bH (x1.2.2.1+(bH y2)),x1.2.2.2.1,x1.2.2.2.2.1,x1.2.2.2.2.2.1,()))) fun v5=>
  chk (decide (((v5.2.1.length)+1)*4≤140737488355328)&&decide ((v5.2.1.length)+1≤maxLen)) <|
  again (v5.1,v5.2.1++[(qS v5.2.2.1)],Int.fdiv v5.2.2.1 (2 ^ 32),v5.2.2.2.1,v5.2.2.2.2.1,w64 (v5.2.2.2.2.2.1+1),())
 else
  some (Sum.inr (x1.2.1,x1.2.2.1,()))
def Cn (a0:List Int) (a1:List Int):Option ((List Int)×Unit):=
 aR (β:=((List Int)×Unit)) (γ:=((List Int)×(List Int)×Unit)) (
  bif decide (((List.length a0:Int))<((List.length a1:Int))) then
   some (Sum.inr (a1,a0,()))
  else
   some (Sum.inr (a0,a1,()))) fun v1=>
 chk (decide (0≤(0:Int))&&decide ((0:Int)≤(w64 (((v1.1.length:Int))+1)))&&decide ((4:Int)*(w64 (((v1.1.length:Int))+1))≤281474976710656)&&decide ((w64 (((v1.1.length:Int))+1))≤9223372036854775807)) <|
 aR (β:=((List Int)×Unit)) (γ:=((List Int)×Int×Unit)) (
  iter (X:=wM) (β:=wL) (v1.2.1.length+(List.length ([]:List Int)+(Int.natAbs (0:Int)+(v1.1.length+(Int.natAbs ((v1.1.length:Int))+(Int.natAbs (0:Int)+2)))))) (v1.2.1,[],0,v1.1,(v1.1.length:Int),0,()) (Nc)) fun v7=>
 chk (decide (((v7.1.length)+1)*4≤140737488355328)&&decide ((v7.1.length)+1≤maxLen)) <|
 some (v7.1++[(qS v7.2.1)],())
def nD (a0:bY) (a1:bY):Option (bY×Unit):=
 bif a0.1==a1.1 then
  Option.bind (Cn a0.2 a1.2) fun r1=>
  Option.bind (kj a0.1 r1.1) fun r2=>
  some (r2.1,())
 else
  Option.bind (tc a0.2 a1.2) fun r3=>
  bif decide (r3.1≥0) then
   Option.bind (vn a0.2 a1.2) fun r4=>
   Option.bind (kj a0.1 r4.1) fun r5=>
   some (r5.1,())
  else
   Option.bind (vn a1.2 a0.2) fun r6=>
   Option.bind (kj a1.1 r6.1) fun r7=>
   some (r7.1,())
def jt (a0:ai) (a1:Int):Option (bY×Unit):=
 Option.bind (wJ a0.1) fun r1=>
 Option.bind (xk (w64 (a1 - a0.2))) fun r2=>
 Option.bind (mm r1.1 r2.1) fun r3=>
 some (r3.1,())
abbrev rX:Type:=Int×Int×Bool×(List Int)×Unit
abbrev Ca:Type:=((Int×Bool×Unit) ⊕ (Int×Bool×(List Int)×Unit))
def w8 (x1:rX) (again:rX→Option Ca):Option Ca:=
 bif decide (x1.2.1≥0) then
  Option.bind (idx x1.2.2.2.1 x1.2.1) fun y2=>
  again (w64 ((w64 (x1.1*1000000))+y2),w64 (x1.2.1 - 1),x1.2.2.1,x1.2.2.2.1,())
 else
  some (Sum.inr (x1.1,x1.2.2.1,x1.2.2.2.1,()))
def Ef (a0:au) (a1:Int):Option (Int×Bool×Unit):=
 Option.bind (Ed a1) fun r1=>
 Option.bind (wh a0.2 r1.1.2) fun r2=>
 bif decide (r2.1>0) then
  some (0,false,())
 else
  aR (β:=(Int×Bool×Unit)) (γ:=(Int×Bool×(List Int)×Unit)) (
   iter (X:=rX) (β:=Ca) (Int.natAbs (0:Int)+(Int.natAbs (w64 (((a0.2.length:Int)) - 1))+(a0.2.length+2))) (0,w64 (((a0.2.length:Int)) - 1),a0.1,a0.2,()) (w8)) fun v5=>
  bif v5.2.1 then
   some (w64 (0 - v5.1),true,())
  else
   some (v5.1,true,())
end Go.Md
namespace Go.Md
open Go.Dn
def Wp (n:Nat):List UInt8:=if n<10 then [UInt8.ofNat (48+n)] else [UInt8.ofNat (48+n / 10),UInt8.ofNat (48+n % 10)]
def strconv_Itoa (n:Int):Option (List UInt8×Unit):=bif decide (0≤n)&&decide (n<100) then some (Wp n.toNat,()) else bif decide (-9223372036854775808≤n)&&decide (n≤9223372036854775807) then some (Lib.itoa n,()) else none
def strings_Repeat (s:List UInt8) (n:Int):Option (List UInt8×Unit):=bif decide (0≤n)&&(decide (n≤9223372036854775807)&&decide (s.length*n.toNat≤140737488355328)) then some (Lib.repeatL s n.toNat,()) else none
def yL (_a:List UInt8):Option (Int×Unit):=none
def yf (_a:List UInt8):Option (Bool×Unit):=none
def Ez (_a:List UInt8):Option (Bool×Unit):=none
def Fo (_a:List UInt8):Option (Bool×Unit):=none
def EA (_a _b:Int):Option (List UInt8×Unit):=none
def Av (_a:List UInt8) (_b:Bool):Option (Bool×Unit):=none
def GN (_a:List UInt8) (_b:Int):Option (Int×Unit):=none
def IA (_a:List UInt8):Option (Int×Unit):=none
def NS (_a:List UInt8):Option (List UInt8×Unit):=none
abbrev aL:Ty:=(.st (.pair .str (.pair .str (.pair .str bK))))
abbrev ah:Type:=(List UInt8)×(List UInt8)×(List UInt8)×ai
abbrev aj:Ty:=(.st (.pair .str (.pair .str (.pair bK (.slice aL)))))
abbrev aa:Type:=(List UInt8)×(List UInt8)×ai×(List ah)
abbrev aX:Ty:=(.st (.pair .str (.pair .str (.pair tI (.slice aj)))))
abbrev an:Type:=(List UInt8)×(List UInt8)×Int×(List aa)
abbrev Dj:Type:=Int×ai×Int
abbrev rQ:Type:=Int×(List UInt8)×(List UInt8)×ai×ai×Int×ai×ai×ai×ai
abbrev Di:Type:=(List UInt8)×(List UInt8)×ai
def sj (a0:Int):Option (Bool×Unit):=
 Option.bind (kr a0 1 5) fun r1=>
 some (!r1.1,())
def vF (a0:Int):Option ((List Int)×Unit):=
 bif a0==1 then
  some ([8,12,13,14],())
 else
  bif a0==2 then
   some ([13],())
  else
   some ([18],())
abbrev iC:Type:=(List Int)×Int×Int×Int×Unit
abbrev pK:Type:=((Int×Unit) ⊕ Unit)
def kZ (x1:iC) (again:iC→Option pK):Option pK:=
 bif decide (x1.2.2.2.1<x1.2.2.1) then
  Option.bind (idx x1.1 x1.2.2.2.1) fun y2=>
  bif x1.2.1==y2 then
   some (Sum.inl (x1.2.2.2.1,()))
  else
   again (x1.1,x1.2.1,x1.2.2.1,w64 (x1.2.2.2.1+1),())
 else
  some (Sum.inr ())
def tK (a0:List Int) (a1:Int):Option (Int×Unit):=
 aR (β:=(Int×Unit)) (γ:=Unit) (
  iter (X:=iC) (β:=pK) (List.length a0+(Int.natAbs a1+(Int.natAbs ((List.length a0:Int))+(Int.natAbs (0:Int)+2)))) (a0,a1,(List.length a0:Int),0,()) (kZ)) fun _=>
 some ((-1),())
def fq (a0:List Int) (a1:Int):Option (Bool×Unit):=
 Option.bind (tK a0 a1) fun r1=>
 some (decide (r1.1≥0),())
abbrev nh:Type:=(List UInt8)×Int×Int×Int×Int×Unit
abbrev vR:Type:=((Bool×Unit) ⊕ Unit)
def qY (x1:nh) (again:nh→Option vR):Option vR:=
 bif decide (x1.2.2.2.2.1<x1.2.2.2.1) then
  Option.bind (nA x1.1 x1.2.2.2.2.1) fun c2=>
  bif decide ((c2.toNat:Int)<x1.2.1) then
   some (Sum.inl (false,()))
  else
   Option.bind (nA x1.1 x1.2.2.2.2.1) fun c3=>
   bif decide ((c3.toNat:Int)>x1.2.2.1) then
    some (Sum.inl (false,()))
   else
    again (x1.1,x1.2.1,x1.2.2.1,x1.2.2.2.1,w64 (x1.2.2.2.2.1+1),())
 else
  some (Sum.inr ())
def B0 (a0:List UInt8) (a1:Int) (a2:Int):Option (Bool×Unit):=
 aR (β:=(Bool×Unit)) (γ:=Unit) (
  iter (X:=nh) (β:=vR) (List.length a0+(Int.natAbs a1+(Int.natAbs a2+(Int.natAbs ((List.length a0:Int))+(Int.natAbs (0:Int)+2))))) (a0,a1,a2,(List.length a0:Int),0,()) (qY)) fun _=>
 some (true,())
def qu (a0:List UInt8):Option (Bool×Unit):=
 bif !(a0==[]) then
  Option.bind (B0 a0 48 57) fun r1=>
  some (r1.1,())
 else
  some (false,())
abbrev uy:Type:=(List UInt8)×Int×Int×Int×Unit
abbrev ux:Type:=((Bool×Unit) ⊕ (Int×Unit))
def JJ (x1:uy) (again:uy→Option ux):Option ux:=
 bif decide (x1.2.2.2.1<x1.2.2.1) then
  let n2:Int:=w64 ((w64 (((x1.1.length:Int)) - 1)) - x1.2.2.2.1)
  Option.bind (nA x1.1 n2) fun c3=>
  bif (Int.tmod x1.2.2.2.1 2)==1 then
   let n4:Int:=w64 ((w64 (wu8 ((c3.toNat:Int) - 48)))*3)
   again (x1.1,w64 (x1.2.1+n4),x1.2.2.1,w64 (x1.2.2.2.1+1),())
  else
   let n5:Int:=w64 (x1.2.1+(w64 (wu8 ((c3.toNat:Int) - 48))))
   again (x1.1,n5,x1.2.2.1,w64 (x1.2.2.2.1+1),())
 else
  some (Sum.inr (x1.2.1,()))
def zL (a0:List UInt8):Option (Bool×Unit):=
 aR (β:=(Bool×Unit)) (γ:=(Int×Unit)) (
  iter (X:=uy) (β:=ux) (List.length a0+(Int.natAbs (0:Int)+(Int.natAbs ((List.length a0:Int))+(Int.natAbs (0:Int)+2)))) (a0,0,(List.length a0:Int),0,()) (JJ)) fun v6=>
 some ((Int.tmod v6.1 10)==0,())
def pR (a0:Int) (a1:List UInt8):Option (Bool×Unit):=
 bif a0==4 then
  Option.bind (yf a1) fun r1=>
  some (r1.1,())
 else
  bif a0==5 then
   Option.bind (Fo a1) fun r2=>
   some (r2.1,())
  else
   Option.bind (vF a0) fun r3=>
   Option.bind (fq r3.1 ((List.length a1:Int))) fun r4=>
   bif r4.1 then
    Option.bind (qu a1) fun r5=>
    bif r5.1 then
     Option.bind (zL a1) fun r6=>
     some (r6.1,())
    else
     some (false,())
   else
    some (false,())
def uw (a0:Int) (a1:List UInt8):Option (Bool×Int×Unit):=
 Option.bind (sj a0) fun r1=>
 bif !r1.1 then
  some (false,4,())
 else
  Option.bind (pR a0 a1) fun r2=>
  some (r2.1,0,())
def ri (a0:List UInt8):Option (Bool×Unit):=
 Option.bind (uw 3 a0) fun r1=>
 some (r1.1,())
def cL (a0:ai) (a1:Bool):Option (Int×Unit):=
 Option.bind (iA a0) fun r1=>
 bif r1.1 != 0 then
  some (r1.1,())
 else
  Option.bind (uN a0 3 1000000000) fun r2=>
  bif !r2.1 then
   some (1,())
  else
   bif a0.1==0 then
    bif !a1 then
     some (1,())
    else
     some (0,())
   else
    some (0,())
abbrev sA:Type:=Int×(List Int)×Int×Int×Unit
abbrev yg:Type:=((Int×Unit) ⊕ (Int×Unit))
def sw (x1:sA) (again:sA→Option yg):Option yg:=
 bif decide (x1.2.2.2.1<x1.2.2.1) then
  Option.bind (idx x1.2.1 x1.2.2.2.1) fun y2=>
  bif y2 != x1.1 then
   some (Sum.inl (y2,()))
  else
   again (x1.1,x1.2.1,x1.2.2.1,w64 (x1.2.2.2.1+1),())
 else
  some (Sum.inr (x1.1,()))
def yS (a0:List Int):Option (Int×Unit):=
 aR (β:=(Int×Unit)) (γ:=(Int×Unit)) (
  iter (X:=sA) (β:=yg) (Int.natAbs (0:Int)+(List.length a0+(Int.natAbs ((List.length a0:Int))+(Int.natAbs (0:Int)+2)))) (0,a0,(List.length a0:Int),0,()) (sw)) fun v3=>
 some (v3.1,())
def dn (a0:ah) (a1:ah):Option (Int×Unit):=
 Option.bind (strings_Compare a0.1 a1.1) fun r1=>
 Option.bind (strings_Compare a0.2.1 a1.2.1) fun r2=>
 Option.bind (strings_Compare a0.2.2.1 a1.2.2.1) fun r3=>
 Option.bind (yS [r1.1,r2.1,r3.1]) fun r4=>
 some (r4.1,())
abbrev ir:Type:=(List ah)×(List ah)×Int×Int×Unit
abbrev lz:Type:=((Int×Unit) ⊕ Unit)
def iq (x1:ir) (again:ir→Option lz):Option lz:=
 bif decide (x1.2.2.2.1<x1.2.2.1) then
  Option.bind (idx x1.2.1 x1.2.2.2.1) fun y2=>
  Option.bind (gH y2.1) fun r3=>
  bif !r3.1 then
   some (Sum.inl (5,()))
  else
   Option.bind (gH y2.2.1) fun r4=>
   bif !r4.1 then
    some (Sum.inl (5,()))
   else
    bif !(y2.2.2.1==[]) then
     Option.bind (gH y2.2.2.1) fun r5=>
     bif !r5.1 then
      some (Sum.inl (5,()))
     else
      bif decide (x1.2.2.2.1>0) then
       Option.bind (idx x1.1 (w64 (x1.2.2.2.1 - 1))) fun y6=>
       Option.bind (dn y6 y2) fun r7=>
       bif decide (r7.1≥0) then
        some (Sum.inl (8,()))
       else
        Option.bind (cL y2.2.2.2 false) fun r8=>
        bif r8.1 != 0 then
         some (Sum.inl (r8.1,()))
        else
         again (x1.1,x1.2.1,x1.2.2.1,w64 (x1.2.2.2.1+1),())
      else
       Option.bind (cL y2.2.2.2 false) fun r9=>
       bif r9.1 != 0 then
        some (Sum.inl (r9.1,()))
       else
        again (x1.1,x1.2.1,x1.2.2.1,w64 (x1.2.2.2.1+1),())
    else
     bif decide (x1.2.2.2.1>0) then
      Option.bind (idx x1.1 (w64 (x1.2.2.2.1 - 1))) fun y10=>
      Option.bind (dn y10 y2) fun r11=>
      bif decide (r11.1≥0) then
       some (Sum.inl (8,()))
      else
       Option.bind (cL y2.2.2.2 false) fun r12=>
       bif r12.1 != 0 then
        some (Sum.inl (r12.1,()))
       else
        again (x1.1,x1.2.1,x1.2.2.1,w64 (x1.2.2.2.1+1),())
     else
      Option.bind (cL y2.2.2.2 false) fun r13=>
      bif r13.1 != 0 then
       some (Sum.inl (r13.1,()))
      else
       again (x1.1,x1.2.1,x1.2.2.1,w64 (x1.2.2.2.1+1),())
 else
  some (Sum.inr ())
def gP (a0:List ah):Option (Int×Unit):=
 bif decide (((List.length a0:Int))>100) then
  some (2,())
 else
  aR (β:=(Int×Unit)) (γ:=Unit) (
   iter (X:=ir) (β:=lz) (List.length a0+(List.length a0+(Int.natAbs ((List.length a0:Int))+(Int.natAbs (0:Int)+2)))) (a0,a0,(List.length a0:Int),0,()) (iq)) fun _=>
  some (0,())
def lX (a0:List aa) (a1:Int):Option (Int×Unit):=
 Option.bind (idx a0 a1) fun y1=>
 Option.bind (ri y1.1) fun r2=>
 bif !r2.1 then
  some (3,())
 else
  bif decide (a1>0) then
   Option.bind (idx a0 (w64 (a1 - 1))) fun y3=>
   bif Op.bytesLess y1.1 y3.1||y1.1==y3.1 then
    some (8,())
   else
    Option.bind (cL y1.2.2.1 true) fun r4=>
    bif r4.1 != 0 then
     some (r4.1,())
    else
     Option.bind (gP y1.2.2.2) fun r5=>
     some (r5.1,())
  else
   Option.bind (cL y1.2.2.1 true) fun r6=>
   bif r6.1 != 0 then
    some (r6.1,())
   else
    Option.bind (gP y1.2.2.2) fun r7=>
    some (r7.1,())
def rJ (a0:aa) (a1:List UInt8):Option (Int×Unit):=
 Option.bind (strings_Compare a0.1 a1) fun r1=>
 some (r1.1,())
abbrev bJ:Type:=(List aa)×(List UInt8)×Unit×Int×Int×Int×Unit
abbrev dx:Type:=((Int×Bool×Unit) ⊕ ((List aa)×(List UInt8)×Unit×Int×Int×Unit))
def dw (x1:bJ) (again:bJ→Option dx):Option dx:=
 bif decide (x1.2.2.2.2.1<x1.2.2.2.2.2.1) then
  let n2:Int:=w64 (Int.fdiv (bH (w64 (x1.2.2.2.2.1+x1.2.2.2.2.2.1))) (2 ^ 1))
  Option.bind (idx x1.1 n2) fun y3=>
  Option.bind (rJ y3 x1.2.1) fun r4=>
  bif decide (r4.1<0) then
   again (x1.1,x1.2.1,x1.2.2.1,x1.2.2.2.1,w64 (n2+1),x1.2.2.2.2.2.1,())
  else
   again (x1.1,x1.2.1,x1.2.2.1,x1.2.2.2.1,x1.2.2.2.2.1,n2,())
 else
  some (Sum.inr (x1.1,x1.2.1,x1.2.2.1,x1.2.2.2.1,x1.2.2.2.2.1,()))
def cq (a0:List aa) (a1:List UInt8) (a2:Unit):Option (Int×Bool×Unit):=
 aR (β:=(Int×Bool×Unit)) (γ:=((List aa)×(List UInt8)×Unit×Int×Int×Unit)) (
  iter (X:=bJ) (β:=dx) (List.length a0+(List.length a1+(Int.natAbs ((List.length a0:Int))+(Int.natAbs (0:Int)+(Int.natAbs ((List.length a0:Int))+2))))) (a0,a1,a2,(List.length a0:Int),0,(List.length a0:Int),()) (dw)) fun v5=>
 bif decide (v5.2.2.2.2.1<v5.2.2.2.1) then
  Option.bind (idx v5.1 v5.2.2.2.2.1) fun y6=>
  Option.bind (rJ y6 v5.2.1) fun r7=>
  some (v5.2.2.2.2.1,r7.1==0,())
 else
  some (v5.2.2.2.2.1,false,())
def b6 (a0:an) (a1:List UInt8):Option (Int×Bool×Unit):=
 Option.bind (cq a0.2.2.2 a1 ()) fun r1=>
 some (r1.1,r1.2.1,())
abbrev iF:Type:=Int×(List Int)×Int×(List UInt8)×(List UInt8)×Int×(List aa)×Unit
abbrev fW:Type:=(((List Int)×Bool×Unit) ⊕ ((List Int)×Unit))
def oc (x1:iF) (again:iF→Option fW):Option fW:=
 Option.bind (idx x1.2.2.2.2.2.2.1 x1.2.2.1) fun y2=>
 bif !(y2.2.1==[]) then
  Option.bind (idx x1.2.2.2.2.2.2.1 x1.2.2.1) fun y3=>
  Option.bind (b6 (x1.2.2.2.1,x1.2.2.2.2.1,x1.2.2.2.2.2.1,x1.2.2.2.2.2.2.1) y3.2.1) fun r4=>
  bif r4.1==x1.1 then
   some (Sum.inl ([],false,()))
  else
   Option.bind (fq x1.2.1 r4.1) fun r5=>
   bif r5.1 then
    some (Sum.inl (x1.2.1,true,()))
   else
    chk (decide (((x1.2.1.length)+1)*8≤140737488355328)&&decide ((x1.2.1.length)+1≤maxLen)) <|
    again (x1.1,x1.2.1++[r4.1],r4.1,x1.2.2.2.1,x1.2.2.2.2.1,x1.2.2.2.2.2.1,x1.2.2.2.2.2.2.1,())
 else
  some (Sum.inr (x1.2.1,()))
def jB (a0:an) (a1:Int):Option ((List Int)×Bool×Unit):=
 aR (β:=((List Int)×Bool×Unit)) (γ:=((List Int)×Unit)) (
  iter (X:=iF) (β:=fW) (Int.natAbs a1+(List.length ([]:List Int)+(Int.natAbs a1+(a0.1.length+(a0.2.1.length+(a0.2.2.1.natAbs+(a0.2.2.2.length+2))))))) (a1,[],a1,a0.1,a0.2.1,a0.2.2.1,a0.2.2.2,()) (oc)) fun v6=>
 some (v6.1,true,())
abbrev kT:Type:=(List aa)×Int×Int×(List UInt8)×(List UInt8)×Int×(List aa)×Unit
abbrev pG:Type:=((Int×Unit) ⊕ ((List UInt8)×(List UInt8)×Int×(List aa)×Unit))
def kR (x1:kT) (again:kT→Option pG):Option pG:=
 bif decide (x1.2.2.1<x1.2.1) then
  Option.bind (idx x1.1 x1.2.2.1) fun y2=>
  Option.bind (b6 (x1.2.2.2.1,x1.2.2.2.2.1,x1.2.2.2.2.2.1,x1.2.2.2.2.2.2.1) y2.2.1) fun r3=>
  bif !(y2.2.1==[]) then
   bif !r3.2.1 then
    some (Sum.inl (9,()))
   else
    again (x1.1,x1.2.1,w64 (x1.2.2.1+1),x1.2.2.2.1,x1.2.2.2.2.1,x1.2.2.2.2.2.1,x1.2.2.2.2.2.2.1,())
  else
   again (x1.1,x1.2.1,w64 (x1.2.2.1+1),x1.2.2.2.1,x1.2.2.2.2.1,x1.2.2.2.2.2.1,x1.2.2.2.2.2.2.1,())
 else
  some (Sum.inr (x1.2.2.2.1,x1.2.2.2.2.1,x1.2.2.2.2.2.1,x1.2.2.2.2.2.2.1,()))
abbrev kU:Type:=Int×Int×(List UInt8)×(List UInt8)×Int×(List aa)×Unit
abbrev pH:Type:=((Int×Unit) ⊕ ((List UInt8)×(List UInt8)×Int×(List aa)×Unit))
def kS (x1:kU) (again:kU→Option pH):Option pH:=
 bif decide (x1.2.1<x1.1) then
  Option.bind (jB (x1.2.2.1,x1.2.2.2.1,x1.2.2.2.2.1,x1.2.2.2.2.2.1) x1.2.1) fun r2=>
  bif !r2.2.1 then
   some (Sum.inl (17,()))
  else
   again (x1.1,w64 (x1.2.1+1),x1.2.2.1,x1.2.2.2.1,x1.2.2.2.2.1,x1.2.2.2.2.2.1,())
 else
  some (Sum.inr (x1.2.2.1,x1.2.2.2.1,x1.2.2.2.2.1,x1.2.2.2.2.2.1,()))
abbrev jW:Type:=Int×Int×(List UInt8)×(List UInt8)×Int×(List aa)×Unit
abbrev og:Type:=((Int×Unit) ⊕ Unit)
def jV (x1:jW) (again:jW→Option og):Option og:=
 bif decide (x1.2.1<x1.1) then
  Option.bind (jB (x1.2.2.1,x1.2.2.2.1,x1.2.2.2.2.1,x1.2.2.2.2.2.1) x1.2.1) fun r2=>
  bif decide (((r2.1.length:Int))>5) then
   some (Sum.inl (2,()))
  else
   again (x1.1,w64 (x1.2.1+1),x1.2.2.1,x1.2.2.2.1,x1.2.2.2.2.1,x1.2.2.2.2.2.1,())
 else
  some (Sum.inr ())
def oe (a0:an):Option (Int×Unit):=
 aR (β:=(Int×Unit)) (γ:=((List UInt8)×(List UInt8)×Int×(List aa)×Unit)) (
  iter (X:=kT) (β:=pG) (a0.2.2.2.length+(Int.natAbs ((a0.2.2.2.length:Int))+(Int.natAbs (0:Int)+(a0.1.length+(a0.2.1.length+(a0.2.2.1.natAbs+(a0.2.2.2.length+2))))))) (a0.2.2.2,(a0.2.2.2.length:Int),0,a0.1,a0.2.1,a0.2.2.1,a0.2.2.2,()) (kR)) fun v4=>
 aR (β:=(Int×Unit)) (γ:=((List UInt8)×(List UInt8)×Int×(List aa)×Unit)) (
  iter (X:=kU) (β:=pH) (Int.natAbs ((v4.2.2.2.1.length:Int))+(Int.natAbs (0:Int)+(v4.1.length+(v4.2.1.length+(v4.2.2.1.natAbs+(v4.2.2.2.1.length+2)))))) ((v4.2.2.2.1.length:Int),0,v4.1,v4.2.1,v4.2.2.1,v4.2.2.2.1,()) (kS)) fun v7=>
 aR (β:=(Int×Unit)) (γ:=Unit) (
  iter (X:=jW) (β:=og) (Int.natAbs ((v7.2.2.2.1.length:Int))+(Int.natAbs (0:Int)+(v7.1.length+(v7.2.1.length+(v7.2.2.1.natAbs+(v7.2.2.2.1.length+2)))))) ((v7.2.2.2.1.length:Int),0,v7.1,v7.2.1,v7.2.2.1,v7.2.2.2.1,()) (jV)) fun _=>
 some (0,())
abbrev jm:Type:=Int×Int×(List UInt8)×(List UInt8)×Int×(List aa)×Unit
abbrev nu:Type:=((Int×Unit) ⊕ ((List UInt8)×(List UInt8)×Int×(List aa)×Unit))
def jl (x1:jm) (again:jm→Option nu):Option nu:=
 bif decide (x1.2.1<x1.1) then
  Option.bind (lX x1.2.2.2.2.2.1 x1.2.1) fun r2=>
  bif r2.1 != 0 then
   some (Sum.inl (r2.1,()))
  else
   again (x1.1,w64 (x1.2.1+1),x1.2.2.1,x1.2.2.2.1,x1.2.2.2.2.1,x1.2.2.2.2.2.1,())
 else
  some (Sum.inr (x1.2.2.1,x1.2.2.2.1,x1.2.2.2.2.1,x1.2.2.2.2.2.1,()))
def cZ (a0:an):Option (Int×Unit):=
 Option.bind (gH a0.1) fun r1=>
 bif !r1.1 then
  some (5,())
 else
  Option.bind (gH a0.2.1) fun r2=>
  bif !r2.1 then
   some (5,())
  else
   Option.bind (Bq a0.2.2.1) fun r3=>
   bif !r3.1 then
    some (1,())
   else
    bif decide (((a0.2.2.2.length:Int))>500) then
     some (2,())
    else
     aR (β:=(Int×Unit)) (γ:=((List UInt8)×(List UInt8)×Int×(List aa)×Unit)) (
      iter (X:=jm) (β:=nu) (Int.natAbs ((a0.2.2.2.length:Int))+(Int.natAbs (0:Int)+(a0.1.length+(a0.2.1.length+(a0.2.2.1.natAbs+(a0.2.2.2.length+2)))))) ((a0.2.2.2.length:Int),0,a0.1,a0.2.1,a0.2.2.1,a0.2.2.2,()) (jl)) fun v6=>
     Option.bind (oe (v6.1,v6.2.1,v6.2.2.1,v6.2.2.2.1)) fun r7=>
     some (r7.1,())
def jM (a0:an) (a1:List UInt8) (a2:Bool):Option (Int×Unit):=
 Option.bind (cZ a0) fun r1=>
 bif r1.1 != 0 then
  some (r1.1,())
 else
  Option.bind (b6 a0 a1) fun r2=>
  bif !r2.2.1 then
   bif a2 then
    bif !(a1==[]) then
     some (9,())
    else
     some (0,())
   else
    some (9,())
  else
   some (0,())
def rI (a0:Int) (a1:an) (a2:List UInt8):Option (Bool×Unit):=
 Option.bind (idx a1.2.2.2 a0) fun y1=>
 some (y1.1==a2,())
abbrev eZ:Type:=(List Int)×(an×(List UInt8))×Int×Int×Unit
abbrev lD:Type:=((Int×Unit) ⊕ Unit)
def iu (x1:eZ) (again:eZ→Option lD):Option lD:=
 bif decide (x1.2.2.2.1<x1.2.2.1) then
  Option.bind (idx x1.1 x1.2.2.2.1) fun y2=>
  Option.bind (rI y2 x1.2.1.1 x1.2.1.2) fun r3=>
  bif r3.1 then
   some (Sum.inl (x1.2.2.2.1,()))
  else
   again (x1.1,x1.2.1,x1.2.2.1,w64 (x1.2.2.2.1+1),())
 else
  some (Sum.inr ())
def oo (a0:List Int) (a1:an×(List UInt8)):Option (Int×Unit):=
 aR (β:=(Int×Unit)) (γ:=Unit) (
  iter (X:=eZ) (β:=lD) (List.length a0+(Int.natAbs ((List.length a0:Int))+(Int.natAbs (0:Int)+2))) (a0,a1,(List.length a0:Int),0,()) (iu)) fun _=>
 some ((-1),())
def lC (a0:List Int) (a1:an×(List UInt8)):Option (Bool×Unit):=
 Option.bind (oo a0 a1) fun r1=>
 some (decide (r1.1≥0),())
def pY (a0:an) (a1:Int) (a2:List UInt8):Option (Bool×Unit):=
 Option.bind (jB a0 a1) fun r1=>
 Option.bind (lC r1.1 (a0,a2)) fun r2=>
 some (r2.1,())
def GL (a0:Int):Option (Bool×Unit):=
 Option.bind (nM a0 1 5) fun r1=>
 some (r1.1,())
abbrev ny:Type:=(List UInt8)×Int×Int×Unit
abbrev wg:Type:=((Bool×Unit) ⊕ Unit)
def rC (x1:ny) (again:ny→Option wg):Option wg:=
 bif decide (x1.2.2.1<x1.2.1) then
  Option.bind (nA x1.1 x1.2.2.1) fun c2=>
  bif decide ((c2.toNat:Int)<48) then
   some (Sum.inl (false,()))
  else
   Option.bind (nA x1.1 x1.2.2.1) fun c3=>
   bif decide ((c3.toNat:Int)>57) then
    some (Sum.inl (false,()))
   else
    again (x1.1,x1.2.1,w64 (x1.2.2.1+1),())
 else
  some (Sum.inr ())
def ku (a0:List UInt8):Option (Bool×Unit):=
 bif a0==[] then
  some (false,())
 else
  aR (β:=(Bool×Unit)) (γ:=Unit) (
   iter (X:=ny) (β:=wg) (List.length a0+(Int.natAbs ((List.length a0:Int))+(Int.natAbs (0:Int)+2))) (a0,(List.length a0:Int),0,()) (rC)) fun _=>
  some (true,())
abbrev qC:Type:=(List UInt8)×Int×Int×Int×Unit
abbrev Ay:Type:=((Bool×Unit) ⊕ (Int×Unit))
def ve (x1:qC) (again:qC→Option Ay):Option Ay:=
 bif decide (x1.2.2.2.1<x1.2.2.1) then
  let n2:Int:=w64 ((w64 (((x1.1.length:Int)) - 1)) - x1.2.2.2.1)
  Option.bind (nA x1.1 n2) fun c3=>
  bif (Int.tmod x1.2.2.2.1 2)==1 then
   let n4:Int:=w64 ((w64 (wu8 ((c3.toNat:Int) - 48)))*3)
   again (x1.1,w64 (x1.2.1+n4),x1.2.2.1,w64 (x1.2.2.2.1+1),())
  else
   let n5:Int:=w64 (x1.2.1+(w64 (wu8 ((c3.toNat:Int) - 48))))
   again (x1.1,n5,x1.2.2.1,w64 (x1.2.2.2.1+1),())
 else
  some (Sum.inr (x1.2.1,()))
def nL (a0:List UInt8):Option (Bool×Unit):=
 aR (β:=(Bool×Unit)) (γ:=(Int×Unit)) (
  iter (X:=qC) (β:=Ay) (List.length a0+(Int.natAbs (0:Int)+(Int.natAbs ((List.length a0:Int))+(Int.natAbs (0:Int)+2)))) (a0,0,(List.length a0:Int),0,()) (ve)) fun v6=>
 some ((Int.tmod v6.1 10)==0,())
def Cc (a0:Int) (a1:List UInt8):Option (Bool×Unit):=
 bif a0==1 then
  Option.bind (ku a1) fun r1=>
  bif r1.1 then
   bif ((List.length a1:Int))==8 then
    Option.bind (nL a1) fun r2=>
    some (r2.1,())
   else
    bif decide (((List.length a1:Int))≥12) then
     bif decide (((List.length a1:Int))≤14) then
      Option.bind (nL a1) fun r3=>
      some (r3.1,())
     else
      some (false,())
    else
     some (false,())
  else
   some (false,())
 else
  bif a0==2 then
   Option.bind (ku a1) fun r4=>
   bif r4.1 then
    bif ((List.length a1:Int))==13 then
     Option.bind (nL a1) fun r5=>
     some (r5.1,())
    else
     some (false,())
   else
    some (false,())
  else
   bif a0==3 then
    Option.bind (ku a1) fun r6=>
    bif r6.1 then
     bif ((List.length a1:Int))==18 then
      Option.bind (nL a1) fun r7=>
      some (r7.1,())
     else
      some (false,())
    else
     some (false,())
   else
    bif a0==4 then
     Option.bind (nM ((List.length a1:Int)) 15 34) fun r8=>
     bif !r8.1 then
      some (false,())
     else
      chk (decide (0≤(0:Int))&&decide ((0:Int)≤2)&&decide (2≤(List.length a1:Int))) <|
      Option.bind (Av (List.drop 0 (List.take (Int.toNat 2) a1)) false) fun r9=>
      bif !r9.1 then
       some (false,())
      else
       chk (decide (0≤(2:Int))&&decide ((2:Int)≤4)&&decide (4≤(List.length a1:Int))) <|
       Option.bind (ku (List.drop 2 (List.take (Int.toNat 4) a1))) fun r10=>
       bif !r10.1 then
        some (false,())
       else
        chk (decide (0≤(4:Int))&&decide ((4:Int)≤((List.length a1:Int)))&&decide (((List.length a1:Int))≤(List.length a1:Int))) <|
        Option.bind (Av (List.drop 4 (List.take (Int.toNat ((List.length a1:Int))) a1)) true) fun r11=>
        bif !r11.1 then
         some (false,())
        else
         chk (decide (0≤(2:Int))&&decide ((2:Int)≤4)&&decide (4≤(List.length a1:Int))) <|
         bif !(Op.bytesLess (List.drop 2 (List.take (Int.toNat 4) a1)) [48,50]) then
          chk (decide (0≤(2:Int))&&decide ((2:Int)≤4)&&decide (4≤(List.length a1:Int))) <|
          bif Op.bytesLess (List.drop 2 (List.take (Int.toNat 4) a1)) [57,56]||(List.drop 2 (List.take (Int.toNat 4) a1))==[57,56] then
           chk (decide (0≤(4:Int))&&decide ((4:Int)≤((List.length a1:Int)))&&decide (((List.length a1:Int))≤(List.length a1:Int))) <|
           chk (decide (0≤(0:Int))&&decide ((0:Int)≤4)&&decide (4≤(List.length a1:Int))) <|
           chk (decide (List.length (List.drop 4 (List.take (Int.toNat ((List.length a1:Int))) a1))+List.length (List.drop 0 (List.take (Int.toNat 4) a1))≤maxLen)) <|
           Option.bind (NS ((List.drop 4 (List.take (Int.toNat ((List.length a1:Int))) a1))++(List.drop 0 (List.take (Int.toNat 4) a1)))) fun r12=>
           Option.bind (GN r12.1 97) fun r13=>
           some (r13.1==1,())
          else
           some (false,())
         else
          some (false,())
    else
     Option.bind (ku a1) fun r14=>
     bif r14.1 then
      bif ((List.length a1:Int))==11 then
       Option.bind (nA a1 0) fun c15=>
       bif (c15.toNat:Int) != 48 then
        Option.bind (nA a1 10) fun c16=>
        Option.bind (IA a1) fun r17=>
        some ((c16.toNat:Int)==r17.1,())
       else
        some (false,())
      else
       some (false,())
     else
      some (false,())
def B9 (a0:Int) (a1:List UInt8):Option (Bool×Int×Unit):=
 Option.bind (GL a0) fun r1=>
 bif !r1.1 then
  some (false,4,())
 else
  Option.bind (Cc a0 a1) fun r2=>
  some (r2.1,0,())
def wU (a0:List UInt8):Option (Bool×Unit):=
 Option.bind (B9 3 a0) fun r1=>
 some (r1.1,())
def Hz (a0:ai) (a1:ai):Option (Int×Unit):=
 Option.bind (wV a0 9) fun r1=>
 Option.bind (wV a1 9) fun r2=>
 Option.bind (GI r1.1 r2.1) fun r3=>
 some (r3.1,())
def jZ (a0:ai) (a1:Bool):Option (Bool×Unit):=
 Option.bind (jq a0) fun r1=>
 bif r1.1==0 then
  bif decide (a0.1≥0) then
   bif decide (a0.1>0) then
    Option.bind (Hz a0 (1000000000,0)) fun r2=>
    bif decide (r2.1≤0) then
     some (decide (a0.2≤3),())
    else
     some (false,())
   else
    bif !a1 then
     Option.bind (Hz a0 (1000000000,0)) fun r3=>
     bif decide (r3.1≤0) then
      some (decide (a0.2≤3),())
     else
      some (false,())
    else
     some (false,())
  else
   some (false,())
 else
  some (false,())
abbrev kX:Type:=(List Int)×Int×Int×Unit
abbrev pI:Type:=((Int×Unit) ⊕ Unit)
def kV (x1:kX) (again:kX→Option pI):Option pI:=
 bif decide (x1.2.2.1<x1.2.1) then
  Option.bind (idx x1.1 x1.2.2.1) fun y2=>
  bif y2 != 0 then
   some (Sum.inl (y2,()))
  else
   again (x1.1,x1.2.1,w64 (x1.2.2.1+1),())
 else
  some (Sum.inr ())
def fZ (a0:ah) (a1:ah):Option (Int×Unit):=
 Option.bind (strings_Compare a0.1 a1.1) fun r1=>
 Option.bind (strings_Compare a0.2.1 a1.2.1) fun r2=>
 Option.bind (strings_Compare a0.2.2.1 a1.2.2.1) fun r3=>
 aR (β:=(Int×Unit)) (γ:=Unit) (
  iter (X:=kX) (β:=pI) (List.length [r1.1,r2.1,r3.1]+(Int.natAbs ((List.length [r1.1,r2.1,r3.1]:Int))+(Int.natAbs (0:Int)+2))) ([r1.1,r2.1,r3.1],(List.length [r1.1,r2.1,r3.1]:Int),0,()) (kV)) fun _=>
 some (0,())
abbrev jY:Type:=(List ah)×(List ah)×Int×Int×Unit
abbrev om:Type:=((Int×Unit) ⊕ Unit)
def jX (x1:jY) (again:jY→Option om):Option om:=
 bif decide (x1.2.2.2.1<x1.2.2.1) then
  Option.bind (idx x1.2.1 x1.2.2.2.1) fun y2=>
  Option.bind (nK y2.1) fun r3=>
  bif !r3.1 then
   some (Sum.inl (5,()))
  else
   Option.bind (nK y2.2.1) fun r4=>
   bif !r4.1 then
    some (Sum.inl (5,()))
   else
    bif !(y2.2.2.1==[]) then
     Option.bind (nK y2.2.2.1) fun r5=>
     bif !r5.1 then
      some (Sum.inl (5,()))
     else
      bif decide (x1.2.2.2.1>0) then
       Option.bind (idx x1.1 (w64 (x1.2.2.2.1 - 1))) fun y6=>
       Option.bind (fZ y6 y2) fun r7=>
       bif decide (r7.1≥0) then
        some (Sum.inl (8,()))
       else
        Option.bind (jZ y2.2.2.2 true) fun r8=>
        bif !r8.1 then
         some (Sum.inl (1,()))
        else
         again (x1.1,x1.2.1,x1.2.2.1,w64 (x1.2.2.2.1+1),())
      else
       Option.bind (jZ y2.2.2.2 true) fun r9=>
       bif !r9.1 then
        some (Sum.inl (1,()))
       else
        again (x1.1,x1.2.1,x1.2.2.1,w64 (x1.2.2.2.1+1),())
    else
     bif decide (x1.2.2.2.1>0) then
      Option.bind (idx x1.1 (w64 (x1.2.2.2.1 - 1))) fun y10=>
      Option.bind (fZ y10 y2) fun r11=>
      bif decide (r11.1≥0) then
       some (Sum.inl (8,()))
      else
       Option.bind (jZ y2.2.2.2 true) fun r12=>
       bif !r12.1 then
        some (Sum.inl (1,()))
       else
        again (x1.1,x1.2.1,x1.2.2.1,w64 (x1.2.2.2.1+1),())
     else
      Option.bind (jZ y2.2.2.2 true) fun r13=>
      bif !r13.1 then
       some (Sum.inl (1,()))
      else
       again (x1.1,x1.2.1,x1.2.2.1,w64 (x1.2.2.2.1+1),())
 else
  some (Sum.inr ())
def jN (a0:List ah):Option (Int×Unit):=
 bif decide (((List.length a0:Int))>100) then
  some (2,())
 else
  aR (β:=(Int×Unit)) (γ:=Unit) (
   iter (X:=jY) (β:=om) (List.length a0+(List.length a0+(Int.natAbs ((List.length a0:Int))+(Int.natAbs (0:Int)+2)))) (a0,a0,(List.length a0:Int),0,()) (jX)) fun _=>
  some (0,())
abbrev l9:Type:=(List UInt8)×(List aa)×Int×Int×Unit
abbrev uY:Type:=((Int×Unit) ⊕ Unit)
def p8 (x1:l9) (again:l9→Option uY):Option uY:=
 bif decide (x1.2.2.2.1<x1.2.2.1) then
  Option.bind (idx x1.2.1 x1.2.2.2.1) fun y2=>
  bif y2.1==x1.1 then
   some (Sum.inl (x1.2.2.2.1,()))
  else
   again (x1.1,x1.2.1,x1.2.2.1,w64 (x1.2.2.2.1+1),())
 else
  some (Sum.inr ())
def eG (a0:List aa) (a1:List UInt8):Option (Int×Unit):=
 aR (β:=(Int×Unit)) (γ:=Unit) (
  iter (X:=l9) (β:=uY) (List.length a1+(List.length a0+(Int.natAbs ((List.length a0:Int))+(Int.natAbs (0:Int)+2)))) (a1,a0,(List.length a0:Int),0,()) (p8)) fun _=>
 some ((-1),())
abbrev nx:Type:=(List aa)×Int×Int×Int×Int×Unit
abbrev An:Type:=((Bool×Unit) ⊕ Unit)
def qB (x1:nx) (again:nx→Option An):Option An:=
 bif decide (x1.2.2.2.2.1<x1.2.2.2.1) then
  Option.bind (idx x1.1 x1.2.2.1) fun y2=>
  bif y2.2.1==[] then
   some (Sum.inl (false,()))
  else
   Option.bind (idx x1.1 x1.2.2.1) fun y3=>
   Option.bind (eG x1.1 y3.2.1) fun r4=>
   bif r4.1==x1.2.1 then
    some (Sum.inl (true,()))
   else
    again (x1.1,x1.2.1,r4.1,x1.2.2.2.1,w64 (x1.2.2.2.2.1+1),())
 else
  some (Sum.inr ())
def Bx (a0:List aa) (a1:Int):Option (Bool×Unit):=
 aR (β:=(Bool×Unit)) (γ:=Unit) (
  iter (X:=nx) (β:=An) (List.length a0+(Int.natAbs a1+(Int.natAbs a1+(Int.natAbs ((List.length a0:Int))+(Int.natAbs (0:Int)+2))))) (a0,a1,a1,(List.length a0:Int),0,()) (qB)) fun _=>
 some (false,())
abbrev x9:Type:=(List aa)×Int×(List Int)×Unit
abbrev GG:Type:=(((List Int)×Bool×Unit) ⊕ ((List Int)×Unit))
def GF (x1:x9) (again:x9→Option GG):Option GG:=
 Option.bind (idx x1.1 x1.2.1) fun y2=>
 bif !(y2.2.1==[]) then
  Option.bind (idx x1.1 x1.2.1) fun y3=>
  Option.bind (eG x1.1 y3.2.1) fun r4=>
  bif decide (((x1.2.2.1.length:Int))>((x1.1.length:Int))) then
   some (Sum.inl ([],false,()))
  else
   chk (decide (((x1.2.2.1.length)+1)*8≤140737488355328)&&decide ((x1.2.2.1.length)+1≤maxLen)) <|
   again (x1.1,r4.1,x1.2.2.1++[r4.1],())
 else
  some (Sum.inr (x1.2.2.1,()))
def GD (a0:List aa) (a1:Int):Option ((List Int)×Bool×Unit):=
 aR (β:=((List Int)×Bool×Unit)) (γ:=((List Int)×Unit)) (
  iter (X:=x9) (β:=GG) (List.length a0+(Int.natAbs a1+(List.length ([a1]:List Int)+2))) (a0,a1,[a1],()) (GF)) fun v5=>
 some (v5.1,true,())
abbrev uW:Type:=(List aa)×(List aa)×Int×Int×Unit
abbrev Ao:Type:=((Int×Unit) ⊕ ((List aa)×Unit))
def uU (x1:uW) (again:uW→Option Ao):Option Ao:=
 bif decide (x1.2.2.2.1<x1.2.2.1) then
  Option.bind (idx x1.2.1 x1.2.2.2.1) fun y2=>
  bif !(y2.2.1==[]) then
   Option.bind (eG x1.1 y2.2.1) fun r3=>
   bif decide (r3.1<0) then
    some (Sum.inl (9,()))
   else
    again (x1.1,x1.2.1,x1.2.2.1,w64 (x1.2.2.2.1+1),())
  else
   again (x1.1,x1.2.1,x1.2.2.1,w64 (x1.2.2.2.1+1),())
 else
  some (Sum.inr (x1.1,()))
abbrev uX:Type:=(List aa)×Int×Int×Unit
abbrev Ap:Type:=((Int×Unit) ⊕ ((List aa)×Unit))
def uV (x1:uX) (again:uX→Option Ap):Option Ap:=
 bif decide (x1.2.2.1<x1.2.1) then
  Option.bind (Bx x1.1 x1.2.2.1) fun r2=>
  bif r2.1 then
   some (Sum.inl (17,()))
  else
   again (x1.1,x1.2.1,w64 (x1.2.2.1+1),())
 else
  some (Sum.inr (x1.1,()))
abbrev sK:Type:=(List aa)×Int×Int×Unit
abbrev yx:Type:=((Int×Unit) ⊕ Unit)
def sJ (x1:sK) (again:sK→Option yx):Option yx:=
 bif decide (x1.2.2.1<x1.2.1) then
  Option.bind (GD x1.1 x1.2.2.1) fun r2=>
  bif !r2.2.1 then
   some (Sum.inl (2,()))
  else
   bif decide ((w64 (((r2.1.length:Int)) - 1))>5) then
    some (Sum.inl (2,()))
   else
    again (x1.1,x1.2.1,w64 (x1.2.2.1+1),())
 else
  some (Sum.inr ())
def By (a0:List aa):Option (Int×Unit):=
 aR (β:=(Int×Unit)) (γ:=((List aa)×Unit)) (
  iter (X:=uW) (β:=Ao) (List.length a0+(List.length a0+(Int.natAbs ((List.length a0:Int))+(Int.natAbs (0:Int)+2)))) (a0,a0,(List.length a0:Int),0,()) (uU)) fun v4=>
 aR (β:=(Int×Unit)) (γ:=((List aa)×Unit)) (
  iter (X:=uX) (β:=Ap) (v4.1.length+(Int.natAbs ((v4.1.length:Int))+(Int.natAbs (0:Int)+2))) (v4.1,(v4.1.length:Int),0,()) (uV)) fun v7=>
 aR (β:=(Int×Unit)) (γ:=Unit) (
  iter (X:=sK) (β:=yx) (v7.1.length+(Int.natAbs ((v7.1.length:Int))+(Int.natAbs (0:Int)+2))) (v7.1,(v7.1.length:Int),0,()) (sJ)) fun _=>
 some (0,())
abbrev l6:Type:=(List aa)×Int×Int×(List UInt8)×(List UInt8)×Int×(List aa)×Unit
abbrev qA:Type:=((Int×Unit) ⊕ ((List UInt8)×(List UInt8)×Int×(List aa)×Unit))
def lZ (x1:l6) (again:l6→Option qA):Option qA:=
 bif decide (x1.2.2.1<x1.2.1) then
  Option.bind (idx x1.1 x1.2.2.1) fun y2=>
  Option.bind (wU y2.1) fun r3=>
  bif !r3.1 then
   some (Sum.inl (3,()))
  else
   bif decide (x1.2.2.1>0) then
    Option.bind (idx x1.2.2.2.2.2.2.1 (w64 (x1.2.2.1 - 1))) fun y4=>
    bif Op.bytesLess y2.1 y4.1||y2.1==y4.1 then
     some (Sum.inl (8,()))
    else
     Option.bind (jZ y2.2.2.1 false) fun r5=>
     bif !r5.1 then
      some (Sum.inl (1,()))
     else
      Option.bind (jN y2.2.2.2) fun r6=>
      bif r6.1 != 0 then
       some (Sum.inl (r6.1,()))
      else
       again (x1.1,x1.2.1,w64 (x1.2.2.1+1),x1.2.2.2.1,x1.2.2.2.2.1,x1.2.2.2.2.2.1,x1.2.2.2.2.2.2.1,())
   else
    Option.bind (jZ y2.2.2.1 false) fun r7=>
    bif !r7.1 then
     some (Sum.inl (1,()))
    else
     Option.bind (jN y2.2.2.2) fun r8=>
     bif r8.1 != 0 then
      some (Sum.inl (r8.1,()))
     else
      again (x1.1,x1.2.1,w64 (x1.2.2.1+1),x1.2.2.2.1,x1.2.2.2.2.1,x1.2.2.2.2.2.1,x1.2.2.2.2.2.2.1,())
 else
  some (Sum.inr (x1.2.2.2.1,x1.2.2.2.2.1,x1.2.2.2.2.2.1,x1.2.2.2.2.2.2.1,()))
def de (a0:an):Option (Int×Unit):=
 Option.bind (nK a0.1) fun r1=>
 bif !r1.1 then
  some (5,())
 else
  Option.bind (nK a0.2.1) fun r2=>
  bif !r2.1 then
   some (5,())
  else
   Option.bind (Eb a0.2.2.1) fun r3=>
   bif !r3.1 then
    some (1,())
   else
    bif decide (((a0.2.2.2.length:Int))>500) then
     some (2,())
    else
     aR (β:=(Int×Unit)) (γ:=((List UInt8)×(List UInt8)×Int×(List aa)×Unit)) (
      iter (X:=l6) (β:=qA) (a0.2.2.2.length+(Int.natAbs ((a0.2.2.2.length:Int))+(Int.natAbs (0:Int)+(a0.1.length+(a0.2.1.length+(a0.2.2.1.natAbs+(a0.2.2.2.length+2))))))) (a0.2.2.2,(a0.2.2.2.length:Int),0,a0.1,a0.2.1,a0.2.2.1,a0.2.2.2,()) (lZ)) fun v12=>
     Option.bind (By v12.2.2.2.1) fun r13=>
     some (r13.1,())
abbrev oP:Type:=(List aa)×(List UInt8)×(List Int)×Int×Int×Unit
abbrev yu:Type:=(((List Int)×Unit) ⊕ ((List Int)×Unit))
def sH (x1:oP) (again:oP→Option yu):Option yu:=
 bif decide (x1.2.2.2.2.1<x1.2.2.2.1) then
  Option.bind (GD x1.1 x1.2.2.2.2.1) fun r2=>
  bif x1.2.1==[] then
   chk (decide (((x1.2.2.1.length)+1)*8≤140737488355328)&&decide ((x1.2.2.1.length)+1≤maxLen)) <|
   again (x1.1,x1.2.1,x1.2.2.1++[x1.2.2.2.2.1],x1.2.2.2.1,w64 (x1.2.2.2.2.1+1),())
  else
   Option.bind (eG x1.1 x1.2.1) fun r3=>
   Option.bind (fq r2.1 r3.1) fun r4=>
   bif r4.1 then
    chk (decide (((x1.2.2.1.length)+1)*8≤140737488355328)&&decide ((x1.2.2.1.length)+1≤maxLen)) <|
    again (x1.1,x1.2.1,x1.2.2.1++[x1.2.2.2.2.1],x1.2.2.2.1,w64 (x1.2.2.2.2.1+1),())
   else
    again (x1.1,x1.2.1,x1.2.2.1,x1.2.2.2.1,w64 (x1.2.2.2.2.1+1),())
 else
  some (Sum.inr (x1.2.2.1,()))
def zg (a0:List aa) (a1:List UInt8):Option ((List Int)×Unit):=
 aR (β:=((List Int)×Unit)) (γ:=((List Int)×Unit)) (
  iter (X:=oP) (β:=yu) (List.length a0+(List.length a1+(List.length ([]:List Int)+(Int.natAbs ((List.length a0:Int))+(Int.natAbs (0:Int)+2))))) (a0,a1,[],(List.length a0:Int),0,()) (sH)) fun v5=>
 some (v5.1,())
abbrev oQ:Type:=(List aa)×(List (List UInt8))×(List Int)×Int×Int×Unit
abbrev yw:Type:=(((List (List UInt8))×Unit) ⊕ ((List (List UInt8))×Unit))
def sI (x1:oQ) (again:oQ→Option yw):Option yw:=
 bif decide (x1.2.2.2.2.1<x1.2.2.2.1) then
  Option.bind (idx x1.2.2.1 x1.2.2.2.2.1) fun y2=>
  Option.bind (idx x1.1 y2) fun y3=>
  chk (decide (((x1.2.1.length)+1)*16≤140737488355328)&&decide ((x1.2.1.length)+1≤maxLen)) <|
  again (x1.1,x1.2.1++[y3.1],x1.2.2.1,x1.2.2.2.1,w64 (x1.2.2.2.2.1+1),())
 else
  some (Sum.inr (x1.2.1,()))
def zh (a0:List aa) (a1:List Int):Option ((List (List UInt8))×Unit):=
 aR (β:=((List (List UInt8))×Unit)) (γ:=((List (List UInt8))×Unit)) (
  iter (X:=oQ) (β:=yw) (List.length a0+(List.length ([]:List (List UInt8))+(List.length a1+(Int.natAbs ((List.length a1:Int))+(Int.natAbs (0:Int)+2))))) (a0,[],a1,(List.length a1:Int),0,()) (sI)) fun v4=>
 some (v4.1,())
abbrev vZ:Type:=Int×Int×Int×Unit
abbrev vY:Type:=((Int×Bool×Unit) ⊕ (Int×Unit))
def MQ (x1:vZ) (again:vZ→Option vY):Option vY:=
 bif decide (x1.2.2.1<x1.2.1) then
  again (w64 (x1.1*10),x1.2.1,w64 (x1.2.2.1+1),())
 else
  some (Sum.inr (x1.1,()))
def Ix (a0:List UInt8):Option (Int×Bool×Unit):=
 bif decide (((List.length a0:Int))>15) then
  some (0,false,())
 else
  Option.bind (qu a0) fun r1=>
  bif !r1.1 then
   some (0,false,())
  else
   aR (β:=(Int×Bool×Unit)) (γ:=(Int×Unit)) (
    iter (X:=vZ) (β:=vY) (Int.natAbs (1:Int)+(Int.natAbs (w64 (17 - ((List.length a0:Int))))+(Int.natAbs (0:Int)+2))) (1,w64 (17 - ((List.length a0:Int))),0,()) (MQ)) fun v3=>
   some (v3.1,true,())
abbrev nU:Type:=Int×(List UInt8)×Int×Unit
abbrev nT:Type:=(((List UInt8)×Int×Unit) ⊕ Unit)
def Dl (x1:nU) (again:nU→Option nT):Option nT:=
 bif decide (x1.2.2.1<10) then
  Option.bind (strconv_Itoa x1.2.2.1) fun r2=>
  chk (decide (x1.2.1.length+r2.1.length≤maxLen)) <|
  Option.bind (pR x1.1 (x1.2.1++r2.1)) fun r3=>
  bif r3.1 then
   some (Sum.inl (x1.2.1++r2.1,0,()))
  else
   again (x1.1,x1.2.1,w64 (x1.2.2.1+1),())
 else
  some (Sum.inr ())
def zJ (a0:Int) (a1:List UInt8):Option ((List UInt8)×Int×Unit):=
 Option.bind (sj a0) fun r1=>
 bif !r1.1 then
  some ([],4,())
 else
  bif decide (((List.length a1:Int))>34) then
   some ([],3,())
  else
   bif a0==4 then
    bif decide (((List.length a1:Int))<2) then
     some ([],3,())
    else
     Option.bind (Ez a1) fun r2=>
     bif !r2.1 then
      some ([],3,())
     else
      bif decide (((List.length a1:Int))<13) then
       some ([],3,())
      else
       chk (decide (0≤(0:Int))&&decide ((0:Int)≤2)&&decide (2≤(List.length a1:Int))) <|
       chk (decide (List.length (List.drop 0 (List.take (Int.toNat 2) a1))+List.length [48,48]≤maxLen)) <|
       chk (decide (0≤(2:Int))&&decide ((2:Int)≤((List.length a1:Int)))&&decide (((List.length a1:Int))≤(List.length a1:Int))) <|
       chk (decide (List.length ((List.drop 0 (List.take (Int.toNat 2) a1))++[48,48])+List.length (List.drop 2 (List.take (Int.toNat ((List.length a1:Int))) a1))≤maxLen)) <|
       Option.bind (yL (((List.drop 0 (List.take (Int.toNat 2) a1))++[48,48])++(List.drop 2 (List.take (Int.toNat ((List.length a1:Int))) a1)))) fun r3=>
       chk (decide (0≤(0:Int))&&decide ((0:Int)≤2)&&decide (2≤(List.length a1:Int))) <|
       Option.bind (EA (w64 (98 - r3.1)) 2) fun r4=>
       chk (decide (List.length (List.drop 0 (List.take (Int.toNat 2) a1))+r4.1.length≤maxLen)) <|
       chk (decide (0≤(2:Int))&&decide ((2:Int)≤((List.length a1:Int)))&&decide (((List.length a1:Int))≤(List.length a1:Int))) <|
       chk (decide (List.length ((List.drop 0 (List.take (Int.toNat 2) a1))++r4.1)+List.length (List.drop 2 (List.take (Int.toNat ((List.length a1:Int))) a1))≤maxLen)) <|
       Option.bind (yf (((List.drop 0 (List.take (Int.toNat 2) a1))++r4.1)++(List.drop 2 (List.take (Int.toNat ((List.length a1:Int))) a1)))) fun r5=>
       bif !r5.1 then
        some ([],3,())
       else
        some (((List.drop 0 (List.take (Int.toNat 2) a1))++r4.1)++(List.drop 2 (List.take (Int.toNat ((List.length a1:Int))) a1)),0,())
   else
    aR (β:=((List UInt8)×Int×Unit)) (γ:=Unit) (
     iter (X:=nU) (β:=nT) (Int.natAbs a0+(List.length a1+(Int.natAbs (0:Int)+2))) (a0,a1,0,()) (Dl)) fun _=>
    some ([],3,())
def C2 (a0:List UInt8) (a1:Int):Option ((List UInt8)×Int×Unit):=
 Option.bind (Ix a0) fun r1=>
 bif !r1.2.1 then
  some ([],3,())
 else
  Option.bind (kr a1 0 (w64 (r1.1 - 1))) fun r2=>
  bif r2.1 then
   some ([],1,())
  else
   Option.bind (strconv_Itoa a1) fun r3=>
   let n4:Int:=w64 ((w64 (17 - ((List.length a0:Int)))) - ((r3.1.length:Int)))
   Option.bind (strings_Repeat [48] n4) fun r5=>
   chk (decide (List.length a0+r5.1.length≤maxLen)) <|
   chk (decide (List.length (a0++r5.1)+r3.1.length≤maxLen)) <|
   Option.bind (zJ 3 ((a0++r5.1)++r3.1)) fun r6=>
   some (r6.1,r6.2.1,())
def Gg:Option (Bool×Unit):=
 Option.bind (C2 [51,52,48,49,50,51,52,53] 1) fun r1=>
 bif r1.2.1==0 then
  some (r1.1==[51,52,48,49,50,51,52,53,48,48,48,48,48,48,48,48,49,55],())
 else
  some (false,())
end Go.Md
namespace Go.Md
open Go.Dn
end Go.Md
namespace Go.Md
open Go.Dn
end Go.Md
